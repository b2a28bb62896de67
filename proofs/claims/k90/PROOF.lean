import PyProof.Rows.All
import Wide.All
import OpenK.AllK
import Wide.FinOn
import HandS.ForMost
import KE.KStateDown
import KE.KNestM
import KE.KExcInit
import KE.KTryMore
import KE.KIsAll
import HandS.Head0
import HandS.Head1
import HandS.Head2
import HandS.HeadHook1
import HandS.HeadHook2
import HandS.HeadHook3
import HandS.HeadHook4
import HandS.HeadNt
import Wide.Once
import PyProof.EqAt
import PyProof.EqKinds
import PyProof.TupleCall
import KE.GoesNew
import HandS.Walk
import KE.KCallOwn
import HandS.SetFor
import HandS.Property
import HandS.IsInst
import KE.KLam
import PyProof.ReprRoads
import HandS.Lambda
import HandS.EndTab
import HandS.ForExc
import HandS.HotCalls
import HandS.ExcIs
import HandS.ExcField
import HandS.Codes
import HandS.Star
import HandS.More
import HandS.TupAny
import HandS.Style
import HandS.Wide
import HandS.WideBits
import HandS.RaiseMore
import PyProof.Rows.BitMore
import HandS.Defaults
import PyProof.Rows.TmSorted
import PyProof.Rows.StrMeet
import PySem.Challenge.RW_menuhouses_k90_whole_promises_of_many_th
section
set_option Elab.async false
set_option linter.all false
set_option maxRecDepth 100000
set_option maxHeartbeats 4000000
/-! MhB0: the text by places. -/
namespace Mh
open PySem PySem.Spec PyProof.Rows L2
def top (i : Nat) : Stmt := PySem.Challenge.pw_menuhouses_k90_whole_promises_of_many_th.main.body.getD i (.Pass ⟨0, 0, 0, 0⟩)
abbrev fnd (i : Nat) : Stmt := top i
abbrev met (i j : Nat) : Stmt := L2.inClass (top i) j
end Mh
end
section
set_option Elab.async false
set_option linter.all false
set_option maxRecDepth 100000
set_option maxHeartbeats 4000000
/-! MhHk: what the head's hook looks at. -/
namespace MhHd
open PySem PySem.Spec PyProof.Rows L2 Mh
open He (Fa Dv Defn Tab ga ma ba frT asD tabsB dicW keysIn eqO)
open He5 (DefA SaysA obsA valA)
/-! ### which objects are looked at: the module's names, the classes with what stands in them, each function with its code and its defaults -/
def dfRs (g : Addr → Option Obj) (v : Value) : List Addr := match v with
  | .ref T => T :: (match g T with
    | some ⟨_, _, .seq its _, _⟩ => its.toList.flatMap He.refV
    | _ => [])
  | _ => []
def fnRs (g : Addr → Option Obj) (a : Addr) : List Addr := match g a with
  | some ⟨_, _, .func fd, _⟩ => a :: (He.refV fd.code ++ dfRs g fd.defaults)
  | _ => []
def meRs (g : Addr → Option Obj) (a : Addr) : List Addr := match g a with
  | some ⟨_, _, .func fd, _⟩ => a :: (He.refV fd.code ++ dfRs g fd.defaults)
  | some ⟨_, _, .fields vs, _⟩ => a :: (match vs.toList with
    | .ref f :: _ => fnRs g f
    | _ => [])
  | _ => []
def nsRs (g : Addr → Option Obj) (a : Addr) : List Addr := match g a with
  | some ⟨_, _, .dict es _, _⟩ => es.toList.flatMap fun e => He.refV e.val
  | _ => []
def clRs (g : Addr → Option Obj) (a : Addr) : List Addr := match g a with
  | some ⟨_, _, .cls cd, _⟩ => [a, cd.ns]
  | _ => []
def cmRs (g : Addr → Option Obj) (a : Addr) : List Addr := match g a with
  | some ⟨_, _, .cls cd, _⟩ => (nsRs g cd.ns).flatMap (meRs g)
  | _ => []
def otRs (g : Addr → Option Obj) (a : Addr) : List Addr := match g a with
  | some ⟨_, _, .cls _, _⟩ => []
  | some ⟨_, _, .func _, _⟩ => []
  | some _ => [a]
  | none => []
def asM1 (g : Addr → Option Obj) (as : List Addr) : List Addr := as.flatMap (clRs g) ++ as.flatMap (otRs g) ++ as.flatMap (cmRs g) ++ as.flatMap (fnRs g)
def asM (g : Addr → Option Obj) : List Addr := mainGlobals :: PySem.cStatics :: asM1 g (nsRs g mainGlobals)
/-! ### the hook: defs at any address, tables with text keys, a Bool, empty tables left out -/
abbrev AlZ : Type := He.AlD × (List (Option (List (Option (Str × Int)))) × Bool)
def obsK (fa : List Fa) (fn : List DefA) (ts : List Tab) (tf : List Defn) (ex : PySem.W.Frag → Bool) (g : Addr → Option Obj) (K : PySem.W.Frag) : AlZ := (obsA fa fn K, ts.map (fun t => dicW K (t.1 K)), ex K && tabsB g tf K)
def obsZ (fa : List Fa) (fn : List DefA) (ts : List Tab) (tf : List Defn) (ex : PySem.W.Frag → Bool) (g : Addr → Option Obj) : AlZ := obsK fa fn ts tf ex g (frT g (asM g))
def valZ (fn : List DefA) (ts : List Tab) (w : World) : AlZ := (valA fn, ts.map (fun t => some (keysIn w.params t.2)), true)
structure SaysZ (fa : List Fa) (fn : List DefA) (ts : List Tab) (tf : List Defn) (ex : PySem.W.Frag → Bool) (w : World) (h : Heap) (K : PySem.W.Frag) : Prop where
  a : SaysA fa fn K
  t : ts.map (fun t => dicW K (t.1 K)) = ts.map (fun t => some (keysIn w.params t.2))
  more : ex K = true
  hd : ∀ p ∈ tf, PySem.W.codeHdIn K (He.cT K p).1 (He.cT K p).2 = true
  out : ∀ p ∈ tf, K.lookup (He.cT K p).2 = none
  empty : ∀ p ∈ tf, h.get? (He.cT K p).2 = some { cls := .none, data := .fields #[] }
theorem saysZ_of {fa : List Fa} {fn : List DefA} {ts : List Tab} {tf : List Defn} {ex : PySem.W.Frag → Bool} {w : World} {h : Heap} (e : obsZ fa fn ts tf ex h.get? = valZ fn ts w) : SaysZ fa fn ts tf ex w h (frT h.get? (asM h.get?)) := by
  have e1 : obsA fa fn (frT h.get? (asM h.get?)) = valA fn := congrArg (fun z : AlZ => z.1) e
  have e0 : ts.map (fun t => dicW (frT h.get? (asM h.get?)) (t.1 (frT h.get? (asM h.get?)))) = ts.map (fun t => some (keysIn w.params t.2)) := congrArg (fun z : AlZ => z.2.1) e
  have e2 : (ex (frT h.get? (asM h.get?)) && tabsB h.get? tf (frT h.get? (asM h.get?))) = true := congrArg (fun z : AlZ => z.2.2) e
  obtain ⟨h1, h2⟩ := ba e2
  have key : ∀ p ∈ tf, PySem.W.codeHdIn (frT h.get? (asM h.get?)) (He.cT (frT h.get? (asM h.get?)) p).1 (He.cT (frT h.get? (asM h.get?)) p).2 = true ∧ ∃ o, h.get? (He.cT (frT h.get? (asM h.get?)) p).2 = some o ∧ He.emptyTab o = true := fun p hp => by
    obtain ⟨h3, h4⟩ := ba (List.all_eq_true.mp h2 p hp)
    refine ⟨h3, ?_⟩
    cases q : h.get? (He.cT (frT h.get? (asM h.get?)) p).2 with
    | none =>
      rw [q] at h4
      cases h4
    | some o =>
      rw [q] at h4
      exact ⟨o, rfl, h4⟩
  exact ⟨e1, e0, h1, fun p hp => (key p hp).1, fun p hp => by
    obtain ⟨_, o, q, z⟩ := key p hp
    exact He.frT_none q z, fun p hp => by
    obtain ⟨_, o, q, z⟩ := key p hp
    rw [q, He.emptyTab_eq z]⟩
def hookZ (fa : List Fa) (fn : List DefA) (ts : List Tab) (tf : List Defn) (ex : PySem.W.Frag → Bool) : PySem.W.Hook where
  α := AlZ
  obs := fun s => obsZ fa fn ts tf ex s.heap.get?
  val := fun w => valZ fn ts w
  says := fun w h => ∃ K : PySem.W.Frag, K.In h ∧ SaysZ fa fn ts tf ex w h K
  of := fun _ _ e => ⟨_, He.frT_in, saysZ_of e⟩
  keeps := fun _ _ _ ⟨K, hK, c⟩ k => ⟨K, PySem.W.Frag.In.keeps hK k, ⟨c.a, c.t, c.more, c.hd, c.out, fun p hp => k _ _ (c.empty p hp)⟩⟩
theorem obsZ_eq {fa : List Fa} {fn : List DefA} {ts : List Tab} {tf : List Defn} {ex : PySem.W.Frag → Bool} {g : Addr → Option Obj} {s : Shared} (h : ∀ a, g a = s.heap.get? a) : obsZ fa fn ts tf ex g = (hookZ fa fn ts tf ex).obs s := by
  have e : g = s.heap.get? := funext h
  rw [e] <;> rfl
theorem SaysZ.tab {fa : List Fa} {fn : List DefA} {ts : List Tab} {tf : List Defn} {ex : PySem.W.Frag → Bool} {w : World} {h : Heap} {K : PySem.W.Frag} (c : SaysZ fa fn ts tf ex w h K) (i : Nat) {t : Tab} (ht : ts[i]? = some t := by rfl) : ∃ es n, KDict K w (t.1 K) es n := by
  have e2 : (ts.map fun t => dicW K (t.1 K))[i]? = (ts.map fun t => some (keysIn w.params t.2))[i]? := by rw [c.t]
  rw [List.getElem?_map, List.getElem?_map, ht] at e2
  exact He.dicW_ok (Option.some.inj e2)
/-! ### the defs -/
/-- a def of the module: its name, its statement, where it stands -/
def gD (p : Str × (Nat × Addr)) : DefA := ⟨fun _ => p.2.2, p.1, p.1, defArgs (fnd p.2.1), defBody (fnd p.2.1), defScope (fnd p.2.1), [], []⟩
/-- a method: class, name, the class's statement, its place, where it stands -/
structure MeD where
  cl : Str
  nm : Str
  ql : Str
  i : Nat
  j : Nat
  a : Addr
def mD (d : MeD) : DefA := ⟨fun _ => d.a, d.nm, d.ql, defArgs (met d.i d.j), defBody (met d.i d.j), defScope (met d.i d.j), [], []⟩
def pD (d : MeD) : DefA := ⟨fun _ => d.a, d.nm, d.ql, defArgs (met d.i d.j), defBody (met d.i d.j), defScope (met d.i d.j), [], []⟩
def a0K (K : PySem.W.Frag) : Addr := He.dflAt ("Looks", some "__init__") 0 K
def lsD : DefA := ⟨fun K => ma K (ga K "Looks") "__init__", "__init__", "Looks.__init__", defArgs (met 69 0), defBody (met 69 0), defScope (met 69 0), [.adr a0K], []⟩
def gds : List (Str × (Nat × Addr)) := [(("is_part" : Str), 32, 502), (("less" : Str), 33, 507), (("is_natural" : Str), 37, 514), (("is_index" : Str), 38, 521), (("is_name" : Str), 39, 526), (("wrong_place" : Str), 40, 533), (("wrong_names" : Str), 41, 540), (("check_menu" : Str), 42, 547), (("check_things" : Str), 44, 561), (("is_thing" : Str), 45, 568), (("check_thing" : Str), 46, 575), (("bits_of" : Str), 52, 738), (("things_of" : Str), 53, 743), (("let_row" : Str), 54, 748), (("pairs_of" : Str), 55, 753), (("needs_of" : Str), 56, 758), (("sharpened" : Str), 57, 765), (("are_fit" : Str), 58, 772), (("is_never" : Str), 59, 779), (("is_sure" : Str), 60, 786), (("are_marks" : Str), 63, 792), (("check_names" : Str), 64, 799), (("check_look" : Str), 67, 916), (("wrong_look" : Str), 68, 923), (("check_promises" : Str), 72, 1070)]
def lds : List (Str × (Nat × Addr)) := [(("_law_urn" : Str), 75, 1228), (("_law_draw" : Str), 76, 1235), (("_law_name" : Str), 77, 1242), (("_law_names" : Str), 78, 1247), (("_law_shuffled" : Str), 79, 1252), (("_law_menu" : Str), 80, 1257), (("_law_best" : Str), 81, 1262), (("_law_takes" : Str), 82, 1267), (("_law_look" : Str), 83, 1272), (("_law_text" : Str), 84, 1277), (("_law_sort" : Str), 85, 1284), (("_law_field" : Str), 86, 1291), (("_law_caught" : Str), 87, 1298), (("_law_bars" : Str), 88, 1303), (("_law_wants" : Str), 89, 1310), (("_law_left" : Str), 90, 1315), (("_law_fit" : Str), 91, 1320), (("_law_told" : Str), 92, 1325), (("_law_shot" : Str), 93, 1330), (("_law_first" : Str), 94, 1337), (("_law_due" : Str), 95, 1344), (("_law_is" : Str), 96, 1349), (("_law_forgotten" : Str), 97, 1356), (("_law_right" : Str), 98, 1361), (("law" : Str), 99, 1366)]
def mds : List MeD := [⟨("Look" : Str), ("__getitem__" : Str), ("Look.__getitem__" : Str), 65, 6, 857⟩, ⟨("Look" : Str), ("__str__" : Str), ("Look.__str__" : Str), 65, 11, 890⟩, ⟨("Looks" : Str), ("and_seen" : Str), ("Looks.and_seen" : Str), 69, 4, 970⟩, ⟨("Looks" : Str), ("without" : Str), ("Looks.without" : Str), 69, 5, 975⟩, ⟨("Looks" : Str), ("check_fit" : Str), ("Looks.check_fit" : Str), 69, 6, 982⟩, ⟨("Looks" : Str), ("word_of" : Str), ("Looks.word_of" : Str), 69, 7, 989⟩, ⟨("Looks" : Str), ("look" : Str), ("Looks.look" : Str), 69, 9, 1001⟩, ⟨("Book" : Str), ("__len__" : Str), ("Book.__len__" : Str), 73, 5, 1123⟩, ⟨("Book" : Str), ("__bool__" : Str), ("Book.__bool__" : Str), 73, 6, 1130⟩, ⟨("Book" : Str), ("__getitem__" : Str), ("Book.__getitem__" : Str), 73, 8, 1144⟩, ⟨("Book" : Str), ("change" : Str), ("Book.change" : Str), 73, 10, 1158⟩, ⟨("Book" : Str), ("put" : Str), ("Book.put" : Str), 73, 11, 1165⟩, ⟨("Book" : Str), ("see" : Str), ("Book.see" : Str), 73, 12, 1172⟩, ⟨("Book" : Str), ("forget" : Str), ("Book.forget" : Str), 73, 13, 1179⟩, ⟨("Book" : Str), ("promise" : Str), ("Book.promise" : Str), 73, 14, 1186⟩]
def ids : List MeD := [⟨("Look" : Str), ("__init__" : Str), ("Look.__init__" : Str), 65, 0, 813⟩, ⟨("Book" : Str), ("__init__" : Str), ("Book.__init__" : Str), 73, 0, 1084⟩, ⟨("Clash" : Str), ("__init__" : Str), ("Clash.__init__" : Str), 25, 0, 454⟩, ⟨("Broken" : Str), ("__init__" : Str), ("Broken.__init__" : Str), 26, 0, 473⟩]
def pds : List MeD := [⟨("Look" : Str), ("taken" : Str), ("Look.taken" : Str), 65, 3, 836⟩, ⟨("Look" : Str), ("passed" : Str), ("Look.passed" : Str), 65, 4, 842⟩, ⟨("Looks" : Str), ("things" : Str), ("Looks.things" : Str), 69, 1, 946⟩, ⟨("Looks" : Str), ("looks" : Str), ("Looks.looks" : Str), 69, 2, 954⟩, ⟨("Looks" : Str), ("fit" : Str), ("Looks.fit" : Str), 69, 3, 962⟩, ⟨("Book" : Str), ("things" : Str), ("Book.things" : Str), 73, 1, 1091⟩, ⟨("Book" : Str), ("looks" : Str), ("Book.looks" : Str), 73, 2, 1099⟩, ⟨("Book" : Str), ("promises" : Str), ("Book.promises" : Str), 73, 3, 1107⟩, ⟨("Book" : Str), ("changes" : Str), ("Book.changes" : Str), 73, 4, 1115⟩]
def fn : List DefA := lsD :: (gds.map gD ++ lds.map gD ++ mds.map mD ++ ids.map mD ++ pds.map pD)
def freeL : List Str := [("len" : Str), ("isinstance" : Str), ("int" : Str), ("bool" : Str), ("str" : Str), ("tuple" : Str), ("list" : Str), ("enumerate" : Str), ("zip" : Str), ("all" : Str), ("any" : Str), ("sum" : Str), ("sorted" : Str), ("range" : Str), ("repr" : Str), ("abs" : Str), ("min" : Str), ("max" : Str), ("divmod" : Str), ("ValueError" : Str), ("LookupError" : Str), ("ArithmeticError" : Str)]
def sortL : List Str := [("InvalidText" : Str), ("InvalidMarks" : Str), ("InvalidIndex" : Str), ("InvalidWord" : Str), ("NotARanking" : Str), ("NotAHouse" : Str), ("NotALook" : Str), ("NotLooks" : Str), ("OtherThings" : Str), ("InvalidRow" : Str), ("InvalidMenu" : Str), ("InvalidThings" : Str), ("InvalidTaken" : Str), ("InvalidRankings" : Str), ("InvalidLooks" : Str), ("InvalidTable" : Str), ("UnknownThing" : Str), ("TooMany" : Str), ("NoHouse" : Str), ("NoTable" : Str), ("Clash" : Str), ("Broken" : Str), ("NothingToUndo" : Str), ("WrongValue" : Str), ("WrongName" : Str), ("NoAnswer" : Str)]
def clsL : List Str := ["Look", "Looks", "Book"]
def noatL : List (Str × Str) := [("Look", "menu"), ("Look", "marks"), ("Looks", "named"), ("Looks", "seen"), ("Book", "held"), ("Book", "vows"), ("Book", "log")]
def fa : List Fa := [.int "MOST_THINGS" 10, .int "MOST_LOOKS" 12, .str "LETTERS" "abcdefghijklmnopqrstuvwxyz", .str "SIGNS" "abcdefghijklmnopqrstuvwxyz0123456789", .glo "MARKS", .glo "WORDS"] ++ freeL.map .free ++ gds.map (fun p => .glo p.1) ++ lds.map (fun p => .glo p.1) ++ sortL.map .glo ++ clsL.map .glo ++ clsL.map .cls ++ clsL.map .mkr ++ noatL.map fun p => .noat p.1 p.2
def metL : List MeD := [⟨("Looks" : Str), ("and_seen" : Str), ("Looks.and_seen" : Str), 69, 4, 970⟩, ⟨("Looks" : Str), ("without" : Str), ("Looks.without" : Str), 69, 5, 975⟩, ⟨("Looks" : Str), ("check_fit" : Str), ("Looks.check_fit" : Str), 69, 6, 982⟩, ⟨("Looks" : Str), ("word_of" : Str), ("Looks.word_of" : Str), 69, 7, 989⟩, ⟨("Looks" : Str), ("look" : Str), ("Looks.look" : Str), 69, 9, 1001⟩, ⟨("Book" : Str), ("change" : Str), ("Book.change" : Str), 73, 10, 1158⟩, ⟨("Book" : Str), ("put" : Str), ("Book.put" : Str), 73, 11, 1165⟩, ⟨("Book" : Str), ("see" : Str), ("Book.see" : Str), 73, 12, 1172⟩, ⟨("Book" : Str), ("forget" : Str), ("Book.forget" : Str), 73, 13, 1179⟩, ⟨("Book" : Str), ("promise" : Str), ("Book.promise" : Str), 73, 14, 1186⟩]
def spcL : List MeD := [⟨("Look" : Str), ("__getitem__" : Str), ("Look.__getitem__" : Str), 65, 6, 857⟩, ⟨("Look" : Str), ("__str__" : Str), ("Look.__str__" : Str), 65, 11, 890⟩, ⟨("Book" : Str), ("__len__" : Str), ("Book.__len__" : Str), 73, 5, 1123⟩, ⟨("Book" : Str), ("__bool__" : Str), ("Book.__bool__" : Str), 73, 6, 1130⟩, ⟨("Book" : Str), ("__getitem__" : Str), ("Book.__getitem__" : Str), 73, 8, 1144⟩]
def ts : List Tab := [(fun K => ga K "MARKS", ["surely", "never", "perhaps"])]
def tf : List Defn := [("_law_right", none), ("_law_forgotten", none)]
/-! ### the rest, as Bools -/
def ato (a b : Option Bool) : Bool := decide (a = b)
def metB (K : PySem.W.Frag) (d : MeD) : Bool := (Fa.meth d.cl d.nm).ok K
def spcB (K : PySem.W.Frag) (d : MeD) : Bool := eqO (PySem.W.findIn K (.ref (ga K d.cl)) d.nm) (some (some (.ref (ma K (ga K d.cl) d.nm)))) && (PySem.W.isFn K (.ref (ma K (ga K d.cl) d.nm)) && PySem.W.fnIn K (ma K (ga K d.cl) d.nm))
def prpB (K : PySem.W.Frag) (d : MeD) : Bool := eqO (PySem.W.findIn K (.ref (ga K d.cl)) d.nm) (some (some (.ref (ma K (ga K d.cl) d.nm)))) && (eqO (PySem.W.specialIn K (.ref (ma K (ga K d.cl) d.nm)) "__get__") (some (some (.builtin "property.__get__"))) &&
  (ato (PySem.W.takesIn K (.ref (ma K (ga K d.cl) d.nm))) (some true) && (match PySem.W.recIn K (ma K (ga K d.cl) d.nm) "property" with
    | some (.ref _ :: _) => true
    | _ => false)))
def insB (K : PySem.W.Frag) (C : Addr) : Bool := eqO (PySem.W.findIn K (.ref C) "__class__") (some (some (.builtin "object.__class__"))) && (eqO (PySem.W.specialIn K (.builtin "object.__class__") "__get__") (some (some (.builtin "getset_descriptor.__get__"))) &&
  (ato (PySem.W.takesIn K (.builtin "object.__class__")) (some true) && (ato (PySem.W.mroIn K C (.type "object")) (some true) && ato (PySem.W.kitOne K (.ref C) (.ref C)) (some true))))
def etB (K : PySem.W.Frag) (a : Addr) : Bool := match K.lookup a with
  | some ⟨.type c, _, .seq its _, _⟩ => decide (c = "tuple") && its.isEmpty
  | _ => false
def cK (K : PySem.W.Frag) (i : Nat) : Addr := match sortL[i]? with
  | some n => ga K n
  | none => 0
abbrev aeT : List Value := [.type "ArithmeticError", .type "Exception", .type "BaseException", .type "object"]
/-- what an own error with a place is -/
def ixB1 (K : PySem.W.Frag) (x : Str) : Bool := PySem.W.excInitIn K (ga K x) aeT "ArithmeticError.__new__" && (PySem.W.excOver K (ga K x) aeT && (eqO (PySem.W.findIn K (.ref (ga K x)) "__setattr__") (some (some (.builtin "object.__setattr__"))) &&
  (eqO (PySem.W.findIn K (.ref (ga K x)) "__getattribute__") (some (some (.builtin "BaseException.__getattribute__"))) && (eqO (PySem.W.findIn K (.ref (ga K x)) "__getattr__") (some none) && (eqO (PySem.W.findIn K (.ref (ga K x)) "index") (some none) &&
  (eqO (PySem.W.findIn K (.ref (ga K x)) "__init__") (some (some (.ref (ma K (ga K x) "__init__")))) && (decide (PySem.W.typeIn K (.ref (ma K (ga K x) "__init__")) = some (.type "function")) && (PySem.W.keepIn K (.ref (ga K x)) && (ato (PySem.W.subIn K (.ref (ga K x)) (.type "BaseException")) (some true) &&
  (decide (PySem.W.typeIn K (.ref (ga K x)) = some (.type "type")) && PySem.W.hasDictIn K (ga K x)))))))))))
def ixB2 (K : PySem.W.Frag) (x : Str) : Bool := eqO (PySem.W.findIn K (.ref (ga K x)) "__class__") (some (some (.builtin "object.__class__"))) && (eqO (PySem.W.specialIn K (.builtin "object.__class__") "__get__") (some (some (.builtin "getset_descriptor.__get__"))) &&
  (ato (PySem.W.takesIn K (.builtin "object.__class__")) (some true) && ato (PySem.W.mroIn K (ga K x) (.type "object")) (some true)))
def sortB (K : PySem.W.Frag) (x : Str) (k : Nat) : Bool := (List.range 23).all (fun i => ato (PySem.W.kitOne K (.ref (ga K x)) (.ref (cK K i))) (some (decide (i = k)))) && (ato (PySem.W.kitOne K (.ref (ga K x)) (.ref (cK K 23))) (some false) && (ato (PySem.W.kitOne K (.ref (ga K x)) (.ref (cK K 24))) (some false) && (ato (PySem.W.kitOne K (.ref (ga K x)) (.ref (cK K 25))) (some true) &&
  (ato (PySem.W.kitOne K (.ref (ga K x)) (.type "ValueError")) (some false) && (ato (PySem.W.kitOne K (.ref (ga K x)) (.type "LookupError")) (some false) && (ato (PySem.W.kitOne K (.ref (ga K x)) (.type "ArithmeticError")) (some true) &&
  ato (PySem.W.exmAny K (.ref (ga K x)) [.ref (cK K 23), .ref (cK K 24), .ref (cK K 25)]) (some true)))))))
def exs : List (PySem.W.Frag → Bool) := [fun K => metL.all (metB K), fun K => spcL.all (spcB K), fun K => pds.all (prpB K), fun K => insB K (ga K "Look"), fun K => etB K (a0K K), fun K => He.valsB K (ga K "MARKS") [("surely", .str "+"), ("never", .str "-"), ("perhaps", .str "?")],
  fun K => He.tupB K "WORDS" [.str "surely", .str "never", .str "perhaps"], fun K => ixB1 K "Clash", fun K => ixB1 K "Broken", fun K => ixB2 K "Clash", fun K => ixB2 K "Broken", fun K => sortB K "Clash" 20, fun K => sortB K "Broken" 21, fun K => !decide ((He.cT K ("_law_right", none)).2 = (He.cT K ("_law_forgotten", none)).2),
  fun K => (gds ++ lds).all fun p => decide (ga K p.1 = p.2.2), fun K => (mds ++ ids).all fun d => decide (ma K (ga K d.cl) d.nm = d.a), fun K => pds.all fun d => decide (He5.wf K (ga K d.cl) "property" d.nm = d.a)]
def ex (K : PySem.W.Frag) : Bool := exs.all fun f => f K
end MhHd
end
section
set_option Elab.async false
set_option linter.all false
set_option maxRecDepth 100000
set_option maxHeartbeats 0
/-! MhHr: the head: the top's run in the kernel. -/
namespace MhHd
open PySem PySem.W PySem.Calls PyProof.Rows
abbrev R : OpenRow := OpenLaw.row PySem.Challenge.rw_menuhouses_k90_whole_promises_of_many_th
abbrev qv : Program := view R.prog [99]
def names0 : List PySem.Str := (["_wall", "WrongValue", "WrongName", "NoAnswer", "InvalidText", "InvalidMarks", "InvalidIndex", "InvalidWord", "NotARanking", "NotAHouse", "NotALook", "NotLooks", "OtherThings", "InvalidRow", "InvalidMenu", "InvalidThings", "InvalidTaken", "InvalidRankings", "InvalidLooks", "InvalidTable", "UnknownThing", "TooMany", "NoHouse", "NoTable", "Clash", "Broken", "NothingToUndo", "MOST_THINGS", "MOST_LOOKS", "best_of", "is_part", "less", "LETTERS", "SIGNS", "is_natural"] : List String).map PySem.Str.ofString
def names1 : List PySem.Str := (["is_index", "is_name", "wrong_place", "wrong_names", "check_menu", "check_taken", "check_things", "is_thing", "check_thing", "wrong_name", "Ranking", "ranking_of", "bits_of", "things_of", "let_row", "pairs_of", "needs_of", "sharpened", "are_fit", "is_never", "is_sure", "MARKS", "are_marks", "check_names", "Look", "look_of", "check_look", "wrong_look", "Looks", "WORDS", "check_promises", "Book"] : List String).map PySem.Str.ofString
def names2 : List PySem.Str := (["_law_urn", "_law_draw", "_law_name", "_law_names", "_law_shuffled", "_law_menu", "_law_best", "_law_takes", "_law_look", "_law_text", "_law_sort", "_law_field", "_law_caught", "_law_bars", "_law_wants", "_law_left", "_law_fit", "_law_told", "_law_shot", "_law_first", "_law_due", "_law_is", "_law_forgotten", "_law_right"] : List String).map PySem.Str.ofString
def names : List PySem.Str := names0 ++ names1 ++ names2
abbrev hk : PySem.W.Hook := hookZ fa fn ts tf ex
def ob (s : PySem.W.SharedT) : AlZ := obsZ fa fn ts tf ex (HandSHeadRun.getT s)
theorem ob_eq (s : PySem.W.SharedT) : ob s = hk.obs s.abs := obsZ_eq (HandSHeadRun.getT_eq s)
/-- what is looked at -/
noncomputable def Kf (s : PySem.W.SharedT) : PySem.W.Frag := He.frT (HandSHeadRun.getT s) (asM (HandSHeadRun.getT s))
noncomputable def EndS (w : World) (os : OsState) : Option PySem.W.SharedT := HandSHeadRun.endF (HandSHeadRun.stepQ (HandSHeadRun.denQ HandSHeadRun.tabQ) R.prog w) 20000 R.prog w os
def RunA (w : World) : Prop := ∀ os : OsState, (EndS w os).map (fun s => (HandSHeadRun.looksF R.prog (boot_heap w.params) s.abs, HandSHeadRun.seenQ qv names (importedModules R.prog.main.body) (fun s => xlAt qv [] s && recOk R.toRowW.records s) s.abs)) = some (true, openGood qv names)
def RunB (w : World) : Prop := ∀ os : OsState, (EndS w os).map (fun s => (fn.all fun d => d.ok (Kf s), fn.map fun d => He5.fnA (Kf s) (d.at_ (Kf s)))) = some (true, fn.map He5.DefA.val)
def RunC (w : World) : Prop := ∀ os : OsState, (EndS w os).map (fun s => (fa.all fun f => f.ok (Kf s), ts.map (fun t => He.dicW (Kf s) (t.1 (Kf s))), ex (Kf s) && He.tabsB (HandSHeadRun.getT s) tf (Kf s))) = some (true, ts.map (fun t => some (He.keysIn w.params t.2)), true)
theorem runA0 (w : World) : RunA (w.withFollow "special-get-raises" false) := by
  intro os
  kernel_rfl
theorem runA1 (w : World) : RunA (w.withFollow "special-get-raises" true) := by
  intro os
  kernel_rfl
theorem runB0 (w : World) : RunB (w.withFollow "special-get-raises" false) := by
  intro os
  kernel_rfl
theorem runB1 (w : World) : RunB (w.withFollow "special-get-raises" true) := by
  intro os
  kernel_rfl
theorem runC0 (w : World) : RunC (w.withFollow "special-get-raises" false) := by
  intro os
  kernel_rfl
theorem runC1 (w : World) : RunC (w.withFollow "special-get-raises" true) := by
  intro os
  kernel_rfl
theorem runA (w : World) : RunA w := byRow2 "special-get-raises" (P := RunA) runA0 runA1 w
theorem runB (w : World) : RunB w := byRow2 "special-get-raises" (P := RunB) runB0 runB1 w
theorem runC (w : World) : RunC w := byRow2 "special-get-raises" (P := RunC) runC0 runC1 w
theorem join3 {s a b c : Type} {x : Option s} {f1 : s → Bool} {f2 : s → a} {f3 f6 f7 : s → Bool} {f4 : s → b} {f5 : s → c} {o : s → (Bool × b) × (c × Bool)} {g : a} {u : b} {v : c} (ho : ∀ z, o z = ((f3 z && f6 z, f4 z), (f5 z, f7 z)))
    (h1 : x.map (fun z => (f1 z, f2 z)) = some (true, g)) (h2 : x.map (fun z => (f6 z, f4 z)) = some (true, u)) (h3 : x.map (fun z => (f3 z, f5 z, f7 z)) = some (true, v, true)) : x.map (fun z => (f1 z, f2 z, o z)) = some (true, g, ((true, u), (v, true))) := by
  cases x with
  | none => cases h1
  | some z =>
    have e1 : (f1 z, f2 z) = (true, g) := Option.some.inj h1
    have e2 : (f6 z, f4 z) = (true, u) := Option.some.inj h2
    have e3 : (f3 z, f5 z, f7 z) = (true, v, true) := Option.some.inj h3
    simp only [Prod.mk.injEq] at e1 e2 e3
    obtain ⟨a1, a2⟩ := e1
    obtain ⟨b1, b2⟩ := e2
    obtain ⟨c1, c2, c3⟩ := e3
    show some (f1 z, f2 z, o z) = _
    rw [ho z, a1, a2, b1, b2, c1, c2, c3] <;> rfl
theorem run (w : World) : HandSHeadRun.RunEq R qv hk ob 20000 names w := fun os => join3 (o := ob) (fun _ => rfl) (runA w os) (runB w os) (runC w os)
end MhHd
end
section
set_option Elab.async false
set_option linter.all false
set_option maxRecDepth 100000
set_option maxHeartbeats 4000000
/-! MhR1: walks that the layer lacks: enumerate(a tuple), zip(a tuple, a text). -/
namespace MhX
open PySem PySem.Spec PyProof.Rows L2
open AutoSeq1 (wpAny_loadPart')

/-! ### enumerate(tuple) is made -/
theorem enumNewT (t : Addr) (items : Array Value) (n : Nat) (dct : Option Addr) (sl : Array (Option Value)) :
    Meets (Builtin.«enumerate.__new__» ⟨[.type "enumerate", .ref t], []⟩) (fun _ R s => s.heap.get? t = some { cls := .type "tuple", dict := dct, data := .seq items n, slots := sl } ∧
      R (.ok (.ret (.ref (s.heap.push { cls := .type "tuple_iterator", data := .fields #[.ref t, .int 0 0] }).objs.size)))
        { s with heap := (s.heap.push { cls := .type "tuple_iterator", data := .fields #[.ref t, .int 0 0] }).push { cls := .type "enumerate", data := .fields #[.none, .bool false, .ref s.heap.objs.size, rawInt 0, .none, .none] } }) :=
  .of_wp fun prog w A R s hh => by
    obtain ⟨hp, g, d, tk, os⟩ := s
    obtain ⟨hl, hR⟩ := hh
    have hsub := sub_enumerate
    have hT : Heap.IsTuple (Shared.heap ⟨hp, g, d, tk, os⟩) t items := ⟨_, hl, rfl, n, rfl⟩
    wp_walk using wpAny_loadPart' hl
    refine wpAny_stack_any fun st => wpAny_pure ?_
    split
    · rename_i c _ _ _ _ _
      cases (c == Value.type "enumerate")
      · wp_walk using wpAny_loadPart' hl, wpAny_pyIter_tuple hT
        exact ⟨_, rfl, hR⟩
      · wp_walk using wpAny_loadPart' hl, wpAny_pyIter_tuple hT
        exact ⟨_, rfl, hR⟩
    · wp_walk using wpAny_loadPart' hl, wpAny_pyIter_tuple hT
      exact ⟨_, rfl, hR⟩

theorem callEnumT {prog : Program} {w : World} {A : Around} {E : Value → Shared → Prop} {s : Shared} {t : Addr} {items : Array Value} {Q : Value → Shared → Prop} (hT : s.heap.IsTuple t items)
    (k : ∀ h', IsEnum h' (s.heap.objs.size + 1) s.heap.objs.size 0 .none → h'.IsTupleIter s.heap.objs.size t 0 →
      (∀ b o, s.heap.get? b = some o → h'.get? b = some o) → Q (.ref (s.heap.objs.size + 1)) { s with heap := h' }) :
    wpAny (model prog w) A (call (.type "enumerate") [.ref t]) Q E s := by
  obtain ⟨⟨c, dct, dt, sl⟩, hl, hc, n, hd⟩ := hT
  replace hc : c = .type "tuple" := hc
  replace hd : dt = .seq items n := hd
  subst hc hd
  refine callType_new F.called_enumerate (by decide) (F.typeCall_enumerate_1 _) (F.newCall_enumerate_1 _) (fun obj => F.args_object_init_2 obj _) F.entry_enumerate_new
    (enumNewT t items n dct sl) ⟨hl, ?_⟩
  have hz : (s.heap.push { cls := .type "tuple_iterator", data := .fields #[.ref t, .int 0 0] }).objs.size = s.heap.objs.size + 1 := Heap.size_push ..
  show _ ∧ _
  rw [hz]
  have he : IsEnum ((s.heap.push { cls := .type "tuple_iterator", data := .fields #[.ref t, .int 0 0] }).push
      { cls := .type "enumerate", data := .fields #[.none, .bool false, .ref s.heap.objs.size, rawInt 0, .none, .none] }) (s.heap.objs.size + 1) s.heap.objs.size 0 .none := by
    have q := Heap.get?_push_size (s.heap.push { cls := .type "tuple_iterator", data := .fields #[.ref t, .int 0 0] })
      (o := { cls := .type "enumerate", data := .fields #[.none, .bool false, .ref s.heap.objs.size, rawInt 0, .none, .none] }) rfl
    rw [hz] at q
    exact q
  exact ⟨⟨_, he, rfl⟩, k _ he ⟨_, Heap.get?_push_of_some _ (Heap.get?_push_size _ rfl), rfl, rfl⟩ fun b o x => Heap.get?_push_of_some _ (Heap.get?_push_of_some _ x)⟩

/-- the tuple at t as it stands, each item in a new pair -/
def ItEt (K : PySem.W.Frag) (t : Addr) : It :=
  ⟨fun i H => ∃ (xs : List V) (x : V), SqT K H t xs ∧ xs[i]? = some x, fun i H v H' => ∃ T x, v = .ref T ∧ H T = none ∧ H' = upd H T (.tup [.int (i : Nat), x]) ∧ ∀ xs, SqT K H t xs → xs[i]? = some x, fun i H => ∃ xs : List V, SqT K H t xs ∧ xs.length = i⟩

theorem pairNew {P : Program} {w : World} {H : Hp} {h : Heap} {T : Addr} {x y : V} {u1 u2 : Value} (r1 : RelV x u1) (r2 : RelV y u2) (hT : h.IsTuple T #[u1, u2]) : ObjOk P w (upd H T (.tup [x, y])) h T (.tup [x, y]) :=
  ⟨by show 2 ≤ sizeLine; decide, [u1, u2], .cons r1 (.cons r2 .nil), hT⟩

theorem turnEnumT {P : Program} {w : World} {K : PySem.W.Frag} {elts : List Expr} {kk : Nat} {tpos : Pos} (t e it : Addr) :
    Turn P w K (.Tuple elts kk tpos) (ItEt K t) [e, it] e (fun i h => (∃ old, IsEnum h e it (0 + ((i : Nat) : Int)) old) ∧ h.IsTupleIter it t i ∧ e ≠ it ∧ t ≠ it ∧ t ≠ e) where
  mem := by simp
  obj := fun i h st b hb => by
    obtain ⟨⟨old, he⟩, ⟨o, ho, hc, hd⟩, _⟩ := st
    have e' : b = e ∨ b = it := by simpa using hb
    rcases e' with z | z
    · rw [z]
      exact ⟨_, he, fun v q => nomatch q⟩
    · rw [z]
      exact ⟨o, ho, fun v q => by rw [hd] at q; cases q⟩
  keep := fun i h h' st k => by
    obtain ⟨⟨old, he⟩, ⟨o, ho, r⟩, hne⟩ := st
    exact ⟨⟨old, k e (by simp) _ he⟩, ⟨o, k it (by simp) _ ho, r⟩, hne⟩
  item := by
    intro X hP hw hK hc i pins s σ H E I hf st hg
    subst hP hw hK
    obtain ⟨he, hit, hne, hti, hte⟩ := st
    obtain ⟨xs, x, hq, hx⟩ := hg
    obtain ⟨its, rv, p, hz⟩ := I.tuple hq
    obtain ⟨u, hu, ru⟩ := rv.get hx
    have hlt : i < its.toArray.size := by
      rw [List.size_toArray]
      exact (List.getElem?_eq_some_iff.mp hu).1
    have hh : X.A.in1.handled = none := I.ok.hd hc
    have W := GoesN.enumFrom (prog := X.prog) (w := X.w) (A := X.A) (elts := elts) (x1 := kk) (pos := tpos) 0 (Draws.tuple (prog := X.prog) (w := X.w) (A := X.A.in1) hh it t hti its.toArray) e hne
      (by simp only [List.mem_cons, List.not_mem_nil, or_false, not_or]; exact ⟨hne, Ne.symm hte⟩) (by simp)
    refine W.goes i s (fun v s2 => ∃ x H', Inv X pins σ H' s2 ∧ RelV x v ∧ (ItEt X.K t).yld i H x H' ∧ _ ∧ ∀ b ∈ [e, it], H' b = none) E hlt ⟨he, hit, p⟩ fun v h' tk hY st' hk htk => ?_
    obtain ⟨T, t0, x', ev, hT, hx', hTup⟩ := hY
    subst ev
    have ex : x' = u := by
      have q : its.toArray[i]? = some u := by simpa using hu
      rw [q] at hx'
      exact (Option.some.inj hx').symm
    subst ex
    have hi0 : (0 : Int) + (i : Int) = (i : Nat) := by omega
    have new := pairNew (P := X.prog) (w := X.w) (H := H) (x := .int (i : Nat)) (y := x) ⟨t0, by rw [hi0]⟩ ru hTup
    refine ⟨.ref T, _, I.turnedNew (ch := [e, it]) (fun b o hb q => hk b o hb q) hf hT new, rfl, ⟨T, x, rfl, I.hok.fresh hT, rfl, fun ys hy => by rw [I.tuple_inj hy hq]; exact hx⟩, ⟨st'.1, st'.2.1, hne, hti, hte⟩, fun b hb => ?_⟩
    obtain ⟨old, he0⟩ := he
    obtain ⟨oi, hi1, _⟩ := hit
    have hb' : b < s.heap.objs.size := by
      have e' : b = e ∨ b = it := by simpa using hb
      rcases e' with z | z
      · rw [z]
        exact Heap.lt_size he0
      · rw [z]
        exact Heap.lt_size hi1
    rw [upd_ne (Nat.ne_of_lt (Nat.lt_of_lt_of_le hb' hT))]
    exact (hf b hb).1
  done := by
    intro X hP hw hK hc i pins s σ H E I hf st hg
    subst hP hw hK
    obtain ⟨he, hit, hne, hti, hte⟩ := st
    obtain ⟨xs, hq, hx⟩ := hg
    obtain ⟨its, rv, p, hz⟩ := I.tuple hq
    have hl : i = its.toArray.size := by rw [List.size_toArray, ← rv.length, hx]
    subst hl
    have hh : X.A.in1.handled = none := I.ok.hd hc
    have W := GoesN.enumFrom (prog := X.prog) (w := X.w) (A := X.A) (elts := elts) (x1 := kk) (pos := tpos) 0 (Draws.tuple (prog := X.prog) (w := X.w) (A := X.A.in1) hh it t hti its.toArray) e hne
      (by simp only [List.mem_cons, List.not_mem_nil, or_false, not_or]; exact ⟨hne, Ne.symm hte⟩) (by simp)
    exact W.stops s (fun s1 => Inv X pins σ H s1) E ⟨he, hit, p⟩ fun h' tk hk _ => I.turnedL (t' := tk) (ch := [e, it]) (fun b o hb q => hk b o hb q) hf
  self := fun A i s Q E st h => let ⟨⟨_, he⟩, _⟩ := st; wpAny_pyIter_enum he h
def iEnumT (K : PySem.W.Frag) (ta : TA) : TI := fun σ H R => ta σ H fun vs H1 => ∃ a xs, vs = [.ref a] ∧ SqT K H1 a xs ∧ R (ItEt K a) H1
theorem pi_enumT {X : Cx} {e : Expr} {ta : TA} {p pos tpos : Pos} {elts : List Expr} {kk : Nat} (hg : Gl X "enumerate") (hm : X.mg "enumerate" = none) (ha : PA X [e] ta) (hs : starEach [e] X.env = [(false, eval e X.env)] := by rfl) :
    PI X (.Tuple elts kk tpos) (.Call (.Name "enumerate" p) [e] [] pos) (iEnumT X.K ta) := by
  refine ⟨fun pins s σ H R I h => ?_⟩
  refine Call_ (ld_blt I hg hm boot_enumerate (PyProof.Rows.callWith_type1 (thn (ha.run pos pins s σ H _ I h) fun us s1 ⟨vs, H1, I1, r1, q1⟩ => ?_) hs rfl))
  obtain ⟨a, xs, ex, hq, q⟩ := q1
  subst ex
  cases r1 with
  | cons r rr =>
    cases rr
    cases r
    obtain ⟨its, rv, p', hz⟩ := I1.tuple hq
    have hal : a < s1.heap.objs.size := by
      obtain ⟨o, ho, _⟩ := p'
      exact Heap.lt_size ho
    refine callEnumT (items := its.toArray) p' fun h' he hit hk => wpAny_pyIter_enum he ?_
    have I2 : Inv X pins σ H1 { s1 with heap := h' } := I1.kept (t' := s1.toks) hk
    refine ⟨s1.heap.objs.size + 1, [s1.heap.objs.size + 1, s1.heap.objs.size], _, _, H1, rfl, I2, turnEnumT a (s1.heap.objs.size + 1) s1.heap.objs.size, ⟨⟨.none, he⟩, hit, Nat.succ_ne_self _, Nat.ne_of_lt hal, Nat.ne_of_lt (Nat.lt_succ_of_lt hal)⟩, fun b hb => ?_, q⟩
    have e' : b = s1.heap.objs.size + 1 ∨ b = s1.heap.objs.size := by simpa using hb
    have hle : s1.heap.objs.size ≤ b := by
      rcases e' with z | z
      · rw [z]
        exact Nat.le_add_right _ _
      · rw [z]
        exact Nat.le_refl _
    exact I1.fpOk hle (I1.hok.fresh hle)
theorem walk_enumT {K : PySem.W.Frag} {a : Addr} {xs : List V} : Walk (ItEt K a) xs.length (fun H => SqT K H a xs) (YPair (fun i => some (.int (i : Nat))) (fun i => xs[i]?)) := by
  refine ⟨fun i _ hi q => ⟨xs, xs[i], q, by simp [hi]⟩, fun _ q => ⟨xs, q, rfl⟩, fun i H v H' _ q y => ?_⟩
  obtain ⟨T, x, h1, h2, h3, h4⟩ := y
  exact ⟨T, .int (i : Nat), x, h1, h2, h3, rfl, h4 xs q⟩

/-! ### zip(a tuple, a text) -/
theorem sepTS {n a : Addr} (h : a < n) : ZipSep2 (n + 4) (n + 2) (n + 3) n (n + 1) [n, a] [n + 1] := by
  have h0 : ∀ x y : Nat, x < y → (x : Addr) ≠ y := fun x y q => Nat.ne_of_lt q
  have l1 : a < n + 4 := Nat.lt_of_lt_of_le h (Nat.le_add_right _ _)
  have l2 : a < n + 3 := Nat.lt_of_lt_of_le h (Nat.le_add_right _ _)
  have l3 : a < n + 1 := Nat.lt_of_lt_of_le h (Nat.le_add_right _ _)
  have ne4 : n + 4 ≠ n := Nat.ne_of_gt (Nat.lt_add_of_pos_right (by decide))
  have ne3 : n + 3 ≠ n := Nat.ne_of_gt (Nat.lt_add_of_pos_right (by decide))
  have ne2 : n + 2 ≠ n := Nat.ne_of_gt (Nat.lt_add_of_pos_right (by decide))
  have ne1 : n + 1 ≠ n := Nat.ne_of_gt (Nat.lt_add_of_pos_right (by decide))
  have st : ∀ i j : Nat, i < j → n + i ≠ n + j := fun i j q => Nat.ne_of_lt (Nat.add_lt_add_left q n)
  refine ⟨st 2 4 (by decide), st 3 4 (by decide), st 2 3 (by decide), ne2, by simp, ?_, ?_, Ne.symm (st 1 2 (by decide)), by simp, ?_, ?_, ?_, ?_⟩
  · simp only [List.mem_cons, List.not_mem_nil, or_false, not_or]
    exact ⟨ne4, Ne.symm (Nat.ne_of_lt l1)⟩
  · simp only [List.mem_cons, List.not_mem_nil, or_false, not_or]
    exact ⟨ne3, Ne.symm (Nat.ne_of_lt l2)⟩
  · simp only [List.mem_cons, List.not_mem_nil, or_false]
    exact Ne.symm (st 1 4 (by decide))
  · simp only [List.mem_cons, List.not_mem_nil, or_false]
    exact Ne.symm (st 1 3 (by decide))
  · simp only [List.mem_cons, List.not_mem_nil, or_false]
    exact Ne.symm ne1
  · simp only [List.mem_cons, List.not_mem_nil, or_false, not_or]
    exact ⟨ne1, Ne.symm (Nat.ne_of_lt l3)⟩
theorem apartTS {n a : Addr} (h : a < n) : a ≠ n ∧ a ≠ n + 4 ∧ a ≠ n + 3 ∧ a ≠ n + 2 ∧ a ≠ n + 1 :=
  ⟨Nat.ne_of_lt h, Nat.ne_of_lt (Nat.lt_of_lt_of_le h (Nat.le_add_right _ _)), Nat.ne_of_lt (Nat.lt_of_lt_of_le h (Nat.le_add_right _ _)), Nat.ne_of_lt (Nat.lt_of_lt_of_le h (Nat.le_add_right _ _)), Nat.ne_of_lt (Nat.lt_of_lt_of_le h (Nat.le_add_right _ _))⟩
/-- the tuple at t as it stands, and the signs of z, in new pairs -/
def ItTS (K : PySem.W.Frag) (t : Addr) (z : Str) : It :=
  ⟨fun i H => ∃ (xs : List V) (x : V) (c : Nat), SqT K H t xs ∧ xs[i]? = some x ∧ z.cps[i]? = some c,
    fun i H v H' => ∃ T x c, v = .ref T ∧ H T = none ∧ H' = upd H T (.tup [x, .str ⟨#[c]⟩]) ∧ (∀ xs, SqT K H t xs → xs[i]? = some x) ∧ z.cps[i]? = some c,
    fun i H => ∃ xs : List V, SqT K H t xs ∧ i = min xs.length z.cps.size⟩
theorem turnTS {P : Program} {w : World} {K : PySem.W.Frag} {elts : List Expr} {kk : Nat} {tpos : Pos} {t z TI TO i1 i2 : Addr} {x : Str} {tk0 : Tok} (S : ZipSep2 z TI TO i1 i2 [i1, t] [i2]) (ht : t ≠ i1 ∧ t ≠ z ∧ t ≠ TO ∧ t ≠ TI ∧ t ≠ i2) :
    Turn P w K (.Tuple elts kk tpos) (ItTS K t x) [z, TI, TO, i1, i2] z (fun i h => IsZip h z TI TO .none ∧ IsTupOf2 h TI (.ref i1) (.ref i2) ∧ (∃ a1 a2, IsTupOf2 h TO a1 a2) ∧ h.IsTupleIter i1 t i ∧ h.IsStrIter i2 (strIterType x) x tk0 i) where
  mem := by simp
  obj := fun i h st b hb => by
    obtain ⟨hz, hTI, ⟨a1, a2, hTO⟩, ⟨o1, h1, _, d1⟩, ⟨o2, h2, _, d2⟩⟩ := st
    have e' : b = z ∨ b = TI ∨ b = TO ∨ b = i1 ∨ b = i2 := by simpa using hb
    rcases e' with q | q | q | q | q
    · rw [q]
      exact ⟨_, hz, fun v q => nomatch q⟩
    · rw [q]
      exact ⟨_, hTI, fun v q => nomatch q⟩
    · rw [q]
      exact ⟨_, hTO, fun v q => nomatch q⟩
    · rw [q]
      exact ⟨o1, h1, fun v q => by rw [d1] at q; cases q⟩
    · rw [q]
      exact ⟨o2, h2, fun v q => by rw [d2] at q; cases q⟩
  keep := fun i h h' st k => by
    obtain ⟨hz, hTI, ⟨a1, a2, hTO⟩, ⟨o1, h1, r1⟩, ⟨o2, h2, r2⟩⟩ := st
    exact ⟨k z (by simp) _ hz, k TI (by simp) _ hTI, ⟨a1, a2, k TO (by simp) _ hTO⟩, ⟨o1, k i1 (by simp) _ h1, r1⟩, ⟨o2, k i2 (by simp) _ h2, r2⟩⟩
  item := by
    intro X hP hw hK hc i pins s σ H E I hf st hg
    subst hP hw hK
    obtain ⟨hz, hTI, hTO, h1, h2⟩ := st
    obtain ⟨xs, v, c, hq, hx, hcz⟩ := hg
    obtain ⟨its, rv, p, hsz⟩ := I.tuple hq
    obtain ⟨u, hu, ru⟩ := rv.get hx
    have hlt : i < min its.toArray.size x.cps.size := by
      rw [List.size_toArray]
      have q1 := (List.getElem?_eq_some_iff.mp hu).1
      have q2 := (Array.getElem?_eq_some_iff.mp hcz).1
      omega
    have hh : X.A.in1.handled = none := I.ok.hd hc
    have W := GoesN.zip2 (prog := X.prog) (w := X.w) (A := X.A) (elts := elts) (x1 := kk) (pos := tpos) S (Draws.tuple (prog := X.prog) (w := X.w) (A := X.A.in1) hh i1 t ht.1 its.toArray) (Draws.text (prog := X.prog) (w := X.w) (A := X.A.in1) hh i2 x tk0)
    refine W.goes i s (fun v s2 => ∃ y H', Inv X pins σ H' s2 ∧ RelV y v ∧ (ItTS X.K t x).yld i H y H' ∧ _ ∧ ∀ b ∈ [z, TI, TO, i1, i2], H' b = none) E hlt ⟨hz, hTI, hTO, ⟨h1, p⟩, h2⟩ fun v' h' tk hY st' hk htk => ?_
    obtain ⟨T, x', y', ev, hT, hx', hy', hTup⟩ := hY
    obtain ⟨c', u', hc', ey⟩ := hy'
    subst ev
    have ex : x' = u := by
      have q : its.toArray[i]? = some u := by simpa using hu
      rw [q] at hx'
      exact (Option.some.inj hx').symm
    have ec : c' = c := by
      rw [hcz] at hc'
      exact (Option.some.inj hc').symm
    subst ex ec
    rw [ey] at hTup
    have new := pairNew (P := X.prog) (w := X.w) (H := H) (x := v) (y := .str ⟨#[c']⟩) ru ⟨u', rfl⟩ hTup
    refine ⟨.ref T, _, I.turnedNew (ch := [z, TI, TO, i1, i2]) (fun b o hb q => hk b o (fun z' => hb (by
      have e' : b = z ∨ b = TO ∨ b = i1 ∨ b = i2 := by simpa using z'
      rcases e' with q | q | q | q <;> simp [q])) q) hf hT new, rfl, ⟨T, v, c', rfl, I.hok.fresh hT, rfl, fun ys hy => by rw [I.tuple_inj hy hq]; exact hx, hcz⟩, ⟨st'.1, st'.2.1, st'.2.2.1, st'.2.2.2.1.1, st'.2.2.2.2⟩, fun b hb => ?_⟩
    have hb' : b < s.heap.objs.size := by
      obtain ⟨a1, a2, hTO⟩ := hTO
      obtain ⟨o1, h1, _⟩ := h1
      obtain ⟨o2, h2, _⟩ := h2
      have e' : b = z ∨ b = TI ∨ b = TO ∨ b = i1 ∨ b = i2 := by simpa using hb
      rcases e' with q | q | q | q | q
      · rw [q]
        exact Heap.lt_size hz
      · rw [q]
        exact Heap.lt_size hTI
      · rw [q]
        exact Heap.lt_size hTO
      · rw [q]
        exact Heap.lt_size h1
      · rw [q]
        exact Heap.lt_size h2
    rw [upd_ne (Nat.ne_of_lt (Nat.lt_of_lt_of_le hb' hT))]
    exact (hf b hb).1
  done := by
    intro X hP hw hK hc i pins s σ H E I hf st hg
    subst hP hw hK
    obtain ⟨hz, hTI, hTO, h1, h2⟩ := st
    obtain ⟨xs, hq, hx⟩ := hg
    obtain ⟨its, rv, p, hsz⟩ := I.tuple hq
    have hl : i = min its.toArray.size x.cps.size := by rw [List.size_toArray, ← rv.length, hx]
    subst hl
    have hh : X.A.in1.handled = none := I.ok.hd hc
    have W := GoesN.zip2 (prog := X.prog) (w := X.w) (A := X.A) (elts := elts) (x1 := kk) (pos := tpos) S (Draws.tuple (prog := X.prog) (w := X.w) (A := X.A.in1) hh i1 t ht.1 its.toArray) (Draws.text (prog := X.prog) (w := X.w) (A := X.A.in1) hh i2 x tk0)
    exact W.stops s (fun s1 => Inv X pins σ H s1) E ⟨hz, hTI, hTO, ⟨h1, p⟩, h2⟩ fun h' tk hk _ => I.turnedL (t' := tk) (ch := [z, TI, TO, i1, i2]) (fun b o hb q => hk b o (fun z' => hb (by
      have e' : b = z ∨ b = TO ∨ b = i1 ∨ b = i2 := by simpa using z'
      rcases e' with q | q | q | q <;> simp [q])) q) hf
  self := fun A i s Q E st h => wpAny_pyIter_zip st.1 h
def iZipTS (K : PySem.W.Frag) (ta : TA) : TI := fun σ H R => ta σ H fun vs H1 => ∃ a xs z, vs = [.ref a, .str z] ∧ SqT K H1 a xs ∧ R (ItTS K a z) H1
theorem pi_zipTS {X : Cx} {e e2 : Expr} {ta : TA} {p pos tpos : Pos} {elts : List Expr} {kk : Nat} (hg : Gl X "zip") (hm : X.mg "zip" = none) (ha : PA X [e, e2] ta)
    (hs : starEach [e, e2] X.env = (false, eval e X.env) :: starEach [e2] X.env := by rfl) (hpl : (backTo pos (starEach [e2] X.env)).any (·.1) = false := by rfl) :
    PI X (.Tuple elts kk tpos) (.Call (.Name "zip" p) [e, e2] [] pos) (iZipTS X.K ta) := by
  refine ⟨fun pins s σ H R I h => ?_⟩
  refine Call_ (ld_blt I hg hm PyProof.Rows.boot_zip (PyProof.Rows.callWith_type1 (thn (ha.run pos pins s σ H _ I h) fun us s1 ⟨vs, H1, I1, r1, q1⟩ => ?_) hs hpl))
  obtain ⟨a, xs, z, ex, hq, q⟩ := q1
  subst ex
  cases r1 with
  | cons r rr =>
    cases rr with
    | cons r' rr =>
      cases rr
      cases r
      obtain ⟨tk0, rfl⟩ := r'
      obtain ⟨its, rv, p', hz⟩ := I1.tuple hq
      have hal : a < s1.heap.objs.size := by
        obtain ⟨o, ho, _⟩ := p'
        exact Heap.lt_size ho
      refine zip_begins2 (begins_tuple a its.toArray) (begins_text z tk0) p' trivial fun h' hz' hTI hTO h1 h2 hsz hk => wpAny_pyIter_zip hz' ?_
      have I2 : Inv X pins σ H1 { s1 with heap := h' } := I1.kept (t' := s1.toks) hk
      have n := s1.heap.objs.size
      refine ⟨s1.heap.objs.size + 4, [s1.heap.objs.size + 4, s1.heap.objs.size + 2, s1.heap.objs.size + 3, s1.heap.objs.size, s1.heap.objs.size + 1], _, _, H1, rfl, I2,
        turnTS (t := a) (tk0 := tk0) (x := z) (sepTS hal) (apartTS hal), ⟨hz', hTI, ⟨_, _, hTO⟩, ⟨_, h1, rfl, rfl⟩, ⟨_, h2, rfl, rfl⟩⟩, fun b hb => ?_, q⟩
      have e' : b = s1.heap.objs.size + 4 ∨ b = s1.heap.objs.size + 2 ∨ b = s1.heap.objs.size + 3 ∨ b = s1.heap.objs.size ∨ b = s1.heap.objs.size + 1 := by simpa using hb
      have hle : s1.heap.objs.size ≤ b := by
        rcases e' with z | z | z | z | z
        · rw [z]
          exact Nat.le_add_right _ _
        · rw [z]
          exact Nat.le_add_right _ _
        · rw [z]
          exact Nat.le_add_right _ _
        · rw [z]
          exact Nat.le_refl _
        · rw [z]
          exact Nat.le_add_right _ _
      exact I1.fpOk hle (I1.hok.fresh hle)
/-- a new pair of the i-th of xs and the i-th sign -/
def YTS (xs : List V) (z : Str) : Nat → Hp → V → Hp → Prop := fun i H v H' => ∃ T x c, v = .ref T ∧ H T = none ∧ H' = upd H T (.tup [x, .str ⟨#[c]⟩]) ∧ xs[i]? = some x ∧ z.cps[i]? = some c
theorem walk_TS {K : PySem.W.Frag} {a : Addr} {xs : List V} {z : Str} : Walk (ItTS K a z) (min xs.length z.cps.size) (fun H => SqT K H a xs) (YTS xs z) := by
  refine ⟨fun i _ hi q => ?_, fun _ q => ⟨xs, q, rfl⟩, fun i H v H' _ q y => ?_⟩
  · have h1 : i < xs.length := by omega
    have h2 : i < z.cps.size := by omega
    exact ⟨xs, xs[i], z.cps[i], q, by simp [h1], by simp [h2]⟩
  · obtain ⟨T, x, c, h1, h2, h3, h4, h5⟩ := y
    exact ⟨T, x, c, h1, h2, h3, h4 xs q, h5⟩
end MhX
end
section
set_option Elab.async false
set_option linter.all false
set_option maxRecDepth 100000
set_option maxHeartbeats 4000000
/-! MhR2: o.f as a target; xs.extend(a tuple); xs.count(x) of flat items; len(o), bool(o), str(o), o[i] of an own instance. -/
namespace MhX
open PySem PySem.Spec PyProof.Rows L2
open AutoSeq1 (wpAny_loadPart')

/-! ### o.f as a target -/
def gFld (K : PySem.W.Frag) (to : TE) (f : Str) : TG := fun v σ H Q => to σ H fun x H1 => ∃ a C dx fs, x = .ref a ∧ H1 a = some (.ins C dx fs) ∧ Cls K C ∧ NoAttr K C f ∧ fs.length < 1000 ∧ Q σ (upd H1 a (.ins C dx (putF f v fs)))
theorem pg_fld {X : Cx} {o : Expr} {f : Str} {pos : Pos} {to : TE} (ho : PE X o to)
    (ha : ∀ v, assign (.Attribute o f pos) X.env v = (do
      let ov ← holding [v] (eval o X.env)
      standAt pos.atName
      holding [v, ov] (setAttr ov f v)
      release [v, ov] []) := by intro _; rfl) : PG X (.Attribute o f pos) (gFld X.K to f) := by
  refine ⟨fun pins s σ H v u Q I r h => ?_⟩
  rw [ha]
  refine wpAny_bind (wpAny_holding (thn (ho.run pins s σ H _ I h) fun ov s1 hh => ?_))
  obtain ⟨x, H1, I1, r1, a, C, dx, fs, ex, ea, c, n, l, q⟩ := hh
  subst ex
  obtain rfl : ov = Value.ref a := r1
  refine wpAny_bind (wpAny_standAt (wpAny_bind (wpAny_holding (setattr_ok I1 ea c n l r fun s3 I3 => ?_))))
  exact wpAny_release ⟨σ, _, I3, q⟩

/-! ### xs.extend(a tuple) -/
theorem meetsExtT (l : Addr) (items : Array Value) (n : Nat) (b : Addr) (items2 : Array Value) (n2 : Nat) (dd : Option Addr) (sl : Array (Option Value)) (hs0 : ¬(!items.isEmpty && Builtin.List.listTooLong (items.size + items2.size)) = true) (hs1 : items.size ≤ sizeLine) (hs2 : items.size + items2.size ≤ sizeLine + 1) :
    Meets (Builtin.«list.extend» ⟨[.ref l, .ref b], []⟩) (fun _ R s => s.heap.get? l = some { cls := .type "list", dict := none, data := .seq items n, slots := #[] } ∧ s.heap.get? b = some { cls := .type "tuple", dict := dd, data := .seq items2 n2, slots := sl } ∧
      R (.ok (.ret Value.none)) { s with heap := s.heap.update l (Obj.mapSeq fun x => x ++ items2), toks := s.toks }) :=
  .of_wp fun prog w A R s hh => by
    obtain ⟨hp, g, d, tk, os⟩ := s
    obtain ⟨hl, hb, hR⟩ := hh
    have f1 := AutoSeq1.idx_int
    have f2 := AutoSeq1.sub_tuple_tuple
    have f3 := AutoSeq1.sub_list_list
    have f4 := AutoSeq1.sub_tuple_list
    have f5 := AutoSeq1.sub_list_tuple
    have hz' : (items ++ items2).size ≤ sizeLine + 1 := by rw [Array.size_append]; exact hs2
    wp_walk using (wpAny_updateSeq hl rfl (hz := hs1) (_hz' := hz')), wpAny_loadPart' hl, wpAny_loadPart' hb
    exact ⟨_, rfl, hR⟩
def rExtT (K : PySem.W.Frag) : V → List V → Hp → VK → Prop := fun x vs H Q => ∃ l b xs zs, x = .ref l ∧ vs = [.ref b] ∧ H l = some (.lst xs) ∧ SqT K H b zs ∧ xs.length + zs.length ≤ sizeLine ∧ Q .non (upd H l (.lst (xs ++ zs)))
theorem mt_extT {X : Cx} : MtR X "list.extend" (rExtT X.K) := by
  intro pins s σ H x vs v us Q I rx rv h
  obtain ⟨l, b, xs, zs, rfl, rfl, hH, hB, hz, q⟩ := h
  cases rx
  obtain ⟨u, rfl, ru⟩ := rv.one
  cases ru
  obtain ⟨z, its, n, r, hl, e⟩ := I.lstM hH
  obtain ⟨its2, r2, ⟨⟨c2, dd, dt, sl⟩, e2, hc2, n2, hd2⟩, hz2⟩ := I.tuple hB
  simp only at hc2 hd2
  subst hc2 hd2
  have hl2 := r2.length
  have hsz : its.toArray.size + its2.toArray.size ≤ sizeLine := by rw [List.size_toArray, List.size_toArray]; omega
  have hlong : ¬ (!its.toArray.isEmpty && Builtin.List.listTooLong (its.toArray.size + its2.toArray.size)) = true := by
    rw [notLongL hsz, Bool.and_false]
    exact Bool.false_ne_true
  refine call_meets PySem.F.slot_list_extend ⟨_, e, rfl⟩ PySem.F.entry_list_extend (PySem.F.args_list_extend_2 _ _)
    (meetsExtT l its.toArray n b its2.toArray n2 dd sl hlong (by rw [List.size_toArray]; omega) (by omega)) ⟨e, e2, ?_⟩
  refine ⟨.non, _, I.lset (its' := its ++ its2) hH e (by simp) (r.append r2) ?_, rfl, q⟩
  rw [List.length_append]
  omega

/-! ### xs.count(x), flat items -/
def rCntF (K : PySem.W.Frag) : V → List V → Hp → VK → Prop := fun x vs H Q => ∃ (p : Addr) (xs : List V) (y : V), x = .ref p ∧ vs = [y] ∧ SqL K H p xs ∧ flatV y = true ∧ xs.all flatV = true ∧ Q (.int ((xs.countP fun z => eqV z y : Nat) : Int)) H
theorem count_eqU {x : V} : ∀ {xs : List V} {us : List Value}, Vals xs us → xs.all flatV = true → us.countP (eqU x) = xs.countP fun y => eqV y x
  | [], _, .nil, _ => rfl
  | y :: xs, _, .cons r t, f => by
    rw [List.all_cons, Bool.and_eq_true] at f
    rw [List.countP_cons, List.countP_cons, count_eqU t f.2, eqU_of r f.1]
theorem mt_cntF {X : Cx} : MtR X "list.count" (rCntF X.K) := by
  intro pins s σ H x xs v us Q I rx rxs h
  obtain ⟨p, zs, y, rfl, rfl, hs, fy, fz, q⟩ := h
  cases rx
  obtain ⟨u, rfl, ru⟩ := rxs.one
  obtain ⟨its, rv, ⟨⟨cls, dd, data, sl⟩, n, ho, hc, hdn, hd⟩, hlen⟩ := I.list hs
  simp only at hc hd
  subst hc hd
  refine call_meets PySem.F.slot_list_count ⟨_, ho, rfl⟩ PySem.F.entry_list_count (PySem.F.args_list_count_2 _ _)
    (SeqAt.list_countAt p its.toArray n dd sl u (eqU y)) ⟨ho, fun z hz => mem_eqAt ru fy rv fz z (by simpa using hz), ?_⟩
  refine ⟨.int _, H, I.tok _, ⟨s.toks, ?_⟩, q⟩
  show Value.int ((its.toArray.toList.countP (eqU y) : Nat) : Int) s.toks = Value.int ((zs.countP fun z => eqV z y : Nat) : Int) s.toks
  have e1 : its.toArray.toList = its := by simp
  rw [e1, count_eqU rv fz]

/-! ### a def of the promise sp, called from within a built-in -/
theorem runIn {X : Cx} {pins : List (Addr × Obj)} {σ : L2.St} {H : Hp} {s : Shared} {A' : Around} {k : Nat} {f : Addr} {fd : FuncData} {ps : List Str} {sp : Sp} {vs : List V} {us : List Value} {Q : VK} {E' : Value → Shared → Prop}
    (I : Inv X pins σ H s) (F : FnOk X.prog X.w X.K X.mg X.base CX0 k f fd ps sp) (hr : Room k A') (e0 : Env0 X.prog X.w X.K X.mg X.base A' X.stack s H) (hb : Binds X.K fd ps []) (r : Vals vs us) (h : sp vs H Q E0) :
    wpAny (model X.prog X.w) A' (call (.ref f) us) (EP X pins σ Q) E' s := by
  have hl : (us ++ []).length = ps.length := by
    rw [List.append_nil, ← r.length]
    exact F.len _ _ _ _ h
  have hb' := hb s us I.kIn hl
  rw [List.append_nil] at hb'
  refine wpAny_call (codeAny_mono (F.run A' X.stack s H ⟨us, []⟩ us vs Q E0 hr e0 hb' r h) fun rs s' hq => ?_)
  cases rs with
  | error er => exact False.elim hq
  | ok fl =>
    cases fl with
    | ret u => exact I.after hq
    | next => exact False.elim hq
    | brk => exact False.elim hq
    | cont => exact False.elim hq
theorem insAt {X : Cx} {pins : List (Addr × Obj)} {σ : L2.St} {H : Hp} {s : Shared} {a C dx : Addr} {fs : List (Str × V)} (I : Inv X pins σ H s) (ea : H a = some (.ins C dx fs)) : ∃ ox od, PySem.W.InstAt s.heap a ox C od := by
  obtain ⟨mA, O, _⟩ := ins_get I.hok ea
  obtain ⟨od, J, _⟩ := O.look
  exact ⟨_, _, J⟩

/-- what the written part says of a special method -/
structure Spc (K : PySem.W.Frag) (C : Addr) (m : Str) (f : Addr) : Prop where
  at_ : PySem.W.findIn K (.ref C) m = some (some (.ref f))
  fn : PySem.W.isFn K (.ref f) = true
section
variable {X : Cx} {k : Nat} {f C : Addr} {fd : FuncData} {ps : List Str} {sp : Sp}
/-- len(o) -/
def rLenOwn (C : Addr) (sp : Sp) : List V → Hp → VK → Prop := fun xs H Q => ∃ a dx fs, xs = [.ref a] ∧ H a = some (.ins C dx fs) ∧ sp [.ref a] H (fun v H' => ∃ n : Int, v = .int n ∧ 0 ≤ n ∧ n < 2 ^ 63 ∧ Q (.int n) H') E0
theorem call_lenOwn (S : Spc X.K C "__len__" f) (F : FnOk X.prog X.w X.K X.mg X.base CX0 k f fd ps sp) (hr : Room (k + 1) X.A) (hb : Binds X.K fd ps []) : CallR X (.builtin "len") (rLenOwn C sp) := by
  intro pins s σ H xs us Q I r h
  obtain ⟨a, dx, fs, rfl, ea, h⟩ := h
  obtain ⟨u, rfl, ru⟩ := r.one
  obtain rfl : u = Value.ref a := ru
  obtain ⟨ox, od, J⟩ := insAt I ea
  obtain ⟨m, fr⟩ := I.fr
  refine PySem.W.len_K fr I.ok.mod.kin J S.at_ S.fn (wpAny_mono (runIn I F hr.in1 I.env0.in1 hb (us := [.ref a]) (vs := [.ref a]) (.cons rfl .nil) h) (fun v s' hv => ?_) fun _ _ z => z)
  obtain ⟨v', H', I', rv, n, ev, h0, h1, q⟩ := hv
  subst ev
  obtain ⟨t, rfl⟩ := rv
  exact ⟨⟨h0, h1⟩, .int n, H', I'.tok _, ⟨_, rfl⟩, q⟩
/-- str(o) -/
def rStrOwn (C : Addr) (sp : Sp) : List V → Hp → VK → Prop := fun xs H Q => ∃ a dx fs, xs = [.ref a] ∧ H a = some (.ins C dx fs) ∧ sp [.ref a] H (fun v H' => ∃ z : Str, v = .str z ∧ Q (.str z) H') E0
theorem call_strOwn (S : Spc X.K C "__str__" f) (F : FnOk X.prog X.w X.K X.mg X.base CX0 k f fd ps sp) (hr : Room (k + 2) X.A) (hb : Binds X.K fd ps []) : CallR X (.type "str") (rStrOwn C sp) := by
  intro pins s σ H xs us Q I r h
  obtain ⟨a, dx, fs, rfl, ea, h⟩ := h
  obtain ⟨u, rfl, ru⟩ := r.one
  obtain rfl : u = Value.ref a := ru
  obtain ⟨ox, od, J⟩ := insAt I ea
  have hu : X.A.in1.in1.units < cLine := Nat.lt_of_le_of_lt (Nat.le_add_right _ _) (hu_of hr.in1.in1)
  refine PySem.W.kso_call hu I.kIn J S.at_ S.fn (wpAny_mono (runIn I F hr.in1.in1 I.env0.in1.in1 hb (us := [.ref a]) (vs := [.ref a]) (.cons rfl .nil) h) (fun v s' hv => ?_) fun _ _ z => z)
  obtain ⟨v', H', I', rv, z, ev, q⟩ := hv
  subst ev
  obtain ⟨t, rfl⟩ := rv
  exact ⟨.str z, H', I', ⟨_, rfl⟩, q⟩
/-- bool(o) -/
theorem boolNewOwn {prog : Program} {w : World} {A : Around} {E : Value → Shared → Prop} {s : Shared} {K : PySem.W.Frag} {x C L f : Addr} {h₀ : Heap} {m : Str → Option Value} {ox : Obj} {od : Option Obj} {Q : Value → Shared → Prop} (Fr0 : Fr h₀ L s.heap m) (X₀ : K.In h₀) (J : PySem.W.InstAt s.heap x ox C od) (S : Spc K C "__bool__" f)
    (h : wpAny (model prog w) A.in1.in1 (call (.ref f) [.ref x]) (PySem.W.BoolBack fun b s' => Q (.bool b) s') E s) : wpAny (model prog w) A (call (.type "bool") [.ref x]) Q E s := by
  refine callType_codes (T := "bool") (Bi := Builtin.«object.__init__») (Q₁ := fun r s₁ => ∃ b, r = .bool b ∧ Q r s₁) PySem.F.called_bool (PySem.F.typeCall_bool_1 _) PySem.F.entry_object_init ?_ ?_
  · refine codeAny_of_tree ?_
    show wpAny _ A.in1.in1 (do checkBuiltinCall "bool.__new__" ⟨[.type "bool", .ref x], []⟩; again (.builtin "bool.__new__" ⟨[.type "bool", .ref x], []⟩)) _ _ s
    refine wpAny_bind (wpAny_of_eq (PySem.F.newCall_bool_1 _) (wpAny_pure ⟨plainId_quiet (by decide +kernel) _, codeAny_builtin PySem.F.entry_bool_new ?_⟩))
    rw [Around.under_plainId (by decide +kernel) _]
    unfold Builtin.«bool.__new__»
    refine wpAny_bind (wpAny_pure ?_)
    refine wpAny_bind (wpAny_of_eq PySem.F.conv_sub_bool ?_)
    refine wpAny_bind (wpAny_pure ?_)
    refine wpAny_bind (PySem.W.truthy_K Fr0 X₀ J S.at_ S.fn (wpAny_mono h (fun r s₁ hr => ?_) fun _ _ y => y))
    cases r <;> first | exact hr.elim | skip
    exact wpAny_pure ⟨_, rfl, hr⟩
  · rintro obj s₁ ⟨b, rfl, hq⟩
    exact ⟨rfl, PySem.F.args_object_init_2 _ _, object_init_meets PySem.F.called_bool.init.lookup PySem.F.called_bool.made (by decide) prog w A.in1 _ s₁ ⟨rfl, rfl, hq⟩⟩
def rBoolOwn (C : Addr) (sp : Sp) : List V → Hp → VK → Prop := fun xs H Q => ∃ a dx fs, xs = [.ref a] ∧ H a = some (.ins C dx fs) ∧ sp [.ref a] H (fun v H' => ∃ b : Bool, v = .bl b ∧ Q (.bl b) H') E0
theorem call_boolOwn (S : Spc X.K C "__bool__" f) (F : FnOk X.prog X.w X.K X.mg X.base CX0 k f fd ps sp) (hr : Room (k + 2) X.A) (hb : Binds X.K fd ps []) : CallR X (.type "bool") (rBoolOwn C sp) := by
  intro pins s σ H xs us Q I r h
  obtain ⟨a, dx, fs, rfl, ea, h⟩ := h
  obtain ⟨u, rfl, ru⟩ := r.one
  obtain rfl : u = Value.ref a := ru
  obtain ⟨ox, od, J⟩ := insAt I ea
  obtain ⟨m, fr⟩ := I.fr
  refine boolNewOwn fr I.ok.mod.kin J S (wpAny_mono (runIn I F hr.in1.in1 I.env0.in1.in1 hb (us := [.ref a]) (vs := [.ref a]) (.cons rfl .nil) h) (fun v s' hv => ?_) fun _ _ z => z)
  obtain ⟨v', H', I', rv, b, ev, q⟩ := hv
  subst ev
  obtain rfl : v = Value.bool b := rv
  exact ⟨.bl b, H', I', rfl, q⟩
/-- o[i] -/
def rIxOwn (C : Addr) (sp : Sp) : R2 := fun x y H Q => ∃ a dx fs, x = .ref a ∧ H a = some (.ins C dx fs) ∧ sp [.ref a, y] H Q E0
theorem pe_ixOwn {a b : Expr} {ta tb : TE} {pos : Pos} (S : Spc X.K C "__getitem__" f) (hf : PySem.W.fnIn X.K f = true) (F : FnOk X.prog X.w X.K X.mg X.base CX0 k f fd ps sp) (hr : Room (k + 1) X.A) (hb : Binds X.K fd ps []) (ha : PE X a ta) (hi : PE X b tb)
    (hsl : ∀ v u, subscripted b true v u = runValue (.builtin "lifetime.subscript" ⟨[v, u], []⟩) := by intro _ _; rfl) : PE X (.Subscript a b pos) (tOp (rIxOwn C sp) ta tb) := by
  refine ⟨fun pins s σ H Q I h => ?_⟩
  refine Subscript_ (binT ha hi I h fun v u s2 x y H2 I2 rx ry q => ?_)
  obtain ⟨a, dx, fs, rfl, ea, h⟩ := q
  obtain rfl : v = Value.ref a := rx
  obtain ⟨ox, od, J⟩ := insAt I2 ea
  obtain ⟨m, fr⟩ := I2.fr
  exact PySem.W.sub_K fr I2.ok.mod.kin J S.at_ hf S.fn (runIn (E' := X.xe) I2 F hr.in1 I2.env0.in1 hb (us := [.ref a, u]) (vs := [.ref a, y]) (.cons rfl (.cons ry .nil)) h) (hsl _ _)
end
end MhX
end
section
set_option Elab.async false
set_option linter.all false
set_option maxRecDepth 100000
set_option maxHeartbeats 4000000
/-! MhR3: defs that are called where no repr is under way (FnG); repr of data; a law's end over such a def, with tables. -/
namespace MhX
open PySem PySem.Spec PyProof.Rows L2

/-! ### a def called where no guard is under way -/
structure FnG (P : Program) (w : World) (K : PySem.W.Frag) (mg : Str → Option Value) (base : Heap) (k : Nat) (f : Addr) (fd : FuncData) (ps : List Str) (sp : Sp) : Prop where
  len : ∀ vs H Q E, sp vs H Q E → vs.length = ps.length
  run : ∀ (A : Around) (outer : List Env) (s : Shared) (H : Hp) (args : Args) (us : List Value) (vs : List V) (Q : VK) (E : XK), A.guards = some [] → Room k A → Env0 P w K mg base A outer s H → BindsTo s fd args (ps.zip us) → Vals vs us → sp vs H Q E →
    codeAny (model P w) A (.call (.ref f) args) (CR CX0 outer P w H s Q E) s
section
variable {P : Program} {w : World} {K : PySem.W.Frag} {mg : Str → Option Value} {base : Heap} {f : Addr} {fd : FuncData} {ps : List Str} {sp : Sp} {k : Nat}
theorem FnG.of (F : FnOk P w K mg base CX0 k f fd ps sp) : FnG P w K mg base k f fd ps sp := ⟨F.len, fun A outer s H args us vs Q E _ => F.run A outer s H args us vs Q E⟩
theorem fun_okG {x qual : Str} {st : Stmt} {N : List Str} (F : Fun K x qual st f fd) (S : FnScope N ps (defScope st)) (len : ∀ vs H Q E, sp vs H Q E → vs.length = ps.length)
    (hbody : ∀ (cdv : Value) (A : Around) (outer : List Env) (s : Shared) (H : Hp) (vs : List V) (Q : VK) (E : XK), PySem.W.codeIn K cdv qual = true → fd.code = cdv → A.guards = some [] → Room k (A.deeper (envOfC qual (defScope st) s.heap.objs.size f cdv)) → sp vs H Q E →
      ∃ t, PSs (cxOf CX0 P w K mg base N qual (defScope st) f cdv A outer s H E).nox (defBody st) t ∧ t { nx := fun _ H' => Q .non H', rt := Q } (start N vs) H) : FnG P w K mg base (k + 1) f fd ps sp := by
  obtain ⟨oc, od, kV, doc, pm, an, cdv, ct, osl, rfl, lk, hcd⟩ := F.ex
  refine ⟨len, fun A outer s H args us vs Q E hg hr e0 hb r hsp => ?_⟩
  refine LamX.run_ofS lk hcd S hr e0 hb r (len _ _ _ _ hsp) fun hr' => ?_
  obtain ⟨t, h, q⟩ := hbody cdv A outer s H vs Q E hcd rfl hg hr' hsp
  exact ⟨t, h.nox, q⟩
end
section
variable {X : Cx} {k : Nat} {f : Addr} {fd : FuncData} {ps : List Str} {sp : Sp} {x : Str} {p pos : Pos} {e : Expr} {es : List Expr} {t : TA}
theorem run_fnG {pins : List (Addr × Obj)} {σ : L2.St} {H : Hp} {s : Shared} {Q : VK} {us : List Value} {vs : List V} (F : FnG X.prog X.w X.K X.mg X.base k f fd ps sp) (hg : X.A.guards = some []) (hr : Room k X.A) (hb : Binds X.K fd ps [])
    (I : Inv X pins σ H s) (r : Vals vs us) (h : sp vs H Q E0) : wpAny (model X.prog X.w) X.A (call (.ref f) us) (EP X pins σ Q) X.xe s := by
  have hl : (us ++ []).length = ps.length := by
    rw [List.append_nil, ← r.length]
    exact F.len _ _ _ _ h
  have hb' := hb s us I.kIn hl
  rw [List.append_nil] at hb'
  refine wpAny_call (codeAny_mono (F.run X.A X.stack s H ⟨us, []⟩ us vs Q E0 hg hr I.env0 hb' r h) fun rs s' hq => ?_)
  cases rs with
  | error er => exact False.elim hq
  | ok fl =>
    cases fl with
    | ret u => exact I.after hq
    | next => exact False.elim hq
    | brk => exact False.elim hq
    | cont => exact False.elim hq
def tCallG (sp : Sp) (t : TA) : TE := fun σ H Q => t σ H fun vs H1 => sp vs H1 Q E0
theorem pe_callG (F : FnG X.prog X.w X.K X.mg X.base k f fd ps sp) (hG : X.A.guards = some []) (hr : Room k X.A) (hg : Gl X x) (hm : X.mg x = some (.ref f)) (hk : PySem.W.keepIn X.K (.ref f) = true) (hb : Binds X.K fd ps [])
    (ha : PA X (e :: es) t) (hdb : (x == ("__debug__" : Str)) = false := by decide) (he : starEach (e :: es) X.env = (false, eval e X.env) :: starEach es X.env := by rfl) (hpl : (backTo pos (starEach es X.env)).any (·.1) = false := by rfl) :
    PE X (.Call (.Name x p) (e :: es) [] pos) (tCallG sp t) := by
  refine ⟨fun pins s σ H Q I h => ?_⟩
  refine wpAny_Call_Name_kw (ld_glob I hg hm ?_ hdb)
  refine PySem.W.callWith_K (h₀ := X.base) I.ok.mod.kin hk (thn (ha.run pos pins s σ H _ I h) fun us s1 hh => ?_) he hpl
  obtain ⟨vs, H1, I1, r, q⟩ := hh
  exact ⟨I1.kIn, run_fnG F hG hr hb I1 r q⟩

/-! ### repr of data -/
theorem depth_str (z : Str) : (PyData.str z).depth = 0 := by first | rfl | simp [PyData.depth]
def rRepr (K : PySem.W.Frag) (n : Nat) : List V → Hp → VK → Prop := fun xs H Q => ∃ (a : Addr) (d : PyData), xs = [.ref a] ∧ Dp K H (.ref a) d ∧ d.showable = true ∧ d.hasDict = false ∧ d.depth ≤ n ∧ d.shown.length ≤ sizeLine ∧ Q (.str d.shown) H
theorem call_reprD {n : Nat} (hG : X.A.guards = some []) (hr : Room 1 X.A) (hn : n ≤ 50) : CallR X (.builtin "repr") (rRepr X.K n) := by
  intro pins s σ H xs us Q I r h
  obtain ⟨a, d, rfl, hd, hs, hdc, hdp, hz, q⟩ := h
  obtain ⟨u, rfl, ru⟩ := r.one
  obtain rfl : u = Value.ref a := ru
  obtain ⟨as, hR⟩ := Dp.reads I d (.ref a) (.ref a) hd rfl
  have hu := hr.un
  refine repr_of_reads' hR hs (fun z => by rw [hdc] at z; cases z) hG (by omega) (fun _ _ e => e) (fun h' u tk hk => ?_) hz
  exact ⟨.str d.shown, H, I.kept (t' := tk) hk, ⟨u, rfl⟩, q⟩
end

/-! ### the law's end over a guarded def, with tables of code objects -/
open LamX (TabB) in
/-- what is known of a heap in which nothing but the tables ts and the script at a is tracked -/
structure Ground0 (H : Hp) (ts : List Addr) (a : Addr) : Prop where
  tab : ∀ t ∈ ts, H t = some (.tbl #[])
  only : ∀ b, H b ≠ none → b = a ∨ b ∈ ts
  frz : a ∉ ts → H a = none ∨ ∃ o xs, H a = some (.frz o (.lst xs))
open LamX (TabB) in
theorem lawCore {P : Program} {w : World} {K : PySem.W.Frag} {mg mb : Str → Option Value} {k : Nat} {fa a : Addr} {cs : List (Addr × Addr)} {fd : FuncData} {x : Str} {sp : Sp} {s1 : Shared} {vs : List Value} {H : Hp}
    (KX : K.In s1.heap) (hns : s1.heap.Ns mainGlobals mg) (hb : s1.heap.Ns builtinsNs mb) (hbb : ∀ x : Str, x ≠ "__name__" → mb x = bootBuiltins x) (hlim : s1.heap.NoLimit) (hg : s1.gens = #[])
    (hT : ∀ p ∈ cs, s1.heap.get? p.2 = some { cls := .none, data := .fields #[] }) (nT : ∀ p ∈ cs, K.lookup p.2 = none) (C : ∀ p ∈ cs, PySem.W.CodeHd s1.heap p.1 p.2)
    (hbm : ∃ (bm : Addr) (ob : Obj), mg "__builtins__" = some (.ref bm) ∧ bm ≠ builtinsNs ∧ s1.heap.get? bm = some ob ∧ ob.cls = .type "module" ∧ ob.dict = some builtinsNs ∧ ob.data = .plain)
    (ha : s1.heap.get? a = some { cls := .type "list", data := .seq vs.toArray }) (hr : Room k callerA)
    (F : ∀ base : Heap, K.In base → base.Ns mainGlobals mg → (∀ p ∈ cs, TabB base mg p.1 p.2) → FnG P w K mg base k fa fd [x] sp) (hbind : ∀ (s : Shared) (u : Value), BindsTo s fd ⟨[u], []⟩ [(x, u)])
    (G : Ground0 H (cs.map (·.2)) a) (hok : HOk P w H s1.heap) (hK : H a ≠ none → K.lookup a = none) (hsp : sp [.ref a] H (fun v _ => v = .bl true) E0) :
    codeAny (model P w) callerA (.call (.ref fa) ⟨[.ref a], []⟩) (fun r s' => r = .ok (.ret (.bool true)) ∧ OldK s1.heap s'.heap ∧ s'.os = s1.os ∧ AllBare s'.gens) s1 := by
  have isT : ∀ b : Addr, b ∈ cs.map (·.2) → s1.heap.get? b = some { cls := .none, data := .fields #[] } := fun b hb => by
    obtain ⟨p, hp, e⟩ := List.mem_map.mp hb
    rw [← e]
    exact hT p hp
  have memT : ∀ p ∈ cs, p.2 ∈ cs.map (·.2) := fun p hp => List.mem_map.mpr ⟨p, hp, rfl⟩
  have aT : a ∉ cs.map (·.2) := fun z => by
    have q := isT a z
    rw [ha] at q
    have q2 : Data.seq vs.toArray _ = Data.fields #[] := congrArg Obj.data (Option.some.inj q)
    cases q2
  -- what is neither a list nor an empty record is not tracked
  have free : ∀ {b : Addr} {o : Obj}, s1.heap.get? b = some o → (∀ l n, o.data ≠ .seq l n) → o.data ≠ .fields #[] → H b = none := fun {b o} e h1 h2 => by
    cases q : H b with
    | none => rfl
    | some u =>
      rcases G.only b (by rw [q]; simp) with z | z
      · rw [z, ha] at e
        cases e
        exact absurd rfl (h1 _ _)
      · rw [isT b z] at e
        cases e
        exact absurd rfl h2
  have stays : ∀ {b : Addr} {o : Obj}, s1.heap.get? b = some o → H b = none → (hidT s1.heap H).get? b = some o := fun e n => hidT_get e n
  have freeD : ∀ {b : Addr} {o : Obj} {es : Array DictEntry} {n : Nat}, s1.heap.get? b = some o → o.data = .dict es n → H b = none := fun {b o es n} e d =>
    free e (fun l m z => by rw [d] at z; cases z) fun z => by rw [d] at z; cases z
  have freeP : ∀ {b : Addr} {o : Obj}, s1.heap.get? b = some o → o.data = .plain → H b = none := fun {b o} e d =>
    free e (fun l m z => by rw [d] at z; cases z) fun z => by rw [d] at z; cases z
  have nsS : ∀ {b : Addr} {m : Str → Option Value}, s1.heap.Ns b m → (hidT s1.heap H).Ns b m := fun {b m} z => by
    obtain ⟨o, es, ep, e, d, r⟩ := z
    exact ⟨o, es, ep, stays e (freeD e d), d, r⟩
  have kS : K.In (hidT s1.heap H) := fun b o e => stays (KX b o e) (by
    cases q : H b with
    | none => rfl
    | some u =>
      rcases G.only b (by rw [q]; simp) with z | z
      · rw [z] at e q
        rw [hK (by rw [q]; simp)] at e
        cases e
      · obtain ⟨p, hp, ep⟩ := List.mem_map.mp z
        rw [← ep, nT p hp] at e
        cases e)
  obtain ⟨mc, hl1, hl2⟩ := hlim
  have hM : Mod K mg (hidT s1.heap H) := ⟨kS, nsS hns, ⟨mb, nsS hb, hbb⟩, ⟨mc, nsS hl1, hl2⟩⟩
  have TB : ∀ p ∈ cs, TabB (hidT s1.heap H) mg p.1 p.2 := fun p hp => by
    refine ⟨?_, ?_, fun z => ?_⟩
    · obtain ⟨o, us, file, tf, flags, tg, inF, text, tt, e1, r1, r2, r3, r4, r5, r6, r7, r8, hne⟩ := C p hp
      refine ⟨o, us, file, tf, flags, tg, inF, text, tt, stays e1 (free e1 (fun l m z => ?_) fun z => ?_), r1, r2, r3, r4, r5, r6, r7, r8, hne⟩
      · rw [r2] at z
        cases z
      · rw [r2] at z
        cases z
        simp at r3
    · obtain ⟨bm, ob, b1, b2, b3, b4, b5, b6⟩ := hbm
      refine ⟨bm, ob, b1, b2, fun q => ?_, fun q => ?_, stays b3 (freeP b3 b6), b4, b5, b6⟩
      · obtain ⟨o, es, ep, e, d, _⟩ := hns
        rw [q, e] at b3
        cases b3
        rw [d] at b6
        cases b6
      · rw [q, hT p hp] at b3
        cases b3
        cases b6
    · obtain ⟨o, es, ep, e, d, _⟩ := hns
      rw [z, hT p hp] at e
      cases e
      cases d
  have e0 : Env0 P w K mg (hidT s1.heap H) callerA [] s1 H := ⟨rfl, hM, fun b o e => of_hidT e, Nat.le_of_eq (hidT_size _ _), trivial, fun b z => absurd (show b ∈ ([] : List Addr) from z) (by simp), hok, .of_eq hg⟩
  refine codeAny_mono ((F _ kS (nsS hns) TB).run callerA [] s1 H ⟨[.ref a], []⟩ [.ref a] [.ref a] _ _ rfl hr e0 (hbind s1 (.ref a)) (.cons rfl .nil) hsp) fun r s' h => ?_
  cases r with
  | error e => exact False.elim h
  | ok fl =>
    cases fl with
    | next => exact False.elim h
    | brk => exact False.elim h
    | cont => exact False.elim h
    | ret u =>
      obtain ⟨v, H', os, bare, un, hok', ru, ev⟩ := h
      have ev' : v = .bl true := ev
      subst ev'
      obtain rfl : u = Value.bool true := ru
      have old : ∀ b o, b ∉ cs.map (·.2) → s1.heap.get? b = some o → s'.heap.get? b = some o := fun b o nb e => by
        cases q : H b with
        | none => exact un.keep b o e q (fun z => absurd (show b ∈ ([] : List Addr) from z) (by simp)) (by simp)
        | some u =>
          rcases G.only b (by rw [q]; simp) with z | z
          · subst z
            rcases G.frz aT with z | ⟨ob, xs, z⟩
            · rw [q] at z
              cases z
            · obtain ⟨e1, _⟩ := hok b _ z
              obtain ⟨e2, _⟩ := hok' b _ (un.frzs b ob _ z)
              rw [e] at e1
              cases e1
              exact e2
          · exact absurd z nb
      have grew : ∀ p ∈ cs, ∃ more : Array Value, s'.heap.get? p.2 = some { cls := .none, data := .fields more } := fun p hp => by
        obtain ⟨more, z⟩ := un.tbls p.2 #[] (G.tab _ (memT p hp))
        exact ⟨_, hok' p.2 _ z⟩
      refine ⟨rfl, ⟨fun b o e => ?_, fun b o e => ?_⟩, os, bare⟩
      · by_cases hb : b ∈ cs.map (·.2)
        · obtain ⟨p, hp, ep⟩ := List.mem_map.mp hb
          obtain ⟨more, hm⟩ := grew p hp
          rw [← ep] at e ⊢
          rw [hT p hp] at e
          cases e
          exact .inr (.inl ⟨((C p hp).tab (hT p hp)).isCodeTable, rfl, #[], more, rfl, by rw [Array.empty_append]; exact hm⟩)
        · exact .inl (old b o hb e)
      · by_cases hb : b ∈ cs.map (·.2)
        · obtain ⟨p, hp, ep⟩ := List.mem_map.mp hb
          obtain ⟨more, hm⟩ := grew p hp
          rw [← ep]
          exact ⟨_, hm⟩
        · exact ⟨o, old b o hb e⟩
open LamX (TabB) in
theorem lawCallG {P : Program} {w : World} {K : PySem.W.Frag} {mg mb : Str → Option Value} {k : Nat} {fa a : Addr} {cs : List (Addr × Addr)} {fd : FuncData} {x : Str} {sp : Sp} {s1 : Shared} {vs : List Value} {ns : List Int}
    (KX : K.In s1.heap) (hns : s1.heap.Ns mainGlobals mg) (hb : s1.heap.Ns builtinsNs mb) (hbb : ∀ x : Str, x ≠ "__name__" → mb x = bootBuiltins x) (hlim : s1.heap.NoLimit) (hg : s1.gens = #[])
    (hT : ∀ p ∈ cs, s1.heap.get? p.2 = some { cls := .none, data := .fields #[] }) (nT : ∀ p ∈ cs, K.lookup p.2 = none) (C : ∀ p ∈ cs, PySem.W.CodeHd s1.heap p.1 p.2)
    (hbm : ∃ (bm : Addr) (ob : Obj), mg "__builtins__" = some (.ref bm) ∧ bm ≠ builtinsNs ∧ s1.heap.get? bm = some ob ∧ ob.cls = .type "module" ∧ ob.dict = some builtinsNs ∧ ob.data = .plain)
    (ha : s1.heap.get? a = some { cls := .type "list", data := .seq vs.toArray }) (hi : IntsAre vs ns) (hl : ns.length ≤ sizeLine) (hr : Room k callerA)
    (F : ∀ base : Heap, K.In base → base.Ns mainGlobals mg → (∀ p ∈ cs, TabB base mg p.1 p.2) → FnG P w K mg base k fa fd [x] sp) (hbind : ∀ (s : Shared) (u : Value), BindsTo s fd ⟨[u], []⟩ [(x, u)])
    (hsp : ∀ H : Hp, (∀ p ∈ cs, H p.2 = some (.tbl #[])) → SqL K H a (ns.map V.int) → sp [.ref a] H (fun v _ => v = .bl true) E0) :
    codeAny (model P w) callerA (.call (.ref fa) ⟨[.ref a], []⟩) (fun r s' => r = .ok (.ret (.bool true)) ∧ OldK s1.heap s'.heap ∧ s'.os = s1.os ∧ AllBare s'.gens) s1 := by
  have rv := vals_ints hi
  have lenV := hi.length
  have isT : ∀ b : Addr, b ∈ cs.map (·.2) → s1.heap.get? b = some { cls := .none, data := .fields #[] } := fun b hb => by
    obtain ⟨p, hp, e⟩ := List.mem_map.mp hb
    rw [← e]
    exact hT p hp
  have memT : ∀ p ∈ cs, p.2 ∈ cs.map (·.2) := fun p hp => List.mem_map.mpr ⟨p, hp, rfl⟩
  have aT : a ∉ cs.map (·.2) := fun z => by
    have q := isT a z
    rw [ha] at q
    have q2 : Data.seq vs.toArray _ = Data.fields #[] := congrArg Obj.data (Option.some.inj q)
    cases q2
  cases hk : K.lookup a with
  | some o =>
    have e := KX a o hk
    rw [ha] at e
    cases e
    have hH : ∀ b, b ∈ cs.map (·.2) → (fun b => if b ∈ cs.map (·.2) then some (HO.tbl #[]) else none : Hp) b = some (.tbl #[]) := fun b z => if_pos z
    have hH0 : ∀ b, b ∉ cs.map (·.2) → (fun b => if b ∈ cs.map (·.2) then some (HO.tbl #[]) else none : Hp) b = none := fun b z => if_neg z
    refine lawCore (H := fun b => if b ∈ cs.map (·.2) then some (.tbl #[]) else none) KX hns hb hbb hlim hg hT nT C hbm ha hr F hbind ⟨hH, fun b z => ?_, fun _ => .inl (hH0 a aT)⟩ (fun b u z => ?_) (fun z => absurd (hH0 a aT) z)
      (hsp _ (fun p hp => hH _ (memT p hp)) (.inr ⟨_, vs.toArray, _, hk, rfl, rfl, rfl, by rw [List.size_toArray, lenV]; exact hl, by simpa using rv⟩))
    · by_cases hb : b ∈ cs.map (·.2)
      · exact .inr hb
      · exact absurd (hH0 b hb) z
    · by_cases hb : b ∈ cs.map (·.2)
      · have q := (hH b hb).symm.trans z
        cases q
        exact isT b hb
      · have q := (hH0 b hb).symm.trans z
        cases q
  | none =>
    have hA : (fun b => if b = a then some (HO.frz { cls := .type "list", data := .seq vs.toArray } (.lst (ns.map V.int))) else if b ∈ cs.map (·.2) then some (HO.tbl #[]) else none : Hp) a = some (.frz { cls := .type "list", data := .seq vs.toArray } (.lst (ns.map V.int))) := if_pos rfl
    have hH : ∀ b, b ∈ cs.map (·.2) → (fun b => if b = a then some (HO.frz { cls := .type "list", data := .seq vs.toArray } (.lst (ns.map V.int))) else if b ∈ cs.map (·.2) then some (HO.tbl #[]) else none : Hp) b = some (.tbl #[]) :=
      fun b z => (if_neg (show ¬ b = a from fun y => aT (y ▸ z))).trans (if_pos z)
    have hH0 : ∀ b, ¬ b = a → b ∉ cs.map (·.2) → (fun b => if b = a then some (HO.frz { cls := .type "list", data := .seq vs.toArray } (.lst (ns.map V.int))) else if b ∈ cs.map (·.2) then some (HO.tbl #[]) else none : Hp) b = none :=
      fun b y z => (if_neg y).trans (if_neg z)
    refine lawCore (H := fun b => if b = a then some (.frz { cls := .type "list", data := .seq vs.toArray } (.lst (ns.map V.int))) else if b ∈ cs.map (·.2) then some (.tbl #[]) else none) KX hns hb hbb hlim hg hT nT C hbm ha hr F hbind
      ⟨hH, fun b z => ?_, fun _ => .inr ⟨_, _, hA⟩⟩ (fun b u z => ?_) (fun _ => hk) (hsp _ (fun p hp => hH _ (memT p hp)) (.inl (.inr ⟨_, hA⟩)))
    · by_cases h1 : b = a
      · exact .inl h1
      · by_cases h2 : b ∈ cs.map (·.2)
        · exact .inr h2
        · exact absurd (hH0 b h1 h2) z
    · by_cases h1 : b = a
      · subst h1
        have q := hA.symm.trans z
        cases q
        exact ⟨ha, by rw [List.length_map]; exact hl, vs, _, rv, ha⟩
      · by_cases h2 : b ∈ cs.map (·.2)
        · have q := (hH b h2).symm.trans z
          cases q
          exact isT b h2
        · have q := (hH0 b h1 h2).symm.trans z
          cases q
/-- what is known of the law's promise at the head's heap -/
def LawG (l : PySem.W.OpenLaw) (w : World) (K : PySem.W.Frag) (k n : Nat) (x : Str) (mg : Str → Option Value) (fa : Addr) (h : Heap) : Prop :=
  ∃ (fd : FuncData) (cs : List (Addr × Addr)) (sp : Sp), (∀ p ∈ cs, h.get? p.2 = some { cls := .none, data := .fields #[] }) ∧ (∀ p ∈ cs, K.lookup p.2 = none) ∧ (∀ p ∈ cs, PySem.W.CodeHd h p.1 p.2) ∧ (∀ (s : Shared) (u : Value), BindsTo s fd ⟨[u], []⟩ [(x, u)]) ∧
    (∀ (H : Hp) (a : Addr) (ns : List Int), ns.length ≤ n → (∀ p ∈ cs, H p.2 = some (.tbl #[])) → SqL K H a (ns.map V.int) → sp [.ref a] H (fun v _ => v = .bl true) E0) ∧
    ∀ base : Heap, K.In base → base.Ns mainGlobals mg → (∀ p ∈ cs, LamX.TabB base mg p.1 p.2) → FnG l.prog w K mg base k fa fd [x] sp
theorem walkG {l : PySem.W.OpenLaw} {n k : Nat} {q : Program} {loose : List Str} {XP : (Str → Option Value) → Heap → Prop} {YP : World → Heap → Prop} {d : DefRec} {x : Str}
    (hn : l.most = some n) (hn2 : n ≤ sizeLine) (hdf : d.params.defaults = []) (hr : Room k callerA)
    (F : ∀ (w : World) (mg : Str → Option Value) (fa : Addr) (h : Heap), YP w h → h.Ns mainGlobals mg → mg d.name = some (.ref fa) → ∃ K : PySem.W.Frag, K.In h ∧ LawG l w K k n x mg fa h) :
    PySem.W.WalkO q loose XP YP l.row.toRowW d [] (fun f vs => PySem.call f vs) := by
  refine Att.attach_callB hn hdf fun w s0 s1 mg mb fa o pm cd doc a vs ns G Y ho hd hcd hmg hobj hints hlen hbits hg => ?_
  obtain ⟨K, KX, fd, cs, sp, hT, nT, C, hb, hsp, hF⟩ := F w mg fa _ Y G.T.g hmg
  exact lawCallG KX G.T.g G.T.b G.T.builtins G.T.nolimit hg hT nT C G.T.bmain hobj hints (Nat.le_trans hlen hn2) hr hF hb fun H hH hS => hsp H a ns hlen hH hS
end MhX
end
section
set_option Elab.async false
set_option linter.all false
set_option maxRecDepth 100000
set_option maxHeartbeats 4000000
/-! MhR4: an own exception class over an own class over ArithmeticError, with __init__(self, index): self.index = index: made and raised. (Begun from the block of skel/42_own_error_by_import, which is for classes straight over ValueError.) -/
namespace PySem
namespace MhE
open PySem.W PySem.Calls PyProof.Rows PySem.HandSPX
abbrev aeTail : List Value := [.type "ArithmeticError", .type "Exception", .type "BaseException", .type "object"]
/-! ### the text of __init__ -/
def ixA (p1 p2 : Pos) : Arguments := { posonlyargs := [], args := [{ arg := "self", annotation := none, pos := p1 }, { arg := "index", annotation := none, pos := p2 }], vararg := none, kwonlyargs := [], kw_defaults := [], kwarg := none, defaults := [] }
def ixB (q1 q2 q3 q4 : Pos) : List Stmt := [.Assign [.Attribute (.Name "self" q1) "index" q2] (.Name "index" q3) q4]
def ixS : Scope := { kind := .function, names := [(PySem.Str.ofString "self", .local), (PySem.Str.ofString "index", .local)], isGenerator := false, isCoroutine := false, more := [] }
/-- what the written part says of the class x, at C, and of its __init__, at fI -/
structure IxT (K : Frag) (mg : Str → Option Value) (x qual : Str) (C fI : Addr) : Prop where
  gC : mg x = some (.ref C)
  cls : excInitIn K C aeTail "ArithmeticError.__new__" = true
  over : excOver K C aeTail = true
  sa : findIn K (.ref C) "__setattr__" = some (some (.builtin "object.__setattr__"))
  ga : findIn K (.ref C) "__getattribute__" = some (some (.builtin "BaseException.__getattribute__"))
  gg : findIn K (.ref C) "__getattr__" = some none
  noN : findIn K (.ref C) "index" = some none
  iC : findIn K (.ref C) "__init__" = some (some (.ref fI))
  tC : typeIn K (.ref fI) = some (.type "function")
  kC : keepIn K (.ref C) = true
  exC : subIn K (.ref C) (.type "BaseException") = some true
  tyC : typeIn K (.ref C) = some (.type "type")
  hdC : hasDictIn K C = true
  fn : ∃ (oc : Value) (od : Option Addr) (doc pm : Value) (an : Option Addr) (cdv ct : Value) (osl : Array (Option Value)) (p1 p2 q1 q2 q3 q4 : Pos) (kV : Value),
    K.lookup fI = some ⟨oc, od, .func (fnOf "__init__" qual (ixA p1 p2) (ixB q1 q2 q3 q4) ixS .none kV doc pm an cdv ct), osl⟩ ∧ codeIn K cdv qual = true
section
open Builtin Builtin.ObjectAttr
variable {prog : Program} {w : World} {A : Around} {E : Value → Shared → Prop} {R : Result → Shared → Prop} {hp : Heap} {g : Array GenState} {d : Drawn} {t : Nat} {os : OsState} {K : Frag}
theorem any_has {C : Addr} (h : hasDictIn K C = true) : ∃ cd, clsIn K C = some cd ∧ cd.hasDict = true := by
  obtain ⟨cd, h1, h2⟩ := any_some h
  exact ⟨cd, h1, h2⟩
/-- self.name = v on an exception that has no dict yet -/
theorem osaNew {name : Str} {tk : Tok} {v : Value} {x C : Addr} {fv : Array Value} (X : K.In hp) (hx : hp.get? x = some { cls := .ref C, data := .fields fv }) (ho : excOver K C aeTail = true) (hh : hasDictIn K C = true) (ha : findIn K (.ref C) name = some none)
    (hq : ∀ h' tk' dx, (∀ b o, b ≠ x → hp.get? b = some o → h'.get? b = some o) → hp.objs.size ≤ dx → dx ≠ x → h'.get? x = some { cls := .ref C, dict := some dx, data := .fields fv } →
      h'.Ns1 dx (fun y => if y = name then some v else none) → R (.ok (.ret .none)) ⟨h', g, d, tk', os⟩) :
    codeAny (model prog w) A (.call (.builtin "object.__setattr__") ⟨[.ref x, .str name tk, v], []⟩) R ⟨hp, g, d, t, os⟩ := by
  obtain ⟨cd, hcd, hdt⟩ := any_has hh
  have I : InstAt hp x { cls := .ref C, data := .fields fv } C none := ⟨hx, rfl, rfl, trivial⟩
  have hxs : x ≠ hp.objs.size := Nat.ne_of_lt (Heap.lt_size hx)
  have hcls : Looks (model prog w) hp (classData C) cd := looks_clsIn X hcd
  refine osa_openX (s := ⟨hp, g, d, t, os⟩) PySem.F.store_ArithmeticError X I ho (r := none) (by unfold takerIn; rw [ha]; rfl) fun b => ?_
  show wpAny _ _ (storeInOwnDict (.ref x) (.ref C) (.str name tk) name v b) _ _ _
  obtain ⟨nm, bs, mro, ns, qn, hd, sn, sb, ab, col, del⟩ := cd
  dsimp only at hdt
  subst hdt
  unfold storeInOwnDict ownDictForStores
  repeat (first | with_reducible refine store_in_new ?_ ?_ | with_reducible refine wpAny_loadPart_at hx ?_ | with_reducible refine hcls.at ?_ | wp_step)
  · exact ⟨_, #[], _, (Heap.get?_update_ne _ _ _ _ hxs.symm).trans (Heap.get?_push_at rfl rfl), rfl, fun e he => absurd he (by simp), fun _ => rfl⟩
  · intro h' tk' hn' hs
    have hx1 : (hp.push { cls := .type "dict", data := .dict #[] }).get? x = some { cls := .ref C, data := .fields fv } := Heap.get?_push_of_some _ hx
    refine hq h' tk' hp.objs.size (fun b o hb ho => ?_) (Nat.le_refl _) hxs.symm ?_ hn'
    · exact (hs.2 b (Nat.ne_of_lt (Heap.lt_size ho))).trans ((Heap.get?_update_ne _ _ _ _ hb).trans (Heap.get?_push_of_some _ ho))
    · exact (hs.2 x hxs).trans (Heap.get?_update_self _ hx1 rfl)
end
theorem oneSize (v : Value) : [v].length ≤ sizeLine := by
  rw [sizeLine_eq]
  exact (by decide : 1 ≤ 16777216)
theorem nameHere {M : Model} {s : Shared} {name : Str} {scope : Scope} {L a : Addr} {cd : Value} {m : Str → Option Value} {x : Str} {pos : Pos} {v : Value} {Q : Value → Shared → Prop} {A : Around} {E : Value → Shared → Prop} (hn : s.heap.Ns L m) (hv : m x = some v) (h : Q v s)
    (hk : scope.kind = .function := by rfl) (hl : (envOfC name scope L a cd).kindOf x = some .local := by rfl) (hd : (x == ("__debug__" : Str)) = false := by decide) :
    wpAny M A (eval (.Name x pos) (envOfC name scope L a cd)) Q E s := wpAny_Name (wpAny_loadName_local hk hl hn hv h) hd
/-- what __init__ leaves of a fresh exception at x -/
structure IxEnd (h h' : Heap) (x C dx t1 : Addr) (v : Value) : Prop where
  keep : ∀ b o, b ≠ x → h.get? b = some o → h'.get? b = some o
  obj : h'.get? x = some { cls := .ref C, dict := some dx, data := .fields #[.ref t1, .none, .none, .none, .bool false, .none] }
  dbig : h.objs.size ≤ dx
  dne : dx ≠ x
  ns : h'.Ns1 dx (fun y => if y = "index" then some v else none)
/-- a made one -/
structure IxMade (h h' : Heap) (e C d : Addr) (v : Value) : Prop where
  keep : ∀ b o, h.get? b = some o → h'.get? b = some o
  new : h.objs.size ≤ e
  obj : ∃ oe vs, h'.get? e = some oe ∧ oe.cls = .ref C ∧ oe.dict = some d ∧ oe.data = .fields vs ∧ vs[1]? = some .none
  dbig : h.objs.size ≤ d
  dne : d ≠ e
  ns : h'.Ns1 d (fun y => if y = "index" then some v else none)
section
variable {prog : Program} {w : World} {A : Around} {E : Value → Shared → Prop} {R : Result → Shared → Prop} {s : Shared} {K : Frag} {mg : Str → Option Value} {x qual : Str} {C fI : Addr}
theorem ixInit (T : IxT K mg x qual C fI) {z t0 : Addr} {v : Value} (X : K.In s.heap) (hlim : s.heap.NoLimit) (hx : s.heap.get? z = some (excO C t0)) (hroom : A.depth < recursionLimit)
    (hq : ∀ h' tk dx, IxEnd s.heap h' z C dx t0 v → R (.ok (.ret .none)) { s with heap := h', toks := tk }) :
    codeAny (model prog w) A (.call (.ref fI) ⟨[.ref z, v], []⟩) R s := by
  obtain ⟨oc, od, doc, pm, an, cdv, ct, osl, p1, p2, q1, q2, q3, q4, kV, ho, hcd⟩ := T.fn
  refine Att.call_fn (binds := [("self", .ref z), ("index", v)]) X hlim ho hcd hroom (BindsTo.of_eq (by first | rfl | with_unfolding_all rfl)) (by first | rfl | decide | with_unfolding_all rfl) (fun s1 IC => ?_) rfl rfl rfl
  obtain ⟨h1, tk1, rfl⟩ := IC.toInCall.same
  have k : ∀ b o, s.heap.get? b = some o → h1.get? b = some o := IC.toInCall.keep
  have hn := IC.toInCall.ns
  have X1 : K.In h1 := X.keeps k
  have hx1 := k _ _ hx
  show wpAny _ _ (execs _ _) _ _ _
  refine wpAny_execs_cons (plainObj_wpAny_Assign_Attribute ?_)
  refine nameHere (v := v) hn (by first | rfl | with_unfolding_all rfl | kernel_rfl) (nameHere (v := .ref z) hn (by first | rfl | with_unfolding_all rfl | kernel_rfl) ?_)
  refine set_plain X1 (ox := excO C t0) (od := none) ⟨hx1, rfl, rfl, trivial⟩ T.sa ?_
  refine osaNew X1 hx1 T.over T.hdC T.noN (fun h3 tk3 dx k3 dn dne hx3 hn3 => ?_)
  show wpAny _ _ (execs _ _) _ _ _
  have hlt : s.heap.objs.size < h1.objs.size := hn.lt
  exact wpAny_execs_nil (hq h3 tk3 dx ⟨fun b o hb e => k3 b o hb (k b o e), hx3, Nat.le_of_lt (Nat.lt_of_lt_of_le hlt dn), dne, hn3⟩)
theorem ixMade (T : IxT K mg x qual C fI) {v : Value} (X : K.In s.heap) (hlim : s.heap.NoLimit) (hroom : A.depth + 1 < recursionLimit)
    (hq : ∀ h' tk e d, IxMade s.heap h' e C d v → R (.ok (.ret (.ref e))) { s with heap := h', toks := tk }) :
    codeAny (model prog w) A (.call (.ref C) ⟨[v], []⟩) R s := by
  obtain ⟨nm, N, qn, bs, bm, hdct, sn, sub, ab, col, dd, k0, k1, k2, k3, k5, hC, hT⟩ := excInit_of X T.cls
  obtain ⟨hp, g, dr, tk, os⟩ := s
  have k : ∀ b o, hp.get? b = some o → ((hp.push (kdv_tup [v])).push (excO C hp.objs.size)).get? b = some o := fun b o e => Heap.get?_push_of_some _ (Heap.get?_push_of_some _ e)
  have hget : ((hp.push (kdv_tup [v])).push (excO C hp.objs.size)).get? (hp.objs.size + 1) = some (excO C hp.objs.size) := by heap_get
  refine HandSPX.call_own F.excBase_ArithmeticError hT hC (looks_findIn X T.iC) (fun self => bind_fn X self T.tC) (oneSize v) ?_
  refine ixInit (s := ⟨(hp.push (kdv_tup [v])).push (excO C hp.objs.size), g, dr, tk, os⟩) T (X.keeps k) (hlim.keeps k) hget ?_ fun h' tk' dx M => ?_
  · show A.depth + 1 < recursionLimit
    exact hroom
  · have old : ∀ b o, hp.get? b = some o → h'.get? b = some o := fun b o e => M.keep b o (Nat.ne_of_lt (Nat.lt_succ_of_lt (Heap.lt_size e))) (k b o e)
    have dn := M.dbig
    have z : hp.objs.size + 1 + 1 ≤ dx := by
      first
        | (simpa only [Heap.size_push] using dn)
        | exact dn
        | (have q := dn; rw [Heap.size_push, Heap.size_push] at q; exact q)
    exact ⟨rfl, hq h' tk' (hp.objs.size + 1) dx ⟨old, Nat.le_succ _, ⟨_, _, M.obj, rfl, rfl, rfl, rfl⟩, Nat.le_trans (Nat.le_trans (Nat.le_succ _) (Nat.le_succ _)) z, M.dne, M.ns⟩⟩
end
end MhE
end PySem
namespace MhX
open PySem PySem.Spec PyProof.Rows L2
/-- the dict of such an error -/
def ixD (v : V) : List (Str × V) := [(("index" : Str), v)]
theorem ixD_at (v : V) : (ixD v).lookup ("index" : Str) = some v := by simp [ixD, List.lookup]
theorem relIx {v : V} {v' : Value} (r : RelV v v') (f : Str) : RelO (List.lookup f (ixD v)) (if f = "index" then some v' else none) := by
  by_cases hw : f = "index"
  · subst hw
    rw [if_pos rfl, ixD_at]
    exact r
  · rw [if_neg hw]
    have qw : (f == ("index" : Str)) = false := by simpa using hw
    have q2 : List.lookup f (ixD v) = none := by simp [ixD, List.lookup, qw]
    rw [q2]
    trivial
section
variable {X : Cx} {x qual : Str} {C fI : Addr}
/-- x(e) -/
def tMkIx (C : Addr) (ta : TA) : L2.St → Hp → XK → Prop := fun σ H Q => ta σ H fun vs H1 => ∃ v, vs = [v] ∧ ∀ d, H1 d = none → Q (.ref C) (some d) (upd H1 d (.xd (ixD v)))
theorem pmk_ix {a : Expr} {ta : TA} {p pos : Pos} {k : Nat} (T : PySem.MhE.IxT X.K X.mg x qual C fI) (hr : Room k X.A) (ha : PA X [a] ta) (hg : Gl X x) (hdb : (x == ("__debug__" : Str)) = false)
    (he : starEach (a :: []) X.env = (false, eval a X.env) :: starEach [] X.env := by rfl) (hpl : (backTo pos (starEach [] X.env)).any (·.1) = false := by rfl) :
    PMk X (.Call (.Name x p) [a] [] pos) (tMkIx C ta) := by
  intro pins s σ H Q I h
  refine wpAny_Call_Name_kw (ld_glob I hg T.gC ?_ hdb)
  refine PySem.W.callWith_K (h₀ := X.base) I.ok.mod.kin T.kC (thn (ha.run pos pins s σ H _ I h) fun us s1 hh => ?_) he hpl
  obtain ⟨vs, H1, I1, r1, v, ev, q1⟩ := hh
  subst ev
  refine ⟨I1.kIn, ?_⟩
  cases r1 with
  | cons rv rn =>
    rename_i v' us'
    cases rn
    show wpAny _ _ (call (.ref C) [v']) _ _ _
    have hlim := I1.nolimit
    obtain ⟨hp, g, dr, tk, os⟩ := s1
    refine wpAny_call (PySem.MhE.ixMade T I1.kIn hlim (by have := hr.dp; omega) fun h' tk' e d M => ?_)
    show MkP X pins σ Q (.ref e) ⟨h', g, dr, tk', os⟩
    obtain ⟨oe, fv, hoe, hc, hd, hdat, h1⟩ := M.obj
    have hns := M.ns
    obtain ⟨G', g1, g2⟩ := restrict h' fun b => decide (b ≠ e)
    have gk : ∀ b, b ≠ e → G'.get? b = h'.get? b := fun b hb => g1 b (decide_eq_true hb)
    have ge : G'.get? e = none := g2 e (by simp)
    have old : ∀ b o, hp.get? b = some o → G'.get? b = some o := fun b o q => (gk b (Nat.ne_of_lt (Nat.lt_of_lt_of_le (Heap.lt_size q) M.new))).trans (M.keep b o q)
    have ob : ObjOk X.prog X.w (upd H1 d (.xd (ixD v))) G' d (.xd (ixD v)) := ⟨_, hns.at (fun o q => (gk d M.dne).trans q), fun f => relIx rv f⟩
    have J : Inv X pins σ (upd H1 d (.xd (ixD v))) ⟨G', g, dr, tk', os⟩ := I1.laid (t' := tk') old M.dbig ob
    refine ⟨e, oe, fv, ⟨G', g, dr, tk', os⟩, _, .ref C, some d, rfl, J, fun b o q => ?_, ge, hoe, ⟨hc, hd⟩, hdat, h1, ?_, rfl, I1.bare, raises_own T.exC T.tyC, q1 d (I1.hok.fresh M.dbig)⟩
    · by_cases hb : b = e
      · have q' : G'.get? b = some o := q
        rw [hb, ge] at q'
        cases q'
      · exact (gk b hb).symm.trans q
    · rw [upd_ne (Ne.symm M.dne)]
      exact I1.hok.fresh M.new
/-- raise x(e) -/
def tRaiseIx (C : Addr) (W : WX) (ta : TA) : TS := fun _ σ H => tMkIx C ta σ H fun cls d H' => W cls d σ H'
theorem ps_raiseIx {a : Expr} {ta : TA} {W : WX} {p pos pos2 : Pos} {k : Nat} (hc : X.calm = true) (T : PySem.MhE.IxT X.K X.mg x qual C fI) (hr : Room k X.A) (tk : Takes X W) (ha : PA X [a] ta) (hg : Gl X x) (hdb : (x == ("__debug__" : Str)) = false)
    (he : starEach (a :: []) X.env = (false, eval a X.env) :: starEach [] X.env := by rfl) (hpl : (backTo pos (starEach [] X.env)).any (·.1) = false := by rfl) :
    PS X (.Raise (some (.Call (.Name x p) [a] [] pos)) none pos2) (tRaiseIx C W ta) := ps_raise hc tk (pmk_ix T hr ha hg hdb he hpl)
end
end MhX
end
section
set_option Elab.async false
set_option linter.all false
set_option maxRecDepth 100000
set_option maxHeartbeats 4000000
/-! MhR5: try .. except (C1, C2, C3) as e; defs called in the suite with the caught exception; isinstance(e, C) and e.f there. -/
namespace MhX
open PySem PySem.Spec PyProof.Rows L2

theorem fl_push {base h h' : Heap} {l : List Env} {e : Addr} {Z : Obj → Prop} (x : HandSPX.FlyingZ base l e Z h) (k : ∀ b o, h.get? b = some o → h'.get? b = some o) : HandSPX.FlyingZ base l e Z h' := by
  obtain ⟨f1, f2, f3, oe, vs, T, oT, ts, he, hz, hd, h1, hn, hne, hT, hdT, h3⟩ := x
  exact ⟨fun b o q => k b o (f1 b o q), f2, f3.of_keeps fun b o q _ => ⟨o, k b o q, rfl⟩, oe, vs, T, oT, ts, k _ _ he, hz, hd, h1, hn, hne, k _ _ hT, hdT, h3⟩

/-- what the clause 'except (c1, c2, c3) as n' wishes of an exception of the body: slot i is n's -/
def wAs3 (K : PySem.W.Frag) (cs : List Value) (i : Nat) (ts : Addr → Value → Option Addr → TS) (D : Ends) : WX := fun cls d σ H =>
  PySem.W.exmAny K cls cs = some true ∧ ∀ a, H a = none → ts a cls d { nx := fun σ' H' => D.nx (σ'.set i none) H', rt := D.rt, bk := fun σ' H' => D.bk (σ'.set i none) H', ct := fun σ' H' => D.ct (σ'.set i none) H' } (σ.set i (some (.ref a))) H

section
variable {X : Cx} {x1 x2 x3 n : Str} {c1 c2 c3 : Value} {i kk : Nat} {body suite : List Stmt} {b₀ : Stmt} {np1 np2 np3 tp pos pos' : Pos} {tb : WX → TS} {ts : Addr → Value → Option Addr → TS}
theorem ps_try_as3 (hs : X.stack = X.env :: X.outer) (hf : X.env.frame = some X.env.locals) (hN : X.N.Nodup) (hi : X.N[i]? = some n) (hln : X.env.kindOf n = some .local) (hc1 : Names X x1 c1) (hc2 : Names X x2 c2) (hc3 : Names X x3 c3)
    (hb : ∀ (W : WX) (pn : List (Addr × Obj)) (xe : Value → Shared → Prop), Takes (X.tr pn xe) W → PassesOwn (model X.prog X.w) X.A X.env xe → PSs (X.tr pn xe) body (tb W))
    (hsu : ∀ (a : Addr) (oe : Obj) (cls : Value) (d : Option Addr) (pn : List (Addr × Obj)), Zc cls d oe → (∃ vs, oe.data = .fields vs) → PSs (X.suite a ((a, oe) :: pn)) (b₀ :: suite) (ts a cls d)) :
    PS X (.Try body [.ExceptHandler (some (.Tuple [.Name x1 np1, .Name x2 np2, .Name x3 np3] kk tp)) (some n) (b₀ :: suite) pos'] [] [] pos) (fun D σ H => tb (wAs3 X.K [c1, c2, c3] i ts D) D σ H) := by
  refine ⟨fun pins s σ H D I h => ?_⟩
  have ok := I.ok
  have hfr : X.A.frames = some (X.env :: X.outer) := by rw [ok.frames, hs]
  have hloc : Loc X.env.scope n := .inl hln
  refine wpAny_Try_except ?_
  refine wpAny_mono ((hb (wAs3 X.K [c1, c2, c3] i ts D) (X.pn ++ pins) (fun e s₁ => wpAny (model X.prog X.w) X.A (noteFrame e X.env) (fun _ s₂ => wpAny (model X.prog X.w) X.A (setFlight e none) (fun _ s₃ =>
    wpAny (model X.prog X.w) X.A (handleBy e X.env [.ExceptHandler (some (.Tuple [.Name x1 np1, .Name x2 np2, .Name x3 np3] kk tp)) (some n) (b₀ :: suite) pos']) (SP X pins D) X.xe s₃) X.xe s₂) X.xe s₁) (fun u s' xx => ?_) PassesOwn.looking).run [] s σ H D (I.toTry _) h) (fun f s1 hsp => ?_) (fun e s1 he => he)
  · -- the catch
    obtain ⟨a, B, sI, pins', σ', H', cls, d, rfl, J', nb, up, sky, na, os, ag, hb1, hyes⟩ := xx
    have J : Inv X pins σ' H' sI := J'.ofTry ok
    have sky' : Sky B (X.env :: X.outer) a (Zc cls d) X.env.locals s'.heap := by rw [← hs]; exact sky
    show wpAny (model X.prog X.w) X.A (noteFrame (.ref a) X.env) _ _ _
    refine Sky.land Zc.steady hfr hf sky' fun h3 fl3 up3 => ?_
    have J3 : Inv X pins σ' H' { s' with heap := h3 } := J.landed nb fl3.1 (up.trans up3) os ag
    obtain ⟨oe3, vs3, he3, hz3, hd3⟩ := fl3.there
    have notFr : ∀ {h : Heap} {o : Obj} {vs : Array Value}, h.FunFrames B (X.env :: X.outer) → h.get? a = some o → o.data = .fields vs → a ∉ frs (X.env :: X.outer) := fun {h o vs} ff e dd hm => by
      obtain ⟨_, o', e', hnf⟩ := ff.mem hm
      rw [e] at e'; cases e'
      exact hnf _ dd
    have nfr := notFr fl3.2.2.1 he3 hd3
    have nL : a ≠ X.env.locals := fun z => nfr (List.mem_filterMap.mpr ⟨X.env, List.mem_cons_self, by rw [hf, z]⟩)
    have nF : a ∉ X.fs := fun hm => by
      obtain ⟨e, he, q⟩ := List.mem_filterMap.mp hm
      exact nfr (List.mem_filterMap.mpr ⟨e, List.mem_cons_of_mem _ he, q⟩)
    have S3 := J3.suite he3 hd3 na nL nF
    refine wpAny_handleBy_cons (codeAny_handlers_test ?_) (by intro q; cases q)
    have test1 : ∀ {x : Str} {np : Pos} {c : Value} {Q : Value → Shared → Prop} {E : Value → Shared → Prop}, Names X x c → Q c { s' with heap := h3 } → wpAny (model X.prog X.w) (X.A.mark (some (.ref a))) (eval (.Name x np) X.env) Q E { s' with heap := h3 } := fun {x np c Q E} hc q => by
      obtain ⟨hg, hdbg, hm | ⟨hm, hv, hnn⟩⟩ := hc
      · exact ld_glob (X := X.suite a ((a, oe3) :: (X.pn ++ pins))) S3 hg hm q hdbg
      · exact ld_blt (X := X.suite a ((a, oe3) :: (X.pn ++ pins))) S3 hg hm hv q hnn hdbg
    refine wpAny_Tuple_spliced ?_
    refine Calls.spliced_cons (test1 hc1 ?_)
    refine Calls.spliced_cons (test1 hc2 ?_)
    refine Calls.spliced_cons (test1 hc3 ?_)
    refine Calls.spliced_nil ⟨by show 3 ≤ sizeLine; decide, ?_⟩
    have kp : ∀ b o, h3.get? b = some o → (h3.push { cls := .type "tuple", data := .seq [c1, c2, c3].toArray }).get? b = some o := fun b o q => Heap.get?_push_of_some _ q
    have fl5 := fl_push fl3 kp
    have LT : PySem.W.Looks (model X.prog X.w) (h3.push { cls := .type "tuple", data := .seq [c1, c2, c3].toArray }) (typeOf (.ref a)) cls := fun A Q E s k q => wpAny_typeOf_ref (k _ _ (kp _ _ he3)) (by rw [hz3.1]; exact q)
    have LM := PySem.W.exm_tup3 (M := model X.prog X.w) (J3.kIn.keeps kp) LT (Heap.get?_push_size h3 rfl) hb1
    refine LM.here ?_
    refine codeAny_handlers_suite_as ?_
    refine HandSPX.lands_againZ fl5 fun h4 fl4 up4 => ?_
    have J4 : Inv X pins σ' H' { s' with heap := h4 } := J.landed nb fl4.1 (((up.trans up3).trans (Heap.UpToSlots.of_keeps kp)).trans up4) os ag
    obtain ⟨oe4, vs4, he4, hz4, hd4⟩ := fl4.there
    have S4 := J4.suite he4 hd4 na nL nF
    refine store_ok (X := X.suite a ((a, oe4) :: (X.pn ++ pins))) (v := .ref a) S4 hN hi hloc rfl (fun s5 S5 => ?_) (.inr hln)
    refine wpAny_mono ((hsu a oe4 cls d (X.pn ++ pins) hz4 ⟨_, hd4⟩).run [] s5 _ H' _ S5 (hyes a na)) (fun f s6 hsp => ?_) (fun _ _ z => False.elim z)
    have end_ : ∀ {σ6 : L2.St} {H6 : Hp} {Q : Shared → Prop}, Inv (X.suite a ((a, oe4) :: (X.pn ++ pins))) [] σ6 H6 s6 → (∀ s7, Inv X pins (σ6.set i none) H6 s7 → Q s7) →
        wpAny (model X.prog X.w) X.A (do bindName X.env n .none; unbindBehindTheSuite X.env n pos') (fun _ s7 => Q s7) X.xe s6 := fun {σ6 H6 Q} S6 hq => gone_ok (S6.unsuite ok) hN hi hln hq
    cases f with
    | next =>
      obtain ⟨σ6, H6, S6, q6⟩ := hsp
      exact end_ S6 fun s7 J7 => ⟨_, _, J7, q6⟩
    | brk =>
      obtain ⟨σ6, H6, S6, q6⟩ := hsp
      exact end_ S6 fun s7 J7 => ⟨_, _, J7, q6⟩
    | cont =>
      obtain ⟨σ6, H6, S6, q6⟩ := hsp
      exact end_ S6 fun s7 J7 => ⟨_, _, J7, q6⟩
    | ret u =>
      obtain ⟨v6, σ6, H6, S6, r6, q6⟩ := hsp
      exact end_ S6 fun s7 J7 => ⟨_, _, _, J7, r6, q6⟩
  · cases f with
    | next =>
      obtain ⟨σ', H', J', q⟩ := hsp
      exact wpAny_execs_nil ⟨σ', H', J'.ofTry ok, q⟩
    | brk =>
      obtain ⟨σ', H', J', q⟩ := hsp
      exact ⟨σ', H', J'.ofTry ok, q⟩
    | cont =>
      obtain ⟨σ', H', J', q⟩ := hsp
      exact ⟨σ', H', J'.ofTry ok, q⟩
    | ret u =>
      obtain ⟨v, σ', H', J', r, q⟩ := hsp
      exact ⟨v, σ', H', J'.ofTry ok, r, q⟩
end

/-! ### a def called in the suite: it raises nothing; p is the caught exception -/
open L2H (RoomH PinOk cxH inv_startH)
structure FnE (P : Program) (w : World) (K : PySem.W.Frag) (mg : Str → Option Value) (base : Heap) (k : Nat) (f : Addr) (fd : FuncData) (ps : List Str) (sp : Addr × Obj → Sp) : Prop where
  len : ∀ p vs H Q E, sp p vs H Q E → vs.length = ps.length
  run : ∀ (A : Around) (outer : List Env) (s : Shared) (H : Hp) (args : Args) (us : List Value) (vs : List V) (Q : VK) (E : XK) (p : Addr × Obj), RoomH k A → PinOk outer H s p → Env0 P w K mg base A outer s H → BindsTo s fd args (ps.zip us) → Vals vs us → sp p vs H Q E →
    codeAny (model P w) A (.call (.ref f) args) (CR CX0 outer P w H s Q E) s
theorem fn_ofE {P : Program} {w : World} {K : PySem.W.Frag} {mg : Str → Option Value} {base : Heap} {k : Nat} {f : Addr} {fd : FuncData} {x qual : Str} {st : Stmt} {N ps : List Str} {sp : Addr × Obj → Sp} (F : Fun K x qual st f fd) (S : FnScope N ps (defScope st))
    (len : ∀ p vs H Q E, sp p vs H Q E → vs.length = ps.length)
    (hbody : ∀ (cdv : Value) (A : Around) (outer : List Env) (s : Shared) (H : Hp) (vs : List V) (Q : VK) (E : XK) (p : Addr × Obj), RoomH k (A.deeper (envOfC qual (defScope st) s.heap.objs.size f cdv)) → sp p vs H Q E →
      ∃ t, PSs (cxH CX0 P w K mg base N qual (defScope st) f cdv A outer s H E p) (defBody st) t ∧ t { nx := fun _ H' => Q .non H', rt := Q } (L2.start N vs) H) :
    FnE P w K mg base (k + 1) f fd ps sp := by
  obtain ⟨oc, od, kV, doc, pm, an, cdv, ct, osl, rfl, lk, hcd⟩ := F.ex
  refine ⟨len, fun A outer s H args us vs Q E p hr hpin e0 hb r hsp => ?_⟩
  have hl := len _ _ _ _ _ hsp
  have KX : K.In s.heap := e0.mod.kin.keeps fun b o e => (e0.bs b o e).1
  have lim : s.heap.NoLimit := e0.mod.nolimit.keeps fun b o e => (e0.bs b o e).1
  have hkind : ∀ y ∈ ps.zip us, (defScope st).names.lookup y.1 = some .local ∨ ((defScope st).names.lookup y.1 = some .cell ∧ ((cellsFrom (s.heap.objs.size + 1) (defScope st).names []).lookup y.1).isSome = true) := fun ⟨n, v⟩ hy => by
    rcases S.par n (List.of_mem_zip hy).1 with q | q
    · exact .inl q
    · exact .inr ⟨q, PySem.W.cellsFrom_some _ _ _ (.inl q)⟩
  refine codeAny_call_function hr.depth (KX _ _ lk) rfl S.co S.gen rfl (PySem.W.codeRec_of KX hcd) (hb _ _ _ _ ?_)
  refine wpAny_newFunctionEnv_cells S.kind hkind fun env he s1 x => ?_
  subst he
  refine ⟨lim.keeps x.toInCall.keep, codeAny_func ?_⟩
  obtain ⟨t, ht, hq⟩ := hbody cdv A outer s H vs Q E p (hr.deeper _) hsp
  have I : Inv (cxH CX0 P w K mg base N qual (defScope st) f cdv A outer s H E p) [] (L2.start N vs) H s1 := inv_startH S hpin e0 hl r x
  refine wpAny_mono (ht.run [] s1 (L2.start N vs) H _ I hq) (fun fl s' hs => ?_) fun e s' hs => hs
  have fin : ∀ {σ' : L2.St} {H' : Hp} {v : V} {u : Value}, Inv (cxH CX0 P w K mg base N qual (defScope st) f cdv A outer s H E p) [] σ' H' s' → RelV v u → Q v H' → CE outer P w H s Q u s' :=
    fun {σ' H' v u} J rv q => ⟨v, H', J.os, J.bare, J.base, J.hok, rv, q⟩
  cases fl with
  | ret u =>
    obtain ⟨v, σ', H', J, rv, q⟩ := hs
    exact fin J rv q
  | next =>
    obtain ⟨σ', H', J, q⟩ := hs
    exact fin (v := V.non) (u := Value.none) J rfl q
  | brk =>
    obtain ⟨_, _, _, q⟩ := hs
    exact False.elim q
  | cont =>
    obtain ⟨_, _, _, q⟩ := hs
    exact False.elim q
section
variable {X : Cx} {k : Nat} {f : Addr} {fd : FuncData} {ps : List Str} {sp : Addr × Obj → Sp} {x : Str} {q pos : Pos} {e : Expr} {es : List Expr} {t : TA} {p : Addr × Obj}
def tCallE (sp : Sp) (t : TA) : TE := fun σ H Q => t σ H fun vs H1 => sp vs H1 Q E0
theorem pe_callE (F : FnE X.prog X.w X.K X.mg X.base k f fd ps sp) (hr : RoomH k X.A) (hp : p ∈ X.pn) (hg : Gl X x) (hm : X.mg x = some (.ref f)) (hk : PySem.W.keepIn X.K (.ref f) = true) (hb : Binds X.K fd ps [])
    (ha : PA X (e :: es) t) (hdb : (x == ("__debug__" : Str)) = false := by decide) (he : starEach (e :: es) X.env = (false, eval e X.env) :: starEach es X.env := by rfl) (hpl : (backTo pos (starEach es X.env)).any (·.1) = false := by rfl) :
    PE X (.Call (.Name x q) (e :: es) [] pos) (tCallE (sp p) t) := by
  refine ⟨fun pins s σ H Q I h => ?_⟩
  refine wpAny_Call_Name_kw (ld_glob I hg hm ?_ hdb)
  refine PySem.W.callWith_K (h₀ := X.base) I.ok.mod.kin hk (thn (ha.run pos pins s σ H _ I h) fun us s1 ⟨vs, H1, I1, r, q⟩ => ⟨I1.kIn, ?_⟩) he hpl
  have hl : us.length = ps.length := by rw [← r.length]; exact F.len _ _ _ _ _ q
  have b := hb s1 us I1.kIn (by rw [List.append_nil]; exact hl)
  rw [List.append_nil] at b
  have P1 := I1.pin p (List.mem_append_left _ hp)
  have hpin : PinOk X.stack H1 s1 p := ⟨P1.1, P1.2.1, fun hm => (List.mem_cons.mp (I1.stkSub p.1 hm)).elim P1.2.2.1 P1.2.2.2.1, P1.2.2.2.2⟩
  refine wpAny_call (codeAny_mono (F.run X.A X.stack s1 H1 ⟨us, []⟩ us vs Q E0 p hr hpin I1.env0 b r q) fun r s' hq => ?_)
  cases r with
  | error e => exact (show False from hq).elim
  | ok fl =>
    cases fl with
    | ret u => exact I1.after hq
    | next => exact False.elim hq
    | brk => exact False.elim hq
    | cont => exact False.elim hq
end
end MhX

namespace PySem.W
open PySem PySem.Spec PySem.Calls PyProof.Rows
section
variable {prog : Program} {w : World} {A : Around} {E : Value → Shared → Prop} {s : Shared} {K : Frag} {x D : Addr} {ox : Obj} {od : Option Obj}
theorem mhFindObj {C : Addr} {name : Str} {a g : Value} (hc : (clsIn K C).isSome = true) (ha : findIn K (.ref C) name = some (some a)) (hg : specialIn K a "__get__" = some (some g)) (ht : takesIn K a = some true) : findObj K C od name = some (.bind g a) := by
  obtain ⟨cd, hc⟩ := Option.isSome_iff_exists.mp hc
  unfold findObj
  rw [hc, Option.bind_some, ha, Option.bind_some]
  simp [hg, ht]
theorem mhClassE {Q : Option Value → Shared → Prop} (hga : findIn K (.ref D) "__getattribute__" = some (some (.builtin "BaseException.__getattribute__"))) (hgt : findIn K (.ref D) "__getattr__" = some none) (hsub : subIn K (.ref D) (.type "BaseException") = some true)
    (hdct : hasDictIn K D = true) (ha : findIn K (.ref D) "__class__" = some (some (.builtin "object.__class__")))
    (hn : specialIn K (.builtin "object.__class__") "__get__" = some (some (.builtin "getset_descriptor.__get__"))) (htk : takesIn K (.builtin "object.__class__") = some true) (hm : mroIn K D (.type "object") = some true)
    (X : K.In s.heap) (I : InstAt s.heap x ox D od) (h : Q (some (.ref D)) { s with toks := s.toks + 1 }) : wpAny (model prog w) A (getAttr? (.ref x) "__class__") Q E s := by
  have hf : findObj K D od "__class__" = some (.bind (.builtin "getset_descriptor.__get__") (.builtin "object.__class__")) := mhFindObj (by obtain ⟨cd, hc, _⟩ := any_some hdct; rw [hc]; rfl) ha hn htk
  obtain ⟨hp, g, d, t, os⟩ := s
  have L0 := I.type (M := model prog w)
  have L1 := looks_findIn (M := model prog w) X hga
  have L2 := looks_findIn (M := model prog w) X hgt
  have L3 := looks_find (M := model prog w) X I hf
  have sub : Looks (model prog w) hp (isInstance (.ref x) (.type "BaseException")) true := L0.andThen (looks_subIn X hsub)
  have hx0 : (false && onTheHeap (Value.builtin "BaseException.__getattribute__")) = false := rfl
  have hx2 : (Value.builtin "BaseException.__getattribute__" == Value.builtin "object.__getattribute__") = false := by decide +kernel
  have hx1 : (onTheHeap (Value.ref D) && Value.builtin "BaseException.__getattribute__" == Value.builtin "object.__getattribute__") = false := by rw [hx2]; rfl
  unfold getAttr? getAttrBy? getAttrBy
  refine wpAny_bind (wpAny_mkText (wpAny_bind (wpAny_attempt (wpAny_holding (wpAny_bind (L0.at (wpAny_bind (L1.at ?_))))))))
  show wpAny _ _ (if (onTheHeap (Value.ref D) && Value.builtin "BaseException.__getattribute__" == Value.builtin "object.__getattribute__") = true then _ else _) _ _ _
  rw [hx1, if_neg Bool.false_ne_true]
  unfold getAttrByItsOwn hookBefore
  refine wpAny_bind ?_
  rw [if_pos (show onTheHeap (Value.ref D) = true from rfl)]
  refine L2.at ?_
  refine wpAny_bind (wpAny_attempt (wpAny_holding ?_))
  unfold callGetattribute
  rw [hx0, if_neg Bool.false_ne_true]
  unfold boundAndCalled
  rw [PySem.F.excAttr_ValueError.ga.bind (.ref x)]
  refine wpAny_bind (wpAny_pure ?_)
  show wpAny _ _ (call (.builtin "BaseException.__getattribute__") [.ref x, .str "__class__" t]) _ _ _
  refine wpAny_call (codeAny_call_builtin PySem.F.excAttr_ValueError.ga.plain PySem.F.entry_bexc_ga ?_)
  refine @check_slot (model prog w) _ _ ⟨hp, g, d, t + 1, os⟩ "BaseException.__getattribute__" "BaseException" "__getattribute__" (.ref x) [.str "__class__" t] [] _ (by decide +kernel) (by decide +kernel) sub (PySem.F.args_bexc_ga (.ref x) (.str "__class__" t)) ?_
  unfold Builtin.«object.__getattribute__»
  refine wpAny_bind (wpAny_of_eq (a := ((Value.ref x : Value), [Value.str "__class__" t])) (by first | rfl | (simp only [slotArgs]; rfl)) ?_)
  refine wpAny_bind (wpAny_pure (wpAny_bind (L0.at (wpAny_bind (L3.at ?_)))))
  show wpAny _ _ (holding [Value.builtin "object.__class__"] (call (.builtin "getset_descriptor.__get__") [.builtin "object.__class__", .ref x, .ref D]) >>= ret) _ _ _
  refine wpAny_bind (wpAny_holding (wpAny_call (class_get (s := ⟨hp, g, d, t + 1, os⟩) (ox := ox) (od := od) X I hm ?_)))
  refine wpAny_pure ?_
  show wpAny _ _ (handedOut (.ref D)) _ _ _
  rw [handedOut_of (v := .ref D) rfl]
  first
    | exact wpAny_pure (wpAny_pure h)
    | exact wpAny_pure h
    | exact wpAny_pure (wpAny_bind (wpAny_pure (wpAny_pure h)))
theorem mhKitx (hga : findIn K (.ref D) "__getattribute__" = some (some (.builtin "BaseException.__getattribute__"))) (hgt : findIn K (.ref D) "__getattr__" = some none) (hsub : subIn K (.ref D) (.type "BaseException") = some true) (hdct : hasDictIn K D = true) (ha : findIn K (.ref D) "__class__" = some (some (.builtin "object.__class__")))
    (hn : specialIn K (.builtin "object.__class__") "__get__" = some (some (.builtin "getset_descriptor.__get__"))) (htk : takesIn K (.builtin "object.__class__") = some true) (hm : mroIn K D (.type "object") = some true) :
    KitX K (.ref x) (.ref D) (fun h => InstAt h x ox D od) where
  ty := fun _ _ _ I => I.type
  it := fun _ _ X _ => by
    obtain ⟨cdD, hcD, _⟩ := any_some hdct
    unfold clsIn at hcD
    split at hcD
    · rename_i c' d' cd' sl' ho
      intro A' Q' E' s' k q
      unfold isType loadHead
      exact wpAny_bind (wpAny_loadPart (k _ _ (X _ _ ho)) (wpAny_pure q))
    · cases hcD
  ne := fun h tp dd its n sl X htp => by
    obtain ⟨cdD, hcD, _⟩ := any_some hdct
    refine Bool.eq_false_iff.mpr fun q => ?_
    have e : D = tp := Value.ref.inj (beq_iff_eq.mp q)
    subst e
    unfold clsIn at hcD
    split at hcD
    · rename_i c' d' cd' sl' ho
      have z := (X _ _ ho).symm.trans htp
      cases z
    · cases hcD
  ca := fun X I k => mhClassE hga hgt hsub hdct ha hn htk hm X I k
end
end PySem.W
namespace MhX
open PySem PySem.Spec PyProof.Rows L2
section
variable {X : Cx} {a D dd : Addr} {oe : Obj}
/-- isinstance(e, c), e the caught exception of the own class D, with a dict -/
def rIsX (K : PySem.W.Frag) (D a dd : Addr) : List V → Hp → VK → Prop := fun xs H Q => ∃ (c : V) (cv : Value) (b : Bool), xs = [.ref a, c] ∧ ClsV c cv ∧ (∃ fs, H dd = some (.xd fs)) ∧ PySem.W.kitOne K (.ref D) cv = some b ∧ Q (.bl b) H
theorem xf_inst {pins : List (Addr × Obj)} {σ : L2.St} {H : Hp} {s : Shared} {fs : List (Str × V)} (I : Inv X pins σ H s) (hp : (a, oe) ∈ X.pn) (hz : Zc (.ref D) (some dd) oe) (hf : ∃ vs, oe.data = .fields vs) (ea : H dd = some (.xd fs)) :
    ∃ (mA : Str → Option Value) (od : Obj), PySem.W.InstAt s.heap a oe D (some od) ∧ (∀ f, RelO (fs.lookup f) (mA f)) ∧ ∀ n, PySem.W.lookIn n od = some (mA n) := by
  obtain ⟨ha, _⟩ := I.pin (a, oe) (List.mem_append_left _ hp)
  obtain ⟨vs, hd⟩ := hf
  have hx : ObjOk X.prog X.w H s.heap dd (.xd fs) := I.hok dd _ ea
  obtain ⟨mA, hns, hr⟩ := hx
  obtain ⟨od, ho, hl⟩ := lookIn_ns hns
  exact ⟨mA, od, ⟨ha, hz.1, by unfold PySem.W.notCls; rw [hd] <;> rfl, by rw [hz.2]; exact ho⟩, hr, hl⟩
theorem call_isX (C : ExcC X.K D) (hp : (a, oe) ∈ X.pn) (hz : Zc (.ref D) (some dd) oe) (hf : ∃ vs, oe.data = .fields vs) : CallR X (.builtin "isinstance") (rIsX X.K D a dd) := by
  intro pins s σ H xs us Q I r h
  obtain ⟨c, cv, b, rfl, hcv, ⟨fs, ea⟩, e, q⟩ := h
  obtain ⟨u1, u2, rfl, r1, r2⟩ := vals2 r
  obtain rfl : u1 = Value.ref a := r1
  have ec := hcv.eq r2
  subst ec
  obtain ⟨mA, od, J, _, _⟩ := xf_inst I hp hz hf ea
  exact PySem.W.kia_one (PySem.W.mhKitx C.hg C.hk C.hs C.hd C.ha C.hn C.ht C.hm) I.kIn J e (fun z => nomatch z) fun tk => ⟨.bl b, H, I.kept (t' := tk) fun _ _ z => z, rfl, q⟩
/-- e.f, e the caught exception -/
def tXfP (a dd : Addr) (f : Str) (te : TE) : TE := fun σ H Q => te σ H fun x H1 => x = .ref a ∧ ∃ (fs : List (Str × V)) (v : V), H1 dd = some (.xd fs) ∧ fs.lookup f = some v ∧ Q v H1
theorem pe_xfP {e : Expr} {te : TE} {pos : Pos} {n : Str} (T : XfC X.K D) (hno : PySem.W.findIn X.K (.ref D) n = some none) (hp : (a, oe) ∈ X.pn)
    (hz : Zc (.ref D) (some dd) oe) (hf : ∃ vs, oe.data = .fields vs) (he : PE X e te) (hb : attributeBase e n X.env (eval e X.env) = eval e X.env := by rfl) :
    PE X (.Attribute e n pos) (tXfP a dd n te) := by
  refine ⟨fun pins s σ H Q I h => ?_⟩
  refine attr_of hb (thn (he.run pins s σ H _ I h) fun u s1 hh => ?_)
  obtain ⟨x, H1, I1, rx, ex, fs, v, ea, l, q⟩ := hh
  subst ex
  obtain rfl : u = Value.ref a := rx
  obtain ⟨mA, od, J, hr, hl⟩ := xf_inst I1 hp hz hf ea
  obtain ⟨u, hu, ru⟩ := RelO.some_of (v := v) (o := mA n) (by rw [← l]; exact hr n)
  exact HandSPX.exc_get I1.kIn J T.ga T.gg T.exC (PySem.W.findObj_own T.hdC hno rfl (by rw [hl, hu])) (handed_of ru) ⟨v, H1, I1.tok _, ru, q⟩
end
end MhX
end
section
set_option Elab.async false
set_option linter.all false
set_option maxRecDepth 100000
set_option maxHeartbeats 4000000
/-! MhB: the text by places, what stands on the heap, comprehensions whose turns change nothing. -/
namespace Mh
open PySem PySem.Spec PyProof.Rows L2
open C8 (Cal Mak Met pe_c pe_mk pe_mt pe_mt0 pe_gc pss_cut tCut)

/-! ### lists by their places -/
theorem range_fm {α β : Type} (xs : List α) (g : α → Option β) : (List.range xs.length).filterMap (fun i => (xs[i]?).bind g) = xs.filterMap g := by
  induction xs with
  | nil => rfl
  | cons x xs ih =>
    rw [List.length_cons, List.range_succ_eq_map, List.filterMap_cons, List.filterMap_cons, List.filterMap_map]
    have e : ((fun i => (x :: xs)[i]?.bind g) ∘ Nat.succ) = fun i => xs[i]?.bind g := by
      funext i
      simp
    rw [e, ih]
    simp
/-! ### a comprehension whose turns change nothing -/
section
variable {J : It} {n : Nat} {G : Hp → Prop} {Y : Nat → Hp → V → Hp → Prop}
theorem lc_pure (w : Walk J n G Y) {g : TG} {tt : TT} {te : TE} {vs : List Nat} {σ : L2.St} {H1 : Hp} {D : Addr} {Qd : Hp → Prop} (f : Nat → Option V) (hD : H1 D = none) (hn : n ≤ sizeLine) (hG : ∀ H, Same H1 H → G H)
    (hs : ∀ i x H H', i < n → Same H1 H → Y i H x H' → ∀ P : Option V → Hp → Prop, (∀ H'', Same H H'' → P (f i) H'') → g x (wipe σ vs) H' fun σ2 H2 => wipe σ2 vs = wipe σ vs ∧ tt σ2 H2 fun b H3 => if b = true then te σ2 H3 fun y H4 => P (some y) H4 else P none H3)
    (hd : ∀ H, Same H1 H → H D = some (.lst ((List.range n).filterMap f)) → Qd H) :
    ∃ W : Nat → Nat → Hp → Prop, (∃ m, W 0 m (upd H1 D (.lst []))) ∧ ∀ i m H, W i m H →
      (J.stop i H ∧ Qd H) ∨ (J.go i H ∧ ∃ Nx : Hp → Prop, (∀ H', Nx H' → ∃ m', m' < m ∧ W (i + 1) m' H') ∧ ∀ x H', J.yld i H x H' → g x (wipe σ vs) H' fun σ2 H2 => wipe σ2 vs = wipe σ vs ∧ tt σ2 H2 fun b H3 =>
        if b = true then te σ2 H3 fun y H4 => ∃ acc, H4 D = some (.lst acc) ∧ acc.length < sizeLine ∧ Nx (upd H4 D (.lst (acc ++ [y]))) else Nx H3) := by
  have sm : ∀ {H : Hp} {o : HO}, Same H1 H → Same H1 (upd H D o) := fun {H o} s b ob e => by
    rw [upd_ne (ne_of_none e hD)]
    exact s b ob e
  have len : ∀ i, i ≤ n → ((List.range i).filterMap f).length ≤ i := fun i _ => by
    refine Nat.le_trans (List.length_filterMap_le _ _) ?_
    rw [List.length_range]
    exact Nat.le_refl _
  refine lc_it w (fun i H => Same H1 H ∧ H D = some (.lst ((List.range i).filterMap f))) ⟨sm (Same.refl _), upd_same⟩ (fun i H _ p => hG H p.1) ?_ (fun H p => hd H p.1 p.2)
  rintro i x H H' hi ⟨s, hl⟩ y
  refine hs i x H H' hi s y (fun o H4 => match o with
    | some y => ∃ acc, H4 D = some (.lst acc) ∧ acc.length < sizeLine ∧ (fun i H => Same H1 H ∧ H D = some (.lst ((List.range i).filterMap f))) (i + 1) (upd H4 D (.lst (acc ++ [y])))
    | none => (fun i H => Same H1 H ∧ H D = some (.lst ((List.range i).filterMap f))) (i + 1) H4) fun H'' s2 => ?_
  have e2 := s2 _ _ hl
  have e3 : (List.range (i + 1)).filterMap f = (List.range i).filterMap f ++ (f i).toList := by
    rw [List.range_succ, List.filterMap_append]
    cases q : f i <;> simp [q]
  cases q : f i with
  | none =>
    refine ⟨s.trans s2, ?_⟩
    rw [e3, q]
    simpa using e2
  | some y =>
    refine ⟨_, e2, Nat.lt_of_le_of_lt (len i (Nat.le_of_lt hi)) (Nat.lt_of_lt_of_le hi hn), sm (s.trans s2), ?_⟩
    rw [e3, q]
    exact upd_same
end
/-! ### names of built-in things -/
structure Nn (mg : Str → Option Value) : Prop where
  len : mg "len" = none
  isi : mg "isinstance" = none
  int : mg "int" = none
  bool : mg "bool" = none
  str : mg "str" = none
  tuple : mg "tuple" = none
  list : mg "list" = none
  enu : mg "enumerate" = none
  zip : mg "zip" = none
  all : mg "all" = none
  any : mg "any" = none
  sum : mg "sum" = none
  sorted : mg "sorted" = none
  range : mg "range" = none
  repr : mg "repr" = none
  abs : mg "abs" = none
  min : mg "min" = none
  max : mg "max" = none
  divmod : mg "divmod" = none
  vE : mg "ValueError" = none
  lE : mg "LookupError" = none
  aE : mg "ArithmeticError" = none
/-! ### what stands on the heap -/
/-- a tuple of texts -/
def TT (K : PySem.W.Frag) (H : Hp) (a : Addr) (ns : List Str) : Prop := SqT K H a (ns.map V.str)
theorem sqT_same {K : PySem.W.Frag} {H H' : Hp} {a : Addr} {xs : List V} (e : Same H H') (h : SqT K H a xs) : SqT K H' a xs := by
  rcases h with (h | ⟨o, h⟩) | h
  · exact .inl (.inl (e _ _ h))
  · exact .inl (.inr ⟨o, e _ _ h⟩)
  · exact .inr h
theorem TT.same {K : PySem.W.Frag} {H H' : Hp} {a : Addr} {ns : List Str} (h : TT K H a ns) (e : Same H H') : TT K H' a ns := sqT_same e h
theorem SqT.new {K : PySem.W.Frag} {H : Hp} {a : Addr} {xs : List V} (h : H a = some (.tup xs)) : SqT K H a xs := .inl (.inl h)
theorem SqL.new {K : PySem.W.Frag} {H : Hp} {a : Addr} {xs : List V} (h : H a = some (.lst xs)) : SqL K H a xs := .inl (.inl h)
theorem same_new {H : Hp} {a : Addr} {o : HO} (h : H a = none) : Same H (upd H a o) := fun b ob e => by
  rw [upd_ne (ne_of_none e h)]
  exact e
theorem same_upd {H H' : Hp} {a : Addr} {o : HO} (h : H a = none) (s : Same H H') : Same H (upd H' a o) := fun b ob e => by
  rw [upd_ne (ne_of_none e h)]
  exact s b ob e
theorem get_map {α : Type} {f : α → V} {xs : List α} {i : Nat} {x : V} (h : (xs.map f)[i]? = some x) : ∃ t, xs[i]? = some t ∧ x = f t := by
  rw [List.getElem?_map] at h
  cases e : xs[i]? with
  | none =>
    rw [e] at h
    cases h
  | some t =>
    rw [e] at h
    exact ⟨t, rfl, (Option.some.inj h).symm⟩
theorem all_flat (ns : List Str) : (ns.map V.str).all flatV = true := by
  rw [List.all_eq_true]
  intro x hx
  obtain ⟨t, _, rfl⟩ := List.mem_map.mp hx
  rfl
theorem inV_str (t : Str) (ns : List Str) : inV (.str t) (ns.map V.str) = decide (t ∈ ns) := by
  unfold inV
  rw [List.any_map]
  induction ns with
  | nil => rfl
  | cons a r ih =>
    rw [List.any_cons, ih]
    show ((a == t) || decide (t ∈ r)) = _
    rw [Bool.eq_iff_iff, Bool.or_eq_true, beq_iff_eq, decide_eq_true_iff, decide_eq_true_iff, List.mem_cons]
    exact ⟨fun h => h.imp Eq.symm id, fun h => h.imp Eq.symm id⟩
/-! ### defs, methods, properties, classes, each with its promise -/
/-- a def of the module as it stands behind the top -/
structure DefF (K : PySem.W.Frag) (mg : Str → Option Value) (x : Str) (st : Stmt) : Prop where
  ex : ∃ (f : Addr) (fd : FuncData), L2.Fun K x x st f fd ∧ mg x = some (.ref f)
/-- a method of the class at C -/
structure MetF (K : PySem.W.Frag) (C : Addr) (m qual : Str) (st : Stmt) : Prop where
  ex : ∃ (f : Addr) (fd : FuncData), L2.Fun K m qual st f fd ∧ Meth K C m f
/-- a property of the class at C -/
structure PrpF (K : PySem.W.Frag) (C : Addr) (m qual : Str) (st : Stmt) : Prop where
  ex : ∃ (p f : Addr) (fd : FuncData), L2.Fun K m qual st f fd ∧ PropOf K C m p f
section
variable {P : Program} {w : World} {K : PySem.W.Frag} {mg : Str → Option Value} {base : Heap}
structure Prp (P : Program) (w : World) (K : PySem.W.Frag) (mg : Str → Option Value) (base : Heap) (k : Nat) (C : Addr) (m : Str) (sp : Sp) : Prop where
  ex : ∃ (p g : Addr) (fd : FuncData) (ps : List Str), Cls K C ∧ PropOf K C m p g ∧ FnOk P w K mg base L2.CX0 k g fd ps sp ∧ Binds K fd ps []
abbrev BindP (st : Stmt) (x qual : Str) (ps : List Str) : Prop := ∀ (kV doc pm : Value) (an : Option Addr) (cdv ct : Value) (us : List Value), us.length = ps.length → bindArgs (PySem.W.fnOf x qual (defArgs st) (defBody st) (defScope st) .none kV doc pm an cdv ct) ⟨us, []⟩ = pure (ps.zip us)
theorem mkCal {x : Str} {st : Stmt} {N ps : List Str} {k : Nat} {sp : Sp} (D : DefF K mg x st) (S : FnScope N ps (defScope st)) (b : BindP st x x ps) (len : ∀ vs H Q E, sp vs H Q E → vs.length = ps.length)
    (hbody : ∀ (f : Addr) (cdv : Value) (A : Around) (outer : List Env) (s : Shared) (H : Hp) (vs : List V) (Q : VK) (E : XK), Room k (A.deeper (envOfC x (defScope st) s.heap.objs.size f cdv)) → sp vs H Q E →
      ∃ t, PSs (cxOf L2.CX0 P w K mg base N x (defScope st) f cdv A outer s H E).nox (defBody st) t ∧ t { nx := fun _ H' => Q .non H', rt := Q } (start N vs) H) : Cal P w K mg base (k + 1) x sp [] := by
  obtain ⟨f, fd, F, hm⟩ := D.ex
  exact ⟨f, fd, ps, [], F.ok S len (hbody f), hm, F.kp, F.binds b, .nil⟩
theorem mkMet {C : Addr} {m qual : Str} {st : Stmt} {N ps : List Str} {k : Nat} {sp : Sp} (c : Cls K C) (D : MetF K C m qual st) (S : FnScope N ps (defScope st)) (b : BindP st m qual ps) (len : ∀ vs H Q E, sp vs H Q E → vs.length = ps.length)
    (hbody : ∀ (f : Addr) (cdv : Value) (A : Around) (outer : List Env) (s : Shared) (H : Hp) (vs : List V) (Q : VK) (E : XK), Room k (A.deeper (envOfC qual (defScope st) s.heap.objs.size f cdv)) → sp vs H Q E →
      ∃ t, PSs (cxOf L2.CX0 P w K mg base N qual (defScope st) f cdv A outer s H E).nox (defBody st) t ∧ t { nx := fun _ H' => Q .non H', rt := Q } (start N vs) H) : Met P w K mg base (k + 1) C m sp [] := by
  obtain ⟨f, fd, F, hm⟩ := D.ex
  exact ⟨f, fd, ps, [], c, hm, F.ok S len (hbody f), F.binds b, .nil⟩
theorem mkPrp {C : Addr} {m qual : Str} {st : Stmt} {N ps : List Str} {k : Nat} {sp : Sp} (c : Cls K C) (D : PrpF K C m qual st) (S : FnScope N ps (defScope st)) (b : BindP st m qual ps) (len : ∀ vs H Q E, sp vs H Q E → vs.length = ps.length)
    (hbody : ∀ (f : Addr) (cdv : Value) (A : Around) (outer : List Env) (s : Shared) (H : Hp) (vs : List V) (Q : VK) (E : XK), Room k (A.deeper (envOfC qual (defScope st) s.heap.objs.size f cdv)) → sp vs H Q E →
      ∃ t, PSs (cxOf L2.CX0 P w K mg base N qual (defScope st) f cdv A outer s H E).nox (defBody st) t ∧ t { nx := fun _ H' => Q .non H', rt := Q } (start N vs) H) : Prp P w K mg base (k + 1) C m sp := by
  obtain ⟨p, f, fd, F, hm⟩ := D.ex
  exact ⟨p, f, fd, ps, c, hm, F.ok S len (hbody f), F.binds b⟩
end
theorem pe_pr {X : Cx} {k j : Nat} {C : Addr} {m : Str} {sp : Sp} {o : Expr} {ta : TE} {pos : Pos} (c : Prp X.prog X.w X.K X.mg X.base k C m sp) (hr : Room j X.A) (hk : k + 1 ≤ j) (he : PE X o ta) (hab : attributeBase o m X.env (eval o X.env) = eval o X.env) :
    PE X (.Attribute o m pos) (tProp C sp [] L2.E0 ta) := by
  obtain ⟨p, g, fd, ps, hc, hp, F, b⟩ := c.ex
  exact pe_prop he hc hp F (hr.mono hk) b .nil L2.pass0 hab
end Mh
end
section
set_option Elab.async false
set_option linter.all false
/-! MhM: the plain law: what stays of some things when bars pass over them; rankings; fits. -/
namespace Mh
section
variable {α : Type} [DecidableEq α]
/-- some bar whose menu stands in L passes over t -/
def barred (B : List (List α × List α)) (L : List α) (t : α) : Bool := B.any fun b => (b.1.all fun x => decide (x ∈ L)) && decide (t ∈ b.2)
def stepL (B : List (List α × List α)) (L : List α) : List α := L.filter (barred B L)
def iterL (B : List (List α × List α)) : Nat → List α → List α
  | 0, L => L
  | n + 1, L => iterL B n (stepL B L)
def fixL (B : List (List α × List α)) (L : List α) : List α := iterL B L.length L
def Sub (L L' : List α) : Prop := ∀ x ∈ L, x ∈ L'
theorem Sub.trans {L L1 L2 : List α} (a : Sub L L1) (b : Sub L1 L2) : Sub L L2 := fun x h => b x (a x h)
theorem barred_iff {B : List (List α × List α)} {L : List α} {t : α} : barred B L t = true ↔ ∃ b ∈ B, Sub b.1 L ∧ t ∈ b.2 := by
  unfold barred Sub
  rw [List.any_eq_true]
  constructor
  · rintro ⟨b, hb, h⟩
    rw [Bool.and_eq_true, List.all_eq_true, decide_eq_true_iff] at h
    exact ⟨b, hb, fun x hx => of_decide_eq_true (h.1 x hx), h.2⟩
  · rintro ⟨b, hb, h1, h2⟩
    refine ⟨b, hb, ?_⟩
    rw [Bool.and_eq_true, List.all_eq_true, decide_eq_true_iff]
    exact ⟨fun x hx => decide_eq_true (h1 x hx), h2⟩
theorem mem_step {B : List (List α × List α)} {L : List α} {t : α} : t ∈ stepL B L ↔ t ∈ L ∧ ∃ b ∈ B, Sub b.1 L ∧ t ∈ b.2 := by
  unfold stepL
  rw [List.mem_filter, barred_iff]
theorem step_sub (B : List (List α × List α)) (L : List α) : Sub (stepL B L) L := fun _ h => (mem_step.mp h).1
theorem step_mono {B B' : List (List α × List α)} {L L' : List α} (hB : ∀ b ∈ B, b ∈ B') (hL : Sub L L') : Sub (stepL B L) (stepL B' L') := fun t h => by
  obtain ⟨h1, b, hb, h2, h3⟩ := mem_step.mp h
  exact mem_step.mpr ⟨hL t h1, b, hB b hb, h2.trans hL, h3⟩
theorem iter_mono {B B' : List (List α × List α)} (hB : ∀ b ∈ B, b ∈ B') : ∀ (n : Nat) {L L' : List α}, Sub L L' → Sub (iterL B n L) (iterL B' n L')
  | 0, _, _, h => h
  | n + 1, _, _, h => iter_mono hB n (step_mono hB h)
theorem iter_stable {B : List (List α × List α)} {L : List α} (h : stepL B L = L) : ∀ n, iterL B n L = L
  | 0 => rfl
  | n + 1 => by
    show iterL B n (stepL B L) = L
    rw [h]
    exact iter_stable h n
theorem step_nil (B : List (List α × List α)) : stepL B [] = [] := rfl
theorem step_lt {B : List (List α × List α)} {L : List α} (h : stepL B L ≠ L) : (stepL B L).length < L.length := by
  unfold stepL at h ⊢
  have h1 := List.length_filter_le (barred B L) L
  rcases Nat.lt_or_ge (L.filter (barred B L)).length L.length with z | z
  · exact z
  · have e : (L.filter (barred B L)).length = L.length := Nat.le_antisymm h1 z
    exact absurd (List.filter_eq_self.mpr (List.length_filter_eq_length_iff.mp e)) h
theorem iter_fix {B : List (List α × List α)} : ∀ (n : Nat) {L : List α}, L.length ≤ n → stepL B (iterL B n L) = iterL B n L
  | 0, L, h => by
    have e : L = [] := List.length_eq_zero_iff.mp (Nat.le_zero.mp h)
    subst e
    rfl
  | n + 1, L, h => by
    by_cases e : stepL B L = L
    · rw [iter_stable e, e]
    · have z := step_lt e
      exact iter_fix n (L := stepL B L) (by omega)
theorem fix_step (B : List (List α × List α)) (L : List α) : stepL B (fixL B L) = fixL B L := iter_fix _ (Nat.le_refl _)
theorem iter_sub {B : List (List α × List α)} : ∀ (n : Nat) {L : List α}, Sub (iterL B n L) L
  | 0, _ => fun _ h => h
  | n + 1, L => fun x h => step_sub B L x (iter_sub n x h)
theorem fix_sub (B : List (List α × List α)) (L : List α) : Sub (fixL B L) L := iter_sub _
theorem fix_mono {B B' : List (List α × List α)} (hB : ∀ b ∈ B, b ∈ B') (L : List α) : Sub (fixL B L) (fixL B' L) := iter_mono hB _ fun _ h => h
theorem fix_nil_mono {B B' : List (List α × List α)} (hB : ∀ b ∈ B, b ∈ B') {L : List α} (h : fixL B' L = []) : fixL B L = [] := by
  cases e : fixL B L with
  | nil => rfl
  | cons x xs =>
    have z := fix_mono hB L x (by rw [e]; exact List.mem_cons_self)
    rw [h] at z
    cases z
theorem iter_succ {B : List (List α × List α)} : ∀ (n : Nat) (L : List α), iterL B (n + 1) L = stepL B (iterL B n L)
  | 0, _ => rfl
  | n + 1, L => iter_succ n (stepL B L)
/-- a stable part is within all that come -/
theorem stable_sub {B B' : List (List α × List α)} {L T : List α} (hB : ∀ b ∈ B, b ∈ B') (hT : stepL B T = T) (h : Sub T L) : ∀ n, Sub T (iterL B' n L)
  | 0 => h
  | n + 1 => by
    rw [iter_succ]
    intro x hx
    rw [← hT] at hx
    exact step_mono hB (stable_sub hB hT h n) x hx
/-! ### a ranking -/
def best (r M : List α) : Option α := r.find? fun t => decide (t ∈ M)
theorem best_sub {r M N : List α} {t : α} (h : best r N = some t) (hM : Sub M N) (ht : t ∈ M) : best r M = some t := by
  unfold best at h ⊢
  induction r with
  | nil => cases h
  | cons x xs ih =>
    rw [List.find?_cons] at h ⊢
    by_cases hx : x ∈ N
    · rw [decide_eq_true hx] at h
      cases h
      rw [decide_eq_true ht]
    · rw [decide_eq_false hx] at h
      rw [decide_eq_false (fun q => hx (hM x q))]
      exact ih h
theorem best_some {r M : List α} {t : α} (h1 : t ∈ r) (h2 : t ∈ M) : ∃ u, best r M = some u ∧ u ∈ M := by
  cases e : best r M with
  | none => exact absurd (decide_eq_true h2) (by
      have z := List.find?_eq_none.mp e t h1
      simpa using z)
  | some u => exact ⟨u, rfl, of_decide_eq_true (List.find?_some (p := fun t => decide (t ∈ M)) e)⟩
/-- a ranking whose best things no bar passes over: nothing stays -/
theorem fix_of_row {B : List (List α × List α)} {ns r : List α} (hr : Sub ns r) (hP : ∀ b ∈ B, Sub b.2 b.1) (hb : ∀ b ∈ B, ∀ t, best r b.1 = some t → t ∉ b.2) : fixL B ns = [] := by
  cases e : fixL B ns with
  | nil => rfl
  | cons x xs =>
    have hx : x ∈ fixL B ns := by rw [e]; exact List.mem_cons_self
    obtain ⟨u, hu, hm⟩ := best_some (r := r) (hr x (fix_sub B ns x hx)) hx
    rw [← fix_step B ns] at hm
    obtain ⟨_, b, hB, h1, h2⟩ := mem_step.mp hm
    exact absurd h2 (hb b hB u (best_sub hu h1 (hP b hB u h2)))
/-! ### one of a menu's things may always come -/
theorem turn_at {p : Nat → Prop} (h0 : p 0) : ∀ n, ¬ p n → ∃ k, p k ∧ ¬ p (k + 1)
  | 0, h => absurd h0 h
  | n + 1, h => by
    rcases Classical.em (p n) with z | z
    · exact ⟨n, z, h⟩
    · exact turn_at h0 n z
theorem iter_le {B : List (List α × List α)} {L : List α} {i j : Nat} (h : i ≤ j) : Sub (iterL B j L) (iterL B i L) := by
  induction j with
  | zero =>
    have e : i = 0 := Nat.le_zero.mp h
    subst e
    exact fun _ q => q
  | succ j ih =>
    rcases Nat.lt_or_ge i (j + 1) with z | z
    · rw [iter_succ]
      exact (step_sub B _).trans (ih (Nat.lt_succ_iff.mp z))
    · have e : i = j + 1 := Nat.le_antisymm h z
      subst e
      exact fun _ q => q
theorem some_comes {B : List (List α × List α)} {ns M : List α} (h : fixL B ns = []) (hM : M ≠ []) (hs : Sub M ns) : ∃ t ∈ M, fixL (B ++ [(M, M.filter fun u => decide (u ≠ t))]) ns = [] := by
  have nil_not : ∀ {T : List α}, T ≠ [] → ¬ Sub T (iterL B ns.length ns) := fun {T} hT q => by
    cases T with
    | nil => exact hT rfl
    | cons x xs =>
      have z := q x List.mem_cons_self
      have h' : iterL B ns.length ns = [] := h
      rw [h'] at z
      cases z
  obtain ⟨k, h1, h2⟩ := turn_at (p := fun j => Sub M (iterL B j ns)) hs ns.length (nil_not hM)
  obtain ⟨t, ht, hn⟩ : ∃ t ∈ M, t ∉ iterL B (k + 1) ns := Classical.byContradiction fun q => h2 fun x hx => Classical.byContradiction fun z => q ⟨x, hx, z⟩
  refine ⟨t, ht, ?_⟩
  cases e : fixL (B ++ [(M, M.filter fun u => decide (u ≠ t))]) ns with
  | nil => rfl
  | cons y ys =>
    exfalso
    have st := fix_step (B ++ [(M, M.filter fun u => decide (u ≠ t))]) ns
    have sb := fix_sub (B ++ [(M, M.filter fun u => decide (u ≠ t))]) ns
    have ne : fixL (B ++ [(M, M.filter fun u => decide (u ≠ t))]) ns ≠ [] := by rw [e]; exact List.cons_ne_nil _ _
    clear e
    generalize fixL (B ++ [(M, M.filter fun u => decide (u ≠ t))]) ns = T at st sb ne
    obtain ⟨j, g1, g2⟩ := turn_at (p := fun j => Sub T (iterL B j ns)) sb ns.length (nil_not ne)
    -- what of T does not come to turn j + 1 is passed over by M alone
    have key : ∀ u ∈ T, u ∉ iterL B (j + 1) ns → Sub M T ∧ u ∈ M ∧ u ≠ t := fun u hu hj => by
      rw [← st] at hu
      obtain ⟨h3, b, hb, h4, h5⟩ := mem_step.mp hu
      rcases List.mem_append.mp hb with hb | hb
      · exact absurd (by rw [iter_succ]; exact mem_step.mpr ⟨g1 u h3, b, hb, h4.trans g1, h5⟩) hj
      · have e : b = (M, M.filter fun u => decide (u ≠ t)) := by simpa using hb
        subst e
        have h6 := List.mem_filter.mp h5
        exact ⟨h4, h6.1, of_decide_eq_true h6.2⟩
    obtain ⟨u, hu, hj⟩ : ∃ u ∈ T, u ∉ iterL B (j + 1) ns := Classical.byContradiction fun q => g2 fun x hx => Classical.byContradiction fun z => q ⟨x, hx, z⟩
    obtain ⟨k1, k2, k3⟩ := key u hu hj
    have le1 : j ≤ k := by
      rcases Nat.lt_or_ge k j with z | z
      · exact absurd (iter_le (B := B) (L := ns) (show k + 1 ≤ j from z) t (g1 t (k1 t ht))) hn
      · exact z
    have le2 : k ≤ j := by
      rcases Nat.lt_or_ge j k with z | z
      · exact absurd (iter_le (B := B) (L := ns) (show j + 1 ≤ k from z) u (h1 u k2)) hj
      · exact z
    have e : j = k := Nat.le_antisymm le1 le2
    subst e
    exact (key t (k1 t ht) hn).2.2 rfl
/-! ### looks -/
/-- a look: a menu, the marks (by their signs' numbers) -/
abbrev Lk (α : Type) := List α × List Nat
def markedP (c : Nat) (l : Lk α) : List α := (l.1.zip l.2).filterMap fun q => if q.2 = c then some q.1 else none
def takenP (l : Lk α) : List α := markedP 43 l
def passedP (l : Lk α) : List α := markedP 45 l
def barP (l : Lk α) : List α × List α := (l.1, passedP l)
def barsP (Ls : List (Lk α)) : List (List α × List α) := Ls.map barP
def lessP (M : List α) (t : α) : List α := M.filter fun u => decide (u ≠ t)
def wants0 (Ls : List (Lk α)) : List (List (List α × List α)) := Ls.flatMap fun l => (takenP l).map fun t => [(l.1, lessP l.1 t)]
def wantsP (Ls : List (Lk α)) : List (List (List α × List α)) := if (wants0 Ls).isEmpty then [[]] else wants0 Ls
def fitP (ns : List α) (Ls : List (Lk α)) : Prop := ∀ W ∈ wantsP Ls, fixL (barsP Ls ++ W) ns = []
instance (ns : List α) (Ls : List (Lk α)) : Decidable (fitP ns Ls) := by unfold fitP; infer_instance
def neverP (ns : List α) (Ls : List (Lk α)) (M : List α) (t : α) : Prop := fixL (barsP Ls ++ [(M, lessP M t)]) ns ≠ []
instance (ns : List α) (Ls : List (Lk α)) (M : List α) (t : α) : Decidable (neverP ns Ls M t) := by unfold neverP; infer_instance
def sureP (ns : List α) (Ls : List (Lk α)) (M : List α) (t : α) : Prop := ∃ W ∈ wantsP Ls, fixL (barsP Ls ++ W ++ [(M, [t])]) ns ≠ []
instance (ns : List α) (Ls : List (Lk α)) (M : List α) (t : α) : Decidable (sureP ns Ls M t) := by unfold sureP; infer_instance
theorem marked_mem {c : Nat} {l : Lk α} {t : α} (h : t ∈ markedP c l) : t ∈ l.1 := by
  unfold markedP at h
  obtain ⟨q, hq, e⟩ := List.mem_filterMap.mp h
  split at e
  · cases e
    exact (List.of_mem_zip hq).1
  · cases e
theorem wants_ne (Ls : List (Lk α)) : wantsP Ls ≠ [] := by
  unfold wantsP
  split
  · exact List.cons_ne_nil _ _
  · rename_i h
    intro e
    rw [e] at h
    exact h rfl
theorem wants_mem {Ls : List (Lk α)} {W : List (List α × List α)} (h : W ∈ wantsP Ls) : W = [] ∨ ∃ l ∈ Ls, ∃ t ∈ takenP l, W = [(l.1, lessP l.1 t)] := by
  unfold wantsP at h
  split at h
  · exact .inl (by simpa using h)
  · right
    unfold wants0 at h
    obtain ⟨l, hl, h⟩ := List.mem_flatMap.mp h
    obtain ⟨t, ht, e⟩ := List.mem_map.mp h
    exact ⟨l, hl, t, ht, e.symm⟩
theorem mem_wants {Ls : List (Lk α)} {l : Lk α} {t : α} (hl : l ∈ Ls) (ht : t ∈ takenP l) : [(l.1, lessP l.1 t)] ∈ wantsP Ls := by
  have h : [(l.1, lessP l.1 t)] ∈ wants0 Ls := List.mem_flatMap.mpr ⟨l, hl, List.mem_map.mpr ⟨t, ht, rfl⟩⟩
  unfold wantsP
  split
  · rename_i z
    have e : wants0 Ls = [] := List.isEmpty_iff.mp z
    rw [e] at h
    cases h
  · exact h
theorem fit_bars {ns : List α} {Ls : List (Lk α)} (h : fitP ns Ls) : fixL (barsP Ls) ns = [] := by
  cases e : wantsP Ls with
  | nil => exact absurd e (wants_ne Ls)
  | cons W Ws =>
    have z := h W (by rw [e]; exact List.mem_cons_self)
    exact fix_nil_mono (fun b hb => List.mem_append_left _ hb) z
/-- some of the looks fit, too -/
theorem fit_part {ns : List α} {Ls Ls' : List (Lk α)} (hs : ∀ l ∈ Ls', l ∈ Ls) (h : fitP ns Ls) : fitP ns Ls' := fun W hW => by
  have hb : ∀ b ∈ barsP Ls', b ∈ barsP Ls := fun b hb => by
    obtain ⟨l, hl, e⟩ := List.mem_map.mp hb
    exact List.mem_map.mpr ⟨l, hs l hl, e⟩
  rcases wants_mem hW with rfl | ⟨l, hl, t, ht, rfl⟩
  · rw [List.append_nil]
    exact fix_nil_mono hb (fit_bars h)
  · refine fix_nil_mono (fun b hb' => ?_) (h _ (mem_wants (hs l hl) ht))
    rcases List.mem_append.mp hb' with z | z
    · exact List.mem_append_left _ (hb b z)
    · exact List.mem_append_right _ z
/-- something of a menu is not never taken -/
theorem not_all_never {ns : List α} {Ls : List (Lk α)} {M : List α} (h : fitP ns Ls) (hM : M ≠ []) (hs : Sub M ns) : ∃ t ∈ M, ¬ neverP ns Ls M t := by
  obtain ⟨t, ht, e⟩ := some_comes (fit_bars h) hM hs
  exact ⟨t, ht, fun z => z e⟩
/-- the looks of a house of rankings fit -/
theorem fit_of_rows {ns : List α} {rows : List (List α)} {Ls : List (Lk α)} (h0 : rows ≠ []) (hr : ∀ r ∈ rows, Sub ns r) (ht : ∀ l ∈ Ls, ∀ t ∈ takenP l, ∃ r ∈ rows, best r l.1 = some t) (hp : ∀ l ∈ Ls, ∀ t ∈ passedP l, ∀ r ∈ rows, best r l.1 ≠ some t) : fitP ns Ls := fun W hW => by
  have bars : ∀ r ∈ rows, ∀ b ∈ barsP Ls, ∀ t, best r b.1 = some t → t ∉ b.2 := fun r hr b hb t e z => by
    obtain ⟨l, hl, rfl⟩ := List.mem_map.mp hb
    exact hp l hl t z r hr e
  have sub : ∀ b ∈ barsP Ls, Sub b.2 b.1 := fun b hb t z => by
    obtain ⟨l, hl, rfl⟩ := List.mem_map.mp hb
    exact marked_mem z
  rcases wants_mem hW with rfl | ⟨l, hl, t, htk, rfl⟩
  · rw [List.append_nil]
    cases e : rows with
    | nil => exact absurd e h0
    | cons r rs =>
      have hrr : r ∈ rows := by rw [e]; exact List.mem_cons_self
      exact fix_of_row (hr r hrr) sub (bars r hrr)
  · obtain ⟨r, hrr, e⟩ := ht l hl t htk
    refine fix_of_row (hr r hrr) (fun b hb => ?_) (fun b hb u hu => ?_)
    · rcases List.mem_append.mp hb with z | z
      · exact sub b z
      · have q : b = (l.1, lessP l.1 t) := by simpa using z
        subst q
        exact fun x hx => (List.mem_filter.mp hx).1
    · rcases List.mem_append.mp hb with z | z
      · exact bars r hrr b z u hu
      · have q : b = (l.1, lessP l.1 t) := by simpa using z
        subst q
        intro hx
        have hx2 := of_decide_eq_true (List.mem_filter.mp hx).2
        rw [e] at hu
        exact hx2 (Option.some.inj hu).symm
/-- from a menu of one thing it is surely taken -/
theorem sure_one {ns : List α} {Ls : List (Lk α)} {t : α} (ht : t ∈ ns) : sureP ns Ls [t] t := by
  cases e : wantsP Ls with
  | nil => exact absurd e (wants_ne Ls)
  | cons W Ws =>
    refine ⟨W, by rw [e]; exact List.mem_cons_self, fun z => ?_⟩
    have st : stepL [([t], [t])] [t] = [t] := by
      unfold stepL
      rw [List.filter_cons]
      have b : barred [([t], [t])] [t] t = true := barred_iff.mpr ⟨_, List.mem_cons_self, fun _ h => h, List.mem_cons_self⟩
      rw [if_pos b]
      rfl
    have h := stable_sub (B' := barsP Ls ++ W ++ [([t], [t])]) (L := ns) (fun b hb => List.mem_append_right _ hb) st (fun x hx => by
      have q : x = t := by simpa using hx
      rw [q]
      exact ht) ns.length t List.mem_cons_self
    have z' : iterL (barsP Ls ++ W ++ [([t], [t])]) ns.length ns = [] := z
    rw [z'] at h
    cases h
end
end Mh
end
section
set_option Elab.async false
set_option linter.all false
set_option maxRecDepth 100000
set_option maxHeartbeats 4000000
/-! MhK: rules whose readings look at the written part, with that part named (needed within comprehensions). -/
namespace Mh
open PySem PySem.Spec PyProof.Rows L2 MhX
section
variable {X : Cx} (K : PySem.W.Frag)
theorem op_in_seqK (h : X.K = K := by rfl) : OpR X (compareOp .In) (rIn K false) := by subst h; exact op_in_seq
theorem op_notIn_seqK (h : X.K = K := by rfl) : OpR X (compareOp .NotIn) (rIn K true) := by subst h; exact op_notIn_seq
theorem ix_listK (h : X.K = K := by rfl) : IxR X (rIxL K) := by subst h; exact ix_list
theorem ix_tupK (h : X.K = K := by rfl) : IxR X (rIxT K) := by subst h; exact ix_tup
theorem sl_listK (h : X.K = K := by rfl) : SlR X (rSlL K) := by subst h; exact sl_list
theorem sl_tupAK (h : X.K = K := by rfl) : SlR X (rSlA K) := by subst h; exact sl_tupA
theorem op_catAK (h : X.K = K := by rfl) : OpR X (binaryOp .Add) (rCatA K) := by subst h; exact op_catA
theorem call_len_seqK (h : X.K = K := by rfl) : CallR X (.builtin "len") (fun xs H Q => ∃ p ys, xs = [.ref p] ∧ (SqL K H p ys ∨ SqT K H p ys) ∧ Q (.int ys.length) H) := by subst h; exact call_len_seq
theorem call_isiK' (h : X.K = K := by rfl) : CallR X (.builtin "isinstance") (rIsi K) := by subst h; exact call_isi
theorem call_tuple_ofK (h : X.K = K := by rfl) : CallR X (.type "tuple") (fun xs H Q => ∃ p ys, xs = [.ref p] ∧ ((SqL K H p ys ∧ ∀ l, H l = none → Q (.ref l) (upd H l (.tup ys))) ∨ (SqT K H p ys ∧ Q (.ref p) H))) := by subst h; exact call_tuple_of
theorem call_list_ofK (h : X.K = K := by rfl) : CallR X (.type "list") (fun xs H Q => ∃ p ys, xs = [.ref p] ∧ (SqL K H p ys ∨ SqT K H p ys) ∧ ∀ l, H l = none → Q (.ref l) (upd H l (.lst ys))) := by subst h; exact call_list_of
theorem cr_allK (hc : X.calm = true) (h : X.K = K := by rfl) : CallR X (.builtin "all") (rAll K) := by subst h; exact cr_all hc
theorem cr_anyK (hc : X.calm = true) (h : X.K = K := by rfl) : CallR X (.builtin "any") (rAny K) := by subst h; exact cr_any hc
theorem cr_sumK (hc : X.calm = true) (h : X.K = K := by rfl) : CallR X (.builtin "sum") (rSum K) := by subst h; exact cr_sum hc
theorem cr_sortedSK (h : X.K = K := by rfl) : CallR X (.builtin "sorted") (rSortedS K) := by subst h; exact cr_sortedS
theorem op_eqDK (hu : X.A.units + 64 < cLine) (h : X.K = K := by rfl) : OpR X (compareOp .Eq) (rEqD K) := by subst h; exact op_eqD hu
theorem op_neDK (hu : X.A.units + 64 < cLine) (h : X.K = K := by rfl) : OpR X (compareOp .NotEq) (rNeD K) := by subst h; exact op_neD hu
theorem pe_fldK {e : Expr} {f : Str} {pos : Pos} {ta : TE} (ha : PE X e ta) (hb : attributeBase e f X.env (eval e X.env) = eval e X.env) (h : X.K = K := by rfl) : PE X (.Attribute e f pos) (tFld K ta f) := by subst h; exact pe_fld ha hb
theorem pi_tupK {tg l : Expr} {tl : TE} (hl : PE X l tl) (h : X.K = K := by rfl) : PI X tg l (iTup K tl) := by subst h; exact pi_tup hl
theorem pi_listK {tg l : Expr} {tl : TE} (hl : PE X l tl) (h : X.K = K := by rfl) : PI X tg l (iList K tl) := by subst h; exact pi_list hl
theorem pg_tupK {pos : Pos} {es : List Expr} {k : Nat} {t : TGs} {n : Nat} (hc : X.calm = true) (h : PGs X es t) (e : X.K = K := by rfl)
    (hn : (assignEach es X.env).length = n := by rfl) (hst : (assignEach es X.env).findIdx? (·.1) = none := by rfl) : PG X (.Tuple es k pos) (gTup K n t) := by subst e; exact pg_tup hc h hn hst
theorem pa_starK {e : Expr} {es : List Expr} {p : Pos} {te : TE} {t : TA} (he : PE X e te) (hr : PA X es t) (h : X.K = K := by rfl) (hs : starEach (.Starred e p :: es) X.env = (true, eval e X.env) :: starEach es X.env := by rfl) : PA X (.Starred e p :: es) (StX.tStar K te t) := by subst h; exact StX.pa_star he hr hs
theorem pe_bmK {o e : Expr} {es : List Expr} {to : TE} {t : TA} {name : Str} {apos cpos : Pos} {T id : String} {r : V → List V → Hp → VK → Prop} (pa : PlainAttrs T) (slot : Slot T name id) (hty : typeOf (.builtin id) = pure (.type "method_descriptor")) (hm : MtR X id r) (ho : PE X o to) (ha : PA X (e :: es) t)
    (h : X.K = K := by rfl)
    (hbase : attributeBase o name X.env (eval o X.env) = eval o X.env := by rfl)
    (hfew : ((backTo cpos (starEach (e :: es) X.env)).all (fun x => !x.1) && (backToKw cpos (keywordEach [] X.env)).all (fun x => x.1.isSome)
      && decide ((e :: es).length + ([] : List Keyword).length + (if ([] : List Keyword).isEmpty then 0 else 1) < 30)) = true := by rfl)
    (hline : (apos.endLine == cpos.line) = true := by rfl) (hs : starEach (e :: es) X.env = (false, eval e X.env) :: starEach es X.env := by rfl) (hplain : (backTo cpos (starEach es X.env)).any (·.1) = false := by rfl) :
    PE X (.Call (.Attribute o name apos) (e :: es) [] cpos) (tBM K T r to t) := by subst h; exact pe_bm pa slot hty hm ho ha hbase hfew hline hs hplain
def rJoin (K : PySem.W.Frag) : V → List V → Hp → VK → Prop := fun x xs H Q => ∃ a p, ∃ ys : List Str, x = .str a ∧ xs = [.ref p] ∧ (SqL K H p (ys.map V.str) ∨ SqT K H p (ys.map V.str)) ∧
      (ys.map (·.length)).sum + ys.length * a.length ≤ 16777216 ∧ Q (.str (Txt.join a ys)) H
theorem pe_joinK {o e : Expr} {to te : TE} {apos pos : Pos} (ho : PE X o to) (he : PE X e te) (h : X.K = K := by rfl) (hs : starEach [e] X.env = [(false, eval e X.env)] := by rfl) (hbase : attributeBase o "join" X.env (eval o X.env) = eval o X.env := by rfl) (hline : (apos.endLine == pos.line) = true := by rfl) :
    PE X (.Call (.Attribute o "join" apos) [e] [] pos) (tM1 (rJoin K) to te) := by subst h; exact pe_join ho he hs hbase hline
end
end Mh
end
section
set_option Elab.async false
set_option linter.all false
set_option maxRecDepth 100000
set_option maxHeartbeats 4000000
/-! MhW1: rows: is_part, less. -/
namespace Mh
open PySem PySem.Spec PyProof.Rows L2 MhX
open C8 (Cal Mak Met pe_c pe_mk pe_mt pe_mt0 pe_gc pss_cut tCut)
/-- the names of the module that the walks read -/
structure Tx (K : PySem.W.Frag) (mg : Str → Option Value) : Prop where
  n : Nn mg
  c_MOST_THINGS : ∃ u, mg "MOST_THINGS" = some u ∧ RelV (.int 10) u
  c_MOST_LOOKS : ∃ u, mg "MOST_LOOKS" = some u ∧ RelV (.int 12) u
  c_LETTERS : ∃ u, mg "LETTERS" = some u ∧ RelV (.str "abcdefghijklmnopqrstuvwxyz") u
  c_SIGNS : ∃ u, mg "SIGNS" = some u ∧ RelV (.str "abcdefghijklmnopqrstuvwxyz0123456789") u
section
variable {P : Program} {w : World} {K : PySem.W.Frag} {mg : Str → Option Value} {base : Heap}
theorem fm_map {α β : Type} (f : α → β) (xs : List α) : xs.filterMap (fun t => some (f t)) = xs.map f := by
  induction xs with
  | nil => rfl
  | cons x xs ih => rw [List.filterMap_cons, ih, List.map_cons]
theorem filter_fm {α β : Type} (xs : List α) (p : α → Bool) (f : α → β) : xs.filterMap (fun t => if p t = true then some (f t) else none) = (xs.filter p).map f := by
  induction xs with
  | nil => rfl
  | cons x xs ih =>
    rw [List.filterMap_cons, List.filter_cons, ih]
    cases p x <;> rfl
/-- [f(t) for t in a tuple if p(t)] -/
theorem lc_seq {α : Type} {J : It} {G : Hp → Prop} {xs : List α} {v : α → V} (wk : Walk J (xs.map v).length G (YAt (xs.map v))) {g : TG} {tt : L2.TT} {te : TE} {vs : List Nat} {σ : L2.St} {H1 : Hp} {D : Addr} {Qd : Hp → Prop} (p : α → Bool) (f : α → V) (hD : H1 D = none) (hn : xs.length ≤ 1000) (hG : ∀ H, Same H1 H → G H)
    (hs : ∀ t H, t ∈ xs → Same H1 H → ∀ R : Option V → Hp → Prop, (∀ H'', Same H H'' → (p t = true → R (some (f t)) H'') ∧ (p t = false → R none H'')) → g (v t) (wipe σ vs) H fun σ2 H2 => wipe σ2 vs = wipe σ vs ∧ tt σ2 H2 fun b H3 => if b = true then te σ2 H3 fun y H4 => R (some y) H4 else R none H3)
    (hd : ∀ H, Same H1 H → H D = some (.lst ((xs.filter p).map f)) → Qd H) :
    ∃ W : Nat → Nat → Hp → Prop, (∃ m, W 0 m (upd H1 D (.lst []))) ∧ ∀ i m H, W i m H →
      (J.stop i H ∧ Qd H) ∨ (J.go i H ∧ ∃ Nx : Hp → Prop, (∀ H', Nx H' → ∃ m', m' < m ∧ W (i + 1) m' H') ∧ ∀ x H', J.yld i H x H' → g x (wipe σ vs) H' fun σ2 H2 => wipe σ2 vs = wipe σ vs ∧ tt σ2 H2 fun b H3 =>
        if b = true then te σ2 H3 fun y H4 => ∃ acc, H4 D = some (.lst acc) ∧ acc.length < sizeLine ∧ Nx (upd H4 D (.lst (acc ++ [y]))) else Nx H3) := by
  refine lc_pure wk (fun i => (xs[i]?).bind fun t => if p t = true then some (f t) else none) hD (by rw [List.length_map]; exact Nat.le_of_lt (small1000 hn)) hG ?_ ?_
  · rintro i x H1 H2 hi s ⟨e0, hx⟩ R k
    subst e0
    obtain ⟨t, ht, rfl⟩ := get_map hx
    refine hs t H2 (List.mem_of_getElem? ht) s R fun H'' s2 => ?_
    have q := k H'' s2
    rw [ht] at q
    have q2 : R (if p t = true then some (f t) else none) H'' := q
    constructor
    · intro e
      rw [e] at q2
      exact q2
    · intro e
      rw [e] at q2
      exact q2
  · intro H s e
    rw [List.length_map, range_fm, filter_fm] at e
    exact hd H s e
/-- all of the one stand in the other -/
def spIsPart (K : PySem.W.Frag) : Sp := fun vs H Q _ => ∃ (a b : Addr) (xs ys : List Str), vs = [.ref a, .ref b] ∧ TT K H a xs ∧ TT K H b ys ∧ xs.length ≤ 1000 ∧
  ∀ H', Same H H' → Q (.bl (decide (∀ t ∈ xs, t ∈ ys))) H'
theorem sc_is_part : FnScope ["one", "other", "thing"] ["one", "other"] (L2.defScope (fnd 32)) := ⟨rfl, rfl, rfl, by decide +kernel, rfl, by decide +kernel, by decide +kernel⟩
theorem d_is_part (T : Tx K mg) (D : DefF K mg "is_part" (fnd 32)) : Cal P w K mg base 1 "is_part" (spIsPart K) [] := by
  have S := sc_is_part
  refine mkCal D S (fun _ _ _ _ _ _ us hl => match us, hl with | [_, _], _ => rfl) (fun vs H Q E h => ?_) (fun f cdv A outer s H vs Q E hr h => ?_)
  · obtain ⟨a, b, xs, ys, rfl, _⟩ := h
    rfl
  obtain ⟨a, b, xs, ys, rfl, ha, hb, hl, k⟩ := h
  -- slots: 0 one, 1 other, 2 thing
  refine ⟨_, (pss_one (ps_ret (pe_callB (cr_allK K rfl) rfl T.n.all (by rfl) (pa_cons (pe_lc rfl S.nd (pi_tupK K (pv 0)) (blkOk_by (N := ["one", "other", "thing"]) (sc := L2.defScope (fnd 32)) (own := [("thing", 2)]) (by decide +kernel)) (fun _ _ _ _ _ => (pg_name (i := 2) S.nd rfl (Or.inl rfl))) (fun _ _ _ _ _ => pts_nil) (fun _ _ _ _ _ => (pe_cmpR (op_in_seqK K) (pv 2) (pv 1) (by rfl)))) pa_nil)))), ?_⟩
  refine ⟨_, rfl, a, rfl, ⟨_, ha⟩, fun D hD => lc_pure walk_tup (fun i => (xs[i]?).bind fun t => some (V.bl (decide (t ∈ ys)))) hD (by rw [List.length_map]; exact Nat.le_of_lt (small1000 hl)) (fun H' s => ha.same s) ?_ ?_⟩
  · rintro i x H1 H2 hi s ⟨e0, hx⟩ P k
    subst e0
    obtain ⟨t, ht, rfl⟩ := get_map hx
    refine ⟨rfl, _, rfl, _, rfl, b, _, rfl, .inr (hb.same s), rfl, all_flat _, ?_⟩
    have q := k H2 (Same.refl _)
    rw [ht] at q
    show P (some (V.bl (inV (.str t) (ys.map V.str)))) H2
    rw [inV_str]
    exact q
  · intro H' s hl
    refine ⟨D, xs.map fun t => decide (t ∈ ys), rfl, .inl (.inl ?_), ?_⟩
    · rw [hl, List.length_map, range_fm]
      rw [List.map_map, fm_map]
      rfl
    · have e : (xs.map fun t => decide (t ∈ ys)).all id = decide (∀ t ∈ xs, t ∈ ys) := by
        rw [Bool.eq_iff_iff]
        simp
      rw [e]
      exact k H' s
/-- the things without one -/
def spLess (K : PySem.W.Frag) : Sp := fun vs H Q _ => ∃ (a : Addr) (xs : List Str) (z : Str), vs = [.ref a, .str z] ∧ TT K H a xs ∧ xs.length ≤ 1000 ∧
  ∀ H' p, Same H H' → TT K H' p (xs.filter fun t => decide (t ≠ z)) → Q (.ref p) H'
theorem sc_less : FnScope ["things", "thing", "other"] ["things", "thing"] (L2.defScope (fnd 33)) := ⟨rfl, rfl, rfl, by decide +kernel, rfl, by decide +kernel, by decide +kernel⟩
theorem d_less (T : Tx K mg) (D : DefF K mg "less" (fnd 33)) : Cal P w K mg base 1 "less" (spLess K) [] := by
  have S := sc_less
  refine mkCal D S (fun _ _ _ _ _ _ us hl => match us, hl with | [_, _], _ => rfl) (fun vs H Q E h => ?_) (fun f cdv A outer s H vs Q E hr h => ?_)
  · obtain ⟨a, xs, z, rfl, _⟩ := h
    rfl
  obtain ⟨a, xs, z, rfl, ha, hl, k⟩ := h
  -- slots: 0 things, 1 thing, 2 other
  refine ⟨_, (pss_one (ps_ret (pe_callTy (call_tuple_ofK K) rfl T.n.tuple (by rfl) (pa_cons (pe_lc rfl S.nd (pi_tupK K (pv 0)) (blkOk_by (N := ["things", "thing", "other"]) (sc := L2.defScope (fnd 33)) (own := [("other", 2)]) (by decide +kernel)) (fun _ _ _ _ _ => (pg_name (i := 2) S.nd rfl (Or.inl rfl))) (fun _ _ _ _ _ => (pts_one (pt_cmpR op_ne (pv 2) (pv 1) (nomark _)))) (fun _ _ _ _ _ => (pv 2))) pa_nil)))), ?_⟩
  refine ⟨_, rfl, a, rfl, ⟨_, ha⟩, fun D hD => lc_pure walk_tup (fun i => (xs[i]?).bind fun t => if decide (t ≠ z) = true then some (V.str t) else none) hD (by rw [List.length_map]; exact Nat.le_of_lt (small1000 hl)) (fun H' s => ha.same s) ?_ ?_⟩
  · rintro i x H1 H2 hi s ⟨e0, hx⟩ P k
    subst e0
    obtain ⟨t, ht, rfl⟩ := get_map hx
    have q := k H2 (Same.refl _)
    rw [ht] at q
    refine ⟨rfl, _, rfl, _, rfl, rfl, _, rfl, ?_⟩
    by_cases e : t = z
    · have e2 : decide (V.str t = V.str z) = true := by simp [e]
      rw [e2]
      refine iteF ?_
      have q2 : P (if decide (t ≠ z) = true then some (V.str t) else none) H2 := q
      rw [if_neg (by simp [e])] at q2
      exact q2
    · have e2 : decide (V.str t = V.str z) = false := by simp [e]
      rw [e2]
      refine iteT ⟨_, rfl, ?_⟩
      have q2 : P (if decide (t ≠ z) = true then some (V.str t) else none) H2 := q
      rw [if_pos (by simp [e])] at q2
      exact q2
  · intro H' s hl
    refine ⟨D, _, rfl, .inl ⟨.inl (.inl hl), fun p hp => ?_⟩⟩
    refine k _ p (same_upd ?_ s) (SqT.new ?_)
    · exact s.free hp
    · rw [upd_same, List.length_map, range_fm, filter_fm]
end
end Mh
end
section
set_option Elab.async false
set_option linter.all false
set_option maxRecDepth 100000
set_option maxHeartbeats 4000000
/-! MhW2: values: what is asked of indexes, names, menus, things. -/
namespace Mh
open PySem PySem.Spec PyProof.Rows L2 MhX
open C8 (Cal Mak Met pe_c pe_mk pe_mt pe_mt0 pe_gc pss_cut tCut)
abbrev sLetters : Str := "abcdefghijklmnopqrstuvwxyz"
abbrev sSigns : Str := "abcdefghijklmnopqrstuvwxyz0123456789"
structure NameOk (t : Str) : Prop where
  lo : 1 ≤ t.cps.size
  hi : t.cps.size ≤ 8
  hd : ∃ c, t.cps.toList[0]? = some c ∧ c ∈ sLetters.cps.toList
  al : ∀ c ∈ t.cps.toList, c ∈ sSigns.cps.toList
def Lt (a b : Str) : Prop := a.cps.toList < b.cps.toList
/-- strictly ascending -/
def Asc (ns : List Str) : Prop := ns.Pairwise Lt
theorem tyx_tuple {K : PySem.W.Frag} {H : Hp} {a : Addr} {xs : List V} (h : SqT K H a xs) : TyX K H (.ref a) (.type "tuple") := by
  rcases h with (h | ⟨o, h⟩) | ⟨o, its, n, h, hc, _⟩
  · exact .base (.tup h)
  · exact .fTuple h
  · exact .kTuple h hc
theorem blT {p : Prop} [Decidable p] (h : p) : V.bl (decide p) = V.bl true := by rw [decide_eq_true h]
theorem blF {p : Prop} [Decidable p] (h : ¬ p) : V.bl (decide p) = V.bl false := by rw [decide_eq_false h]
theorem len_small {n : Nat} (h : n ≤ 1000) : n ≤ sizeLine := Nat.le_of_lt (small1000 h)
theorem asc_at {ns : List Str} (h : Asc ns) {i j : Nat} {a b : Str} (hi : ns[i]? = some a) (hj : ns[j]? = some b) (hij : i < j) : Lt a b := by
  obtain ⟨h1, rfl⟩ := List.getElem?_eq_some_iff.mp hi
  obtain ⟨h2, rfl⟩ := List.getElem?_eq_some_iff.mp hj
  exact List.pairwise_iff_getElem.mp h i j h1 h2 hij
section
variable {P : Program} {w : World} {K : PySem.W.Frag} {mg : Str → Option Value} {base : Heap}
def spNat : Sp := fun vs H Q _ => ∃ i : Int, vs = [.int i] ∧ 0 ≤ i ∧ Q (.bl true) H
theorem sc_is_natural : FnScope ["value"] ["value"] (L2.defScope (fnd 37)) := ⟨rfl, rfl, rfl, by decide +kernel, rfl, by decide +kernel, by decide +kernel⟩
theorem d_is_natural (T : Tx K mg) (D : DefF K mg "is_natural" (fnd 37)) : Cal P w K mg base 1 "is_natural" spNat [] := by
  have S := sc_is_natural
  refine mkCal D S (fun _ _ _ _ _ _ us hl => match us, hl with | [_], _ => rfl) (fun vs H Q E h => ?_) (fun f cdv A outer s H vs Q E hr h => ?_)
  · obtain ⟨i, rfl, _⟩ := h
    rfl
  obtain ⟨i, rfl, h0, k⟩ := h
  -- slots: 0 value
  refine ⟨_, (pss_one (ps_ret (pe_and (pe_callB (call_isiK' K) rfl T.n.isi (by rfl) (pa_cons (pv 0) (pa_cons (pe_bltn rfl T.n.int rfl (v := V.ty "int") rfl) pa_nil))) (pe_and (pe_not (pe_callB (call_isiK' K) rfl T.n.isi (by rfl) (pa_cons (pv 0) (pa_cons (pe_bltn rfl T.n.bool rfl (v := V.ty "bool") rfl) pa_nil)))) (pe_one (pe_cmpR op_ge (pv 0) pe_int (nomark _))))))), ?_⟩
  refine ⟨_, rfl, _, _, _, _, true, rfl, .ty "int", .base (.int i), kit_ty (by decide +kernel), true, rfl, ?_⟩
  refine iteT ⟨_, rfl, _, _, _, _, false, rfl, .ty "bool", .base (.int i), kit_ty (by decide +kernel), false, rfl, true, rfl, ?_⟩
  refine iteT ⟨_, rfl, i, 0, rfl, rfl, ?_⟩
  show Q (V.bl (decide ((0 : Int) ≤ i))) H
  rw [decide_eq_true h0]
  exact k
def spIndex : Sp := fun vs H Q _ => ∃ i n : Int, vs = [.int i, .int n] ∧ 0 ≤ i ∧ i < n ∧ Q (.bl true) H
theorem sc_is_index : FnScope ["value", "many"] ["value", "many"] (L2.defScope (fnd 38)) := ⟨rfl, rfl, rfl, by decide +kernel, rfl, by decide +kernel, by decide +kernel⟩
theorem d_is_index (T : Tx K mg) (D : DefF K mg "is_index" (fnd 38)) (c_is_natural : Cal P w K mg base 1 "is_natural" spNat []) : Cal P w K mg base 2 "is_index" spIndex [] := by
  have S := sc_is_index
  refine mkCal D S (fun _ _ _ _ _ _ us hl => match us, hl with | [_, _], _ => rfl) (fun vs H Q E h => ?_) (fun f cdv A outer s H vs Q E hr h => ?_)
  · obtain ⟨i, n, rfl, _⟩ := h
    rfl
  obtain ⟨i, n, rfl, h0, h1, k⟩ := h
  -- slots: 0 value, 1 many
  refine ⟨_, (pss_one (ps_ret (pe_and (pe_c c_is_natural hr (by decide) rfl (pa_cons (pv 0) pa_nil)) (pe_one (pe_cmpR op_lt (pv 0) (pv 1) (nomark _)))))), ?_⟩
  refine ⟨_, rfl, i, rfl, h0, true, rfl, iteT ?_⟩
  refine ⟨_, rfl, _, rfl, i, n, rfl, rfl, ?_⟩
  show Q (V.bl (decide (i < n))) H
  rw [decide_eq_true h1]
  exact k
def spIsName : Sp := fun vs H Q _ => ∃ t : Str, vs = [.str t] ∧ NameOk t ∧ ∀ H', Same H H' → Q (.bl true) H'
theorem sc_is_name : FnScope ["value", "sign"] ["value"] (L2.defScope (fnd 39)) := ⟨rfl, rfl, rfl, by decide +kernel, rfl, by decide +kernel, by decide +kernel⟩
theorem d_is_name (T : Tx K mg) (D : DefF K mg "is_name" (fnd 39)) : Cal P w K mg base 1 "is_name" spIsName [] := by
  have S := sc_is_name
  refine mkCal D S (fun _ _ _ _ _ _ us hl => match us, hl with | [_], _ => rfl) (fun vs H Q E h => ?_) (fun f cdv A outer s H vs Q E hr h => ?_)
  · obtain ⟨t, rfl, _⟩ := h
    rfl
  obtain ⟨t, rfl, h0, k⟩ := h
  have hi := h0.hi
  have lo := h0.lo
  -- slots: 0 value, 1 sign
  refine ⟨_, (pss_cons (ps_if (PW.pt (pw_or (pt_not (pt_val (pe_callB (call_isiK' K) rfl T.n.isi (by rfl) (pa_cons (pv 0) (pa_cons (pe_bltn rfl T.n.str rfl (v := V.ty "str") rfl) pa_nil))))) (pw_or1 (pt_not (pt_chain op_le op_le pe_int (pe_callB call_len_str rfl T.n.len (by rfl) (pa_cons (pv 0) pa_nil)) pe_int))))) (pss_one (ps_ret pe_bl)) pss_nil) (pss_one (ps_ret (pe_and (pe_cmpR op_in_sign (pe_ix ix_str (pv 0) pe_int (fun _ _ => rfl)) (pe_gc rfl T.c_LETTERS) (by rfl)) (pe_one (pe_callB (cr_allK K rfl) rfl T.n.all (by rfl) (pa_cons (pe_lc rfl S.nd (pi_str (pv 0)) (blkOk_by (N := ["value", "sign"]) (sc := L2.defScope (fnd 39)) (own := [("sign", 1)]) (by decide +kernel)) (fun _ _ _ _ _ => (pg_name (i := 1) S.nd rfl (Or.inl rfl))) (fun _ _ _ _ _ => pts_nil) (fun _ _ _ _ _ => (pe_cmpR op_in_sign (pv 1) (pe_gc rfl T.c_SIGNS) (by rfl)))) pa_nil))))))), ?_⟩
  refine ⟨_, rfl, _, _, _, _, true, rfl, .ty "str", .base (.str t), kit_ty (by decide +kernel), true, rfl, ?_⟩
  refine iteF ⟨_, rfl, t, rfl, len_small (by show t.cps.size ≤ 1000; omega), 1, _, rfl, rfl, true, blT (by show (1 : Int) ≤ (t.cps.size : Int); omega), iteT ⟨_, _, rfl, rfl, true, blT (by show (t.cps.size : Int) ≤ 8; omega), ?_⟩⟩
  refine iteF ?_
  obtain ⟨c, hc, hcL⟩ := h0.hd
  refine ⟨_, rfl, t, 0, c, rfl, rfl, len_small (by show t.cps.size ≤ 1000; omega), atI_nat (j := 0) hc, c, _, rfl, rfl, true, blT hcL, iteT ?_⟩
  refine ⟨_, rfl, t, rfl, fun D hD => lc_pure walk_str (fun i => (t.cps.toList[i]?).map fun _ => V.bl true) hD (len_small (by omega)) (fun _ _ => trivial) ?_ ?_⟩
  · rintro i x H1 H2 hi s ⟨e0, c, hc, rfl⟩ R k
    subst e0
    have hc' : t.cps.toList[i]? = some c := by simpa using hc
    have q := k H2 (Same.refl _)
    rw [hc'] at q
    refine ⟨rfl, _, rfl, c, _, rfl, rfl, ?_⟩
    rw [decide_eq_true (h0.al c (List.mem_of_getElem? hc'))]
    exact q
  · intro H' s hl
    refine ⟨D, (List.range t.cps.size).map fun _ => true, rfl, .inl (.inl ?_), ?_⟩
    · rw [hl, List.map_map]
      congr 2
      have e : ((List.range t.cps.toList.length).filterMap fun i => (t.cps.toList[i]?).bind fun _ => some (V.bl true)) = t.cps.toList.map fun _ => V.bl true := by rw [range_fm, fm_map]
      have e1 : (fun i : Nat => (t.cps.toList[i]?).map fun _ => V.bl true) = fun i : Nat => (t.cps.toList[i]?).bind fun _ => some (V.bl true) := by
        funext i
        cases t.cps.toList[i]? <;> rfl
      rw [e1]
      have e2 : t.cps.toList.length = t.cps.size := by simp
      rw [← e2, e]
      refine List.ext_getElem (by simp) fun i h1 h2 => by simp
    · have e : ((List.range t.cps.size).map fun _ => true).all id = true := by
        rw [List.all_eq_true]
        intro b hb
        obtain ⟨_, _, rfl⟩ := List.mem_map.mp hb
        rfl
      rw [e]
      exact k H' s
/-- a menu of some things -/
structure MenuOk (M ns : List Str) : Prop where
  asc : Asc M
  ne : M ≠ []
  sub : ∀ t ∈ M, t ∈ ns
  few : M.length ≤ 100
def spWrongPlace (K : PySem.W.Frag) : Sp := fun vs H Q _ => ∃ (a b : Addr) (M ns : List Str), vs = [.ref a, .ref b] ∧ TT K H a M ∧ TT K H b ns ∧ MenuOk M ns ∧ ∀ H', Same H H' → Q (.int (-1)) H'
theorem sc_wrong_place : FnScope ["value", "things", "k", "thing"] ["value", "things"] (L2.defScope (fnd 40)) := ⟨rfl, rfl, rfl, by decide +kernel, rfl, by decide +kernel, by decide +kernel⟩
theorem d_wrong_place (T : Tx K mg) (D : DefF K mg "wrong_place" (fnd 40)) : Cal P w K mg base 1 "wrong_place" (spWrongPlace K) [] := by
  have S := sc_wrong_place
  refine mkCal D S (fun _ _ _ _ _ _ us hl => match us, hl with | [_, _], _ => rfl) (fun vs H Q E h => ?_) (fun f cdv A outer s H vs Q E hr h => ?_)
  · obtain ⟨a, b, M, ns, rfl, _⟩ := h
    rfl
  obtain ⟨a, b, M, ns, rfl, ha, hb, m, k⟩ := h
  -- slots: 0 value, 1 things, 2 k, 3 thing
  refine ⟨_, (pss_cons (ps_if (PW.pt (pw_or (pt_not (pt_val (pe_callB (call_isiK' K) rfl T.n.isi (by rfl) (pa_cons (pv 0) (pa_cons (pe_bltn rfl T.n.tuple rfl (v := V.ty "tuple") rfl) pa_nil))))) (pw_or1 (pt_cmpR op_eq (pe_callB (call_len_seqK K) rfl T.n.len (by rfl) (pa_cons (pv 0) pa_nil)) pe_int (nomark _))))) (pss_one (ps_ret pe_non)) pss_nil) 
    (pss_cons (ps_for PassesOwn.never rfl (pi_enumT rfl T.n.enu (pa_cons (pv 0) pa_nil)) (pg_tupK K rfl (pgs_cons (pg_name (i := 2) S.nd rfl (Or.inl rfl)) (pgs_cons (pg_name (i := 3) S.nd rfl (Or.inl rfl)) pgs_nil))) (pss_one (ps_if (PW.pt (pw_or (pt_not (pt_val (pe_callB (call_isiK' K) rfl T.n.isi (by rfl) (pa_cons (pv 3) (pa_cons (pe_bltn rfl T.n.str rfl (v := V.ty "str") rfl) pa_nil))))) (pw_or (pt_cmpR (op_notIn_seqK K) (pv 3) (pv 1) (by rfl)) (pw_or1 (PW.pt (pw_and (pt_cmpR op_gt (pv 2) pe_int (nomark _)) (pw_and1 (pt_cmpR op_le_str (pv 3) (pe_ix (ix_tupK K) (pv 0) (pe_op op_sub (pv 2) pe_int) (fun _ _ => rfl)) (nomark _))))))))) (pss_one (ps_ret (pv 2))) pss_nil))) (pss_one (ps_ret (pe_un un_neg pe_int))))), ?_⟩
  refine ⟨_, rfl, _, _, _, _, true, rfl, .ty "tuple", tyx_tuple ha, kit_ty (by decide +kernel), true, rfl, ?_⟩
  refine iteF ⟨_, rfl, a, _, rfl, .inr ha, rfl, false, ?_, ?_⟩
  · refine blF fun e => ?_
    rw [List.length_map] at e
    cases e2 : M with
    | nil => exact m.ne e2
    | cons x xs =>
      rw [e2] at e
      have e3 : ((x :: xs).length : Int) = 0 := V.int.inj e
      rw [List.length_cons] at e3
      omega
  refine iteF ?_
  refine ⟨_, rfl, a, _, rfl, ha, for_it walk_enumT (fun i σ H2 => ∃ v1 v2, σ = [some (.ref a), some (.ref b), v1, v2] ∧ Same H H2) ⟨none, none, rfl, Same.refl _⟩ (fun i σ H2 _ ⟨_, _, _, s2⟩ => ha.same s2) ?_ ?_⟩
  · rintro i x σ H2 H3 hi ⟨v1, v2, rfl, s2⟩ ⟨p, u, y, rfl, hp, rfl, hu, hy⟩
    obtain ⟨t, ht, rfl⟩ := get_map hy
    cases hu
    have s3 : Same H (upd H2 p (.tup [V.int (i : Nat), V.str t])) := same_upd (s2.free hp) s2
    refine ⟨p, _, rfl, SqT.new upd_same, rfl, _, _, rfl, _, _, rfl, rfl, ?_⟩
    refine ⟨_, rfl, _, _, _, _, true, rfl, .ty "str", .base (.str t), kit_ty (by decide +kernel), true, rfl, ?_⟩
    refine iteF ⟨_, rfl, _, rfl, b, _, rfl, .inr (hb.same s3), rfl, all_flat _, false, ?_, ?_⟩
    · show V.bl (!inV (.str t) (ns.map V.str)) = V.bl false
      rw [inV_str, decide_eq_true (m.sub t (List.mem_of_getElem? ht))]
      rfl
    refine iteF ⟨_, rfl, _, _, rfl, rfl, _, rfl, ?_⟩
    refine ite2 (fun hk => ?_) (fun hk => ?_)
    · have hk : (0 : Int) < (i : Int) := of_decide_eq_true hk
      obtain ⟨j, rfl⟩ : ∃ j, i = j + 1 := ⟨i - 1, by omega⟩
      have hj : j < M.length := by
        rw [List.length_map] at hi
        omega
      have hat : atI (M.map V.str) (((j + 1 : Nat) : Int) - 1) = some (.str M[j]) := by
        rw [show (((j + 1 : Nat) : Int) - 1) = (j : Int) by omega]
        exact atI_nat (by simp [hj])
      refine ⟨_, rfl, _, rfl, _, rfl, _, _, rfl, rfl, a, _, _, _, rfl, rfl, ha.same s3, hat, t, M[j], rfl, rfl, false, ?_, iteF ⟨_, _, rfl, s3⟩⟩
      have h1 : M[j].cps.toList < t.cps.toList := asc_at m.asc (List.getElem?_eq_getElem hj) ht (Nat.lt_succ_self j)
      show V.bl (!decide (M[j].cps.toList < t.cps.toList)) = V.bl false
      rw [decide_eq_true h1]
      rfl
    · exact iteF ⟨_, _, rfl, s3⟩
  · rintro σ H2 ⟨v1, v2, rfl, s2⟩
    exact ⟨_, rfl, k H2 s2⟩
/-- ascending names -/
structure NamesOk (ns : List Str) : Prop where
  asc : Asc ns
  ne : ns ≠ []
  ok : ∀ t ∈ ns, NameOk t
  few : ns.length ≤ 8
def spWrongNames (K : PySem.W.Frag) : Sp := fun vs H Q _ => ∃ (a : Addr) (ns : List Str), vs = [.ref a] ∧ TT K H a ns ∧ NamesOk ns ∧ ∀ H', Same H H' → Q (.int (-1)) H'
theorem len_ne {α : Type} {xs : List α} (h : xs ≠ []) : ¬ V.int (xs.length : Int) = V.int 0 := by
  intro e
  cases xs with
  | nil => exact h rfl
  | cons x xs =>
    have e3 : ((x :: xs).length : Int) = 0 := V.int.inj e
    rw [List.length_cons] at e3
    omega
theorem sc_wrong_names : FnScope ["value", "k", "name"] ["value"] (L2.defScope (fnd 41)) := ⟨rfl, rfl, rfl, by decide +kernel, rfl, by decide +kernel, by decide +kernel⟩
theorem d_wrong_names (T : Tx K mg) (D : DefF K mg "wrong_names" (fnd 41)) (c_is_name : Cal P w K mg base 1 "is_name" spIsName []) : Cal P w K mg base 2 "wrong_names" (spWrongNames K) [] := by
  have S := sc_wrong_names
  refine mkCal D S (fun _ _ _ _ _ _ us hl => match us, hl with | [_], _ => rfl) (fun vs H Q E h => ?_) (fun f cdv A outer s H vs Q E hr h => ?_)
  · obtain ⟨a, ns, rfl, _⟩ := h
    rfl
  obtain ⟨a, ns, rfl, ha, m, k⟩ := h
  -- slots: 0 value, 1 k, 2 name
  refine ⟨_, (pss_cons (ps_if (PW.pt (pw_or (pt_not (pt_val (pe_callB (call_isiK' K) rfl T.n.isi (by rfl) (pa_cons (pv 0) (pa_cons (pe_bltn rfl T.n.tuple rfl (v := V.ty "tuple") rfl) pa_nil))))) (pw_or1 (pt_cmpR op_eq (pe_callB (call_len_seqK K) rfl T.n.len (by rfl) (pa_cons (pv 0) pa_nil)) pe_int (nomark _))))) (pss_one (ps_ret pe_non)) pss_nil) 
    (pss_cons (ps_for PassesOwn.never rfl (pi_enumT rfl T.n.enu (pa_cons (pv 0) pa_nil)) (pg_tupK K rfl (pgs_cons (pg_name (i := 1) S.nd rfl (Or.inl rfl)) (pgs_cons (pg_name (i := 2) S.nd rfl (Or.inl rfl)) pgs_nil))) (pss_one (ps_if (PW.pt (pw_or (pt_not (pt_val (pe_c c_is_name hr (by decide) rfl (pa_cons (pv 2) pa_nil)))) (pw_or (pt_cmpR op_eq (pv 1) (pe_gc rfl T.c_MOST_THINGS) (nomark _)) (pw_or1 (PW.pt (pw_and (pt_cmpR op_gt (pv 1) pe_int (nomark _)) (pw_and1 (pt_cmpR op_le_str (pv 2) (pe_ix (ix_tupK K) (pv 0) (pe_op op_sub (pv 1) pe_int) (fun _ _ => rfl)) (nomark _))))))))) (pss_one (ps_ret (pv 1))) pss_nil))) (pss_one (ps_ret (pe_un un_neg pe_int))))), ?_⟩
  refine ⟨_, rfl, _, _, _, _, true, rfl, .ty "tuple", tyx_tuple ha, kit_ty (by decide +kernel), true, rfl, ?_⟩
  refine iteF ⟨_, rfl, a, _, rfl, .inr ha, rfl, false, by rw [List.length_map]; exact blF (len_ne m.ne), ?_⟩
  refine iteF ?_
  refine ⟨_, rfl, a, _, rfl, ha, for_it walk_enumT (fun i σ H2 => ∃ v1 v2, σ = [some (.ref a), v1, v2] ∧ Same H H2) ⟨none, none, rfl, Same.refl _⟩ (fun i σ H2 _ ⟨_, _, _, s2⟩ => ha.same s2) ?_ ?_⟩
  · rintro i x σ H2 H3 hi ⟨v1, v2, rfl, s2⟩ ⟨p, u, y, rfl, hp, rfl, hu, hy⟩
    obtain ⟨t, ht, rfl⟩ := get_map hy
    cases hu
    rw [List.length_map] at hi
    have few := m.few
    have s3 : Same H (upd H2 p (.tup [V.int (i : Nat), V.str t])) := same_upd (s2.free hp) s2
    refine ⟨p, _, rfl, SqT.new upd_same, rfl, _, _, rfl, _, _, rfl, rfl, ?_⟩
    refine ⟨_, rfl, t, rfl, m.ok t (List.mem_of_getElem? ht), fun H4 s4 => ⟨true, rfl, ?_⟩⟩
    have s5 : Same H H4 := s3.trans s4
    refine iteF ⟨_, rfl, rfl, false, blF (fun e => ?_), ?_⟩
    · have e3 : (i : Int) = 10 := V.int.inj e
      omega
    refine iteF ⟨_, rfl, _, _, rfl, rfl, _, rfl, ?_⟩
    refine ite2 (fun hk => ?_) (fun hk => ?_)
    · have hk : (0 : Int) < (i : Int) := of_decide_eq_true hk
      obtain ⟨j, rfl⟩ : ∃ j, i = j + 1 := ⟨i - 1, by omega⟩
      have hj : j < ns.length := by omega
      have hat : atI (ns.map V.str) (((j + 1 : Nat) : Int) - 1) = some (.str ns[j]) := by
        rw [show (((j + 1 : Nat) : Int) - 1) = (j : Int) by omega]
        exact atI_nat (by simp [hj])
      refine ⟨_, rfl, _, rfl, _, rfl, _, _, rfl, rfl, a, _, _, _, rfl, rfl, ha.same s5, hat, t, ns[j], rfl, rfl, false, ?_, iteF ⟨_, _, rfl, s5⟩⟩
      have h1 : ns[j].cps.toList < t.cps.toList := asc_at m.asc (List.getElem?_eq_getElem hj) ht (Nat.lt_succ_self j)
      show V.bl (!decide (ns[j].cps.toList < t.cps.toList)) = V.bl false
      rw [decide_eq_true h1]
      rfl
    · exact iteF ⟨_, _, rfl, s5⟩
  · rintro σ H2 ⟨v1, v2, rfl, s2⟩
    exact ⟨_, rfl, k H2 s2⟩
def spCheckMenu (K : PySem.W.Frag) : Sp := fun vs H Q _ => ∃ (a b : Addr) (M ns : List Str), vs = [.ref a, .ref b] ∧ TT K H a M ∧ TT K H b ns ∧ MenuOk M ns ∧ ∀ H', Same H H' → Q .non H'
theorem sc_check_menu : FnScope ["menu", "things", "wrong"] ["menu", "things"] (L2.defScope (fnd 42)) := ⟨rfl, rfl, rfl, by decide +kernel, rfl, by decide +kernel, by decide +kernel⟩
theorem d_check_menu (T : Tx K mg) (D : DefF K mg "check_menu" (fnd 42)) (c_wrong_place : Cal P w K mg base 1 "wrong_place" (spWrongPlace K) []) : Cal P w K mg base 2 "check_menu" (spCheckMenu K) [] := by
  have S := sc_check_menu
  refine mkCal D S (fun _ _ _ _ _ _ us hl => match us, hl with | [_, _], _ => rfl) (fun vs H Q E h => ?_) (fun f cdv A outer s H vs Q E hr h => ?_)
  · obtain ⟨a, b, M, ns, rfl, _⟩ := h
    rfl
  obtain ⟨a, b, M, ns, rfl, ha, hb, m, k⟩ := h
  -- slots: 0 menu, 1 things, 2 wrong
  refine ⟨_, (pss_cons (ps_set (i := 2) S.nd rfl (Or.inl rfl) (pe_c c_wrong_place hr (by decide) rfl (pa_cons (pv 0) (pa_cons (pv 1) pa_nil)))) (pss_one (ps_if (pt_cmpR op_ne (pv 2) (pe_un un_neg pe_int) (nomark _)) (pss_one ps_never) pss_nil))), ?_⟩
  refine ⟨_, rfl, _, rfl, a, b, M, ns, rfl, ha, hb, m, fun H2 s2 => ?_⟩
  refine ⟨_, rfl, _, rfl, rfl, false, rfl, iteF ?_⟩
  exact k H2 s2
def spCheckNames (K : PySem.W.Frag) : Sp := fun vs H Q _ => ∃ (a : Addr) (ns : List Str), vs = [.ref a] ∧ TT K H a ns ∧ NamesOk ns ∧ ∀ H', Same H H' → Q .non H'
theorem sc_check_things : FnScope ["things", "wrong"] ["things"] (L2.defScope (fnd 44)) := ⟨rfl, rfl, rfl, by decide +kernel, rfl, by decide +kernel, by decide +kernel⟩
theorem d_check_things (T : Tx K mg) (D : DefF K mg "check_things" (fnd 44)) (c_wrong_names : Cal P w K mg base 2 "wrong_names" (spWrongNames K) []) : Cal P w K mg base 3 "check_things" (spCheckNames K) [] := by
  have S := sc_check_things
  refine mkCal D S (fun _ _ _ _ _ _ us hl => match us, hl with | [_], _ => rfl) (fun vs H Q E h => ?_) (fun f cdv A outer s H vs Q E hr h => ?_)
  · obtain ⟨a, ns, rfl, _⟩ := h
    rfl
  obtain ⟨a, ns, rfl, ha, m, k⟩ := h
  -- slots: 0 things, 1 wrong
  refine ⟨_, (pss_cons (ps_set (i := 1) S.nd rfl (Or.inl rfl) (pe_c c_wrong_names hr (by decide) rfl (pa_cons (pv 0) pa_nil))) (pss_one (ps_if (pt_cmpR op_ne (pv 1) (pe_un un_neg pe_int) (nomark _)) (pss_one ps_never) pss_nil))), ?_⟩
  refine ⟨_, rfl, a, ns, rfl, ha, m, fun H2 s2 => ?_⟩
  refine ⟨_, rfl, _, rfl, rfl, false, rfl, iteF ?_⟩
  exact k H2 s2
theorem sc_check_names : FnScope ["menu", "wrong"] ["menu"] (L2.defScope (fnd 64)) := ⟨rfl, rfl, rfl, by decide +kernel, rfl, by decide +kernel, by decide +kernel⟩
theorem d_check_names (T : Tx K mg) (D : DefF K mg "check_names" (fnd 64)) (c_wrong_names : Cal P w K mg base 2 "wrong_names" (spWrongNames K) []) : Cal P w K mg base 3 "check_names" (spCheckNames K) [] := by
  have S := sc_check_names
  refine mkCal D S (fun _ _ _ _ _ _ us hl => match us, hl with | [_], _ => rfl) (fun vs H Q E h => ?_) (fun f cdv A outer s H vs Q E hr h => ?_)
  · obtain ⟨a, ns, rfl, _⟩ := h
    rfl
  obtain ⟨a, ns, rfl, ha, m, k⟩ := h
  -- slots: 0 menu, 1 wrong
  refine ⟨_, (pss_cons (ps_set (i := 1) S.nd rfl (Or.inl rfl) (pe_c c_wrong_names hr (by decide) rfl (pa_cons (pv 0) pa_nil))) (pss_one (ps_if (pt_cmpR op_ne (pv 1) (pe_un un_neg pe_int) (nomark _)) (pss_one ps_never) pss_nil))), ?_⟩
  refine ⟨_, rfl, a, ns, rfl, ha, m, fun H2 s2 => ?_⟩
  refine ⟨_, rfl, _, rfl, rfl, false, rfl, iteF ?_⟩
  exact k H2 s2
def spIsThing (K : PySem.W.Frag) : Sp := fun vs H Q _ => ∃ (t : Str) (b : Addr) (ns : List Str), vs = [.str t, .ref b] ∧ TT K H b ns ∧ t ∈ ns ∧ Q (.bl true) H
theorem sc_is_thing : FnScope ["value", "things"] ["value", "things"] (L2.defScope (fnd 45)) := ⟨rfl, rfl, rfl, by decide +kernel, rfl, by decide +kernel, by decide +kernel⟩
theorem d_is_thing (T : Tx K mg) (D : DefF K mg "is_thing" (fnd 45)) : Cal P w K mg base 1 "is_thing" (spIsThing K) [] := by
  have S := sc_is_thing
  refine mkCal D S (fun _ _ _ _ _ _ us hl => match us, hl with | [_, _], _ => rfl) (fun vs H Q E h => ?_) (fun f cdv A outer s H vs Q E hr h => ?_)
  · obtain ⟨t, b, ns, rfl, _⟩ := h
    rfl
  obtain ⟨t, b, ns, rfl, hb, ht, k⟩ := h
  -- slots: 0 value, 1 things
  refine ⟨_, (pss_one (ps_ret (pe_and (pe_callB (call_isiK' K) rfl T.n.isi (by rfl) (pa_cons (pv 0) (pa_cons (pe_bltn rfl T.n.str rfl (v := V.ty "str") rfl) pa_nil))) (pe_one (pe_cmpR (op_in_seqK K) (pv 0) (pv 1) (by rfl)))))), ?_⟩
  refine ⟨_, rfl, _, _, _, _, true, rfl, .ty "str", .base (.str t), kit_ty (by decide +kernel), true, rfl, ?_⟩
  refine iteT ⟨_, rfl, _, rfl, b, _, rfl, .inr hb, rfl, all_flat _, ?_⟩
  show Q (V.bl (inV (.str t) (ns.map V.str))) H
  rw [inV_str, decide_eq_true ht]
  exact k
def spCheckThing (K : PySem.W.Frag) : Sp := fun vs H Q _ => ∃ (t : Str) (b : Addr) (ns : List Str), vs = [.str t, .ref b] ∧ TT K H b ns ∧ t ∈ ns ∧ Q .non H
theorem sc_check_thing : FnScope ["thing", "things"] ["thing", "things"] (L2.defScope (fnd 46)) := ⟨rfl, rfl, rfl, by decide +kernel, rfl, by decide +kernel, by decide +kernel⟩
theorem d_check_thing (T : Tx K mg) (D : DefF K mg "check_thing" (fnd 46)) (c_is_thing : Cal P w K mg base 1 "is_thing" (spIsThing K) []) : Cal P w K mg base 2 "check_thing" (spCheckThing K) [] := by
  have S := sc_check_thing
  refine mkCal D S (fun _ _ _ _ _ _ us hl => match us, hl with | [_, _], _ => rfl) (fun vs H Q E h => ?_) (fun f cdv A outer s H vs Q E hr h => ?_)
  · obtain ⟨t, b, ns, rfl, _⟩ := h
    rfl
  obtain ⟨t, b, ns, rfl, hb, ht, k⟩ := h
  -- slots: 0 thing, 1 things
  refine ⟨_, (pss_one (ps_if (pt_not (pt_val (pe_c c_is_thing hr (by decide) rfl (pa_cons (pv 0) (pa_cons (pv 1) pa_nil))))) (pss_one ps_never) pss_nil)), ?_⟩
  exact ⟨_, rfl, _, rfl, t, b, ns, rfl, hb, ht, true, rfl, iteF k⟩
end
end Mh
end
section
set_option Elab.async false
set_option linter.all false
set_option maxRecDepth 100000
set_option maxHeartbeats 4000000
/-! MhW3: bits of things. -/
namespace Mh
open PySem PySem.Spec PyProof.Rows L2 MhX
open C8 (Cal Mak Met pe_c pe_mk pe_mt pe_mt0 pe_gc pss_cut tCut)
/-! ### bits -/
def bitsN {α : Type} : List α → (α → Bool) → Nat
  | [], _ => 0
  | x :: xs, p => (if p x = true then 1 else 0) + 2 * bitsN xs p
theorem bits_cons {α : Type} (x : α) (xs : List α) (p : α → Bool) : bitsN (x :: xs) p = (if p x = true then 1 else 0) + 2 * bitsN xs p := rfl
theorem bits_test {α : Type} (p : α → Bool) : ∀ (xs : List α) (k : Nat), (bitsN xs p).testBit k = (match xs[k]? with | some x => p x | none => false)
  | [], k => by simp [bitsN]
  | x :: xs, 0 => by
    rw [Nat.testBit_zero, bits_cons]
    show decide (_ % 2 = 1) = p x
    cases p x with
    | true =>
      refine decide_eq_true ?_
      rw [if_pos rfl]
      omega
    | false =>
      refine decide_eq_false ?_
      rw [if_neg Bool.false_ne_true]
      omega
  | x :: xs, k + 1 => by
    rw [Nat.testBit_succ]
    have e : bitsN (x :: xs) p / 2 = bitsN xs p := by
      rw [bits_cons]
      cases p x <;> simp <;> omega
    rw [e, bits_test p xs k]
    simp
theorem bits_and {α : Type} (xs : List α) (p q : α → Bool) : bitsN xs p &&& bitsN xs q = bitsN xs fun x => p x && q x := by
  refine Nat.eq_of_testBit_eq fun k => ?_
  rw [Nat.testBit_and, bits_test, bits_test, bits_test]
  cases xs[k]? <;> rfl
theorem bits_orL {α : Type} (p q : α → Bool) : ∀ xs : List α, bitsN xs (fun x => p x || q x) + bitsN xs (fun x => p x && q x) = bitsN xs p + bitsN xs q
  | [] => rfl
  | x :: xs => by
    have ih := bits_orL p q xs
    show ((if (p x || q x) = true then 1 else 0) + 2 * bitsN xs (fun x => p x || q x)) + ((if (p x && q x) = true then 1 else 0) + 2 * bitsN xs (fun x => p x && q x)) = ((if p x = true then 1 else 0) + 2 * bitsN xs p) + ((if q x = true then 1 else 0) + 2 * bitsN xs q)
    cases p x <;> cases q x <;> simp <;> omega
theorem bits_eq {α : Type} {p q : α → Bool} : ∀ {xs : List α}, bitsN xs p = bitsN xs q ↔ ∀ x ∈ xs, p x = q x
  | [] => by simp [bitsN]
  | x :: xs => by
    have ih := bits_eq (p := p) (q := q) (xs := xs)
    have e : bitsN (x :: xs) p = bitsN (x :: xs) q ↔ p x = q x ∧ bitsN xs p = bitsN xs q := by
      show ((if p x = true then 1 else 0) + 2 * bitsN xs p) = ((if q x = true then 1 else 0) + 2 * bitsN xs q) ↔ _
      cases p x <;> cases q x <;> simp <;> omega
    rw [e, ih]
    simp
theorem bits_zero {α : Type} {p : α → Bool} {xs : List α} : bitsN xs p = 0 ↔ ∀ x ∈ xs, p x = false := by
  have e : bitsN xs (fun _ => false) = 0 := by
    induction xs with
    | nil => rfl
    | cons x xs ih =>
      show 0 + 2 * bitsN xs _ = 0
      rw [ih]
  rw [← e]
  exact bits_eq
theorem band_bits {α : Type} (xs : List α) (p q : α → Bool) : Builtin.bitAnd (bitsN xs p : Int) (bitsN xs q : Int) = (bitsN xs fun x => p x && q x : Nat) := by
  rw [bitAnd_pp (Int.natCast_nonneg _) (Int.natCast_nonneg _), Int.toNat_natCast, Int.toNat_natCast, bits_and]
theorem bor_bits {α : Type} (xs : List α) (p q : α → Bool) : Builtin.bitOr (bitsN xs p : Int) (bitsN xs q : Int) = (bitsN xs fun x => p x || q x : Nat) := by
  rw [bitOr_and, band_bits]
  have := bits_orL p q xs
  omega
/-! ### the sum of the bits -/
theorem bits_sum (p : Str → Bool) : ∀ (xs : List Str) (c : Nat), ((List.range xs.length).filterMap fun k => (xs[k]?).bind fun x => if p x = true then some ((2 : Int) ^ (c + k)) else none).sum = 2 ^ c * (bitsN xs p : Int)
  | [], c => by simp [bitsN]
  | x :: xs, c => by
    have ih := bits_sum p xs (c + 1)
    rw [List.length_cons, List.range_succ_eq_map, List.filterMap_cons, List.filterMap_map]
    have e : ((fun k => (x :: xs)[k]?.bind fun x => if p x = true then some ((2 : Int) ^ (c + k)) else none) ∘ Nat.succ) = fun k => (xs[k]?).bind fun x => if p x = true then some ((2 : Int) ^ (c + 1 + k)) else none := by
      funext k
      have e1 : c + Nat.succ k = c + 1 + k := by omega
      simp only [Function.comp, e1]
      simp
    rw [e]
    have e2 : (2 : Int) ^ (c + 1) = 2 ^ c * 2 := Int.pow_succ 2 c
    cases q : p x with
    | true =>
      simp only [List.getElem?_cons_zero, Option.bind_some, q, if_true, List.sum_cons, ih]
      rw [bits_cons]
      rw [q]
      simp only [if_true, Nat.add_zero, e2]
      push_cast
      rw [Int.mul_add, Int.mul_one, Int.mul_assoc]
    | false =>
      simp only [List.getElem?_cons_zero, Option.bind_some, q, Bool.false_eq_true, if_false, ih]
      rw [bits_cons]
      rw [q]
      simp only [Bool.false_eq_true, if_false, Nat.zero_add, e2]
      push_cast
      rw [Int.mul_assoc]
section
variable {P : Program} {w : World} {K : PySem.W.Frag} {mg : Str → Option Value} {base : Heap}
def spBitsOf (K : PySem.W.Frag) : Sp := fun vs H Q _ => ∃ (a b : Addr) (ns M : List Str), vs = [.ref a, .ref b] ∧ TT K H a ns ∧ TT K H b M ∧ ns.length ≤ 100 ∧
  ∀ H', Same H H' → Q (.int (bitsN ns fun t => decide (t ∈ M) : Nat)) H'
theorem sc_bits_of : FnScope ["things", "some", "k", "thing"] ["things", "some"] (L2.defScope (fnd 52)) := ⟨rfl, rfl, rfl, by decide +kernel, rfl, by decide +kernel, by decide +kernel⟩
theorem d_bits_of (T : Tx K mg) (D : DefF K mg "bits_of" (fnd 52)) : Cal P w K mg base 1 "bits_of" (spBitsOf K) [] := by
  have S := sc_bits_of
  refine mkCal D S (fun _ _ _ _ _ _ us hl => match us, hl with | [_, _], _ => rfl) (fun vs H Q E h => ?_) (fun f cdv A outer s H vs Q E hr h => ?_)
  · obtain ⟨a, b, ns, M, rfl, _⟩ := h
    rfl
  obtain ⟨a, b, ns, M, rfl, ha, hb, hl, k⟩ := h
  -- slots: 0 things, 1 some, 2 k, 3 thing
  refine ⟨_, (pss_one (ps_ret (pe_callB (cr_sumK K rfl) rfl T.n.sum (by rfl) (pa_cons (pe_lc rfl S.nd (pi_enumT rfl T.n.enu (pa_cons (pv 0) pa_nil)) (blkOk_by (N := ["things", "some", "k", "thing"]) (sc := L2.defScope (fnd 52)) (own := [("k", 2), ("thing", 3)]) (by decide +kernel)) (fun _ _ _ _ _ => (pg_tupK K (n := 2) rfl (pgs_cons (pg_name (i := 2) S.nd rfl (Or.inl rfl)) (pgs_cons (pg_name (i := 3) S.nd rfl (Or.inl rfl)) pgs_nil)))) (fun _ _ _ _ _ => (pts_one (pt_cmpR (op_in_seqK K) (pv 3) (pv 1) (by rfl)))) (fun _ _ _ _ _ => (pe_op op_shl pe_int (pv 2)))) pa_nil)))), ?_⟩
  refine ⟨_, rfl, a, _, rfl, ha, fun D hD => lc_pure walk_enumT (fun i => (ns[i]?).bind fun t => if decide (t ∈ M) = true then some (V.int (2 ^ i)) else none) hD (by rw [List.length_map]; exact len_small (by omega)) (fun H' s => ha.same s) ?_ ?_⟩
  · rintro i x H2 H3 hi s2 ⟨p, u, y, rfl, hp, rfl, hu, hy⟩ R k2
    obtain ⟨t, ht, rfl⟩ := get_map hy
    cases hu
    rw [List.length_map] at hi
    have s3 : Same H2 (upd H2 p (.tup [V.int (i : Nat), V.str t])) := same_new hp
    have q := k2 _ s3
    rw [ht] at q
    refine ⟨p, _, rfl, SqT.new upd_same, rfl, _, _, rfl, _, _, rfl, rfl, rfl, ?_⟩
    refine ⟨_, rfl, _, rfl, b, _, rfl, .inr ((hb.same s2).same s3), rfl, all_flat _, decide (t ∈ M), ?_, ?_⟩
    · show V.bl (inV (.str t) (M.map V.str)) = _
      rw [inV_str]
    · have q2 : R (if decide (t ∈ M) = true then some (V.int (2 ^ i)) else none) _ := q
      refine ite2 (fun e => ?_) (fun e => ?_)
      · rw [if_pos e] at q2
        refine ⟨_, rfl, 1, (i : Nat), rfl, rfl, ⟨by omega, by omega, by decide⟩, ?_⟩
        show R (some (V.int (1 * 2 ^ ((i : Nat) : Int).toNat))) _
        rw [Int.toNat_natCast, Int.one_mul]
        exact q2
      · rw [if_neg e] at q2
        exact q2
  · intro H' s2 e
    rw [List.length_map] at e
    refine ⟨D, (List.range ns.length).filterMap fun k => (ns[k]?).bind fun x => if decide (x ∈ M) = true then some ((2 : Int) ^ (0 + k)) else none, rfl, SqL.new ?_, ?_⟩
    · rw [e, List.map_filterMap]
      congr 3
      funext i
      rw [Nat.zero_add]
      cases ns[i]? with
      | none => rfl
      | some t =>
        show (if decide (t ∈ M) = true then some (V.int (2 ^ i)) else none) = Option.map V.int (if decide (t ∈ M) = true then some ((2 : Int) ^ i) else none)
        split <;> rfl
    · rw [bits_sum]
      rw [Int.pow_zero, Int.one_mul]
      exact k H' s2
def spThingsOf (K : PySem.W.Frag) : Sp := fun vs H Q _ => ∃ (a : Addr) (ns : List Str) (n : Int), vs = [.ref a, .int n] ∧ TT K H a ns ∧ ns.length ≤ 100 ∧
  ∀ H' p ys, Same H H' → TT K H' p ys → ys.length ≤ ns.length → Q (.ref p) H'
theorem sc_things_of : FnScope ["things", "bits", "k", "thing"] ["things", "bits"] (L2.defScope (fnd 53)) := ⟨rfl, rfl, rfl, by decide +kernel, rfl, by decide +kernel, by decide +kernel⟩
theorem d_things_of (T : Tx K mg) (D : DefF K mg "things_of" (fnd 53)) : Cal P w K mg base 1 "things_of" (spThingsOf K) [] := by
  have S := sc_things_of
  refine mkCal D S (fun _ _ _ _ _ _ us hl => match us, hl with | [_, _], _ => rfl) (fun vs H Q E h => ?_) (fun f cdv A outer s H vs Q E hr h => ?_)
  · obtain ⟨a, ns, n, rfl, _⟩ := h
    rfl
  obtain ⟨a, ns, n, rfl, ha, hl, k⟩ := h
  -- slots: 0 things, 1 bits, 2 k, 3 thing
  refine ⟨_, (pss_one (ps_ret (pe_callTy (call_tuple_ofK K) rfl T.n.tuple (by rfl) (pa_cons (pe_lc rfl S.nd (pi_enumT rfl T.n.enu (pa_cons (pv 0) pa_nil)) (blkOk_by (N := ["things", "bits", "k", "thing"]) (sc := L2.defScope (fnd 53)) (own := [("k", 2), ("thing", 3)]) (by decide +kernel)) (fun _ _ _ _ _ => (pg_tupK K (n := 2) rfl (pgs_cons (pg_name (i := 2) S.nd rfl (Or.inl rfl)) (pgs_cons (pg_name (i := 3) S.nd rfl (Or.inl rfl)) pgs_nil)))) (fun _ _ _ _ _ => (pts_one (pt_cmpR op_eq (pe_op op_and (pe_op op_shr (pv 1) (pv 2)) pe_int) pe_int (nomark _)))) (fun _ _ _ _ _ => (pv 3))) pa_nil)))), ?_⟩
  refine ⟨_, rfl, a, _, rfl, ha, fun D hD => lc_pure walk_enumT (fun i => (ns[i]?).bind fun t => if decide (V.int (Builtin.bitAnd (n / 2 ^ i) 1) = V.int 1) = true then some (V.str t) else none) hD (by rw [List.length_map]; exact len_small (by omega)) (fun H' s => ha.same s) ?_ ?_⟩
  · rintro i x H2 H3 hi s2 ⟨p, u, y, rfl, hp, rfl, hu, hy⟩ R k2
    obtain ⟨t, ht, rfl⟩ := get_map hy
    cases hu
    have s3 : Same H2 (upd H2 p (.tup [V.int (i : Nat), V.str t])) := same_new hp
    have q := k2 _ s3
    rw [ht] at q
    refine ⟨p, _, rfl, SqT.new upd_same, rfl, _, _, rfl, _, _, rfl, rfl, rfl, ?_⟩
    refine ⟨_, rfl, _, rfl, n, (i : Nat), rfl, rfl, by omega, _, _, rfl, rfl, rfl, _, rfl, ?_⟩
    have q2 : R (if decide (V.int (Builtin.bitAnd (n / 2 ^ i) 1) = V.int 1) = true then some (V.str t) else none) _ := q
    show if decide (V.int (Builtin.bitAnd (n / 2 ^ ((i : Nat) : Int).toNat) 1) = V.int 1) = true then _ else _
    rw [Int.toNat_natCast]
    refine ite2 (fun e => ?_) (fun e => ?_)
    · rw [if_pos e] at q2
      exact ⟨_, rfl, q2⟩
    · rw [if_neg e] at q2
      exact q2
  · intro H' s2 e
    rw [List.length_map] at e
    refine ⟨D, _, rfl, .inl ⟨SqL.new e, fun p hp => ?_⟩⟩
    have e2 : ((List.range ns.length).filterMap fun i => (ns[i]?).bind fun t => if decide (V.int (Builtin.bitAnd (n / 2 ^ i) 1) = V.int 1) = true then some (V.str t) else none) =
      (((List.range ns.length).filterMap fun i => (ns[i]?).bind fun t => if decide (V.int (Builtin.bitAnd (n / 2 ^ i) 1) = V.int 1) = true then some t else none)).map V.str := by
      rw [List.map_filterMap]
      congr 1
      funext i
      cases ns[i]? with
      | none => rfl
      | some t =>
        show (if _ then some (V.str t) else none) = Option.map V.str (if _ then some t else none)
        split <;> rfl
    refine k _ p ((List.range ns.length).filterMap fun i => (ns[i]?).bind fun t => if decide (V.int (Builtin.bitAnd (n / 2 ^ i) 1) = V.int 1) = true then some t else none) (same_upd (s2.free hp) s2) (SqT.new ?_) ?_
    · rw [upd_same, e2]
    · refine Nat.le_trans (List.length_filterMap_le _ _) ?_
      rw [List.length_range]
      exact Nat.le_refl _
end
end Mh
end
section
set_option Elab.async false
set_option linter.all false
set_option maxRecDepth 100000
set_option maxHeartbeats 4000000
/-! MhW4: let_row. -/
namespace Mh
open PySem PySem.Spec PyProof.Rows L2 MhX
open C8 (Cal Mak Met pe_c pe_mk pe_mt pe_mt0 pe_gc pss_cut tCut)
/-! ### what never changes stays -/
/-- a book's attributes -/
def fsBook (h v g : Addr) : List (Str × V) := [("held", .ref h), ("vows", .ref v), ("log", .ref g)]
/-- all but lists, tables and books -/
structure Imm (o : HO) : Prop where
  nl : ∀ xs, o ≠ .lst xs
  nt : ∀ ps, o ≠ .tbl ps
  nb : ∀ C dx h v g, o ≠ .ins C dx (fsBook h v g)
theorem imm_tup (xs : List V) : Imm (.tup xs) := ⟨(fun _ z => nomatch z), (fun _ z => nomatch z), fun _ _ _ _ _ z => nomatch z⟩
theorem imm_frz (o : Obj) (u : HO) : Imm (.frz o u) := ⟨(fun _ z => nomatch z), (fun _ z => nomatch z), fun _ _ _ _ _ z => nomatch z⟩
def Kt (H H' : Hp) : Prop := ∀ b o, H b = some o → Imm o → H' b = some o
theorem _root_.L2.Same.kt {H H' : Hp} (s : Same H H') : Kt H H' := fun b o e _ => s b o e
theorem Kt.refl (H : Hp) : Kt H H := fun _ _ e _ => e
theorem Kt.trans {H H1 H2 : Hp} (a : Kt H H1) (b : Kt H1 H2) : Kt H H2 := fun c o e n => b c o (a c o e n) n
theorem kt_upd {H : Hp} {D : Addr} {xs : List V} {o : HO} (h : H D = some (.lst xs)) : Kt H (upd H D o) := fun b ob e n => by
  by_cases q : b = D
  · subst q
    rw [h] at e
    cases e
    exact absurd rfl (n.nl xs)
  · rw [upd_ne q]
    exact e
theorem sqT_kt {K : PySem.W.Frag} {H H' : Hp} {a : Addr} {xs : List V} (h : SqT K H a xs) (e : Kt H H') : SqT K H' a xs := by
  rcases h with (h | ⟨o, h⟩) | h
  · exact .inl (.inl (e _ _ h (imm_tup _)))
  · exact .inl (.inr ⟨o, e _ _ h (imm_frz _ _)⟩)
  · exact .inr h
theorem TT.kt {K : PySem.W.Frag} {H H' : Hp} {a : Addr} {ns : List Str} (h : TT K H a ns) (e : Kt H H') : TT K H' a ns := sqT_kt h e
/-- two lists, place by place -/
def All2 {α β : Type} (R : α → β → Prop) (xs : List α) (ys : List β) : Prop := xs.length = ys.length ∧ ∀ (i : Nat) (x : α) (y : β), xs[i]? = some x → ys[i]? = some y → R x y
theorem All2.nil {α β : Type} {R : α → β → Prop} : All2 R [] [] := ⟨rfl, fun i x y h => by simp at h⟩
theorem All2.mono {α β : Type} {R R' : α → β → Prop} {xs : List α} {ys : List β} (h : All2 R xs ys) (k : ∀ x y, R x y → R' x y) : All2 R' xs ys := ⟨h.1, fun i x y a b => k x y (h.2 i x y a b)⟩
theorem All2.snoc {α β : Type} {R : α → β → Prop} {xs : List α} {ys : List β} {x : α} {y : β} (h : All2 R xs ys) (r : R x y) : All2 R (xs ++ [x]) (ys ++ [y]) := by
  refine ⟨by simp [h.1], fun i a b ha hb => ?_⟩
  rcases Nat.lt_trichotomy i xs.length with z | z | z
  · rw [List.getElem?_append_left z] at ha
    rw [List.getElem?_append_left (by rw [← h.1]; exact z)] at hb
    exact h.2 i a b ha hb
  · rw [List.getElem?_append_right (by omega), z, Nat.sub_self] at ha
    rw [List.getElem?_append_right (by rw [← h.1]; omega), z, h.1, Nat.sub_self] at hb
    have e1 : x = a := by simpa using ha
    have e2 : y = b := by simpa using hb
    rw [← e1, ← e2]
    exact r
  · rw [List.getElem?_append_right (by omega)] at ha
    have e : i - xs.length = (i - xs.length - 1) + 1 := by omega
    rw [e] at ha
    simp at ha
theorem All2.at {α β : Type} {R : α → β → Prop} {xs : List α} {ys : List β} (h : All2 R xs ys) {i : Nat} {x : α} (hx : xs[i]? = some x) : ∃ y, ys[i]? = some y ∧ R x y := by
  have hi : i < ys.length := by
    rw [← h.1]
    exact (List.getElem?_eq_some_iff.mp hx).1
  exact ⟨ys[i], List.getElem?_eq_getElem hi, h.2 i x _ hx (List.getElem?_eq_getElem hi)⟩
theorem All2.at' {α β : Type} {R : α → β → Prop} {xs : List α} {ys : List β} (h : All2 R xs ys) {i : Nat} {y : β} (hy : ys[i]? = some y) : ∃ x, xs[i]? = some x ∧ R x y := by
  have hi : i < xs.length := by
    rw [h.1]
    exact (List.getElem?_eq_some_iff.mp hy).1
  exact ⟨xs[i], List.getElem?_eq_getElem hi, h.2 i _ y (List.getElem?_eq_getElem hi) hy⟩
theorem All2.append {α β : Type} {R : α → β → Prop} {xs xs' : List α} {ys ys' : List β} (h : All2 R xs ys) (h' : All2 R xs' ys') : All2 R (xs ++ xs') (ys ++ ys') := by
  refine ⟨by simp [h.1, h'.1], fun i a b ha hb => ?_⟩
  by_cases z : i < xs.length
  · rw [List.getElem?_append_left z] at ha
    rw [List.getElem?_append_left (by rw [← h.1]; exact z)] at hb
    exact h.2 i a b ha hb
  · rw [List.getElem?_append_right (by omega)] at ha
    rw [List.getElem?_append_right (by rw [← h.1]; omega), ← h.1] at hb
    exact h'.2 _ a b ha hb
/-! ### a comprehension that makes things -/
section
variable {J : It} {n : Nat} {G : Hp → Prop} {Y : Nat → Hp → V → Hp → Prop}
theorem lc_rel (w : Walk J n G Y) {g : TG} {tt : L2.TT} {te : TE} {vs : List Nat} {σ : L2.St} {H1 : Hp} {D : Addr} {Qd : Hp → Prop} (R : Nat → Hp → V → Prop) (hR : ∀ i H H' v, R i H v → Kt H H' → R i H' v) (hD : H1 D = none) (hn : n ≤ 1000) (hG : ∀ H, Same H1 H → G H)
    (hs : ∀ i x H H', i < n → Same H1 H → Y i H x H' → ∀ P : V → Hp → Prop, (∀ v H'', Same H H'' → R i H'' v → P v H'') → g x (wipe σ vs) H' fun σ2 H2 => wipe σ2 vs = wipe σ vs ∧ tt σ2 H2 fun b H3 => b = true ∧ te σ2 H3 fun y H4 => P y H4)
    (hd : ∀ H ys, Same H1 H → H D = some (.lst ys) → ys.length = n → (∀ i v, ys[i]? = some v → R i H v) → Qd H)
    (hg : ∀ x σ H Q Q', (∀ σ2 H2, Q σ2 H2 → Q' σ2 H2) → g x σ H Q → g x σ H Q') (ht : ∀ σ H Q Q', (∀ b H2, Q b H2 → Q' b H2) → tt σ H Q → tt σ H Q') :
    ∃ W : Nat → Nat → Hp → Prop, (∃ m, W 0 m (upd H1 D (.lst []))) ∧ ∀ i m H, W i m H →
      (J.stop i H ∧ Qd H) ∨ (J.go i H ∧ ∃ Nx : Hp → Prop, (∀ H', Nx H' → ∃ m', m' < m ∧ W (i + 1) m' H') ∧ ∀ x H', J.yld i H x H' → g x (wipe σ vs) H' fun σ2 H2 => wipe σ2 vs = wipe σ vs ∧ tt σ2 H2 fun b H3 =>
        if b = true then te σ2 H3 fun y H4 => ∃ acc, H4 D = some (.lst acc) ∧ acc.length < sizeLine ∧ Nx (upd H4 D (.lst (acc ++ [y]))) else Nx H3) := by
  have sm : ∀ {H : Hp} {o : HO}, Same H1 H → Same H1 (upd H D o) := fun {H o} s => same_upd hD s
  refine lc_it w (fun i H => Same H1 H ∧ ∃ ys, H D = some (.lst ys) ∧ ys.length = i ∧ ∀ j v, ys[j]? = some v → R j H v) ⟨sm (Same.refl _), [], upd_same, rfl, fun j v h => by simp at h⟩ (fun i H _ p => hG H p.1) ?_ (fun H ⟨s, ys, e, l, r⟩ => hd H ys s e l r)
  rintro i x H H' hi ⟨s, ys, e, l, r⟩ y
  refine hg _ _ _ _ _ ?_ (hs i x H H' hi s y (fun v H4 => ∃ acc, H4 D = some (.lst acc) ∧ acc.length < sizeLine ∧ (fun i H => Same H1 H ∧ ∃ ys, H D = some (.lst ys) ∧ ys.length = i ∧ ∀ j v, ys[j]? = some v → R j H v) (i + 1) (upd H4 D (.lst (acc ++ [v])))) fun v H'' s2 rv => ?_)
  · rintro σ2 H2 ⟨e1, q⟩
    refine ⟨e1, ht _ _ _ _ ?_ q⟩
    rintro b H3 ⟨rfl, q⟩
    exact iteT q
  · have e2 := s2 _ _ e
    have kt : Kt H'' (upd H'' D (.lst (ys ++ [v]))) := kt_upd e2
    refine ⟨ys, e2, Nat.lt_of_le_of_lt (by omega) (small1000 hn), sm (s.trans s2), ys ++ [v], upd_same, by simp [l], fun j u hj => ?_⟩
    by_cases z : j < ys.length
    · rw [List.getElem?_append_left z] at hj
      exact hR _ _ _ _ (hR _ _ _ _ (r j u hj) s2.kt) kt
    · have hj2 : j < (ys ++ [v]).length := (List.getElem?_eq_some_iff.mp hj).1
      have ej : j = i := by
        rw [List.length_append, List.length_singleton] at hj2
        omega
      rw [List.getElem?_append_right (by omega), l, ej, Nat.sub_self] at hj
      have eu : v = u := by simpa using hj
      rw [ej, ← eu]
      exact hR _ _ _ _ rv kt
end
theorem gname_mono {i : Nat} : ∀ (x : V) (σ : L2.St) (H : Hp) (Q Q' : L2.St → Hp → Prop), (∀ σ2 H2, Q σ2 H2 → Q' σ2 H2) → gName i x σ H Q → gName i x σ H Q' := fun _ _ _ _ _ h q => h _ _ q
theorem gtup2_mono {K : PySem.W.Frag} {n : Nat} {g1 g2 : TG} (h1 : ∀ (x : V) (σ : L2.St) (H : Hp) (Q Q' : L2.St → Hp → Prop), (∀ σ2 H2, Q σ2 H2 → Q' σ2 H2) → g1 x σ H Q → g1 x σ H Q') (h2 : ∀ (x : V) (σ : L2.St) (H : Hp) (Q Q' : L2.St → Hp → Prop), (∀ σ2 H2, Q σ2 H2 → Q' σ2 H2) → g2 x σ H Q → g2 x σ H Q') :
    ∀ (x : V) (σ : L2.St) (H : Hp) (Q Q' : L2.St → Hp → Prop), (∀ σ2 H2, Q σ2 H2 → Q' σ2 H2) → gTup K n (gCons g1 (gCons g2 gNil)) x σ H Q → gTup K n (gCons g1 (gCons g2 gNil)) x σ H Q' := fun x σ H Q Q' h q => by
  obtain ⟨a, xs, e1, e2, e3, v, r, e4, q⟩ := q
  refine ⟨a, xs, e1, e2, e3, v, r, e4, h1 _ _ _ _ _ ?_ q⟩
  rintro σ2 H2 ⟨v2, r2, e5, q⟩
  refine ⟨v2, r2, e5, h2 _ _ _ _ _ ?_ q⟩
  rintro σ3 H3 ⟨e6, q⟩
  exact ⟨e6, h _ _ q⟩
theorem yes_mono : ∀ (σ : L2.St) (H : Hp) (Q Q' : Bool → Hp → Prop), (∀ b H2, Q b H2 → Q' b H2) → tYes σ H Q → tYes σ H Q' := fun _ _ _ _ h q => h _ _ q
/-! ### pairs: a menu, things of it -/
abbrev Br := List Str × List Str
def PrT (K : PySem.W.Frag) (H : Hp) (v : V) (b : Br) : Prop := ∃ a p q, v = .ref a ∧ SqT K H a [.ref p, .ref q] ∧ TT K H p b.1 ∧ TT K H q b.2
theorem PrT.kt {K : PySem.W.Frag} {H H' : Hp} {v : V} {b : Br} (h : PrT K H v b) (e : Kt H H') : PrT K H' v b := by
  obtain ⟨a, p, q, h0, h1, h2, h3⟩ := h
  exact ⟨a, p, q, h0, sqT_kt h1 e, h2.kt e, h3.kt e⟩
/-- a list of pairs -/
def PrL (K : PySem.W.Frag) (H : Hp) (l : Addr) (Bs : List Br) : Prop := ∃ vs : List V, SqL K H l vs ∧ All2 (PrT K H) vs Bs
theorem PrL.same {K : PySem.W.Frag} {H H' : Hp} {l : Addr} {Bs : List Br} (h : PrL K H l Bs) (e : Same H H') : PrL K H' l Bs := by
  obtain ⟨vs, h1, h2⟩ := h
  exact ⟨vs, e.seq h1, h2.mono fun _ _ r => r.kt e.kt⟩
section
variable {P : Program} {w : World} {K : PySem.W.Frag} {mg : Str → Option Value} {base : Heap}
def spLetRow (K : PySem.W.Frag) : Sp := fun vs H Q _ => ∃ (a l : Addr) (ns : List Str) (Bs : List Br), vs = [.ref a, .ref l] ∧ TT K H a ns ∧ PrL K H l Bs ∧ ns.length ≤ 8 ∧ Bs.length ≤ 500 ∧ (∀ b ∈ Bs, Sub b.1 ns) ∧
  ∀ H' p x y, Same H H' → SqT K H' p [x, y] → (x = .non ↔ fixL Bs ns ≠ []) → Q (.ref p) H'
abbrev inB (ns L : List Str) : Nat := bitsN ns fun t => decide (t ∈ L)
theorem inB_zero {ns L : List Str} (h : Sub L ns) : inB ns L = 0 ↔ L = [] := by
  rw [bits_zero]
  constructor
  · intro e
    cases L with
    | nil => rfl
    | cons x xs =>
      have := e x (h x List.mem_cons_self)
      simp at this
  · rintro rfl
    intro x _
    simp
theorem bits_le {α : Type} {p q : α → Bool} : ∀ {xs : List α}, (∀ x ∈ xs, p x = true → q x = true) → bitsN xs p ≤ bitsN xs q
  | [], _ => Nat.le_refl _
  | x :: xs, h => by
    have ih := bits_le (p := p) (q := q) (xs := xs) fun y hy => h y (List.mem_cons_of_mem _ hy)
    have h0 := h x List.mem_cons_self
    rw [bits_cons, bits_cons]
    cases e1 : p x <;> cases e2 : q x <;> simp_all <;> omega
theorem sc_let_row : FnScope ["things", "pairs", "looks", "row", "left", "barred", "menu", "passed"] ["things", "pairs"] (L2.defScope (fnd 54)) := ⟨rfl, rfl, rfl, by decide +kernel, rfl, by decide +kernel, by decide +kernel⟩
theorem d_let_row (T : Tx K mg) (D : DefF K mg "let_row" (fnd 54)) (c_bits_of : Cal P w K mg base 1 "bits_of" (spBitsOf K) []) (c_things_of : Cal P w K mg base 1 "things_of" (spThingsOf K) []) : Cal P w K mg base 2 "let_row" (spLetRow K) [] := by
  have S := sc_let_row
  refine mkCal D S (fun _ _ _ _ _ _ us hl => match us, hl with | [_, _], _ => rfl) (fun vs H Q E h => ?_) (fun f cdv A outer s H vs Q E hr h => ?_)
  · obtain ⟨a, l, ns, Bs, rfl, _⟩ := h
    rfl
  obtain ⟨a, l, ns, Bs, rfl, ha, ⟨us, hl, h2⟩, hn, hb, hsub, k⟩ := h
  -- slots: 0 things, 1 pairs, 2 looks, 3 row, 4 left, 5 barred, 6 menu, 7 passed
  refine ⟨_, (pss_cons (ps_setLc (i := 2) rfl S.nd rfl rfl (by rfl) (pi_listK K (pv 1)) (blkOk_by (N := ["things", "pairs", "looks", "row", "left", "barred", "menu", "passed"]) (sc := L2.defScope (fnd 54)) (own := [("menu", 6), ("passed", 7)]) (by decide +kernel)) (fun _ _ _ _ _ => (pg_tupK K (n := 2) rfl (pgs_cons (pg_name (i := 6) S.nd rfl (Or.inl rfl)) (pgs_cons (pg_name (i := 7) S.nd rfl (Or.inl rfl)) pgs_nil)))) (fun _ _ _ _ _ => pts_nil) (fun _ _ _ _ _ => (pe_tup (pa_cons (pe_c c_bits_of hr (by decide) rfl (pa_cons (pv 0) (pa_cons (pv 6) pa_nil))) (pa_cons (pe_c c_bits_of hr (by decide) rfl (pa_cons (pv 0) (pa_cons (pv 7) pa_nil))) pa_nil))))) 
    (pss_cons (ps_set (i := 3) S.nd rfl (Or.inl rfl) (pe_lst pa_nil)) 
    (pss_cons (ps_set (i := 4) S.nd rfl (Or.inl rfl) (pe_c c_bits_of hr (by decide) rfl (pa_cons (pv 0) (pa_cons (pv 0) pa_nil)))) 
    (pss_cons (ps_while PassesOwn.never (pt_cmpR op_gt (pv 4) pe_int (nomark _)) 
      (pss_cons (ps_set (i := 5) S.nd rfl (Or.inl rfl) pe_int) 
      (pss_cons (ps_for PassesOwn.never rfl (pi_listK K (pv 2)) (pg_tupK K (n := 2) rfl (pgs_cons (pg_name (i := 6) S.nd rfl (Or.inl rfl)) (pgs_cons (pg_name (i := 7) S.nd rfl (Or.inl rfl)) pgs_nil))) (pss_one (ps_if (pt_cmpR op_eq (pe_op op_and (pv 6) (pv 4)) (pv 6) (nomark _)) (pss_one (ps_set (i := 5) S.nd rfl (Or.inl rfl) (pe_op op_or (pv 5) (pv 7)))) pss_nil))) 
      (pss_cons (ps_if (pt_cmpR op_eq (pe_op op_and (pv 4) (pv 5)) (pv 4) (nomark _)) (pss_one (ps_ret (pe_tup (pa_cons pe_non (pa_cons (pe_c c_things_of hr (by decide) rfl (pa_cons (pv 0) (pa_cons (pv 4) pa_nil))) pa_nil))))) pss_nil) 
      (pss_cons (ps_expr (pe_bmK K F.plainAttrs_list F.slot_list_extend F.type_list_extend mt_extT (pv 3) (pa_cons (pe_c c_things_of hr (by decide) rfl (pa_cons (pv 0) (pa_cons (pe_op op_and (pv 4) (pe_un un_inv (pv 5))) pa_nil))) pa_nil))) (pss_one (ps_set (i := 4) S.nd rfl (Or.inl rfl) (pe_op op_and (pv 4) (pv 5))))))))) (pss_one (ps_ret (pe_tup (pa_cons (pe_callTy (call_tuple_ofK K) rfl T.n.tuple (by rfl) (pa_cons (pv 3) pa_nil)) (pa_cons (pe_tup pa_nil) pa_nil))))))))), ?_⟩
  have hul := h2.1
  refine ⟨_, rfl, l, rfl, ⟨_, hl⟩, fun D1 hD1 => lc_rel walk_list (fun i H v => ∃ T b, v = .ref T ∧ Bs[i]? = some b ∧ SqT K H T [.int (inB ns b.1), .int (inB ns b.2)]) (fun i H H' v ⟨T, b, e1, e2, e3⟩ kt => ⟨T, b, e1, e2, sqT_kt e3 kt⟩) hD1 (by omega) (fun H' s => s.seq hl) ?_ ?_ (gtup2_mono gname_mono gname_mono) yes_mono⟩
  · rintro i x H1 H2 hi s ⟨e0, hx⟩ R k2
    subst e0
    obtain ⟨b, hb, a2, p, q, rfl, g1, g2, g3⟩ := h2.at hx
    refine ⟨a2, _, rfl, sqT_same s g1, rfl, _, _, rfl, _, _, rfl, rfl, rfl, rfl, ?_⟩
    refine ⟨_, rfl, _, rfl, a, p, ns, b.1, rfl, ha.same s, g2.same s, by omega, fun H3 s3 => ?_⟩
    refine ⟨_, rfl, _, rfl, a, q, ns, b.2, rfl, (ha.same s).same s3, (g3.same s).same s3, by omega, fun H4 s4 => ?_⟩
    refine ⟨by show 2 ≤ sizeLine; decide, fun t ht => k2 _ _ (same_upd ((s3.trans s4).free ht) (s3.trans s4)) ⟨t, b, rfl, hb, SqT.new upd_same⟩⟩
  · intro H1 ys s1 e1 len1 r1
    refine ⟨Nat.zero_le _, fun D2 hD2 => ?_⟩
    have n12 : D1 ≠ D2 := ne_of_none e1 hD2
    have s2 : Same H (upd H1 D2 (.lst [])) := same_upd (s1.free hD2) s1
    refine ⟨_, rfl, _, rfl, a, a, ns, ns, rfl, ha.same s2, ha.same s2, by omega, fun H3 s3 => ?_⟩
    have s13 : Same (upd H1 D2 (.lst [])) H3 := s3
    refine while_by (fun σ H' => ∃ (L zs : List Str) (v5 v6 v7 : Option V), σ = [some (.ref a), some (.ref l), some (.ref D1), some (.ref D2), some (.int (inB ns L)), v5, v6, v7] ∧ Same H H' ∧ H' D1 = some (.lst ys) ∧
      (∀ (i : Nat) v, ys[i]? = some v → ∃ T b, v = .ref T ∧ Bs[i]? = some b ∧ SqT K H' T [.int (inB ns b.1), .int (inB ns b.2)]) ∧ H' D2 = some (.lst (zs.map V.str)) ∧ Sub L ns ∧ (∃ m, L.length ≤ m ∧ iterL Bs m L = fixL Bs ns) ∧ zs.length + 8 * L.length ≤ 64)
      (fun (σ : L2.St) (_ : Hp) => match σ[4]? with | some (some (V.int n)) => n.toNat | _ => 0) ?_ ?_ ?_
    · refine ⟨ns, [], none, none, none, rfl, s2.trans s3, s3 _ _ (by rw [upd_ne n12]; exact e1), fun i v hv => ?_, s3 _ _ upd_same, fun _ h => h, ⟨ns.length, Nat.le_refl _, rfl⟩, by simp; omega⟩
      obtain ⟨T, b, g1, g2, g3⟩ := r1 i v hv
      exact ⟨T, b, g1, g2, sqT_same s3 (sqT_same (same_new hD2) g3)⟩
    · rintro σ H4 ⟨L, zs, v5, v6, v7, rfl, s4, d1, r4, d2, sL, ⟨m, hm, fx⟩, hz⟩
      refine ⟨_, rfl, _, _, rfl, rfl, _, rfl, ?_⟩
      refine ite2 (fun hL => ?_) (fun hL => ?_)
      · -- a turn
        have hL : (0 : Int) < (inB ns L : Int) := of_decide_eq_true hL
        have neL : L ≠ [] := fun e => by
          rw [(inB_zero sL).mpr e] at hL
          omega
        refine ⟨_, rfl, D1, rfl, ⟨_, SqL.new d1⟩, for_it walk_list (fun i σ H5 => ∃ v6 v7, σ = [some (.ref a), some (.ref l), some (.ref D1), some (.ref D2), some (.int (inB ns L)), some (.int (bitsN ns (barred (Bs.take i) L))), v6, v7] ∧ H5 = H4) ⟨v6, v7, ?_, rfl⟩ (fun i σ H5 _ ⟨_, _, _, e⟩ => by rw [e]; exact SqL.new d1) ?_ ?_⟩
        · have z : bitsN ns (barred (Bs.take 0) L) = 0 := bits_zero.mpr fun x _ => rfl
          rw [z]
          rfl
        · rintro i x σ H5 H6 hi ⟨v6, v7, rfl, rfl⟩ ⟨e0, hx⟩
          subst e0
          obtain ⟨T, b, rfl, hb2, g⟩ := r4 i x hx
          have mb : b ∈ Bs := List.mem_of_getElem? hb2
          have tk : ∀ t, barred (Bs.take (i + 1)) L t = (barred (Bs.take i) L t || ((b.1.all fun x => decide (x ∈ L)) && decide (t ∈ b.2))) := fun t => by
            unfold barred
            rw [List.take_succ, hb2, List.any_append]
            simp
          refine ⟨T, _, rfl, g, rfl, _, _, rfl, _, _, rfl, rfl, ?_⟩
          refine ⟨_, rfl, _, rfl, _, _, rfl, rfl, _, rfl, rfl, _, rfl, ?_⟩
          have iff : Builtin.bitAnd (inB ns b.1 : Int) (inB ns L : Int) = (inB ns b.1 : Int) ↔ (b.1.all fun x => decide (x ∈ L)) = true := by
            rw [band_bits, Int.ofNat_inj, bits_eq, List.all_eq_true]
            constructor
            · intro h x hx
              have q := h x (hsub b mb x hx)
              rw [decide_eq_true hx, Bool.true_and] at q
              exact q
            · intro h x _
              by_cases hx : x ∈ b.1
              · rw [decide_eq_true hx, h x hx]
                rfl
              · rw [decide_eq_false hx]
                rfl
          refine ite2 (fun e => ?_) (fun e => ?_)
          · have e2 := iff.mp (V.int.inj (of_decide_eq_true e))
            refine ⟨_, rfl, _, rfl, _, _, rfl, rfl, some (.int (inB ns b.1)), some (.int (inB ns b.2)), ?_, rfl⟩
            have e3 : Builtin.bitOr (bitsN ns (barred (Bs.take i) L) : Int) (inB ns b.2 : Int) = (bitsN ns (barred (Bs.take (i + 1)) L) : Nat) := by
              rw [bor_bits]
              congr 1
              refine bits_eq.mpr fun x _ => ?_
              rw [tk, e2, Bool.true_and]
            show [_, _, _, _, _, some (V.int (Builtin.bitOr (bitsN ns (barred (Bs.take i) L) : Int) (inB ns b.2 : Int))), _, _] = _
            rw [e3]
          · have e2 : (b.1.all fun x => decide (x ∈ L)) = false := by
              cases q : (b.1.all fun x => decide (x ∈ L)) with
              | false => rfl
              | true => exact absurd (decide_eq_true (congrArg V.int (iff.mpr q))) e
            refine ⟨some (.int (inB ns b.1)), some (.int (inB ns b.2)), ?_, rfl⟩
            have e3 : bitsN ns (barred (Bs.take i) L) = bitsN ns (barred (Bs.take (i + 1)) L) := bits_eq.mpr fun x _ => by
              rw [tk, e2, Bool.false_and, Bool.or_false]
            rw [← e3]
            rfl
        · rintro σ H5 ⟨v6, v7, rfl, rfl⟩
          have full : Bs.take ys.length = Bs := List.take_of_length_le (by omega)
          rw [full]
          refine ⟨_, rfl, _, rfl, _, _, rfl, rfl, _, rfl, rfl, _, rfl, ?_⟩
          have band : Builtin.bitAnd (inB ns L : Int) (bitsN ns (barred Bs L) : Int) = (inB ns (stepL Bs L) : Nat) := by
            rw [band_bits]
            congr 1
            refine bits_eq.mpr fun x _ => ?_
            rw [Bool.eq_iff_iff, Bool.and_eq_true, decide_eq_true_iff, decide_eq_true_iff]
            unfold stepL
            rw [List.mem_filter]
          have stp : Sub (stepL Bs L) L := step_sub Bs L
          have iff : (inB ns (stepL Bs L) = inB ns L) ↔ stepL Bs L = L := by
            constructor
            · intro h
              have h' := bits_eq.mp h
              unfold stepL
              refine List.filter_eq_self.mpr fun x hx => ?_
              have q := h' x (sL x hx)
              rw [decide_eq_true hx, decide_eq_true_iff] at q
              exact (List.mem_filter.mp q).2
            · intro h
              rw [h]
          refine ite2 (fun e => ?_) (fun e => ?_)
          · have e2 := V.int.inj (of_decide_eq_true e)
            rw [band, Int.ofNat_inj, iff] at e2
            refine ⟨_, rfl, _, rfl, a, ns, _, rfl, ha.same s4, by omega, fun H6 p zs2 s6 hp hl2 => ⟨by show 2 ≤ sizeLine; decide, fun r hr => ?_⟩⟩
            have s7 : Same H H6 := s4.trans s6
            refine k _ r .non (.ref p) (same_upd (s7.free hr) s7) (SqT.new upd_same) ⟨fun _ => ?_, fun _ => rfl⟩
            rw [← fx, iter_stable e2]
            exact neL
          · have ne : stepL Bs L ≠ L := fun z => e (by
              refine decide_eq_true (congrArg V.int ?_)
              rw [band, Int.ofNat_inj]
              exact iff.mpr z)
            have lt := step_lt ne
            obtain ⟨m', rfl⟩ : ∃ m', m = m' + 1 := ⟨m - 1, by omega⟩
            refine ⟨_, rfl, .inl ⟨rfl, _, SqL.new d2⟩, _, rfl, _, rfl, _, rfl, _, rfl, _, _, rfl, rfl, a, ns, _, rfl, ha.same s4, by omega, fun H6 p zs2 s6 hp hl2 => ?_⟩
            have d26 := s6 _ _ d2
            refine ⟨D2, p, _, _, rfl, rfl, d26, hp, ?_, ?_⟩
            · rw [List.length_map, List.length_map]
              exact len_small (by omega)
            refine ⟨_, rfl, _, rfl, _, _, rfl, rfl, ?_⟩
            have s7 : Same H H6 := s4.trans s6
            have nD2 : H D2 = none := s1.free hD2
            have kt : Kt H6 (upd H6 D2 (.lst (zs.map V.str ++ zs2.map V.str))) := kt_upd d26
            refine ⟨⟨stepL Bs L, zs ++ zs2, some (.int (bitsN ns (barred Bs L))), v6, v7, ?_, same_upd nD2 s7, by rw [upd_ne n12]; exact s6 _ _ d1, fun i v hv => ?_, by rw [upd_same, List.map_append], fun x hx => sL x (stp x hx), ⟨m', by omega, fx⟩, by rw [List.length_append]; omega⟩, ?_⟩
            · show [_, _, _, _, some (V.int (Builtin.bitAnd (inB ns L : Int) (bitsN ns (barred Bs L) : Int))), _, _, _] = _
              rw [band]
            · obtain ⟨T, b, g1, g2, g3⟩ := r4 i v hv
              exact ⟨T, b, g1, g2, sqT_kt (sqT_same s6 g3) kt⟩
            · show (Builtin.bitAnd (inB ns L : Int) (bitsN ns (barred Bs L) : Int)).toNat < ((inB ns L : Nat) : Int).toNat
              rw [band, Int.toNat_natCast, Int.toNat_natCast]
              have le : inB ns (stepL Bs L) ≤ inB ns L := by
                refine bits_le fun x _ h => ?_
                exact decide_eq_true (stp x (of_decide_eq_true h))
              rcases Nat.lt_or_ge (inB ns (stepL Bs L)) (inB ns L) with z | z
              · exact z
              · exact absurd (iff.mp (Nat.le_antisymm le z)) ne
      · -- all have come
        have z : inB ns L = 0 := by
          rcases Nat.eq_zero_or_pos (inB ns L) with z | z
          · exact z
          · exact absurd (decide_eq_true (by show (0 : Int) < (inB ns L : Int); omega)) hL
        have eL : L = [] := (inB_zero sL).mp z
        refine ⟨_, rfl, D2, _, rfl, .inl ⟨SqL.new d2, fun p hp => ⟨Nat.zero_le _, fun q hq => ⟨by show 2 ≤ sizeLine; decide, fun r hr => ?_⟩⟩⟩⟩
        have s5 : Same H (upd H4 p (.tup (zs.map V.str))) := same_upd (s4.free hp) s4
        have s6 : Same H (upd (upd H4 p (.tup (zs.map V.str))) q (.tup [])) := same_upd (s5.free hq) s5
        refine k _ r (.ref p) (.ref q) (same_upd (s6.free hr) s6) (SqT.new upd_same) ⟨(fun e => nomatch e), fun e => absurd ?_ e⟩
        rw [← fx, eL]
        exact iter_stable (step_nil Bs) m
    · intro σ H' Q Q' hq h
      obtain ⟨v, h1, i, j, h2, h3, k, h4, h5⟩ := h
      exact ⟨v, h1, i, j, h2, h3, k, h4, hq _ _ h5⟩
end
end Mh
end
section
set_option Elab.async false
set_option linter.all false
set_option maxRecDepth 100000
set_option maxHeartbeats 4000000
/-! MhW5: looks: what is taken and passed over; pairs, needs. -/
namespace Mh
open PySem PySem.Spec PyProof.Rows L2 MhX
open C8 (Cal Mak Met pe_c pe_mk pe_mt pe_mt0 pe_gc pss_cut tCut)
/-! ### data -/
structure Sh (n : Nat) (d : PyData) : Prop where
  lay : d.canLay0 = true
  dep : d.depth ≤ n
theorem lay_all {ds : List PyData} (h : ∀ d ∈ ds, d.canLay0 = true) : PyData.canLayAll0 ds = true := by
  induction ds with
  | nil => simp [PyData.canLayAll0]
  | cons d ds ih =>
    simp only [PyData.canLayAll0, Bool.and_eq_true]
    exact ⟨h d List.mem_cons_self, ih fun e he => h e (List.mem_cons_of_mem _ he)⟩
theorem dep_all {n : Nat} {ds : List PyData} (h : ∀ d ∈ ds, d.depth ≤ n) : PyData.depthAll ds ≤ n := by
  induction ds with
  | nil => simp [PyData.depthAll]
  | cons d ds ih =>
    simp only [PyData.depthAll]
    exact Nat.max_le.mpr ⟨h d List.mem_cons_self, ih fun e he => h e (List.mem_cons_of_mem _ he)⟩
theorem Sh.int {n : Nat} (i : Int) : Sh n (.int i) := ⟨by simp [PyData.canLay0], by simp [PyData.depth]⟩
theorem Sh.str {n : Nat} {x : Str} (h : PyData.strOk x = true) : Sh n (.str x) := ⟨by simpa [PyData.canLay0] using h, by simp [PyData.depth]⟩
theorem Sh.tuple {n : Nat} {ds : List PyData} (h : ∀ d ∈ ds, Sh n d) : Sh (n + 1) (.tuple ds) :=
  ⟨by simpa [PyData.canLay0] using lay_all fun d hd => (h d hd).lay, by
    have := dep_all (n := n) fun d hd => (h d hd).dep
    simp only [PyData.depth]
    omega⟩
theorem Sh.list {n : Nat} {ds : List PyData} (h : ∀ d ∈ ds, Sh n d) : Sh (n + 1) (.list ds) :=
  ⟨by simpa [PyData.canLay0] using lay_all fun d hd => (h d hd).lay, by
    have := dep_all (n := n) fun d hd => (h d hd).dep
    simp only [PyData.depth]
    omega⟩
theorem Sh.mono {n m : Nat} {d : PyData} (h : Sh n d) (hm : n ≤ m) : Sh m d := ⟨h.lay, Nat.le_trans h.dep hm⟩
theorem Sh.shaped {n : Nat} {d : PyData} (h : Sh n d) (hn : n ≤ 64) : SeqAt.shaped d = true := by
  unfold SeqAt.shaped
  rw [Bool.and_eq_true]
  exact ⟨h.lay, decide_eq_true (Nat.le_trans h.dep hn)⟩
def txs (ns : List Str) : List PyData := ns.map PyData.str
theorem dp_texts {K : PySem.W.Frag} {H : Hp} : ∀ ns : List Str, DpAll K H (ns.map V.str) (txs ns)
  | [] => .nil
  | t :: ts => .cons (.str t) (dp_texts ts)
theorem dp_tt {K : PySem.W.Frag} {H : Hp} {a : Addr} {ns : List Str} (h : TT K H a ns) : Dp K H (.ref a) (.tuple (txs ns)) := .tup h (dp_texts ns)
theorem sh_txs {ns : List Str} (h : ∀ t ∈ ns, PyData.strOk t = true) : Sh 1 (.tuple (txs ns)) := .tuple (n := 0) fun d hd => by
  obtain ⟨t, ht, rfl⟩ := List.mem_map.mp hd
  exact .str (h t ht)
theorem dpAll_of {K : PySem.W.Frag} {H : Hp} {n : Nat} : ∀ {vs : List V}, (∀ v ∈ vs, ∃ d, Dp K H v d ∧ Sh n d) → ∃ ds, DpAll K H vs ds ∧ ds.length = vs.length ∧ ∀ d ∈ ds, Sh n d
  | [], _ => ⟨[], .nil, rfl, fun d h => by cases h⟩
  | v :: vs, h => by
    obtain ⟨d, h1, h2⟩ := h v List.mem_cons_self
    obtain ⟨ds, h3, h4, h5⟩ := dpAll_of (vs := vs) fun u hu => h u (List.mem_cons_of_mem _ hu)
    refine ⟨d :: ds, .cons h1 h3, by simp [h4], fun e he => ?_⟩
    rcases List.mem_cons.mp he with rfl | he
    · exact h2
    · exact h5 e he
theorem eqv_nilL (ds : List PyData) : PyData.eqv (.list ds) (.list []) = ds.isEmpty := by
  cases ds <;> simp [PyData.eqv, PyData.eqvAll]
theorem eqv_nilT (ds : List PyData) : PyData.eqv (.tuple ds) (.tuple []) = ds.isEmpty := by
  cases ds <;> simp [PyData.eqv, PyData.eqvAll]
theorem sh_nilL : Sh 1 (.list []) := .list (n := 0) fun d h => by cases h
theorem sh_nilT : Sh 1 (.tuple []) := .tuple (n := 0) fun d h => by cases h
theorem hu64 {k : Nat} {A : Around} (hr : Room k A) : A.units + 64 < cLine := by
  have := hr.un
  omega
/-! ### a look -/
def fsLook (m : Addr) (z : Str) : List (Str × V) := [("menu", .ref m), ("marks", .str z)]
theorem fsLook_menu (m : Addr) (z : Str) : (fsLook m z).lookup ("menu" : Str) = some (.ref m) := by rfl
theorem fsLook_marks (m : Addr) (z : Str) : (fsLook m z).lookup ("marks" : Str) = some (.str z) := by rfl
abbrev mk (ms : List Nat) : Str := ⟨ms.toArray⟩
/-- the look l stands at v -/
def LkV (K : PySem.W.Frag) (C : Addr) (H : Hp) (v : V) (l : Lk Str) : Prop := ∃ a dx m, v = .ref a ∧ H a = some (.ins C dx (fsLook m (mk l.2))) ∧ TT K H m l.1
theorem imm_look (C dx m : Addr) (z : Str) : Imm (.ins C dx (fsLook m z)) := ⟨(fun _ e => nomatch e), (fun _ e => nomatch e), fun C' dx' h v g e => by
  injection e with _ _ e3
  injection e3 with e4 _
  injection e4 with e5 _
  exact absurd e5 (by decide +kernel)⟩
theorem LkV.kt {K : PySem.W.Frag} {C : Addr} {H H' : Hp} {v : V} {l : Lk Str} (h : LkV K C H v l) (e : Kt H H') : LkV K C H' v l := by
  obtain ⟨a, dx, m, h0, h1, h2⟩ := h
  exact ⟨a, dx, m, h0, e _ _ h1 (imm_look _ _ _ _), h2.kt e⟩
/-- a tuple of looks -/
def LkT (K : PySem.W.Frag) (C : Addr) (H : Hp) (t : Addr) (Ls : List (Lk Str)) : Prop := ∃ vs : List V, SqT K H t vs ∧ All2 (LkV K C H) vs Ls
theorem LkT.kt {K : PySem.W.Frag} {C : Addr} {H H' : Hp} {t : Addr} {Ls : List (Lk Str)} (h : LkT K C H t Ls) (e : Kt H H') : LkT K C H' t Ls := by
  obtain ⟨vs, h1, h2⟩ := h
  exact ⟨vs, sqT_kt h1 e, h2.mono fun _ _ r => r.kt e⟩
structure LkTx (K : PySem.W.Frag) (mg : Str → Option Value) (C : Addr) : Prop where
  cl : Cls K C
  nM : NoAttr K C "menu"
  nS : NoAttr K C "marks"
  g_Look : mg "Look" = some (.ref C)
section
variable {P : Program} {w : World} {K : PySem.W.Frag} {mg : Str → Option Value} {base : Heap} {C : Addr}
theorem sign_eq (c k : Nat) : decide (V.str ⟨#[c]⟩ = V.str ⟨#[k]⟩) = decide (c = k) := by
  rw [Bool.eq_iff_iff, decide_eq_true_iff, decide_eq_true_iff]
  constructor
  · intro h
    have h2 := V.str.inj h
    injection h2 with h3
    simpa using h3
  · intro h
    rw [h]
def spMarked (K : PySem.W.Frag) (C : Addr) (c : Nat) : Sp := fun vs H Q _ => ∃ (v : V) (l : Lk Str), vs = [v] ∧ LkV K C H v l ∧ l.1.length ≤ 100 ∧ ∀ H' p, Same H H' → TT K H' p (markedP c l) → Q (.ref p) H'
theorem zip_at {α β : Type} {xs : List α} {ys : List β} {i : Nat} {x : α} {y : β} (hx : xs[i]? = some x) (hy : ys[i]? = some y) : (xs.zip ys)[i]? = some (x, y) := List.getElem?_zip_eq_some.mpr ⟨hx, hy⟩
theorem sc_Look_taken : FnScope ["self", "thing", "mark"] ["self"] (L2.defScope (met 65 3)) := ⟨rfl, rfl, rfl, by decide +kernel, rfl, by decide +kernel, by decide +kernel⟩
theorem p_taken (T : Tx K mg) (L : LkTx K mg C) (D : PrpF K C "taken" "Look.taken" (met 65 3)) : Prp P w K mg base 1 C "taken" (spMarked K C 43) := by
  have S := sc_Look_taken
  refine mkPrp L.cl D S (fun _ _ _ _ _ _ us hl => match us, hl with | [_], _ => rfl) (fun vs H Q E h => ?_) (fun f cdv A outer s H vs Q E hr h => ?_)
  · obtain ⟨v, l, rfl, _⟩ := h
    rfl
  obtain ⟨v, l, rfl, ⟨a, dx, m, rfl, h1, h2⟩, hl, k⟩ := h
  -- slots: 0 self, 1 thing, 2 mark
  refine ⟨_, (pss_one (ps_ret (pe_callTy (call_tuple_ofK K) rfl T.n.tuple (by rfl) (pa_cons (pe_lc rfl S.nd (pi_zipTS rfl T.n.zip (pa_cons (pe_fldK K (pv 0) rfl) (pa_cons (pe_fldK K (pv 0) rfl) pa_nil))) (blkOk_by (N := ["self", "thing", "mark"]) (sc := L2.defScope (met 65 3)) (own := [("thing", 1), ("mark", 2)]) (by decide +kernel)) (fun _ _ _ _ _ => (pg_tupK K (n := 2) rfl (pgs_cons (pg_name (i := 1) S.nd rfl (Or.inl rfl)) (pgs_cons (pg_name (i := 2) S.nd rfl (Or.inl rfl)) pgs_nil)))) (fun _ _ _ _ _ => (pts_one (pt_cmpR op_eq (pv 2) pe_str (nomark _)))) (fun _ _ _ _ _ => (pv 1))) pa_nil)))), ?_⟩
  refine ⟨_, rfl, a, C, dx, _, _, rfl, h1, L.cl, L.nM, fsLook_menu _ _, _, rfl, a, C, dx, _, _, rfl, h1, L.cl, L.nS, fsLook_marks _ _, m, _, _, rfl, h2, fun D hD => lc_pure walk_TS (fun i => ((l.1.zip l.2)[i]?).bind fun q => if decide (q.2 = 43) = true then some (V.str q.1) else none) hD (len_small (by rw [List.length_map]; omega)) (fun H' s => h2.same s) ?_ ?_⟩
  · rintro i x H2 H3 hi s2 ⟨p, u, c, rfl, hp, rfl, hu, hc⟩ R k2
    obtain ⟨t, ht, rfl⟩ := get_map hu
    have s3 : Same H2 (upd H2 p (.tup [V.str t, V.str ⟨#[c]⟩])) := same_new hp
    have q := k2 _ s3
    have hc2 : l.2[i]? = some c := by simpa using hc
    rw [zip_at ht hc2] at q
    have q2 : R (if decide (c = 43) = true then some (V.str t) else none) _ := q
    refine ⟨p, _, rfl, SqT.new upd_same, rfl, _, _, rfl, _, _, rfl, rfl, rfl, ?_⟩
    refine ⟨_, rfl, rfl, _, rfl, ?_⟩
    show if decide (V.str ⟨#[c]⟩ = V.str ⟨#[43]⟩) = true then _ else _
    rw [sign_eq]
    refine ite2 (fun e => ?_) (fun e => ?_)
    · rw [if_pos e] at q2
      exact ⟨_, rfl, q2⟩
    · rw [if_neg e] at q2
      exact q2
  · intro H' s2 e
    refine ⟨D, _, rfl, .inl ⟨SqL.new e, fun p hp => ?_⟩⟩
    refine k _ p (same_upd (s2.free hp) s2) (SqT.new ?_)
    rw [upd_same]
    have e1 : min (l.1.map V.str).length (mk l.2).cps.size = (l.1.zip l.2).length := by simp
    rw [e1, range_fm]
    unfold markedP
    rw [List.map_filterMap]
    congr 3
    funext q
    by_cases hq : q.2 = 43
    · rw [if_pos hq, if_pos (decide_eq_true hq)]
      rfl
    · rw [if_neg hq, if_neg (fun z => hq (of_decide_eq_true z))]
      rfl
end
end Mh
end
section
set_option Elab.async false
set_option linter.all false
set_option maxRecDepth 100000
set_option maxHeartbeats 4000000
/-! MhW6: pairs_of, needs_of, sharpened. -/
namespace Mh
open PySem PySem.Spec PyProof.Rows L2 MhX
open C8 (Cal Mak Met pe_c pe_mk pe_mt pe_mt0 pe_gc pss_cut tCut)
/-! ### a comprehension of two fors -/
theorem lc_in {J : It} {n : Nat} {G : Hp → Prop} {Y : Nat → Hp → V → Hp → Prop} (w : Walk J n G Y) {g : TG} {tt : L2.TT} {te : TE} {vs : List Nat} {σ : L2.St} {H1 : Hp} {D : Addr} {Nx : Hp → Prop} (Pv : Nat → Hp → Prop) (h0 : Pv 0 H1) (hG : ∀ i H, i ≤ n → Pv i H → G H)
    (hs : ∀ i x H H', i < n → Pv i H → Y i H x H' → g x (wipe σ vs) H' fun σ2 H2 => wipe σ2 vs = wipe σ vs ∧ tt σ2 H2 fun b H3 =>
      if b = true then te σ2 H3 fun y H4 => ∃ acc, H4 D = some (.lst acc) ∧ acc.length < sizeLine ∧ Pv (i + 1) (upd H4 D (.lst (acc ++ [y]))) else Pv (i + 1) H3) (hd : ∀ H, Pv n H → Nx H) :
    ∃ W : Nat → Nat → Hp → Prop, (∃ m, W 0 m H1) ∧ ∀ i m H, W i m H →
      (J.stop i H ∧ Nx H) ∨ (J.go i H ∧ ∃ N1 : Hp → Prop, (∀ H', N1 H' → ∃ m', m' < m ∧ W (i + 1) m' H') ∧ ∀ x H', J.yld i H x H' → g x (wipe σ vs) H' fun σ2 H2 => wipe σ2 vs = wipe σ vs ∧ tt σ2 H2 fun b H3 =>
        if b = true then te σ2 H3 fun y H4 => ∃ acc, H4 D = some (.lst acc) ∧ acc.length < sizeLine ∧ N1 (upd H4 D (.lst (acc ++ [y]))) else N1 H3) := by
  refine ⟨fun i m H => m = n - i ∧ i ≤ n ∧ Pv i H, ⟨n, by simp, Nat.zero_le _, h0⟩, ?_⟩
  rintro i m H ⟨rfl, hi, p⟩
  have q := hG i H hi p
  by_cases hlt : i < n
  · refine .inr ⟨w.goes i H hlt q, Pv (i + 1), fun H' p' => ⟨n - (i + 1), by omega, rfl, hlt, p'⟩, fun x H' y => hs i x H H' hlt p (w.yields i H x H' hlt q y)⟩
  · have e : i = n := by omega
    subst e
    exact .inl ⟨w.stops H q, hd H p⟩
theorem lc_out {J : It} {n : Nat} {G : Hp → Prop} {Y : Nat → Hp → V → Hp → Prop} (w : Walk J n G Y) {g g1 : TG} {tt tt1 : L2.TT} {te : TE} {wi1 : TI} {vs vs1 : List Nat} {σ : L2.St} {H1 : Hp} {D : Addr} {Qd : Hp → Prop} (Pv : Nat → Hp → Prop) (h0 : Pv 0 (upd H1 D (.lst []))) (hG : ∀ i H, i ≤ n → Pv i H → G H)
    (hs : ∀ i x H H', i < n → Pv i H → Y i H x H' → g x (wipe σ vs) H' fun σ2 H2 => wipe σ2 vs = wipe σ vs ∧ tt σ2 H2 fun b H3 => if b = true then wi1 σ2 H3 fun J1 H4 => ∃ W1 : Nat → Nat → Hp → Prop, (∃ m, W1 0 m H4) ∧ ∀ j k H, W1 j k H → (J1.stop j H ∧ Pv (i + 1) H) ∨
      (J1.go j H ∧ ∃ Nx1 : Hp → Prop, (∀ H', Nx1 H' → ∃ k', k' < k ∧ W1 (j + 1) k' H') ∧ ∀ x H', J1.yld j H x H' → g1 x (wipe σ2 vs1) H' fun σ3 H5 => wipe σ3 vs1 = wipe σ2 vs1 ∧ tt1 σ3 H5 fun b H6 => if b = true then te σ3 H6 fun y H7 => ∃ acc, H7 D = some (.lst acc) ∧ acc.length < sizeLine ∧ Nx1 (upd H7 D (.lst (acc ++ [y]))) else Nx1 H6) else Pv (i + 1) H3) (hd : ∀ H, Pv n H → Qd H) :
    ∃ W : Nat → Nat → Hp → Prop, (∃ m, W 0 m (upd H1 D (.lst []))) ∧ ∀ i m H, W i m H → (J.stop i H ∧ Qd H) ∨ (J.go i H ∧ ∃ Nx : Hp → Prop, (∀ H', Nx H' → ∃ m', m' < m ∧ W (i + 1) m' H') ∧ ∀ x H', J.yld i H x H' → g x (wipe σ vs) H' fun σ2 H2 => wipe σ2 vs = wipe σ vs ∧ tt σ2 H2 fun b H3 =>
      if b = true then wi1 σ2 H3 fun J1 H4 => ∃ W1 : Nat → Nat → Hp → Prop, (∃ m, W1 0 m H4) ∧ ∀ j k H, W1 j k H → (J1.stop j H ∧ Nx H) ∨ (J1.go j H ∧ ∃ Nx1 : Hp → Prop, (∀ H', Nx1 H' → ∃ k', k' < k ∧ W1 (j + 1) k' H') ∧ ∀ x H', J1.yld j H x H' → g1 x (wipe σ2 vs1) H' fun σ3 H5 => wipe σ3 vs1 = wipe σ2 vs1 ∧ tt1 σ3 H5 fun b H6 =>
        if b = true then te σ3 H6 fun y H7 => ∃ acc, H7 D = some (.lst acc) ∧ acc.length < sizeLine ∧ Nx1 (upd H7 D (.lst (acc ++ [y]))) else Nx1 H6) else Nx H3) := by
  refine ⟨fun i m H => m = n - i ∧ i ≤ n ∧ Pv i H, ⟨n, by simp, Nat.zero_le _, h0⟩, ?_⟩
  rintro i m H ⟨rfl, hi, p⟩
  have q := hG i H hi p
  by_cases hlt : i < n
  · refine .inr ⟨w.goes i H hlt q, Pv (i + 1), fun H' p' => ⟨n - (i + 1), by omega, rfl, hlt, p'⟩, fun x H' y => hs i x H H' hlt p (w.yields i H x H' hlt q y)⟩
  · have e : i = n := by omega
    subst e
    exact .inl ⟨w.stops H q, hd H p⟩
theorem yesIf {A B : Hp → Prop} {σ : L2.St} {H : Hp} (h : A H) : tYes σ H (fun b H3 => if b = true then A H3 else B H3) := by
  show if true = true then A H else B H
  rw [if_pos rfl]
  exact h
/-- looks as they come from the drawn names -/
structure LkOk (ns : List Str) (l : Lk Str) : Prop where
  menu : MenuOk l.1 ns
  few : l.1.length ≤ 8
  txt : ∀ t ∈ l.1, PyData.strOk t = true
/-- a need: none, or the index of a look and a thing that is taken at it -/
def NdV (K : PySem.W.Frag) (Ls : List (Lk Str)) (H : Hp) (v : V) (W : List Br) : Prop :=
  (v = .non ∧ W = []) ∨ ∃ T i t l, v = .ref T ∧ SqT K H T [.int (i : Nat), .str t] ∧ Ls[i]? = some l ∧ t ∈ takenP l ∧ W = [(l.1, lessP l.1 t)]
theorem NdV.kt {K : PySem.W.Frag} {Ls : List (Lk Str)} {H H' : Hp} {v : V} {W : List Br} (h : NdV K Ls H v W) (e : Kt H H') : NdV K Ls H' v W := by
  rcases h with h | ⟨T, i, t, l, h0, h1, h2⟩
  · exact .inl h
  · exact .inr ⟨T, i, t, l, h0, sqT_kt h1 e, h2⟩
theorem wants0_len (Ls : List (Lk Str)) (h : ∀ l ∈ Ls, l.1.length ≤ 8) : (wants0 Ls).length ≤ 8 * Ls.length := by
  induction Ls with
  | nil => simp [wants0]
  | cons l Ls ih =>
    have e : wants0 (l :: Ls) = ((takenP l).map fun t => [(l.1, lessP l.1 t)]) ++ wants0 Ls := by simp [wants0]
    rw [e, List.length_append, List.length_map, List.length_cons]
    have h1 := ih fun x hx => h x (List.mem_cons_of_mem _ hx)
    have h2 : (takenP l).length ≤ 8 := by
      refine Nat.le_trans (List.length_filterMap_le _ _) ?_
      rw [List.length_zip]
      have := h l List.mem_cons_self
      omega
    omega
section
variable {P : Program} {w : World} {K : PySem.W.Frag} {mg : Str → Option Value} {base : Heap} {C : Addr}
theorem sc_Look_passed : FnScope ["self", "thing", "mark"] ["self"] (L2.defScope (met 65 4)) := ⟨rfl, rfl, rfl, by decide +kernel, rfl, by decide +kernel, by decide +kernel⟩
theorem p_passed (T : Tx K mg) (L : LkTx K mg C) (D : PrpF K C "passed" "Look.passed" (met 65 4)) : Prp P w K mg base 1 C "passed" (spMarked K C 45) := by
  have S := sc_Look_passed
  refine mkPrp L.cl D S (fun _ _ _ _ _ _ us hl => match us, hl with | [_], _ => rfl) (fun vs H Q E h => ?_) (fun f cdv A outer s H vs Q E hr h => ?_)
  · obtain ⟨v, l, rfl, _⟩ := h
    rfl
  obtain ⟨v, l, rfl, ⟨a, dx, m, rfl, h1, h2⟩, hl, k⟩ := h
  -- slots: 0 self, 1 thing, 2 mark
  refine ⟨_, (pss_one (ps_ret (pe_callTy (call_tuple_ofK K) rfl T.n.tuple (by rfl) (pa_cons (pe_lc rfl S.nd (pi_zipTS rfl T.n.zip (pa_cons (pe_fldK K (pv 0) rfl) (pa_cons (pe_fldK K (pv 0) rfl) pa_nil))) (blkOk_by (N := ["self", "thing", "mark"]) (sc := L2.defScope (met 65 4)) (own := [("thing", 1), ("mark", 2)]) (by decide +kernel)) (fun _ _ _ _ _ => (pg_tupK K (n := 2) rfl (pgs_cons (pg_name (i := 1) S.nd rfl (Or.inl rfl)) (pgs_cons (pg_name (i := 2) S.nd rfl (Or.inl rfl)) pgs_nil)))) (fun _ _ _ _ _ => (pts_one (pt_cmpR op_eq (pv 2) pe_str (nomark _)))) (fun _ _ _ _ _ => (pv 1))) pa_nil)))), ?_⟩
  refine ⟨_, rfl, a, C, dx, _, _, rfl, h1, L.cl, L.nM, fsLook_menu _ _, _, rfl, a, C, dx, _, _, rfl, h1, L.cl, L.nS, fsLook_marks _ _, m, _, _, rfl, h2, fun D hD => lc_pure walk_TS (fun i => ((l.1.zip l.2)[i]?).bind fun q => if decide (q.2 = 45) = true then some (V.str q.1) else none) hD (len_small (by rw [List.length_map]; omega)) (fun H' s => h2.same s) ?_ ?_⟩
  · rintro i x H2 H3 hi s2 ⟨p, u, c, rfl, hp, rfl, hu, hc⟩ R k2
    obtain ⟨t, ht, rfl⟩ := get_map hu
    have s3 : Same H2 (upd H2 p (.tup [V.str t, V.str ⟨#[c]⟩])) := same_new hp
    have q := k2 _ s3
    have hc2 : l.2[i]? = some c := by simpa using hc
    rw [zip_at ht hc2] at q
    have q2 : R (if decide (c = 45) = true then some (V.str t) else none) _ := q
    refine ⟨p, _, rfl, SqT.new upd_same, rfl, _, _, rfl, _, _, rfl, rfl, rfl, ?_⟩
    refine ⟨_, rfl, rfl, _, rfl, ?_⟩
    show if decide (V.str ⟨#[c]⟩ = V.str ⟨#[45]⟩) = true then _ else _
    rw [sign_eq]
    refine ite2 (fun e => ?_) (fun e => ?_)
    · rw [if_pos e] at q2
      exact ⟨_, rfl, q2⟩
    · rw [if_neg e] at q2
      exact q2
  · intro H' s2 e
    refine ⟨D, _, rfl, .inl ⟨SqL.new e, fun p hp => ?_⟩⟩
    refine k _ p (same_upd (s2.free hp) s2) (SqT.new ?_)
    rw [upd_same]
    have e1 : min (l.1.map V.str).length (mk l.2).cps.size = (l.1.zip l.2).length := by simp
    rw [e1, range_fm]
    unfold markedP
    rw [List.map_filterMap]
    congr 3
    funext q
    by_cases hq : q.2 = 45
    · rw [if_pos hq, if_pos (decide_eq_true hq)]
      rfl
    · rw [if_neg hq, if_neg (fun z => hq (of_decide_eq_true z))]
      rfl
def spPairsOf (K : PySem.W.Frag) (C : Addr) : Sp := fun vs H Q _ => ∃ (t : Addr) (Ls : List (Lk Str)), vs = [.ref t] ∧ LkT K C H t Ls ∧ Ls.length ≤ 20 ∧ (∀ l ∈ Ls, l.1.length ≤ 8) ∧ ∀ H' p, Same H H' → PrL K H' p (barsP Ls) → Q (.ref p) H'
theorem sc_pairs_of : FnScope ["looks", "look"] ["looks"] (L2.defScope (fnd 55)) := ⟨rfl, rfl, rfl, by decide +kernel, rfl, by decide +kernel, by decide +kernel⟩
theorem d_pairs_of (T : Tx K mg) (L : LkTx K mg C) (D : DefF K mg "pairs_of" (fnd 55)) (c_passed : Prp P w K mg base 1 C "passed" (spMarked K C 45)) : Cal P w K mg base 3 "pairs_of" (spPairsOf K C) [] := by
  have S := sc_pairs_of
  refine mkCal D S (fun _ _ _ _ _ _ us hl => match us, hl with | [_], _ => rfl) (fun vs H Q E h => ?_) (fun f cdv A outer s H vs Q E hr h => ?_)
  · obtain ⟨t, Ls, rfl, _⟩ := h
    rfl
  obtain ⟨t, Ls, rfl, ⟨us, h1, h2⟩, hl, hm, k⟩ := h
  -- slots: 0 looks, 1 look
  refine ⟨_, (pss_one (ps_ret (pe_lc rfl S.nd (pi_tupK K (pv 0)) (blkOk_by (N := ["looks", "look"]) (sc := L2.defScope (fnd 55)) (own := [("look", 1)]) (by decide +kernel)) (fun _ _ _ _ _ => (pg_name (i := 1) S.nd rfl (Or.inl rfl))) (fun _ _ _ _ _ => pts_nil) (fun _ _ _ _ _ => (pe_tup (pa_cons (pe_fldK K (pv 1) rfl) (pa_cons (pe_pr c_passed hr (by decide) (pv 1) rfl) pa_nil))))))), ?_⟩
  have hul := h2.1
  refine ⟨_, rfl, t, rfl, ⟨_, h1⟩, fun D1 hD1 => lc_rel walk_tup (fun i H v => ∃ l, Ls[i]? = some l ∧ PrT K H v (barP l)) (fun i H H' v ⟨l, e1, e2⟩ kt => ⟨l, e1, e2.kt kt⟩) hD1 (by omega) (fun H' s => sqT_same s h1) ?_ ?_ gname_mono yes_mono⟩
  · rintro i x H1 H2 hi s ⟨e0, hx⟩ R k2
    subst e0
    obtain ⟨l, hl2, a, dx, m, rfl, g1, g2⟩ := h2.at hx
    have g1' := s _ _ g1
    have g2' := g2.same s
    refine ⟨rfl, rfl, ?_⟩
    refine ⟨_, rfl, a, C, dx, _, _, rfl, g1', L.cl, L.nM, fsLook_menu _ _, _, rfl, a, dx, _, rfl, g1', .ref a, l, rfl, ⟨a, dx, m, rfl, g1', g2'⟩, ?_, fun H3 p s3 hp => ⟨by show 2 ≤ sizeLine; decide, fun q hq => ?_⟩⟩
    · have := hm l (List.mem_of_getElem? hl2)
      omega
    exact k2 _ _ (same_upd (s3.free hq) s3) ⟨l, hl2, q, m, p, rfl, SqT.new upd_same, (g2'.same s3).same (same_new hq), hp.same (same_new hq)⟩
  · intro H1 ys s1 e1 len1 r1
    refine k H1 D1 s1 ⟨ys, SqL.new e1, ?_, fun i x y hx hy => ?_⟩
    · unfold barsP
      rw [List.length_map]
      omega
    · obtain ⟨l, e2, e3⟩ := r1 i x hx
      unfold barsP at hy
      rw [List.getElem?_map, e2] at hy
      cases hy
      exact e3
def spNeedsOf (K : PySem.W.Frag) (C : Addr) : Sp := fun vs H Q _ => ∃ (t : Addr) (ns : List Str) (Ls : List (Lk Str)), vs = [.ref t] ∧ LkT K C H t Ls ∧ Ls.length ≤ 20 ∧ (∀ l ∈ Ls, LkOk ns l) ∧
  ∀ H' p us, Same H H' → SqL K H' p us → All2 (NdV K Ls H') us (wantsP Ls) → Q (.ref p) H'
theorem sc_needs_of : FnScope ["looks", "needs", "index", "look", "thing"] ["looks"] (L2.defScope (fnd 56)) := ⟨rfl, rfl, rfl, by decide +kernel, rfl, by decide +kernel, by decide +kernel⟩
theorem d_needs_of (T : Tx K mg) (L : LkTx K mg C) (D : DefF K mg "needs_of" (fnd 56)) (c_taken : Prp P w K mg base 1 C "taken" (spMarked K C 43)) : Cal P w K mg base 3 "needs_of" (spNeedsOf K C) [] := by
  have S := sc_needs_of
  refine mkCal D S (fun _ _ _ _ _ _ us hl => match us, hl with | [_], _ => rfl) (fun vs H Q E h => ?_) (fun f cdv A outer s H vs Q E hr h => ?_)
  · obtain ⟨t, ns, Ls, rfl, _⟩ := h
    rfl
  obtain ⟨t, ns, Ls, rfl, ⟨us, h1, h2⟩, hl, ok, k⟩ := h
  -- slots: 0 looks, 1 needs, 2 index, 3 look, 4 thing
  refine ⟨_, (pss_cons (ps_setLc2 (i := 1) (vs1 := [4]) rfl S.nd rfl rfl (by rfl) (pi_enumT rfl T.n.enu (pa_cons (pv 0) pa_nil)) (blkOk_by (N := ["looks", "needs", "index", "look", "thing"]) (sc := L2.defScope (fnd 56)) (own := [("index", 2), ("look", 3), ("thing", 4)]) (by decide +kernel)) (by decide) (fun _ _ _ _ _ => (pg_tupK K (n := 2) rfl (pgs_cons (pg_name (i := 2) S.nd rfl (Or.inl rfl)) (pgs_cons (pg_name (i := 3) S.nd rfl (Or.inl rfl)) pgs_nil)))) (fun _ _ _ _ _ => pts_nil) (fun _ _ _ _ _ => (pi_tupK K (pe_pr c_taken hr (by decide) (pv 3) rfl))) (fun _ _ _ _ _ => (pg_name (i := 4) S.nd rfl (Or.inl rfl))) (fun _ _ _ _ _ => pts_nil) (fun _ _ _ _ _ => (pe_tup (pa_cons (pv 2) (pa_cons (pv 4) pa_nil))))) (pss_one (ps_ret (pe_ifExp (pt_cmpR (op_neDK K (hu64 hr)) (pv 1) (pe_lst pa_nil) (nomark _)) (pv 1) (pe_lst (pa_cons pe_non pa_nil)))))), ?_⟩
  have hul := h2.1
  have tk8 : ∀ l ∈ Ls, (takenP l).length ≤ 8 := fun l hl => by
    refine Nat.le_trans (List.length_filterMap_le _ _) ?_
    rw [List.length_zip]
    have := (ok l hl).few
    omega
  refine ⟨_, rfl, t, _, rfl, h1, fun D1 hD1 => lc_out walk_enumT (fun i H' => Same H H' ∧ ∃ ys, H' D1 = some (.lst ys) ∧ All2 (NdV K Ls H') ys (wants0 (Ls.take i))) ⟨same_upd hD1 (Same.refl _), [], upd_same, All2.nil⟩ (fun i H' _ p => sqT_same p.1 h1) ?_ ?_⟩
  · rintro i x H2 H3 hi ⟨s2, ys, e2, a2⟩ ⟨p, u, y, rfl, hp, rfl, hu, hy⟩
    cases hu
    obtain ⟨l, hl2, a, dx, m, rfl, g1, g2⟩ := h2.at hy
    have ml := List.mem_of_getElem? hl2
    have s3 : Same H2 (upd H2 p (.tup [V.int (i : Nat), V.ref a])) := same_new hp
    have g1' := s3 _ _ (s2 _ _ g1)
    have g2' := (g2.same s2).same s3
    refine ⟨p, _, rfl, SqT.new upd_same, rfl, _, _, rfl, _, _, rfl, rfl, rfl, ?_⟩
    refine yesIf ?_
    refine ⟨_, rfl, a, dx, _, rfl, g1', .ref a, l, rfl, ⟨a, dx, m, rfl, g1', g2'⟩, ?_, fun H4 q s4 hq => ⟨q, rfl, ⟨_, hq⟩, ?_⟩⟩
    · have := (ok l ml).few
      omega
    have s34 : Same H2 H4 := s3.trans s4
    have tki : wants0 (Ls.take (i + 1)) = wants0 (Ls.take i) ++ (takenP l).map fun t => [(l.1, lessP l.1 t)] := by
      unfold wants0
      rw [List.take_succ, hl2, List.flatMap_append]
      simp
    refine lc_in walk_tup (fun j H' => Same H H' ∧ TT K H' q (takenP l) ∧ ∃ ys, H' D1 = some (.lst ys) ∧ All2 (NdV K Ls H') ys (wants0 (Ls.take i) ++ ((takenP l).take j).map fun t => [(l.1, lessP l.1 t)])) ⟨s2.trans s34, hq, ys, s34 _ _ e2, ?_⟩ (fun j H' _ p => p.2.1) ?_ ?_
    · rw [List.take_zero, List.map_nil, List.append_nil]
      exact a2.mono fun _ _ r => r.kt s34.kt
    · rintro j x H5 H6 hj ⟨s5, hq5, ys5, e5, a5⟩ ⟨e0, hx⟩
      subst e0
      obtain ⟨t2, ht2, rfl⟩ := get_map hx
      have w5 : ys5.length ≤ 300 := by
        rw [a5.1, List.length_append, List.length_map, List.length_take]
        have h3 := wants0_len (Ls.take i) fun l hl => (ok l (List.mem_of_mem_take hl)).few
        rw [List.length_take] at h3
        have := tk8 l ml
        omega
      refine ⟨rfl, ?_⟩
      refine yesIf ?_
      refine ⟨_, rfl, _, rfl, by show 2 ≤ sizeLine; decide, fun r hr => ?_⟩
      have s6 : Same H6 (upd H6 r (.tup [V.int (i : Nat), V.str t2])) := same_new hr
      have e6 := s6 _ _ e5
      have kt : Kt (upd H6 r (.tup [V.int (i : Nat), V.str t2])) (upd (upd H6 r (.tup [V.int (i : Nat), V.str t2])) D1 (.lst (ys5 ++ [V.ref r]))) := kt_upd e6
      refine ⟨ys5, e6, small1000 (by omega), same_upd hD1 (s5.trans s6), (hq5.same s6).kt kt, _, upd_same, ?_⟩
      rw [List.take_succ, ht2]
      rw [List.map_append, ← List.append_assoc]
      refine All2.snoc (a5.mono fun _ _ r => (r.kt s6.kt).kt kt) (.inr ⟨r, i, t2, l, rfl, sqT_kt (SqT.new upd_same) kt, hl2, List.mem_of_getElem? ht2, rfl⟩)
    · rintro H5 ⟨s5, hq5, ys5, e5, a5⟩
      refine ⟨s5, ys5, e5, ?_⟩
      rw [List.length_map, List.take_of_length_le (Nat.le_refl _)] at a5
      rw [tki]
      exact a5
  · rintro H2 ⟨s2, ys, e2, a2⟩
    rw [List.take_of_length_le (by omega)] at a2
    have nd : ∀ v ∈ ys, ∃ d, Dp K H2 v d ∧ Sh 1 d := fun v hv => by
      obtain ⟨i, hi⟩ := List.getElem?_of_mem hv
      obtain ⟨W, hW, q⟩ := a2.at hi
      rcases q with ⟨rfl, e⟩ | ⟨T, j, t2, l, rfl, g1, g2, g3, g4⟩
      · refine ⟨_, .non, by simp [PyData.canLay0], by simp [PyData.depth]⟩
      · refine ⟨_, .tup g1 (.cons (.int _) (.cons (.str _) .nil)), .tuple (n := 0) fun d hd => ?_⟩
        rcases List.mem_cons.mp hd with rfl | hd
        · exact .int _
        · have e : d = .str t2 := by simpa using hd
          subst e
          exact .str ((ok l (List.mem_of_getElem? g2)).txt t2 (marked_mem g3))
    obtain ⟨ds, d1, d2, d3⟩ := dpAll_of nd
    refine ⟨_, rfl, Nat.zero_le _, fun D2 hD2 => ?_⟩
    have s3 : Same H2 (upd H2 D2 (.lst [])) := same_new hD2
    obtain ⟨ds', d1', d2', d3'⟩ := dpAll_of (K := K) (H := upd H2 D2 (.lst [])) (vs := ys) (n := 1) fun v hv => by
      obtain ⟨i, hi⟩ := List.getElem?_of_mem hv
      obtain ⟨W, hW, q⟩ := a2.at hi
      rcases q with ⟨rfl, e⟩ | ⟨T, j, t2, l, rfl, g1, g2, g3, g4⟩
      · refine ⟨_, .non, by simp [PyData.canLay0], by simp [PyData.depth]⟩
      · refine ⟨_, .tup (sqT_same s3 g1) (.cons (.int _) (.cons (.str _) .nil)), .tuple (n := 0) fun d hd => ?_⟩
        rcases List.mem_cons.mp hd with rfl | hd
        · exact .int _
        · have e : d = .str t2 := by simpa using hd
          subst e
          exact .str ((ok l (List.mem_of_getElem? g2)).txt t2 (marked_mem g3))
    refine ⟨.list ds', .list [], .lst (SqL.new (s3 _ _ e2)) d1', .lst (SqL.new upd_same) .nil, (Sh.list d3').shaped (by decide), sh_nilL.shaped (by decide), _, rfl, ?_⟩
    rw [eqv_nilL]
    refine ite2 (fun e => ?_) (fun e => ?_)
    · refine ⟨_, rfl, k _ D1 ys (s2.trans s3) (SqL.new (s3 _ _ e2)) ?_⟩
      have ne : ds'.isEmpty = false := by simpa using e
      have e3 : (wants0 Ls).isEmpty = false := by
        cases q : wants0 Ls with
        | nil =>
          rw [q] at a2
          have l0 : ys.length = 0 := a2.1
          have l1 : ds'.length = 0 := by omega
          rw [List.length_eq_zero_iff.mp l1] at ne
          cases ne
        | cons x xs => rfl
      unfold wantsP
      rw [e3, if_neg Bool.false_ne_true]
      exact a2.mono fun _ _ r => r.kt s3.kt
    · refine ⟨by show 1 ≤ sizeLine; decide, fun D3 hD3 => ?_⟩
      have s4 : Same (upd H2 D2 (.lst [])) (upd (upd H2 D2 (.lst [])) D3 (.lst [V.non])) := same_new hD3
      refine k _ D3 [V.non] ((s2.trans s3).trans s4) (SqL.new upd_same) ?_
      have ne : ds'.isEmpty = true := by
        cases q : ds'.isEmpty with
        | true => rfl
        | false =>
          rw [q] at e
          exact absurd rfl e
      have e3 : (wants0 Ls).isEmpty = true := by
        have l1 : ds'.length = 0 := by rw [List.isEmpty_iff.mp ne]; rfl
        have l2 : (wants0 Ls).length = 0 := by rw [← a2.1]; omega
        rw [List.length_eq_zero_iff.mp l2]
        rfl
      unfold wantsP
      rw [e3, if_pos rfl]
      exact All2.snoc All2.nil (.inl ⟨rfl, rfl⟩)
end
end Mh
end
section
set_option Elab.async false
set_option linter.all false
set_option maxRecDepth 100000
set_option maxHeartbeats 4000000
/-! MhW7: sharpened, are_fit, is_never, is_sure. -/
namespace Mh
open PySem PySem.Spec PyProof.Rows L2 MhX
open C8 (Cal Mak Met pe_c pe_mk pe_mt pe_mt0 pe_gc pss_cut tCut)
theorem eqv_txs : ∀ a b : List Str, PyData.eqvAll (txs a) (txs b) = decide (a = b)
  | [], [] => by simp [txs, PyData.eqvAll]
  | [], y :: ys => by simp [txs, PyData.eqvAll]
  | x :: xs, [] => by simp [txs, PyData.eqvAll]
  | x :: xs, y :: ys => by
    have ih := eqv_txs xs ys
    show PyData.eqvAll (PyData.str x :: txs xs) (PyData.str y :: txs ys) = _
    simp only [PyData.eqvAll, PyData.eqv, ih]
    rw [Bool.eq_iff_iff]
    simp
theorem eqv_tt (a b : List Str) : PyData.eqv (.tuple (txs a)) (.tuple (txs b)) = decide (a = b) := by
  rw [← eqv_txs a b]
  simp [PyData.eqv]
theorem markedP_len (c : Nat) (l : Lk Str) : (markedP c l).length ≤ l.1.length := by
  refine Nat.le_trans (List.length_filterMap_le _ _) ?_
  rw [List.length_zip]
  omega
theorem bars_sub {ns : List Str} {Ls : List (Lk Str)} (ok : ∀ l ∈ Ls, LkOk ns l) : ∀ b ∈ barsP Ls, Sub b.1 ns := fun b hb => by
  obtain ⟨l, hl, rfl⟩ := List.mem_map.mp hb
  exact (ok l hl).menu.sub
theorem wants_sub {ns : List Str} {Ls : List (Lk Str)} (ok : ∀ l ∈ Ls, LkOk ns l) {W : List Br} (hW : W ∈ wantsP Ls) : (∀ b ∈ W, Sub b.1 ns) ∧ W.length ≤ 1 := by
  rcases wants_mem hW with rfl | ⟨l, hl, t, ht, rfl⟩
  · exact ⟨fun b hb => by (cases hb), by decide⟩
  · refine ⟨fun b hb => ?_, Nat.le_refl _⟩
    have e : b = (l.1, lessP l.1 t) := by simpa using hb
    rw [e]
    exact (ok l hl).menu.sub
theorem bars_len (Ls : List (Lk Str)) : (barsP Ls).length = Ls.length := by
  unfold barsP
  rw [List.length_map]
section
variable {P : Program} {w : World} {K : PySem.W.Frag} {mg : Str → Option Value} {base : Heap} {C : Addr}
def spSharpened (K : PySem.W.Frag) (C : Addr) : Sp := fun vs H Q _ => ∃ (t : Addr) (v : V) (ns : List Str) (Ls : List (Lk Str)) (W : List Br), vs = [.ref t, v] ∧ LkT K C H t Ls ∧ Ls.length ≤ 20 ∧ (∀ l ∈ Ls, LkOk ns l) ∧ NdV K Ls H v W ∧
  ∀ H' p, Same H H' → PrL K H' p (barsP Ls ++ W) → Q (.ref p) H'
theorem sc_sharpened : FnScope ["looks", "need", "pairs", "menu"] ["looks", "need"] (L2.defScope (fnd 57)) := ⟨rfl, rfl, rfl, by decide +kernel, rfl, by decide +kernel, by decide +kernel⟩
theorem d_sharpened (T : Tx K mg) (L : LkTx K mg C) (D : DefF K mg "sharpened" (fnd 57)) (c_pairs_of : Cal P w K mg base 3 "pairs_of" (spPairsOf K C) []) (c_less : Cal P w K mg base 1 "less" (spLess K) []) : Cal P w K mg base 4 "sharpened" (spSharpened K C) [] := by
  have S := sc_sharpened
  refine mkCal D S (fun _ _ _ _ _ _ us hl => match us, hl with | [_, _], _ => rfl) (fun vs H Q E h => ?_) (fun f cdv A outer s H vs Q E hr h => ?_)
  · obtain ⟨t, v, ns, Ls, W, rfl, _⟩ := h
    rfl
  obtain ⟨t, v, ns, Ls, W, rfl, hL, hl, ok, hv, k⟩ := h
  -- slots: 0 looks, 1 need, 2 pairs, 3 menu
  refine ⟨_, (pss_cons (ps_set (i := 2) S.nd rfl (Or.inl rfl) (pe_c c_pairs_of hr (by decide) rfl (pa_cons (pv 0) pa_nil))) 
    (pss_cons (ps_if (pt_cmpR op_isN (pv 1) pe_non (nomark _)) (pss_one (ps_ret (pv 2))) pss_nil) 
    (pss_cons (ps_set (i := 3) S.nd rfl (Or.inl rfl) (pe_fldK K (pe_ix (ix_tupK K) (pv 0) (pe_ix (ix_tupK K) (pv 1) pe_int (fun _ _ => rfl)) (fun _ _ => rfl)) rfl)) (pss_one (ps_ret (pe_lst (pa_starK K (pv 2) (pa_cons (pe_tup (pa_cons (pv 3) (pa_cons (pe_c c_less hr (by decide) rfl (pa_cons (pv 3) (pa_cons (pe_ix (ix_tupK K) (pv 1) pe_int (fun _ _ => rfl)) pa_nil))) pa_nil))) pa_nil)))))))), ?_⟩
  refine ⟨_, rfl, t, Ls, rfl, hL, hl, fun l hl => (ok l hl).few, fun H1 p s1 hp => ?_⟩
  refine ⟨_, rfl, rfl, _, rfl, ?_⟩
  rcases hv with ⟨rfl, rfl⟩ | ⟨T1, i, t2, l, rfl, g1, g2, g3, rfl⟩
  · refine iteT ⟨_, rfl, k H1 p s1 ?_⟩
    rw [List.append_nil]
    exact hp
  · refine iteF ?_
    obtain ⟨us, h1, h2⟩ := hL
    obtain ⟨va, hva, a, dx, m, rfl, q1, q2⟩ := h2.at' g2
    have g1' := sqT_same s1 g1
    have q1' := s1 _ _ q1
    have q2' := q2.same s1
    obtain ⟨us2, h3, h4⟩ := hp
    refine ⟨_, rfl, _, rfl, T1, _, 0, _, rfl, rfl, g1', rfl, t, _, _, _, rfl, rfl, sqT_same s1 h1, atI_nat hva, a, C, dx, _, _, rfl, q1', L.cl, L.nM, fsLook_menu _ _, ?_⟩
    refine ⟨_, rfl, p, us2, rfl, .inr h3, _, rfl, _, rfl, _, rfl, T1, _, 1, _, rfl, rfl, g1', rfl, m, l.1, t2, rfl, q2', ?_, fun H2 r s2 hr2 => ?_⟩
    · have := (ok l (List.mem_of_getElem? g2)).few
      omega
    refine ⟨by show 2 ≤ sizeLine; decide, fun q hq => ⟨?_, fun D hD => ?_⟩⟩
    · have e1 := h4.1
      rw [bars_len] at e1
      rw [List.length_append, List.length_singleton]
      exact len_small (by omega)
    have s3 : Same H1 (upd H2 q (.tup [V.ref m, V.ref r])) := same_upd (s2.free hq) s2
    have s4 : Same (upd H2 q (.tup [V.ref m, V.ref r])) (upd (upd H2 q (.tup [V.ref m, V.ref r])) D (.lst (us2 ++ [V.ref q]))) := same_new hD
    refine k _ D ((s1.trans s3).trans s4) ⟨_, SqL.new upd_same, All2.snoc (h4.mono fun _ _ r => (r.kt s3.kt).kt s4.kt) ⟨q, m, r, rfl, sqT_same s4 (SqT.new upd_same), (q2'.same s3).same s4, (hr2.same (same_new hq)).same s4⟩⟩
structure Cx12 (K : PySem.W.Frag) (C : Addr) (H : Hp) (a t : Addr) (ns : List Str) (Ls : List (Lk Str)) : Prop where
  names : TT K H a ns
  looks : LkT K C H t Ls
  few : ns.length ≤ 8
  many : Ls.length ≤ 20
  ok : ∀ l ∈ Ls, LkOk ns l
theorem Cx12.same {H H' : Hp} {a t : Addr} {ns : List Str} {Ls : List (Lk Str)} (c : Cx12 K C H a t ns Ls) (s : Same H H') : Cx12 K C H' a t ns Ls := ⟨c.names.same s, c.looks.kt s.kt, c.few, c.many, c.ok⟩
def spAreFit (K : PySem.W.Frag) (C : Addr) : Sp := fun vs H Q _ => ∃ (a t : Addr) (ns : List Str) (Ls : List (Lk Str)), vs = [.ref a, .ref t] ∧ Cx12 K C H a t ns Ls ∧ ∀ H', Same H H' → Q (.bl (decide (fitP ns Ls))) H'
theorem non_dec {x : V} {p : Prop} [Decidable p] (h : x = .non ↔ p) : decide (x = V.non) = decide p := by
  rw [Bool.eq_iff_iff, decide_eq_true_iff, decide_eq_true_iff]
  exact h
theorem sc_are_fit : FnScope ["things", "looks", "need"] ["things", "looks"] (L2.defScope (fnd 58)) := ⟨rfl, rfl, rfl, by decide +kernel, rfl, by decide +kernel, by decide +kernel⟩
theorem d_are_fit (T : Tx K mg) (D : DefF K mg "are_fit" (fnd 58)) (c_needs_of : Cal P w K mg base 3 "needs_of" (spNeedsOf K C) []) (c_sharpened : Cal P w K mg base 4 "sharpened" (spSharpened K C) []) (c_let_row : Cal P w K mg base 2 "let_row" (spLetRow K) []) : Cal P w K mg base 5 "are_fit" (spAreFit K C) [] := by
  have S := sc_are_fit
  refine mkCal D S (fun _ _ _ _ _ _ us hl => match us, hl with | [_, _], _ => rfl) (fun vs H Q E h => ?_) (fun f cdv A outer s H vs Q E hr h => ?_)
  · obtain ⟨a, t, ns, Ls, rfl, _⟩ := h
    rfl
  obtain ⟨a, t, ns, Ls, rfl, c, k⟩ := h
  -- slots: 0 things, 1 looks, 2 need
  refine ⟨_, (pss_cons (ps_for PassesOwn.never rfl (pi_listK K (pe_c c_needs_of hr (by decide) rfl (pa_cons (pv 1) pa_nil))) (pg_name (i := 2) S.nd rfl (Or.inl rfl)) (pss_one (ps_if (pt_cmpR op_isN (pe_ix (ix_tupK K) (pe_c c_let_row hr (by decide) rfl (pa_cons (pv 0) (pa_cons (pe_c c_sharpened hr (by decide) rfl (pa_cons (pv 1) (pa_cons (pv 2) pa_nil))) pa_nil))) pe_int (fun _ _ => rfl)) pe_non (nomark _)) (pss_one (ps_ret pe_bl)) pss_nil))) (pss_one (ps_ret pe_bl))), ?_⟩
  refine ⟨_, rfl, t, ns, Ls, rfl, c.looks, c.many, c.ok, fun H1 p us s1 hp a2 => ⟨p, rfl, ⟨_, hp⟩, ?_⟩⟩
  refine for_it walk_list (fun i σ H2 => ∃ v, σ = [some (.ref a), some (.ref t), v] ∧ Same H1 H2 ∧ ∀ j W, j < i → (wantsP Ls)[j]? = some W → fixL (barsP Ls ++ W) ns = []) ⟨none, rfl, Same.refl _, fun j W h => absurd h (Nat.not_lt_zero _)⟩ (fun i σ H2 _ ⟨_, _, s2, _⟩ => s2.seq hp) ?_ ?_
  · rintro i x σ H2 H3 hi ⟨v, rfl, s2, done⟩ ⟨e0, hx⟩
    subst e0
    obtain ⟨W, hW, hN⟩ := a2.at hx
    have mW := List.mem_of_getElem? hW
    obtain ⟨w1, w2⟩ := wants_sub c.ok mW
    have c3 := c.same (s1.trans s2)
    refine ⟨_, rfl, _, rfl, _, rfl, t, x, ns, Ls, W, rfl, c3.looks, c.many, c.ok, hN.kt s2.kt, fun H4 q s4 hq => ?_⟩
    refine ⟨a, q, ns, barsP Ls ++ W, rfl, c3.names.same s4, hq, c.few, ?_, fun b hb => ?_, fun H5 r x1 y1 s5 hr5 hx5 => ?_⟩
    · rw [List.length_append, bars_len]
      have := c.many
      omega
    · rcases List.mem_append.mp hb with z | z
      · exact bars_sub c.ok b z
      · exact w1 b z
    refine ⟨r, _, 0, x1, rfl, rfl, hr5, rfl, rfl, _, rfl, ?_⟩
    rw [non_dec hx5]
    refine ite2 (fun e => ?_) (fun e => ?_)
    · have e2 := of_decide_eq_true e
      have q := k H5 (((s1.trans s2).trans s4).trans s5)
      have nf : ¬ fitP ns Ls := fun z => e2 (z W mW)
      rw [decide_eq_false nf] at q
      exact q
    · refine ⟨some x, rfl, (s2.trans s4).trans s5, fun j W' hj hW' => ?_⟩
      rcases Nat.lt_succ_iff_lt_or_eq.mp hj with z | z
      · exact done j W' z hW'
      · subst z
        rw [hW] at hW'
        cases hW'
        exact Classical.byContradiction fun z => e (decide_eq_true z)
  · rintro σ H2 ⟨v, rfl, s2, done⟩
    have q := k H2 (s1.trans s2)
    have f : fitP ns Ls := fun W hW => by
      obtain ⟨j, hj⟩ := List.getElem?_of_mem hW
      refine done j W ?_ hj
      have := (List.getElem?_eq_some_iff.mp hj).1
      have := a2.1
      omega
    rw [decide_eq_true f] at q
    exact q
def spNever (K : PySem.W.Frag) (C : Addr) : Sp := fun vs H Q _ => ∃ (a t m : Addr) (ns : List Str) (Ls : List (Lk Str)) (M : List Str) (z : Str), vs = [.ref a, .ref t, .ref m, .str z] ∧ Cx12 K C H a t ns Ls ∧ TT K H m M ∧ Sub M ns ∧ M.length ≤ 8 ∧ ∀ H', Same H H' → Q (.bl (decide (neverP ns Ls M z))) H'
theorem sc_is_never : FnScope ["things", "looks", "menu", "thing"] ["things", "looks", "menu", "thing"] (L2.defScope (fnd 59)) := ⟨rfl, rfl, rfl, by decide +kernel, rfl, by decide +kernel, by decide +kernel⟩
theorem d_is_never (T : Tx K mg) (D : DefF K mg "is_never" (fnd 59)) (c_pairs_of : Cal P w K mg base 3 "pairs_of" (spPairsOf K C) []) (c_less : Cal P w K mg base 1 "less" (spLess K) []) (c_let_row : Cal P w K mg base 2 "let_row" (spLetRow K) []) : Cal P w K mg base 4 "is_never" (spNever K C) [] := by
  have S := sc_is_never
  refine mkCal D S (fun _ _ _ _ _ _ us hl => match us, hl with | [_, _, _, _], _ => rfl) (fun vs H Q E h => ?_) (fun f cdv A outer s H vs Q E hr h => ?_)
  · obtain ⟨a, t, m, ns, Ls, M, z, rfl, _⟩ := h
    rfl
  obtain ⟨a, t, m, ns, Ls, M, z, rfl, c, hm, sM, lM, k⟩ := h
  -- slots: 0 things, 1 looks, 2 menu, 3 thing
  refine ⟨_, (pss_one (ps_ret (pe_cmpR op_isN (pe_ix (ix_tupK K) (pe_c c_let_row hr (by decide) rfl (pa_cons (pv 0) (pa_cons (pe_lst (pa_starK K (pe_c c_pairs_of hr (by decide) rfl (pa_cons (pv 1) pa_nil)) (pa_cons (pe_tup (pa_cons (pv 2) (pa_cons (pe_c c_less hr (by decide) rfl (pa_cons (pv 2) (pa_cons (pv 3) pa_nil))) pa_nil))) pa_nil))) pa_nil))) pe_int (fun _ _ => rfl)) pe_non (nomark _)))), ?_⟩
  refine ⟨_, rfl, _, rfl, t, Ls, rfl, c.looks, c.many, fun l hl => (c.ok l hl).few, fun H1 p s1 hp => ?_⟩
  obtain ⟨us, h3, h4⟩ := hp
  refine ⟨p, us, rfl, .inr h3, _, rfl, _, rfl, _, rfl, m, M, z, rfl, hm.same s1, by omega, fun H2 r s2 hr2 => ⟨by show 2 ≤ sizeLine; decide, fun q hq => ⟨?_, fun D1 hD => ?_⟩⟩⟩
  · have e1 := h4.1
    rw [bars_len] at e1
    have := c.many
    rw [List.length_append, List.length_singleton]
    exact len_small (by omega)
  have s3 : Same H1 (upd H2 q (.tup [V.ref m, V.ref r])) := same_upd (s2.free hq) s2
  have s4 : Same (upd H2 q (.tup [V.ref m, V.ref r])) (upd (upd H2 q (.tup [V.ref m, V.ref r])) D1 (.lst (us ++ [V.ref q]))) := same_new hD
  have s5 := (s1.trans s3).trans s4
  refine ⟨a, D1, ns, barsP Ls ++ [(M, lessP M z)], rfl, c.names.same s5, ⟨_, SqL.new upd_same, All2.snoc (h4.mono fun _ _ r => (r.kt s3.kt).kt s4.kt) ⟨q, m, r, rfl, sqT_same s4 (SqT.new upd_same), hm.same s5, (hr2.same (same_new hq)).same s4⟩⟩, c.few, ?_, fun b hb => ?_, fun H5 r5 x1 y1 s6 hr5 hx5 => ?_⟩
  · rw [List.length_append, bars_len, List.length_singleton]
    have := c.many
    omega
  · rcases List.mem_append.mp hb with z2 | z2
    · exact bars_sub c.ok b z2
    · have e : b = (M, lessP M z) := by simpa using z2
      rw [e]
      exact sM
  refine ⟨r5, _, 0, x1, rfl, rfl, hr5, rfl, rfl, ?_⟩
  show Q (V.bl (decide (x1 = V.non))) H5
  rw [non_dec hx5]
  exact k H5 (s5.trans s6)
def spSure (K : PySem.W.Frag) (C : Addr) : Sp := fun vs H Q _ => ∃ (a t m : Addr) (ns : List Str) (Ls : List (Lk Str)) (M : List Str) (z : Str), vs = [.ref a, .ref t, .ref m, .str z] ∧ Cx12 K C H a t ns Ls ∧ TT K H m M ∧ Sub M ns ∧ M.length ≤ 8 ∧ (∀ u ∈ M, PyData.strOk u = true) ∧ z ∈ M ∧ ∀ H', Same H H' → Q (.bl (decide (sureP ns Ls M z))) H'
theorem sc_is_sure : FnScope ["things", "looks", "menu", "thing", "need"] ["things", "looks", "menu", "thing"] (L2.defScope (fnd 60)) := ⟨rfl, rfl, rfl, by decide +kernel, rfl, by decide +kernel, by decide +kernel⟩
theorem d_is_sure (T : Tx K mg) (D : DefF K mg "is_sure" (fnd 60)) (c_needs_of : Cal P w K mg base 3 "needs_of" (spNeedsOf K C) []) (c_sharpened : Cal P w K mg base 4 "sharpened" (spSharpened K C) []) (c_let_row : Cal P w K mg base 2 "let_row" (spLetRow K) []) : Cal P w K mg base 5 "is_sure" (spSure K C) [] := by
  have S := sc_is_sure
  refine mkCal D S (fun _ _ _ _ _ _ us hl => match us, hl with | [_, _, _, _], _ => rfl) (fun vs H Q E h => ?_) (fun f cdv A outer s H vs Q E hr h => ?_)
  · obtain ⟨a, t, m, ns, Ls, M, z, rfl, _⟩ := h
    rfl
  obtain ⟨a, t, m, ns, Ls, M, z, rfl, c, hm, sM, lM, tM, zM, k⟩ := h
  -- slots: 0 things, 1 looks, 2 menu, 3 thing, 4 need
  refine ⟨_, (pss_cons (ps_if (pt_cmpR (op_eqDK K (hu64 hr)) (pv 2) (pe_tup (pa_cons (pv 3) pa_nil)) (nomark _)) (pss_one (ps_ret pe_bl)) pss_nil) 
    (pss_cons (ps_for PassesOwn.never rfl (pi_listK K (pe_c c_needs_of hr (by decide) rfl (pa_cons (pv 1) pa_nil))) (pg_name (i := 4) S.nd rfl (Or.inl rfl)) (pss_one (ps_if (pt_cmpR op_isN (pe_ix (ix_tupK K) (pe_c c_let_row hr (by decide) rfl (pa_cons (pv 0) (pa_cons (pe_lst (pa_starK K (pe_c c_sharpened hr (by decide) rfl (pa_cons (pv 1) (pa_cons (pv 4) pa_nil))) (pa_cons (pe_tup (pa_cons (pv 2) (pa_cons (pe_tup (pa_cons (pv 3) pa_nil)) pa_nil))) pa_nil))) pa_nil))) pe_int (fun _ _ => rfl)) pe_non (nomark _)) (pss_one (ps_ret pe_bl)) pss_nil))) (pss_one (ps_ret pe_bl)))), ?_⟩
  refine ⟨_, rfl, _, rfl, by show 1 ≤ sizeLine; decide, fun p hp => ?_⟩
  have s0 : Same H (upd H p (.tup [V.str z])) := same_new hp
  refine ⟨_, _, dp_tt (hm.same s0), dp_tt (ns := [z]) (SqT.new upd_same), (sh_txs tM).shaped (by decide), (sh_txs fun u hu => ?_).shaped (by decide), _, rfl, ?_⟩
  · have e : u = z := by simpa using hu
    rw [e]
    exact tM z zM
  rw [eqv_tt]
  refine ite2 (fun e => ?_) (fun e => ?_)
  · have e2 : M = [z] := of_decide_eq_true e
    subst e2
    have q := k _ s0
    rw [decide_eq_true (sure_one (sM z zM))] at q
    exact q
  have c0 := c.same s0
  refine ⟨_, rfl, t, ns, Ls, rfl, c0.looks, c.many, c.ok, fun H1 p1 us s1 hp1 a2 => ⟨p1, rfl, ⟨_, hp1⟩, ?_⟩⟩
  refine for_it walk_list (fun i σ H2 => ∃ v, σ = [some (.ref a), some (.ref t), some (.ref m), some (.str z), v] ∧ Same H1 H2 ∧ ∀ j W, j < i → (wantsP Ls)[j]? = some W → fixL (barsP Ls ++ W ++ [(M, [z])]) ns = []) ⟨none, rfl, Same.refl _, fun j W h => absurd h (Nat.not_lt_zero _)⟩ (fun i σ H2 _ ⟨_, _, s2, _⟩ => s2.seq hp1) ?_ ?_
  · rintro i x σ H2 H3 hi ⟨v, rfl, s2, done⟩ ⟨e0, hx⟩
    subst e0
    obtain ⟨W, hW, hN⟩ := a2.at hx
    have mW := List.mem_of_getElem? hW
    obtain ⟨w1, w2⟩ := wants_sub c.ok mW
    have c3 := c0.same (s1.trans s2)
    refine ⟨_, rfl, _, rfl, _, rfl, t, x, ns, Ls, W, rfl, c3.looks, c.many, c.ok, hN.kt s2.kt, fun H4 q s4 hq => ?_⟩
    obtain ⟨us4, h3, h4⟩ := hq
    refine ⟨q, us4, rfl, .inr h3, _, rfl, _, rfl, by show 1 ≤ sizeLine; decide, fun q1 hq1 => ⟨by show 2 ≤ sizeLine; decide, fun q2 hq2 => ⟨?_, fun D1 hD => ?_⟩⟩⟩
    · have e1 := h4.1
      rw [List.length_append, bars_len] at e1
      have := c.many
      rw [List.length_append, List.length_singleton]
      exact len_small (by omega)
    have s5 : Same H4 (upd H4 q1 (.tup [V.str z])) := same_new hq1
    have s6 : Same (upd H4 q1 (.tup [V.str z])) (upd (upd H4 q1 (.tup [V.str z])) q2 (.tup [V.ref m, V.ref q1])) := same_new hq2
    have s7 : Same (upd (upd H4 q1 (.tup [V.str z])) q2 (.tup [V.ref m, V.ref q1])) (upd (upd (upd H4 q1 (.tup [V.str z])) q2 (.tup [V.ref m, V.ref q1])) D1 (.lst (us4 ++ [V.ref q2]))) := same_new hD
    have s47 := (s5.trans s6).trans s7
    have sall := ((s0.trans (s1.trans s2)).trans s4).trans s47
    refine ⟨a, D1, ns, barsP Ls ++ W ++ [(M, [z])], rfl, (c3.names.same s4).same s47, ⟨_, SqL.new upd_same, All2.snoc (h4.mono fun _ _ r => r.kt s47.kt) ⟨q2, m, q1, rfl, sqT_same s7 (SqT.new upd_same), hm.same sall, TT.same (ns := [z]) (SqT.new upd_same) (s6.trans s7)⟩⟩, c.few, ?_, fun b hb => ?_, fun H5 r5 x1 y1 s8 hr5 hx5 => ?_⟩
    · rw [List.length_append, List.length_append, bars_len, List.length_singleton]
      have := c.many
      omega
    · rcases List.mem_append.mp hb with z2 | z2
      · rcases List.mem_append.mp z2 with z2 | z2
        · exact bars_sub c.ok b z2
        · exact w1 b z2
      · have e : b = (M, [z]) := by simpa using z2
        rw [e]
        exact sM
    refine ⟨r5, _, 0, x1, rfl, rfl, hr5, rfl, rfl, _, rfl, ?_⟩
    rw [non_dec hx5]
    refine ite2 (fun e => ?_) (fun e => ?_)
    · have e2 := of_decide_eq_true e
      have q := k H5 (sall.trans s8)
      rw [decide_eq_true (show sureP ns Ls M z from ⟨W, mW, e2⟩)] at q
      exact q
    · refine ⟨some x, rfl, ((s2.trans s4).trans s47).trans s8, fun j W' hj hW' => ?_⟩
      rcases Nat.lt_succ_iff_lt_or_eq.mp hj with z2 | z2
      · exact done j W' z2 hW'
      · subst z2
        rw [hW] at hW'
        cases hW'
        exact Classical.byContradiction fun z => e (decide_eq_true z)
  · rintro σ H2 ⟨v, rfl, s2, done⟩
    have q := k H2 ((s0.trans s1).trans s2)
    have f : ¬ sureP ns Ls M z := fun ⟨W, hW, ne⟩ => by
      obtain ⟨j, hj⟩ := List.getElem?_of_mem hW
      refine ne (done j W ?_ hj)
      have := (List.getElem?_eq_some_iff.mp hj).1
      have := a2.1
      omega
    rw [decide_eq_false f] at q
    exact q
end
end Mh
end
section
set_option Elab.async false
set_option linter.all false
set_option maxRecDepth 100000
set_option maxHeartbeats 4000000
/-! MhW8: the class Look. -/
namespace Mh
open PySem PySem.Spec PyProof.Rows L2 MhX
open C8 (Cal Mak Met pe_c pe_mk pe_mt pe_mt0 pe_gc pss_cut tCut)
/-- marks, not all of them - -/
structure MarksOk (ms : List Nat) : Prop where
  al : ∀ c ∈ ms, c = 43 ∨ c = 45 ∨ c = 63
  ex : ∃ c ∈ ms, c ≠ 45
/-- a class that its name makes -/
structure MakF (K : PySem.W.Frag) (mg : Str → Option Value) (x : Str) (C : Addr) (qual : Str) (st : Stmt) : Prop where
  ex : ∃ (f : Addr) (fd : FuncData), L2.Fun K "__init__" qual st f fd ∧ Mk K C f ∧ mg x = some (.ref C)
/-- a special method -/
structure SpcF (K : PySem.W.Frag) (C : Addr) (m qual : Str) (st : Stmt) : Prop where
  ex : ∃ (f : Addr) (fd : FuncData), L2.Fun K m qual st f fd ∧ Spc K C m f ∧ PySem.W.fnIn K f = true
structure SpcOk (P : Program) (w : World) (K : PySem.W.Frag) (mg : Str → Option Value) (base : Heap) (k : Nat) (C : Addr) (m : Str) (sp : Sp) : Prop where
  ex : ∃ (f : Addr) (fd : FuncData) (ps : List Str), Spc K C m f ∧ PySem.W.fnIn K f = true ∧ FnOk P w K mg base L2.CX0 k f fd ps sp ∧ Binds K fd ps []
section
variable {P : Program} {w : World} {K : PySem.W.Frag} {mg : Str → Option Value} {base : Heap} {C : Addr}
theorem mkMak {x qual : Str} {st : Stmt} {N ps : List Str} {k : Nat} {sp : Sp} (D : MakF K mg x C qual st) (S : FnScope N ps (defScope st)) (b : BindP st "__init__" qual ps) (len : ∀ vs H Q E, sp vs H Q E → vs.length = ps.length)
    (hbody : ∀ (f : Addr) (cdv : Value) (A : Around) (outer : List Env) (s : Shared) (H : Hp) (vs : List V) (Q : VK) (E : XK), Room k (A.deeper (envOfC qual (defScope st) s.heap.objs.size f cdv)) → sp vs H Q E →
      ∃ t, PSs (cxOf L2.CX0 P w K mg base N qual (defScope st) f cdv A outer s H E).nox (defBody st) t ∧ t { nx := fun _ H' => Q .non H', rt := Q } (start N vs) H) : Mak P w K mg base (k + 1) x C sp [] := by
  obtain ⟨f, fd, F, M, hm⟩ := D.ex
  exact ⟨f, fd, ps, [], M, F.ok S len (hbody f), hm, F.binds b, .nil⟩
theorem mkSpc {m qual : Str} {st : Stmt} {N ps : List Str} {k : Nat} {sp : Sp} (D : SpcF K C m qual st) (S : FnScope N ps (defScope st)) (b : BindP st m qual ps) (len : ∀ vs H Q E, sp vs H Q E → vs.length = ps.length)
    (hbody : ∀ (f : Addr) (cdv : Value) (A : Around) (outer : List Env) (s : Shared) (H : Hp) (vs : List V) (Q : VK) (E : XK), Room k (A.deeper (envOfC qual (defScope st) s.heap.objs.size f cdv)) → sp vs H Q E →
      ∃ t, PSs (cxOf L2.CX0 P w K mg base N qual (defScope st) f cdv A outer s H E).nox (defBody st) t ∧ t { nx := fun _ H' => Q .non H', rt := Q } (start N vs) H) : SpcOk P w K mg base (k + 1) C m sp := by
  obtain ⟨f, fd, F, S2, hf⟩ := D.ex
  exact ⟨f, fd, ps, S2, hf, F.ok S len (hbody f), F.binds b⟩
def spAreMarks : Sp := fun vs H Q _ => ∃ (ms : List Nat), vs = [.str (mk ms), .int ms.length] ∧ MarksOk ms ∧ ms.length ≤ 100 ∧ ∀ H', Same H H' → Q (.bl true) H'
theorem fm_ms {α : Type} (ms : List Nat) (f : Nat → α) : ((List.range (mk ms).cps.size).filterMap fun i => (ms[i]?).map f) = ms.map f := by
  have e : ((List.range ms.length).filterMap fun i => (ms[i]?).bind fun c => some (f c)) = ms.map f := by rw [range_fm, fm_map]
  have e1 : (fun i : Nat => (ms[i]?).map f) = fun i : Nat => (ms[i]?).bind fun c => some (f c) := by
    funext i
    cases ms[i]? <;> rfl
  rw [e1]
  have e2 : (mk ms).cps.size = ms.length := by simp
  rw [e2, e]
theorem sc_are_marks : FnScope ["value", "many", "mark"] ["value", "many"] (L2.defScope (fnd 63)) := ⟨rfl, rfl, rfl, by decide +kernel, rfl, by decide +kernel, by decide +kernel⟩
theorem d_are_marks (T : Tx K mg) (D : DefF K mg "are_marks" (fnd 63)) : Cal P w K mg base 1 "are_marks" spAreMarks [] := by
  have S := sc_are_marks
  refine mkCal D S (fun _ _ _ _ _ _ us hl => match us, hl with | [_, _], _ => rfl) (fun vs H Q E h => ?_) (fun f cdv A outer s H vs Q E hr h => ?_)
  · obtain ⟨ms, rfl, _⟩ := h
    rfl
  obtain ⟨ms, rfl, h0, hl, k⟩ := h
  have sz : (mk ms).cps.size = ms.length := by simp
  -- slots: 0 value, 1 many, 2 mark
  refine ⟨_, (pss_cons (ps_if (PW.pt (pw_or (pt_not (pt_val (pe_callB (call_isiK' K) rfl T.n.isi (by rfl) (pa_cons (pv 0) (pa_cons (pe_bltn rfl T.n.str rfl (v := V.ty "str") rfl) pa_nil))))) (pw_or1 (pt_cmpR op_ne (pe_callB call_len_str rfl T.n.len (by rfl) (pa_cons (pv 0) pa_nil)) (pv 1) (nomark _))))) (pss_one (ps_ret pe_bl)) pss_nil) (pss_one (ps_ret (pe_and (pe_callB (cr_allK K rfl) rfl T.n.all (by rfl) (pa_cons (pe_lc rfl S.nd (pi_str (pv 0)) (blkOk_by (N := ["value", "many", "mark"]) (sc := L2.defScope (fnd 63)) (own := [("mark", 2)]) (by decide +kernel)) (fun _ _ _ _ _ => (pg_name (i := 2) S.nd rfl (Or.inl rfl))) (fun _ _ _ _ _ => pts_nil) (fun _ _ _ _ _ => (pe_cmpR op_in_sign (pv 2) pe_str (by rfl)))) pa_nil)) (pe_one (pe_callB (cr_anyK K rfl) rfl T.n.any (by rfl) (pa_cons (pe_lc rfl S.nd (pi_str (pv 0)) (blkOk_by (N := ["value", "many", "mark"]) (sc := L2.defScope (fnd 63)) (own := [("mark", 2)]) (by decide +kernel)) (fun _ _ _ _ _ => (pg_name (i := 2) S.nd rfl (Or.inl rfl))) (fun _ _ _ _ _ => pts_nil) (fun _ _ _ _ _ => (pe_cmpR op_ne (pv 2) pe_str (nomark _)))) pa_nil))))))), ?_⟩
  refine ⟨_, rfl, _, _, _, _, true, rfl, .ty "str", .base (.str _), kit_ty (by decide +kernel), true, rfl, ?_⟩
  refine iteF ⟨_, rfl, mk ms, rfl, len_small (by show (mk ms).cps.size ≤ 1000; omega), _, rfl, rfl, false, ?_, ?_⟩
  · show V.bl (!decide (V.int ((mk ms).cps.size : Nat) = V.int (ms.length : Nat))) = V.bl false
    rw [sz, decide_eq_true rfl]
    rfl
  refine iteF ?_
  refine ⟨_, rfl, mk ms, rfl, fun D1 hD1 => lc_pure walk_str (fun i => (ms[i]?).map fun _ => V.bl true) hD1 (len_small (by omega)) (fun _ _ => trivial) ?_ ?_⟩
  · rintro i x H1 H2 hi s ⟨e0, c, hc, rfl⟩ R k2
    subst e0
    have hc' : ms[i]? = some c := by simpa using hc
    have q := k2 H2 (Same.refl _)
    rw [hc'] at q
    refine ⟨rfl, _, rfl, c, _, rfl, rfl, ?_⟩
    have m : c ∈ ("+-?" : Str).cps.toList := by
      rcases h0.al c (List.mem_of_getElem? hc') with e | e | e <;> (rw [e]; decide +kernel)
    rw [decide_eq_true m]
    exact q
  · intro H1 s1 e1
    rw [fm_ms] at e1
    refine ⟨D1, ms.map fun _ => true, rfl, SqL.new (by rw [e1, List.map_map]; rfl), ?_⟩
    have e : (ms.map fun _ => true).all id = true := by
      rw [List.all_eq_true]
      intro b hb
      obtain ⟨_, _, rfl⟩ := List.mem_map.mp hb
      rfl
    rw [e]
    refine ⟨true, rfl, iteT ?_⟩
    refine ⟨_, rfl, mk ms, rfl, fun D2 hD2 => lc_pure walk_str (fun i => (ms[i]?).map fun c => V.bl (!decide (c = 45))) hD2 (len_small (by omega)) (fun _ _ => trivial) ?_ ?_⟩
    · rintro i x H2 H3 hi s ⟨e0, c, hc, rfl⟩ R k2
      subst e0
      have hc' : ms[i]? = some c := by simpa using hc
      have q := k2 H3 (Same.refl _)
      rw [hc'] at q
      refine ⟨rfl, _, rfl, rfl, ?_⟩
      show R (some (V.bl (!decide (V.str ⟨#[c]⟩ = V.str ⟨#[45]⟩)))) H3
      rw [sign_eq]
      exact q
    · intro H2 s2 e2
      rw [fm_ms] at e2
      refine ⟨D2, ms.map fun c => !decide (c = 45), rfl, SqL.new (by rw [e2, List.map_map]; rfl), ?_⟩
      have e3 : (ms.map fun c => !decide (c = 45)).any id = true := by
        rw [List.any_map, List.any_eq_true]
        obtain ⟨c, hc, ne⟩ := h0.ex
        exact ⟨c, hc, by simp [ne]⟩
      rw [e3]
      exact k H2 (s1.trans s2)
def But (x : Addr) (H H' : Hp) : Prop := ∀ b o, b ≠ x → H b = some o → H' b = some o
/-- a look is made -/
def spLookInit (K : PySem.W.Frag) (C : Addr) : Sp := fun vs H Q _ => ∃ (x dx m : Addr) (M : List Str) (ms : List Nat), vs = [.ref x, .ref m, .str (mk ms)] ∧ H x = some (.ins C dx []) ∧ TT K H m M ∧ NamesOk M ∧ MarksOk ms ∧ ms.length = M.length ∧
  ∀ H', But x H H' → H' x = some (.ins C dx (fsLook m (mk ms))) → Q .non H'
theorem but_upd {x : Addr} {H : Hp} {o : HO} : But x H (upd H x o) := fun b ob n e => by
  rw [upd_ne n]
  exact e
theorem But.trans {x : Addr} {H H1 H2 : Hp} (a : But x H H1) (b : But x H1 H2) : But x H H2 := fun c o n e => b c o n (a c o n e)
theorem _root_.L2.Same.but {x : Addr} {H H' : Hp} (s : Same H H') : But x H H' := fun c o _ e => s c o e
theorem kn_menu : ¬ ("marks" : Str) = "menu" := by decide +kernel
theorem fsLook_eq (m : Addr) (z : Str) : putF "marks" (.str z) (putF "menu" (.ref m) []) = fsLook m z := by rfl
theorem sc_Look_init : FnScope ["self", "menu", "marks"] ["self", "menu", "marks"] (L2.defScope (met 65 0)) := ⟨rfl, rfl, rfl, by decide +kernel, rfl, by decide +kernel, by decide +kernel⟩
theorem k_look (T : Tx K mg) (L : LkTx K mg C) (D : MakF K mg "Look" C "Look.__init__" (met 65 0)) (c_check_names : Cal P w K mg base 3 "check_names" (spCheckNames K) []) (c_are_marks : Cal P w K mg base 1 "are_marks" spAreMarks []) : Mak P w K mg base 4 "Look" C (spLookInit K C) [] := by
  have S := sc_Look_init
  refine mkMak D S (fun _ _ _ _ _ _ us hl => match us, hl with | [_, _, _], _ => rfl) (fun vs H Q E h => ?_) (fun f cdv A outer s H vs Q E hr h => ?_)
  · obtain ⟨x, dx, m, M, ms, rfl, _⟩ := h
    rfl
  obtain ⟨x, dx, m, M, ms, rfl, hx, hm, nM, ok, hl, k⟩ := h
  have few := nM.few
  -- slots: 0 self, 1 menu, 2 marks
  refine ⟨_, (pss_cons (ps_expr (pe_c c_check_names hr (by decide) rfl (pa_cons (pv 1) pa_nil))) 
    (pss_cons (ps_if (pt_not (pt_val (pe_c c_are_marks hr (by decide) rfl (pa_cons (pv 2) (pa_cons (pe_callB (call_len_seqK K) rfl T.n.len (by rfl) (pa_cons (pv 1) pa_nil)) pa_nil))))) (pss_one ps_never) pss_nil) 
    (pss_cons (ps_fld (pv 0) (pv 1) rfl) (pss_one (ps_fld (pv 0) (pv 2) rfl))))), ?_⟩
  refine ⟨_, rfl, m, M, rfl, hm, nM, fun H1 s1 => ?_⟩
  refine ⟨_, rfl, _, rfl, m, _, rfl, .inr (hm.same s1), ms, ?_, ok, by omega, fun H2 s2 => ⟨true, rfl, iteF ?_⟩⟩
  · rw [List.length_map, hl]
    rfl
  have s12 := s1.trans s2
  have hx2 := s12 _ _ hx
  refine ⟨_, rfl, _, rfl, x, C, dx, [], rfl, hx2, L.cl, L.nM, (by show 0 < 1000; decide), _, rfl, _, rfl, x, C, dx, _, rfl, upd_same, L.cl, L.nS, (by show 1 < 1000; decide), ?_⟩
  refine k _ ((s12.but.trans but_upd).trans but_upd) ?_
  rw [upd_same, fsLook_eq]
def spLookGet (K : PySem.W.Frag) (C : Addr) : Sp := fun vs H Q _ => ∃ (v : V) (l : Lk Str) (z : Str) (i c : Nat), vs = [v, .str z] ∧ LkV K C H v l ∧ l.1[i]? = some z ∧ l.2[i]? = some c ∧ (∀ j, j < i → l.1[j]? ≠ some z) ∧ ∀ H', Same H H' → Q (.str ⟨#[c]⟩) H'
theorem sc_Look_getitem : FnScope ["self", "thing", "one", "mark"] ["self", "thing"] (L2.defScope (met 65 6)) := ⟨rfl, rfl, rfl, by decide +kernel, rfl, by decide +kernel, by decide +kernel⟩
theorem s_look_get (T : Tx K mg) (L : LkTx K mg C) (D : SpcF K C "__getitem__" "Look.__getitem__" (met 65 6)) : SpcOk P w K mg base 1 C "__getitem__" (spLookGet K C) := by
  have S := sc_Look_getitem
  refine mkSpc D S (fun _ _ _ _ _ _ us hl => match us, hl with | [_, _], _ => rfl) (fun vs H Q E h => ?_) (fun f cdv A outer s H vs Q E hr h => ?_)
  · obtain ⟨v, l, z, i, c, rfl, _⟩ := h
    rfl
  obtain ⟨v, l, z, i0, c0, rfl, ⟨a, dx, m, rfl, h1, h2⟩, hz, hc, first, k⟩ := h
  -- slots: 0 self, 1 thing, 2 one, 3 mark
  refine ⟨_, (pss_cons (ps_for PassesOwn.never rfl (pi_zipTS rfl T.n.zip (pa_cons (pe_fldK K (pv 0) rfl) (pa_cons (pe_fldK K (pv 0) rfl) pa_nil))) (pg_tupK K (n := 2) rfl (pgs_cons (pg_name (i := 2) S.nd rfl (Or.inl rfl)) (pgs_cons (pg_name (i := 3) S.nd rfl (Or.inl rfl)) pgs_nil))) (pss_one (ps_if (PW.pt (pw_and (pt_val (pe_callB (call_isiK' K) rfl T.n.isi (by rfl) (pa_cons (pv 1) (pa_cons (pe_bltn rfl T.n.str rfl (v := V.ty "str") rfl) pa_nil)))) (pw_and1 (pt_cmpR op_eq (pv 2) (pv 1) (nomark _))))) (pss_one (ps_ret (pv 3))) pss_nil))) (pss_one ps_never)), ?_⟩
  have hi1 : i0 < l.1.length := (List.getElem?_eq_some_iff.mp hz).1
  have hi2 : i0 < l.2.length := (List.getElem?_eq_some_iff.mp hc).1
  refine ⟨_, rfl, a, C, dx, _, _, rfl, h1, L.cl, L.nM, fsLook_menu _ _, _, rfl, a, C, dx, _, _, rfl, h1, L.cl, L.nS, fsLook_marks _ _, m, _, _, rfl, h2, ?_⟩
  refine for_it walk_TS (fun i σ H2 => ∃ v1 v2, σ = [some (.ref a), some (.str z), v1, v2] ∧ Same H H2 ∧ i ≤ i0) ⟨none, none, rfl, Same.refl _, Nat.zero_le _⟩ (fun i σ H2 _ ⟨_, _, _, s2, _⟩ => h2.same s2) ?_ ?_
  · rintro i x σ H2 H3 hi ⟨v1, v2, rfl, s2, le⟩ ⟨p, u, c, rfl, hp, rfl, hu, hc2⟩
    obtain ⟨t, ht, rfl⟩ := get_map hu
    have s3 : Same H2 (upd H2 p (.tup [V.str t, V.str ⟨#[c]⟩])) := same_new hp
    have hc3 : l.2[i]? = some c := by simpa using hc2
    refine ⟨p, _, rfl, SqT.new upd_same, rfl, _, _, rfl, _, _, rfl, rfl, ?_⟩
    refine ⟨_, rfl, _, _, _, _, true, rfl, .ty "str", .base (.str z), kit_ty (by decide +kernel), true, rfl, iteT ?_⟩
    refine ⟨_, rfl, _, rfl, rfl, _, rfl, ?_⟩
    refine ite2 (fun e => ?_) (fun e => ?_)
    · have e2 : t = z := V.str.inj (of_decide_eq_true e)
      subst e2
      have ei : i = i0 := by
        rcases Nat.lt_or_ge i i0 with q | q
        · exact absurd ht (first i q)
        · omega
      subst ei
      rw [hc] at hc3
      cases hc3
      exact ⟨_, rfl, k _ (s2.trans s3)⟩
    · refine ⟨_, _, rfl, s2.trans s3, ?_⟩
      have ne : t ≠ z := fun q => e (decide_eq_true (by rw [q]))
      rcases Nat.lt_or_ge i i0 with q | q
      · exact q
      · have ei : i = i0 := by omega
        subst ei
        rw [hz] at ht
        cases ht
        exact absurd rfl ne
  · rintro σ H2 ⟨v1, v2, rfl, s2, le⟩
    have sz : (mk l.2).cps.size = l.2.length := by simp
    rw [List.length_map] at le
    omega
/-- a look's text -/
def lookText (l : Lk Str) : Str := Txt.join " " ((l.1.zip l.2).map fun q => q.1 ++ (⟨#[q.2]⟩ : Str))
theorem text_small {l : Lk Str} (h8 : l.1.length ≤ 8) (ht : ∀ t ∈ l.1, t.length ≤ 8) : ((((l.1.zip l.2).map fun q => q.1 ++ (⟨#[q.2]⟩ : Str)).map (·.length)).sum + ((l.1.zip l.2).map fun q => q.1 ++ (⟨#[q.2]⟩ : Str)).length * (" " : Str).length) ≤ 16777216 := by
  have key : ∀ (L : List (Str × Nat)), (∀ q ∈ L, q.1.length ≤ 8) → ((L.map fun q => q.1 ++ (⟨#[q.2]⟩ : Str)).map (·.length)).sum ≤ 9 * L.length := by
    intro L
    induction L with
    | nil => intro _; simp
    | cons q L ih =>
      intro h
      have h1 := ih fun x hx => h x (List.mem_cons_of_mem _ hx)
      have h2 := h q List.mem_cons_self
      have h3 : (q.1 ++ (⟨#[q.2]⟩ : Str)).length = q.1.length + 1 := by
        show (q.1.cps ++ #[q.2]).size = _
        rw [Array.size_append]
        rfl
      simp only [List.map_cons, List.sum_cons, List.length_cons]
      rw [h3]
      omega
  have h1 := key (l.1.zip l.2) fun q hq => ht _ (List.of_mem_zip hq).1
  have h2 : (l.1.zip l.2).length ≤ 8 := by
    rw [List.length_zip]
    omega
  have h3 : (" " : Str).length = 1 := by rfl
  rw [List.length_map, h3]
  omega
def spLookStr (K : PySem.W.Frag) (C : Addr) : Sp := fun vs H Q _ => ∃ (v : V) (l : Lk Str), vs = [v] ∧ LkV K C H v l ∧ l.1.length ≤ 8 ∧ (∀ t ∈ l.1, t.length ≤ 8) ∧ ∀ H', Same H H' → Q (.str (lookText l)) H'
theorem sc_Look_str : FnScope ["self", "thing", "mark"] ["self"] (L2.defScope (met 65 11)) := ⟨rfl, rfl, rfl, by decide +kernel, rfl, by decide +kernel, by decide +kernel⟩
theorem s_look_str (T : Tx K mg) (L : LkTx K mg C) (D : SpcF K C "__str__" "Look.__str__" (met 65 11)) : SpcOk P w K mg base 1 C "__str__" (spLookStr K C) := by
  have S := sc_Look_str
  refine mkSpc D S (fun _ _ _ _ _ _ us hl => match us, hl with | [_], _ => rfl) (fun vs H Q E h => ?_) (fun f cdv A outer s H vs Q E hr h => ?_)
  · obtain ⟨v, l, rfl, _⟩ := h
    rfl
  obtain ⟨v, l, rfl, ⟨a, dx, m, rfl, h1, h2⟩, h8, ht8, k⟩ := h
  -- slots: 0 self, 1 thing, 2 mark
  refine ⟨_, (pss_one (ps_ret (pe_joinK K pe_str (pe_lc rfl S.nd (pi_zipTS rfl T.n.zip (pa_cons (pe_fldK K (pv 0) rfl) (pa_cons (pe_fldK K (pv 0) rfl) pa_nil))) (blkOk_by (N := ["self", "thing", "mark"]) (sc := L2.defScope (met 65 11)) (own := [("thing", 1), ("mark", 2)]) (by decide +kernel)) (fun _ _ _ _ _ => (pg_tupK K (n := 2) rfl (pgs_cons (pg_name (i := 1) S.nd rfl (Or.inl rfl)) (pgs_cons (pg_name (i := 2) S.nd rfl (Or.inl rfl)) pgs_nil)))) (fun _ _ _ _ _ => pts_nil) (fun _ _ _ _ _ => (pe_op op_add_str (pv 1) (pv 2))))))), ?_⟩
  refine ⟨⟨_, rfl⟩, _, rfl, a, C, dx, _, _, rfl, h1, L.cl, L.nM, fsLook_menu _ _, _, rfl, a, C, dx, _, _, rfl, h1, L.cl, L.nS, fsLook_marks _ _, m, _, _, rfl, h2, fun D hD => lc_pure walk_TS (fun i => ((l.1.zip l.2)[i]?).bind fun q => some (V.str (q.1 ++ (⟨#[q.2]⟩ : Str)))) hD (len_small (by rw [List.length_map]; omega)) (fun H' s => h2.same s) ?_ ?_⟩
  · rintro i x H2 H3 hi s2 ⟨p, u, c, rfl, hp, rfl, hu, hc⟩ R k2
    obtain ⟨t, ht, rfl⟩ := get_map hu
    have s3 : Same H2 (upd H2 p (.tup [V.str t, V.str ⟨#[c]⟩])) := same_new hp
    have q := k2 _ s3
    have hc2 : l.2[i]? = some c := by simpa using hc
    rw [zip_at ht hc2] at q
    refine ⟨p, _, rfl, SqT.new upd_same, rfl, _, _, rfl, _, _, rfl, rfl, rfl, ?_⟩
    refine ⟨_, rfl, _, rfl, t, ⟨#[c]⟩, rfl, rfl, len_small ?_, q⟩
    have := ht8 t (List.mem_of_getElem? ht)
    show t.length + 1 ≤ 1000
    omega
  · intro H' s2 e
    have e1 : min (l.1.map V.str).length (mk l.2).cps.size = (l.1.zip l.2).length := by simp
    rw [e1, range_fm, fm_map] at e
    refine ⟨(" " : Str), D, (l.1.zip l.2).map fun (q : Str × Nat) => q.1 ++ (⟨#[q.2]⟩ : Str), rfl, rfl, .inl (SqL.new (by rw [e, List.map_map]; rfl)), text_small h8 ht8, k H' s2⟩
end
end Mh
end
section
set_option Elab.async false
set_option linter.all false
set_option maxRecDepth 100000
set_option maxHeartbeats 4000000
/-! MhW9: the class Looks: made, fit, words. -/
namespace Mh
open PySem PySem.Spec PyProof.Rows L2 MhX
open C8 (Cal Mak Met pe_c pe_mk pe_mt pe_mt0 pe_gc pss_cut tCut)
def fsLooks (n t : Addr) : List (Str × V) := [("named", .ref n), ("seen", .ref t)]
theorem fsLooks_named (n t : Addr) : (fsLooks n t).lookup ("named" : Str) = some (.ref n) := by rfl
theorem fsLooks_seen (n t : Addr) : (fsLooks n t).lookup ("seen" : Str) = some (.ref t) := by rfl
theorem fsLooks_no (n t : Addr) {m : Str} (h1 : (m == ("named" : Str)) = false) (h2 : (m == ("seen" : Str)) = false) : (fsLooks n t).lookup m = none := by
  unfold fsLooks
  rw [List.lookup_cons, h1, List.lookup_cons, h2]
  rfl
/-- the looks Ls at the names ns stand at a -/
def LksAt (K : PySem.W.Frag) (CL C : Addr) (H : Hp) (a : Addr) (ns : List Str) (Ls : List (Lk Str)) : Prop := ∃ dx n t, H a = some (.ins CL dx (fsLooks n t)) ∧ Cx12 K C H n t ns Ls
theorem Cx12.kt {K : PySem.W.Frag} {C : Addr} {H H' : Hp} {a t : Addr} {ns : List Str} {Ls : List (Lk Str)} (c : Cx12 K C H a t ns Ls) (s : Kt H H') : Cx12 K C H' a t ns Ls := ⟨c.names.kt s, c.looks.kt s, c.few, c.many, c.ok⟩
theorem imm_looks (C dx n t : Addr) : Imm (.ins C dx (fsLooks n t)) := ⟨(fun _ e => nomatch e), (fun _ e => nomatch e), fun C' dx' h v g e => by
  injection e with _ _ e3
  injection e3 with e4 _
  injection e4 with e5 _
  exact absurd e5 (by decide +kernel)⟩
theorem LksAt.kt {K : PySem.W.Frag} {CL C : Addr} {H H' : Hp} {a : Addr} {ns : List Str} {Ls : List (Lk Str)} (c : LksAt K CL C H a ns Ls) (s : Kt H H') : LksAt K CL C H' a ns Ls := by
  obtain ⟨dx, n, t, h1, h2⟩ := c
  exact ⟨dx, n, t, s _ _ h1 (imm_looks _ _ _ _), h2.kt s⟩
structure LsTx (K : PySem.W.Frag) (mg : Str → Option Value) (CL : Addr) : Prop where
  cl : Cls K CL
  nN : NoAttr K CL "named"
  nS : NoAttr K CL "seen"
/-- the marks' table at dM -/
structure MkTx (K : PySem.W.Frag) (w : World) (mg : Str → Option Value) (dM : Addr) : Prop where
  c_MARKS : ∃ u, mg "MARKS" = some u ∧ RelV (.ref dM) u
  sure : KDct K w dM "surely" (.str "+")
  never : KDct K w dM "never" (.str "-")
  perhaps : KDct K w dM "perhaps" (.str "?")
def wordP (ns : List Str) (Ls : List (Lk Str)) (M : List Str) (t : Str) : Str := if neverP ns Ls M t then "never" else if sureP ns Ls M t then "surely" else "perhaps"
def markP (ns : List Str) (Ls : List (Lk Str)) (M : List Str) (t : Str) : Nat := if neverP ns Ls M t then 45 else if sureP ns Ls M t then 43 else 63
theorem ix_kdictK {X : Cx} (K : PySem.W.Frag) (w : World) (h : X.K = K := by rfl) (h2 : X.w = w := by rfl) : IxR X (rIxD K w) := by
  subst h h2
  exact ix_kdict
structure MakD (K : PySem.W.Frag) (mg : Str → Option Value) (CL a0 : Addr) : Prop where
  ex : ∃ (f : Addr) (fd : FuncData), FunD K "__init__" "Looks.__init__" (defArgs (met 69 0)) (defBody (met 69 0)) (defScope (met 69 0)) [.ref a0] [] f fd ∧ Mk K CL f ∧ mg "Looks" = some (.ref CL)
  nil : ∀ H, SqT K H a0 []
/-- a def with a star parameter behind self -/
structure MetR (P : Program) (w : World) (K : PySem.W.Frag) (mg : Str → Option Value) (base : Heap) (k : Nat) (C : Addr) (m : Str) (sp : Sp) : Prop where
  ex : ∃ (f : Addr), Meth K C m f ∧ FnR P w K mg base L2.CX0 k f sp
section
variable {P : Program} {w : World} {K : PySem.W.Frag} {mg : Str → Option Value} {base : Heap} {C CL a0 dM : Addr}
def spCheckLook (K : PySem.W.Frag) (C : Addr) : Sp := fun vs H Q _ => ∃ (v : V) (l : Lk Str), vs = [v] ∧ LkV K C H v l ∧ Q .non H
theorem isLook {H : Hp} {v : V} {l : Lk Str} (LI : C8.InsC K C) (h : LkV K C H v l) : TyX K H v (.ref C) := by
  obtain ⟨a, dx, m, rfl, h1, _⟩ := h
  exact .base (.ins h1 LI.cl LI.ha LI.hn LI.htk LI.hm)
theorem sc_check_look : FnScope ["look"] ["look"] (L2.defScope (fnd 67)) := ⟨rfl, rfl, rfl, by decide +kernel, rfl, by decide +kernel, by decide +kernel⟩
theorem d_check_look (T : Tx K mg) (L : LkTx K mg C) (LI : C8.InsC K C) (D : DefF K mg "check_look" (fnd 67)) : Cal P w K mg base 1 "check_look" (spCheckLook K C) [] := by
  have S := sc_check_look
  refine mkCal D S (fun _ _ _ _ _ _ us hl => match us, hl with | [_], _ => rfl) (fun vs H Q E h => ?_) (fun f cdv A outer s H vs Q E hr h => ?_)
  · obtain ⟨v, l, rfl, _⟩ := h
    rfl
  obtain ⟨v, l, rfl, hv, k⟩ := h
  -- slots: 0 look
  refine ⟨_, (pss_one (ps_if (pt_not (pt_val (pe_callB (call_isiK' K) rfl T.n.isi (by rfl) (pa_cons (pv 0) (pa_cons (pe_gc (v := V.ref C) rfl ⟨_, L.g_Look, rfl⟩) pa_nil))))) (pss_one ps_never) pss_nil)), ?_⟩
  exact ⟨_, rfl, _, _, _, _, true, rfl, .own C, isLook LI hv, LI.me, true, rfl, iteF k⟩
def spWrongLook (K : PySem.W.Frag) (C : Addr) : Sp := fun vs H Q _ => ∃ (n t : Addr) (ns : List Str) (Ls : List (Lk Str)), vs = [.ref t, .ref n] ∧ Cx12 K C H n t ns Ls ∧ Ls.length ≤ 12 ∧ ∀ H', Same H H' → Q (.int (-1)) H'
theorem sc_wrong_look : FnScope ["looks", "things", "k", "look"] ["looks", "things"] (L2.defScope (fnd 68)) := ⟨rfl, rfl, rfl, by decide +kernel, rfl, by decide +kernel, by decide +kernel⟩
theorem d_wrong_look (T : Tx K mg) (L : LkTx K mg C) (LI : C8.InsC K C) (D : DefF K mg "wrong_look" (fnd 68)) (c_is_part : Cal P w K mg base 1 "is_part" (spIsPart K) []) : Cal P w K mg base 2 "wrong_look" (spWrongLook K C) [] := by
  have S := sc_wrong_look
  refine mkCal D S (fun _ _ _ _ _ _ us hl => match us, hl with | [_, _], _ => rfl) (fun vs H Q E h => ?_) (fun f cdv A outer s H vs Q E hr h => ?_)
  · obtain ⟨n, t, ns, Ls, rfl, _⟩ := h
    rfl
  obtain ⟨n, t, ns, Ls, rfl, c, l12, k⟩ := h
  obtain ⟨us, h1, h2⟩ := c.looks
  -- slots: 0 looks, 1 things, 2 k, 3 look
  refine ⟨_, (pss_cons (ps_if (pt_not (pt_val (pe_callB (call_isiK' K) rfl T.n.isi (by rfl) (pa_cons (pv 0) (pa_cons (pe_bltn rfl T.n.tuple rfl (v := V.ty "tuple") rfl) pa_nil))))) (pss_one (ps_ret pe_non)) pss_nil) 
    (pss_cons (ps_for PassesOwn.never rfl (pi_enumT rfl T.n.enu (pa_cons (pv 0) pa_nil)) (pg_tupK K (n := 2) rfl (pgs_cons (pg_name (i := 2) S.nd rfl (Or.inl rfl)) (pgs_cons (pg_name (i := 3) S.nd rfl (Or.inl rfl)) pgs_nil))) (pss_one (ps_if (PW.pt (pw_or (pt_not (pt_val (pe_callB (call_isiK' K) rfl T.n.isi (by rfl) (pa_cons (pv 3) (pa_cons (pe_gc (v := V.ref C) rfl ⟨_, L.g_Look, rfl⟩) pa_nil))))) (pw_or (pt_cmpR op_eq (pv 2) (pe_gc rfl T.c_MOST_LOOKS) (nomark _)) (pw_or1 (pt_not (pt_val (pe_c c_is_part hr (by decide) rfl (pa_cons (pe_fldK K (pv 3) rfl) (pa_cons (pv 1) pa_nil))))))))) (pss_one (ps_ret (pv 2))) pss_nil))) (pss_one (ps_ret (pe_un un_neg pe_int))))), ?_⟩
  refine ⟨_, rfl, _, _, _, _, true, rfl, .ty "tuple", tyx_tuple h1, kit_ty (by decide +kernel), true, rfl, iteF ?_⟩
  refine ⟨_, rfl, t, _, rfl, h1, for_it walk_enumT (fun i σ H2 => ∃ v1 v2, σ = [some (.ref t), some (.ref n), v1, v2] ∧ Same H H2) ⟨none, none, rfl, Same.refl _⟩ (fun i σ H2 _ ⟨_, _, _, s2⟩ => sqT_same s2 h1) ?_ ?_⟩
  · rintro i x σ H2 H3 hi ⟨v1, v2, rfl, s2⟩ ⟨p, u, y, rfl, hp, rfl, hu, hy⟩
    cases hu
    obtain ⟨l, hl2, hv⟩ := h2.at hy
    have ml := List.mem_of_getElem? hl2
    have s3 : Same H (upd H2 p (.tup [V.int (i : Nat), y])) := same_upd (s2.free hp) s2
    have hv3 := hv.kt s3.kt
    obtain ⟨a, dx, m, rfl, g1, g2⟩ := id hv3
    refine ⟨p, _, rfl, SqT.new upd_same, rfl, _, _, rfl, _, _, rfl, rfl, ?_⟩
    refine ⟨_, rfl, _, _, _, _, true, rfl, .own C, isLook LI hv3, LI.me, true, rfl, iteF ?_⟩
    refine ⟨_, rfl, rfl, false, blF (fun e => ?_), iteF ?_⟩
    · have e3 : (i : Int) = 12 := V.int.inj e
      have := h2.1
      omega
    refine ⟨_, rfl, a, C, dx, _, _, rfl, g1, L.cl, L.nM, fsLook_menu _ _, _, rfl, m, n, l.1, ns, rfl, g2, c.names.same s3, ?_, fun H4 s4 => ⟨_, rfl, ?_⟩⟩
    · have := (c.ok l ml).few
      omega
    rw [decide_eq_true (c.ok l ml).menu.sub]
    exact iteF ⟨_, _, rfl, s3.trans s4⟩
  · rintro σ H2 ⟨v1, v2, rfl, s2⟩
    exact ⟨_, rfl, k H2 s2⟩
def spLooksInit (K : PySem.W.Frag) (C CL : Addr) : Sp := fun vs H Q _ => ∃ (x dx n t : Addr) (ns : List Str) (Ls : List (Lk Str)), vs = [.ref x, .ref n, .ref t] ∧ H x = some (.ins CL dx []) ∧ NamesOk ns ∧ Cx12 K C H n t ns Ls ∧ Ls.length ≤ 12 ∧
  ∀ H', But x H H' → H' x = some (.ins CL dx (fsLooks n t)) → Q .non H'
theorem fsLooks_eq (n t : Addr) : putF "seen" (.ref t) (putF "named" (.ref n) []) = fsLooks n t := by rfl
theorem sc_Looks_init : FnScope ["self", "things", "looks", "wrong"] ["self", "things", "looks"] (L2.defScope (met 69 0)) := ⟨rfl, rfl, rfl, by decide +kernel, rfl, by decide +kernel, by decide +kernel⟩
theorem looks_init (T : Tx K mg) (LS : LsTx K mg CL) {f : Addr} {fd : FuncData} (F : FunD K "__init__" "Looks.__init__" (defArgs (met 69 0)) (defBody (met 69 0)) (defScope (met 69 0)) [.ref a0] [] f fd) (c_check_things : Cal P w K mg base 3 "check_things" (spCheckNames K) []) (c_wrong_look : Cal P w K mg base 2 "wrong_look" (spWrongLook K C) []) :
    FnOk P w K mg base L2.CX0 4 f fd ["self", "things", "looks"] (spLooksInit K C CL) := by
  have S := sc_Looks_init
  refine F.ok S (fun vs H Q E h => ?_) (fun cdv A outer s H vs Q E hr h => ?_)
  · obtain ⟨x, dx, n, t, ns, Ls, rfl, _⟩ := h
    rfl
  obtain ⟨x, dx, n, t, ns, Ls, rfl, hx, nm, c, l12, k⟩ := h
  have key : ∃ t', PSs (cxOf L2.CX0 P w K mg base ["self", "things", "looks", "wrong"] "Looks.__init__" (defScope (met 69 0)) f cdv A outer s H E).nox (defBody (met 69 0)) t' ∧ t' { nx := fun _ H' => Q .non H', rt := Q } (start ["self", "things", "looks", "wrong"] [.ref x, .ref n, .ref t]) H := by
    -- slots: 0 self, 1 things, 2 looks, 3 wrong
    refine ⟨_, (pss_cons (ps_expr (pe_c c_check_things hr (by decide) rfl (pa_cons (pv 1) pa_nil))) 
    (pss_cons (ps_set (i := 3) S.nd rfl (Or.inl rfl) (pe_c c_wrong_look hr (by decide) rfl (pa_cons (pv 2) (pa_cons (pv 1) pa_nil)))) 
    (pss_cons (ps_if (pt_cmpR op_ne (pv 3) (pe_un un_neg pe_int) (nomark _)) (pss_one ps_never) pss_nil) 
    (pss_cons (ps_fld (pv 0) (pv 1) rfl) (pss_one (ps_fld (pv 0) (pv 2) rfl)))))), ?_⟩
    refine ⟨_, rfl, n, ns, rfl, c.names, nm, fun H1 s1 => ?_⟩
    refine ⟨_, rfl, _, rfl, n, t, ns, Ls, rfl, c.same s1, l12, fun H2 s2 => ?_⟩
    refine ⟨_, rfl, _, rfl, rfl, false, rfl, iteF ?_⟩
    have s12 := s1.trans s2
    refine ⟨_, rfl, _, rfl, x, CL, dx, [], rfl, s12 _ _ hx, LS.cl, LS.nN, (by show 0 < 1000; decide), _, rfl, _, rfl, x, CL, dx, _, rfl, upd_same, LS.cl, LS.nS, (by show 1 < 1000; decide), ?_⟩
    refine k _ ((s12.but.trans but_upd).trans but_upd) ?_
    rw [upd_same, fsLooks_eq]
  obtain ⟨t', h1, h2⟩ := key
  exact ⟨t', h1.nox, h2⟩
theorem k_Looks (T : Tx K mg) (LS : LsTx K mg CL) (D : MakD K mg CL a0) (c_check_things : Cal P w K mg base 3 "check_things" (spCheckNames K) []) (c_wrong_look : Cal P w K mg base 2 "wrong_look" (spWrongLook K C) []) :
    Mak P w K mg base 4 "Looks" CL (spLooksInit K C CL) [] ∧ Mak P w K mg base 4 "Looks" CL (spLooksInit K C CL) [.ref a0] := by
  obtain ⟨f, fd, F, M, hm⟩ := D.ex
  have G := looks_init T LS F c_check_things c_wrong_look
  obtain ⟨ds1, v1, b1⟩ := F.binds1 (ps := ["self", "things", "looks"]) 3 1 (List.cons_ne_nil _ _) rfl (fun T kV doc pm an cdv ct us its h1 h2 => match us, its, h1, h2 with | [a, b, c], [d], _, _ => ⟨_, rfl, rfl⟩)
  obtain ⟨ds2, v2, b2⟩ := F.binds1 (ps := ["self", "things", "looks"]) 2 0 (List.cons_ne_nil _ _) rfl (fun T kV doc pm an cdv ct us its h1 h2 => match us, its, h1, h2 with | [a, b], [d], _, _ => ⟨_, rfl, rfl⟩)
  cases v1
  exact ⟨⟨f, fd, _, [], M, G, hm, b1, .nil⟩, ⟨f, fd, _, ds2, M, G, hm, b2, v2⟩⟩
end
end Mh
end
section
set_option Elab.async false
set_option linter.all false
set_option maxRecDepth 100000
set_option maxHeartbeats 4000000
/-! MhW10: the class Looks: its properties and methods. -/
namespace Mh
open PySem PySem.Spec PyProof.Rows L2 MhX
open C8 (Cal Mak Met pe_c pe_mk pe_mt pe_mt0 pe_gc pss_cut tCut)
theorem erase_fm {α : Type} : ∀ (xs : List α) (i : Nat), ((List.range xs.length).filterMap fun k => (xs[k]?).bind fun v => if k = i then none else some v) = xs.eraseIdx i
  | [], i => rfl
  | x :: xs, 0 => by
    have e : ((List.range xs.length).filterMap fun k => (xs[k]?).bind fun v => some v) = xs := by
      rw [range_fm]
      have := fm_map (fun v : α => v) xs
      rw [this, List.map_id']
    rw [List.length_cons, List.range_succ_eq_map, List.filterMap_cons, List.filterMap_map, List.eraseIdx_cons_zero]
    have e2 : ((fun k => (x :: xs)[k]?.bind fun v => if k = 0 then none else some v) ∘ Nat.succ) = fun k => (xs[k]?).bind fun v => some v := by
      funext k
      simp
    rw [e2]
    simp only [List.getElem?_cons_zero, Option.bind_some, if_true]
    exact e
  | x :: xs, i + 1 => by
    have ih := erase_fm xs i
    rw [List.length_cons, List.range_succ_eq_map, List.filterMap_cons, List.filterMap_map, List.eraseIdx_cons_succ]
    have e2 : ((fun k => (x :: xs)[k]?.bind fun v => if k = i + 1 then none else some v) ∘ Nat.succ) = fun k => (xs[k]?).bind fun v => if k = i then none else some v := by
      funext k
      simp
    rw [e2, ih]
    simp
theorem All2.eraseIdx {α β : Type} {R : α → β → Prop} {xs : List α} {ys : List β} (h : All2 R xs ys) (i : Nat) : All2 R (xs.eraseIdx i) (ys.eraseIdx i) := by
  refine ⟨by rw [List.length_eraseIdx, List.length_eraseIdx, h.1], fun j a b ha hb => ?_⟩
  rw [List.getElem?_eraseIdx] at ha hb
  by_cases z : j < i
  · rw [if_pos z] at ha hb
    exact h.2 j a b ha hb
  · rw [if_neg z] at ha hb
    exact h.2 (j + 1) a b ha hb
theorem join_signs : ∀ cs : List Nat, Txt.join "" (cs.map fun c => (⟨#[c]⟩ : Str)) = mk cs := by
  intro cs
  show Builtin.Str.glued "" _ = _
  rw [StrLaws.glued_eq_join]
  induction cs with
  | nil => rfl
  | cons c cs ih =>
    cases cs with
    | nil => rfl
    | cons d ds =>
      show (⟨#[c]⟩ : Str) ++ ("" : Str) ++ Str.join "" ((d :: ds).map fun c => (⟨#[c]⟩ : Str)) = _
      rw [ih]
      show (⟨(#[c] ++ #[]) ++ (d :: ds).toArray⟩ : Str) = ⟨(c :: d :: ds).toArray⟩
      congr 1
      simp
section
variable {P : Program} {w : World} {K : PySem.W.Frag} {mg : Str → Option Value} {base : Heap} {C CL a0 dM : Addr}
def spNamed (CL : Addr) : Sp := fun vs H Q _ => ∃ (a dx n t : Addr), vs = [.ref a] ∧ H a = some (.ins CL dx (fsLooks n t)) ∧ Q (.ref n) H
def spSeen (CL : Addr) : Sp := fun vs H Q _ => ∃ (a dx n t : Addr), vs = [.ref a] ∧ H a = some (.ins CL dx (fsLooks n t)) ∧ Q (.ref t) H
theorem sc_Looks_things : FnScope ["self"] ["self"] (L2.defScope (met 69 1)) := ⟨rfl, rfl, rfl, by decide +kernel, rfl, by decide +kernel, by decide +kernel⟩
theorem p_Looks_things (T : Tx K mg) (LS : LsTx K mg CL) (D : PrpF K CL "things" "Looks.things" (met 69 1)) : Prp P w K mg base 1 CL "things" (spNamed CL) := by
  have S := sc_Looks_things
  refine mkPrp LS.cl D S (fun _ _ _ _ _ _ us hl => match us, hl with | [_], _ => rfl) (fun vs H Q E h => ?_) (fun f cdv A outer s H vs Q E hr h => ?_)
  · obtain ⟨a, dx, n, t, rfl, _⟩ := h
    rfl
  obtain ⟨a, dx, n, t, rfl, ha, k⟩ := h
  -- slots: 0 self
  refine ⟨_, (pss_one (ps_ret (pe_fldK K (pv 0) rfl))), ?_⟩
  exact ⟨_, rfl, a, CL, dx, _, _, rfl, ha, LS.cl, LS.nN, fsLooks_named _ _, k⟩
theorem sc_Looks_looks : FnScope ["self"] ["self"] (L2.defScope (met 69 2)) := ⟨rfl, rfl, rfl, by decide +kernel, rfl, by decide +kernel, by decide +kernel⟩
theorem p_Looks_looks (T : Tx K mg) (LS : LsTx K mg CL) (D : PrpF K CL "looks" "Looks.looks" (met 69 2)) : Prp P w K mg base 1 CL "looks" (spSeen CL) := by
  have S := sc_Looks_looks
  refine mkPrp LS.cl D S (fun _ _ _ _ _ _ us hl => match us, hl with | [_], _ => rfl) (fun vs H Q E h => ?_) (fun f cdv A outer s H vs Q E hr h => ?_)
  · obtain ⟨a, dx, n, t, rfl, _⟩ := h
    rfl
  obtain ⟨a, dx, n, t, rfl, ha, k⟩ := h
  -- slots: 0 self
  refine ⟨_, (pss_one (ps_ret (pe_fldK K (pv 0) rfl))), ?_⟩
  exact ⟨_, rfl, a, CL, dx, _, _, rfl, ha, LS.cl, LS.nS, fsLooks_seen _ _, k⟩
def spFit (K : PySem.W.Frag) (CL C : Addr) : Sp := fun vs H Q _ => ∃ (a : Addr) (ns : List Str) (Ls : List (Lk Str)), vs = [.ref a] ∧ LksAt K CL C H a ns Ls ∧ ∀ H', Same H H' → Q (.bl (decide (fitP ns Ls))) H'
theorem sc_Looks_fit : FnScope ["self"] ["self"] (L2.defScope (met 69 3)) := ⟨rfl, rfl, rfl, by decide +kernel, rfl, by decide +kernel, by decide +kernel⟩
theorem p_fit (T : Tx K mg) (LS : LsTx K mg CL) (D : PrpF K CL "fit" "Looks.fit" (met 69 3)) (c_are_fit : Cal P w K mg base 5 "are_fit" (spAreFit K C) []) : Prp P w K mg base 6 CL "fit" (spFit K CL C) := by
  have S := sc_Looks_fit
  refine mkPrp LS.cl D S (fun _ _ _ _ _ _ us hl => match us, hl with | [_], _ => rfl) (fun vs H Q E h => ?_) (fun f cdv A outer s H vs Q E hr h => ?_)
  · obtain ⟨a, ns, Ls, rfl, _⟩ := h
    rfl
  obtain ⟨a, ns, Ls, rfl, ⟨dx, n, t, ha, c⟩, k⟩ := h
  -- slots: 0 self
  refine ⟨_, (pss_one (ps_ret (pe_c c_are_fit hr (by decide) rfl (pa_cons (pe_fldK K (pv 0) rfl) (pa_cons (pe_fldK K (pv 0) rfl) pa_nil))))), ?_⟩
  exact ⟨_, rfl, a, CL, dx, _, _, rfl, ha, LS.cl, LS.nN, fsLooks_named _ _, _, rfl, a, CL, dx, _, _, rfl, ha, LS.cl, LS.nS, fsLooks_seen _ _, n, t, ns, Ls, rfl, c, k⟩
def spCheckFit (K : PySem.W.Frag) (CL C : Addr) : Sp := fun vs H Q _ => ∃ (a : Addr) (ns : List Str) (Ls : List (Lk Str)), vs = [.ref a] ∧ LksAt K CL C H a ns Ls ∧ fitP ns Ls ∧ ∀ H', Same H H' → Q .non H'
theorem sc_Looks_check_fit : FnScope ["self", "index"] ["self"] (L2.defScope (met 69 6)) := ⟨rfl, rfl, rfl, by decide +kernel, rfl, by decide +kernel, by decide +kernel⟩
theorem m_check_fit (T : Tx K mg) (LS : LsTx K mg CL) (D : MetF K CL "check_fit" "Looks.check_fit" (met 69 6)) (c_fit : Prp P w K mg base 6 CL "fit" (spFit K CL C)) : Met P w K mg base 8 CL "check_fit" (spCheckFit K CL C) [] := by
  have S := sc_Looks_check_fit
  refine mkMet LS.cl D S (fun _ _ _ _ _ _ us hl => match us, hl with | [_], _ => rfl) (fun vs H Q E h => ?_) (fun f cdv A outer s H vs Q E hr h => ?_)
  · obtain ⟨a, ns, Ls, rfl, _⟩ := h
    rfl
  obtain ⟨a, ns, Ls, rfl, la, ft, k⟩ := h
  obtain ⟨dx, n, t, ha, c⟩ := id la
  -- slots: 0 self, 1 index
  refine ⟨_, (pss_one (ps_if (pt_not (pt_val (pe_pr c_fit hr (by decide) (pv 0) rfl))) pss_never pss_nil)), ?_⟩
  refine ⟨_, rfl, a, dx, _, rfl, ha, a, ns, Ls, rfl, la, fun H1 s1 => ⟨_, rfl, ?_⟩⟩
  rw [decide_eq_true ft]
  exact iteF (k H1 s1)
def spWordOf (K : PySem.W.Frag) (CL C : Addr) : Sp := fun vs H Q _ => ∃ (a m : Addr) (ns : List Str) (Ls : List (Lk Str)) (M : List Str) (z : Str), vs = [.ref a, .ref m, .str z] ∧ LksAt K CL C H a ns Ls ∧ TT K H m M ∧ Sub M ns ∧ M.length ≤ 8 ∧ (∀ u ∈ M, PyData.strOk u = true) ∧ z ∈ M ∧
  ∀ H', Same H H' → Q (.str (wordP ns Ls M z)) H'
theorem sc_Looks_word_of : FnScope ["self", "menu", "thing"] ["self", "menu", "thing"] (L2.defScope (met 69 7)) := ⟨rfl, rfl, rfl, by decide +kernel, rfl, by decide +kernel, by decide +kernel⟩
theorem m_word_of (T : Tx K mg) (LS : LsTx K mg CL) (D : MetF K CL "word_of" "Looks.word_of" (met 69 7)) (c_is_never : Cal P w K mg base 4 "is_never" (spNever K C) []) (c_is_sure : Cal P w K mg base 5 "is_sure" (spSure K C) []) : Met P w K mg base 6 CL "word_of" (spWordOf K CL C) [] := by
  have S := sc_Looks_word_of
  refine mkMet LS.cl D S (fun _ _ _ _ _ _ us hl => match us, hl with | [_, _, _], _ => rfl) (fun vs H Q E h => ?_) (fun f cdv A outer s H vs Q E hr h => ?_)
  · obtain ⟨a, m, ns, Ls, M, z, rfl, _⟩ := h
    rfl
  obtain ⟨a, m, ns, Ls, M, z, rfl, ⟨dx, n, t, ha, c⟩, hm, sM, lM, tM, zM, k⟩ := h
  -- slots: 0 self, 1 menu, 2 thing
  refine ⟨_, (pss_cons (ps_if (pt_val (pe_c c_is_never hr (by decide) rfl (pa_cons (pe_fldK K (pv 0) rfl) (pa_cons (pe_fldK K (pv 0) rfl) (pa_cons (pv 1) (pa_cons (pv 2) pa_nil)))))) (pss_one (ps_ret pe_str)) pss_nil) (pss_one (ps_ret (pe_ifExp (pt_val (pe_c c_is_sure hr (by decide) rfl (pa_cons (pe_fldK K (pv 0) rfl) (pa_cons (pe_fldK K (pv 0) rfl) (pa_cons (pv 1) (pa_cons (pv 2) pa_nil)))))) pe_str pe_str)))), ?_⟩
  refine ⟨_, rfl, a, CL, dx, _, _, rfl, ha, LS.cl, LS.nN, fsLooks_named _ _, _, rfl, a, CL, dx, _, _, rfl, ha, LS.cl, LS.nS, fsLooks_seen _ _, _, rfl, _, rfl, n, t, m, ns, Ls, M, z, rfl, c, hm, sM, lM, fun H1 s1 => ⟨_, rfl, ?_⟩⟩
  refine ite2 (fun e => ?_) (fun e => ?_)
  · have e2 := of_decide_eq_true e
    have q := k H1 s1
    unfold wordP at q
    rw [if_pos e2] at q
    exact q
  have e2 : ¬ neverP ns Ls M z := fun q => e (decide_eq_true q)
  have ha1 := s1 _ _ ha
  refine ⟨_, rfl, a, CL, dx, _, _, rfl, ha1, LS.cl, LS.nN, fsLooks_named _ _, _, rfl, a, CL, dx, _, _, rfl, ha1, LS.cl, LS.nS, fsLooks_seen _ _, _, rfl, _, rfl, n, t, m, ns, Ls, M, z, rfl, c.same s1, hm.same s1, sM, lM, tM, zM, fun H2 s2 => ⟨_, rfl, ?_⟩⟩
  have q := k H2 (s1.trans s2)
  unfold wordP at q
  rw [if_neg e2] at q
  refine ite2 (fun e => ?_) (fun e => ?_)
  · rw [if_pos (of_decide_eq_true e)] at q
    exact q
  · rw [if_neg (fun z => e (decide_eq_true z))] at q
    exact q
theorem kdct_word (M : MkTx K w mg dM) (ns : List Str) (Ls : List (Lk Str)) (Mn : List Str) (z : Str) : KDct K w dM (wordP ns Ls Mn z) (.str ⟨#[markP ns Ls Mn z]⟩) := by
  unfold wordP markP
  by_cases h1 : neverP ns Ls Mn z
  · rw [if_pos h1, if_pos h1]
    exact M.never
  · rw [if_neg h1, if_neg h1]
    by_cases h2 : sureP ns Ls Mn z
    · rw [if_pos h2, if_pos h2]
      exact M.sure
    · rw [if_neg h2, if_neg h2]
      exact M.perhaps
theorem marks_ok {ns : List Str} {Ls : List (Lk Str)} {M : List Str} (h : fitP ns Ls) (hM : M ≠ []) (hs : Sub M ns) : MarksOk (M.map (markP ns Ls M)) := by
  refine ⟨fun c hc => ?_, ?_⟩
  · obtain ⟨t, _, rfl⟩ := List.mem_map.mp hc
    unfold markP
    split
    · exact .inr (.inl rfl)
    · split
      · exact .inl rfl
      · exact .inr (.inr rfl)
  · obtain ⟨t, ht, hn⟩ := not_all_never h hM hs
    refine ⟨_, List.mem_map.mpr ⟨t, ht, rfl⟩, ?_⟩
    unfold markP
    rw [if_neg hn]
    split <;> decide
theorem same_made {H H' : Hp} {x dx : Addr} {o o2 : HO} (hx : H x = none) (hdx : H dx = none) (b : But x (upd (upd H dx o) x o2) H') : Same H H' := fun c ob e => by
  refine b c ob (ne_of_none e hx) ?_
  rw [upd_ne (ne_of_none e hx), upd_ne (ne_of_none e hdx)]
  exact e
def spLook (K : PySem.W.Frag) (CL C : Addr) : Sp := fun vs H Q _ => ∃ (a m : Addr) (ns : List Str) (Ls : List (Lk Str)) (M : List Str), vs = [.ref a, .ref m] ∧ LksAt K CL C H a ns Ls ∧ fitP ns Ls ∧ TT K H m M ∧ MenuOk M ns ∧ NamesOk M ∧ (∀ u ∈ M, PyData.strOk u = true) ∧
  ∀ H' v, Same H H' → LkV K C H' v (M, M.map (markP ns Ls M)) → Q v H'
theorem sc_Looks_look : FnScope ["self", "menu", "thing"] ["self", "menu"] (L2.defScope (met 69 9)) := ⟨rfl, rfl, rfl, by decide +kernel, rfl, by decide +kernel, by decide +kernel⟩
theorem m_look (T : Tx K mg) (LS : LsTx K mg CL) (M : MkTx K w mg dM) (D : MetF K CL "look" "Looks.look" (met 69 9)) (c_check_menu : Cal P w K mg base 2 "check_menu" (spCheckMenu K) []) (m_check_fit : Met P w K mg base 8 CL "check_fit" (spCheckFit K CL C) []) (m_word_of : Met P w K mg base 6 CL "word_of" (spWordOf K CL C) []) (k_Look : Mak P w K mg base 4 "Look" C (spLookInit K C) []) : Met P w K mg base 9 CL "look" (spLook K CL C) [] := by
  have S := sc_Looks_look
  refine mkMet LS.cl D S (fun _ _ _ _ _ _ us hl => match us, hl with | [_, _], _ => rfl) (fun vs H Q E h => ?_) (fun f cdv A outer s H vs Q E hr h => ?_)
  · obtain ⟨a, m, ns, Ls, Mn, rfl, _⟩ := h
    rfl
  obtain ⟨a, m, ns, Ls, Mn, rfl, la, ft, hm, mo, no, tM, k⟩ := h
  obtain ⟨dx, n, t, ha, c⟩ := id la
  have few := no.few
  -- slots: 0 self, 1 menu, 2 thing
  refine ⟨_, (pss_cons (ps_expr (pe_c c_check_menu hr (by decide) rfl (pa_cons (pv 1) (pa_cons (pe_fldK K (pv 0) rfl) pa_nil)))) 
    (pss_cons (ps_expr (pe_mt0 m_check_fit hr (by decide) (pv 0))) (pss_one (ps_ret (pe_mk k_Look hr (by decide) rfl (pa_cons (pv 1) (pa_cons (pe_joinK K pe_str (pe_lc rfl S.nd (pi_tupK K (pv 1)) (blkOk_by (N := ["self", "menu", "thing"]) (sc := L2.defScope (met 69 9)) (own := [("thing", 2)]) (by decide +kernel)) (fun _ _ _ _ _ => (pg_name (i := 2) S.nd rfl (Or.inl rfl))) (fun _ _ _ _ _ => pts_nil) (fun _ _ _ _ _ => (pe_ix (ix_kdictK K w) (pe_gc rfl M.c_MARKS) (pe_mt m_word_of hr (by decide) (pv 0) (pa_cons (pv 1) (pa_cons (pv 2) pa_nil))) (fun _ _ => rfl))))) pa_nil))))))), ?_⟩
  refine ⟨_, rfl, _, rfl, a, CL, dx, _, _, rfl, ha, LS.cl, LS.nN, fsLooks_named _ _, m, n, Mn, ns, rfl, hm, c.names, mo, fun H1 s1 => ?_⟩
  refine ⟨_, rfl, a, dx, _, rfl, s1 _ _ ha, fsLooks_no _ _ (by decide) (by decide), a, ns, Ls, rfl, la.kt s1.kt, ft, fun H2 s2 => ?_⟩
  have s12 := s1.trans s2
  refine ⟨_, rfl, ⟨_, rfl⟩, _, rfl, m, rfl, ⟨_, hm.same s12⟩, fun D1 hD1 => lc_pure walk_tup (fun i => (Mn[i]?).bind fun z => some (V.str ⟨#[markP ns Ls Mn z]⟩)) hD1 (len_small (by rw [List.length_map]; omega)) (fun H' s => hm.same (s12.trans s)) ?_ ?_⟩
  · rintro i x H3 H4 hi s3 ⟨e0, hx⟩ R k2
    subst e0
    obtain ⟨z, hz, rfl⟩ := get_map hx
    have s13 := s12.trans s3
    have zM := List.mem_of_getElem? hz
    refine ⟨rfl, _, rfl, a, dx, _, rfl, s13 _ _ ha, fsLooks_no _ _ (by decide) (by decide), _, rfl, _, rfl, a, m, ns, Ls, Mn, z, rfl, la.kt s13.kt, hm.same s13, mo.sub, few, tM, zM, fun H5 s5 => ⟨dM, _, _, rfl, rfl, kdct_word M ns Ls Mn z, ?_⟩⟩
    have q := k2 H5 s5
    rw [hz] at q
    exact q
  · intro H3 s3 e
    rw [List.length_map, range_fm, fm_map] at e
    have s13 := s12.trans s3
    have ej : Txt.join "" (Mn.map fun z => (⟨#[markP ns Ls Mn z]⟩ : Str)) = mk (Mn.map (markP ns Ls Mn)) := by
      rw [← join_signs, List.map_map]
      rfl
    refine ⟨("" : Str), D1, Mn.map fun z => (⟨#[markP ns Ls Mn z]⟩ : Str), rfl, rfl, .inl (SqL.new (by rw [e, List.map_map]; rfl)), ?_, fun x dx2 hx hdx ne => ⟨x, dx2, m, Mn, Mn.map (markP ns Ls Mn), ?_, upd_same, hm.same (s13.trans (same_upd hx (same_new hdx))), no, marks_ok ft mo.ne mo.sub, by rw [List.length_map], fun H4 b4 h4 => ⟨rfl, ?_⟩⟩⟩
    · have e3 : ∀ L : List Str, ((L.map fun z => (⟨#[markP ns Ls Mn z]⟩ : Str)).map (·.length)).sum = L.length := by
        intro L
        induction L with
        | nil => rfl
        | cons a r ih =>
          simp only [List.map_cons, List.sum_cons, List.length_cons, ih]
          show 1 + r.length = _
          omega
      rw [e3]
      show Mn.length + _ * 0 ≤ _
      omega
    · rw [← ej]
      rfl
    · have s4 := same_made hx hdx b4
      exact k H4 _ (s13.trans s4) ⟨x, dx2, m, rfl, h4, (hm.same s13).same s4⟩
end
end Mh
end
section
set_option Elab.async false
set_option linter.all false
set_option maxRecDepth 100000
set_option maxHeartbeats 4000000
/-! MhW11: the class Looks: and_seen, without. -/
namespace Mh
open PySem PySem.Spec PyProof.Rows L2 MhX
open C8 (Cal Mak Met pe_c pe_mk pe_mt pe_mt0 pe_gc pss_cut tCut)
section
variable {P : Program} {w : World} {K : PySem.W.Frag} {mg : Str → Option Value} {base : Heap} {C CL a0 dM : Addr}
/-- one more look, one less -/
def spGrow (K : PySem.W.Frag) (CL C : Addr) (v : V) (G : List Str → List (Lk Str) → Hp → List (Lk Str) → Prop) : Sp := fun vs H Q _ => ∃ (a : Addr) (ns : List Str) (Ls Ls' : List (Lk Str)), vs = [.ref a, v] ∧ LksAt K CL C H a ns Ls ∧ NamesOk ns ∧ G ns Ls H Ls' ∧ ∀ H' b, Same H H' → LksAt K CL C H' b ns Ls' → Q (.ref b) H'
def spAndSeen0 (K : PySem.W.Frag) (CL C : Addr) : Sp := fun vs H Q _ => ∃ (a p : Addr) (v : V) (ns : List Str) (Ls : List (Lk Str)) (l : Lk Str), vs = [.ref a, .ref p] ∧ SqT K H p [v] ∧ LksAt K CL C H a ns Ls ∧ NamesOk ns ∧ LkV K C H v l ∧ LkOk ns l ∧ Ls.length < 12 ∧ ∀ H' b, Same H H' → LksAt K CL C H' b ns (Ls ++ [l]) → Q (.ref b) H'
def spAndSeen (K : PySem.W.Frag) (CL C : Addr) : Sp := fun vs H Q _ => ∃ (a : Addr) (v : V) (ns : List Str) (Ls : List (Lk Str)) (l : Lk Str), vs = [.ref a, v] ∧ LksAt K CL C H a ns Ls ∧ NamesOk ns ∧ LkV K C H v l ∧ LkOk ns l ∧ Ls.length < 12 ∧ ∀ H' b, Same H H' → LksAt K CL C H' b ns (Ls ++ [l]) → Q (.ref b) H'
theorem sc_Looks_and_seen : FnScope ["self", "more"] ["self", "more"] (L2.defScope (met 69 4)) := ⟨rfl, rfl, rfl, by decide +kernel, rfl, by decide +kernel, by decide +kernel⟩
theorem m_and_seen (T : Tx K mg) (LS : LsTx K mg CL) (D : MetF K CL "and_seen" "Looks.and_seen" (met 69 4)) (k_Looks : Mak P w K mg base 4 "Looks" CL (spLooksInit K C CL) []) : MetR P w K mg base 6 CL "and_seen" (spAndSeen K CL C) := by
  have S := sc_Looks_and_seen
  obtain ⟨f, fd, F, hm⟩ := D.ex
  obtain ⟨oc, od, kV, doc, pm, an, cdv, ct, osl, rfl, lk, hcd⟩ := F.ex
  refine ⟨f, hm, ?_⟩
  have R := StX.fn_star (P := P) (w := w) (mg := mg) (base := base) (k := 5) (N := ["self", "more"]) (ps := ["self"]) (pv := "more") (sp := spAndSeen0 K CL C) lk hcd S StX.cxUp_none (StX.bind_star1 (B := fun us => bindArgs (PySem.W.fnOf "and_seen" "Looks.and_seen" (defArgs (met 69 4)) (defBody (met 69 4)) (defScope (met 69 4)) Value.none kV doc pm an cdv ct) ⟨us, []⟩) (p1 := "self") (pv := "more") (fun _ => rfl) fun _ _ _ => rfl) fun A outer s H vs Q E hr h => by
    obtain ⟨a, p, v, ns, Ls, l, rfl, hp, ⟨dx, n, t, ha, c⟩, no, hv, lo, l12, k⟩ := h
    have key : ∃ t', PSs (cxOf L2.CX0 P w K mg base ["self", "more"] "Looks.and_seen" (defScope (met 69 4)) f cdv A outer s H E).nox (defBody (met 69 4)) t' ∧ t' { nx := fun _ H' => Q .non H', rt := Q } (start ["self", "more"] [.ref a, .ref p]) H := by
      -- slots: 0 self, 1 more
      refine ⟨_, (pss_one (ps_ret (pe_mk k_Looks hr (by decide) rfl (pa_cons (pe_fldK K (pv 0) rfl) (pa_cons (pe_tup (pa_starK K (pe_fldK K (pv 0) rfl) (pa_starK K (pv 1) pa_nil))) pa_nil))))), ?_⟩
      obtain ⟨us, h1, h2⟩ := c.looks
      have hul := h2.1
      refine ⟨_, rfl, a, CL, dx, _, _, rfl, ha, LS.cl, LS.nN, fsLooks_named _ _, _, rfl, a, CL, dx, _, _, rfl, ha, LS.cl, LS.nS, fsLooks_seen _ _, t, us, rfl, .inl h1, _, rfl, p, [v], rfl, .inl hp, ⟨?_, fun q hq => ?_⟩⟩
      · rw [List.append_nil, List.length_append, List.length_singleton]
        exact len_small (by omega)
      intro x dx2 hx hdx ne
      have s1 : Same H (upd H q (.tup (us ++ ([v] ++ [])))) := same_new hq
      have s2 : Same (upd H q (.tup (us ++ ([v] ++ [])))) (upd (upd (upd H q (.tup (us ++ ([v] ++ [])))) dx2 (.own x)) x (.ins CL dx2 [])) := same_upd hx (same_new hdx)
      have s12 := s1.trans s2
      have lkt : LkT K C (upd H q (.tup (us ++ ([v] ++ [])))) q (Ls ++ [l]) := ⟨us ++ [v], SqT.new (by rw [upd_same, List.append_nil]), All2.snoc (h2.mono fun _ _ r => r.kt s1.kt) (hv.kt s1.kt)⟩
      have cx : Cx12 K C (upd H q (.tup (us ++ ([v] ++ [])))) n q ns (Ls ++ [l]) := ⟨c.names.same s1, lkt, c.few, by rw [List.length_append, List.length_singleton]; omega, fun u hu => by
        rcases List.mem_append.mp hu with z | z
        · exact c.ok u z
        · rw [List.mem_singleton.mp z]
          exact lo⟩
      refine ⟨x, dx2, n, q, ns, Ls ++ [l], rfl, upd_same, no, cx.same s2, by rw [List.length_append, List.length_singleton]; omega, fun H4 b4 h4 => ⟨rfl, ?_⟩⟩
      have s4 := same_made hx hdx b4
      exact k H4 x (s1.trans s4) ⟨dx2, n, q, h4, cx.same s4⟩
    obtain ⟨t', h1, h2⟩ := key
    exact ⟨t', h1.nox, h2⟩
  refine R.imp fun vs H Q E h => ?_
  obtain ⟨a, v, ns, Ls, l, rfl, la, no, hv, lo, l12, k⟩ := h
  refine ⟨[.ref a], [v], rfl, rfl, by show 1 ≤ sizeLine; decide, fun p hp => ?_⟩
  have s1 : Same H (upd H p (.tup [v])) := same_new hp
  exact ⟨a, p, v, ns, Ls, l, rfl, SqT.new upd_same, la.kt s1.kt, no, hv.kt s1.kt, lo, l12, fun H' b s => k H' b (s1.trans s)⟩
def spWithout0 (K : PySem.W.Frag) (CL C : Addr) : Sp := fun vs H Q _ => ∃ (a p : Addr) (i : Nat) (ns : List Str) (Ls : List (Lk Str)), vs = [.ref a, .ref p] ∧ SqT K H p [.int i] ∧ LksAt K CL C H a ns Ls ∧ NamesOk ns ∧ i < Ls.length ∧ Ls.length ≤ 12 ∧ ∀ H' b, Same H H' → LksAt K CL C H' b ns (Ls.eraseIdx i) → Q (.ref b) H'
def spWithout (K : PySem.W.Frag) (CL C : Addr) : Sp := fun vs H Q _ => ∃ (a : Addr) (i : Nat) (ns : List Str) (Ls : List (Lk Str)), vs = [.ref a, .int i] ∧ LksAt K CL C H a ns Ls ∧ NamesOk ns ∧ i < Ls.length ∧ Ls.length ≤ 12 ∧ ∀ H' b, Same H H' → LksAt K CL C H' b ns (Ls.eraseIdx i) → Q (.ref b) H'
theorem sc_Looks_without : FnScope ["self", "indexes", "index", "k", "look"] ["self", "indexes"] (L2.defScope (met 69 5)) := ⟨rfl, rfl, rfl, by decide +kernel, rfl, by decide +kernel, by decide +kernel⟩
theorem m_without (T : Tx K mg) (LS : LsTx K mg CL) (D : MetF K CL "without" "Looks.without" (met 69 5)) (k_Looks : Mak P w K mg base 4 "Looks" CL (spLooksInit K C CL) []) (c_is_index : Cal P w K mg base 2 "is_index" spIndex []) : MetR P w K mg base 6 CL "without" (spWithout K CL C) := by
  have S := sc_Looks_without
  obtain ⟨f, fd, F, hm⟩ := D.ex
  obtain ⟨oc, od, kV, doc, pm, an, cdv, ct, osl, rfl, lk, hcd⟩ := F.ex
  refine ⟨f, hm, ?_⟩
  have R := StX.fn_star (P := P) (w := w) (mg := mg) (base := base) (k := 5) (N := ["self", "indexes", "index", "k", "look"]) (ps := ["self"]) (pv := "indexes") (sp := spWithout0 K CL C) lk hcd S StX.cxUp_none (StX.bind_star1 (B := fun us => bindArgs (PySem.W.fnOf "without" "Looks.without" (defArgs (met 69 5)) (defBody (met 69 5)) (defScope (met 69 5)) Value.none kV doc pm an cdv ct) ⟨us, []⟩) (p1 := "self") (pv := "indexes") (fun _ => rfl) fun _ _ _ => rfl) fun A outer s H vs Q E hr h => by
    obtain ⟨a, p, i0, ns, Ls, rfl, hp, ⟨dx, n, t, ha, c⟩, no, hi0, l12, k⟩ := h
    have key : ∃ t', PSs (cxOf L2.CX0 P w K mg base ["self", "indexes", "index", "k", "look"] "Looks.without" (defScope (met 69 5)) f cdv A outer s H E).nox (defBody (met 69 5)) t' ∧ t' { nx := fun _ H' => Q .non H', rt := Q } (start ["self", "indexes", "index", "k", "look"] [.ref a, .ref p]) H := by
      -- slots: 0 self, 1 indexes, 2 index, 3 k, 4 look
      refine ⟨_, (pss_cons (ps_for PassesOwn.never rfl (pi_tupK K (pv 1)) (pg_name (i := 2) S.nd rfl (Or.inl rfl)) (pss_one (ps_if (pt_not (pt_val (pe_c c_is_index hr (by decide) rfl (pa_cons (pv 2) (pa_cons (pe_callB (call_len_seqK K) rfl T.n.len (by rfl) (pa_cons (pe_fldK K (pv 0) rfl) pa_nil)) pa_nil))))) (pss_one ps_never) pss_nil))) (pss_one (ps_ret (pe_mk k_Looks hr (by decide) rfl (pa_cons (pe_fldK K (pv 0) rfl) (pa_cons (pe_callTy (call_tuple_ofK K) rfl T.n.tuple (by rfl) (pa_cons (pe_lc rfl S.nd (pi_enumT rfl T.n.enu (pa_cons (pe_fldK K (pv 0) rfl) pa_nil)) (blkOk_by (N := ["self", "indexes", "index", "k", "look"]) (sc := L2.defScope (met 69 5)) (own := [("k", 3), ("look", 4)]) (by decide +kernel)) (fun _ _ _ _ _ => (pg_tupK K (n := 2) rfl (pgs_cons (pg_name (i := 3) S.nd rfl (Or.inl rfl)) (pgs_cons (pg_name (i := 4) S.nd rfl (Or.inl rfl)) pgs_nil)))) (fun _ _ _ _ _ => (pts_one (pt_cmpR (op_notIn_seqK K) (pv 3) (pv 1) (by rfl)))) (fun _ _ _ _ _ => (pv 4))) pa_nil)) pa_nil)))))), ?_⟩
      obtain ⟨us, h1, h2⟩ := c.looks
      have hul := h2.1
      refine ⟨_, rfl, p, rfl, ⟨_, hp⟩, for_it walk_tup (fun i σ H2 => ∃ v, σ = [some (.ref a), some (.ref p), v, none, none] ∧ H2 = H) ⟨none, rfl, rfl⟩ (fun i σ H2 _ ⟨_, _, e⟩ => by rw [e]; exact hp) ?_ ?_⟩
      · rintro i x σ H2 H3 hi ⟨v, rfl, rfl⟩ ⟨e0, hx⟩
        subst e0
        have ei : i = 0 := by
          have : i < 1 := hi
          omega
        subst ei
        cases hx
        refine ⟨_, rfl, _, rfl, a, CL, dx, _, _, rfl, ha, LS.cl, LS.nS, fsLooks_seen _ _, t, us, rfl, .inr h1, i0, us.length, rfl, by omega, by omega, true, rfl, iteF ⟨_, rfl, rfl⟩⟩
      · rintro σ H2 ⟨v, rfl, rfl⟩
        refine ⟨_, rfl, a, CL, dx, _, _, rfl, ha, LS.cl, LS.nN, fsLooks_named _ _, _, rfl, a, CL, dx, _, _, rfl, ha, LS.cl, LS.nS, fsLooks_seen _ _, t, us, rfl, h1, fun D1 hD1 => lc_pure walk_enumT (fun k => (us[k]?).bind fun v => if k = i0 then none else some v) hD1 (len_small (by omega)) (fun H' s => sqT_same s h1) ?_ ?_⟩
        · rintro i x H3 H4 hi s2 ⟨q, u, y, rfl, hq, rfl, hu, hy⟩ R k2
          cases hu
          have s3 : Same H3 (upd H3 q (.tup [V.int (i : Nat), y])) := same_new hq
          have qq := k2 _ s3
          rw [show us[i]? = some y from hy] at qq
          refine ⟨q, _, rfl, SqT.new upd_same, rfl, _, _, rfl, _, _, rfl, rfl, rfl, ?_⟩
          refine ⟨_, rfl, _, rfl, p, _, rfl, .inr (sqT_same (s2.trans s3) hp), rfl, rfl, _, rfl, ?_⟩
          have ev : inV (.int (i : Nat)) [V.int (i0 : Nat)] = decide (i = i0) := by
            show ((i0 : Int) == (i : Int) || false) = _
            rw [Bool.or_false, Bool.eq_iff_iff, beq_iff_eq, decide_eq_true_iff]
            omega
          show if (!inV (.int (i : Nat)) [V.int (i0 : Nat)]) = true then _ else _
          rw [ev]
          have q2 : R (if i = i0 then none else some y) _ := qq
          by_cases e : i = i0
          · rw [if_pos e] at q2
            rw [decide_eq_true e]
            exact iteF q2
          · rw [if_neg e] at q2
            rw [decide_eq_false e]
            exact iteT ⟨_, rfl, q2⟩
        · intro H3 s3 e
          rw [erase_fm] at e
          refine ⟨D1, _, rfl, .inl ⟨SqL.new e, fun q hq => ?_⟩⟩
          intro x dx2 hx hdx ne
          have s1 : Same H2 (upd H3 q (.tup (us.eraseIdx i0))) := same_upd (s3.free hq) s3
          have s2 : Same (upd H3 q (.tup (us.eraseIdx i0))) (upd (upd (upd H3 q (.tup (us.eraseIdx i0))) dx2 (.own x)) x (.ins CL dx2 [])) := same_upd hx (same_new hdx)
          have lkt : LkT K C (upd H3 q (.tup (us.eraseIdx i0))) q (Ls.eraseIdx i0) := ⟨us.eraseIdx i0, SqT.new upd_same, (h2.mono fun _ _ r => r.kt s1.kt).eraseIdx i0⟩
          have len : (Ls.eraseIdx i0).length ≤ 12 := Nat.le_trans (List.length_eraseIdx_le _ _) l12
          have cx : Cx12 K C (upd H3 q (.tup (us.eraseIdx i0))) n q ns (Ls.eraseIdx i0) := ⟨c.names.same s1, lkt, c.few, by omega, fun u hu => c.ok u (List.mem_of_mem_eraseIdx hu)⟩
          refine ⟨x, dx2, n, q, ns, Ls.eraseIdx i0, rfl, upd_same, no, cx.same s2, len, fun H4 b4 h4 => ⟨rfl, ?_⟩⟩
          have s4 := same_made hx hdx b4
          exact k H4 x (s1.trans s4) ⟨dx2, n, q, h4, cx.same s4⟩
    obtain ⟨t', h1, h2⟩ := key
    exact ⟨t', h1.nox, h2⟩
  refine R.imp fun vs H Q E h => ?_
  obtain ⟨a, i, ns, Ls, rfl, la, no, hi, l12, k⟩ := h
  refine ⟨[.ref a], [.int i], rfl, rfl, by show 1 ≤ sizeLine; decide, fun p hp => ?_⟩
  have s1 : Same H (upd H p (.tup [.int i])) := same_new hp
  exact ⟨a, p, i, ns, Ls, rfl, SqT.new upd_same, la.kt s1.kt, no, hi, l12, fun H' b s => k H' b (s1.trans s)⟩
end
end Mh
end
section
set_option Elab.async false
set_option linter.all false
set_option maxRecDepth 100000
set_option maxHeartbeats 4000000
/-! MhW12: promises, the class Book. -/
namespace Mh
open PySem PySem.Spec PyProof.Rows L2 MhX
open C8 (Cal Mak Met pe_c pe_mk pe_mt pe_mt0 pe_gc pss_cut tCut)
structure CalX (P : Program) (w : World) (K : PySem.W.Frag) (mg : Str → Option Value) (base : Heap) (k : Nat) (x : Str) (sp : Sp) : Prop where
  ex : ∃ (f : Addr) (fd : FuncData) (ps : List Str), FnOk P w K mg base (L2.CX P w) k f fd ps sp ∧ mg x = some (.ref f) ∧ PySem.W.keepIn K (.ref f) = true ∧ Binds K fd ps []
structure MetX (P : Program) (w : World) (K : PySem.W.Frag) (mg : Str → Option Value) (base : Heap) (k : Nat) (C : Addr) (m : Str) (sp : Sp) : Prop where
  ex : ∃ (f : Addr) (fd : FuncData) (ps : List Str), Cls K C ∧ Meth K C m f ∧ FnOk P w K mg base (L2.CX P w) k f fd ps sp ∧ Binds K fd ps []
section
variable {X : Cx} {k j : Nat} {C : Addr} {x m : Str} {sp : Sp} {E : XK} {p pos apos : Pos} {e o : Expr} {es : List Expr} {ta : TE} {t : TA}
theorem pe_cX (c : CalX X.prog X.w X.K X.mg X.base k x sp) (hr : Room j X.A) (hk : k ≤ j) (hx : Passes (L2.CX X.prog X.w) X E) (hg : Gl X x) (ha : PA X (e :: es) t)
    (hdb : (x == ("__debug__" : Str)) = false := by decide) (he : starEach (e :: es) X.env = (false, eval e X.env) :: starEach es X.env := by rfl) (hpl : (backTo pos (starEach es X.env)).any (·.1) = false := by rfl) :
    PE X (.Call (.Name x p) (e :: es) [] pos) (tCall sp [] E t) := by
  obtain ⟨f, fd, ps, F, hm, kp, b⟩ := c.ex
  exact pe_call F (hr.mono hk) hg hm kp b .nil hx ha hdb he hpl
theorem pe_mtX {pl : Sem Bool} (c : MetX X.prog X.w X.K X.mg X.base k C m sp) (hr : Room j X.A) (hk : k ≤ j) (hx : Passes (L2.CX X.prog X.w) X E) (he : PE X o ta) (ha : PA X (e :: es) t)
    (hst : starEach (e :: es) X.env = (false, eval e X.env) :: starEach es X.env := by rfl) (hpl : (backTo pos (starEach es X.env)).any (·.1) = false := by rfl)
    (ht : eval (.Call (.Attribute o m apos) (e :: es) [] pos) X.env = (do
      let ov ← eval o X.env
      standAt apos.atName
      let (f, first) ← holding [ov] (getMethod ov m pl)
      callWith pos f first (backTo pos (starEach (e :: es) X.env)) (backToKw pos (keywordEach [] X.env))) := by rfl) :
    PE X (.Call (.Attribute o m apos) (e :: es) [] pos) (tMeth C m sp [] E ta t) := by
  obtain ⟨f, fd, ps, hc, hm, F, b⟩ := c.ex
  exact pe_meth (pl := pl) he hc hm F (hr.mono hk) b .nil hx ha hst hpl ht
theorem pe_mtR {pl : Sem Bool} (hc : Cls X.K C) (c : MetR X.prog X.w X.K X.mg X.base k C m sp) (hr : Room j X.A) (hk : k ≤ j) (he : PE X o ta) (ha : PA X (e :: es) t)
    (hst : starEach (e :: es) X.env = (false, eval e X.env) :: starEach es X.env := by rfl) (hpl : (backTo pos (starEach es X.env)).any (·.1) = false := by rfl)
    (ht : eval (.Call (.Attribute o m apos) (e :: es) [] pos) X.env = (do
      let ov ← eval o X.env
      standAt apos.atName
      let (f, first) ← holding [ov] (getMethod ov m pl)
      callWith pos f first (backTo pos (starEach (e :: es) X.env)) (backToKw pos (keywordEach [] X.env))) := by rfl) :
    PE X (.Call (.Attribute o m apos) (e :: es) [] pos) (tMethR C m sp L2.E0 ta t) := by
  obtain ⟨f, hm, F⟩ := c.ex
  exact pe_methR (pl := pl) he hc hm F (hr.mono hk) L2.pass0 ha hst hpl ht
end
/-! ### promises -/
abbrev Vow := Str × List Str × Str
def VwV (K : PySem.W.Frag) (H : Hp) (v : V) (q : Vow) : Prop := ∃ T m, v = .ref T ∧ SqT K H T [.str q.1, .ref m, .str q.2.2] ∧ TT K H m q.2.1
theorem VwV.kt {K : PySem.W.Frag} {H H' : Hp} {v : V} {q : Vow} (h : VwV K H v q) (e : Kt H H') : VwV K H' v q := by
  obtain ⟨T, m, h0, h1, h2⟩ := h
  exact ⟨T, m, h0, sqT_kt h1 e, h2.kt e⟩
def VwT (K : PySem.W.Frag) (H : Hp) (t : Addr) (Vs : List Vow) : Prop := ∃ vs : List V, SqT K H t vs ∧ All2 (VwV K H) vs Vs
theorem VwT.kt {K : PySem.W.Frag} {H H' : Hp} {t : Addr} {Vs : List Vow} (h : VwT K H t Vs) (e : Kt H H') : VwT K H' t Vs := by
  obtain ⟨vs, h1, h2⟩ := h
  exact ⟨vs, sqT_kt h1 e, h2.mono fun _ _ r => r.kt e⟩
structure VwOk (ns : List Str) (q : Vow) : Prop where
  menu : MenuOk q.2.1 ns
  few : q.2.1.length ≤ 8
  txt : ∀ t ∈ q.2.1, PyData.strOk t = true
  names : NamesOk q.2.1
  mem : q.2.2 ∈ q.2.1
/-- the first promise of which the word would be another one -/
def firstP (ns : List Str) (Ls : List (Lk Str)) (Vs : List Vow) : Option Nat := Vs.findIdx? fun q => !decide (wordP ns Ls q.2.1 q.2.2 = q.1)
theorem fsBook_held (h v g : Addr) : (fsBook h v g).lookup ("held" : Str) = some (.ref h) := by rfl
theorem fsBook_vows (h v g : Addr) : (fsBook h v g).lookup ("vows" : Str) = some (.ref v) := by rfl
theorem fsBook_log (h v g : Addr) : (fsBook h v g).lookup ("log" : Str) = some (.ref g) := by rfl
theorem fsBook_no (h v g : Addr) {m : Str} (h1 : (m == ("held" : Str)) = false) (h2 : (m == ("vows" : Str)) = false) (h3 : (m == ("log" : Str)) = false) : (fsBook h v g).lookup m = none := by
  unfold fsBook
  rw [List.lookup_cons, h1, List.lookup_cons, h2, List.lookup_cons, h3]
  rfl
/-- a book at b: its looks, its promises, the number of its changes -/
def BkAt (K : PySem.W.Frag) (CK CL C : Addr) (H : Hp) (b : Addr) (ns : List Str) (Ls : List (Lk Str)) (Vs : List Vow) (n : Nat) : Prop := ∃ dx h v g gs, H b = some (.ins CK dx (fsBook h v g)) ∧ LksAt K CL C H h ns Ls ∧ VwT K H v Vs ∧ SqT K H g gs ∧ gs.length = n
theorem BkAt.same {K : PySem.W.Frag} {CK CL C : Addr} {H H' : Hp} {b : Addr} {ns : List Str} {Ls : List (Lk Str)} {Vs : List Vow} {n : Nat} (h : BkAt K CK CL C H b ns Ls Vs n) (s : Same H H') : BkAt K CK CL C H' b ns Ls Vs n := by
  obtain ⟨dx, h0, v, g, gs, h1, h2, h3, h4, h5⟩ := h
  exact ⟨dx, h0, v, g, gs, s _ _ h1, h2.kt s.kt, h3.kt s.kt, sqT_same s h4, h5⟩
structure BkTx (K : PySem.W.Frag) (mg : Str → Option Value) (CK : Addr) : Prop where
  cl : Cls K CK
  nH : NoAttr K CK "held"
  nV : NoAttr K CK "vows"
  nL : NoAttr K CK "log"
section
variable {P : Program} {w : World} {K : PySem.W.Frag} {mg : Str → Option Value} {base : Heap} {C CL CK CB CC a0 dM fB fC : Addr}
theorem mkCalX {x : Str} {st : Stmt} {N ps : List Str} {k : Nat} {sp : Sp} (D : DefF K mg x st) (S : FnScope N ps (defScope st)) (b : BindP st x x ps) (len : ∀ vs H Q E, sp vs H Q E → vs.length = ps.length)
    (hbody : ∀ (f : Addr) (cdv : Value) (A : Around) (outer : List Env) (s : Shared) (H : Hp) (vs : List V) (Q : VK) (E : XK), Room k (A.deeper (envOfC x (defScope st) s.heap.objs.size f cdv)) → sp vs H Q E →
      ∃ t, PSs (cxOf (L2.CX P w) P w K mg base N x (defScope st) f cdv A outer s H E) (defBody st) t ∧ t { nx := fun _ H' => Q .non H', rt := Q } (start N vs) H) : CalX P w K mg base (k + 1) x sp := by
  obtain ⟨f, fd, F, hm⟩ := D.ex
  exact ⟨f, fd, ps, F.okX S len (hbody f), hm, F.kp, F.binds b⟩
theorem mkMetX {C : Addr} {m qual : Str} {st : Stmt} {N ps : List Str} {k : Nat} {sp : Sp} (c : Cls K C) (D : MetF K C m qual st) (S : FnScope N ps (defScope st)) (b : BindP st m qual ps) (len : ∀ vs H Q E, sp vs H Q E → vs.length = ps.length)
    (hbody : ∀ (f : Addr) (cdv : Value) (A : Around) (outer : List Env) (s : Shared) (H : Hp) (vs : List V) (Q : VK) (E : XK), Room k (A.deeper (envOfC qual (defScope st) s.heap.objs.size f cdv)) → sp vs H Q E →
      ∃ t, PSs (cxOf (L2.CX P w) P w K mg base N qual (defScope st) f cdv A outer s H E) (defBody st) t ∧ t { nx := fun _ H' => Q .non H', rt := Q } (start N vs) H) : MetX P w K mg base (k + 1) C m sp := by
  obtain ⟨f, fd, F, hm⟩ := D.ex
  exact ⟨f, fd, ps, c, hm, F.okX S len (hbody f), F.binds b⟩
def spCheckPromises (K : PySem.W.Frag) (CL C CB : Addr) : Sp := fun vs H Q E => ∃ (a t : Addr) (ns : List Str) (Ls : List (Lk Str)) (Vs : List Vow), vs = [.ref a, .ref t] ∧ LksAt K CL C H a ns Ls ∧ VwT K H t Vs ∧ (∀ q ∈ Vs, VwOk ns q) ∧ Vs.length ≤ 100 ∧
  (firstP ns Ls Vs = none → ∀ H', Same H H' → Q .non H') ∧ ∀ k, firstP ns Ls Vs = some k → ∀ H' d, Same H H' → H' d = some (.xd (ixD (.int (k : Nat)))) → E (.ref CB) (some d) H'
theorem findIdx_at {α : Type} {p : α → Bool} {xs : List α} {i : Nat} {x : α} (hx : xs[i]? = some x) (hp : p x = true) (hb : ∀ j y, j < i → xs[j]? = some y → p y = false) : xs.findIdx? p = some i := by
  rw [List.findIdx?_eq_some_iff_getElem]
  obtain ⟨h1, rfl⟩ := List.getElem?_eq_some_iff.mp hx
  refine ⟨h1, hp, fun j hj => ?_⟩
  rw [hb j xs[j] hj (List.getElem?_eq_getElem (Nat.lt_trans hj h1))]
  exact Bool.false_ne_true
theorem sc_check_promises : FnScope ["looks", "promises", "index", "word", "menu", "thing"] ["looks", "promises"] (L2.defScope (fnd 72)) := ⟨rfl, rfl, rfl, by decide +kernel, rfl, by decide +kernel, by decide +kernel⟩
theorem d_check_promises (T : Tx K mg) (LS : LsTx K mg CL) (D : DefF K mg "check_promises" (fnd 72)) (IBroken : PySem.MhE.IxT K mg "Broken" "Broken.__init__" CB fB) (m_word_of : Met P w K mg base 6 CL "word_of" (spWordOf K CL C) []) : CalX P w K mg base 7 "check_promises" (spCheckPromises K CL C CB) := by
  have S := sc_check_promises
  refine mkCalX D S (fun _ _ _ _ _ _ us hl => match us, hl with | [_, _], _ => rfl) (fun vs H Q E h => ?_) (fun f cdv A outer s H vs Q E hr h => ?_)
  · obtain ⟨a, t, ns, Ls, Vs, rfl, _⟩ := h
    rfl
  obtain ⟨a, t, ns, Ls, Vs, rfl, la, ⟨us, h1, h2⟩, ok, lV, k1, k2⟩ := h
  -- slots: 0 looks, 1 promises, 2 index, 3 word, 4 menu, 5 thing
  refine ⟨_, (pss_one (ps_for (passes_of rfl) rfl (pi_enumT rfl T.n.enu (pa_cons (pv 1) pa_nil)) (pg_tupK K (n := 2) rfl (pgs_cons (pg_name (i := 2) S.nd rfl (Or.inl rfl)) (pgs_cons (pg_tupK K (n := 3) rfl (pgs_cons (pg_name (i := 3) S.nd rfl (Or.inl rfl)) (pgs_cons (pg_name (i := 4) S.nd rfl (Or.inl rfl)) (pgs_cons (pg_name (i := 5) S.nd rfl (Or.inl rfl)) pgs_nil)))) pgs_nil))) (pss_one (ps_if (pt_cmpR op_ne (pe_mt m_word_of hr (by decide) (pv 0) (pa_cons (pv 4) (pa_cons (pv 5) pa_nil))) (pv 3) (nomark _)) (pss_one (ps_raiseIx rfl IBroken hr (takes_of rfl rfl rfl rfl) (pa_cons (pv 2) pa_nil) rfl (by decide))) pss_nil)))), ?_⟩
  refine ⟨_, rfl, t, _, rfl, h1, for_it walk_enumT (fun i σ H2 => ∃ v1 v2 v3 v4, σ = [some (.ref a), some (.ref t), v1, v2, v3, v4] ∧ Same H H2 ∧ ∀ j q, j < i → Vs[j]? = some q → wordP ns Ls q.2.1 q.2.2 = q.1) ⟨none, none, none, none, rfl, Same.refl _, fun j q h => absurd h (Nat.not_lt_zero _)⟩ (fun i σ H2 _ ⟨_, _, _, _, _, s2, _⟩ => sqT_same s2 h1) ?_ ?_⟩
  · rintro i x σ H2 H3 hi ⟨v1, v2, v3, v4, rfl, s2, done⟩ ⟨p, u, y, rfl, hp, rfl, hu, hy⟩
    cases hu
    obtain ⟨q, hq, T2, m, rfl, g1, g2⟩ := h2.at hy
    have mq := ok q (List.mem_of_getElem? hq)
    have s3 : Same H (upd H2 p (.tup [V.int (i : Nat), V.ref T2])) := same_upd (s2.free hp) s2
    refine ⟨p, _, rfl, SqT.new upd_same, rfl, _, _, rfl, _, _, rfl, ⟨T2, _, rfl, sqT_same s3 g1, rfl, _, _, rfl, _, _, rfl, _, _, rfl, rfl, rfl, ?_⟩⟩
    obtain ⟨dx, n, t2, ha, c⟩ := id la
    refine ⟨_, rfl, a, dx, _, rfl, s3 _ _ ha, fsLooks_no _ _ (by decide) (by decide), _, rfl, _, rfl, a, m, ns, Ls, q.2.1, q.2.2, rfl, la.kt s3.kt, g2.same s3, mq.menu.sub, mq.few, mq.txt, mq.mem, fun H4 s4 => ?_⟩
    refine ⟨_, rfl, rfl, _, rfl, ?_⟩
    show if (!decide (V.str (wordP ns Ls q.2.1 q.2.2) = V.str q.1)) = true then _ else _
    by_cases e : wordP ns Ls q.2.1 q.2.2 = q.1
    · have e2 : decide (V.str (wordP ns Ls q.2.1 q.2.2) = V.str q.1) = true := decide_eq_true (congrArg V.str e)
      rw [e2]
      refine iteF ⟨_, _, _, _, rfl, s3.trans s4, fun j q' hj hq' => ?_⟩
      rcases Nat.lt_succ_iff_lt_or_eq.mp hj with z | z
      · exact done j q' z hq'
      · subst z
        rw [hq] at hq'
        cases hq'
        exact e
    · have e2 : decide (V.str (wordP ns Ls q.2.1 q.2.2) = V.str q.1) = false := decide_eq_false fun z => e (V.str.inj z)
      rw [e2]
      refine iteT ⟨_, rfl, _, rfl, fun d hd => ?_⟩
      refine k2 i (findIdx_at hq ?_ fun j q' hj hq' => ?_) _ d (same_upd ((s3.trans s4).free hd) (s3.trans s4)) upd_same
      · rw [decide_eq_false e]
        rfl
      · rw [decide_eq_true (done j q' hj hq')]
        rfl
  · rintro σ H2 ⟨v1, v2, v3, v4, rfl, s2, done⟩
    refine k1 ?_ H2 s2
    unfold firstP
    rw [List.findIdx?_eq_none_iff]
    intro q hq
    obtain ⟨j, hj⟩ := List.getElem?_of_mem hq
    have lt : j < us.length := by
      rw [h2.1]
      exact (List.getElem?_eq_some_iff.mp hj).1
    rw [decide_eq_true (done j q lt hj)]
    rfl
end
end Mh
end
section
set_option Elab.async false
set_option linter.all false
set_option maxRecDepth 100000
set_option maxHeartbeats 4000000
/-! MhW13: the class Book. -/
namespace Mh
open PySem PySem.Spec PyProof.Rows L2 MhX
open C8 (Cal Mak Met pe_c pe_mk pe_mt pe_mt0 pe_gc pss_cut tCut)
section
variable {P : Program} {w : World} {K : PySem.W.Frag} {mg : Str → Option Value} {base : Heap} {C CL CK CB CC a0 dM fB fC tW : Addr}
theorem fsBook_eq (h v g : Addr) : putF "log" (.ref g) (putF "vows" (.ref v) (putF "held" (.ref h) [])) = fsBook h v g := by rfl
theorem fsBook_log' (h v g g' : Addr) : putF "log" (.ref g') (fsBook h v g) = fsBook h v g' := by rfl
theorem fsBook_held' (h v g h' : Addr) : putF "held" (.ref h') (fsBook h v g) = fsBook h' v g := by rfl
theorem fsBook_vows' (h v g v' : Addr) : putF "vows" (.ref v') (fsBook h v g) = fsBook h v' g := by rfl
def spBookInit (K : PySem.W.Frag) (CK CL C : Addr) : Sp := fun vs H Q _ => ∃ (x dx n : Addr) (ns : List Str), vs = [.ref x, .ref n] ∧ H x = some (.ins CK dx []) ∧ TT K H n ns ∧ NamesOk ns ∧ (∀ t ∈ ns, PyData.strOk t = true) ∧
  ∀ H', But x H H' → BkAt K CK CL C H' x ns [] [] 0 → Q .non H'
theorem sc_Book_init : FnScope ["self", "things"] ["self", "things"] (L2.defScope (met 73 0)) := ⟨rfl, rfl, rfl, by decide +kernel, rfl, by decide +kernel, by decide +kernel⟩
theorem k_Book (T : Tx K mg) (BT : BkTx K mg CK) (hnil : ∀ H, SqT K H a0 []) (D : MakF K mg "Book" CK "Book.__init__" (met 73 0)) (k_Looks1 : Mak P w K mg base 4 "Looks" CL (spLooksInit K C CL) [.ref a0]) : Mak P w K mg base 6 "Book" CK (spBookInit K CK CL C) [] := by
  have S := sc_Book_init
  refine mkMak D S (fun _ _ _ _ _ _ us hl => match us, hl with | [_, _], _ => rfl) (fun vs H Q E h => ?_) (fun f cdv A outer s H vs Q E hr h => ?_)
  · obtain ⟨x, dx, n, ns, rfl, _⟩ := h
    rfl
  obtain ⟨x, dx, n, ns, rfl, hx, hn, no, tx, k⟩ := h
  -- slots: 0 self, 1 things
  refine ⟨_, (pss_cons (ps_fld (pv 0) (pe_mk k_Looks1 hr (by decide) rfl (pa_cons (pv 1) pa_nil)) rfl) 
    (pss_cons (ps_fld (pv 0) (pe_tup pa_nil) rfl) (pss_one (ps_fld (pv 0) (pe_tup pa_nil) rfl)))), ?_⟩
  refine ⟨_, rfl, ?_⟩
  intro y dy hy hdy ne
  have s1 : Same H (upd (upd H dy (.own y)) y (.ins CL dy [])) := same_upd hy (same_new hdy)
  have cx : Cx12 K C (upd (upd H dy (.own y)) y (.ins CL dy [])) n a0 ns [] := ⟨hn.same s1, ⟨[], hnil _, All2.nil⟩, no.few, by decide, fun l hl => by cases hl⟩
  refine ⟨y, dy, n, a0, ns, [], rfl, upd_same, no, cx, by decide, fun H2 b2 h2 => ⟨rfl, ?_⟩⟩
  have s2 := same_made hy hdy b2
  have la : LksAt K CL C H2 y ns [] := ⟨dy, n, a0, h2, hn.same s2, ⟨[], hnil _, All2.nil⟩, no.few, by decide, fun l hl => by cases hl⟩
  refine ⟨_, rfl, x, CK, dx, [], rfl, s2 _ _ hx, BT.cl, BT.nH, (by show 0 < 1000; decide), Nat.zero_le _, fun v hv => ?_⟩
  have nxv : x ≠ v := ne_of_none upd_same hv
  refine ⟨_, rfl, x, CK, dx, _, rfl, (by rw [upd_ne nxv, upd_same]), BT.cl, BT.nV, (by show 1 < 1000; decide), Nat.zero_le _, fun g hg => ?_⟩
  have nxg : x ≠ g := ne_of_none upd_same hg
  refine ⟨_, rfl, x, CK, dx, _, rfl, (by rw [upd_ne nxg, upd_same]), BT.cl, BT.nL, (by show 2 < 1000; decide), ?_⟩
  have nvg : v ≠ g := by
    intro e
    subst e
    rw [upd_ne (Ne.symm nxv), upd_same] at hg
    cases hg
  have fv : H v = none := by
    have : upd H2 x (.ins CK dx (putF "held" (.ref y) [])) v = none := hv
    rw [upd_ne (Ne.symm nxv)] at this
    exact s2.free this
  have hv2 : H2 v = none := by
    have : upd H2 x (.ins CK dx (putF "held" (.ref y) [])) v = none := hv
    rw [upd_ne (Ne.symm nxv)] at this
    exact this
  have hg2 : H2 g = none := by
    have : upd (upd (upd H2 x (.ins CK dx (putF "held" (.ref y) []))) v (.tup [])) x _ g = none := hg
    rw [upd_ne (Ne.symm nxg), upd_ne (Ne.symm nvg), upd_ne (Ne.symm nxg)] at this
    exact this
  have fg : H g = none := s2.free hg2
  have ktx : ∀ b o, H2 b = some o → b ≠ x → (upd (upd (upd (upd (upd H2 x (.ins CK dx (putF "held" (.ref y) []))) v (.tup [])) x (.ins CK dx (putF "vows" (.ref v) (putF "held" (.ref y) [])))) g (.tup [])) x (.ins CK dx (putF "log" (.ref g) (putF "vows" (.ref v) (putF "held" (.ref y) []))))) b = some o := fun b o e nb => by
    rw [upd_ne nb, upd_ne (ne_of_none e hg2), upd_ne nb, upd_ne (ne_of_none e hv2), upd_ne nb]
    exact e
  refine k _ (fun b o nb e => ktx b o (s2 _ _ e) nb) ⟨dx, y, v, g, [], by rw [upd_same, fsBook_eq], ?_, ⟨[], SqT.new ?_, All2.nil⟩, SqT.new ?_, rfl⟩
  · have kt : ∀ b o, H2 b = some o → b ≠ x → _ := ktx
    have hx2 := s2 _ _ hx
    have la2 : LksAt K CL C _ y ns [] := ⟨dy, n, a0, ktx _ _ h2 (ne_of h2 hx2 (fun e => by
      have : fsLooks n a0 = [] := by injection e
      cases this)), ?_, ⟨[], hnil _, All2.nil⟩, no.few, by decide, fun l hl => by cases hl⟩
    · exact la2
    · rcases hn.same s2 with (q | ⟨o, q⟩) | q
      · exact .inl (.inl (ktx _ _ q (ne_of q hx2 (fun e => nomatch e))))
      · exact .inl (.inr ⟨o, ktx _ _ q (ne_of q hx2 (fun e => nomatch e))⟩)
      · exact .inr q
  · rw [upd_ne (Ne.symm nxv), upd_ne nvg, upd_ne (Ne.symm nxv), upd_same]
  · rw [upd_ne (Ne.symm nxg), upd_same]
abbrev Bk (K : PySem.W.Frag) (CK CL C : Addr) (H : Hp) (b : Addr) (F : List Str → List (Lk Str) → List Vow → Nat → Prop) : Prop := ∃ ns Ls Vs n, BkAt K CK CL C H b ns Ls Vs n ∧ F ns Ls Vs n
def spBkThings (K : PySem.W.Frag) (CK CL C : Addr) : Sp := fun vs H Q _ => ∃ b, vs = [.ref b] ∧ Bk K CK CL C H b fun ns _ _ _ => ∀ a, TT K H a ns → Q (.ref a) H
theorem sc_Book_things : FnScope ["self"] ["self"] (L2.defScope (met 73 1)) := ⟨rfl, rfl, rfl, by decide +kernel, rfl, by decide +kernel, by decide +kernel⟩
theorem p_Book_things (T : Tx K mg) (BT : BkTx K mg CK) (D : PrpF K CK "things" "Book.things" (met 73 1)) (p_things : Prp P w K mg base 1 CL "things" (spNamed CL)) : Prp P w K mg base 3 CK "things" (spBkThings K CK CL C) := by
  have S := sc_Book_things
  refine mkPrp BT.cl D S (fun _ _ _ _ _ _ us hl => match us, hl with | [_], _ => rfl) (fun vs H Q E h => ?_) (fun f cdv A outer s H vs Q E hr h => ?_)
  · obtain ⟨b, rfl, _⟩ := h
    rfl
  obtain ⟨b, rfl, ns, Ls, Vs, n, ⟨dx, h, v, g, gs, hb, ⟨dy, m, t, hh, c⟩, _⟩, k⟩ := h
  -- slots: 0 self
  refine ⟨_, (pss_one (ps_ret (pe_pr p_things hr (by decide) (pe_fldK K (pv 0) rfl) rfl))), ?_⟩
  exact ⟨_, rfl, b, CK, dx, _, _, rfl, hb, BT.cl, BT.nH, fsBook_held _ _ _, h, dy, _, rfl, hh, h, dy, m, t, rfl, hh, k m c.names⟩
def spBkLooks (K : PySem.W.Frag) (CK CL C : Addr) : Sp := fun vs H Q _ => ∃ b, vs = [.ref b] ∧ Bk K CK CL C H b fun ns Ls _ _ => ∀ a, LksAt K CL C H a ns Ls → Q (.ref a) H
theorem sc_Book_looks : FnScope ["self"] ["self"] (L2.defScope (met 73 2)) := ⟨rfl, rfl, rfl, by decide +kernel, rfl, by decide +kernel, by decide +kernel⟩
theorem p_Book_looks (T : Tx K mg) (BT : BkTx K mg CK) (D : PrpF K CK "looks" "Book.looks" (met 73 2)) : Prp P w K mg base 1 CK "looks" (spBkLooks K CK CL C) := by
  have S := sc_Book_looks
  refine mkPrp BT.cl D S (fun _ _ _ _ _ _ us hl => match us, hl with | [_], _ => rfl) (fun vs H Q E h => ?_) (fun f cdv A outer s H vs Q E hr h => ?_)
  · obtain ⟨b, rfl, _⟩ := h
    rfl
  obtain ⟨b, rfl, ns, Ls, Vs, n, ⟨dx, h, v, g, gs, hb, la, _⟩, k⟩ := h
  -- slots: 0 self
  refine ⟨_, (pss_one (ps_ret (pe_fldK K (pv 0) rfl))), ?_⟩
  exact ⟨_, rfl, b, CK, dx, _, _, rfl, hb, BT.cl, BT.nH, fsBook_held _ _ _, k h la⟩
def spBkPromises (K : PySem.W.Frag) (CK CL C : Addr) : Sp := fun vs H Q _ => ∃ b, vs = [.ref b] ∧ Bk K CK CL C H b fun _ _ Vs _ => ∀ a, VwT K H a Vs → Q (.ref a) H
theorem sc_Book_promises : FnScope ["self"] ["self"] (L2.defScope (met 73 3)) := ⟨rfl, rfl, rfl, by decide +kernel, rfl, by decide +kernel, by decide +kernel⟩
theorem p_Book_promises (T : Tx K mg) (BT : BkTx K mg CK) (D : PrpF K CK "promises" "Book.promises" (met 73 3)) : Prp P w K mg base 1 CK "promises" (spBkPromises K CK CL C) := by
  have S := sc_Book_promises
  refine mkPrp BT.cl D S (fun _ _ _ _ _ _ us hl => match us, hl with | [_], _ => rfl) (fun vs H Q E h => ?_) (fun f cdv A outer s H vs Q E hr h => ?_)
  · obtain ⟨b, rfl, _⟩ := h
    rfl
  obtain ⟨b, rfl, ns, Ls, Vs, n, ⟨dx, h, v, g, gs, hb, la, lv, _⟩, k⟩ := h
  -- slots: 0 self
  refine ⟨_, (pss_one (ps_ret (pe_fldK K (pv 0) rfl))), ?_⟩
  exact ⟨_, rfl, b, CK, dx, _, _, rfl, hb, BT.cl, BT.nV, fsBook_vows _ _ _, k v lv⟩
def spBkChanges (K : PySem.W.Frag) (CK CL C : Addr) : Sp := fun vs H Q _ => ∃ b, vs = [.ref b] ∧ Bk K CK CL C H b fun _ _ _ n => Q (.int (n : Nat)) H
theorem sc_Book_changes : FnScope ["self"] ["self"] (L2.defScope (met 73 4)) := ⟨rfl, rfl, rfl, by decide +kernel, rfl, by decide +kernel, by decide +kernel⟩
theorem p_Book_changes (T : Tx K mg) (BT : BkTx K mg CK) (D : PrpF K CK "changes" "Book.changes" (met 73 4)) : Prp P w K mg base 1 CK "changes" (spBkChanges K CK CL C) := by
  have S := sc_Book_changes
  refine mkPrp BT.cl D S (fun _ _ _ _ _ _ us hl => match us, hl with | [_], _ => rfl) (fun vs H Q E h => ?_) (fun f cdv A outer s H vs Q E hr h => ?_)
  · obtain ⟨b, rfl, _⟩ := h
    rfl
  obtain ⟨b, rfl, ns, Ls, Vs, n, ⟨dx, h, v, g, gs, hb, la, lv, lg, rfl⟩, k⟩ := h
  -- slots: 0 self
  refine ⟨_, (pss_one (ps_ret (pe_callB (call_len_seqK K) rfl T.n.len (by rfl) (pa_cons (pe_fldK K (pv 0) rfl) pa_nil)))), ?_⟩
  exact ⟨_, rfl, b, CK, dx, _, _, rfl, hb, BT.cl, BT.nL, fsBook_log _ _ _, g, gs, rfl, .inr lg, k⟩
def spBkLen (K : PySem.W.Frag) (CK CL C : Addr) : Sp := fun vs H Q _ => ∃ b, vs = [.ref b] ∧ Bk K CK CL C H b fun _ Ls _ _ => Q (.int (Ls.length : Nat)) H
theorem sc_Book_len : FnScope ["self"] ["self"] (L2.defScope (met 73 5)) := ⟨rfl, rfl, rfl, by decide +kernel, rfl, by decide +kernel, by decide +kernel⟩
theorem s_Book_len (T : Tx K mg) (BT : BkTx K mg CK) (D : SpcF K CK "__len__" "Book.__len__" (met 73 5)) (p_looks : Prp P w K mg base 1 CL "looks" (spSeen CL)) : SpcOk P w K mg base 3 CK "__len__" (spBkLen K CK CL C) := by
  have S := sc_Book_len
  refine mkSpc D S (fun _ _ _ _ _ _ us hl => match us, hl with | [_], _ => rfl) (fun vs H Q E h => ?_) (fun f cdv A outer s H vs Q E hr h => ?_)
  · obtain ⟨b, rfl, _⟩ := h
    rfl
  obtain ⟨b, rfl, ns, Ls, Vs, n, ⟨dx, h, v, g, gs, hb, ⟨dy, m, t, hh, c⟩, _⟩, k⟩ := h
  -- slots: 0 self
  refine ⟨_, (pss_one (ps_ret (pe_callB (call_len_seqK K) rfl T.n.len (by rfl) (pa_cons (pe_pr p_looks hr (by decide) (pe_fldK K (pv 0) rfl) rfl) pa_nil)))), ?_⟩
  obtain ⟨us, h1, h2⟩ := c.looks
  refine ⟨_, rfl, b, CK, dx, _, _, rfl, hb, BT.cl, BT.nH, fsBook_held _ _ _, h, dy, _, rfl, hh, h, dy, m, t, rfl, hh, t, us, rfl, .inr h1, ?_⟩
  rw [h2.1]
  exact k
def spBkBool : Sp := fun vs H Q _ => ∃ b, vs = [.ref b] ∧ Q (.bl true) H
theorem sc_Book_bool : FnScope ["self"] ["self"] (L2.defScope (met 73 6)) := ⟨rfl, rfl, rfl, by decide +kernel, rfl, by decide +kernel, by decide +kernel⟩
theorem s_Book_bool (D : SpcF K CK "__bool__" "Book.__bool__" (met 73 6)) : SpcOk P w K mg base 1 CK "__bool__" spBkBool := by
  have S := sc_Book_bool
  refine mkSpc D S (fun _ _ _ _ _ _ us hl => match us, hl with | [_], _ => rfl) (fun vs H Q E h => ?_) (fun f cdv A outer s H vs Q E hr h => ?_)
  · obtain ⟨b, rfl, _⟩ := h
    rfl
  obtain ⟨b, rfl, k⟩ := h
  -- slots: 0 self
  refine ⟨_, (pss_one (ps_ret pe_bl)), ?_⟩
  exact k
def spBkGet (K : PySem.W.Frag) (CK CL C : Addr) : Sp := fun vs H Q _ => ∃ b m M, vs = [.ref b, .ref m] ∧ Bk K CK CL C H b fun ns Ls _ _ => fitP ns Ls ∧ TT K H m M ∧ MenuOk M ns ∧ NamesOk M ∧ (∀ u ∈ M, PyData.strOk u = true) ∧
  ∀ H' v, Same H H' → LkV K C H' v (M, M.map (markP ns Ls M)) → Q v H'
theorem sc_Book_getitem : FnScope ["self", "menu"] ["self", "menu"] (L2.defScope (met 73 8)) := ⟨rfl, rfl, rfl, by decide +kernel, rfl, by decide +kernel, by decide +kernel⟩
theorem s_Book_get (T : Tx K mg) (BT : BkTx K mg CK) (D : SpcF K CK "__getitem__" "Book.__getitem__" (met 73 8)) (m_look : Met P w K mg base 9 CL "look" (spLook K CL C) []) : SpcOk P w K mg base 10 CK "__getitem__" (spBkGet K CK CL C) := by
  have S := sc_Book_getitem
  refine mkSpc D S (fun _ _ _ _ _ _ us hl => match us, hl with | [_, _], _ => rfl) (fun vs H Q E h => ?_) (fun f cdv A outer s H vs Q E hr h => ?_)
  · obtain ⟨b, m, M, rfl, _⟩ := h
    rfl
  obtain ⟨b, m, M, rfl, ns, Ls, Vs, n, ⟨dx, h, v, g, gs, hb, la, _⟩, ft, hm, mo, no, tx, k⟩ := h
  obtain ⟨dy, m2, t, hh, c⟩ := id la
  -- slots: 0 self, 1 menu
  refine ⟨_, (pss_one (ps_ret (pe_mt m_look hr (by decide) (pe_fldK K (pv 0) rfl) (pa_cons (pv 1) pa_nil)))), ?_⟩
  exact ⟨_, rfl, b, CK, dx, _, _, rfl, hb, BT.cl, BT.nH, fsBook_held _ _ _, h, dy, _, rfl, hh, fsLooks_no _ _ (by decide) (by decide), _, rfl, h, m, ns, Ls, M, rfl, la, ft, hm, mo, no, tx, k⟩
end
end Mh
end
section
set_option Elab.async false
set_option linter.all false
set_option maxRecDepth 100000
set_option maxHeartbeats 4000000
/-! MhW14: the class Book: changes. -/
namespace Mh
open PySem PySem.Spec PyProof.Rows L2 MhX
open C8 (Cal Mak Met pe_c pe_mk pe_mt pe_mt0 pe_gc pss_cut tCut)
theorem kt_but {H H' : Hp} {CK dx b h v g : Addr} (hb : H b = some (.ins CK dx (fsBook h v g))) (k : But b H H') : Kt H H' := fun c o e i => by
  by_cases q : c = b
  · subst q
    rw [hb] at e
    cases e
    exact absurd rfl (i.nb _ _ _ _ _)
  · exact k c o q e
theorem ktl_but {H H' : Hp} {b : Addr} {K : PySem.W.Frag} {CK CL C : Addr} {ns : List Str} {Ls : List (Lk Str)} {Vs : List Vow} {n : Nat} (hb : BkAt K CK CL C H b ns Ls Vs n) (k : But b H H') : Kt H H' := by
  obtain ⟨dx, h, v, g, gs, h1, _⟩ := hb
  exact kt_but h1 k
section
variable {P : Program} {w : World} {K : PySem.W.Frag} {mg : Str → Option Value} {base : Heap} {C CL CK CB CC a0 dM fB fC tW : Addr}
/-- how a change ends -/
def Ends (K : PySem.W.Frag) (CK CL C CB : Addr) (H : Hp) (Q : VK) (E : XK) (b : Addr) (ns : List Str) (Ls2 : List (Lk Str)) (Vs2 : List Vow) (n : Nat) : Prop :=
  (firstP ns Ls2 Vs2 = none → ∀ H', But b H H' → BkAt K CK CL C H' b ns Ls2 Vs2 (n + 1) → Q .non H') ∧ ∀ k, firstP ns Ls2 Vs2 = some k → ∀ H' d, Same H H' → H' d = some (.xd (ixD (.int (k : Nat)))) → E (.ref CB) (some d) H'
theorem Ends.same {H H1 : Hp} {Q : VK} {E : XK} {b : Addr} {ns : List Str} {Ls2 : List (Lk Str)} {Vs2 : List Vow} {n : Nat} (h : Ends K CK CL C CB H Q E b ns Ls2 Vs2 n) (s : Same H H1) : Ends K CK CL C CB H1 Q E b ns Ls2 Vs2 n :=
  ⟨fun e H' bt ba => h.1 e H' (s.but.trans bt) ba, fun k e H' d s2 hd => h.2 k e H' d (s.trans s2) hd⟩
def spChange (K : PySem.W.Frag) (CK CL C CB : Addr) : Sp := fun vs H Q E => ∃ (b h2 v2 : Addr) (ns : List Str) (Ls Ls2 : List (Lk Str)) (Vs Vs2 : List Vow) (n : Nat), vs = [.ref b, .ref h2, .ref v2] ∧ BkAt K CK CL C H b ns Ls Vs n ∧ LksAt K CL C H h2 ns Ls2 ∧ VwT K H v2 Vs2 ∧ (∀ q ∈ Vs2, VwOk ns q) ∧ Vs2.length ≤ 100 ∧ n ≤ 100 ∧ Ends K CK CL C CB H Q E b ns Ls2 Vs2 n
theorem sc_Book_change : FnScope ["self", "looks", "promises"] ["self", "looks", "promises"] (L2.defScope (met 73 10)) := ⟨rfl, rfl, rfl, by decide +kernel, rfl, by decide +kernel, by decide +kernel⟩
theorem m_change (T : Tx K mg) (BT : BkTx K mg CK) (D : MetF K CK "change" "Book.change" (met 73 10)) (c_check_promises : CalX P w K mg base 7 "check_promises" (spCheckPromises K CL C CB)) : MetX P w K mg base 8 CK "change" (spChange K CK CL C CB) := by
  have S := sc_Book_change
  refine mkMetX BT.cl D S (fun _ _ _ _ _ _ us hl => match us, hl with | [_, _, _], _ => rfl) (fun vs H Q E h => ?_) (fun f cdv A outer s H vs Q E hr h => ?_)
  · obtain ⟨b, h2, v2, ns, Ls, Ls2, Vs, Vs2, n, rfl, _⟩ := h
    rfl
  obtain ⟨b, h2, v2, ns, Ls, Ls2, Vs, Vs2, n, rfl, ⟨dx, h, v, g, gs, hb, la, lv, lg, rfl⟩, la2, lv2, ok, l100, n100, k1, k2⟩ := h
  -- slots: 0 self, 1 looks, 2 promises
  refine ⟨_, (pss_cons (ps_expr (pe_cX c_check_promises hr (by decide) (passes_call (E := E) (takes_of rfl rfl rfl rfl) fun _ _ _ _ h => h) rfl (pa_cons (pv 1) (pa_cons (pv 2) pa_nil)))) 
    (pss_cons (ps_fld (pv 0) (pe_tup (pa_starK K (pe_fldK K (pv 0) rfl) (pa_cons (pe_tup (pa_cons (pe_fldK K (pv 0) rfl) (pa_cons (pe_fldK K (pv 0) rfl) pa_nil))) pa_nil))) rfl) (pss_one (ps_asg (pe_tup (pa_cons (pv 1) (pa_cons (pv 2) pa_nil))) (pg_tupK K (n := 2) rfl (pgs_cons (pg_fld (pv 0)) (pgs_cons (pg_fld (pv 0)) pgs_nil))))))), ?_⟩
  refine ⟨_, rfl, _, rfl, h2, v2, ns, Ls2, Vs2, rfl, la2, lv2, ok, l100, fun e H1 s1 => ?_, fun k e H1 d s1 hd => k2 k e H1 d s1 hd⟩
  have hb1 := s1 _ _ hb
  refine ⟨_, rfl, b, CK, dx, _, _, rfl, hb1, BT.cl, BT.nL, fsBook_log _ _ _, g, gs, rfl, .inl (sqT_same s1 lg), _, rfl, b, CK, dx, _, _, rfl, hb1, BT.cl, BT.nH, fsBook_held _ _ _, _, rfl, b, CK, dx, _, _, rfl, hb1, BT.cl, BT.nV, fsBook_vows _ _ _, by show 2 ≤ sizeLine; decide, fun q hq => ⟨?_, fun r hr2 => ?_⟩⟩
  · rw [List.length_append, List.length_singleton]
    exact len_small (by omega)
  have s2 : Same H1 (upd (upd H1 q (.tup [V.ref h, V.ref v])) r (.tup (gs ++ [V.ref q]))) := same_upd (by
    have : upd H1 q (.tup [V.ref h, V.ref v]) r = none := hr2
    cases e2 : H1 r with
    | none => rfl
    | some o =>
      rw [same_new hq _ _ e2] at this
      cases this) (same_new hq)
  have hb2 := s2 _ _ hb1
  have nbr : b ≠ r := fun e2 => by
    rw [← e2] at hr2
    rw [same_new hq _ _ hb1] at hr2
    cases hr2
  refine ⟨_, rfl, b, CK, dx, _, rfl, hb2, BT.cl, BT.nL, (by show 3 < 1000; decide), ?_⟩
  rw [fsBook_log']
  refine ⟨_, rfl, _, rfl, by show 2 ≤ sizeLine; decide, fun t ht => ?_⟩
  have nbt : b ≠ t := ne_of_none upd_same ht
  refine ⟨t, _, rfl, SqT.new upd_same, rfl, _, _, rfl, ⟨_, rfl, b, CK, dx, _, rfl, by rw [upd_ne nbt, upd_same], BT.cl, BT.nH, (by show 3 < 1000; decide), ?_⟩⟩
  rw [fsBook_held']
  refine ⟨_, _, rfl, ⟨_, rfl, b, CK, dx, _, rfl, upd_same, BT.cl, BT.nV, (by show 3 < 1000; decide), ?_⟩⟩
  rw [fsBook_vows']
  refine ⟨rfl, ?_⟩
  have bt : But b H1 (upd (upd (upd (upd (upd (upd H1 q (.tup [V.ref h, V.ref v])) r (.tup (gs ++ [V.ref q]))) b (.ins CK dx (fsBook h v r))) t (.tup [V.ref h2, V.ref v2])) b (.ins CK dx (fsBook h2 v r))) b (.ins CK dx (fsBook h2 v2 r))) := fun c o nb e2 => by
    have hct : c ≠ t := by
      refine ne_of_none (H := upd (upd (upd H1 q (.tup [V.ref h, V.ref v])) r (.tup (gs ++ [V.ref q]))) b (.ins CK dx (fsBook h v r))) (o := o) ?_ ht
      rw [upd_ne nb]
      exact s2 _ _ e2
    rw [upd_ne nb, upd_ne nb, upd_ne hct, upd_ne nb]
    exact s2 _ _ e2
  have kt := kt_but hb1 bt
  have ktH := s1.kt.trans kt
  refine k1 e _ (s1.but.trans bt) ⟨dx, h2, v2, r, gs ++ [V.ref q], upd_same, la2.kt ktH, lv2.kt ktH, SqT.new ?_, by rw [List.length_append, List.length_singleton]⟩
  have nrt : r ≠ t := by
    refine ne_of_none (H := upd (upd (upd H1 q (.tup [V.ref h, V.ref v])) r (.tup (gs ++ [V.ref q]))) b (.ins CK dx (fsBook h v r))) (o := .tup (gs ++ [V.ref q])) ?_ ht
    rw [upd_ne (Ne.symm nbr), upd_same]
  rw [upd_ne (Ne.symm nbr), upd_ne (Ne.symm nbr), upd_ne nrt, upd_ne (Ne.symm nbr), upd_same]
/-- a look put in -/
def spPut (K : PySem.W.Frag) (CK CL C CB CC : Addr) : Sp := fun vs H Q E => ∃ (b : Addr) (v : V) (ns : List Str) (Ls : List (Lk Str)) (Vs : List Vow) (n : Nat) (l : Lk Str), vs = [.ref b, v] ∧ BkAt K CK CL C H b ns Ls Vs n ∧ NamesOk ns ∧ LkV K C H v l ∧ LkOk ns l ∧ Ls.length < 12 ∧ (∀ q ∈ Vs, VwOk ns q) ∧ Vs.length ≤ 100 ∧ n ≤ 100 ∧
  (fitP ns (Ls ++ [l]) → Ends K CK CL C CB H Q E b ns (Ls ++ [l]) Vs n) ∧ (¬ fitP ns (Ls ++ [l]) → ∀ H' d, Same H H' → H' d = some (.xd (ixD (.int (Ls.length : Nat)))) → E (.ref CC) (some d) H')
theorem sc_Book_put : FnScope ["self", "look", "later"] ["self", "look"] (L2.defScope (met 73 11)) := ⟨rfl, rfl, rfl, by decide +kernel, rfl, by decide +kernel, by decide +kernel⟩
theorem m_put (T : Tx K mg) (LS : LsTx K mg CL) (BT : BkTx K mg CK) (D : MetF K CK "put" "Book.put" (met 73 11)) (IClash : PySem.MhE.IxT K mg "Clash" "Clash.__init__" CC fC) (p_looks : Prp P w K mg base 1 CL "looks" (spSeen CL)) (p_fit : Prp P w K mg base 6 CL "fit" (spFit K CL C)) (m_and_seen : MetR P w K mg base 6 CL "and_seen" (spAndSeen K CL C)) (m_change : MetX P w K mg base 8 CK "change" (spChange K CK CL C CB)) : MetX P w K mg base 9 CK "put" (spPut K CK CL C CB CC) := by
  have S := sc_Book_put
  refine mkMetX BT.cl D S (fun _ _ _ _ _ _ us hl => match us, hl with | [_, _], _ => rfl) (fun vs H Q E h => ?_) (fun f cdv A outer s H vs Q E hr h => ?_)
  · obtain ⟨b, v, ns, Ls, Vs, n, l, rfl, _⟩ := h
    rfl
  obtain ⟨b, v, ns, Ls, Vs, n, l, rfl, ba, no, hv, lo, l12, ok, l100, n100, k1, k2⟩ := h
  obtain ⟨dx, h, vv, g, gs, hb, la, lv, lg, en⟩ := id ba
  obtain ⟨dy, m, t, hh, c⟩ := id la
  obtain ⟨us, h1, h2⟩ := c.looks
  -- slots: 0 self, 1 look, 2 later
  refine ⟨_, (pss_cons (ps_if (pt_cmpR op_eq (pe_callB (call_len_seqK K) rfl T.n.len (by rfl) (pa_cons (pe_pr p_looks hr (by decide) (pe_fldK K (pv 0) rfl) rfl) pa_nil)) (pe_gc rfl T.c_MOST_LOOKS) (nomark _)) (pss_one ps_never) pss_nil) 
    (pss_cons (ps_set (i := 2) S.nd rfl (Or.inl rfl) (pe_mtR LS.cl m_and_seen hr (by decide) (pe_fldK K (pv 0) rfl) (pa_cons (pv 1) pa_nil))) 
    (pss_cons (ps_if (pt_not (pt_val (pe_pr p_fit hr (by decide) (pv 2) rfl))) (pss_one (ps_raiseIx rfl IClash hr (takes_of rfl rfl rfl rfl) (pa_cons (pe_callB (call_len_seqK K) rfl T.n.len (by rfl) (pa_cons (pe_pr p_looks hr (by decide) (pe_fldK K (pv 0) rfl) rfl) pa_nil)) pa_nil) rfl (by decide))) pss_nil) (pss_one (ps_expr (pe_mtX m_change hr (by decide) (passes_call (E := E) (takes_of rfl rfl rfl rfl) fun _ _ _ _ h => h) (pv 0) (pa_cons (pv 2) (pa_cons (pe_fldK K (pv 0) rfl) pa_nil)))))))), ?_⟩
  refine ⟨_, rfl, b, CK, dx, _, _, rfl, hb, BT.cl, BT.nH, fsBook_held _ _ _, h, dy, _, rfl, hh, h, dy, m, t, rfl, hh, t, us, rfl, .inr h1, rfl, false, blF (fun e => ?_), iteF ?_⟩
  · have e3 : (us.length : Int) = 12 := V.int.inj e
    have := h2.1
    omega
  refine ⟨_, rfl, b, CK, dx, _, _, rfl, hb, BT.cl, BT.nH, fsBook_held _ _ _, h, dy, _, rfl, hh, fsLooks_no _ _ (by decide) (by decide), _, rfl, h, v, ns, Ls, l, rfl, la, no, hv, lo, l12, fun H1 h3 s1 la1 => ?_⟩
  obtain ⟨dz, m3, t3, hh3, c3⟩ := id la1
  refine ⟨_, rfl, h3, dz, _, rfl, hh3, h3, ns, Ls ++ [l], rfl, la1, fun H2 s2 => ⟨_, rfl, ?_⟩⟩
  have s12 := s1.trans s2
  have hb2 := s12 _ _ hb
  have hh2 := s12 _ _ hh
  by_cases ft : fitP ns (Ls ++ [l])
  · rw [decide_eq_true ft]
    refine iteF ⟨_, rfl, b, dx, _, rfl, hb2, fsBook_no _ _ _ (by decide) (by decide) (by decide), _, rfl, _, rfl, b, CK, dx, _, _, rfl, hb2, BT.cl, BT.nV, fsBook_vows _ _ _, ?_⟩
    exact ⟨b, h3, vv, ns, Ls, Ls ++ [l], Vs, Vs, n, rfl, ba.same s12, la1.kt s2.kt, lv.kt s12.kt, ok, l100, n100, (k1 ft).same s12⟩
  · rw [decide_eq_false ft]
    refine iteT ⟨_, rfl, b, CK, dx, _, _, rfl, hb2, BT.cl, BT.nH, fsBook_held _ _ _, h, dy, _, rfl, hh2, h, dy, m, t, rfl, hh2, t, us, rfl, .inr (sqT_same s12 h1), _, rfl, fun d hd => ?_⟩
    refine k2 ft _ d (same_upd (s12.free hd) s12) ?_
    rw [upd_same, h2.1]
theorem sc_Book_see : FnScope ["self", "look", "thing"] ["self", "look"] (L2.defScope (met 73 12)) := ⟨rfl, rfl, rfl, by decide +kernel, rfl, by decide +kernel, by decide +kernel⟩
theorem m_see (T : Tx K mg) (L : LkTx K mg C) (BT : BkTx K mg CK) (D : MetF K CK "see" "Book.see" (met 73 12)) (c_check_look : Cal P w K mg base 1 "check_look" (spCheckLook K C) []) (c_check_thing : Cal P w K mg base 2 "check_thing" (spCheckThing K) []) (p_things : Prp P w K mg base 1 CL "things" (spNamed CL)) (m_put : MetX P w K mg base 9 CK "put" (spPut K CK CL C CB CC)) : MetX P w K mg base 10 CK "see" (spPut K CK CL C CB CC) := by
  have S := sc_Book_see
  refine mkMetX BT.cl D S (fun _ _ _ _ _ _ us hl => match us, hl with | [_, _], _ => rfl) (fun vs H Q E h => ?_) (fun f cdv A outer s H vs Q E hr h => ?_)
  · obtain ⟨b, v, ns, Ls, Vs, n, l, rfl, _⟩ := h
    rfl
  obtain ⟨b, v, ns, Ls, Vs, n, l, rfl, ba, no, hv, lo, l12, ok, l100, n100, k⟩ := h
  obtain ⟨dx, h, vv, g, gs, hb, la, lv, lg, en⟩ := id ba
  obtain ⟨dy, m, t, hh, c⟩ := id la
  obtain ⟨a, dz, m2, rfl, ha, hm⟩ := id hv
  -- slots: 0 self, 1 look, 2 thing
  refine ⟨_, (pss_cons (ps_expr (pe_c c_check_look hr (by decide) rfl (pa_cons (pv 1) pa_nil))) 
    (pss_cons (ps_for (passes_of rfl) rfl (pi_tupK K (pe_fldK K (pv 1) rfl)) (pg_name (i := 2) S.nd rfl (Or.inl rfl)) (pss_one (ps_expr (pe_c c_check_thing hr (by decide) rfl (pa_cons (pv 2) (pa_cons (pe_pr p_things hr (by decide) (pe_fldK K (pv 0) rfl) rfl) pa_nil)))))) (pss_one (ps_expr (pe_mtX m_put hr (by decide) (passes_call (E := E) (takes_of rfl rfl rfl rfl) fun _ _ _ _ h => h) (pv 0) (pa_cons (pv 1) pa_nil)))))), ?_⟩
  refine ⟨_, rfl, _, l, rfl, hv, ?_⟩
  refine ⟨_, rfl, a, C, dz, _, _, rfl, ha, L.cl, L.nM, fsLook_menu _ _, m2, rfl, ⟨_, hm⟩, for_it walk_tup (fun i σ H2 => ∃ v1, σ = [some (.ref b), some (.ref a), v1] ∧ H2 = H) ⟨none, rfl, rfl⟩ (fun i σ H2 _ ⟨_, _, e⟩ => by rw [e]; exact hm) ?_ ?_⟩
  · rintro i x σ H2 H3 hi ⟨v1, rfl, rfl⟩ ⟨e0, hx⟩
    subst e0
    obtain ⟨z, hz, rfl⟩ := get_map hx
    exact ⟨_, rfl, _, rfl, b, CK, dx, _, _, rfl, hb, BT.cl, BT.nH, fsBook_held _ _ _, h, dy, _, rfl, hh, h, dy, m, t, rfl, hh, z, m, ns, rfl, c.names, lo.menu.sub z (List.mem_of_getElem? hz), _, rfl, rfl⟩
  · rintro σ H2 ⟨v1, rfl, rfl⟩
    exact ⟨_, rfl, b, dx, _, rfl, hb, fsBook_no _ _ _ (by decide) (by decide) (by decide), _, rfl, b, _, ns, Ls, Vs, n, l, rfl, ba, no, hv, lo, l12, ok, l100, n100, k⟩
def spForget (K : PySem.W.Frag) (CK CL C CB : Addr) : Sp := fun vs H Q E => ∃ (b : Addr) (i : Nat) (ns : List Str) (Ls : List (Lk Str)) (Vs : List Vow) (n : Nat), vs = [.ref b, .int i] ∧ BkAt K CK CL C H b ns Ls Vs n ∧ NamesOk ns ∧ i < Ls.length ∧ Ls.length ≤ 12 ∧ (∀ q ∈ Vs, VwOk ns q) ∧ Vs.length ≤ 100 ∧ n ≤ 100 ∧ Ends K CK CL C CB H Q E b ns (Ls.eraseIdx i) Vs n
theorem sc_Book_forget : FnScope ["self", "index"] ["self", "index"] (L2.defScope (met 73 13)) := ⟨rfl, rfl, rfl, by decide +kernel, rfl, by decide +kernel, by decide +kernel⟩
theorem m_forget (T : Tx K mg) (LS : LsTx K mg CL) (BT : BkTx K mg CK) (D : MetF K CK "forget" "Book.forget" (met 73 13)) (c_is_index : Cal P w K mg base 2 "is_index" spIndex []) (p_looks : Prp P w K mg base 1 CL "looks" (spSeen CL)) (m_without : MetR P w K mg base 6 CL "without" (spWithout K CL C)) (m_change : MetX P w K mg base 8 CK "change" (spChange K CK CL C CB)) : MetX P w K mg base 9 CK "forget" (spForget K CK CL C CB) := by
  have S := sc_Book_forget
  refine mkMetX BT.cl D S (fun _ _ _ _ _ _ us hl => match us, hl with | [_, _], _ => rfl) (fun vs H Q E h => ?_) (fun f cdv A outer s H vs Q E hr h => ?_)
  · obtain ⟨b, i, ns, Ls, Vs, n, rfl, _⟩ := h
    rfl
  obtain ⟨b, i, ns, Ls, Vs, n, rfl, ba, no, hi, l12, ok, l100, n100, k⟩ := h
  obtain ⟨dx, h, vv, g, gs, hb, la, lv, lg, en⟩ := id ba
  obtain ⟨dy, m, t, hh, c⟩ := id la
  obtain ⟨us, h1, h2⟩ := c.looks
  -- slots: 0 self, 1 index
  refine ⟨_, (pss_cons (ps_if (pt_not (pt_val (pe_c c_is_index hr (by decide) rfl (pa_cons (pv 1) (pa_cons (pe_callB (call_len_seqK K) rfl T.n.len (by rfl) (pa_cons (pe_pr p_looks hr (by decide) (pe_fldK K (pv 0) rfl) rfl) pa_nil)) pa_nil))))) (pss_one ps_never) pss_nil) (pss_one (ps_expr (pe_mtX m_change hr (by decide) (passes_call (E := E) (takes_of rfl rfl rfl rfl) fun _ _ _ _ h => h) (pv 0) (pa_cons (pe_mtR LS.cl m_without hr (by decide) (pe_fldK K (pv 0) rfl) (pa_cons (pv 1) pa_nil)) (pa_cons (pe_fldK K (pv 0) rfl) pa_nil)))))), ?_⟩
  refine ⟨_, rfl, _, rfl, b, CK, dx, _, _, rfl, hb, BT.cl, BT.nH, fsBook_held _ _ _, h, dy, _, rfl, hh, h, dy, m, t, rfl, hh, t, us, rfl, .inr h1, i, us.length, rfl, by omega, by rw [h2.1]; omega, true, rfl, iteF ?_⟩
  refine ⟨_, rfl, b, dx, _, rfl, hb, fsBook_no _ _ _ (by decide) (by decide) (by decide), _, rfl, b, CK, dx, _, _, rfl, hb, BT.cl, BT.nH, fsBook_held _ _ _, h, dy, _, rfl, hh, fsLooks_no _ _ (by decide) (by decide), _, rfl, h, i, ns, Ls, rfl, la, no, hi, l12, fun H1 h3 s1 la1 => ?_⟩
  have hb1 := s1 _ _ hb
  refine ⟨_, rfl, b, CK, dx, _, _, rfl, hb1, BT.cl, BT.nV, fsBook_vows _ _ _, ?_⟩
  exact ⟨b, h3, vv, ns, Ls, Ls.eraseIdx i, Vs, Vs, n, rfl, ba.same s1, la1, lv.kt s1.kt, ok, l100, n100, k.same s1⟩
structure WdTx (K : PySem.W.Frag) (mg : Str → Option Value) (tW : Addr) : Prop where
  c_WORDS : ∃ u, mg "WORDS" = some u ∧ RelV (.ref tW) u
  at_ : ∀ H, SqT K H tW ((["surely", "never", "perhaps"] : List Str).map V.str)
def spPromise (K : PySem.W.Frag) (CK CL C : Addr) : Sp := fun vs H Q _ => ∃ (b m : Addr) (ns : List Str) (Ls : List (Lk Str)) (Vs : List Vow) (n : Nat) (q : Vow), vs = [.ref b, .str q.1, .ref m, .str q.2.2] ∧ BkAt K CK CL C H b ns Ls Vs n ∧ TT K H m q.2.1 ∧ (∀ q ∈ Vs, VwOk ns q) ∧ VwOk ns q ∧ Vs.length ≤ 50 ∧ n ≤ 100 ∧ q.1 ∈ (["surely", "never", "perhaps"] : List Str) ∧
  firstP ns Ls (Vs ++ [q]) = none ∧ ∀ H', But b H H' → BkAt K CK CL C H' b ns Ls (Vs ++ [q]) (n + 1) → Q .non H'
theorem sc_Book_promise : FnScope ["self", "word", "menu", "thing"] ["self", "word", "menu", "thing"] (L2.defScope (met 73 14)) := ⟨rfl, rfl, rfl, by decide +kernel, rfl, by decide +kernel, by decide +kernel⟩
theorem m_promise (T : Tx K mg) (W : WdTx K mg tW) (BT : BkTx K mg CK) (D : MetF K CK "promise" "Book.promise" (met 73 14)) (c_check_menu : Cal P w K mg base 2 "check_menu" (spCheckMenu K) []) (c_check_thing : Cal P w K mg base 2 "check_thing" (spCheckThing K) []) (p_things : Prp P w K mg base 1 CL "things" (spNamed CL)) (m_change : MetX P w K mg base 8 CK "change" (spChange K CK CL C CB)) : MetX P w K mg base 9 CK "promise" (spPromise K CK CL C) := by
  have S := sc_Book_promise
  refine mkMetX BT.cl D S (fun _ _ _ _ _ _ us hl => match us, hl with | [_, _, _, _], _ => rfl) (fun vs H Q E h => ?_) (fun f cdv A outer s H vs Q E hr h => ?_)
  · obtain ⟨b, m, ns, Ls, Vs, n, q, rfl, _⟩ := h
    rfl
  obtain ⟨b, m, ns, Ls, Vs, n, q, rfl, ba, hm, ok, okq, l50, n100, wq, fp, k⟩ := h
  obtain ⟨dx, h, vv, g, gs, hb, la, lv, lg, en⟩ := id ba
  obtain ⟨dy, m2, t, hh, c⟩ := id la
  -- slots: 0 self, 1 word, 2 menu, 3 thing
  refine ⟨_, (pss_cons (ps_if (PW.pt (pw_or (pt_not (pt_val (pe_callB (call_isiK' K) rfl T.n.isi (by rfl) (pa_cons (pv 1) (pa_cons (pe_bltn rfl T.n.str rfl (v := V.ty "str") rfl) pa_nil))))) (pw_or1 (pt_cmpR (op_notIn_seqK K) (pv 1) (pe_gc rfl W.c_WORDS) (by rfl))))) (pss_one ps_never) pss_nil) 
    (pss_cons (ps_expr (pe_c c_check_menu hr (by decide) rfl (pa_cons (pv 2) (pa_cons (pe_pr p_things hr (by decide) (pe_fldK K (pv 0) rfl) rfl) pa_nil)))) 
    (pss_cons (ps_expr (pe_c c_check_thing hr (by decide) rfl (pa_cons (pv 3) (pa_cons (pv 2) pa_nil)))) (pss_one (ps_expr (pe_mtX m_change hr (by decide) (passes_call (E := E) (takes_of rfl rfl rfl rfl) fun _ _ _ _ h => h) (pv 0) (pa_cons (pe_fldK K (pv 0) rfl) (pa_cons (pe_tup (pa_starK K (pe_fldK K (pv 0) rfl) (pa_cons (pe_tup (pa_cons (pv 1) (pa_cons (pv 2) (pa_cons (pv 3) pa_nil)))) pa_nil))) pa_nil)))))))), ?_⟩
  refine ⟨_, rfl, _, _, _, _, true, rfl, .ty "str", .base (.str _), kit_ty (by decide +kernel), true, rfl, iteF ?_⟩
  refine ⟨_, rfl, tW, _, rfl, .inr (W.at_ H), rfl, all_flat _, false, ?_, iteF ?_⟩
  · show V.bl (!inV (.str q.1) ((["surely", "never", "perhaps"] : List Str).map V.str)) = V.bl false
    rw [inV_str, decide_eq_true wq]
    rfl
  refine ⟨_, rfl, _, rfl, b, CK, dx, _, _, rfl, hb, BT.cl, BT.nH, fsBook_held _ _ _, h, dy, _, rfl, hh, h, dy, m2, t, rfl, hh, m, m2, q.2.1, ns, rfl, hm, c.names, okq.menu, fun H1 s1 => ?_⟩
  refine ⟨_, rfl, _, rfl, q.2.2, m, q.2.1, rfl, hm.same s1, okq.mem, ?_⟩
  have hb1 := s1 _ _ hb
  obtain ⟨us, h1, h2⟩ := lv
  have hul := h2.1
  refine ⟨_, rfl, b, dx, _, rfl, hb1, fsBook_no _ _ _ (by decide) (by decide) (by decide), _, rfl, b, CK, dx, _, _, rfl, hb1, BT.cl, BT.nH, fsBook_held _ _ _, _, rfl, b, CK, dx, _, _, rfl, hb1, BT.cl, BT.nV, fsBook_vows _ _ _, vv, us, rfl, .inl (sqT_same s1 h1), _, rfl, _, rfl, _, rfl, by show 3 ≤ sizeLine; decide, fun p hp => ⟨?_, fun r hr2 => ?_⟩⟩
  · rw [List.length_append, List.length_singleton]
    exact len_small (by omega)
  have s2 : Same H1 (upd H1 p (.tup [V.str q.1, V.ref m, V.str q.2.2])) := same_new hp
  have s3 : Same (upd H1 p (.tup [V.str q.1, V.ref m, V.str q.2.2])) (upd (upd H1 p (.tup [V.str q.1, V.ref m, V.str q.2.2])) r (.tup (us ++ [V.ref p]))) := same_new hr2
  have s := (s1.trans s2).trans s3
  refine ⟨b, h, r, ns, Ls, Ls, Vs, Vs ++ [q], n, rfl, ba.same s, la.kt s.kt, ⟨us ++ [V.ref p], SqT.new upd_same, All2.snoc (h2.mono fun _ _ x => x.kt s.kt) ⟨p, m, rfl, sqT_same s3 (SqT.new upd_same), hm.same s⟩⟩, fun x hx => ?_, by rw [List.length_append, List.length_singleton]; omega, n100, fun _ H' bt ba2 => k H' (s.but.trans bt) ba2, fun j e => ?_⟩
  · rcases List.mem_append.mp hx with z | z
    · exact ok x z
    · rw [List.mem_singleton.mp z]
      exact okq
  · rw [fp] at e
    cases e
end
end Mh
end
section
set_option Elab.async false
set_option linter.all false
set_option maxRecDepth 100000
set_option maxHeartbeats 4000000
/-! MhL1: the urn; drawn numbers, names. -/
namespace Mh
open PySem PySem.Spec PyProof.Rows L2 MhX
open C8 (Cal Mak Met pe_c pe_mk pe_mt pe_mt0 pe_gc pss_cut tCut)
/-- an urn from which n numbers may still be drawn -/
def Urn (H : Hp) (u : Addr) (n : Nat) : Prop := ∃ g s c : Int, H u = some (.lst [.int g, .int s, .int c]) ∧ 0 ≤ c ∧ c + n ≤ 100000
theorem Urn.mono {H : Hp} {u : Addr} {n m : Nat} (h : Urn H u n) (hm : m ≤ n) : Urn H u m := by
  obtain ⟨g, s, c, h1, h2, h3⟩ := h
  exact ⟨g, s, c, h1, h2, by omega⟩
theorem Urn.same {H H' : Hp} {u : Addr} {n : Nat} (h : Urn H u n) (k : Same H H') : Urn H' u n := by
  obtain ⟨g, s, c, h1, h2⟩ := h
  exact ⟨g, s, c, k _ _ h1, h2⟩
theorem Urn.upd {H : Hp} {u D : Addr} {n : Nat} {o : HO} (h : Urn H u n) (ne : u ≠ D) : Urn (upd H D o) u n := by
  obtain ⟨g, s, c, h1, h2⟩ := h
  exact ⟨g, s, c, by rw [upd_ne ne]; exact h1, h2⟩
theorem Urn.kt {H H' : Hp} {u : Addr} {n : Nat} (h : Urn H u n) (b : But u H H') : Kt H H' := fun c o e i => by
  obtain ⟨g, s, c', h1, _⟩ := h
  by_cases q : c = u
  · subst q
    rw [h1] at e
    cases e
    exact absurd rfl (i.nl _)
  · exact b c o q e
section
variable {P : Program} {w : World} {K : PySem.W.Frag} {mg : Str → Option Value} {base : Heap}
def spUrn (K : PySem.W.Frag) : Sp := fun vs H Q _ => ∃ (a : Addr) (k : Nat) (ns : List Int), vs = [.ref a, .int k] ∧ SqL K H a (ns.map V.int) ∧ k ≤ 10 ∧ ∀ H' u, Same H H' → H u = none → Urn H' u 90000 → Q (.ref u) H'
theorem cut_ints (ns : List Int) (lo hi : Option Int) : ∃ ms : List Int, cutV (ns.map V.int) lo hi = ms.map V.int := by
  unfold cutV
  rw [← List.map_drop, ← List.map_take]
  exact ⟨_, rfl⟩
theorem sc_law_urn : FnScope ["_law_cells", "_law_k", "_law_seed", "_law_some", "_law_cell", "_law_great"] ["_law_cells", "_law_k"] (L2.defScope (fnd 75)) := ⟨rfl, rfl, rfl, by decide +kernel, rfl, by decide +kernel, by decide +kernel⟩
theorem d_urn (T : Tx K mg) (D : DefF K mg "_law_urn" (fnd 75)) : Cal P w K mg base 1 "_law_urn" (spUrn K) [] := by
  have S := sc_law_urn
  refine mkCal D S (fun _ _ _ _ _ _ us hl => match us, hl with | [_, _], _ => rfl) (fun vs H Q E h => ?_) (fun f cdv A outer s H vs Q E hr h => ?_)
  · obtain ⟨a, k, ns, rfl, _⟩ := h
    rfl
  obtain ⟨a, k, ns, rfl, ha, hk, q⟩ := h
  -- slots: 0 _law_cells, 1 _law_k, 2 _law_seed, 3 _law_some, 4 _law_cell, 5 _law_great
  refine ⟨_, (pss_cons (ps_set (i := 2) S.nd rfl (Or.inl rfl) (pe_op op_add (pe_op op_mul pe_int (pv 1)) pe_int)) 
    (pss_cut (ps_set (i := 3) S.nd rfl (Or.inl rfl) (pe_ifExp (pt_cmpR op_lt (pv 1) (pe_callB (call_len_seqK K) rfl T.n.len (by rfl) (pa_cons (pv 0) pa_nil)) (nomark _)) (pe_slice (sl_listK K) (pv 0) (po_some (pv 1)) (po_some (pe_op op_add (pv 1) pe_int))) (pe_slice (sl_listK K) (pv 0) po_none (po_some pe_int)))) 
    (pss_cons (ps_for PassesOwn.never rfl (pi_listK K (pv 3)) (pg_name (i := 4) S.nd rfl (Or.inl rfl)) (pss_one (ps_set (i := 2) S.nd rfl (Or.inl rfl) (pe_op op_mod (pe_callTy call_int1 rfl T.n.int (by rfl) (pa_cons (pe_op op_add (pe_op op_mul (pv 2) pe_int) (pv 4)) pa_nil)) pe_int)))) 
    (pss_cut (ps_set (i := 5) S.nd rfl (Or.inl rfl) (pe_ifExp (PW.pt (pw_and (pt_cmpR op_lt (pv 1) (pe_callB (call_len_seqK K) rfl T.n.len (by rfl) (pa_cons (pv 0) pa_nil)) (nomark _)) (pw_and1 (pt_cmpR op_ge (pe_callB call_abs rfl T.n.abs (by rfl) (pa_cons (pe_ix (ix_listK K) (pv 0) (pv 1) (fun _ _ => rfl)) pa_nil)) (pe_op op_pow pe_int pe_int) (nomark _))))) (pe_callB call_abs rfl T.n.abs (by rfl) (pa_cons (pe_ix (ix_listK K) (pv 0) (pv 1) (fun _ _ => rfl)) pa_nil)) pe_int)) (pss_one (ps_ret (pe_lst (pa_cons (pv 5) (pa_cons (pv 2) (pa_cons pe_int pa_nil)))))))))), ?_⟩
  refine ⟨_, rfl, _, _, rfl, rfl, .inl ⟨by decide, by decide⟩, _, _, rfl, rfl, ?_⟩
  refine ⟨fun σ H1 => ∃ (p : Addr) (ms : List Int), σ = [some (.ref a), some (.int k), some (.int (69143 * (k : Int) + 17)), some (.ref p), none, none] ∧ Same H H1 ∧ H1 p = some (.lst (ms.map V.int)), ?_, ?_⟩
  · refine ⟨_, rfl, _, rfl, a, _, rfl, .inl ha, _, _, rfl, rfl, _, rfl, ?_⟩
    refine ite2 (fun e => ?_) (fun e => ?_)
    · obtain ⟨ms, em⟩ := cut_ints ns (some (k : Int)) (some ((k : Int) + 1))
      refine ⟨_, rfl, _, rfl, _, rfl, _, rfl, _, _, rfl, rfl, _, rfl, a, _, rfl, ha, fun p hp => ⟨p, ms, rfl, same_new hp, by rw [upd_same, em]⟩⟩
    · obtain ⟨ms, em⟩ := cut_ints ns none (some 5)
      refine ⟨_, rfl, _, rfl, a, _, rfl, ha, fun p hp => ⟨p, ms, rfl, same_new hp, by rw [upd_same, em]⟩⟩
  · rintro σ H1 ⟨p, ms, rfl, s1, hp⟩
    refine ⟨_, rfl, p, rfl, ⟨_, SqL.new hp⟩, for_it walk_list (fun i σ H2 => ∃ (z : Int) (v : Option V), σ = [some (.ref a), some (.int k), some (.int z), some (.ref p), v, none] ∧ H2 = H1) ⟨_, none, rfl, rfl⟩ (fun i σ H2 _ ⟨_, _, _, e⟩ => by rw [e]; exact SqL.new hp) ?_ ?_⟩
    · rintro i x σ H2 H3 hi ⟨z, v, rfl, rfl⟩ ⟨e0, hx⟩
      subst e0
      obtain ⟨c, hc, rfl⟩ := get_map hx
      exact ⟨_, rfl, _, _, rfl, rfl, .inr (by decide), _, rfl, _, _, rfl, rfl, .inl ⟨_, rfl, _, _, rfl, rfl, (by show (0 : Int) < _; decide), _, _, rfl, rfl⟩⟩
    · rintro σ H2 ⟨z, v, rfl, rfl⟩
      refine ⟨fun σ H3 => ∃ g : Int, σ = [some (.ref a), some (.int k), some (.int z), some (.ref p), v, some (.int g)] ∧ H3 = H2, ?_, ?_⟩
      · refine ⟨_, rfl, _, rfl, a, _, rfl, .inl (s1.seq ha), _, _, rfl, rfl, _, rfl, ?_⟩
        refine ite2 (fun e => ?_) (fun e => ?_)
        · have lt : (k : Int) < ((ns.map V.int).length : Int) := of_decide_eq_true e
          rw [List.length_map] at lt
          have lt2 : k < ns.length := by omega
          have hat : atI (ns.map V.int) (k : Int) = some (.int ns[k]) := atI_nat (by simp [lt2])
          refine ⟨_, rfl, _, rfl, a, _, _, _, rfl, rfl, s1.seq ha, hat, _, rfl, _, _, rfl, rfl, ⟨by decide, by decide, by decide⟩, _, _, rfl, rfl, _, rfl, ?_⟩
          refine ite2 (fun e2 => ?_) (fun e2 => ?_)
          · exact ⟨_, rfl, _, rfl, a, _, _, _, rfl, rfl, s1.seq ha, hat, _, rfl, _, rfl, rfl⟩
          · exact ⟨_, rfl, rfl⟩
        · exact ⟨_, rfl, rfl⟩
      · rintro σ H3 ⟨g, rfl, rfl⟩
        refine ⟨_, rfl, _, rfl, by show 3 ≤ sizeLine; decide, fun u hu => ?_⟩
        exact q _ u (same_upd (s1.free hu) s1) (s1.free hu) ⟨g, z, 0, upd_same, Int.le_refl _, by omega⟩
/-- a number below m is drawn -/
def spDraw : Sp := fun vs H Q _ => ∃ (u : Addr) (m : Int) (n : Nat), vs = [.ref u, .int m] ∧ 0 < m ∧ m < 1000000 ∧ Urn H u (n + 1) ∧ ∀ H' i, 0 ≤ i → i < m → But u H H' → Urn H' u n → Q (.int i) H'
theorem sc_law_draw : FnScope ["_law_urn_here", "_law_many", "_law_mixed", "_law_digit"] ["_law_urn_here", "_law_many"] (L2.defScope (fnd 76)) := ⟨rfl, rfl, rfl, by decide +kernel, rfl, by decide +kernel, by decide +kernel⟩
theorem d_draw (T : Tx K mg) (D : DefF K mg "_law_draw" (fnd 76)) : Cal P w K mg base 1 "_law_draw" spDraw [] := by
  have S := sc_law_draw
  refine mkCal D S (fun _ _ _ _ _ _ us hl => match us, hl with | [_, _], _ => rfl) (fun vs H Q E h => ?_) (fun f cdv A outer s H vs Q E hr h => ?_)
  · obtain ⟨u, m, n, rfl, _⟩ := h
    rfl
  obtain ⟨u, m, n, rfl, m0, m1, ⟨g, z, c, hu, c0, cn⟩, k⟩ := h
  -- slots: 0 _law_urn_here, 1 _law_many, 2 _law_mixed, 3 _law_digit
  refine ⟨_, (pss_cons (ps_asg (pe_op op_add (pe_ix (ix_listK K) (pv 0) pe_int (fun _ _ => rfl)) pe_int) (pg_sub (pv 0) pe_int set_list)) 
    (pss_cons (ps_set (i := 2) S.nd rfl (Or.inl rfl) (pe_callTy call_int1 rfl T.n.int (by rfl) (pa_cons (pe_op op_add (pe_op op_mul (pe_ix (ix_listK K) (pv 0) pe_int (fun _ _ => rfl)) pe_int) pe_int) pa_nil))) 
    (pss_cons (ps_set (i := 2) S.nd rfl (Or.inl rfl) (pe_op op_add (pv 2) (pe_callTy call_int1 rfl T.n.int (by rfl) (pa_cons (pe_op op_mul (pe_op op_mul (pe_ix (ix_listK K) (pv 0) pe_int (fun _ _ => rfl)) (pe_ix (ix_listK K) (pv 0) pe_int (fun _ _ => rfl))) pe_int) pa_nil)))) 
    (pss_cut (ps_asg (pe_op op_mod (pe_callTy call_int1 rfl T.n.int (by rfl) (pa_cons (pv 2) pa_nil)) pe_int) (pg_sub (pv 0) pe_int set_list)) 
    (pss_cons (ps_if (pt_cmpR op_gt (pe_ix (ix_listK K) (pv 0) pe_int (fun _ _ => rfl)) pe_int (nomark _)) 
      (pss_cons (ps_asg (pe_callB call_divmod rfl T.n.divmod (by rfl) (pa_cons (pe_ix (ix_listK K) (pv 0) pe_int (fun _ _ => rfl)) (pa_cons (pv 1) pa_nil))) (pg_tupK K (n := 2) rfl (pgs_cons (pg_sub (pv 0) pe_int set_list) (pgs_cons (pg_name (i := 3) S.nd rfl (Or.inl rfl)) pgs_nil)))) (pss_one (ps_ret (pv 3)))) pss_nil) (pss_one (ps_ret (pe_op op_mod (pe_callTy call_int1 rfl T.n.int (by rfl) (pa_cons (pe_op op_fdivW (pe_ix (ix_listK K) (pv 0) pe_int (fun _ _ => rfl)) pe_int) pa_nil)) (pv 1))))))))), ?_⟩
  -- urn[2] = urn[2] + 1
  refine ⟨_, rfl, u, _, _, _, rfl, rfl, SqL.new hu, rfl, _, _, rfl, rfl, _, rfl, u, _, _, 2, rfl, rfl, hu, rfl, ?_⟩
  have h1 : (upd H u (.lst (([V.int g, V.int z, V.int c] : List V).set 2 (.int (c + 1))))) u = some (.lst [.int g, .int z, .int (c + 1)]) := upd_same
  have b1 : But u H (upd H u (.lst (([V.int g, V.int z, V.int c] : List V).set 2 (.int (c + 1))))) := but_upd
  generalize upd H u (.lst (([V.int g, V.int z, V.int c] : List V).set 2 (.int (c + 1)))) = H1 at h1 b1
  refine ⟨_, rfl, u, _, _, _, rfl, rfl, SqL.new h1, rfl, _, _, rfl, rfl, .inr (by decide), _, _, rfl, rfl, .inl ⟨_, rfl, ?_⟩⟩
  refine ⟨_, rfl, _, rfl, u, _, _, _, rfl, rfl, SqL.new h1, rfl, _, rfl, u, _, _, _, rfl, rfl, SqL.new h1, rfl, _, _, rfl, rfl, .inl ⟨by omega, by omega⟩, _, _, rfl, rfl, .inr (by decide), .inl ⟨_, rfl, _, _, rfl, rfl, ?_⟩⟩
  refine ⟨fun σ H2 => ∃ mx zz : Int, σ = [some (.ref u), some (.int m), some (.int mx), none] ∧ But u H H2 ∧ H2 u = some (.lst [.int g, .int zz, .int (c + 1)]), ?_, ?_⟩
  · exact ⟨_, rfl, .inl ⟨_, rfl, _, _, rfl, rfl, (by show (0 : Int) < _; decide), _, rfl, u, _, _, 1, rfl, rfl, h1, rfl, _, _, rfl, b1.trans but_upd, upd_same⟩⟩
  · rintro σ H2 ⟨mx, zz, rfl, b2, h2⟩
    refine ⟨_, rfl, u, _, _, _, rfl, rfl, SqL.new h2, rfl, _, _, rfl, rfl, _, rfl, ?_⟩
    refine ite2 (fun e => ?_) (fun e => ?_)
    · refine ⟨_, rfl, u, _, _, _, rfl, rfl, SqL.new h2, rfl, _, rfl, g, m, rfl, ⟨m0, by omega⟩, fun p hp => ?_⟩
      have nup : u ≠ p := ne_of_none h2 hp
      refine ⟨p, _, rfl, SqT.new upd_same, rfl, _, _, rfl, ⟨_, rfl, u, _, _, 0, rfl, rfl, by rw [upd_ne nup]; exact h2, rfl, _, _, rfl, rfl, ?_⟩⟩
      refine ⟨_, rfl, k _ (g % m) (Int.emod_nonneg _ (by omega)) (Int.emod_lt_of_pos _ m0) ?_ ⟨g / m, zz, c + 1, upd_same, by omega, by omega⟩⟩
      intro b o nb eb
      rw [upd_ne nb]
      have e2 := b2 b o nb eb
      rw [upd_ne (ne_of_none e2 hp)]
      exact e2
    · refine ⟨_, rfl, u, _, _, _, rfl, rfl, SqL.new h2, rfl, _, _, rfl, rfl, ⟨by decide, by decide⟩, .inl ⟨_, rfl, _, rfl, _, _, rfl, rfl, m0, ?_⟩⟩
      exact k H2 _ (Int.emod_nonneg _ (by omega)) (Int.emod_lt_of_pos _ m0) b2 ⟨g, zz, c + 1, h2, by omega, by omega⟩
end
end Mh
end
section
set_option Elab.async false
set_option linter.all false
set_option maxRecDepth 100000
set_option maxHeartbeats 4000000
/-! MhL2: drawn names. -/
namespace Mh
open PySem PySem.Spec PyProof.Rows L2 MhX
open C8 (Cal Mak Met pe_c pe_mk pe_mt pe_mt0 pe_gc pss_cut tCut)
theorem letter_at : ∀ i : Nat, i < 26 → ∃ c, sSigns.cps.toList[i]? = some c ∧ c ∈ sLetters.cps.toList := by
  have h : ∀ i : Fin 26, ((sSigns.cps.toList[i.val]?).any fun c => decide (c ∈ sLetters.cps.toList)) = true := by decide +kernel
  intro i hi
  have q := h ⟨i, hi⟩
  cases e : sSigns.cps.toList[i]? with
  | none =>
    rw [show sSigns.cps.toList[(⟨i, hi⟩ : Fin 26).val]? = none from e] at q
    cases q
  | some c =>
    rw [show sSigns.cps.toList[(⟨i, hi⟩ : Fin 26).val]? = some c from e] at q
    exact ⟨c, rfl, of_decide_eq_true q⟩
theorem sign_at (i : Nat) (hi : i < 36) : ∃ c, sSigns.cps.toList[i]? = some c ∧ c ∈ sSigns.cps.toList := by
  have l : sSigns.cps.toList.length = 36 := by decide +kernel
  exact ⟨_, List.getElem?_eq_getElem (by omega), List.getElem_mem _⟩
theorem letters_signs : ∀ c ∈ sLetters.cps.toList, c ∈ sSigns.cps.toList := by
  have h : (sLetters.cps.toList.all fun c => decide (c ∈ sSigns.cps.toList)) = true := by decide +kernel
  intro c hc
  exact of_decide_eq_true (List.all_eq_true.mp h c hc)
theorem a0z_at : ∀ i : Nat, i < 3 → ∃ c, ("a0z" : Str).cps.toList[i]? = some c ∧ c ∈ sSigns.cps.toList := by
  have h : ∀ i : Fin 3, ((("a0z" : Str).cps.toList[i.val]?).any fun c => decide (c ∈ sSigns.cps.toList)) = true := by decide +kernel
  intro i hi
  have q := h ⟨i, hi⟩
  cases e : ("a0z" : Str).cps.toList[i]? with
  | none =>
    rw [show ("a0z" : Str).cps.toList[(⟨i, hi⟩ : Fin 3).val]? = none from e] at q
    cases q
  | some c =>
    rw [show ("a0z" : Str).cps.toList[(⟨i, hi⟩ : Fin 3).val]? = some c from e] at q
    exact ⟨c, rfl, of_decide_eq_true q⟩
theorem nameOk_one {c : Nat} (h : c ∈ sLetters.cps.toList) : NameOk ⟨#[c]⟩ := by
  refine ⟨Nat.le_refl _, by show 1 ≤ 8; decide, ⟨c, rfl, h⟩, fun d hd => ?_⟩
  have e : d = c := by simpa using hd
  rw [e]
  exact letters_signs c h
theorem nameOk_add {t : Str} {c : Nat} (h : NameOk t) (h8 : t.cps.size < 8) (hc : c ∈ sSigns.cps.toList) : NameOk (t ++ (⟨#[c]⟩ : Str)) := by
  have e : (t ++ (⟨#[c]⟩ : Str)).cps = t.cps ++ #[c] := rfl
  have lo := h.lo
  refine ⟨?_, ?_, ?_, fun d hd => ?_⟩
  · rw [e, Array.size_append]
    omega
  · rw [e, Array.size_append]
    show t.cps.size + 1 ≤ 8
    omega
  · obtain ⟨d, hd, hl⟩ := h.hd
    refine ⟨d, ?_, hl⟩
    rw [e, Array.toList_append, List.getElem?_append_left (by rw [Array.length_toList]; omega)]
    exact hd
  · rw [e, Array.toList_append] at hd
    rcases List.mem_append.mp hd with z | z
    · exact h.al d z
    · have e2 : d = c := by simpa using z
      rw [e2]
      exact hc
theorem strOk_name {t : Str} (h : NameOk t) : PyData.strOk t = true := by
  have hs : (sSigns.cps.toList.all fun c => decide (c < 0x110000)) = true := by decide +kernel
  unfold PyData.strOk
  rw [Array.all_eq_true']
  intro c hc
  have hm : c ∈ t.cps.toList := by simpa using hc
  exact List.all_eq_true.mp hs c (h.al c hm)
section
variable {P : Program} {w : World} {K : PySem.W.Frag} {mg : Str → Option Value} {base : Heap}
def spName : Sp := fun vs H Q _ => ∃ (u : Addr) (n : Nat), vs = [.ref u] ∧ Urn H u (n + 10) ∧ ∀ H' t, But u H H' → Urn H' u n → NameOk t → Q (.str t) H'
theorem sc_law_name : FnScope ["_law_urn_here", "_law_signs", "_law_found", "_law_turn"] ["_law_urn_here"] (L2.defScope (fnd 77)) := ⟨rfl, rfl, rfl, by decide +kernel, rfl, by decide +kernel, by decide +kernel⟩
theorem d_name (T : Tx K mg) (D : DefF K mg "_law_name" (fnd 77)) (c__law_draw : Cal P w K mg base 1 "_law_draw" spDraw []) : Cal P w K mg base 2 "_law_name" spName [] := by
  have S := sc_law_name
  refine mkCal D S (fun _ _ _ _ _ _ us hl => match us, hl with | [_], _ => rfl) (fun vs H Q E h => ?_) (fun f cdv A outer s H vs Q E hr h => ?_)
  · obtain ⟨u, n, rfl, _⟩ := h
    rfl
  obtain ⟨u, n, rfl, hu, k⟩ := h
  -- slots: 0 _law_urn_here, 1 _law_signs, 2 _law_found, 3 _law_turn
  refine ⟨_, (pss_cons (ps_set (i := 1) S.nd rfl (Or.inl rfl) pe_str) 
    (pss_cons (ps_set (i := 2) S.nd rfl (Or.inl rfl) (pe_ix ix_str (pv 1) (pe_c c__law_draw hr (by decide) rfl (pa_cons (pv 0) (pa_cons pe_int pa_nil))) (fun _ _ => rfl))) 
    (pss_cons (ps_for PassesOwn.never rfl (pi_range1 rfl T.n.range (pa_cons (pe_op op_fdiv (pe_c c__law_draw hr (by decide) rfl (pa_cons (pv 0) (pa_cons pe_int pa_nil))) (pe_op op_add pe_int (pe_c c__law_draw hr (by decide) rfl (pa_cons (pv 0) (pa_cons pe_int pa_nil))))) pa_nil)) (pg_name (i := 3) S.nd rfl (Or.inl rfl)) (pss_one (ps_set (i := 2) S.nd rfl (Or.inl rfl) (pe_op op_add_str (pv 2) (pe_ix ix_str (pv 1) (pe_c c__law_draw hr (by decide) rfl (pa_cons (pv 0) (pa_cons pe_int pa_nil))) (fun _ _ => rfl)))))) (pss_one (ps_ret (pv 2)))))), ?_⟩
  have l36 : sSigns.length = 36 := by decide +kernel
  refine ⟨_, rfl, _, rfl, u, 26, n + 9, rfl, by decide, by decide, hu, fun H1 i i0 i1 b1 u1 => ?_⟩
  obtain ⟨c, hc, hcl⟩ := letter_at i.toNat (by omega)
  refine ⟨sSigns, i, c, rfl, rfl, len_small (by omega), by rw [show i = (i.toNat : Int) by omega]; exact atI_nat hc, ?_⟩
  refine ⟨_, rfl, u, 8, n + 8, rfl, by decide, by decide, u1, fun H2 d d0 d1 b2 u2 => ?_⟩
  refine ⟨_, rfl, u, 3, n + 7, rfl, by decide, by decide, u2, fun H3 e e0 e1 b3 u3 => ?_⟩
  have hde : 0 ≤ d / (1 + e) ∧ d / (1 + e) ≤ 7 := ⟨Int.ediv_nonneg d0 (by omega), by
    have : d / (1 + e) ≤ d := Int.ediv_le_self _ d0
    omega⟩
  refine ⟨_, _, rfl, rfl, _, _, rfl, rfl, ⟨by omega, by omega⟩, _, rfl, by omega, by omega, ?_⟩
  have b13 := (b1.trans b2).trans b3
  refine for_it walk_range (fun j σ H4 => ∃ (t : Str) (v : Option V), σ = [some (.ref u), some (.str sSigns), some (.str t), v] ∧ But u H H4 ∧ Urn H4 u (n + 7 - j) ∧ NameOk t ∧ t.cps.size = 1 + j) ⟨_, none, rfl, b13, u3, nameOk_one hcl, rfl⟩ (fun _ _ _ _ _ => trivial) ?_ ?_
  · rintro j x σ H4 H5 hj ⟨t, v, rfl, b4, u4, ht, sz⟩ ⟨e9, rfl⟩
    subst e9
    refine ⟨_, rfl, _, rfl, _, rfl, u, 36, n + 7 - (j + 1), rfl, by decide, by decide, u4.mono (by omega), fun H6 i2 j0 j1 b6 u6 => ?_⟩
    obtain ⟨c2, hc2, hcs⟩ := sign_at i2.toNat (by omega)
    refine ⟨sSigns, i2, c2, rfl, rfl, len_small (by omega), by rw [show i2 = (i2.toNat : Int) by omega]; exact atI_nat hc2, t, ⟨#[c2]⟩, rfl, rfl, len_small ?_, ?_⟩
    · show t.cps.size + 1 ≤ 1000
      omega
    · refine ⟨_, _, rfl, b4.trans b6, u6, nameOk_add ht (by omega) hcs, ?_⟩
      show (t.cps ++ #[c2]).size = _
      rw [Array.size_append]
      show t.cps.size + 1 = _
      omega
  · rintro σ H4 ⟨t, v, rfl, b4, u4, ht, sz⟩
    exact ⟨_, rfl, k H4 t b4 (u4.mono (by omega)) ht⟩
/-! ### names, ascending -/
theorem rising_asc : ∀ (r : List Str) (x : Str), risingS x r = true → (x :: r).Nodup → Asc (x :: r)
  | [], x, _, _ => List.pairwise_singleton _ _
  | y :: r, x, h, nd => by
    have h2 : (!ltCps y.cps.toList x.cps.toList && risingS y r) = true := h
    rw [Bool.and_eq_true, Bool.not_eq_true', ltCps_eq, decide_eq_false_iff_not] at h2
    have nd2 := List.nodup_cons.mp nd
    have ih := rising_asc r y h2.2 nd2.2
    have ne : x.cps.toList ≠ y.cps.toList := fun e => nd2.1 (by
      have e2 : x = y := by
        cases x
        cases y
        congr 1
        exact Array.toList_inj.mp e
      rw [e2]
      exact List.mem_cons_self)
    have lt : Lt x y := by
      rcases List.le_total x.cps.toList y.cps.toList with z | z
      · exact Classical.byContradiction fun q => ne (List.le_antisymm z (List.not_lt.mp q))
      · exact Classical.byContradiction fun q => ne (List.le_antisymm (List.not_lt.mp h2.1) (List.not_lt.mp q))
    refine List.pairwise_cons.mpr ⟨fun z hz => ?_, ih⟩
    rcases List.mem_cons.mp hz with rfl | hz
    · exact lt
    · exact List.lt_trans lt ((List.pairwise_cons.mp ih).1 z hz)
theorem sorted_asc {xs : List Str} (h : sortedS xs = true) (nd : xs.Nodup) : Asc xs := by
  cases xs with
  | nil => exact List.Pairwise.nil
  | cons x r => exact rising_asc r x h nd
end
end Mh
end
section
set_option Elab.async false
set_option linter.all false
set_option maxRecDepth 100000
set_option maxHeartbeats 4000000
/-! MhL3: names, rankings, menus. -/
namespace Mh
open PySem PySem.Spec PyProof.Rows L2 MhX
open C8 (Cal Mak Met pe_c pe_mk pe_mt pe_mt0 pe_gc pss_cut tCut)
theorem But.get {u D : Addr} {H H' : Hp} {o : HO} (b : But u H H') (e : H D = some o) (ne : D ≠ u) : H' D = some o := b D o ne e
theorem But.free {u D : Addr} {H H' : Hp} (b : But u H H') (e : H' D = none) (ne : D ≠ u) : H D = none := by
  cases q : H D with
  | none => rfl
  | some o =>
    rw [b D o ne q] at e
    cases e
theorem but_new {u D : Addr} {H H' : Hp} {o : HO} (h : H D = none) (b : But u H H') : But u H (upd H' D o) := fun c ob n e => by
  rw [upd_ne (ne_of_none e h)]
  exact b c ob n e
theorem Urn.at {H : Hp} {u : Addr} {n : Nat} (h : Urn H u n) : ∃ xs, H u = some (.lst xs) := by
  obtain ⟨g, s, c, h1, _⟩ := h
  exact ⟨_, h1⟩
theorem Urn.ne {H : Hp} {u D : Addr} {n : Nat} (h : Urn H u n) (hD : H D = none) : D ≠ u := by
  obtain ⟨xs, h1⟩ := h.at
  exact Ne.symm (ne_of_none h1 hD)
def spareL : List Str := ("abcdefghijk" : Str).cps.toList.map fun c => ⟨#[c]⟩
theorem spare_nodup : spareL.Nodup := by decide +kernel
theorem spare_len : spareL.length = 11 := by decide +kernel
theorem spare_ok : ∀ t ∈ spareL, NameOk t := by
  intro t ht
  obtain ⟨c, hc, rfl⟩ := List.mem_map.mp ht
  refine nameOk_one ?_
  have h : (("abcdefghijk" : Str).cps.toList.all fun c => decide (c ∈ sLetters.cps.toList)) = true := by decide +kernel
  exact of_decide_eq_true (List.all_eq_true.mp h c hc)
theorem spare_some {fs : List Str} (h : fs.length ≤ 10) : ∃ t ts, spareL.filter (fun t => decide (t ∉ fs)) = t :: ts ∧ NameOk t ∧ t ∉ fs := by
  cases e : spareL.filter (fun t => decide (t ∉ fs)) with
  | nil =>
    have all : ∀ t ∈ spareL, t ∈ fs := fun t ht => Classical.byContradiction fun q => by
      have : t ∈ spareL.filter (fun t => decide (t ∉ fs)) := List.mem_filter.mpr ⟨ht, decide_eq_true q⟩
      rw [e] at this
      cases this
    have := spare_nodup.length_le_of_subset all
    rw [spare_len] at this
    omega
  | cons t ts =>
    have m : t ∈ spareL.filter (fun t => decide (t ∉ fs)) := by rw [e]; exact List.mem_cons_self
    have m2 := List.mem_filter.mp m
    exact ⟨t, ts, rfl, spare_ok t m2.1, of_decide_eq_true m2.2⟩
theorem spare_fm (fs : List Str) : ((List.range ("abcdefghijk" : Str).cps.size).filterMap fun i => (("abcdefghijk" : Str).cps.toList[i]?).bind fun c => if decide ((⟨#[c]⟩ : Str) ∉ fs) = true then some (V.str ⟨#[c]⟩) else none) = (spareL.filter fun t => decide (t ∉ fs)).map V.str := by
  have l : ("abcdefghijk" : Str).cps.size = ("abcdefghijk" : Str).cps.toList.length := by simp
  rw [l, range_fm, filter_fm (("abcdefghijk" : Str).cps.toList) (fun c => decide ((⟨#[c]⟩ : Str) ∉ fs)) (fun c => V.str ⟨#[c]⟩)]
  unfold spareL
  rw [List.filter_map, List.map_map]
  rfl
theorem last_at {xs : List V} {v : V} : atI (xs ++ [v]) (-1) = some v := atI_last xs v
section
variable {P : Program} {w : World} {K : PySem.W.Frag} {mg : Str → Option Value} {base : Heap}
def spNames (K : PySem.W.Frag) : Sp := fun vs H Q _ => ∃ (u : Addr) (m n : Nat), vs = [.ref u, .int m] ∧ 1 ≤ m ∧ m ≤ 8 ∧ Urn H u (n + 100) ∧ ∀ H' p ns, But u H H' → Urn H' u n → TT K H' p ns → NamesOk ns → ns.length = m → Q (.ref p) H'
theorem sc_law_names : FnScope ["_law_urn_here", "_law_many", "_law_found", "_law_k", "_law_name_here", "_law_spare", "_law_sign"] ["_law_urn_here", "_law_many"] (L2.defScope (fnd 78)) := ⟨rfl, rfl, rfl, by decide +kernel, rfl, by decide +kernel, by decide +kernel⟩
theorem d_names (T : Tx K mg) (D : DefF K mg "_law_names" (fnd 78)) (c__law_draw : Cal P w K mg base 1 "_law_draw" spDraw []) (c__law_name : Cal P w K mg base 2 "_law_name" spName []) : Cal P w K mg base 3 "_law_names" (spNames K) [] := by
  have S := sc_law_names
  refine mkCal D S (fun _ _ _ _ _ _ us hl => match us, hl with | [_, _], _ => rfl) (fun vs H Q E h => ?_) (fun f cdv A outer s H vs Q E hr h => ?_)
  · obtain ⟨u, m, n, rfl, _⟩ := h
    rfl
  obtain ⟨u, m, n, rfl, m1, m8, hu, k⟩ := h
  -- slots: 0 _law_urn_here, 1 _law_many, 2 _law_found, 3 _law_k, 4 _law_name_here, 5 _law_spare, 6 _law_sign
  refine ⟨_, (pss_cons (ps_set (i := 2) S.nd rfl (Or.inr rfl) (pe_lst pa_nil)) 
    (pss_cons (ps_for PassesOwn.never rfl (pi_range1 rfl T.n.range (pa_cons (pv 1) pa_nil)) (pg_name (i := 3) S.nd rfl (Or.inl rfl)) 
      (pss_cons (ps_set (i := 4) S.nd rfl (Or.inl rfl) (pe_c c__law_name hr (by decide) rfl (pa_cons (pv 0) pa_nil))) 
      (pss_cut (ps_if (PW.pt (pw_and (pt_cmpR op_gt (pv 3) pe_int (nomark _)) (pw_and (pt_cmpR op_lt (pe_callB call_len_str rfl T.n.len (by rfl) (pa_cons (pe_ix (ix_listK K) (pv 2) (pe_un un_neg pe_int) (fun _ _ => rfl)) pa_nil)) pe_int (nomark _)) (pw_and1 (pt_cmpR op_eq (pe_c c__law_draw hr (by decide) rfl (pa_cons (pv 0) (pa_cons pe_int pa_nil))) pe_int (nomark _)))))) (pss_one (ps_set (i := 4) S.nd rfl (Or.inl rfl) (pe_op op_add_str (pe_ix (ix_listK K) (pv 2) (pe_un un_neg pe_int) (fun _ _ => rfl)) (pe_ix ix_str pe_str (pe_c c__law_draw hr (by decide) rfl (pa_cons (pv 0) (pa_cons pe_int pa_nil))) (fun _ _ => rfl))))) pss_nil) 
      (pss_cons (ps_setLc (i := 5) rfl S.nd rfl rfl (by rfl) (pi_str pe_str) (blkOk_by (N := ["_law_urn_here", "_law_many", "_law_found", "_law_k", "_law_name_here", "_law_spare", "_law_sign"]) (sc := L2.defScope (fnd 78)) (own := [("_law_sign", 6)]) (by decide +kernel)) (fun _ _ _ _ _ => (pg_name (i := 6) S.nd rfl (Or.inl rfl))) (fun _ _ _ _ _ => (pts_one (pt_cmpR (op_notIn_seqK K) (pv 6) (pv 2) (by rfl)))) (fun _ _ _ _ _ => (pv 6))) (pss_one (ps_expr (pe_bmK K F.plainAttrs_list F.slot_list_append F.type_list_append mt_append (pv 2) (pa_cons (pe_ifExp (pt_cmpR (op_in_seqK K) (pv 4) (pv 2) (by rfl)) (pe_ix (ix_listK K) (pv 5) pe_int (fun _ _ => rfl)) (pv 4)) pa_nil)))))))) (pss_one (ps_ret (pe_callTy (call_tuple_ofK K) rfl T.n.tuple (by rfl) (pa_cons (pe_callB (cr_sortedSK K) rfl T.n.sorted (by rfl) (pa_cons (pv 2) pa_nil)) pa_nil)))))), ?_⟩
  refine ⟨Nat.zero_le _, fun F hF => ?_⟩
  have nFu : F ≠ u := hu.ne hF
  refine ⟨_, rfl, m, rfl, by omega, by omega, ?_⟩
  refine for_it walk_range (fun j σ H2 => ∃ (fs : List Str) (v3 v4 v5 : Option V), σ = [some (.ref u), some (.int m), some (.ref F), v3, v4, v5, none] ∧ But u H H2 ∧ Urn H2 u (n + 100 - 12 * j) ∧ H2 F = some (.lst (fs.map V.str)) ∧ fs.length = j ∧ fs.Nodup ∧ ∀ t ∈ fs, NameOk t)
    ⟨[], none, none, none, rfl, but_new hF (Same.refl H).but, (hu.upd (Ne.symm nFu)).mono (by omega), upd_same, rfl, List.nodup_nil, fun t h => by cases h⟩ (fun _ _ _ _ _ => trivial) ?_ ?_
  · rintro j x σ H2 H3 hj ⟨fs, v3, v4, v5, rfl, b2, u2, f2, l2, nd, ok⟩ ⟨e9, rfl⟩
    subst e9
    have hj8 : j < 8 := by
      have : j < (m : Int).toNat := hj
      omega
    refine ⟨_, rfl, u, n + 100 - 12 * (j + 1) + 2, rfl, u2.mono (by omega), fun H4 nm b4 u4 hnm => ?_⟩
    have f4 := b4.get f2 nFu
    -- the last one with a sign more, at times
    refine ⟨fun σ H5 => ∃ nm2 : Str, σ = [some (.ref u), some (.int m), some (.ref F), some (.int (0 + ((j : Nat) : Int))), some (.str nm2), v5, none] ∧ But u H H5 ∧ Urn H5 u (n + 100 - 12 * (j + 1)) ∧ H5 F = some (.lst (fs.map V.str)) ∧ NameOk nm2, ?_, ?_⟩
    · refine ⟨_, rfl, _, _, rfl, rfl, _, rfl, ?_⟩
      refine ite2 (fun e => ?_) (fun e => ?_)
      · have pos : (0 : Int) < 0 + (j : Nat) := of_decide_eq_true e
        obtain ⟨fs0, t, rfl⟩ : ∃ fs0 t, fs = fs0 ++ [t] := by
          rcases List.eq_nil_or_concat fs with z | ⟨fs0, t, z⟩
          · rw [z] at l2
            have : j = 0 := l2.symm
            omega
          · exact ⟨fs0, t, by rw [z, List.concat_eq_append]⟩
        have hat : atI ((fs0 ++ [t]).map V.str) (-1) = some (.str t) := by
          rw [List.map_append]
          exact last_at
        have okt := ok t (by simp)
        refine ⟨_, rfl, _, rfl, F, _, _, _, rfl, rfl, SqL.new f4, hat, t, rfl, len_small (by have := okt.hi; show t.cps.size ≤ 1000; omega), _, _, rfl, rfl, _, rfl, ?_⟩
        refine ite2 (fun e2 => ?_) (fun e2 => ?_)
        · have lt8 : ((t.cps.size : Nat) : Int) < 8 := of_decide_eq_true e2
          refine ⟨_, rfl, u, 4, n + 100 - 12 * (j + 1) + 1, rfl, by decide, by decide, u4, fun H5 i i0 i1 b5 u5 => ?_⟩
          have f5 := b5.get f4 nFu
          refine ⟨rfl, _, rfl, ?_⟩
          refine ite2 (fun e3 => ?_) (fun e3 => ?_)
          · refine ⟨_, rfl, _, rfl, F, _, _, _, rfl, rfl, SqL.new f5, hat, _, rfl, u, 3, n + 100 - 12 * (j + 1), rfl, by decide, by decide, u5, fun H6 i2 j0 j1 b6 u6 => ?_⟩
            obtain ⟨c, hc, hcs⟩ := a0z_at i2.toNat (by omega)
            refine ⟨("a0z" : Str), i2, c, rfl, rfl, by decide, by rw [show i2 = (i2.toNat : Int) by omega]; exact atI_nat hc, t, ⟨#[c]⟩, rfl, rfl, len_small ?_, _, rfl, ((b2.trans b4).trans b5).trans b6, u6, b6.get f5 nFu, nameOk_add okt (by omega) hcs⟩
            · show t.cps.size + 1 ≤ 1000
              omega
          · exact ⟨nm, rfl, (b2.trans b4).trans b5, u5.mono (by omega), f5, hnm⟩
        · exact ⟨nm, rfl, b2.trans b4, u4.mono (by omega), f4, hnm⟩
      · exact ⟨nm, rfl, b2.trans b4, u4.mono (by omega), f4, hnm⟩
    · rintro σ H5 ⟨nm2, rfl, b5, u5, f5, hnm2⟩
      refine ⟨_, rfl, fun D1 hD1 => lc_pure walk_str (fun i => (("abcdefghijk" : Str).cps.toList[i]?).bind fun c => if decide ((⟨#[c]⟩ : Str) ∉ fs) = true then some (V.str ⟨#[c]⟩) else none) hD1 (by decide) (fun _ _ => trivial) ?_ ?_⟩
      · rintro i x H6 H7 hi s6 ⟨e0, c, hc, rfl⟩ R k2
        subst e0
        have hc' : ("abcdefghijk" : Str).cps.toList[i]? = some c := by simpa using hc
        have q := k2 H7 (Same.refl _)
        rw [hc'] at q
        refine ⟨rfl, _, rfl, _, rfl, F, _, rfl, .inl (SqL.new (s6 _ _ f5)), rfl, all_flat _, _, rfl, ?_⟩
        have q2 : R (if decide ((⟨#[c]⟩ : Str) ∉ fs) = true then some (V.str ⟨#[c]⟩) else none) H7 := q
        show if (!inV (.str ⟨#[c]⟩) (fs.map V.str)) = true then _ else _
        rw [inV_str]
        by_cases e : (⟨#[c]⟩ : Str) ∈ fs
        · rw [if_neg (by simp [e])] at q2
          rw [decide_eq_true e]
          exact iteF q2
        · rw [if_pos (decide_eq_true e)] at q2
          rw [decide_eq_false e]
          exact iteT ⟨_, rfl, q2⟩
      · intro H6 s6 e
        rw [spare_fm] at e
        obtain ⟨t, ts, et, okt, nt⟩ := spare_some (fs := fs) (by omega)
        rw [et] at e
        have f6 := s6 _ _ f5
        refine ⟨_, rfl, .inl ⟨rfl, _, SqL.new f6⟩, _, rfl, _, rfl, F, _, rfl, .inl (SqL.new f6), rfl, all_flat _, _, rfl, ?_⟩
        have b6 : But u H H6 := b5.trans s6.but
        have u6 := u5.same s6
        have fin : ∀ z : Str, NameOk z → z ∉ fs → But u H (upd H6 F (.lst (fs.map V.str ++ [V.str z]))) ∧ Urn (upd H6 F (.lst (fs.map V.str ++ [V.str z]))) u (n + 100 - 12 * (j + 1)) ∧ (upd H6 F (.lst (fs.map V.str ++ [V.str z]))) F = some (.lst ((fs ++ [z]).map V.str)) ∧ (fs ++ [z]).length = j + 1 ∧ (fs ++ [z]).Nodup ∧ ∀ t ∈ fs ++ [z], NameOk t := fun z hz nz => by
          refine ⟨but_new hF b6, u6.upd (Ne.symm nFu), ?_, ?_, ?_, ?_⟩
          · rw [upd_same, List.map_append]
            rfl
          · rw [List.length_append, List.length_singleton, l2]
          · rw [List.nodup_append]
            refine ⟨nd, List.nodup_cons.mpr ⟨by simp, List.nodup_nil⟩, fun a ha b hb => ?_⟩
            rw [List.mem_singleton.mp hb]
            intro e
            subst e
            exact nz ha
          · intro x hx
            rcases List.mem_append.mp hx with q | q
            · exact ok x q
            · rw [List.mem_singleton.mp q]
              exact hz
        show if inV (.str nm2) (fs.map V.str) = true then _ else _
        rw [inV_str]
        refine ite2 (fun e3 => ?_) (fun e3 => ?_)
        · refine ⟨_, rfl, D1, _, 0, .str t, rfl, rfl, SqL.new e, atI_nat (j := 0) rfl, F, _, _, rfl, rfl, f6, ?_, fs ++ [t], _, _, _, rfl, fin t okt nt⟩
          rw [List.length_map]
          exact small1000 (by omega)
        · refine ⟨_, rfl, F, _, _, rfl, rfl, f6, ?_, fs ++ [nm2], _, _, _, rfl, fin nm2 hnm2 fun z => e3 (decide_eq_true z)⟩
          rw [List.length_map]
          exact small1000 (by omega)
  · rintro σ H2 ⟨fs, v3, v4, v5, rfl, b2, u2, f2, l2, nd, ok⟩
    have lm : fs.length = m := by
      rw [l2]
      show (m : Int).toNat = m
      exact Int.toNat_natCast m
    refine ⟨_, rfl, F, fs, rfl, SqL.new f2, by omega, fun ys p pm so hp => ?_⟩
    refine ⟨p, _, rfl, .inl ⟨SqL.new upd_same, fun r hr2 => ?_⟩⟩
    have npu := u2.ne hp
    have u3 := u2.upd (o := .lst (ys.map V.str)) (Ne.symm npu)
    have nru := u3.ne hr2
    have nd2 : ys.Nodup := pm.nodup_iff.mpr nd
    have b3 : But u H (upd H2 p (.lst (ys.map V.str))) := but_new (b2.free hp npu) b2
    refine k _ r ys (but_new (b3.free hr2 nru) b3) ((u3.upd (Ne.symm nru)).mono (by omega)) (SqT.new upd_same) ⟨sorted_asc so nd2, fun e => ?_, fun t ht => ok t (pm.mem_iff.mp ht), by rw [pm.length_eq]; omega⟩ (by rw [pm.length_eq]; exact lm)
    rw [e] at pm
    have := pm.length_eq
    simp at this
    omega
end
end Mh
end
section
set_option Elab.async false
set_option linter.all false
set_option maxRecDepth 100000
set_option maxHeartbeats 4000000
/-! MhL4: rankings, menus, what a house takes. -/
namespace Mh
open PySem PySem.Spec PyProof.Rows L2 MhX
open C8 (Cal Mak Met pe_c pe_mk pe_mt pe_mt0 pe_gc pss_cut tCut)
theorem ix_at {n : Nat} {i : Int} (h0 : 0 ≤ i) (h1 : i < n) : seqIndex? i n = some i.toNat := by
  have e : i = (i.toNat : Int) := by omega
  have q := ixN_seq (n := n) (i := i) (j := i.toNat) (by unfold ixN; rw [if_pos h0, if_pos h1])
  exact q.1
theorem erase_map {α β : Type} (f : α → β) : ∀ (xs : List α) (i : Nat), (xs.map f).eraseIdx i = (xs.eraseIdx i).map f
  | [], _ => rfl
  | _ :: _, 0 => rfl
  | x :: xs, i + 1 => by
    show f x :: (xs.map f).eraseIdx i = f x :: (xs.eraseIdx i).map f
    rw [erase_map f xs i]
theorem atI_int {α : Type} {xs : List α} {j : Int} {v : α} (j0 : 0 ≤ j) (h : xs[j.toNat]? = some v) : atI xs j = some v := by
  have e : j = (j.toNat : Int) := by omega
  rw [e]
  exact atI_nat h
theorem NamesOk.sub {ns M : List Str} (h : NamesOk ns) (s : M.Sublist ns) (ne : M ≠ []) : NamesOk M :=
  ⟨h.asc.sublist s, ne, fun t ht => h.ok t (s.subset ht), Nat.le_trans s.length_le h.few⟩
theorem NamesOk.menu {ns M : List Str} (h : NamesOk ns) (s : M.Sublist ns) (ne : M ≠ []) : MenuOk M ns :=
  ⟨h.asc.sublist s, ne, fun t ht => s.subset ht, by have := Nat.le_trans s.length_le h.few; omega⟩
theorem NamesOk.txt {ns : List Str} (h : NamesOk ns) : ∀ t ∈ ns, PyData.strOk t = true := fun t ht => strOk_name (h.ok t ht)
section
variable {P : Program} {w : World} {K : PySem.W.Frag} {mg : Str → Option Value} {base : Heap}
def spShuffled (K : PySem.W.Frag) : Sp := fun vs H Q _ => ∃ (u a n : Nat) (ns : List Str), vs = [.ref u, .ref a] ∧ TT K H a ns ∧ ns.length ≤ 8 ∧ Urn H u (n + 8) ∧ ∀ H' p r, But u H H' → Urn H' u n → TT K H' p r → Sub ns r → r.length = ns.length → Q (.ref p) H'
theorem sc_law_shuffled : FnScope ["_law_urn_here", "_law_names_here", "_law_left_here", "_law_name_here"] ["_law_urn_here", "_law_names_here"] (L2.defScope (fnd 79)) := ⟨rfl, rfl, rfl, by decide +kernel, rfl, by decide +kernel, by decide +kernel⟩
theorem d_shuffled (T : Tx K mg) (D : DefF K mg "_law_shuffled" (fnd 79)) (c__law_draw : Cal P w K mg base 1 "_law_draw" spDraw []) : Cal P w K mg base 2 "_law_shuffled" (spShuffled K) [] := by
  have S := sc_law_shuffled
  refine mkCal D S (fun _ _ _ _ _ _ us hl => match us, hl with | [_, _], _ => rfl) (fun vs H Q E h => ?_) (fun f cdv A outer s H vs Q E hr h => ?_)
  · obtain ⟨u, a, n, ns, rfl, _⟩ := h
    rfl
  obtain ⟨u, a, n, ns, rfl, ha, l8, hu, k⟩ := h
  -- slots: 0 _law_urn_here, 1 _law_names_here, 2 _law_left_here, 3 _law_name_here
  refine ⟨_, (pss_cons (ps_set (i := 2) S.nd rfl (Or.inr rfl) (pe_callTy (call_list_ofK K) rfl T.n.list (by rfl) (pa_cons (pv 1) pa_nil))) (pss_one (ps_ret (pe_callTy (call_tuple_ofK K) rfl T.n.tuple (by rfl) (pa_cons (pe_lc rfl S.nd (pi_tupK K (pv 1)) (blkOk_by (N := ["_law_urn_here", "_law_names_here", "_law_left_here", "_law_name_here"]) (sc := L2.defScope (fnd 79)) (own := [("_law_name_here", 3)]) (by decide +kernel)) (fun _ _ _ _ _ => (pg_name (i := 3) S.nd rfl (Or.inl rfl))) (fun _ _ _ _ _ => pts_nil) (fun _ _ _ _ _ => (pe_bmK K F.plainAttrs_list F.slot_list_pop F.type_list_pop mt_popAt (pv 2) (pa_cons (pe_c c__law_draw hr (by decide) rfl (pa_cons (pv 0) (pa_cons (pe_callB (call_len_seqK K) rfl T.n.len (by rfl) (pa_cons (pv 2) pa_nil)) pa_nil))) pa_nil)))) pa_nil))))), ?_⟩
  refine ⟨_, rfl, a, _, rfl, .inr ha, fun L hL => ?_⟩
  have nLu := hu.ne hL
  have s1 : Same H (upd H L (.lst (ns.map V.str))) := same_new hL
  have u1 := hu.same s1
  refine ⟨_, rfl, a, rfl, ⟨_, ha.same s1⟩, fun D1 hD => ?_⟩
  have nDL : D1 ≠ L := Ne.symm (ne_of_none upd_same hD)
  have nDu := u1.ne hD
  have s2 : Same (upd H L (.lst (ns.map V.str))) (upd (upd H L (.lst (ns.map V.str))) D1 (.lst [])) := same_new hD
  refine lc_it walk_tup (fun i H2 => But u H H2 ∧ Urn H2 u (n + 8 - i) ∧ ∃ ls acc : List Str, H2 L = some (.lst (ls.map V.str)) ∧ H2 D1 = some (.lst (acc.map V.str)) ∧ ls.length + i = ns.length ∧ acc.length = i ∧ ∀ t ∈ ns, t ∈ ls ∨ t ∈ acc)
    ⟨(s1.trans s2).but, u1.same s2, ns, [], s2 _ _ upd_same, upd_same, rfl, rfl, fun t ht => .inl ht⟩ (fun i H2 _ p => ha.kt (hu.kt p.1)) ?_ ?_
  · rintro i x H2 H3 hi ⟨b2, u2, ls, acc, e1, e2, l1, l2, cov⟩ ⟨e0, hx⟩
    subst e0
    rw [List.length_map] at hi
    refine ⟨rfl, ?_⟩
    refine yesIf ?_
    refine ⟨_, rfl, .inl ⟨rfl, _, SqL.new e1⟩, _, rfl, _, rfl, L, _, rfl, .inl (SqL.new e1), u, (ls.map V.str).length, n + 8 - (i + 1), rfl, ?_, ?_, u2.mono (by omega), fun H4 j j0 j1 b4 u4 => ?_⟩
    · rw [List.length_map]
      omega
    · rw [List.length_map]
      omega
    rw [List.length_map] at j1
    have e14 := b4.get e1 nLu
    have e24 := b4.get e2 nDu
    have hj : j.toNat < ls.length := by omega
    refine ⟨L, _, j, j.toNat, .str ls[j.toNat], rfl, rfl, e14, by omega, by omega, ix_at j0 (by rw [List.length_map]; exact j1), by simp [hj], acc.map V.str, ?_, ?_, ?_⟩
    · rw [upd_ne nDL]
      exact e24
    · rw [List.length_map]
      exact small1000 (by omega)
    · have fL : H L = none := hL
      have fD : H D1 = none := s1.free hD
      refine ⟨but_new fD (but_new fL (b2.trans b4)), (u4.upd (Ne.symm nLu)).upd (Ne.symm nDu), ls.eraseIdx j.toNat, acc ++ [ls[j.toNat]], ?_, ?_, ?_, ?_, ?_⟩
      · rw [upd_ne (Ne.symm nDL), upd_same]
        rw [erase_map]
      · rw [upd_same, List.map_append]
        rfl
      · rw [List.length_eraseIdx, if_pos hj]
        omega
      · rw [List.length_append, List.length_singleton, l2]
      · intro t ht
        rcases cov t ht with q | q
        · obtain ⟨m, hm⟩ := List.getElem?_of_mem q
          by_cases e : m = j.toNat
          · right
            subst e
            rw [List.getElem?_eq_getElem hj] at hm
            rw [← Option.some.inj hm]
            simp
          · left
            exact List.mem_eraseIdx_iff_getElem?.mpr ⟨m, e, hm⟩
        · exact .inr (List.mem_append_left _ q)
  · rintro H2 ⟨b2, u2, ls, acc, e1, e2, l1, l2, cov⟩
    rw [List.length_map] at l1 l2 u2
    refine ⟨D1, _, rfl, .inl ⟨SqL.new e2, fun p hp => ?_⟩⟩
    have npu := u2.ne hp
    refine k _ p acc (but_new (b2.free hp npu) b2) ((u2.upd (Ne.symm npu)).mono (by omega)) (SqT.new upd_same) (fun t ht => ?_) l2
    rcases cov t ht with q | q
    · have : ls = [] := List.length_eq_zero_iff.mp (by omega)
      rw [this] at q
      cases q
    · exact q
def spMenu (K : PySem.W.Frag) : Sp := fun vs H Q _ => ∃ (u a n : Nat) (ns : List Str), vs = [.ref u, .ref a] ∧ TT K H a ns ∧ NamesOk ns ∧ Urn H u (n + 9) ∧ ∀ H' p M, But u H H' → Urn H' u n → TT K H' p M → M.Sublist ns → M ≠ [] → Q (.ref p) H'
theorem sc_law_menu : FnScope ["_law_urn_here", "_law_names_here", "_law_some", "_law_name_here"] ["_law_urn_here", "_law_names_here"] (L2.defScope (fnd 80)) := ⟨rfl, rfl, rfl, by decide +kernel, rfl, by decide +kernel, by decide +kernel⟩
theorem d_menu (T : Tx K mg) (D : DefF K mg "_law_menu" (fnd 80)) (c__law_draw : Cal P w K mg base 1 "_law_draw" spDraw []) : Cal P w K mg base 2 "_law_menu" (spMenu K) [] := by
  have S := sc_law_menu
  refine mkCal D S (fun _ _ _ _ _ _ us hl => match us, hl with | [_, _], _ => rfl) (fun vs H Q E h => ?_) (fun f cdv A outer s H vs Q E hr h => ?_)
  · obtain ⟨u, a, n, ns, rfl, _⟩ := h
    rfl
  obtain ⟨u, a, n, ns, rfl, ha, no, hu, k⟩ := h
  have l8 := no.few
  -- slots: 0 _law_urn_here, 1 _law_names_here, 2 _law_some, 3 _law_name_here
  refine ⟨_, (pss_cons (ps_setLc (i := 2) rfl S.nd rfl rfl (by rfl) (pi_tupK K (pv 1)) (blkOk_by (N := ["_law_urn_here", "_law_names_here", "_law_some", "_law_name_here"]) (sc := L2.defScope (fnd 80)) (own := [("_law_name_here", 3)]) (by decide +kernel)) (fun _ _ _ _ _ => (pg_name (i := 3) S.nd rfl (Or.inl rfl))) (fun _ _ _ _ _ => (pts_one (pt_cmpR op_eq (pe_c c__law_draw hr (by decide) rfl (pa_cons (pv 0) (pa_cons pe_int pa_nil))) pe_int (nomark _)))) (fun _ _ _ _ _ => (pv 3))) (pss_one (ps_ret (pe_ifExp (pt_cmpR (op_neDK K (hu64 hr)) (pv 2) (pe_lst pa_nil) (nomark _)) (pe_callTy (call_tuple_ofK K) rfl T.n.tuple (by rfl) (pa_cons (pv 2) pa_nil)) (pe_tup (pa_cons (pe_ix (ix_tupK K) (pv 1) (pe_c c__law_draw hr (by decide) rfl (pa_cons (pv 0) (pa_cons (pe_callB (call_len_seqK K) rfl T.n.len (by rfl) (pa_cons (pv 1) pa_nil)) pa_nil))) (fun _ _ => rfl)) pa_nil)))))), ?_⟩
  refine ⟨_, rfl, a, rfl, ⟨_, ha⟩, fun D1 hD => ?_⟩
  have nDu := hu.ne hD
  have s2 : Same H (upd H D1 (.lst [])) := same_new hD
  refine lc_it walk_tup (fun i H2 => But u H H2 ∧ Urn H2 u (n + 9 - i) ∧ ∃ acc : List Str, H2 D1 = some (.lst (acc.map V.str)) ∧ acc.Sublist (ns.take i))
    ⟨s2.but, hu.same s2, [], upd_same, List.nil_sublist _⟩ (fun i H2 _ p => ha.kt (hu.kt p.1)) ?_ ?_
  · rintro i x H2 H3 hi ⟨b2, u2, acc, e2, sl⟩ ⟨e0, hx⟩
    subst e0
    obtain ⟨t, ht, rfl⟩ := get_map hx
    rw [List.length_map] at hi
    have tk : ns.take (i + 1) = ns.take i ++ [t] := by
      rw [List.take_succ, ht]
      rfl
    refine ⟨rfl, _, rfl, u, 2, n + 9 - (i + 1), rfl, by decide, by decide, u2.mono (by omega), fun H4 j j0 j1 b4 u4 => ⟨rfl, _, rfl, ?_⟩⟩
    have e24 := b4.get e2 nDu
    refine ite2 (fun e => ?_) (fun e => ?_)
    · refine ⟨_, rfl, acc.map V.str, e24, ?_, but_new hD (b2.trans b4), u4.upd (Ne.symm nDu), acc ++ [t], ?_, ?_⟩
      · have := sl.length_le
        rw [List.length_take] at this
        rw [List.length_map]
        exact small1000 (by omega)
      · rw [upd_same, List.map_append]
        rfl
      · rw [tk]
        exact sl.append (List.Sublist.refl _)
    · refine ⟨b2.trans b4, u4, acc, e24, ?_⟩
      rw [tk]
      exact sl.trans (List.sublist_append_left _ _)
  · rintro H2 ⟨b2, u2, acc, e2, sl⟩
    rw [List.length_map, List.take_of_length_le (Nat.le_refl _)] at sl
    rw [List.length_map] at u2
    refine ⟨_, rfl, Nat.zero_le _, fun D2 hD2 => ?_⟩
    have s3 : Same H2 (upd H2 D2 (.lst [])) := same_new hD2
    have tx := no.txt
    refine ⟨.list (txs acc), .list [], .lst (SqL.new (s3 _ _ e2)) (dp_texts acc), .lst (SqL.new upd_same) .nil, ?_, sh_nilL.shaped (by decide), _, rfl, ?_⟩
    · refine (Sh.list (n := 0) fun d hd => ?_).shaped (by decide)
      obtain ⟨t, ht, rfl⟩ := List.mem_map.mp hd
      exact .str (tx t (sl.subset ht))
    rw [eqv_nilL]
    have b3 : But u H (upd H2 D2 (.lst [])) := b2.trans s3.but
    have u3 := u2.same s3
    refine ite2 (fun e => ?_) (fun e => ?_)
    · refine ⟨_, rfl, D1, _, rfl, .inl ⟨SqL.new (s3 _ _ e2), fun p hp => ?_⟩⟩
      have npu := u3.ne hp
      refine k _ p acc (but_new (b3.free hp npu) b3) ((u3.upd (Ne.symm npu)).mono (by omega)) (SqT.new upd_same) sl fun z => ?_
      rw [z] at e
      cases e
    · have ha3 := ha.kt (hu.kt b3)
      have ln : 0 < ns.length := List.length_pos_iff.mpr no.ne
      refine ⟨_, rfl, _, rfl, _, rfl, a, _, rfl, .inr ha3, u, (ns.map V.str).length, n, rfl, ?_, ?_, u3.mono (by omega), fun H4 j j0 j1 b4 u4 => ?_⟩
      · rw [List.length_map]
        omega
      · rw [List.length_map]
        omega
      rw [List.length_map] at j1
      have hj : j.toNat < ns.length := by omega
      refine ⟨a, _, j, .str ns[j.toNat], rfl, rfl, ha3.kt (u3.kt b4), ?_, by show 1 ≤ sizeLine; decide, fun p hp => ?_⟩
      · exact atI_int j0 (by simp [hj])
      have npu := u4.ne hp
      have b5 := b3.trans b4
      refine k _ p [ns[j.toNat]] (but_new (b5.free hp npu) b5) (u4.upd (Ne.symm npu)) (SqT.new upd_same) ?_ (List.cons_ne_nil _ _)
      exact List.singleton_sublist.mpr (List.getElem_mem _)
def spBest (K : PySem.W.Frag) : Sp := fun vs H Q _ => ∃ (a b : Addr) (r M : List Str) (t : Str), vs = [.ref a, .ref b] ∧ TT K H a r ∧ TT K H b M ∧ r.length ≤ 100 ∧ best r M = some t ∧ ∀ H', Same H H' → Q (.str t) H'
theorem sc_law_best : FnScope ["_law_row", "_law_menu_here", "_law_thing"] ["_law_row", "_law_menu_here"] (L2.defScope (fnd 81)) := ⟨rfl, rfl, rfl, by decide +kernel, rfl, by decide +kernel, by decide +kernel⟩
theorem d_best (T : Tx K mg) (D : DefF K mg "_law_best" (fnd 81)) : Cal P w K mg base 1 "_law_best" (spBest K) [] := by
  have S := sc_law_best
  refine mkCal D S (fun _ _ _ _ _ _ us hl => match us, hl with | [_, _], _ => rfl) (fun vs H Q E h => ?_) (fun f cdv A outer s H vs Q E hr h => ?_)
  · obtain ⟨a, b, r, M, t, rfl, _⟩ := h
    rfl
  obtain ⟨a, b, r, M, t, rfl, ha, hb, l, ht, k⟩ := h
  -- slots: 0 _law_row, 1 _law_menu_here, 2 _law_thing
  refine ⟨_, (pss_one (ps_ret (pe_ix (ix_listK K) (pe_lc rfl S.nd (pi_tupK K (pv 0)) (blkOk_by (N := ["_law_row", "_law_menu_here", "_law_thing"]) (sc := L2.defScope (fnd 81)) (own := [("_law_thing", 2)]) (by decide +kernel)) (fun _ _ _ _ _ => (pg_name (i := 2) S.nd rfl (Or.inl rfl))) (fun _ _ _ _ _ => (pts_one (pt_cmpR (op_in_seqK K) (pv 2) (pv 1) (by rfl)))) (fun _ _ _ _ _ => (pv 2))) pe_int (fun _ _ => rfl)))), ?_⟩
  refine ⟨_, rfl, a, rfl, ⟨_, ha⟩, fun D1 hD => lc_seq walk_tup (fun t => decide (t ∈ M)) V.str hD (by omega) (fun H' s => ha.same s) ?_ ?_⟩
  · intro t2 H2 m2 s2 R k2
    obtain ⟨q1, q2⟩ := k2 H2 (Same.refl _)
    refine ⟨rfl, _, rfl, _, rfl, b, _, rfl, .inr (hb.same s2), rfl, all_flat _, _, rfl, ?_⟩
    show if inV (.str t2) (M.map V.str) = true then _ else _
    rw [inV_str]
    refine ite2 (fun e => ?_) (fun e => ?_)
    · exact ⟨_, rfl, q1 e⟩
    · exact q2 (by
        cases z : decide (t2 ∈ M) with
        | false => rfl
        | true => exact absurd z e)
  · intro H2 s2 e
    refine ⟨D1, _, 0, .str t, rfl, rfl, SqL.new e, ?_, k H2 s2⟩
    have e2 : (r.filter fun t => decide (t ∈ M))[0]? = some t := by
      rw [← List.head?_eq_getElem?, List.head?_filter]
      exact ht
    exact atI_nat (j := 0) (by rw [List.getElem?_map, e2]; rfl)
/-- a list of rankings -/
def RwL (K : PySem.W.Frag) (H : Hp) (l : Addr) (rows : List (List Str)) : Prop := ∃ vs : List V, SqL K H l vs ∧ All2 (fun v r => ∃ a, v = .ref a ∧ TT K H a r) vs rows
theorem RwL.same {H H' : Hp} {l : Addr} {rows : List (List Str)} (h : RwL K H l rows) (s : Same H H') : RwL K H' l rows := by
  obtain ⟨vs, h1, h2⟩ := h
  exact ⟨vs, s.seq h1, h2.mono fun _ _ ⟨a, e, t⟩ => ⟨a, e, t.same s⟩⟩
/-- what the house of these rankings takes from a menu -/
def takesP (rows : List (List Str)) (M : List Str) : List Str := M.filter fun t => decide (some t ∈ rows.map fun r => best r M)
def spTakes (K : PySem.W.Frag) : Sp := fun vs H Q _ => ∃ (l b : Addr) (rows : List (List Str)) (M ns : List Str), vs = [.ref l, .ref b] ∧ RwL K H l rows ∧ TT K H b M ∧ rows.length ≤ 20 ∧ M.length ≤ 8 ∧ M ≠ [] ∧ Sub M ns ∧ (∀ r ∈ rows, Sub ns r ∧ r.length ≤ 100) ∧ ∀ H' p, Same H H' → TT K H' p (takesP rows M) → Q (.ref p) H'
theorem sc_law_takes : FnScope ["_law_rows", "_law_menu_here", "_law_tops", "_law_row", "_law_thing"] ["_law_rows", "_law_menu_here"] (L2.defScope (fnd 82)) := ⟨rfl, rfl, rfl, by decide +kernel, rfl, by decide +kernel, by decide +kernel⟩
theorem d_takes (T : Tx K mg) (D : DefF K mg "_law_takes" (fnd 82)) (c__law_best : Cal P w K mg base 1 "_law_best" (spBest K) []) : Cal P w K mg base 2 "_law_takes" (spTakes K) [] := by
  have S := sc_law_takes
  refine mkCal D S (fun _ _ _ _ _ _ us hl => match us, hl with | [_, _], _ => rfl) (fun vs H Q E h => ?_) (fun f cdv A outer s H vs Q E hr h => ?_)
  · obtain ⟨l, b, rows, M, ns, rfl, _⟩ := h
    rfl
  obtain ⟨l, b, rows, M, ns, rfl, ⟨vs, h1, h2⟩, hb, l20, l8, ne, sM, ok, k⟩ := h
  have hvl := h2.1
  have bs : ∀ r ∈ rows, ∃ t, best r M = some t := fun r hr2 => by
    cases e : M with
    | nil => exact absurd e ne
    | cons x xs =>
      have hx : x ∈ M := by rw [e]; exact List.mem_cons_self
      obtain ⟨t, ht, _⟩ := best_some (r := r) (M := M) ((ok r hr2).1 x (sM x hx)) hx
      rw [← e]
      exact ⟨t, ht⟩
  -- slots: 0 _law_rows, 1 _law_menu_here, 2 _law_tops, 3 _law_row, 4 _law_thing
  refine ⟨_, (pss_cons (ps_set (i := 2) S.nd rfl (Or.inr rfl) (pe_lc rfl S.nd (pi_listK K (pv 0)) (blkOk_by (N := ["_law_rows", "_law_menu_here", "_law_tops", "_law_row", "_law_thing"]) (sc := L2.defScope (fnd 82)) (own := [("_law_row", 3)]) (by decide +kernel)) (fun _ _ _ _ _ => (pg_name (i := 3) S.nd rfl (Or.inl rfl))) (fun _ _ _ _ _ => pts_nil) (fun _ _ _ _ _ => (pe_c c__law_best hr (by decide) rfl (pa_cons (pv 3) (pa_cons (pv 1) pa_nil)))))) (pss_one (ps_ret (pe_callTy (call_tuple_ofK K) rfl T.n.tuple (by rfl) (pa_cons (pe_lc rfl S.nd (pi_tupK K (pv 1)) (blkOk_by (N := ["_law_rows", "_law_menu_here", "_law_tops", "_law_row", "_law_thing"]) (sc := L2.defScope (fnd 82)) (own := [("_law_thing", 4)]) (by decide +kernel)) (fun _ _ _ _ _ => (pg_name (i := 4) S.nd rfl (Or.inl rfl))) (fun _ _ _ _ _ => (pts_one (pt_cmpR (op_in_seqK K) (pv 4) (pv 2) (by rfl)))) (fun _ _ _ _ _ => (pv 4))) pa_nil))))), ?_⟩
  refine ⟨_, rfl, l, rfl, ⟨_, h1⟩, fun D1 hD => lc_pure walk_list (fun i => (rows[i]?).bind fun r => (best r M).map V.str) hD (len_small (by omega)) (fun H' s => s.seq h1) ?_ ?_⟩
  · rintro i x H2 H3 hi s2 ⟨e0, hx⟩ R k2
    subst e0
    obtain ⟨r, hr2, a, rfl, ta⟩ := h2.at hx
    have mr := List.mem_of_getElem? hr2
    obtain ⟨t, ht⟩ := bs r mr
    refine ⟨rfl, _, rfl, _, rfl, a, b, r, M, t, rfl, ta.same s2, hb.same s2, (ok r mr).2, ht, fun H4 s4 => ?_⟩
    have q := k2 H4 s4
    rw [hr2] at q
    have q2 : R ((best r M).map V.str) H4 := q
    rw [ht] at q2
    exact q2
  · intro H2 s2 e
    rw [hvl, range_fm] at e
    obtain ⟨ts, ets, mem⟩ : ∃ ts : List Str, rows.filterMap (fun r => (best r M).map V.str) = ts.map V.str ∧ ∀ t, t ∈ ts ↔ some t ∈ rows.map fun r => best r M := by
      refine ⟨rows.filterMap fun r => best r M, ?_, fun t => ?_⟩
      · rw [List.map_filterMap]
      · rw [List.mem_filterMap, List.mem_map]
    rw [ets] at e
    refine ⟨_, rfl, b, rfl, ⟨_, hb.same s2⟩, fun D2 hD2 => lc_seq walk_tup (fun t => decide (t ∈ ts)) V.str hD2 (by omega) (fun H' s => (hb.same s2).same s) ?_ ?_⟩
    · intro t2 H3 m2 s3 R k2
      obtain ⟨q1, q2⟩ := k2 H3 (Same.refl _)
      refine ⟨rfl, _, rfl, _, rfl, D1, _, rfl, .inl (SqL.new (s3 _ _ e)), rfl, all_flat _, _, rfl, ?_⟩
      show if inV (.str t2) (ts.map V.str) = true then _ else _
      rw [inV_str]
      refine ite2 (fun e => ?_) (fun e => ?_)
      · exact ⟨_, rfl, q1 e⟩
      · exact q2 (by
          cases z : decide (t2 ∈ ts) with
          | false => rfl
          | true => exact absurd z e)
    · intro H3 s3 e3
      refine ⟨D2, _, rfl, .inl ⟨SqL.new e3, fun p hp => ?_⟩⟩
      have s23 := s2.trans s3
      refine k _ p (same_upd (s23.free hp) s23) (SqT.new ?_)
      rw [upd_same]
      unfold takesP
      have ef : (fun t => decide (t ∈ ts)) = fun t => decide (some t ∈ rows.map fun r => best r M) := by
        funext t
        rw [Bool.eq_iff_iff, decide_eq_true_iff, decide_eq_true_iff]
        exact mem t
      rw [ef]
end
end Mh
end
section
set_option Elab.async false
set_option linter.all false
set_option maxRecDepth 100000
set_option maxHeartbeats 4000000
/-! MhL5: drawn looks. -/
namespace Mh
open PySem PySem.Spec PyProof.Rows L2 MhX
open C8 (Cal Mak Met pe_c pe_mk pe_mt pe_mt0 pe_gc pss_cut tCut)
abbrev sgn (c : Nat) : V := .str ⟨#[c]⟩
/-- a look as a pair of its menu and its marks -/
def LpV (K : PySem.W.Frag) (H : Hp) (v : V) (l : Lk Str) : Prop := ∃ T m, v = .ref T ∧ SqT K H T [.ref m, .str (mk l.2)] ∧ TT K H m l.1
theorem LpV.kt {K : PySem.W.Frag} {H H' : Hp} {v : V} {l : Lk Str} (h : LpV K H v l) (e : Kt H H') : LpV K H' v l := by
  obtain ⟨T, m, h0, h1, h2⟩ := h
  exact ⟨T, m, h0, sqT_kt h1 e, h2.kt e⟩
/-- a look that was drawn from some names -/
structure LpOk (ns : List Str) (l : Lk Str) : Prop where
  sub : l.1.Sublist ns
  ne : l.1 ≠ []
  len : l.2.length = l.1.length
  marks : MarksOk l.2
theorem LpOk.lk {ns : List Str} {l : Lk Str} (h : LpOk ns l) (no : NamesOk ns) : LkOk ns l :=
  ⟨no.menu h.sub h.ne, (no.sub h.sub h.ne).few, fun t ht => no.txt t (h.sub.subset ht)⟩
/-- the marks are those of the house -/
def LkCon (rows : List (List Str)) (l : Lk Str) : Prop := (∀ t ∈ takenP l, ∃ r ∈ rows, best r l.1 = some t) ∧ ∀ t ∈ passedP l, ∀ r ∈ rows, best r l.1 ≠ some t
def Con (M tk : List Str) (cs : List Nat) : Prop := ∀ (i : Nat) t c, M[i]? = some t → cs[i]? = some c → (c = 43 → t ∈ tk) ∧ (c = 45 → t ∉ tk)
theorem marked_at {c : Nat} {l : Lk Str} {t : Str} (h : t ∈ markedP c l) : ∃ i : Nat, l.1[i]? = some t ∧ l.2[i]? = some c := by
  unfold markedP at h
  obtain ⟨q, hq, e⟩ := List.mem_filterMap.mp h
  obtain ⟨i, hi⟩ := List.getElem?_of_mem hq
  have z := List.getElem?_zip_eq_some.mp hi
  split at e
  · rename_i hc
    cases e
    exact ⟨i, z.1, by rw [z.2, hc]⟩
  · cases e
theorem con_lk {rows : List (List Str)} {M : List Str} {cs : List Nat} (h : Con M (takesP rows M) cs) : LkCon rows (M, cs) := by
  refine ⟨fun t ht => ?_, fun t ht r hr e => ?_⟩
  · obtain ⟨i, h1, h2⟩ := marked_at ht
    have m := (h i t 43 h1 h2).1 rfl
    have m2 := of_decide_eq_true (List.mem_filter.mp m).2
    obtain ⟨r, hr, e⟩ := List.mem_map.mp m2
    exact ⟨r, hr, e⟩
  · obtain ⟨i, h1, h2⟩ := marked_at ht
    have m := (h i t 45 h1 h2).2 rfl
    exact m (List.mem_filter.mpr ⟨List.mem_of_getElem? h1, decide_eq_true (List.mem_map.mpr ⟨r, hr, e⟩)⟩)
structure Sg (M tk : List Str) (wild : Int) (cs : List Nat) : Prop where
  len : cs.length = M.length
  al : ∀ c ∈ cs, c = 43 ∨ c = 45 ∨ c = 63
  con : wild = 0 → Con M tk cs
theorem Sg.set63 {M tk : List Str} {wild : Int} {cs : List Nat} (h : Sg M tk wild cs) (j : Nat) : Sg M tk wild (cs.set j 63) := by
  refine ⟨by rw [List.length_set]; exact h.len, fun c hc => ?_, fun w0 i t c h1 h2 => ?_⟩
  · rcases List.mem_or_eq_of_mem_set hc with q | q
    · exact h.al c q
    · exact .inr (.inr q)
  · rw [List.getElem?_set] at h2
    split at h2
    · split at h2
      · cases h2
        exact ⟨(fun e => absurd e (by decide)), fun e => absurd e (by decide)⟩
      · cases h2
    · exact h.con w0 i t c h1 h2
theorem pqs_at : ∀ i : Nat, i < 3 → ∃ c, ("+-?" : Str).cps.toList[i]? = some c ∧ (c = 43 ∨ c = 45 ∨ c = 63)
  | 0, _ => ⟨43, rfl, .inl rfl⟩
  | 1, _ => ⟨45, rfl, .inr (.inl rfl)⟩
  | 2, _ => ⟨63, rfl, .inr (.inr rfl)⟩
  | n + 3, h => absurd h (by omega)
theorem map_set {α β : Type} (f : α → β) : ∀ (xs : List α) (i : Nat) (x : α), (xs.map f).set i (f x) = (xs.set i x).map f
  | [], _, _ => rfl
  | _ :: _, 0, _ => rfl
  | y :: xs, i + 1, x => by
    show f y :: (xs.map f).set i (f x) = f y :: (xs.set i x).map f
    rw [map_set f xs i x]
section
variable {P : Program} {w : World} {K : PySem.W.Frag} {mg : Str → Option Value} {base : Heap}
def spLLook (K : PySem.W.Frag) : Sp := fun vs H Q _ => ∃ (u a l n : Nat) (wild : Int) (ns : List Str) (rows : List (List Str)), vs = [.ref u, .ref a, .ref l, .int wild] ∧ 0 ≤ wild ∧ wild ≤ 100 ∧ TT K H a ns ∧ NamesOk ns ∧ RwL K H l rows ∧ l ≠ u ∧ rows.length ≤ 20 ∧ (∀ r ∈ rows, Sub ns r ∧ r.length ≤ 100) ∧ Urn H u (n + 22) ∧
  ∀ H' v lk, But u H H' → Urn H' u n → LpV K H' v lk → LpOk ns lk → (wild = 0 → LkCon rows lk) → Q v H'
theorem RwL.but {H H' : Hp} {l u : Addr} {rows : List (List Str)} {n : Nat} (h : RwL K H l rows) (hu : Urn H u n) (ne : l ≠ u) (b : But u H H') : RwL K H' l rows := by
  obtain ⟨vs, h1, h2⟩ := h
  refine ⟨vs, ?_, h2.mono fun _ _ ⟨a, e, t⟩ => ⟨a, e, t.kt (hu.kt b)⟩⟩
  rcases h1 with (q | ⟨o, q⟩) | q
  · exact .inl (.inl (b _ _ ne q))
  · exact .inl (.inr ⟨o, b _ _ ne q⟩)
  · exact .inr q
theorem sc_law_look : FnScope ["_law_urn_here", "_law_names_here", "_law_rows", "_law_wild", "_law_menu_here", "_law_taken", "_law_signs", "_law_thing", "_law_sign"] ["_law_urn_here", "_law_names_here", "_law_rows", "_law_wild"] (L2.defScope (fnd 83)) := ⟨rfl, rfl, rfl, by decide +kernel, rfl, by decide +kernel, by decide +kernel⟩
theorem d_llook (T : Tx K mg) (D : DefF K mg "_law_look" (fnd 83)) (c__law_draw : Cal P w K mg base 1 "_law_draw" spDraw []) (c__law_menu : Cal P w K mg base 2 "_law_menu" (spMenu K) []) (c__law_takes : Cal P w K mg base 2 "_law_takes" (spTakes K) []) : Cal P w K mg base 3 "_law_look" (spLLook K) [] := by
  have S := sc_law_look
  refine mkCal D S (fun _ _ _ _ _ _ us hl => match us, hl with | [_, _, _, _], _ => rfl) (fun vs H Q E h => ?_) (fun f cdv A outer s H vs Q E hr h => ?_)
  · obtain ⟨u, a, l, n, wild, ns, rows, rfl, _⟩ := h
    rfl
  obtain ⟨u, a, l, n, wild, ns, rows, rfl, w0, w1, ha, no, hl, nlu, l20, ok, hu, k⟩ := h
  -- slots: 0 _law_urn_here, 1 _law_names_here, 2 _law_rows, 3 _law_wild, 4 _law_menu_here, 5 _law_taken, 6 _law_signs, 7 _law_thing, 8 _law_sign
  refine ⟨_, (pss_cons (ps_set (i := 4) S.nd rfl (Or.inl rfl) (pe_c c__law_menu hr (by decide) rfl (pa_cons (pv 0) (pa_cons (pv 1) pa_nil)))) 
    (pss_cons (ps_set (i := 5) S.nd rfl (Or.inr rfl) (pe_c c__law_takes hr (by decide) rfl (pa_cons (pv 2) (pa_cons (pv 4) pa_nil)))) 
    (pss_cons (ps_setLc (i := 6) rfl S.nd rfl rfl (by rfl) (pi_tupK K (pv 4)) (blkOk_by (N := ["_law_urn_here", "_law_names_here", "_law_rows", "_law_wild", "_law_menu_here", "_law_taken", "_law_signs", "_law_thing", "_law_sign"]) (sc := L2.defScope (fnd 83)) (own := [("_law_thing", 7)]) (by decide +kernel)) (fun _ _ _ _ _ => (pg_name (i := 7) S.nd rfl (Or.inl rfl))) (fun _ _ _ _ _ => pts_nil) (fun _ _ _ _ _ => (pe_ifExp (pt_cmpR (op_in_seqK K) (pv 7) (pv 5) (by rfl)) pe_str pe_str))) 
    (pss_cut (ps_if (PW.pt (pw_and (pt_cmpR op_gt (pv 3) pe_int (nomark _)) (pw_and1 (pt_cmpR op_eq (pe_c c__law_draw hr (by decide) rfl (pa_cons (pv 0) (pa_cons (pv 3) pa_nil))) pe_int (nomark _))))) (pss_one (ps_asg (pe_ix ix_str pe_str (pe_c c__law_draw hr (by decide) rfl (pa_cons (pv 0) (pa_cons pe_int pa_nil))) (fun _ _ => rfl)) (pg_sub (pv 6) (pe_c c__law_draw hr (by decide) rfl (pa_cons (pv 0) (pa_cons (pe_callB (call_len_seqK K) rfl T.n.len (by rfl) (pa_cons (pv 4) pa_nil)) pa_nil))) set_list))) pss_nil) 
    (pss_cut (ps_if (pt_cmpR op_eq (pe_c c__law_draw hr (by decide) rfl (pa_cons (pv 0) (pa_cons pe_int pa_nil))) pe_int (nomark _)) (pss_one (ps_setLc (i := 6) rfl S.nd rfl rfl (by rfl) (pi_listK K (pv 6)) (blkOk_by (N := ["_law_urn_here", "_law_names_here", "_law_rows", "_law_wild", "_law_menu_here", "_law_taken", "_law_signs", "_law_thing", "_law_sign"]) (sc := L2.defScope (fnd 83)) (own := [("_law_sign", 8)]) (by decide +kernel)) (fun _ _ _ _ _ => (pg_name (i := 8) S.nd rfl (Or.inl rfl))) (fun _ _ _ _ _ => pts_nil) (fun _ _ _ _ _ => (pe_ifExp (pt_cmpR op_eq (pe_c c__law_draw hr (by decide) rfl (pa_cons (pv 0) (pa_cons pe_int pa_nil))) pe_int (nomark _)) pe_str (pv 8))))) pss_nil) 
    (pss_cut (ps_if (pt_cmpR op_eq (pe_bmK K F.plainAttrs_list F.slot_list_count F.type_list_count mt_cntF (pv 6) (pa_cons pe_str pa_nil)) (pe_callB (call_len_seqK K) rfl T.n.len (by rfl) (pa_cons (pv 4) pa_nil)) (nomark _)) (pss_one (ps_asg pe_str (pg_sub (pv 6) (pe_c c__law_draw hr (by decide) rfl (pa_cons (pv 0) (pa_cons (pe_callB (call_len_seqK K) rfl T.n.len (by rfl) (pa_cons (pv 4) pa_nil)) pa_nil))) set_list))) pss_nil) (pss_one (ps_ret (pe_tup (pa_cons (pv 4) (pa_cons (pe_joinK K pe_str (pv 6)) pa_nil))))))))))), ?_⟩
  refine ⟨_, rfl, _, rfl, u, a, n + 13, ns, rfl, ha, no, hu, fun H1 m M b1 u1 hm slM neM => ?_⟩
  have noM := no.sub slM neM
  have l8 := noM.few
  have lM : 0 < M.length := List.length_pos_iff.mpr neM
  refine ⟨_, rfl, _, rfl, l, m, rows, M, ns, rfl, hl.but hu nlu b1, hm, l20, l8, neM, fun t ht => slM.subset ht, ok, fun H2 tk s2 htk => ?_⟩
  have b2 : But u H H2 := b1.trans s2.but
  have u2 := u1.same s2
  have hm2 := hm.same s2
  refine ⟨_, rfl, m, rfl, ⟨_, hm2⟩, fun D1 hD => lc_pure walk_tup (fun i => (M[i]?).bind fun t => some (sgn (if t ∈ takesP rows M then 43 else 45))) hD (len_small (by rw [List.length_map]; omega)) (fun H' s => hm2.same s) ?_ ?_⟩
  · rintro i x H3 H4 hi s3 ⟨e0, hx⟩ R k2
    subst e0
    obtain ⟨t, ht, rfl⟩ := get_map hx
    have q := k2 H4 (Same.refl _)
    rw [ht] at q
    have q2 : R (some (sgn (if t ∈ takesP rows M then 43 else 45))) H4 := q
    refine ⟨rfl, _, rfl, _, rfl, tk, _, rfl, .inr (htk.same s3), rfl, all_flat _, _, rfl, ?_⟩
    show if inV (.str t) ((takesP rows M).map V.str) = true then _ else _
    rw [inV_str]
    refine ite2 (fun e => ?_) (fun e => ?_)
    · rw [if_pos (of_decide_eq_true e)] at q2
      exact q2
    · rw [if_neg (fun z => e (decide_eq_true z))] at q2
      exact q2
  · intro H3 s3 e
    rw [List.length_map, range_fm, fm_map] at e
    have nDu := u2.ne hD
    have b3 : But u H H3 := b2.trans s3.but
    have fD : H D1 = none := b2.free hD nDu
    have sg0 : Sg M (takesP rows M) wild (M.map fun t => if t ∈ takesP rows M then 43 else 45) := by
      refine ⟨by rw [List.length_map], fun c hc => ?_, fun _ i t c h1 h2 => ?_⟩
      · obtain ⟨t, _, rfl⟩ := List.mem_map.mp hc
        split
        · exact .inl rfl
        · exact .inr (.inl rfl)
      · rw [List.getElem?_map, h1] at h2
        cases h2
        by_cases q : t ∈ takesP rows M
        · exact ⟨fun _ => q, fun e => by have e2 : (if t ∈ takesP rows M then 43 else 45 : Nat) = 45 := e; rw [if_pos q] at e2; exact absurd e2 (by decide)⟩
        · exact ⟨fun e => by have e2 : (if t ∈ takesP rows M then 43 else 45 : Nat) = 43 := e; rw [if_neg q] at e2; exact absurd e2 (by decide), fun _ => q⟩
    have hD0 : H3 D1 = some (.lst ((M.map fun t => if t ∈ takesP rows M then 43 else 45).map sgn)) := by
      rw [e, List.map_map]
      rfl
    -- the marks with one otherwise
    refine ⟨fun σ H4 => ∃ cs, σ = [some (.ref u), some (.ref a), some (.ref l), some (.int wild), some (.ref m), some (.ref tk), some (.ref D1), none, none] ∧ But u H H4 ∧ Urn H4 u (n + 10) ∧ TT K H4 m M ∧ H4 D1 = some (.lst (cs.map sgn)) ∧ Sg M (takesP rows M) wild cs, ?_, ?_⟩
    · have hm3 := hm2.same s3
      have u3 := u2.same s3
      refine ⟨_, rfl, _, _, rfl, rfl, _, rfl, ?_⟩
      refine ite2 (fun e1 => ?_) (fun e1 => ?_)
      · have wp : (0 : Int) < wild := of_decide_eq_true e1
        refine ⟨_, rfl, _, rfl, u, wild, n + 12, rfl, wp, by omega, u3, fun H4 i i0 i1 b4 u4 => ⟨rfl, _, rfl, ?_⟩⟩
        have b34 := b3.trans b4
        refine ite2 (fun e2 => ?_) (fun e2 => ?_)
        · refine ⟨_, rfl, u, 3, n + 11, rfl, by decide, by decide, u4, fun H5 i2 j0 j1 b5 u5 => ?_⟩
          obtain ⟨c, hc, hcc⟩ := pqs_at i2.toNat (by omega)
          have hm5 := (hm3.kt (u3.kt b4)).kt (u4.kt b5)
          refine ⟨("+-?" : Str), i2, c, rfl, rfl, by decide, atI_int j0 hc, _, rfl, _, rfl, _, rfl, m, _, rfl, .inr hm5, u, (M.map V.str).length, n + 10, rfl, by rw [List.length_map]; omega, by rw [List.length_map]; omega, u5, fun H6 j k0 k1 b6 u6 => ?_⟩
          rw [List.length_map] at k1
          have e6 := b6.get (b5.get (b4.get hD0 nDu) nDu) nDu
          have hj : j.toNat < (M.map fun t => if t ∈ takesP rows M then 43 else 45).length := by rw [List.length_map]; omega
          refine ⟨D1, _, j, j.toNat, rfl, rfl, e6, by unfold ixN; rw [if_pos k0, if_pos (by rw [List.length_map]; omega)], ?_⟩
          refine ⟨(M.map fun t => if t ∈ takesP rows M then 43 else 45).set j.toNat c, rfl, but_new fD ((b34.trans b5).trans b6), u6.upd (Ne.symm nDu), ?_, ?_, ?_, fun d hd => ?_, fun z => absurd z (by omega)⟩
          · exact (hm5.kt (u5.kt b6)).kt (kt_upd e6)
          · rw [upd_same, ← map_set]
          · rw [List.length_set, List.length_map]
          · rcases List.mem_or_eq_of_mem_set hd with q | q
            · exact sg0.al d q
            · rw [q]
              exact hcc
        · exact ⟨_, rfl, b34, u4.mono (by omega), hm3.kt (u3.kt b4), b4.get hD0 nDu, sg0⟩
      · exact ⟨_, rfl, b3, u3.mono (by omega), hm3, hD0, sg0⟩
    · rintro σ H4 ⟨cs, rfl, b4, u4, hm4, e4, sg4⟩
      have lcs := sg4.len
      -- some of them not told
      refine ⟨fun σ H5 => ∃ D2 cs2, σ = [some (.ref u), some (.ref a), some (.ref l), some (.int wild), some (.ref m), some (.ref tk), some (.ref D2), none, none] ∧ But u H H5 ∧ Urn H5 u (n + 1) ∧ TT K H5 m M ∧ H D2 = none ∧ H5 D2 = some (.lst (cs2.map sgn)) ∧ Sg M (takesP rows M) wild cs2, ?_, ?_⟩
      · refine ⟨_, rfl, u, 2, n + 9, rfl, by decide, by decide, u4, fun H5 i i0 i1 b5 u5 => ⟨rfl, _, rfl, ?_⟩⟩
        have b45 := b4.trans b5
        have e5 := b5.get e4 nDu
        have hm5 := hm4.kt (u4.kt b5)
        refine ite2 (fun e1 => ?_) (fun e1 => ?_)
        · refine ⟨_, rfl, D1, rfl, ⟨_, SqL.new e5⟩, fun D2 hD2 => ?_⟩
          have n2u := u5.ne hD2
          have n12 : D1 ≠ D2 := ne_of_none e5 hD2
          have f2 : H D2 = none := b45.free hD2 n2u
          have s6 : Same H5 (upd H5 D2 (.lst [])) := same_new hD2
          refine lc_it walk_list (fun i H6 => But u H H6 ∧ Urn H6 u (n + 9 - i) ∧ TT K H6 m M ∧ H6 D1 = some (.lst (cs.map sgn)) ∧ ∃ acc : List Nat, H6 D2 = some (.lst (acc.map sgn)) ∧ acc.length = i ∧ ∀ (j : Nat) c, acc[j]? = some c → c = 63 ∨ cs[j]? = some c)
            ⟨b45.trans s6.but, u5.same s6, hm5.same s6, s6 _ _ e5, [], upd_same, rfl, fun j c h => by simp at h⟩ (fun i H6 _ p => SqL.new p.2.2.2.1) ?_ ?_
          · rintro i x H6 H7 hi ⟨b6, u6, hm6, e6, acc, e7, la, ac⟩ ⟨e0, hx⟩
            subst e0
            obtain ⟨c, hc, rfl⟩ := get_map hx
            rw [List.length_map] at hi
            refine ⟨rfl, ?_⟩
            refine yesIf ?_
            refine ⟨_, rfl, u, 3, n + 9 - (i + 1), rfl, by decide, by decide, u6.mono (by omega), fun H8 i3 j0 j1 b8 u8 => ⟨rfl, _, rfl, ?_⟩⟩
            have e68 := b8.get e6 nDu
            have e78 := b8.get e7 n2u
            have fin : ∀ d : Nat, (d = 63 ∨ cs[i]? = some d) → ∃ acc2 : List V, H8 D2 = some (.lst acc2) ∧ acc2.length < sizeLine ∧ (But u H (upd H8 D2 (.lst (acc2 ++ [sgn d]))) ∧ Urn (upd H8 D2 (.lst (acc2 ++ [sgn d]))) u (n + 9 - (i + 1)) ∧ TT K (upd H8 D2 (.lst (acc2 ++ [sgn d]))) m M ∧ (upd H8 D2 (.lst (acc2 ++ [sgn d]))) D1 = some (.lst (cs.map sgn)) ∧ ∃ acc : List Nat, (upd H8 D2 (.lst (acc2 ++ [sgn d]))) D2 = some (.lst (acc.map sgn)) ∧ acc.length = i + 1 ∧ ∀ (j : Nat) c, acc[j]? = some c → c = 63 ∨ cs[j]? = some c) := fun d hd => by
              refine ⟨acc.map sgn, e78, by rw [List.length_map]; exact small1000 (by omega), but_new f2 (b6.trans b8), u8.upd (Ne.symm n2u), (hm6.kt (u6.kt b8)).kt (kt_upd e78), by rw [upd_ne n12]; exact e68, acc ++ [d], by rw [upd_same, List.map_append]; rfl, by rw [List.length_append, List.length_singleton, la], fun j c' hj => ?_⟩
              by_cases z : j < acc.length
              · rw [List.getElem?_append_left z] at hj
                exact ac j c' hj
              · have hj2 : j < (acc ++ [d]).length := (List.getElem?_eq_some_iff.mp hj).1
                rw [List.length_append, List.length_singleton] at hj2
                have ej : j = i := by omega
                subst ej
                rw [List.getElem?_append_right (by omega), la, Nat.sub_self] at hj
                have ed : d = c' := by simpa using hj
                rw [← ed]
                exact hd
            refine ite2 (fun e2 => ?_) (fun e2 => ?_)
            · exact fin 63 (.inl rfl)
            · exact ⟨_, rfl, fin c (.inr hc)⟩
          · rintro H6 ⟨b6, u6, hm6, e6, acc, e7, la, ac⟩
            rw [List.length_map] at la u6
            refine ⟨D2, acc, rfl, b6, u6.mono (by omega), hm6, f2, e7, by rw [la]; exact lcs, fun c hc => ?_, fun wz i2 t c h1 h2 => ?_⟩
            · obtain ⟨j, hj⟩ := List.getElem?_of_mem hc
              rcases ac j c hj with q | q
              · exact .inr (.inr q)
              · exact sg4.al c (List.mem_of_getElem? q)
            · rcases ac i2 c h2 with q | q
              · rw [q]
                exact ⟨(fun e => absurd e (by decide)), fun e => absurd e (by decide)⟩
              · exact sg4.con wz i2 t c h1 q
        · exact ⟨D1, cs, rfl, b45, u5.mono (by omega), hm5, fD, e5, sg4⟩
      · rintro σ H5 ⟨D2, cs2, rfl, b5, u5, hm5, f2, e5, sg5⟩
        have n2u : D2 ≠ u := fun z => by
          obtain ⟨xs, hx⟩ := hu.at
          rw [z, hx] at f2
          cases f2
        have lc2 := sg5.len
        -- not all of them - -
        refine ⟨fun σ H6 => ∃ cs3, σ = [some (.ref u), some (.ref a), some (.ref l), some (.int wild), some (.ref m), some (.ref tk), some (.ref D2), none, none] ∧ But u H H6 ∧ Urn H6 u n ∧ TT K H6 m M ∧ H6 D2 = some (.lst (cs3.map sgn)) ∧ Sg M (takesP rows M) wild cs3 ∧ ∃ c ∈ cs3, c ≠ 45, ?_, ?_⟩
        · have fl : (cs2.map sgn).all flatV = true := by
            rw [List.all_eq_true]
            intro x hx
            obtain ⟨c, _, rfl⟩ := List.mem_map.mp hx
            rfl
          refine ⟨_, rfl, .inl ⟨rfl, _, SqL.new e5⟩, D2, _, _, rfl, rfl, SqL.new e5, rfl, fl, _, rfl, m, _, rfl, .inr hm5, rfl, _, rfl, ?_⟩
          have ec : (cs2.map sgn).countP (fun z => eqV z (.str "-")) = cs2.countP fun c => decide (c = 45) := by
            rw [List.countP_map]
            congr 1
            funext c
            show ((⟨#[c]⟩ : Str) == ("-" : Str)) = decide (c = 45)
            rw [Bool.eq_iff_iff, beq_iff_eq, decide_eq_true_iff]
            constructor
            · intro h
              have h2 : (#[c] : Array Nat) = #[45] := congrArg Str.cps h
              simpa using h2
            · intro h
              rw [h]
              rfl
          refine ite2 (fun e1 => ?_) (fun e1 => ?_)
          · refine ⟨_, rfl, _, rfl, _, rfl, m, _, rfl, .inr hm5, u, (M.map V.str).length, n, rfl, by rw [List.length_map]; omega, by rw [List.length_map]; omega, u5, fun H6 j k0 k1 b6 u6 => ?_⟩
            rw [List.length_map] at k1
            have e6 := b6.get e5 n2u
            refine ⟨D2, _, j, j.toNat, rfl, rfl, e6, by unfold ixN; rw [if_pos k0, if_pos (by rw [List.length_map]; omega)], cs2.set j.toNat 63, rfl, but_new f2 (b5.trans b6), u6.upd (Ne.symm n2u), (hm5.kt (u5.kt b6)).kt (kt_upd e6), ?_, sg5.set63 _, 63, List.mem_set (by omega) 63, by decide⟩
            rw [upd_same, ← map_set]
            rfl
          · refine ⟨cs2, rfl, b5, u5.mono (by omega), hm5, e5, sg5, ?_⟩
            refine Classical.byContradiction fun z => e1 (decide_eq_true ?_)
            have all : ∀ c ∈ cs2, decide (c = 45) = true := fun c hc => decide_eq_true (Classical.byContradiction fun q => z ⟨c, hc, q⟩)
            have : cs2.countP (fun c => decide (c = 45)) = cs2.length := List.countP_eq_length.mpr all
            show V.int _ = V.int _
            rw [ec, this, List.length_map, lc2]
        · rintro σ H6 ⟨cs3, rfl, b6, u6, hm6, e6, sg6, ex⟩
          have lc3 := sg6.len
          refine ⟨_, rfl, ⟨_, rfl⟩, _, rfl, ("" : Str), D2, cs3.map fun c => (⟨#[c]⟩ : Str), rfl, rfl, .inl (SqL.new (by rw [e6, List.map_map]; rfl)), ?_, by show 2 ≤ sizeLine; decide, fun p hp => ?_⟩
          · have e3 : ∀ L : List Nat, ((L.map fun c => (⟨#[c]⟩ : Str)).map (·.length)).sum = L.length := by
              intro L
              induction L with
              | nil => rfl
              | cons a r ih =>
                simp only [List.map_cons, List.sum_cons, List.length_cons, ih]
                show 1 + r.length = _
                omega
            rw [e3]
            show cs3.length + _ * 0 ≤ _
            omega
          have npu := u6.ne hp
          refine k _ _ (M, cs3) (but_new (b6.free hp npu) b6) (u6.upd (Ne.symm npu)) ⟨p, m, rfl, SqT.new ?_, hm6.same (same_new hp)⟩ ⟨slM, neM, lc3, sg6.al, ex⟩ fun wz => con_lk (sg6.con wz)
          rw [upd_same, join_signs]
def spText (K : PySem.W.Frag) : Sp := fun vs H Q _ => ∃ (v : V) (l : Lk Str), vs = [v] ∧ LpV K H v l ∧ l.2.length = l.1.length ∧ l.1.length ≤ 8 ∧ (∀ t ∈ l.1, t.length ≤ 8) ∧ ∀ H', Same H H' → Q (.str (lookText l)) H'
theorem sc_law_text : FnScope ["_law_pair", "_law_k"] ["_law_pair"] (L2.defScope (fnd 84)) := ⟨rfl, rfl, rfl, by decide +kernel, rfl, by decide +kernel, by decide +kernel⟩
theorem d_text (T : Tx K mg) (D : DefF K mg "_law_text" (fnd 84)) : Cal P w K mg base 1 "_law_text" (spText K) [] := by
  have S := sc_law_text
  refine mkCal D S (fun _ _ _ _ _ _ us hl => match us, hl with | [_], _ => rfl) (fun vs H Q E h => ?_) (fun f cdv A outer s H vs Q E hr h => ?_)
  · obtain ⟨v, l, rfl, _⟩ := h
    rfl
  obtain ⟨v, l, rfl, ⟨T1, m, rfl, h1, h2⟩, ll, l8, t8, k⟩ := h
  -- slots: 0 _law_pair, 1 _law_k
  refine ⟨_, (pss_one (ps_ret (pe_joinK K pe_str (pe_lc rfl S.nd (pi_range1 rfl T.n.range (pa_cons (pe_callB (call_len_seqK K) rfl T.n.len (by rfl) (pa_cons (pe_ix (ix_tupK K) (pv 0) pe_int (fun _ _ => rfl)) pa_nil)) pa_nil)) (blkOk_by (N := ["_law_pair", "_law_k"]) (sc := L2.defScope (fnd 84)) (own := [("_law_k", 1)]) (by decide +kernel)) (fun _ _ _ _ _ => (pg_name (i := 1) S.nd rfl (Or.inl rfl))) (fun _ _ _ _ _ => pts_nil) (fun _ _ _ _ _ => (pe_op op_add_str (pe_ix (ix_tupK K) (pe_ix (ix_tupK K) (pv 0) pe_int (fun _ _ => rfl)) (pv 1) (fun _ _ => rfl)) (pe_ix ix_str (pe_ix (ix_tupK K) (pv 0) pe_int (fun _ _ => rfl)) (pv 1) (fun _ _ => rfl)))))))), ?_⟩
  refine ⟨⟨_, rfl⟩, _, rfl, T1, _, 0, _, rfl, rfl, h1, rfl, m, _, rfl, .inr h2, _, rfl, by rw [List.length_map]; omega, by rw [List.length_map]; omega, fun D1 hD => lc_pure walk_range (fun i => ((l.1.zip l.2)[i]?).bind fun q => some (V.str (q.1 ++ (⟨#[q.2]⟩ : Str)))) hD ?_ (fun _ _ => trivial) ?_ ?_⟩
  · rw [List.length_map, Int.toNat_natCast]
    exact len_small (by omega)
  · rintro i x H2 H3 hi s2 ⟨e0, rfl⟩ R k2
    subst e0
    rw [List.length_map, Int.toNat_natCast] at hi
    have q := k2 H3 (Same.refl _)
    have i1 : l.1[i]? = some l.1[i] := List.getElem?_eq_getElem hi
    have i2 : l.2[i]? = some (l.2[i]'(by omega)) := List.getElem?_eq_getElem (by omega)
    rw [zip_at i1 i2] at q
    refine ⟨rfl, _, rfl, T1, _, 0, _, rfl, rfl, sqT_same s2 h1, rfl, _, rfl, m, _, _, _, rfl, rfl, h2.same s2, ?_, _, rfl, T1, _, 1, _, rfl, rfl, sqT_same s2 h1, rfl, _, rfl, mk l.2, _, _, rfl, rfl, ?_, ?_, l.1[i], ⟨#[l.2[i]'(by omega)]⟩, rfl, rfl, len_small ?_, q⟩
    · rw [Int.zero_add]
      exact atI_nat (by rw [List.getElem?_map, i1]; rfl)
    · show (mk l.2).cps.size ≤ sizeLine
      have : (mk l.2).cps.size = l.2.length := by simp
      exact len_small (by omega)
    · rw [Int.zero_add]
      exact atI_nat (by simpa using i2)
    · have := t8 l.1[i] (List.getElem_mem _)
      show l.1[i].length + 1 ≤ 1000
      omega
  · intro H' s2 e
    have e1 : ((l.1.map V.str).length : Int).toNat = (l.1.zip l.2).length := by
      rw [List.length_map, Int.toNat_natCast, List.length_zip]
      omega
    rw [e1, range_fm, fm_map] at e
    refine ⟨(" " : Str), D1, (l.1.zip l.2).map fun (q : Str × Nat) => q.1 ++ (⟨#[q.2]⟩ : Str), rfl, rfl, .inl (SqL.new (by rw [e, List.map_map]; rfl)), text_small l8 t8, k H' s2⟩
end
end Mh
end
section
set_option Elab.async false
set_option linter.all false
set_option maxRecDepth 100000
set_option maxHeartbeats 4000000
/-! MhL6: bars, wants, what stays. -/
namespace Mh
open PySem PySem.Spec PyProof.Rows L2 MhX
open C8 (Cal Mak Met pe_c pe_mk pe_mt pe_mt0 pe_gc pss_cut tCut)
def LpL (K : PySem.W.Frag) (H : Hp) (l : Addr) (Ls : List (Lk Str)) : Prop := ∃ vs : List V, SqL K H l vs ∧ All2 (LpV K H) vs Ls
theorem LpL.same {K : PySem.W.Frag} {H H' : Hp} {l : Addr} {Ls : List (Lk Str)} (h : LpL K H l Ls) (s : Same H H') : LpL K H' l Ls := by
  obtain ⟨vs, h1, h2⟩ := h
  exact ⟨vs, s.seq h1, h2.mono fun _ _ r => r.kt s.kt⟩
/-- a list of pairs that is tracked as such -/
def PrN (K : PySem.W.Frag) (H : Hp) (l : Addr) (Bs : List Br) : Prop := ∃ vs : List V, H l = some (.lst vs) ∧ All2 (PrT K H) vs Bs
theorem PrN.same {K : PySem.W.Frag} {H H' : Hp} {l : Addr} {Bs : List Br} (h : PrN K H l Bs) (s : Same H H') : PrN K H' l Bs := by
  obtain ⟨vs, h1, h2⟩ := h
  exact ⟨vs, s _ _ h1, h2.mono fun _ _ r => r.kt s.kt⟩
theorem kt_lst {D : Addr} {H H' : Hp} {xs : List V} (e : H D = some (.lst xs)) (b : But D H H') : Kt H H' := fun c o q i => by
  by_cases z : c = D
  · subst z
    rw [e] at q
    cases q
    exact absurd rfl (i.nl _)
  · exact b c o z q
theorem lp_len {ns : List Str} {l : Lk Str} (h : LpOk ns l) (no : NamesOk ns) : l.1.length ≤ 8 := (no.sub h.sub h.ne).few
theorem asc_nodup {ns : List Str} (h : Asc ns) : ns.Nodup := by
  refine List.Pairwise.imp (fun {a b} (q : Lt a b) => ?_) h
  intro e
  subst e
  exact List.lt_irrefl _ q
theorem lp_nodup {ns : List Str} {l : Lk Str} (h : LpOk ns l) (no : NamesOk ns) : l.1.Nodup := asc_nodup (no.asc.sublist h.sub)
theorem erase_less {α : Type} [DecidableEq α] : ∀ {xs : List α} {k : Nat} {t : α}, xs.Nodup → xs[k]? = some t → xs.take k ++ xs.drop (k + 1) = xs.filter fun u => decide (u ≠ t)
  | [], k, t, _, h => by simp at h
  | x :: xs, 0, t, nd, h => by
    have e : x = t := by simpa using h
    subst e
    have nd2 := List.nodup_cons.mp nd
    rw [List.filter_cons, if_neg (by simp)]
    show [] ++ xs = _
    rw [List.nil_append]
    refine (List.filter_eq_self.mpr fun u hu => ?_).symm
    have ne : u ≠ x := fun z => nd2.1 (by rw [← z]; exact hu)
    simp [ne]
  | x :: xs, k + 1, t, nd, h => by
    have nd2 := List.nodup_cons.mp nd
    have h2 : xs[k]? = some t := by simpa using h
    have ne : x ≠ t := fun z => nd2.1 (by rw [z]; exact List.mem_of_getElem? h2)
    rw [List.filter_cons, if_pos (decide_eq_true ne), ← erase_less nd2.2 h2]
    rfl
theorem catA_ok {K : PySem.W.Frag} {H : Hp} {a b : Addr} {xs ys : List V} {Q : VK} (ha : SqT K H a xs) (hb : SqT K H b ys) (l : xs.length + ys.length ≤ 1000) (k : ∀ H' r, Same H H' → SqT K H' r (xs ++ ys) → Q (.ref r) H') : rCatA K (.ref a) (.ref b) H Q := by
  refine ⟨a, b, xs, ys, rfl, rfl, ha, hb, len_small l, fun e => ?_, fun _ e => ?_, fun _ _ p hp => ?_⟩
  · subst e
    exact k H b (Same.refl _) hb
  · subst e
    refine k H a (Same.refl _) ?_
    rw [List.append_nil]
    exact ha
  · exact k _ p (same_new hp) (SqT.new upd_same)
theorem sIx_some (n d : Nat) (k : Nat) : HT.sIx n d (some (k : Int)) = min k n := HT.sIx_nat n d k
theorem slA_take {K : PySem.W.Frag} {H : Hp} {a : Addr} {xs : List V} {k : Nat} {z : Int} {Q : VK} (ez : z = (k : Int)) (ha : SqT K H a xs) (hk : k < xs.length) (q : ∀ H' r, Same H H' → SqT K H' r (xs.take k) → Q (.ref r) H') : rSlA K (.ref a) none (some z) H Q := by
  subst ez
  refine ⟨a, xs, rfl, ha, fun e => ?_, fun _ p hp => ?_⟩
  · have e2 := e.2
    rw [sIx_some] at e2
    omega
  · refine q _ p (same_new hp) (SqT.new ?_)
    rw [upd_same]
    unfold cutV
    rw [sIx_some, HT.sIx_none, List.drop_zero]
    congr 3
    omega
theorem slA_drop {K : PySem.W.Frag} {H : Hp} {a : Addr} {xs : List V} {k : Nat} {z : Int} {Q : VK} (ez : z = (k : Int) + 1) (ha : SqT K H a xs) (hk : k < xs.length) (q : ∀ H' r, Same H H' → SqT K H' r (xs.drop (k + 1)) → Q (.ref r) H') : rSlA K (.ref a) (some z) none H Q := by
  have ek : z = ((k + 1 : Nat) : Int) := by omega
  rw [ek]
  refine ⟨a, xs, rfl, ha, fun e => ?_, fun _ p hp => ?_⟩
  · have e2 := e.1
    rw [sIx_some] at e2
    omega
  · refine q _ p (same_new hp) (SqT.new ?_)
    rw [upd_same]
    unfold cutV
    rw [sIx_some, HT.sIx_none]
    have e1 : min (k + 1) xs.length = k + 1 := by omega
    rw [e1]
    congr 2
    refine List.take_of_length_le ?_
    rw [List.length_drop]
    omega
section
variable {P : Program} {w : World} {K : PySem.W.Frag} {mg : Str → Option Value} {base : Heap}
def spBars (K : PySem.W.Frag) : Sp := fun vs H Q _ => ∃ (l : Addr) (ns : List Str) (Ls : List (Lk Str)), vs = [.ref l] ∧ LpL K H l Ls ∧ NamesOk ns ∧ (∀ l ∈ Ls, LpOk ns l) ∧ Ls.length ≤ 20 ∧ ∀ H' p, Same H H' → PrN K H' p (barsP Ls) → Q (.ref p) H'
theorem sc_law_bars : FnScope ["_law_pairs", "_law_bars_here", "_law_menu_here", "_law_signs", "_law_k"] ["_law_pairs"] (L2.defScope (fnd 88)) := ⟨rfl, rfl, rfl, by decide +kernel, rfl, by decide +kernel, by decide +kernel⟩
theorem d_bars (T : Tx K mg) (D : DefF K mg "_law_bars" (fnd 88)) : Cal P w K mg base 1 "_law_bars" (spBars K) [] := by
  have S := sc_law_bars
  refine mkCal D S (fun _ _ _ _ _ _ us hl => match us, hl with | [_], _ => rfl) (fun vs H Q E h => ?_) (fun f cdv A outer s H vs Q E hr h => ?_)
  · obtain ⟨l, ns, Ls, rfl, _⟩ := h
    rfl
  obtain ⟨l, ns, Ls, rfl, ⟨us, h1, h2⟩, no, ok, l20, k⟩ := h
  have hul := h2.1
  -- slots: 0 _law_pairs, 1 _law_bars_here, 2 _law_menu_here, 3 _law_signs, 4 _law_k
  refine ⟨_, (pss_cons (ps_set (i := 1) S.nd rfl (Or.inl rfl) (pe_lst pa_nil)) 
    (pss_cons (ps_for PassesOwn.never rfl (pi_listK K (pv 0)) (pg_tupK K (n := 2) rfl (pgs_cons (pg_name (i := 2) S.nd rfl (Or.inr rfl)) (pgs_cons (pg_name (i := 3) S.nd rfl (Or.inr rfl)) pgs_nil))) (pss_one (ps_expr (pe_bmK K F.plainAttrs_list F.slot_list_append F.type_list_append mt_append (pv 1) (pa_cons (pe_tup (pa_cons (pv 2) (pa_cons (pe_callTy (call_tuple_ofK K) rfl T.n.tuple (by rfl) (pa_cons (pe_lc rfl S.nd (pi_range1 rfl T.n.range (pa_cons (pe_callB (call_len_seqK K) rfl T.n.len (by rfl) (pa_cons (pv 2) pa_nil)) pa_nil)) (blkOk_by (N := ["_law_pairs", "_law_bars_here", "_law_menu_here", "_law_signs", "_law_k"]) (sc := L2.defScope (fnd 88)) (own := [("_law_k", 4)]) (by decide +kernel)) (fun _ _ _ _ _ => (pg_name (i := 4) S.nd rfl (Or.inl rfl))) (fun _ _ _ _ _ => (pts_one (pt_cmpR op_eq (pe_ix ix_str (pv 3) (pv 4) (fun _ _ => rfl)) pe_str (nomark _)))) (fun _ _ _ _ _ => (pe_ix (ix_tupK K) (pv 2) (pv 4) (fun _ _ => rfl)))) pa_nil)) pa_nil))) pa_nil))))) (pss_one (ps_ret (pv 1))))), ?_⟩
  refine ⟨Nat.zero_le _, fun B hB => ?_⟩
  have s0 : Same H (upd H B (.lst [])) := same_new hB
  refine ⟨_, rfl, l, rfl, ⟨_, s0.seq h1⟩, for_it walk_list (fun i σ H2 => ∃ v2 v3 ys, σ = [some (.ref l), some (.ref B), v2, v3, none] ∧ Same H H2 ∧ H2 B = some (.lst ys) ∧ All2 (PrT K H2) ys (barsP (Ls.take i))) ⟨none, none, [], rfl, s0, upd_same, All2.nil⟩ (fun i σ H2 _ ⟨_, _, _, _, s2, _⟩ => s2.seq h1) ?_ ?_⟩
  · rintro i x σ H2 H3 hi ⟨v2, v3, ys, rfl, s2, e2, a2⟩ ⟨e0, hx⟩
    subst e0
    obtain ⟨q, hq, T1, m, rfl, g1, g2⟩ := h2.at hx
    have mq := List.mem_of_getElem? hq
    have okq := ok q mq
    have lq := lp_len okq no
    have tki : barsP (Ls.take (i + 1)) = barsP (Ls.take i) ++ [barP q] := by
      unfold barsP
      rw [List.take_succ, hq, List.map_append]
      rfl
    have g1' := sqT_same s2 g1
    have g2' := g2.same s2
    refine ⟨T1, _, rfl, g1', rfl, _, _, rfl, _, _, rfl, rfl, ?_⟩
    refine ⟨_, rfl, .inl ⟨rfl, _, SqL.new e2⟩, _, rfl, _, rfl, m, _, rfl, .inr g2', _, rfl, by rw [List.length_map]; omega, by rw [List.length_map]; omega, fun D1 hD => lc_pure walk_range (fun i => ((q.1.zip q.2)[i]?).bind fun p => if decide (p.2 = 45) = true then some (V.str p.1) else none) hD ?_ (fun _ _ => trivial) ?_ ?_⟩
    · rw [List.length_map, Int.toNat_natCast]
      exact len_small (by omega)
    · rintro j x H4 H5 hj s4 ⟨e0, rfl⟩ R k2
      subst e0
      rw [List.length_map, Int.toNat_natCast] at hj
      have lq2 := okq.len
      have i1 : q.1[j]? = some q.1[j] := List.getElem?_eq_getElem hj
      obtain ⟨c, i2⟩ : ∃ c, q.2[j]? = some c := ⟨_, List.getElem?_eq_getElem (by omega)⟩
      have qq := k2 H5 (Same.refl _)
      rw [zip_at i1 i2] at qq
      have q2 : R (if decide (c = 45) = true then some (V.str q.1[j]) else none) H5 := qq
      refine ⟨rfl, _, rfl, _, rfl, mk q.2, _, c, rfl, rfl, ?_, ?_, rfl, _, rfl, ?_⟩
      · show (mk q.2).cps.size ≤ sizeLine
        have : (mk q.2).cps.size = q.2.length := by simp
        exact len_small (by omega)
      · rw [Int.zero_add]
        exact atI_nat (by simpa using i2)
      show if decide (sgn c = sgn 45) = true then _ else _
      rw [sign_eq]
      refine ite2 (fun e => ?_) (fun e => ?_)
      · rw [if_pos e] at q2
        refine ⟨_, rfl, _, rfl, m, _, _, _, rfl, rfl, g2'.same s4, ?_, q2⟩
        rw [Int.zero_add]
        exact atI_nat (by rw [List.getElem?_map, i1]; rfl)
      · rw [if_neg e] at q2
        exact q2
    · intro H4 s4 e4
      refine ⟨D1, _, rfl, .inl ⟨SqL.new e4, fun p hp => ⟨by show 2 ≤ sizeLine; decide, fun r hr2 => ?_⟩⟩⟩
      have s5 : Same H3 (upd H4 p (.tup ((List.range (((q.1.map V.str).length : Int)).toNat).filterMap fun i => ((q.1.zip q.2)[i]?).bind fun p => if decide (p.2 = 45) = true then some (V.str p.1) else none))) := same_upd (s4.free hp) s4
      have s6 := same_upd (o := .tup [V.ref m, V.ref p]) (s5.free hr2) s5
      have e6 := s6 _ _ e2
      have nBr : B ≠ r := fun z => by
        rw [← z] at hr2
        rw [s5 _ _ e2] at hr2
        cases hr2
      refine ⟨B, _, _, rfl, rfl, e6, small1000 ?_, _, _, _, rfl, same_upd hB (s2.trans s6), upd_same, ?_⟩
      · rw [a2.1, bars_len, List.length_take]
        omega
      rw [tki]
      have kt := kt_upd (o := .lst (ys ++ [V.ref r])) e6
      refine All2.snoc (a2.mono fun _ _ z => (z.kt s6.kt).kt kt) ⟨r, m, p, rfl, sqT_kt (SqT.new upd_same) kt, ((g2'.same s6)).kt kt, TT.kt (sqT_same (same_new hr2) (SqT.new ?_)) kt⟩
      rw [upd_same]
      have e1 : ((q.1.map V.str).length : Int).toNat = (q.1.zip q.2).length := by
        rw [List.length_map, Int.toNat_natCast, List.length_zip, okq.len]
        omega
      rw [e1, range_fm]
      unfold barP passedP markedP
      rw [List.map_filterMap]
      congr 3
      funext z
      by_cases hz : z.2 = 45
      · rw [if_pos hz, if_pos (decide_eq_true hz)]
        rfl
      · rw [if_neg hz, if_neg (fun y => hz (of_decide_eq_true y))]
        rfl
  · rintro σ H2 ⟨v2, v3, ys, rfl, s2, e2, a2⟩
    rw [List.take_of_length_le (by omega)] at a2
    exact ⟨_, rfl, k H2 B s2 ⟨ys, e2, a2⟩⟩
end
end Mh
end
section
set_option Elab.async false
set_option linter.all false
set_option maxRecDepth 100000
set_option maxHeartbeats 4000000
/-! MhL7: wants, what stays. -/
namespace Mh
open PySem PySem.Spec PyProof.Rows L2 MhX
open C8 (Cal Mak Met pe_c pe_mk pe_mt pe_mt0 pe_gc pss_cut tCut)
/-- a want: a list of pairs -/
def WtV (K : PySem.W.Frag) (H : Hp) (v : V) (W : List Br) : Prop := ∃ a, v = .ref a ∧ PrN K H a W
theorem WtV.same {K : PySem.W.Frag} {H H' : Hp} {v : V} {W : List Br} (h : WtV K H v W) (s : Same H H') : WtV K H' v W := by
  obtain ⟨a, e, p⟩ := h
  exact ⟨a, e, p.same s⟩
/-- all but the one at D stays -/
theorem PrN.but {K : PySem.W.Frag} {D : Addr} {H H' : Hp} {l : Addr} {Bs : List Br} {xs : List V} (h : PrN K H l Bs) (e : H D = some (.lst xs)) (b : But D H H') (ne : l ≠ D) : PrN K H' l Bs := by
  obtain ⟨vs, h1, h2⟩ := h
  exact ⟨vs, b _ _ ne h1, h2.mono fun _ _ r => r.kt (kt_lst e b)⟩
theorem dp_pr {K : PySem.W.Frag} {H : Hp} {v : V} {b : Br} (h : PrT K H v b) (t1 : ∀ t ∈ b.1, PyData.strOk t = true) (t2 : ∀ t ∈ b.2, PyData.strOk t = true) : ∃ d, Dp K H v d ∧ Sh 2 d := by
  obtain ⟨a, p, q, rfl, h1, h2, h3⟩ := h
  refine ⟨_, .tup h1 (.cons (dp_tt h2) (.cons (dp_tt h3) .nil)), .tuple (n := 1) fun d hd => ?_⟩
  rcases List.mem_cons.mp hd with rfl | hd
  · exact sh_txs t1
  · have e : d = .tuple (txs b.2) := by simpa using hd
    rw [e]
    exact sh_txs t2
theorem wt_txt {ns : List Str} {Ls : List (Lk Str)} (ok : ∀ l ∈ Ls, LpOk ns l) (no : NamesOk ns) {W : List Br} (hW : W ∈ wants0 Ls) : ∀ b ∈ W, (∀ t ∈ b.1, PyData.strOk t = true) ∧ ∀ t ∈ b.2, PyData.strOk t = true := fun b hb => by
  unfold wants0 at hW
  obtain ⟨l, hl, h⟩ := List.mem_flatMap.mp hW
  obtain ⟨t, ht, rfl⟩ := List.mem_map.mp h
  have e : b = (l.1, lessP l.1 t) := by simpa using hb
  rw [e]
  have tx : ∀ t ∈ l.1, PyData.strOk t = true := fun t ht => no.txt t ((ok l hl).sub.subset ht)
  exact ⟨tx, fun u hu => tx u (List.mem_filter.mp hu).1⟩
def wl (l : Lk Str) (k : Nat) : List (List Br) := ((((l.1.zip l.2).take k).filterMap fun q => if q.2 = 43 then some q.1 else none)).map fun t => [(l.1, lessP l.1 t)]
theorem wl_full (l : Lk Str) : wl l (l.1.zip l.2).length = (takenP l).map fun t => [(l.1, lessP l.1 t)] := by
  unfold wl takenP markedP
  rw [List.take_of_length_le (Nat.le_refl _)]
theorem wl_succ {l : Lk Str} {k : Nat} {t : Str} {c : Nat} (h1 : l.1[k]? = some t) (h2 : l.2[k]? = some c) : wl l (k + 1) = wl l k ++ if c = 43 then [[(l.1, lessP l.1 t)]] else [] := by
  unfold wl
  rw [List.take_succ, zip_at h1 h2, List.filterMap_append, List.map_append]
  congr 1
  by_cases e : c = 43 <;> simp [e]
theorem wl_len (l : Lk Str) (k : Nat) : (wl l k).length ≤ l.1.length := by
  unfold wl
  rw [List.length_map]
  refine Nat.le_trans (List.length_filterMap_le _ _) ?_
  rw [List.length_take, List.length_zip]
  omega
section
variable {P : Program} {w : World} {K : PySem.W.Frag} {mg : Str → Option Value} {base : Heap}
def spWants (K : PySem.W.Frag) : Sp := fun vs H Q _ => ∃ (l : Addr) (ns : List Str) (Ls : List (Lk Str)), vs = [.ref l] ∧ LpL K H l Ls ∧ NamesOk ns ∧ (∀ l ∈ Ls, LpOk ns l) ∧ Ls.length ≤ 20 ∧ ∀ H' p us, Same H H' → H' p = some (.lst us) → All2 (WtV K H') us (wantsP Ls) → Q (.ref p) H'
theorem sc_law_wants : FnScope ["_law_pairs", "_law_wants_here", "_law_menu_here", "_law_signs", "_law_k"] ["_law_pairs"] (L2.defScope (fnd 89)) := ⟨rfl, rfl, rfl, by decide +kernel, rfl, by decide +kernel, by decide +kernel⟩
theorem d_wants (T : Tx K mg) (D : DefF K mg "_law_wants" (fnd 89)) : Cal P w K mg base 1 "_law_wants" (spWants K) [] := by
  have S := sc_law_wants
  refine mkCal D S (fun _ _ _ _ _ _ us hl => match us, hl with | [_], _ => rfl) (fun vs H Q E h => ?_) (fun f cdv A outer s H vs Q E hr h => ?_)
  · obtain ⟨l, ns, Ls, rfl, _⟩ := h
    rfl
  obtain ⟨l, ns, Ls, rfl, ⟨us, h1, h2⟩, no, ok, l20, k⟩ := h
  have hul := h2.1
  have len0 : ∀ i, (wants0 (Ls.take i)).length ≤ 160 := fun i => by
    have := wants0_len (Ls.take i) fun l hl => lp_len (ok l (List.mem_of_mem_take hl)) no
    rw [List.length_take] at this
    omega
  -- slots: 0 _law_pairs, 1 _law_wants_here, 2 _law_menu_here, 3 _law_signs, 4 _law_k
  refine ⟨_, (pss_cons (ps_set (i := 1) S.nd rfl (Or.inl rfl) (pe_lst pa_nil)) 
    (pss_cons (ps_for PassesOwn.never rfl (pi_listK K (pv 0)) (pg_tupK K (n := 2) rfl (pgs_cons (pg_name (i := 2) S.nd rfl (Or.inl rfl)) (pgs_cons (pg_name (i := 3) S.nd rfl (Or.inl rfl)) pgs_nil))) (pss_one (ps_for PassesOwn.never rfl (pi_range1 rfl T.n.range (pa_cons (pe_callB (call_len_seqK K) rfl T.n.len (by rfl) (pa_cons (pv 2) pa_nil)) pa_nil)) (pg_name (i := 4) S.nd rfl (Or.inl rfl)) (pss_one (ps_if (pt_cmpR op_eq (pe_ix ix_str (pv 3) (pv 4) (fun _ _ => rfl)) pe_str (nomark _)) (pss_one (ps_expr (pe_bmK K F.plainAttrs_list F.slot_list_append F.type_list_append mt_append (pv 1) (pa_cons (pe_lst (pa_cons (pe_tup (pa_cons (pv 2) (pa_cons (pe_op (op_catAK K) (pe_slice (sl_tupAK K) (pv 2) po_none (po_some (pv 4))) (pe_slice (sl_tupAK K) (pv 2) (po_some (pe_op op_add (pv 4) pe_int)) po_none)) pa_nil))) pa_nil)) pa_nil)))) pss_nil))))) (pss_one (ps_ret (pe_ifExp (pt_cmpR (op_neDK K (hu64 hr)) (pv 1) (pe_lst pa_nil) (nomark _)) (pv 1) (pe_lst (pa_cons (pe_lst pa_nil) pa_nil))))))), ?_⟩
  refine ⟨Nat.zero_le _, fun B hB => ?_⟩
  have s0 : Same H (upd H B (.lst [])) := same_new hB
  refine ⟨_, rfl, l, rfl, ⟨_, s0.seq h1⟩, for_it walk_list (fun i σ H2 => ∃ v2 v3 v4 ys, σ = [some (.ref l), some (.ref B), v2, v3, v4] ∧ Same H H2 ∧ H2 B = some (.lst ys) ∧ All2 (WtV K H2) ys (wants0 (Ls.take i)) ∧ V.ref B ∉ ys) ⟨none, none, none, [], rfl, s0, upd_same, All2.nil, by simp⟩ (fun i σ H2 _ ⟨_, _, _, _, _, s2, _⟩ => s2.seq h1) ?_ ?_⟩
  · rintro i x σ H2 H3 hi ⟨v2, v3, v4, ys, rfl, s2, e2, a2, nb⟩ ⟨e0, hx⟩
    subst e0
    obtain ⟨q, hq, T1, m, rfl, g1, g2⟩ := h2.at hx
    have mq := List.mem_of_getElem? hq
    have okq := ok q mq
    have lq := lp_len okq no
    have ndq := lp_nodup okq no
    have lq2 := okq.len
    have tki : wants0 (Ls.take (i + 1)) = wants0 (Ls.take i) ++ (takenP q).map fun t => [(q.1, lessP q.1 t)] := by
      unfold wants0
      rw [List.take_succ, hq, List.flatMap_append]
      simp
    have g1' := sqT_same s2 g1
    have g2' := g2.same s2
    refine ⟨T1, _, rfl, g1', rfl, _, _, rfl, _, _, rfl, rfl, ?_⟩
    refine ⟨_, rfl, m, _, rfl, .inr g2', _, rfl, by rw [List.length_map]; omega, by rw [List.length_map]; omega, ?_⟩
    refine for_it walk_range (fun j σ H4 => ∃ v4 ys, σ = [some (.ref l), some (.ref B), some (.ref m), some (.str (mk q.2)), v4] ∧ Same H H4 ∧ H4 B = some (.lst ys) ∧ All2 (WtV K H4) ys (wants0 (Ls.take i) ++ wl q j) ∧ V.ref B ∉ ys) ⟨v4, ys, rfl, s2, e2, by
      have : wl q 0 = [] := by unfold wl; simp
      rw [this, List.append_nil]
      exact a2, nb⟩ (fun _ _ _ _ _ => trivial) ?_ ?_
    · rintro j x σ H4 H5 hj ⟨v4, ys4, rfl, s4, e4, a4, nb4⟩ ⟨e0, rfl⟩
      subst e0
      rw [List.length_map, Int.toNat_natCast] at hj
      have i1 : q.1[j]? = some q.1[j] := List.getElem?_eq_getElem hj
      obtain ⟨c, i2⟩ : ∃ c, q.2[j]? = some c := ⟨_, List.getElem?_eq_getElem (by omega)⟩
      have m5 := g2.same s4
      have lw := wl_len q j
      have l0 := len0 i
      have ly : ys4.length ≤ 200 := by
        rw [a4.1, List.length_append]
        omega
      refine ⟨_, rfl, _, rfl, mk q.2, _, c, rfl, rfl, ?_, ?_, rfl, _, rfl, ?_⟩
      · show (mk q.2).cps.size ≤ sizeLine
        have : (mk q.2).cps.size = q.2.length := by simp
        exact len_small (by omega)
      · rw [Int.zero_add]
        exact atI_nat (by simpa using i2)
      show if decide (sgn c = sgn 43) = true then _ else _
      rw [sign_eq]
      refine ite2 (fun e => ?_) (fun e => ?_)
      · have ec := of_decide_eq_true e
        have hjl : j < (q.1.map V.str).length := by rw [List.length_map]; exact hj
        refine ⟨_, rfl, .inl ⟨rfl, _, SqL.new e4⟩, _, rfl, _, rfl, _, rfl, _, rfl, ?_⟩
        refine slA_take (k := j) (by show (0 : Int) + (j : Nat) = (j : Int); omega) m5 hjl fun H6 p1 s6 t1 => ?_
        refine ⟨_, rfl, _, rfl, _, _, rfl, rfl, _, rfl, ?_⟩
        unfold tNoPart
        refine slA_drop (k := j) (by show (0 : Int) + (j : Nat) + 1 = (j : Int) + 1; omega) (m5.same s6) hjl fun H7 p2 s7 t2 => ?_
        refine catA_ok (sqT_same s7 t1) t2 ?_ fun H8 r s8 tr => ?_
        · rw [List.length_take, List.length_drop, List.length_map]
          omega
        rw [← List.map_take, ← List.map_drop, ← List.map_append, erase_less ndq i1] at tr
        refine ⟨by show 2 ≤ sizeLine; decide, fun d hd => ⟨by show 1 ≤ sizeLine; decide, fun L hL => ?_⟩⟩
        have s58 := (s6.trans s7).trans s8
        have sd := same_upd (o := .tup [V.ref m, V.ref r]) (s58.free hd) s58
        have sL := same_upd (o := .lst [V.ref d]) (sd.free hL) sd
        have e9 := sL _ _ e4
        have nLB : L ≠ B := fun z => by
          rw [z] at hL
          rw [sd _ _ e4] at hL
          cases hL
        refine ⟨B, _, _, rfl, rfl, e9, small1000 (by omega), some (.int (0 + (j : Nat))), ys4 ++ [V.ref L], rfl, same_upd hB (s4.trans sL), upd_same, ?_, ?_⟩
        · rw [wl_succ i1 i2, if_pos ec, ← List.append_assoc]
          have bt : But B (upd (upd H8 d (.tup [V.ref m, V.ref r])) L (.lst [V.ref d])) (upd (upd (upd H8 d (.tup [V.ref m, V.ref r])) L (.lst [V.ref d])) B (.lst (ys4 ++ [V.ref L]))) := but_upd
          have ktB := kt_lst e9 bt
          refine All2.snoc ⟨a4.1, fun i' x y hx hy => ?_⟩ ⟨L, rfl, [V.ref d], by rw [upd_ne nLB, upd_same], ?_⟩
          · obtain ⟨a', rfl, pn⟩ := a4.2 i' x y hx hy
            refine ⟨a', rfl, (pn.same sL).but e9 bt fun z => nb4 ?_⟩
            rw [← z]
            exact List.mem_of_getElem? hx
          · refine All2.snoc All2.nil ⟨d, m, r, rfl, ?_, ?_, ?_⟩
            · exact sqT_kt (sqT_same (same_new hL) (SqT.new upd_same)) ktB
            · exact (m5.same sL).kt ktB
            · exact TT.kt (sqT_same (same_new hL) (sqT_same (same_new hd) tr)) ktB
        · intro hm
          rcases List.mem_append.mp hm with z | z
          · exact nb4 z
          · have z2 := List.mem_singleton.mp z
            exact nLB (V.ref.inj z2).symm
      · refine ⟨_, ys4, rfl, s4, e4, ?_, nb4⟩
        rw [wl_succ i1 i2, if_neg (fun z => e (decide_eq_true z)), List.append_nil]
        exact a4
    · rintro σ H4 ⟨v4', ys4, rfl, s4, e4, a4, nb4⟩
      refine ⟨_, _, _, ys4, rfl, s4, e4, ?_, nb4⟩
      have ef : ((q.1.map V.str).length : Int).toNat = (q.1.zip q.2).length := by
        rw [List.length_map, Int.toNat_natCast, List.length_zip]
        omega
      rw [ef, wl_full] at a4
      rw [tki]
      exact a4
  · rintro σ H2 ⟨v2, v3, v4, ys, rfl, s2, e2, a2, nb⟩
    rw [List.take_of_length_le (by omega)] at a2
    refine ⟨_, rfl, Nat.zero_le _, fun D2 hD2 => ?_⟩
    have s3 : Same H2 (upd H2 D2 (.lst [])) := same_new hD2
    have nd : ∀ v ∈ ys, ∃ d, Dp K (upd H2 D2 (.lst [])) v d ∧ Sh 3 d := fun v hv => by
      obtain ⟨i, hi⟩ := List.getElem?_of_mem hv
      obtain ⟨W, hW, a, rfl, ws, e, pr⟩ := a2.at hi
      have tx := wt_txt ok no (List.mem_of_getElem? hW)
      obtain ⟨ds, d1, d2, d3⟩ := dpAll_of (K := K) (H := upd H2 D2 (.lst [])) (n := 2) (vs := ws) fun x hx => by
        obtain ⟨j, hj⟩ := List.getElem?_of_mem hx
        obtain ⟨b, hb, r⟩ := pr.at hj
        have t := tx b (List.mem_of_getElem? hb)
        exact dp_pr (r.kt s3.kt) t.1 t.2
      exact ⟨_, .lst (SqL.new (s3 _ _ e)) d1, .list d3⟩
    obtain ⟨ds, d1, d2, d3⟩ := dpAll_of nd
    refine ⟨.list ds, .list [], .lst (SqL.new (s3 _ _ e2)) d1, .lst (SqL.new upd_same) .nil, (Sh.list d3).shaped (by decide), sh_nilL.shaped (by decide), _, rfl, ?_⟩
    rw [eqv_nilL]
    have emp : ds.isEmpty = (wants0 Ls).isEmpty := by
      have l1 : ds.length = (wants0 Ls).length := by rw [d2, a2.1]
      rw [Bool.eq_iff_iff, List.isEmpty_iff, List.isEmpty_iff, ← List.length_eq_zero_iff, ← List.length_eq_zero_iff, l1]
    refine ite2 (fun e => ?_) (fun e => ?_)
    · refine ⟨_, rfl, k _ B ys (s2.trans s3) (s3 _ _ e2) ?_⟩
      have ne : (wants0 Ls).isEmpty = false := by
        rw [← emp]
        simpa using e
      unfold wantsP
      rw [ne, if_neg Bool.false_ne_true]
      exact a2.mono fun _ _ r => r.same s3
    · refine ⟨Nat.zero_le _, fun D3 hD3 => ⟨by show 1 ≤ sizeLine; decide, fun D4 hD4 => ?_⟩⟩
      have s4 := same_upd (o := .lst []) (s3.free hD3) s3
      have s5 := same_upd (o := .lst [V.ref D3]) (s4.free hD4) s4
      refine k _ D4 _ (s2.trans s5) upd_same ?_
      have ne : (wants0 Ls).isEmpty = true := by
        rw [← emp]
        cases q : ds.isEmpty with
        | true => rfl
        | false =>
          rw [q] at e
          exact absurd rfl e
      unfold wantsP
      rw [ne, if_pos rfl]
      have n34 : D3 ≠ D4 := ne_of_none upd_same hD4
      exact All2.snoc All2.nil ⟨D3, rfl, [], by rw [upd_ne n34, upd_same], All2.nil⟩
end
end Mh
end
section
set_option Elab.async false
set_option linter.all false
set_option maxRecDepth 100000
set_option maxHeartbeats 4000000
/-! MhL8: what stays; fit and told by the law's own way. -/
namespace Mh
open PySem PySem.Spec PyProof.Rows L2 MhX
open C8 (Cal Mak Met pe_c pe_mk pe_mt pe_mt0 pe_gc pss_cut tCut)
section
variable {P : Program} {w : World} {K : PySem.W.Frag} {mg : Str → Option Value} {base : Heap}
/-- pairs as bars: what is in them is known -/
structure BrOk (Bs : List Br) : Prop where
  few : Bs.length ≤ 100
  gone : ∀ b ∈ Bs, b.2.length ≤ 8 ∧ b.1.length ≤ 8
def spLeft (K : PySem.W.Frag) : Sp := fun vs H Q _ => ∃ (a l : Addr) (ns : List Str) (Bs : List Br), vs = [.ref a, .ref l] ∧ TT K H a ns ∧ NamesOk ns ∧ PrN K H l Bs ∧ BrOk Bs ∧ ∀ H' p, Same H H' → TT K H' p (fixL Bs ns) → Q (.ref p) H'
theorem step_sublist (B : List Br) (L : List Str) : (stepL B L).Sublist L := List.filter_sublist
theorem sc_law_left : FnScope ["_law_names_here", "_law_bars_here", "_law_left_here", "_law_turn", "_law_passed", "_law_menu_here", "_law_gone", "_law_thing"] ["_law_names_here", "_law_bars_here"] (L2.defScope (fnd 90)) := ⟨rfl, rfl, rfl, by decide +kernel, rfl, by decide +kernel, by decide +kernel⟩
theorem d_left (T : Tx K mg) (D : DefF K mg "_law_left" (fnd 90)) : Cal P w K mg base 1 "_law_left" (spLeft K) [] := by
  have S := sc_law_left
  refine mkCal D S (fun _ _ _ _ _ _ us hl => match us, hl with | [_, _], _ => rfl) (fun vs H Q E h => ?_) (fun f cdv A outer s H vs Q E hr h => ?_)
  · obtain ⟨a, l, ns, Bs, rfl, _⟩ := h
    rfl
  obtain ⟨a, l, ns, Bs, rfl, ha, no, ⟨us, h1, h2⟩, bo, k⟩ := h
  have hul := h2.1
  have few := no.few
  have fb := bo.few
  -- slots: 0 _law_names_here, 1 _law_bars_here, 2 _law_left_here, 3 _law_turn, 4 _law_passed, 5 _law_menu_here, 6 _law_gone, 7 _law_thing
  refine ⟨_, (pss_cons (ps_set (i := 2) S.nd rfl (Or.inr rfl) (pv 0)) 
    (pss_cons (ps_for PassesOwn.never rfl (pi_range1 rfl T.n.range (pa_cons (pe_callB (call_len_seqK K) rfl T.n.len (by rfl) (pa_cons (pv 0) pa_nil)) pa_nil)) (pg_name (i := 3) S.nd rfl (Or.inl rfl)) 
      (pss_cons (ps_if (pt_cmpR (op_eqDK K (hu64 hr)) (pv 2) (pe_tup pa_nil) (nomark _)) (pss_one (ps_ret (pv 2))) pss_nil) 
      (pss_cons (ps_set (i := 4) S.nd rfl (Or.inr rfl) (pe_lst pa_nil)) 
      (pss_cons (ps_for PassesOwn.never rfl (pi_listK K (pv 1)) (pg_tupK K (n := 2) rfl (pgs_cons (pg_name (i := 5) S.nd rfl (Or.inl rfl)) (pgs_cons (pg_name (i := 6) S.nd rfl (Or.inl rfl)) pgs_nil))) (pss_one (ps_if (pt_val (pe_callB (cr_allK K rfl) rfl T.n.all (by rfl) (pa_cons (pe_lc rfl S.nd (pi_tupK K (pv 5)) (blkOk_by (N := ["_law_names_here", "_law_bars_here", "_law_left_here", "_law_turn", "_law_passed", "_law_menu_here", "_law_gone", "_law_thing"]) (sc := L2.defScope (fnd 90)) (own := [("_law_thing", 7)]) (by decide +kernel)) (fun _ _ _ _ _ => (pg_name (i := 7) S.nd rfl (Or.inl rfl))) (fun _ _ _ _ _ => pts_nil) (fun _ _ _ _ _ => (pe_cmpR (op_in_seqK K) (pv 7) (pv 2) (by rfl)))) pa_nil))) (pss_one (ps_set (i := 4) S.nd rfl (Or.inr rfl) (pe_op op_cat (pv 4) (pe_callTy (call_list_ofK K) rfl T.n.list (by rfl) (pa_cons (pv 6) pa_nil))))) pss_nil))) (pss_one (ps_set (i := 2) S.nd rfl (Or.inr rfl) (pe_callTy (call_tuple_ofK K) rfl T.n.tuple (by rfl) (pa_cons (pe_lc rfl S.nd (pi_tupK K (pv 2)) (blkOk_by (N := ["_law_names_here", "_law_bars_here", "_law_left_here", "_law_turn", "_law_passed", "_law_menu_here", "_law_gone", "_law_thing"]) (sc := L2.defScope (fnd 90)) (own := [("_law_thing", 7)]) (by decide +kernel)) (fun _ _ _ _ _ => (pg_name (i := 7) S.nd rfl (Or.inl rfl))) (fun _ _ _ _ _ => (pts_one (pt_cmpR (op_in_seqK K) (pv 7) (pv 4) (by rfl)))) (fun _ _ _ _ _ => (pv 7))) pa_nil)))))))) (pss_one (ps_ret (pv 2))))), ?_⟩
  refine ⟨_, rfl, _, rfl, a, _, rfl, .inr ha, _, rfl, by rw [List.length_map]; omega, by rw [List.length_map]; omega, ?_⟩
  refine for_it walk_range (fun i σ H2 => ∃ (p : Addr) (L : List Str) (v3 v4 v5 v6 : Option V), σ = [some (.ref a), some (.ref l), some (.ref p), v3, v4, v5, v6, none] ∧ Same H H2 ∧ TT K H2 p L ∧ L.Sublist ns ∧ iterL Bs (ns.length - i) L = fixL Bs ns) ⟨a, ns, none, none, none, none, rfl, Same.refl _, ha, List.Sublist.refl _, rfl⟩ (fun _ _ _ _ _ => trivial) ?_ ?_
  · rintro i x σ H2 H3 hi ⟨p, L, v3, v4, v5, v6, rfl, s2, hp, sL, it⟩ ⟨e0, rfl⟩
    subst e0
    rw [List.length_map, Int.toNat_natCast] at hi
    have tx : ∀ t ∈ L, PyData.strOk t = true := fun t ht => no.txt t (sL.subset ht)
    refine ⟨_, rfl, Nat.zero_le _, fun e he => ?_⟩
    have s3 : Same H3 (upd H3 e (.tup [])) := same_new he
    refine ⟨_, _, dp_tt (hp.same s3), dp_tt (ns := []) (SqT.new upd_same), (sh_txs tx).shaped (by decide), sh_nilT.shaped (by decide), _, rfl, ?_⟩
    rw [eqv_tt]
    have s23 := s2.trans s3
    refine ite2 (fun c => ?_) (fun c => ?_)
    · have eL : L = [] := of_decide_eq_true c
      subst eL
      refine ⟨_, rfl, k _ p s23 ?_⟩
      rw [← it, iter_stable (step_nil Bs)]
      exact hp.same s3
    · refine ⟨Nat.zero_le _, fun B hB => ?_⟩
      have hp3 := hp.same s3
      generalize upd H3 e (.tup []) = H4 at s3 s23 hp3 hB
      have s4 : Same H4 (upd H4 B (.lst [])) := same_new hB
      have fB : H B = none := s23.free hB
      refine ⟨_, rfl, l, rfl, ⟨_, SqL.new ((s23.trans s4) _ _ h1)⟩, for_it walk_list (fun j σ H5 => ∃ (D1 : Addr) (ps : List Str) (v5 v6 : Option V), σ = [some (.ref a), some (.ref l), some (.ref p), some (.int (0 + ((i : Nat) : Int))), some (.ref D1), v5, v6, none] ∧ Same H4 H5 ∧ H D1 = none ∧ H5 D1 = some (.lst (ps.map V.str)) ∧ ps.length ≤ 8 * j ∧ ∀ t, t ∈ ps ↔ ∃ b ∈ Bs.take j, Sub b.1 L ∧ t ∈ b.2)
        ⟨B, [], v5, v6, rfl, s4, fB, upd_same, by decide, fun t => by simp⟩ (fun j σ H5 _ ⟨_, _, _, _, _, s5, _⟩ => SqL.new ((s23.trans s5) _ _ h1)) ?_ ?_⟩
      · rintro j x σ H5 H6 hj ⟨D1, ps, v5, v6, rfl, s5, fD, e5, lps, mem⟩ ⟨e0, hx⟩
        subst e0
        obtain ⟨b, hb, T1, m, g, rfl, q1, q2, q3⟩ := h2.at hx
        have mb := List.mem_of_getElem? hb
        obtain ⟨lb2, lb1⟩ := bo.gone b mb
        have s6 := s23.trans s5
        have tk : ∀ t, (∃ b' ∈ Bs.take (j + 1), Sub b'.1 L ∧ t ∈ b'.2) ↔ (∃ b' ∈ Bs.take j, Sub b'.1 L ∧ t ∈ b'.2) ∨ (Sub b.1 L ∧ t ∈ b.2) := fun t => by
          rw [List.take_succ, hb]
          constructor
          · rintro ⟨b', hb', q⟩
            rcases List.mem_append.mp hb' with z | z
            · exact .inl ⟨b', z, q⟩
            · have : b' = b := by simpa using z
              rw [← this]
              exact .inr q
          · rintro (⟨b', hb', q⟩ | q)
            · exact ⟨b', List.mem_append_left _ hb', q⟩
            · exact ⟨b, List.mem_append_right _ (by simp), q⟩
        have q2' := q2.same s6
        have q3' := q3.same s6
        refine ⟨T1, _, rfl, sqT_same s6 q1, rfl, _, _, rfl, _, _, rfl, rfl, ?_⟩
        refine ⟨_, rfl, m, rfl, ⟨_, q2'⟩, fun D2 hD2 => lc_seq walk_tup (fun _ => true) (fun t => V.bl (decide (t ∈ L))) hD2 (by omega) (fun H' s => q2'.same s) ?_ ?_⟩
        · intro t H7 mt s7 R k2
          refine ⟨rfl, _, rfl, _, rfl, p, _, rfl, .inr ((hp3.same s5).same s7), rfl, all_flat _, ?_⟩
          show R (some (V.bl (inV (.str t) (L.map V.str)))) H7
          rw [inV_str]
          exact (k2 H7 (Same.refl _)).1 rfl
        · intro H7 s7 e7
          have e7' : H7 D2 = some (.lst ((b.1.map fun t => decide (t ∈ L)).map V.bl)) := by
            rw [e7, List.map_map]
            congr 2
            rw [List.filter_eq_self.mpr fun _ _ => rfl]
            rfl
          refine ⟨D2, _, rfl, SqL.new e7', _, rfl, ?_⟩
          have s57 := s5.trans s7
          have all : (b.1.map fun t => decide (t ∈ L)).all id = true ↔ Sub b.1 L := by
            rw [List.all_map, List.all_eq_true]
            exact ⟨fun h x hx => of_decide_eq_true (h x hx), fun h x hx => decide_eq_true (h x hx)⟩
          refine ite2 (fun c2 => ?_) (fun c2 => ?_)
          · have sb := all.mp c2
            refine ⟨_, rfl, _, rfl, g, _, rfl, .inr (q3'.same s7), fun D3 hD3 => ?_⟩
            have s8 := same_upd (o := .lst (b.2.map V.str)) (s7.free hD3) s7
            refine ⟨D1, D3, _, _, rfl, rfl, s8 _ _ e5, upd_same, ?_, fun D4 hD4 => ?_⟩
            · rw [List.length_map, List.length_map]
              refine len_small ?_
              have : 8 * j ≤ 8 * 100 := by omega
              omega
            · have s9 := same_upd (o := .lst (ps.map V.str ++ b.2.map V.str)) (s8.free hD4) s8
              refine ⟨D4, ps ++ b.2, _, _, rfl, s5.trans s9, (s6.trans s8).free hD4, by rw [upd_same, List.map_append], by rw [List.length_append]; omega, fun t => ?_⟩
              rw [tk, List.mem_append, mem]
              exact ⟨fun h => h.imp id fun z => ⟨sb, z⟩, fun h => h.imp id fun z => z.2⟩
          · refine ⟨D1, ps, _, _, rfl, s57, fD, s7 _ _ e5, by omega, fun t => ?_⟩
            rw [tk, mem]
            exact ⟨.inl, fun h => h.elim id fun z => absurd (all.mpr z.1) c2⟩
      · rintro σ H5 ⟨D1, ps, v5', v6', rfl, s5, fD, e5, lps, mem⟩
        rw [List.take_of_length_le (by omega)] at mem
        have hp5 := hp3.same s5
        refine ⟨_, rfl, p, rfl, ⟨_, hp5⟩, fun D2 hD2 => lc_seq walk_tup (fun t => decide (t ∈ ps)) V.str hD2 (by have := sL.length_le; omega) (fun H' s => hp5.same s) ?_ ?_⟩
        · intro t H6 mt s6 R k2
          obtain ⟨k3, k4⟩ := k2 H6 (Same.refl _)
          refine ⟨rfl, _, rfl, _, rfl, D1, _, rfl, .inl (SqL.new (s6 _ _ e5)), rfl, all_flat _, _, rfl, ?_⟩
          show if inV (.str t) (ps.map V.str) = true then _ else _
          rw [inV_str]
          refine ite2 (fun e => ?_) (fun e => ?_)
          · exact ⟨_, rfl, k3 e⟩
          · exact k4 (by
              cases z : decide (t ∈ ps) with
              | false => rfl
              | true => exact absurd z e)
        · intro H6 s6 e6
          refine ⟨D2, _, rfl, .inl ⟨SqL.new e6, fun r hr2 => ?_⟩⟩
          have s7 := same_upd (o := .tup ((L.filter fun t => decide (t ∈ ps)).map V.str)) (s6.free hr2) s6
          have ef : (L.filter fun t => decide (t ∈ ps)) = stepL Bs L := by
            unfold stepL
            congr 1
            funext t
            rw [Bool.eq_iff_iff, decide_eq_true_iff, barred_iff]
            exact mem t
          refine ⟨r, stepL Bs L, _, _, _, _, rfl, s23.trans (s5.trans s7), SqT.new (by rw [upd_same, ef]), (step_sublist Bs L).trans sL, ?_⟩
          have e9 : ns.length - i = (ns.length - (i + 1)) + 1 := by omega
          rw [← it, e9]
          rfl
  · rintro σ H2 ⟨p, L, v3, v4, v5, v6, rfl, s2, hp, sL, it⟩
    refine ⟨_, rfl, k H2 p s2 ?_⟩
    rw [List.length_map, Int.toNat_natCast, Nat.sub_self] at it
    rw [← it]
    exact hp
end
end Mh
end
section
set_option Elab.async false
set_option linter.all false
set_option maxRecDepth 100000
set_option maxHeartbeats 4000000
/-! MhL9: fit and told by the law's own way. -/
namespace Mh
open PySem PySem.Spec PyProof.Rows L2 MhX
open C8 (Cal Mak Met pe_c pe_mk pe_mt pe_mt0 pe_gc pss_cut tCut)
theorem All2.app {α β : Type} {R : α → β → Prop} {xs ys : List α} {us vs : List β} (h : All2 R xs us) (g : All2 R ys vs) : All2 R (xs ++ ys) (us ++ vs) := by
  refine ⟨by rw [List.length_append, List.length_append, h.1, g.1], fun i x y hx hy => ?_⟩
  by_cases lt : i < xs.length
  · rw [List.getElem?_append_left lt] at hx
    rw [List.getElem?_append_left (by rw [← h.1]; exact lt)] at hy
    exact h.2 i x y hx hy
  · rw [List.getElem?_append_right (by omega)] at hx
    rw [List.getElem?_append_right (by rw [← h.1]; omega)] at hy
    rw [← h.1] at hy
    exact g.2 _ x y hx hy
def SmB (b : Br) : Prop := b.2.length ≤ 8 ∧ b.1.length ≤ 8
theorem bars_sm {ns : List Str} {Ls : List (Lk Str)} (no : NamesOk ns) (ok : ∀ l ∈ Ls, LpOk ns l) : ∀ b ∈ barsP Ls, SmB b := fun b hb => by
  obtain ⟨l, hl, rfl⟩ := List.mem_map.mp hb
  have h8 := lp_len (ok l hl) no
  refine ⟨?_, h8⟩
  show (passedP l).length ≤ 8
  refine Nat.le_trans (List.length_filterMap_le _ _) ?_
  rw [List.length_zip]
  omega
theorem less_le (M : List Str) (t : Str) : (lessP M t).length ≤ M.length := List.length_filter_le _ _
theorem want_sm {ns : List Str} {Ls : List (Lk Str)} (no : NamesOk ns) (ok : ∀ l ∈ Ls, LpOk ns l) {W : List Br} (hW : W ∈ wantsP Ls) : W.length ≤ 1 ∧ ∀ b ∈ W, SmB b := by
  rcases wants_mem hW with rfl | ⟨l, hl, t, _, rfl⟩
  · exact ⟨Nat.zero_le _, fun b hb => by cases hb⟩
  · refine ⟨Nat.le_refl _, fun b hb => ?_⟩
    have e : b = (l.1, lessP l.1 t) := by simpa using hb
    subst e
    have h8 := lp_len (ok l hl) no
    exact ⟨Nat.le_trans (less_le _ _) h8, h8⟩
theorem wantsP_len {ns : List Str} {Ls : List (Lk Str)} (no : NamesOk ns) (ok : ∀ l ∈ Ls, LpOk ns l) (l20 : Ls.length ≤ 20) : (wantsP Ls).length ≤ 161 := by
  have := wants0_len Ls fun l hl => lp_len (ok l hl) no
  unfold wantsP
  split
  · show 1 ≤ 161
    decide
  · omega
theorem br_app {A B : List Br} (ha : ∀ b ∈ A, SmB b) (hb : ∀ b ∈ B, SmB b) : ∀ b ∈ A ++ B, SmB b := fun b h => (List.mem_append.mp h).elim (ha b) (hb b)
theorem br_one {b : Br} (h : SmB b) : ∀ c ∈ [b], SmB c := fun c hc => by
  have e : c = b := by simpa using hc
  rw [e]
  exact h
section
variable {P : Program} {w : World} {K : PySem.W.Frag} {mg : Str → Option Value} {base : Heap}
def spLFit (K : PySem.W.Frag) : Sp := fun vs H Q _ => ∃ (a l : Addr) (ns : List Str) (Ls : List (Lk Str)), vs = [.ref a, .ref l] ∧ TT K H a ns ∧ NamesOk ns ∧ LpL K H l Ls ∧ (∀ l ∈ Ls, LpOk ns l) ∧ Ls.length ≤ 20 ∧ ∀ H', Same H H' → Q (.bl (decide (fitP ns Ls))) H'
theorem fix_txt {ns : List Str} (no : NamesOk ns) (B : List Br) : ∀ t ∈ fixL B ns, PyData.strOk t = true := fun t ht => no.txt t (fix_sub B ns t ht)
theorem sc_law_fit : FnScope ["_law_names_here", "_law_pairs", "_law_bars_here", "_law_want"] ["_law_names_here", "_law_pairs"] (L2.defScope (fnd 91)) := ⟨rfl, rfl, rfl, by decide +kernel, rfl, by decide +kernel, by decide +kernel⟩
theorem d_fit (T : Tx K mg) (D : DefF K mg "_law_fit" (fnd 91)) (c__law_bars : Cal P w K mg base 1 "_law_bars" (spBars K) []) (c__law_wants : Cal P w K mg base 1 "_law_wants" (spWants K) []) (c__law_left : Cal P w K mg base 1 "_law_left" (spLeft K) []) : Cal P w K mg base 2 "_law_fit" (spLFit K) [] := by
  have S := sc_law_fit
  refine mkCal D S (fun _ _ _ _ _ _ us hl => match us, hl with | [_, _], _ => rfl) (fun vs H Q E h => ?_) (fun f cdv A outer s H vs Q E hr h => ?_)
  · obtain ⟨a, l, ns, Ls, rfl, _⟩ := h
    rfl
  obtain ⟨a, l, ns, Ls, rfl, ha, no, hl, ok, l20, k⟩ := h
  -- slots: 0 _law_names_here, 1 _law_pairs, 2 _law_bars_here, 3 _law_want
  refine ⟨_, (pss_cons (ps_set (i := 2) S.nd rfl (Or.inr rfl) (pe_c c__law_bars hr (by decide) rfl (pa_cons (pv 1) pa_nil))) (pss_one (ps_ret (pe_callB (cr_allK K rfl) rfl T.n.all (by rfl) (pa_cons (pe_lc rfl S.nd (pi_listK K (pe_c c__law_wants hr (by decide) rfl (pa_cons (pv 1) pa_nil))) (blkOk_by (N := ["_law_names_here", "_law_pairs", "_law_bars_here", "_law_want"]) (sc := L2.defScope (fnd 91)) (own := [("_law_want", 3)]) (by decide +kernel)) (fun _ _ _ _ _ => (pg_name (i := 3) S.nd rfl (Or.inl rfl))) (fun _ _ _ _ _ => pts_nil) (fun _ _ _ _ _ => (pe_cmpR (op_eqDK K (hu64 hr)) (pe_c c__law_left hr (by decide) rfl (pa_cons (pv 0) (pa_cons (pe_op op_cat (pv 2) (pv 3)) pa_nil))) (pe_tup pa_nil) (nomark _)))) pa_nil))))), ?_⟩
  refine ⟨_, rfl, l, ns, Ls, rfl, hl, no, ok, l20, fun H1 pb s1 bp => ?_⟩
  refine ⟨_, rfl, l, ns, Ls, rfl, hl.same s1, no, ok, l20, fun H2 pw us s2 e2 a2 => ⟨pw, rfl, ⟨_, SqL.new e2⟩, fun D hD => lc_pure walk_list (fun i => ((wantsP Ls)[i]?).bind fun W => some (V.bl (decide (fixL (barsP Ls ++ W) ns = [])))) hD ?_ (fun H' s => SqL.new (s _ _ e2)) ?_ ?_⟩⟩
  · rw [a2.1]
    have := wantsP_len no ok l20
    exact len_small (by omega)
  · rintro i x H3 H4 hi s3 ⟨e0, hx⟩ R k2
    subst e0
    obtain ⟨W, hW, pW, rfl, ws, ew, aw⟩ := a2.at hx
    have mW := List.mem_of_getElem? hW
    obtain ⟨w1, w2⟩ := want_sm no ok mW
    obtain ⟨bs, eb, ab⟩ := bp.same (s2.trans s3)
    have ew3 := s3 _ _ ew
    have aw3 := aw.mono fun _ _ r => PrT.kt r s3.kt
    have lb : (barsP Ls).length = Ls.length := List.length_map _
    refine ⟨rfl, _, rfl, _, rfl, _, rfl, pb, pW, bs, ws, rfl, rfl, eb, ew3, ?_, fun p hp => ?_⟩
    · rw [ab.1, aw.1]
      exact len_small (by omega)
    have s5 : Same H4 (upd H4 p (.lst (bs ++ ws))) := same_new hp
    have s05 := ((s1.trans s2).trans s3).trans s5
    refine ⟨a, p, ns, barsP Ls ++ W, rfl, ha.same s05, no, ⟨_, upd_same, (ab.app aw3).mono fun _ _ r => PrT.kt r s5.kt⟩, ⟨by rw [List.length_append]; omega, br_app (bars_sm no ok) w2⟩, fun H6 q s6 tq => ⟨Nat.zero_le _, fun e he => ?_⟩⟩
    have s7 : Same H6 (upd H6 e (.tup [])) := same_new he
    refine ⟨_, _, dp_tt (tq.same s7), dp_tt (ns := []) (SqT.new upd_same), (sh_txs (fix_txt no _)).shaped (by decide), sh_nilT.shaped (by decide), ?_⟩
    rw [eqv_tt]
    have q9 := k2 _ ((s5.trans s6).trans s7)
    rw [hW] at q9
    exact q9
  · intro H3 s3 e3
    rw [a2.1, range_fm, fm_map] at e3
    refine ⟨D, (wantsP Ls).map fun W => decide (fixL (barsP Ls ++ W) ns = []), rfl, SqL.new (by rw [e3, List.map_map]; rfl), ?_⟩
    have q := k H3 ((s1.trans s2).trans s3)
    have e : ((wantsP Ls).map fun W => decide (fixL (barsP Ls ++ W) ns = [])).all id = decide (fitP ns Ls) := by
      rw [Bool.eq_iff_iff, List.all_map, List.all_eq_true, decide_eq_true_iff]
      exact ⟨fun h W hW => of_decide_eq_true (h W hW), fun h W hW => decide_eq_true (h W hW)⟩
    rw [e]
    exact q
end
end Mh
end
section
set_option Elab.async false
set_option linter.all false
set_option maxRecDepth 100000
set_option maxHeartbeats 4000000
/-! MhL10: told by the law's own way; the first promise that breaks; what is due. -/
namespace Mh
open PySem PySem.Spec PyProof.Rows L2 MhX
open C8 (Cal Mak Met pe_c pe_mk pe_mt pe_mt0 pe_gc pss_cut tCut)
section
variable {P : Program} {w : World} {K : PySem.W.Frag} {mg : Str → Option Value} {base : Heap}
def spLTold (K : PySem.W.Frag) : Sp := fun vs H Q _ => ∃ (a l m : Addr) (ns : List Str) (Ls : List (Lk Str)) (M : List Str) (z : Str), vs = [.ref a, .ref l, .ref m, .str z] ∧ TT K H a ns ∧ NamesOk ns ∧ LpL K H l Ls ∧ (∀ l ∈ Ls, LpOk ns l) ∧ Ls.length ≤ 20 ∧ TT K H m M ∧ M.length ≤ 8 ∧ ∀ H', Same H H' → Q (.str (wordP ns Ls M z)) H'
theorem sc_law_told : FnScope ["_law_names_here", "_law_pairs", "_law_menu_here", "_law_thing", "_law_bars_here", "_law_want", "_law_one"] ["_law_names_here", "_law_pairs", "_law_menu_here", "_law_thing"] (L2.defScope (fnd 92)) := ⟨rfl, rfl, rfl, by decide +kernel, rfl, by decide +kernel, by decide +kernel⟩
theorem d_told (T : Tx K mg) (D : DefF K mg "_law_told" (fnd 92)) (c__law_bars : Cal P w K mg base 1 "_law_bars" (spBars K) []) (c__law_wants : Cal P w K mg base 1 "_law_wants" (spWants K) []) (c__law_left : Cal P w K mg base 1 "_law_left" (spLeft K) []) : Cal P w K mg base 2 "_law_told" (spLTold K) [] := by
  have S := sc_law_told
  refine mkCal D S (fun _ _ _ _ _ _ us hl => match us, hl with | [_, _, _, _], _ => rfl) (fun vs H Q E h => ?_) (fun f cdv A outer s H vs Q E hr h => ?_)
  · obtain ⟨a, l, m, ns, Ls, M, z, rfl, _⟩ := h
    rfl
  obtain ⟨a, l, m, ns, Ls, M, z, rfl, ha, no, hl, ok, l20, hm, lM, k⟩ := h
  have lb : (barsP Ls).length = Ls.length := List.length_map _
  -- slots: 0 _law_names_here, 1 _law_pairs, 2 _law_menu_here, 3 _law_thing, 4 _law_bars_here, 5 _law_want, 6 _law_one
  refine ⟨_, (pss_cons (ps_set (i := 4) S.nd rfl (Or.inl rfl) (pe_c c__law_bars hr (by decide) rfl (pa_cons (pv 1) pa_nil))) 
    (pss_cons (ps_if (pt_cmpR (op_neDK K (hu64 hr)) (pe_c c__law_left hr (by decide) rfl (pa_cons (pv 0) (pa_cons (pe_op op_cat (pv 4) (pe_lst (pa_cons (pe_tup (pa_cons (pv 2) (pa_cons (pe_callTy (call_tuple_ofK K) rfl T.n.tuple (by rfl) (pa_cons (pe_lc rfl S.nd (pi_tupK K (pv 2)) (blkOk_by (N := ["_law_names_here", "_law_pairs", "_law_menu_here", "_law_thing", "_law_bars_here", "_law_want", "_law_one"]) (sc := L2.defScope (fnd 92)) (own := [("_law_one", 6)]) (by decide +kernel)) (fun _ _ _ _ _ => (pg_name (i := 6) S.nd rfl (Or.inl rfl))) (fun _ _ _ _ _ => (pts_one (pt_cmpR op_ne (pv 6) (pv 3) (nomark _)))) (fun _ _ _ _ _ => (pv 6))) pa_nil)) pa_nil))) pa_nil))) pa_nil))) (pe_tup pa_nil) (nomark _)) (pss_one (ps_ret pe_str)) pss_nil) 
    (pss_cons (ps_for PassesOwn.never rfl (pi_listK K (pe_c c__law_wants hr (by decide) rfl (pa_cons (pv 1) pa_nil))) (pg_name (i := 5) S.nd rfl (Or.inl rfl)) (pss_one (ps_if (pt_cmpR (op_neDK K (hu64 hr)) (pe_c c__law_left hr (by decide) rfl (pa_cons (pv 0) (pa_cons (pe_op op_cat (pe_op op_cat (pv 4) (pv 5)) (pe_lst (pa_cons (pe_tup (pa_cons (pv 2) (pa_cons (pe_tup (pa_cons (pv 3) pa_nil)) pa_nil))) pa_nil))) pa_nil))) (pe_tup pa_nil) (nomark _)) (pss_one (ps_ret pe_str)) pss_nil))) (pss_one (ps_ret pe_str))))), ?_⟩
  refine ⟨_, rfl, l, ns, Ls, rfl, hl, no, ok, l20, fun H1 pb s1 bp => ?_⟩
  have hm1 := hm.same s1
  refine ⟨_, rfl, _, rfl, _, rfl, _, rfl, m, rfl, ⟨_, hm1⟩, fun D2 hD2 => lc_seq walk_tup (fun t => decide (t ≠ z)) V.str hD2 (by omega) (fun H' s => hm1.same s) ?_ ?_⟩
  · intro t H3 mt s3 R k2
    obtain ⟨k3, k4⟩ := k2 H3 (Same.refl _)
    refine ⟨rfl, _, rfl, _, rfl, rfl, _, rfl, ?_⟩
    by_cases e : t = z
    · have e2 : decide (V.str t = V.str z) = true := by simp [e]
      rw [e2]
      exact iteF (k4 (by simp [e]))
    · have e2 : decide (V.str t = V.str z) = false := by simp [e]
      rw [e2]
      exact iteT ⟨_, rfl, k3 (by simp [e])⟩
  intro H3 s3 e3
  refine ⟨D2, _, rfl, .inl ⟨SqL.new e3, fun r hr2 => ⟨by show 2 ≤ sizeLine; decide, fun d hd => ⟨by show 1 ≤ sizeLine; decide, fun L hL => ?_⟩⟩⟩⟩
  have s4 := same_upd (o := .tup ((M.filter fun t => decide (t ≠ z)).map V.str)) (s3.free hr2) s3
  have s5 := same_upd (o := .tup [V.ref m, V.ref r]) (s4.free hd) s4
  have s6 := same_upd (o := .lst [V.ref d]) (s5.free hL) s5
  obtain ⟨bs, eb, ab⟩ := bp.same s6
  refine ⟨pb, L, bs, _, rfl, rfl, eb, upd_same, ?_, fun p hp => ?_⟩
  · rw [ab.1]
    exact len_small (by show _ + 1 ≤ 1000; omega)
  have s7 := same_upd (o := .lst (bs ++ [V.ref d])) (s6.free hp) s6
  have s17 := s1.trans s7
  have nLd : d ≠ L := ne_of_none upd_same hL
  have hpr : PrT K (upd (upd (upd (upd H3 r (.tup ((M.filter fun t => decide (t ≠ z)).map V.str))) d (.tup [V.ref m, V.ref r])) L (.lst [V.ref d])) p (.lst (bs ++ [V.ref d]))) (.ref d) (M, lessP M z) := by
    refine ⟨d, m, r, rfl, ?_, hm1.same s7, ?_⟩
    · exact sqT_same (same_new hp) (sqT_same (same_new hL) (SqT.new upd_same))
    · exact sqT_same (same_new hp) (sqT_same (same_new hL) (sqT_same (same_new hd) (SqT.new upd_same)))
  refine ⟨a, p, ns, barsP Ls ++ [(M, lessP M z)], rfl, ha.same s17, no, ⟨_, upd_same, All2.app (ab.mono fun _ _ r => PrT.kt r (same_new hp).kt) (All2.snoc All2.nil hpr)⟩, ⟨by rw [List.length_append]; show _ + 1 ≤ 100; omega, br_app (bars_sm no ok) (br_one ⟨Nat.le_trans (less_le M z) lM, lM⟩)⟩, fun H6 q s8 tq => ⟨Nat.zero_le _, fun e he => ?_⟩⟩
  have s9 : Same H6 (upd H6 e (.tup [])) := same_new he
  refine ⟨_, _, dp_tt (tq.same s9), dp_tt (ns := []) (SqT.new upd_same), (sh_txs (fix_txt no _)).shaped (by decide), sh_nilT.shaped (by decide), _, rfl, ?_⟩
  rw [eqv_tt]
  have sA := (s17.trans s8).trans s9
  have sA1 := (s7.trans s8).trans s9
  refine ite2 (fun c => ?_) (fun c => ?_)
  · have q := k _ sA
    unfold wordP at q
    have c2 : neverP ns Ls M z := by
      unfold neverP
      simpa using c
    rw [if_pos c2] at q
    exact q
  have nv : ¬ neverP ns Ls M z := fun h => c (by unfold neverP at h; simpa using h)
  refine ⟨_, rfl, l, ns, Ls, rfl, hl.same sA, no, ok, l20, fun HB pw us sB e2 a2 => ⟨pw, rfl, ⟨_, SqL.new e2⟩, ?_⟩⟩
  refine for_it walk_list (fun i σ H2 => ∃ v5 v6, σ = [some (.ref a), some (.ref l), some (.ref m), some (.str z), some (.ref pb), v5, v6] ∧ Same HB H2 ∧ ∀ j W, j < i → (wantsP Ls)[j]? = some W → fixL (barsP Ls ++ W ++ [(M, [z])]) ns = []) ⟨none, none, rfl, Same.refl _, fun j W h => absurd h (Nat.not_lt_zero _)⟩ (fun i σ H2 _ ⟨_, _, _, s2, _⟩ => SqL.new (s2 _ _ e2)) ?_ ?_
  · rintro i x σ HC HC' hi ⟨v5, v6, rfl, sC, done⟩ ⟨e0, hx⟩
    subst e0
    obtain ⟨W, hW, pW, rfl, ws, ew, aw⟩ := a2.at hx
    have mW := List.mem_of_getElem? hW
    obtain ⟨w1, w2⟩ := want_sm no ok mW
    have sBC := sB.trans sC
    have bpC := bp.same (sA1.trans sBC)
    obtain ⟨bs, eb, ab⟩ := bpC
    have ewC := sC _ _ ew
    have awC := aw.mono fun _ _ r => PrT.kt r sC.kt
    refine ⟨_, rfl, _, rfl, _, rfl, pb, pW, bs, ws, rfl, rfl, eb, ewC, ?_, fun p1 hp1 => ?_⟩
    · rw [ab.1, aw.1]
      exact len_small (by omega)
    have s10 : Same HC' (upd HC' p1 (.lst (bs ++ ws))) := same_new hp1
    refine ⟨_, rfl, _, rfl, by show 1 ≤ sizeLine; decide, fun r1 hr1 => ⟨by show 2 ≤ sizeLine; decide, fun d1 hd1 => ⟨by show 1 ≤ sizeLine; decide, fun L1 hL1 => ?_⟩⟩⟩
    have s11 := same_upd (o := .tup [V.str z]) (s10.free hr1) s10
    have s12 := same_upd (o := .tup [V.ref m, V.ref r1]) (s11.free hd1) s11
    have s13 := same_upd (o := .lst [V.ref d1]) (s12.free hL1) s12
    refine ⟨p1, L1, bs ++ ws, _, rfl, rfl, ?_, upd_same, ?_, fun p2 hp2 => ?_⟩
    · exact same_new hL1 _ _ (same_new hd1 _ _ (same_new hr1 _ _ upd_same))
    · rw [List.length_append, ab.1, aw.1]
      exact len_small (by show _ + 1 ≤ 1000; omega)
    have s14 := same_upd (o := .lst (bs ++ ws ++ [V.ref d1])) (s13.free hp2) s13
    have s0E := ((sA.trans sBC)).trans s14
    have hpr : PrT K (upd (upd (upd (upd (upd HC' p1 (.lst (bs ++ ws))) r1 (.tup [V.str z])) d1 (.tup [V.ref m, V.ref r1])) L1 (.lst [V.ref d1])) p2 (.lst (bs ++ ws ++ [V.ref d1]))) (.ref d1) (M, [z]) := by
      refine ⟨d1, m, r1, rfl, ?_, hm.same s0E, ?_⟩
      · exact sqT_same (same_new hp2) (sqT_same (same_new hL1) (SqT.new upd_same))
      · exact sqT_same (same_new hp2) (sqT_same (same_new hL1) (sqT_same (same_new hd1) (SqT.new upd_same)))
    refine ⟨a, p2, ns, barsP Ls ++ W ++ [(M, [z])], rfl, ha.same s0E, no, ⟨_, upd_same, All2.app ((ab.app awC).mono fun _ _ r => PrT.kt r s14.kt) (All2.snoc All2.nil hpr)⟩, ⟨by rw [List.length_append, List.length_append]; show _ + 1 ≤ 100; omega, br_app (br_app (bars_sm no ok) w2) (br_one ⟨by show 1 ≤ 8; decide, lM⟩)⟩, fun HF q2 sF tq2 => ⟨Nat.zero_le _, fun e4 he4 => ?_⟩⟩
    have s15 : Same HF (upd HF e4 (.tup [])) := same_new he4
    refine ⟨_, _, dp_tt (tq2.same s15), dp_tt (ns := []) (SqT.new upd_same), (sh_txs (fix_txt no _)).shaped (by decide), sh_nilT.shaped (by decide), _, rfl, ?_⟩
    rw [eqv_tt]
    have sZ := (s14.trans sF).trans s15
    refine ite2 (fun c1 => ?_) (fun c1 => ?_)
    · have q := k _ ((sA.trans sBC).trans sZ)
      unfold wordP at q
      have c2 : ¬ fixL (barsP Ls ++ W ++ [(M, [z])]) ns = [] := by simpa using c1
      rw [if_neg nv, if_pos ⟨W, mW, c2⟩] at q
      exact q
    · refine ⟨_, _, rfl, sC.trans sZ, fun j W' hj hW' => ?_⟩
      rcases Nat.lt_succ_iff_lt_or_eq.mp hj with y | y
      · exact done j W' y hW'
      · subst y
        rw [hW] at hW'
        cases hW'
        simpa using c1
  · rintro σ HC ⟨v5, v6, rfl, sC, done⟩
    have q := k _ ((sA.trans sB).trans sC)
    unfold wordP at q
    have ns' : ¬ sureP ns Ls M z := fun ⟨W, mW, h⟩ => by
      obtain ⟨j, hj⟩ := List.getElem?_of_mem mW
      refine h (done j W ?_ hj)
      rw [a2.1]
      exact (List.getElem?_eq_some_iff.mp hj).1
    rw [if_neg nv, if_neg ns'] at q
    exact q
/-! ### the first promise that breaks; what is due -/
def VwL (K : PySem.W.Frag) (H : Hp) (l : Addr) (Vs : List Vow) : Prop := ∃ vs : List V, SqL K H l vs ∧ All2 (VwV K H) vs Vs
theorem VwL.same {K : PySem.W.Frag} {H H' : Hp} {l : Addr} {Vs : List Vow} (h : VwL K H l Vs) (e : Same H H') : VwL K H' l Vs := by
  obtain ⟨vs, h1, h2⟩ := h
  exact ⟨vs, e.seq h1, h2.mono fun _ _ r => r.kt e.kt⟩
def kV : Option Nat → V
  | none => .non
  | some k => .int (k : Nat)
def spLFirst (K : PySem.W.Frag) : Sp := fun vs H Q _ => ∃ (a l t : Addr) (ns : List Str) (Ls : List (Lk Str)) (Vs : List Vow), vs = [.ref a, .ref l, .ref t] ∧ TT K H a ns ∧ NamesOk ns ∧ LpL K H l Ls ∧ (∀ l ∈ Ls, LpOk ns l) ∧ Ls.length ≤ 20 ∧ VwL K H t Vs ∧ (∀ q ∈ Vs, VwOk ns q) ∧ Vs.length ≤ 100 ∧ ∀ H', Same H H' → Q (kV (firstP ns Ls Vs)) H'
theorem sc_law_first : FnScope ["_law_names_here", "_law_pairs", "_law_vows", "_law_k", "_law_word", "_law_menu_here", "_law_thing"] ["_law_names_here", "_law_pairs", "_law_vows"] (L2.defScope (fnd 94)) := ⟨rfl, rfl, rfl, by decide +kernel, rfl, by decide +kernel, by decide +kernel⟩
theorem d_first (T : Tx K mg) (D : DefF K mg "_law_first" (fnd 94)) (c__law_told : Cal P w K mg base 2 "_law_told" (spLTold K) []) : Cal P w K mg base 3 "_law_first" (spLFirst K) [] := by
  have S := sc_law_first
  refine mkCal D S (fun _ _ _ _ _ _ us hl => match us, hl with | [_, _, _], _ => rfl) (fun vs H Q E h => ?_) (fun f cdv A outer s H vs Q E hr h => ?_)
  · obtain ⟨a, l, t, ns, Ls, Vs, rfl, _⟩ := h
    rfl
  obtain ⟨a, l, t, ns, Ls, Vs, rfl, ha, no, hl, ok, l20, ⟨us, h1, h2⟩, okV, lV, k⟩ := h
  have hul := h2.1
  -- slots: 0 _law_names_here, 1 _law_pairs, 2 _law_vows, 3 _law_k, 4 _law_word, 5 _law_menu_here, 6 _law_thing
  refine ⟨_, (pss_cons (ps_for PassesOwn.never rfl (pi_range1 rfl T.n.range (pa_cons (pe_callB (call_len_seqK K) rfl T.n.len (by rfl) (pa_cons (pv 2) pa_nil)) pa_nil)) (pg_name (i := 3) S.nd rfl (Or.inl rfl)) 
      (pss_cons (ps_asg (pe_ix (ix_listK K) (pv 2) (pv 3) (fun _ _ => rfl)) (pg_tupK K (n := 3) rfl (pgs_cons (pg_name (i := 4) S.nd rfl (Or.inl rfl)) (pgs_cons (pg_name (i := 5) S.nd rfl (Or.inl rfl)) (pgs_cons (pg_name (i := 6) S.nd rfl (Or.inl rfl)) pgs_nil))))) (pss_one (ps_if (pt_cmpR op_ne (pe_c c__law_told hr (by decide) rfl (pa_cons (pv 0) (pa_cons (pv 1) (pa_cons (pv 5) (pa_cons (pv 6) pa_nil))))) (pv 4) (nomark _)) (pss_one (ps_ret (pv 3))) pss_nil)))) (pss_one (ps_ret pe_non))), ?_⟩
  refine ⟨_, rfl, t, us, rfl, .inl h1, _, rfl, by omega, by omega, ?_⟩
  refine for_it walk_range (fun i σ H2 => ∃ v3 v4 v5 v6, σ = [some (.ref a), some (.ref l), some (.ref t), v3, v4, v5, v6] ∧ Same H H2 ∧ ∀ j q, j < i → Vs[j]? = some q → wordP ns Ls q.2.1 q.2.2 = q.1) ⟨none, none, none, none, rfl, Same.refl _, fun j q h => absurd h (Nat.not_lt_zero _)⟩ (fun _ _ _ _ _ => trivial) ?_ ?_
  · rintro i x σ H2 H3 hi ⟨v3, v4, v5, v6, rfl, s2, done⟩ ⟨e0, rfl⟩
    subst e0
    rw [Int.toNat_natCast] at hi
    obtain ⟨q, hq⟩ : ∃ q, Vs[i]? = some q := ⟨_, List.getElem?_eq_getElem (by omega)⟩
    have hy : us[i]? = some us[i] := List.getElem?_eq_getElem hi
    obtain ⟨T2, m, eT, g1, g2⟩ := h2.2 i _ q hy hq
    rw [eT] at hy
    have mq := okV q (List.mem_of_getElem? hq)
    have no2 := mq.names
    refine ⟨_, rfl, _, rfl, t, _, _, _, rfl, rfl, s2.seq h1, by rw [Int.zero_add]; exact atI_nat hy, T2, _, rfl, sqT_same s2 g1, rfl, _, _, rfl, _, _, rfl, _, _, rfl, rfl, ?_⟩
    refine ⟨_, rfl, _, rfl, _, rfl, _, rfl, a, l, m, ns, Ls, q.2.1, q.2.2, rfl, ha.same s2, no, hl.same s2, ok, l20, g2.same s2, mq.few, fun H4 s4 => ⟨_, rfl, rfl, _, rfl, ?_⟩⟩
    show if (!decide (V.str (wordP ns Ls q.2.1 q.2.2) = V.str q.1)) = true then _ else _
    by_cases e : wordP ns Ls q.2.1 q.2.2 = q.1
    · have e2 : decide (V.str (wordP ns Ls q.2.1 q.2.2) = V.str q.1) = true := decide_eq_true (congrArg V.str e)
      rw [e2]
      refine iteF ⟨_, _, _, _, rfl, s2.trans s4, fun j q' hj hq' => ?_⟩
      rcases Nat.lt_succ_iff_lt_or_eq.mp hj with z | z
      · exact done j q' z hq'
      · subst z
        rw [hq] at hq'
        cases hq'
        exact e
    · have e2 : decide (V.str (wordP ns Ls q.2.1 q.2.2) = V.str q.1) = false := decide_eq_false fun z => e (V.str.inj z)
      rw [e2]
      refine iteT ⟨_, rfl, ?_⟩
      have ef : firstP ns Ls Vs = some i := findIdx_at hq (by rw [decide_eq_false e]; rfl) fun j q' hj hq' => by
        rw [decide_eq_true (done j q' hj hq')]
        rfl
      have q9 := k _ (s2.trans s4)
      rw [ef] at q9
      show Q (V.int (0 + ((i : Nat) : Int))) _
      rw [Int.zero_add]
      exact q9
  · rintro σ H2 ⟨v3, v4, v5, v6, rfl, s2, done⟩
    have q9 := k H2 s2
    have ef : firstP ns Ls Vs = none := by
      unfold firstP
      rw [List.findIdx?_eq_none_iff]
      intro q hq
      obtain ⟨j, hj⟩ := List.getElem?_of_mem hq
      have lt : j < us.length := by
        rw [h2.1]
        exact (List.getElem?_eq_some_iff.mp hj).1
      rw [decide_eq_true (done j q (by rw [Int.toNat_natCast]; exact lt) hj)]
      rfl
    rw [ef] at q9
    exact q9
/-- what is due when one more look, or one less, is to be seen -/
def dueP (ns : List Str) (n : Nat) (Ls : List (Lk Str)) (Vs : List Vow) : Str × V :=
  if fitP ns Ls then (match firstP ns Ls Vs with
    | none => ("told", .non)
    | some k => ("Broken", .str (toString ((k : Nat) : Int))))
  else ("Clash", .str (toString ((n : Nat) : Int)))
theorem log_small {n : Nat} (h : n ≤ 1000) : ((n : Nat) : Int).natAbs.log2 < 1920 := by
  rw [Int.natAbs_natCast]
  exact Nat.lt_of_le_of_lt (Nat.le_trans (Nat.log2_le_self n) h) (by decide)
def spDue (K : PySem.W.Frag) : Sp := fun vs H Q _ => ∃ (a l0 l t : Addr) (ns : List Str) (L0 Ls : List (Lk Str)) (Vs : List Vow), vs = [.ref a, .ref l0, .ref l, .ref t] ∧ TT K H a ns ∧ NamesOk ns ∧ LpL K H l0 L0 ∧ L0.length ≤ 20 ∧ LpL K H l Ls ∧ (∀ l ∈ Ls, LpOk ns l) ∧ Ls.length ≤ 20 ∧ VwL K H t Vs ∧ (∀ q ∈ Vs, VwOk ns q) ∧ Vs.length ≤ 100 ∧ ∀ H' d, Same H H' → SqT K H' d [.str (dueP ns L0.length Ls Vs).1, (dueP ns L0.length Ls Vs).2] → Q (.ref d) H'
theorem sc_law_due : FnScope ["_law_names_here", "_law_pairs", "_law_later", "_law_vows", "_law_wrong"] ["_law_names_here", "_law_pairs", "_law_later", "_law_vows"] (L2.defScope (fnd 95)) := ⟨rfl, rfl, rfl, by decide +kernel, rfl, by decide +kernel, by decide +kernel⟩
theorem d_due (T : Tx K mg) (D : DefF K mg "_law_due" (fnd 95)) (c__law_fit : Cal P w K mg base 2 "_law_fit" (spLFit K) []) (c__law_first : Cal P w K mg base 3 "_law_first" (spLFirst K) []) : Cal P w K mg base 4 "_law_due" (spDue K) [] := by
  have S := sc_law_due
  refine mkCal D S (fun _ _ _ _ _ _ us hl => match us, hl with | [_, _, _, _], _ => rfl) (fun vs H Q E h => ?_) (fun f cdv A outer s H vs Q E hr h => ?_)
  · obtain ⟨a, l0, l, t, ns, L0, Ls, Vs, rfl, _⟩ := h
    rfl
  obtain ⟨a, l0, l, t, ns, L0, Ls, Vs, rfl, ha, no, ⟨vs0, g1, g2⟩, l020, hl, ok, l20, ⟨us, h1, h2⟩, okV, lV, k⟩ := h
  unfold dueP at k
  -- slots: 0 _law_names_here, 1 _law_pairs, 2 _law_later, 3 _law_vows, 4 _law_wrong
  refine ⟨_, (pss_cons (ps_if (pt_not (pt_val (pe_c c__law_fit hr (by decide) rfl (pa_cons (pv 0) (pa_cons (pv 2) pa_nil))))) (pss_one (ps_ret (pe_tup (pa_cons pe_str (pa_cons (pe_callB SkE.call_repr_int rfl T.n.repr (by rfl) (pa_cons (pe_callB (call_len_seqK K) rfl T.n.len (by rfl) (pa_cons (pv 1) pa_nil)) pa_nil)) pa_nil))))) pss_nil) 
    (pss_cons (ps_set (i := 4) S.nd rfl (Or.inl rfl) (pe_c c__law_first hr (by decide) rfl (pa_cons (pv 0) (pa_cons (pv 2) (pa_cons (pv 3) pa_nil))))) (pss_one (ps_ret (pe_ifExp (pt_cmpR op_isN (pv 4) pe_non (nomark _)) (pe_tup (pa_cons pe_str (pa_cons pe_non pa_nil))) (pe_tup (pa_cons pe_str (pa_cons (pe_callB SkE.call_repr_int rfl T.n.repr (by rfl) (pa_cons (pv 4) pa_nil)) pa_nil)))))))), ?_⟩
  refine ⟨_, rfl, _, rfl, a, l, ns, Ls, rfl, ha, no, hl, ok, l20, fun H1 s1 => ⟨_, rfl, ?_⟩⟩
  have hn : vs0.length = L0.length := g2.1
  by_cases c : fitP ns Ls
  · rw [decide_eq_true c]
    rw [if_pos c] at k
    refine iteF ⟨_, rfl, _, rfl, _, rfl, a, l, t, ns, Ls, Vs, rfl, ha.same s1, no, hl.same s1, ok, l20, ⟨us, s1.seq h1, h2.mono fun _ _ r => r.kt s1.kt⟩, okV, lV, fun H2 s2 => ?_⟩
    cases ef : firstP ns Ls Vs with
    | none =>
      rw [ef] at k
      refine ⟨_, rfl, rfl, _, rfl, iteT ⟨by show 2 ≤ sizeLine; decide, fun d hd => ?_⟩⟩
      exact k _ d ((s1.trans s2).trans (same_new hd)) (SqT.new upd_same)
    | some i =>
      rw [ef] at k
      have hi : i < Vs.length := (List.findIdx?_eq_some_iff_getElem.mp ef).1
      refine ⟨_, rfl, rfl, _, rfl, iteF ⟨_, rfl, _, rfl, log_small (by omega), by show 2 ≤ sizeLine; decide, fun d hd => ?_⟩⟩
      exact k _ d ((s1.trans s2).trans (same_new hd)) (SqT.new upd_same)
  · rw [decide_eq_false c]
    rw [if_neg c] at k
    refine iteT ⟨_, rfl, l0, vs0, rfl, .inl (s1.seq g1), _, rfl, log_small (by omega), by show 2 ≤ sizeLine; decide, fun d hd => ?_⟩
    rw [hn]
    exact k _ d (s1.trans (same_new hd)) (SqT.new upd_same)
end
end Mh
end
section
set_option Elab.async false
set_option linter.all false
set_option maxRecDepth 100000
set_option maxHeartbeats 4000000
/-! MhL11: of which sort a caught exception is; its field. -/
namespace Mh
open PySem PySem.Spec PyProof.Rows L2 MhX
open C8 (Cal Mak Met pe_c pe_mk pe_mt pe_mt0 pe_gc pss_cut tCut)
open L2H (RoomH PinOk cxH inv_startH)
theorem call_isXK {X : Cx} {a D dd : Addr} {oe : Obj} (K : PySem.W.Frag) (C : ExcC K D) (hp : (a, oe) ∈ X.pn) (hz : Zc (.ref D) (some dd) oe) (hf : ∃ vs, oe.data = .fields vs) (h : X.K = K := by rfl) : CallR X (.builtin "isinstance") (rIsX K D a dd) := by
  subst h
  exact call_isX C hp hz hf
theorem pe_never {X : Cx} {e : Expr} : PE X e (fun _ _ _ => False) := ⟨fun _ _ _ _ _ _ h => h.elim⟩
def sortN : List Str := ["InvalidText", "InvalidMarks", "InvalidIndex", "InvalidWord", "NotARanking", "NotAHouse", "NotALook", "NotLooks", "OtherThings", "InvalidRow", "InvalidMenu", "InvalidThings", "InvalidTaken", "InvalidRankings", "InvalidLooks", "InvalidTable", "UnknownThing", "TooMany", "NoHouse", "NoTable", "Clash", "Broken", "NothingToUndo", "WrongValue", "WrongName", "NoAnswer"]
/-- the classes of the errors, by their place in sortN -/
structure SortTx (mg : Str → Option Value) (c : Nat → Addr) : Prop where
  gl : ∀ i n, sortN[i]? = some n → mg n = some (.ref (c i))
/-- what isinstance says of the class at D, the k-th one -/
structure SortD (K : PySem.W.Frag) (c : Nat → Addr) (D : Addr) (k : Nat) : Prop where
  at_k : D = c k
  kk : k = 20 ∨ k = 21
  kit : ∀ i, i < 23 → PySem.W.kitOne K (.ref D) (.ref (c i)) = some (decide (i = k))
  b0 : PySem.W.kitOne K (.ref D) (.ref (c 23)) = some false
  b1 : PySem.W.kitOne K (.ref D) (.ref (c 24)) = some false
  b2 : PySem.W.kitOne K (.ref D) (.ref (c 25)) = some true
  v0 : PySem.W.kitOne K (.ref D) (.type "ValueError") = some false
  v1 : PySem.W.kitOne K (.ref D) (.type "LookupError") = some false
  v2 : PySem.W.kitOne K (.ref D) (.type "ArithmeticError") = some true
  xc : ExcC K D
  xf : XfC K D
  no : PySem.W.findIn K (.ref D) "index" = some none
def wordK (k : Nat) : Str := if k = 20 then "Clash" else "Broken"
section
variable {P : Program} {w : World} {K : PySem.W.Frag} {mg : Str → Option Value} {base : Heap} {c : Nat → Addr}
/-- p is the caught exception, of the class at D, with the place v -/
def CgtX (D : Addr) (p : Addr × Obj) (H : Hp) (v : V) : Prop := ∃ dd, Zc (.ref D) (some dd) p.2 ∧ (∃ vs, p.2.data = .fields vs) ∧ H dd = some (.xd (ixD v))
/-- a def with the caught exception among its values -/
structure CalE (P : Program) (w : World) (K : PySem.W.Frag) (mg : Str → Option Value) (base : Heap) (k : Nat) (x : Str) (sp : Addr × Obj → Sp) : Prop where
  ex : ∃ (f : Addr) (fd : FuncData) (ps : List Str), FnE P w K mg base k f fd ps sp ∧ mg x = some (.ref f) ∧ PySem.W.keepIn K (.ref f) = true ∧ Binds K fd ps []
theorem mkCalE {x : Str} {st : Stmt} {N ps : List Str} {k : Nat} {sp : Addr × Obj → Sp} (D : DefF K mg x st) (S : FnScope N ps (defScope st)) (b : BindP st x x ps) (len : ∀ p vs H Q E, sp p vs H Q E → vs.length = ps.length)
    (hbody : ∀ (f : Addr) (cdv : Value) (A : Around) (outer : List Env) (s : Shared) (H : Hp) (vs : List V) (Q : VK) (E : XK) (p : Addr × Obj), RoomH k (A.deeper (envOfC x (defScope st) s.heap.objs.size f cdv)) → sp p vs H Q E →
      ∃ t, PSs (cxH L2.CX0 P w K mg base N x (defScope st) f cdv A outer s H E p) (defBody st) t ∧ t { nx := fun _ H' => Q .non H', rt := Q } (L2.start N vs) H) : CalE P w K mg base (k + 1) x sp := by
  obtain ⟨f, fd, F, hm⟩ := D.ex
  exact ⟨f, fd, ps, fn_ofE F S len (hbody f), hm, F.kp, F.binds b⟩
def spSort (c : Nat → Addr) (K : PySem.W.Frag) (p : Addr × Obj) : Sp := fun vs H Q _ => ∃ (D : Addr) (k : Nat) (v : V), vs = [.ref p.1] ∧ SortD K c D k ∧ CgtX D p H v ∧ ∀ H', Same H H' → Q (.str (wordK k)) H'
theorem bools_flat : ∀ (bs : List Bool), (bs.map V.bl).all flatV = true
  | [] => rfl
  | _ :: bs => bools_flat bs
theorem dp_bools {H : Hp} : ∀ (bs : List Bool), DpAll K H (bs.map V.bl) (bs.map PyData.bool)
  | [] => .nil
  | b :: bs => .cons (.bl b) (dp_bools bs)
theorem split2 : ((Txt.split (("InvalidText InvalidMarks InvalidIndex InvalidWord NotARanking NotAHouse NotALook " : Str) ++ "NotLooks OtherThings InvalidRow InvalidMenu InvalidThings InvalidTaken " ++ "InvalidRankings InvalidLooks InvalidTable UnknownThing TooMany NoHouse " ++ "NoTable Clash Broken NothingToUndo") " ")[20]?, (Txt.split (("InvalidText InvalidMarks InvalidIndex InvalidWord NotARanking NotAHouse NotALook " : Str) ++ "NotLooks OtherThings InvalidRow InvalidMenu InvalidThings InvalidTaken " ++ "InvalidRankings InvalidLooks InvalidTable UnknownThing TooMany NoHouse " ++ "NoTable Clash Broken NothingToUndo") " ")[21]?) = (some ("Clash" : Str), some ("Broken" : Str)) := by kernel_rfl
theorem split20 : (Txt.split (("InvalidText InvalidMarks InvalidIndex InvalidWord NotARanking NotAHouse NotALook " : Str) ++ "NotLooks OtherThings InvalidRow InvalidMenu InvalidThings InvalidTaken " ++ "InvalidRankings InvalidLooks InvalidTable UnknownThing TooMany NoHouse " ++ "NoTable Clash Broken NothingToUndo") " ")[20]? = some ("Clash" : Str) := (Prod.mk.inj split2).1
theorem split21 : (Txt.split (("InvalidText InvalidMarks InvalidIndex InvalidWord NotARanking NotAHouse NotALook " : Str) ++ "NotLooks OtherThings InvalidRow InvalidMenu InvalidThings InvalidTaken " ++ "InvalidRankings InvalidLooks InvalidTable UnknownThing TooMany NoHouse " ++ "NoTable Clash Broken NothingToUndo") " ")[21]? = some ("Broken" : Str) := (Prod.mk.inj split2).2
theorem no20 : ∀ (m : Nat) (z' : V), m < 20 → (([decide (0 = 20), decide (1 = 20), decide (2 = 20), decide (3 = 20), decide (4 = 20), decide (5 = 20), decide (6 = 20), decide (7 = 20), decide (8 = 20), decide (9 = 20), decide (10 = 20), decide (11 = 20), decide (12 = 20), decide (13 = 20), decide (14 = 20), decide (15 = 20), decide (16 = 20), decide (17 = 20), decide (18 = 20), decide (19 = 20), decide (20 = 20), decide (21 = 20), decide (22 = 20)] : List Bool).map V.bl)[m]? = some z' → eqV z' (.bl true) = false := by
  intro m z' hm hz
  obtain ⟨b, hb, rfl⟩ := get_map hz
  have h : ∀ m < 20, ([decide (0 = 20), decide (1 = 20), decide (2 = 20), decide (3 = 20), decide (4 = 20), decide (5 = 20), decide (6 = 20), decide (7 = 20), decide (8 = 20), decide (9 = 20), decide (10 = 20), decide (11 = 20), decide (12 = 20), decide (13 = 20), decide (14 = 20), decide (15 = 20), decide (16 = 20), decide (17 = 20), decide (18 = 20), decide (19 = 20), decide (20 = 20), decide (21 = 20), decide (22 = 20)] : List Bool)[m]? = some false := by decide
  rw [h m hm] at hb
  cases hb
  rfl
theorem no21 : ∀ (m : Nat) (z' : V), m < 21 → (([decide (0 = 21), decide (1 = 21), decide (2 = 21), decide (3 = 21), decide (4 = 21), decide (5 = 21), decide (6 = 21), decide (7 = 21), decide (8 = 21), decide (9 = 21), decide (10 = 21), decide (11 = 21), decide (12 = 21), decide (13 = 21), decide (14 = 21), decide (15 = 21), decide (16 = 21), decide (17 = 21), decide (18 = 21), decide (19 = 21), decide (20 = 21), decide (21 = 21), decide (22 = 21)] : List Bool).map V.bl)[m]? = some z' → eqV z' (.bl true) = false := by
  intro m z' hm hz
  obtain ⟨b, hb, rfl⟩ := get_map hz
  have h : ∀ m < 21, ([decide (0 = 21), decide (1 = 21), decide (2 = 21), decide (3 = 21), decide (4 = 21), decide (5 = 21), decide (6 = 21), decide (7 = 21), decide (8 = 21), decide (9 = 21), decide (10 = 21), decide (11 = 21), decide (12 = 21), decide (13 = 21), decide (14 = 21), decide (15 = 21), decide (16 = 21), decide (17 = 21), decide (18 = 21), decide (19 = 21), decide (20 = 21), decide (21 = 21), decide (22 = 21)] : List Bool)[m]? = some false := by decide
  rw [h m hm] at hb
  cases hb
  rfl
theorem sc_law_sort : FnScope ["_law_e", "_law_fits", "_law_at", "_law_bases", "_law_own", "_law_words"] ["_law_e"] (L2.defScope (fnd 85)) := ⟨rfl, rfl, rfl, by decide +kernel, rfl, by decide +kernel, by decide +kernel⟩
theorem d_sort (T : Tx K mg) (ST : SortTx mg c) (D : DefF K mg "_law_sort" (fnd 85)) : CalE P w K mg base 1 "_law_sort" (spSort c K) := by
  have S := sc_law_sort
  refine mkCalE D S (fun _ _ _ _ _ _ us hl => match us, hl with | [_], _ => rfl) (fun p vs H Q E h => ?_) (fun f cdv A outer s H vs Q E p hr h => ?_)
  · obtain ⟨D, k, v, rfl, _⟩ := h
    rfl
  obtain ⟨D, k, v, rfl, SD, ⟨dd, hz, hf, hdd⟩, q⟩ := h
  obtain ⟨a, oe⟩ := p
  have hp : (a, oe) ∈ [(a, oe)] := List.mem_singleton.mpr rfl
  have hu : A.units + 3 + 64 < cLine := by
    have := hr.un
    have e : (A.deeper (envOfC "_law_sort" (defScope (fnd 85)) s.heap.objs.size f cdv)).units = A.units + 3 := rfl
    omega
  -- slots: 0 _law_e, 1 _law_fits, 2 _law_at, 3 _law_bases, 4 _law_own, 5 _law_words
  refine ⟨_, (pss_cons (ps_set (i := 1) S.nd rfl (Or.inl rfl) (pe_lst (pa_cons (pe_callB (call_isXK K SD.xc hp hz hf) rfl T.n.isi (by rfl) (pa_cons (pv 0) (pa_cons (pe_gc (v := V.ref (c 0)) rfl ⟨_, ST.gl 0 _ rfl, rfl⟩) pa_nil))) (pa_cons (pe_callB (call_isXK K SD.xc hp hz hf) rfl T.n.isi (by rfl) (pa_cons (pv 0) (pa_cons (pe_gc (v := V.ref (c 1)) rfl ⟨_, ST.gl 1 _ rfl, rfl⟩) pa_nil))) (pa_cons (pe_callB (call_isXK K SD.xc hp hz hf) rfl T.n.isi (by rfl) (pa_cons (pv 0) (pa_cons (pe_gc (v := V.ref (c 2)) rfl ⟨_, ST.gl 2 _ rfl, rfl⟩) pa_nil))) pa_nil))))) 
    (pss_cons (ps_set (i := 1) S.nd rfl (Or.inl rfl) (pe_op op_cat (pv 1) (pe_lst (pa_cons (pe_callB (call_isXK K SD.xc hp hz hf) rfl T.n.isi (by rfl) (pa_cons (pv 0) (pa_cons (pe_gc (v := V.ref (c 3)) rfl ⟨_, ST.gl 3 _ rfl, rfl⟩) pa_nil))) (pa_cons (pe_callB (call_isXK K SD.xc hp hz hf) rfl T.n.isi (by rfl) (pa_cons (pv 0) (pa_cons (pe_gc (v := V.ref (c 4)) rfl ⟨_, ST.gl 4 _ rfl, rfl⟩) pa_nil))) (pa_cons (pe_callB (call_isXK K SD.xc hp hz hf) rfl T.n.isi (by rfl) (pa_cons (pv 0) (pa_cons (pe_gc (v := V.ref (c 5)) rfl ⟨_, ST.gl 5 _ rfl, rfl⟩) pa_nil))) pa_nil)))))) 
    (pss_cons (ps_set (i := 1) S.nd rfl (Or.inl rfl) (pe_op op_cat (pv 1) (pe_lst (pa_cons (pe_callB (call_isXK K SD.xc hp hz hf) rfl T.n.isi (by rfl) (pa_cons (pv 0) (pa_cons (pe_gc (v := V.ref (c 6)) rfl ⟨_, ST.gl 6 _ rfl, rfl⟩) pa_nil))) (pa_cons (pe_callB (call_isXK K SD.xc hp hz hf) rfl T.n.isi (by rfl) (pa_cons (pv 0) (pa_cons (pe_gc (v := V.ref (c 7)) rfl ⟨_, ST.gl 7 _ rfl, rfl⟩) pa_nil))) (pa_cons (pe_callB (call_isXK K SD.xc hp hz hf) rfl T.n.isi (by rfl) (pa_cons (pv 0) (pa_cons (pe_gc (v := V.ref (c 8)) rfl ⟨_, ST.gl 8 _ rfl, rfl⟩) pa_nil))) pa_nil)))))) 
    (pss_cons (ps_set (i := 1) S.nd rfl (Or.inl rfl) (pe_op op_cat (pv 1) (pe_lst (pa_cons (pe_callB (call_isXK K SD.xc hp hz hf) rfl T.n.isi (by rfl) (pa_cons (pv 0) (pa_cons (pe_gc (v := V.ref (c 9)) rfl ⟨_, ST.gl 9 _ rfl, rfl⟩) pa_nil))) (pa_cons (pe_callB (call_isXK K SD.xc hp hz hf) rfl T.n.isi (by rfl) (pa_cons (pv 0) (pa_cons (pe_gc (v := V.ref (c 10)) rfl ⟨_, ST.gl 10 _ rfl, rfl⟩) pa_nil))) (pa_cons (pe_callB (call_isXK K SD.xc hp hz hf) rfl T.n.isi (by rfl) (pa_cons (pv 0) (pa_cons (pe_gc (v := V.ref (c 11)) rfl ⟨_, ST.gl 11 _ rfl, rfl⟩) pa_nil))) pa_nil)))))) 
    (pss_cons (ps_set (i := 1) S.nd rfl (Or.inl rfl) (pe_op op_cat (pv 1) (pe_lst (pa_cons (pe_callB (call_isXK K SD.xc hp hz hf) rfl T.n.isi (by rfl) (pa_cons (pv 0) (pa_cons (pe_gc (v := V.ref (c 12)) rfl ⟨_, ST.gl 12 _ rfl, rfl⟩) pa_nil))) (pa_cons (pe_callB (call_isXK K SD.xc hp hz hf) rfl T.n.isi (by rfl) (pa_cons (pv 0) (pa_cons (pe_gc (v := V.ref (c 13)) rfl ⟨_, ST.gl 13 _ rfl, rfl⟩) pa_nil))) (pa_cons (pe_callB (call_isXK K SD.xc hp hz hf) rfl T.n.isi (by rfl) (pa_cons (pv 0) (pa_cons (pe_gc (v := V.ref (c 14)) rfl ⟨_, ST.gl 14 _ rfl, rfl⟩) pa_nil))) pa_nil)))))) 
    (pss_cons (ps_set (i := 1) S.nd rfl (Or.inl rfl) (pe_op op_cat (pv 1) (pe_lst (pa_cons (pe_callB (call_isXK K SD.xc hp hz hf) rfl T.n.isi (by rfl) (pa_cons (pv 0) (pa_cons (pe_gc (v := V.ref (c 15)) rfl ⟨_, ST.gl 15 _ rfl, rfl⟩) pa_nil))) (pa_cons (pe_callB (call_isXK K SD.xc hp hz hf) rfl T.n.isi (by rfl) (pa_cons (pv 0) (pa_cons (pe_gc (v := V.ref (c 16)) rfl ⟨_, ST.gl 16 _ rfl, rfl⟩) pa_nil))) (pa_cons (pe_callB (call_isXK K SD.xc hp hz hf) rfl T.n.isi (by rfl) (pa_cons (pv 0) (pa_cons (pe_gc (v := V.ref (c 17)) rfl ⟨_, ST.gl 17 _ rfl, rfl⟩) pa_nil))) pa_nil)))))) 
    (pss_cons (ps_set (i := 1) S.nd rfl (Or.inl rfl) (pe_op op_cat (pv 1) (pe_lst (pa_cons (pe_callB (call_isXK K SD.xc hp hz hf) rfl T.n.isi (by rfl) (pa_cons (pv 0) (pa_cons (pe_gc (v := V.ref (c 18)) rfl ⟨_, ST.gl 18 _ rfl, rfl⟩) pa_nil))) (pa_cons (pe_callB (call_isXK K SD.xc hp hz hf) rfl T.n.isi (by rfl) (pa_cons (pv 0) (pa_cons (pe_gc (v := V.ref (c 19)) rfl ⟨_, ST.gl 19 _ rfl, rfl⟩) pa_nil))) (pa_cons (pe_callB (call_isXK K SD.xc hp hz hf) rfl T.n.isi (by rfl) (pa_cons (pv 0) (pa_cons (pe_gc (v := V.ref (c 20)) rfl ⟨_, ST.gl 20 _ rfl, rfl⟩) pa_nil))) (pa_cons (pe_callB (call_isXK K SD.xc hp hz hf) rfl T.n.isi (by rfl) (pa_cons (pv 0) (pa_cons (pe_gc (v := V.ref (c 21)) rfl ⟨_, ST.gl 21 _ rfl, rfl⟩) pa_nil))) pa_nil))))))) 
    (pss_cut (ps_set (i := 1) S.nd rfl (Or.inl rfl) (pe_op op_cat (pv 1) (pe_lst (pa_cons (pe_callB (call_isXK K SD.xc hp hz hf) rfl T.n.isi (by rfl) (pa_cons (pv 0) (pa_cons (pe_gc (v := V.ref (c 22)) rfl ⟨_, ST.gl 22 _ rfl, rfl⟩) pa_nil))) pa_nil)))) 
    (pss_cut (ps_if (pt_cmpR op_ne (pe_bmK K F.plainAttrs_list F.slot_list_count F.type_list_count mt_cntF (pv 1) (pa_cons pe_bl pa_nil)) pe_int (nomark _)) pss_never pss_nil) 
    (pss_cut (ps_set (i := 2) S.nd rfl (Or.inl rfl) (pe_bmK K F.plainAttrs_list F.slot_list_index F.type_list_index mt_index (pv 1) (pa_cons pe_bl pa_nil))) 
    (pss_cut (ps_set (i := 3) S.nd rfl (Or.inl rfl) (pe_lst (pa_cons (pe_callB (call_isXK K SD.xc hp hz hf) rfl T.n.isi (by rfl) (pa_cons (pv 0) (pa_cons (pe_gc (v := V.ref (c 23)) rfl ⟨_, ST.gl 23 _ rfl, rfl⟩) pa_nil))) (pa_cons (pe_callB (call_isXK K SD.xc hp hz hf) rfl T.n.isi (by rfl) (pa_cons (pv 0) (pa_cons (pe_gc (v := V.ref (c 24)) rfl ⟨_, ST.gl 24 _ rfl, rfl⟩) pa_nil))) (pa_cons (pe_callB (call_isXK K SD.xc hp hz hf) rfl T.n.isi (by rfl) (pa_cons (pv 0) (pa_cons (pe_gc (v := V.ref (c 25)) rfl ⟨_, ST.gl 25 _ rfl, rfl⟩) pa_nil))) pa_nil))))) 
    (pss_cut (ps_set (i := 4) S.nd rfl (Or.inl rfl) (pe_lst (pa_cons (pe_callB (call_isXK K SD.xc hp hz hf) rfl T.n.isi (by rfl) (pa_cons (pv 0) (pa_cons (pe_bltn rfl T.n.vE rfl (v := V.ty "ValueError") rfl) pa_nil))) (pa_cons (pe_callB (call_isXK K SD.xc hp hz hf) rfl T.n.isi (by rfl) (pa_cons (pv 0) (pa_cons (pe_bltn rfl T.n.lE rfl (v := V.ty "LookupError") rfl) pa_nil))) (pa_cons (pe_callB (call_isXK K SD.xc hp hz hf) rfl T.n.isi (by rfl) (pa_cons (pv 0) (pa_cons (pe_bltn rfl T.n.aE rfl (v := V.ty "ArithmeticError") rfl) pa_nil))) pa_nil))))) 
    (pss_cut (ps_if (PW.pt (pw_or (pt_cmpR (op_neDK K hu) (pv 3) (pe_lst (pa_cons (pe_cmpR op_lt (pv 2) pe_int (nomark _)) (pa_cons (pe_cmpR op_eq (pv 2) pe_int (nomark _)) (pa_cons (pe_cmpR op_gt (pv 2) pe_int (nomark _)) pa_nil)))) (nomark _)) (pw_or1 (pt_cmpR (op_neDK K hu) (pv 4) (pv 3) (nomark _))))) pss_never pss_nil) 
    (pss_cut (ps_set (i := 5) S.nd rfl (Or.inl rfl) pe_str) 
    (pss_cut (ps_set (i := 5) S.nd rfl (Or.inl rfl) (pe_op op_add_str (pv 5) pe_str)) 
    (pss_cut (ps_set (i := 5) S.nd rfl (Or.inl rfl) (pe_op op_add_str (pv 5) pe_str)) (pss_one (ps_ret (pe_ix (ix_listK K) (pe_split (pe_op op_add_str (pv 5) pe_str) pe_str) (pv 2) (fun _ _ => rfl)))))))))))))))))))), ?_⟩
  refine ⟨_, rfl, V.ref (c 0), _, decide (0 = k), rfl, .own _, ⟨_, hdd⟩, SD.kit 0 (by decide), _, rfl, V.ref (c 1), _, decide (1 = k), rfl, .own _, ⟨_, hdd⟩, SD.kit 1 (by decide), _, rfl, V.ref (c 2), _, decide (2 = k), rfl, .own _, ⟨_, hdd⟩, SD.kit 2 (by decide), by show 3 ≤ sizeLine; decide, fun L0 hL0 => ?_⟩
  have s0 : Same H (upd H L0 (.lst [.bl (decide (0 = k)), .bl (decide (1 = k)), .bl (decide (2 = k))])) := same_new hL0
  generalize eH0 : upd H L0 (.lst [.bl (decide (0 = k)), .bl (decide (1 = k)), .bl (decide (2 = k))]) = H0 at s0 ⊢
  have f0 : H0 L0 = some (.lst ([decide (0 = k), decide (1 = k), decide (2 = k)].map V.bl)) := by rw [← eH0, upd_same]; rfl
  have hdd := s0 _ _ hdd
  refine ⟨_, rfl, _, rfl, V.ref (c 3), _, decide (3 = k), rfl, .own _, ⟨_, hdd⟩, SD.kit 3 (by decide), _, rfl, V.ref (c 4), _, decide (4 = k), rfl, .own _, ⟨_, hdd⟩, SD.kit 4 (by decide), _, rfl, V.ref (c 5), _, decide (5 = k), rfl, .own _, ⟨_, hdd⟩, SD.kit 5 (by decide), by show 3 ≤ sizeLine; decide, fun M1 hM1 => ⟨L0, M1, [decide (0 = k), decide (1 = k), decide (2 = k)].map V.bl, [decide (3 = k), decide (4 = k), decide (5 = k)].map V.bl, rfl, rfl, same_new hM1 _ _ f0, upd_same, by show 6 ≤ sizeLine; decide, fun L1 hL1 => ?_⟩⟩
  have s1 : Same H0 (upd (upd H0 M1 (.lst [V.bl (decide (3 = k)), V.bl (decide (4 = k)), V.bl (decide (5 = k))])) L1 (.lst ([decide (0 = k), decide (1 = k), decide (2 = k)].map V.bl ++ [decide (3 = k), decide (4 = k), decide (5 = k)].map V.bl))) := (same_new hM1).trans (same_new hL1)
  have f1 : (upd (upd H0 M1 (.lst [V.bl (decide (3 = k)), V.bl (decide (4 = k)), V.bl (decide (5 = k))])) L1 (.lst ([decide (0 = k), decide (1 = k), decide (2 = k)].map V.bl ++ [decide (3 = k), decide (4 = k), decide (5 = k)].map V.bl))) L1 = some (.lst ([decide (0 = k), decide (1 = k), decide (2 = k), decide (3 = k), decide (4 = k), decide (5 = k)].map V.bl)) := upd_same
  generalize upd (upd H0 M1 (.lst [V.bl (decide (3 = k)), V.bl (decide (4 = k)), V.bl (decide (5 = k))])) L1 (.lst ([decide (0 = k), decide (1 = k), decide (2 = k)].map V.bl ++ [decide (3 = k), decide (4 = k), decide (5 = k)].map V.bl)) = H1 at s1 f1 ⊢
  have hdd := s1 _ _ hdd
  refine ⟨_, rfl, _, rfl, V.ref (c 6), _, decide (6 = k), rfl, .own _, ⟨_, hdd⟩, SD.kit 6 (by decide), _, rfl, V.ref (c 7), _, decide (7 = k), rfl, .own _, ⟨_, hdd⟩, SD.kit 7 (by decide), _, rfl, V.ref (c 8), _, decide (8 = k), rfl, .own _, ⟨_, hdd⟩, SD.kit 8 (by decide), by show 3 ≤ sizeLine; decide, fun M2 hM2 => ⟨L1, M2, [decide (0 = k), decide (1 = k), decide (2 = k), decide (3 = k), decide (4 = k), decide (5 = k)].map V.bl, [decide (6 = k), decide (7 = k), decide (8 = k)].map V.bl, rfl, rfl, same_new hM2 _ _ f1, upd_same, by show 9 ≤ sizeLine; decide, fun L2 hL2 => ?_⟩⟩
  have s2 : Same H1 (upd (upd H1 M2 (.lst [V.bl (decide (6 = k)), V.bl (decide (7 = k)), V.bl (decide (8 = k))])) L2 (.lst ([decide (0 = k), decide (1 = k), decide (2 = k), decide (3 = k), decide (4 = k), decide (5 = k)].map V.bl ++ [decide (6 = k), decide (7 = k), decide (8 = k)].map V.bl))) := (same_new hM2).trans (same_new hL2)
  have f2 : (upd (upd H1 M2 (.lst [V.bl (decide (6 = k)), V.bl (decide (7 = k)), V.bl (decide (8 = k))])) L2 (.lst ([decide (0 = k), decide (1 = k), decide (2 = k), decide (3 = k), decide (4 = k), decide (5 = k)].map V.bl ++ [decide (6 = k), decide (7 = k), decide (8 = k)].map V.bl))) L2 = some (.lst ([decide (0 = k), decide (1 = k), decide (2 = k), decide (3 = k), decide (4 = k), decide (5 = k), decide (6 = k), decide (7 = k), decide (8 = k)].map V.bl)) := upd_same
  generalize upd (upd H1 M2 (.lst [V.bl (decide (6 = k)), V.bl (decide (7 = k)), V.bl (decide (8 = k))])) L2 (.lst ([decide (0 = k), decide (1 = k), decide (2 = k), decide (3 = k), decide (4 = k), decide (5 = k)].map V.bl ++ [decide (6 = k), decide (7 = k), decide (8 = k)].map V.bl)) = H2 at s2 f2 ⊢
  have hdd := s2 _ _ hdd
  refine ⟨_, rfl, _, rfl, V.ref (c 9), _, decide (9 = k), rfl, .own _, ⟨_, hdd⟩, SD.kit 9 (by decide), _, rfl, V.ref (c 10), _, decide (10 = k), rfl, .own _, ⟨_, hdd⟩, SD.kit 10 (by decide), _, rfl, V.ref (c 11), _, decide (11 = k), rfl, .own _, ⟨_, hdd⟩, SD.kit 11 (by decide), by show 3 ≤ sizeLine; decide, fun M3 hM3 => ⟨L2, M3, [decide (0 = k), decide (1 = k), decide (2 = k), decide (3 = k), decide (4 = k), decide (5 = k), decide (6 = k), decide (7 = k), decide (8 = k)].map V.bl, [decide (9 = k), decide (10 = k), decide (11 = k)].map V.bl, rfl, rfl, same_new hM3 _ _ f2, upd_same, by show 12 ≤ sizeLine; decide, fun L3 hL3 => ?_⟩⟩
  have s3 : Same H2 (upd (upd H2 M3 (.lst [V.bl (decide (9 = k)), V.bl (decide (10 = k)), V.bl (decide (11 = k))])) L3 (.lst ([decide (0 = k), decide (1 = k), decide (2 = k), decide (3 = k), decide (4 = k), decide (5 = k), decide (6 = k), decide (7 = k), decide (8 = k)].map V.bl ++ [decide (9 = k), decide (10 = k), decide (11 = k)].map V.bl))) := (same_new hM3).trans (same_new hL3)
  have f3 : (upd (upd H2 M3 (.lst [V.bl (decide (9 = k)), V.bl (decide (10 = k)), V.bl (decide (11 = k))])) L3 (.lst ([decide (0 = k), decide (1 = k), decide (2 = k), decide (3 = k), decide (4 = k), decide (5 = k), decide (6 = k), decide (7 = k), decide (8 = k)].map V.bl ++ [decide (9 = k), decide (10 = k), decide (11 = k)].map V.bl))) L3 = some (.lst ([decide (0 = k), decide (1 = k), decide (2 = k), decide (3 = k), decide (4 = k), decide (5 = k), decide (6 = k), decide (7 = k), decide (8 = k), decide (9 = k), decide (10 = k), decide (11 = k)].map V.bl)) := upd_same
  generalize upd (upd H2 M3 (.lst [V.bl (decide (9 = k)), V.bl (decide (10 = k)), V.bl (decide (11 = k))])) L3 (.lst ([decide (0 = k), decide (1 = k), decide (2 = k), decide (3 = k), decide (4 = k), decide (5 = k), decide (6 = k), decide (7 = k), decide (8 = k)].map V.bl ++ [decide (9 = k), decide (10 = k), decide (11 = k)].map V.bl)) = H3 at s3 f3 ⊢
  have hdd := s3 _ _ hdd
  refine ⟨_, rfl, _, rfl, V.ref (c 12), _, decide (12 = k), rfl, .own _, ⟨_, hdd⟩, SD.kit 12 (by decide), _, rfl, V.ref (c 13), _, decide (13 = k), rfl, .own _, ⟨_, hdd⟩, SD.kit 13 (by decide), _, rfl, V.ref (c 14), _, decide (14 = k), rfl, .own _, ⟨_, hdd⟩, SD.kit 14 (by decide), by show 3 ≤ sizeLine; decide, fun M4 hM4 => ⟨L3, M4, [decide (0 = k), decide (1 = k), decide (2 = k), decide (3 = k), decide (4 = k), decide (5 = k), decide (6 = k), decide (7 = k), decide (8 = k), decide (9 = k), decide (10 = k), decide (11 = k)].map V.bl, [decide (12 = k), decide (13 = k), decide (14 = k)].map V.bl, rfl, rfl, same_new hM4 _ _ f3, upd_same, by show 15 ≤ sizeLine; decide, fun L4 hL4 => ?_⟩⟩
  have s4 : Same H3 (upd (upd H3 M4 (.lst [V.bl (decide (12 = k)), V.bl (decide (13 = k)), V.bl (decide (14 = k))])) L4 (.lst ([decide (0 = k), decide (1 = k), decide (2 = k), decide (3 = k), decide (4 = k), decide (5 = k), decide (6 = k), decide (7 = k), decide (8 = k), decide (9 = k), decide (10 = k), decide (11 = k)].map V.bl ++ [decide (12 = k), decide (13 = k), decide (14 = k)].map V.bl))) := (same_new hM4).trans (same_new hL4)
  have f4 : (upd (upd H3 M4 (.lst [V.bl (decide (12 = k)), V.bl (decide (13 = k)), V.bl (decide (14 = k))])) L4 (.lst ([decide (0 = k), decide (1 = k), decide (2 = k), decide (3 = k), decide (4 = k), decide (5 = k), decide (6 = k), decide (7 = k), decide (8 = k), decide (9 = k), decide (10 = k), decide (11 = k)].map V.bl ++ [decide (12 = k), decide (13 = k), decide (14 = k)].map V.bl))) L4 = some (.lst ([decide (0 = k), decide (1 = k), decide (2 = k), decide (3 = k), decide (4 = k), decide (5 = k), decide (6 = k), decide (7 = k), decide (8 = k), decide (9 = k), decide (10 = k), decide (11 = k), decide (12 = k), decide (13 = k), decide (14 = k)].map V.bl)) := upd_same
  generalize upd (upd H3 M4 (.lst [V.bl (decide (12 = k)), V.bl (decide (13 = k)), V.bl (decide (14 = k))])) L4 (.lst ([decide (0 = k), decide (1 = k), decide (2 = k), decide (3 = k), decide (4 = k), decide (5 = k), decide (6 = k), decide (7 = k), decide (8 = k), decide (9 = k), decide (10 = k), decide (11 = k)].map V.bl ++ [decide (12 = k), decide (13 = k), decide (14 = k)].map V.bl)) = H4 at s4 f4 ⊢
  have hdd := s4 _ _ hdd
  refine ⟨_, rfl, _, rfl, V.ref (c 15), _, decide (15 = k), rfl, .own _, ⟨_, hdd⟩, SD.kit 15 (by decide), _, rfl, V.ref (c 16), _, decide (16 = k), rfl, .own _, ⟨_, hdd⟩, SD.kit 16 (by decide), _, rfl, V.ref (c 17), _, decide (17 = k), rfl, .own _, ⟨_, hdd⟩, SD.kit 17 (by decide), by show 3 ≤ sizeLine; decide, fun M5 hM5 => ⟨L4, M5, [decide (0 = k), decide (1 = k), decide (2 = k), decide (3 = k), decide (4 = k), decide (5 = k), decide (6 = k), decide (7 = k), decide (8 = k), decide (9 = k), decide (10 = k), decide (11 = k), decide (12 = k), decide (13 = k), decide (14 = k)].map V.bl, [decide (15 = k), decide (16 = k), decide (17 = k)].map V.bl, rfl, rfl, same_new hM5 _ _ f4, upd_same, by show 18 ≤ sizeLine; decide, fun L5 hL5 => ?_⟩⟩
  have s5 : Same H4 (upd (upd H4 M5 (.lst [V.bl (decide (15 = k)), V.bl (decide (16 = k)), V.bl (decide (17 = k))])) L5 (.lst ([decide (0 = k), decide (1 = k), decide (2 = k), decide (3 = k), decide (4 = k), decide (5 = k), decide (6 = k), decide (7 = k), decide (8 = k), decide (9 = k), decide (10 = k), decide (11 = k), decide (12 = k), decide (13 = k), decide (14 = k)].map V.bl ++ [decide (15 = k), decide (16 = k), decide (17 = k)].map V.bl))) := (same_new hM5).trans (same_new hL5)
  have f5 : (upd (upd H4 M5 (.lst [V.bl (decide (15 = k)), V.bl (decide (16 = k)), V.bl (decide (17 = k))])) L5 (.lst ([decide (0 = k), decide (1 = k), decide (2 = k), decide (3 = k), decide (4 = k), decide (5 = k), decide (6 = k), decide (7 = k), decide (8 = k), decide (9 = k), decide (10 = k), decide (11 = k), decide (12 = k), decide (13 = k), decide (14 = k)].map V.bl ++ [decide (15 = k), decide (16 = k), decide (17 = k)].map V.bl))) L5 = some (.lst ([decide (0 = k), decide (1 = k), decide (2 = k), decide (3 = k), decide (4 = k), decide (5 = k), decide (6 = k), decide (7 = k), decide (8 = k), decide (9 = k), decide (10 = k), decide (11 = k), decide (12 = k), decide (13 = k), decide (14 = k), decide (15 = k), decide (16 = k), decide (17 = k)].map V.bl)) := upd_same
  generalize upd (upd H4 M5 (.lst [V.bl (decide (15 = k)), V.bl (decide (16 = k)), V.bl (decide (17 = k))])) L5 (.lst ([decide (0 = k), decide (1 = k), decide (2 = k), decide (3 = k), decide (4 = k), decide (5 = k), decide (6 = k), decide (7 = k), decide (8 = k), decide (9 = k), decide (10 = k), decide (11 = k), decide (12 = k), decide (13 = k), decide (14 = k)].map V.bl ++ [decide (15 = k), decide (16 = k), decide (17 = k)].map V.bl)) = H5 at s5 f5 ⊢
  have hdd := s5 _ _ hdd
  refine ⟨_, rfl, _, rfl, V.ref (c 18), _, decide (18 = k), rfl, .own _, ⟨_, hdd⟩, SD.kit 18 (by decide), _, rfl, V.ref (c 19), _, decide (19 = k), rfl, .own _, ⟨_, hdd⟩, SD.kit 19 (by decide), _, rfl, V.ref (c 20), _, decide (20 = k), rfl, .own _, ⟨_, hdd⟩, SD.kit 20 (by decide), _, rfl, V.ref (c 21), _, decide (21 = k), rfl, .own _, ⟨_, hdd⟩, SD.kit 21 (by decide), by show 4 ≤ sizeLine; decide, fun M6 hM6 => ⟨L5, M6, [decide (0 = k), decide (1 = k), decide (2 = k), decide (3 = k), decide (4 = k), decide (5 = k), decide (6 = k), decide (7 = k), decide (8 = k), decide (9 = k), decide (10 = k), decide (11 = k), decide (12 = k), decide (13 = k), decide (14 = k), decide (15 = k), decide (16 = k), decide (17 = k)].map V.bl, [decide (18 = k), decide (19 = k), decide (20 = k), decide (21 = k)].map V.bl, rfl, rfl, same_new hM6 _ _ f5, upd_same, by show 22 ≤ sizeLine; decide, fun L6 hL6 => ?_⟩⟩
  have s6 : Same H5 (upd (upd H5 M6 (.lst [V.bl (decide (18 = k)), V.bl (decide (19 = k)), V.bl (decide (20 = k)), V.bl (decide (21 = k))])) L6 (.lst ([decide (0 = k), decide (1 = k), decide (2 = k), decide (3 = k), decide (4 = k), decide (5 = k), decide (6 = k), decide (7 = k), decide (8 = k), decide (9 = k), decide (10 = k), decide (11 = k), decide (12 = k), decide (13 = k), decide (14 = k), decide (15 = k), decide (16 = k), decide (17 = k)].map V.bl ++ [decide (18 = k), decide (19 = k), decide (20 = k), decide (21 = k)].map V.bl))) := (same_new hM6).trans (same_new hL6)
  have f6 : (upd (upd H5 M6 (.lst [V.bl (decide (18 = k)), V.bl (decide (19 = k)), V.bl (decide (20 = k)), V.bl (decide (21 = k))])) L6 (.lst ([decide (0 = k), decide (1 = k), decide (2 = k), decide (3 = k), decide (4 = k), decide (5 = k), decide (6 = k), decide (7 = k), decide (8 = k), decide (9 = k), decide (10 = k), decide (11 = k), decide (12 = k), decide (13 = k), decide (14 = k), decide (15 = k), decide (16 = k), decide (17 = k)].map V.bl ++ [decide (18 = k), decide (19 = k), decide (20 = k), decide (21 = k)].map V.bl))) L6 = some (.lst ([decide (0 = k), decide (1 = k), decide (2 = k), decide (3 = k), decide (4 = k), decide (5 = k), decide (6 = k), decide (7 = k), decide (8 = k), decide (9 = k), decide (10 = k), decide (11 = k), decide (12 = k), decide (13 = k), decide (14 = k), decide (15 = k), decide (16 = k), decide (17 = k), decide (18 = k), decide (19 = k), decide (20 = k), decide (21 = k)].map V.bl)) := upd_same
  generalize upd (upd H5 M6 (.lst [V.bl (decide (18 = k)), V.bl (decide (19 = k)), V.bl (decide (20 = k)), V.bl (decide (21 = k))])) L6 (.lst ([decide (0 = k), decide (1 = k), decide (2 = k), decide (3 = k), decide (4 = k), decide (5 = k), decide (6 = k), decide (7 = k), decide (8 = k), decide (9 = k), decide (10 = k), decide (11 = k), decide (12 = k), decide (13 = k), decide (14 = k), decide (15 = k), decide (16 = k), decide (17 = k)].map V.bl ++ [decide (18 = k), decide (19 = k), decide (20 = k), decide (21 = k)].map V.bl)) = H6 at s6 f6 ⊢
  have hdd := s6 _ _ hdd
  refine ⟨fun σ HF => ∃ L7, σ = [some (.ref a), some (.ref L7), none, none, none, none] ∧ HF L7 = some (.lst ([decide (0 = k), decide (1 = k), decide (2 = k), decide (3 = k), decide (4 = k), decide (5 = k), decide (6 = k), decide (7 = k), decide (8 = k), decide (9 = k), decide (10 = k), decide (11 = k), decide (12 = k), decide (13 = k), decide (14 = k), decide (15 = k), decide (16 = k), decide (17 = k), decide (18 = k), decide (19 = k), decide (20 = k), decide (21 = k), decide (22 = k)].map V.bl)) ∧ Same H6 HF, ?_, ?_⟩
  · refine ⟨_, rfl, _, rfl, V.ref (c 22), _, decide (22 = k), rfl, .own _, ⟨_, hdd⟩, SD.kit 22 (by decide), by show 1 ≤ sizeLine; decide, fun M7 hM7 => ⟨L6, M7, [decide (0 = k), decide (1 = k), decide (2 = k), decide (3 = k), decide (4 = k), decide (5 = k), decide (6 = k), decide (7 = k), decide (8 = k), decide (9 = k), decide (10 = k), decide (11 = k), decide (12 = k), decide (13 = k), decide (14 = k), decide (15 = k), decide (16 = k), decide (17 = k), decide (18 = k), decide (19 = k), decide (20 = k), decide (21 = k)].map V.bl, [decide (22 = k)].map V.bl, rfl, rfl, same_new hM7 _ _ f6, upd_same, by show 23 ≤ sizeLine; decide, fun L7 hL7 => ?_⟩⟩
    exact ⟨L7, rfl, upd_same, (same_new hM7).trans (same_new hL7)⟩
  rintro _ H7 ⟨L7, rfl, f7, s7⟩
  have hdd := s7 _ _ hdd
  have s07 := (((((((s0.trans s1).trans s2).trans s3).trans s4).trans s5).trans s6).trans s7)
  clear s0 s1 s2 s3 s4 s5 s6 s7 f0 f1 f2 f3 f4 f5 f6
  refine ⟨fun σ HF => σ = [some (.ref a), some (.ref L7), none, none, none, none] ∧ H7 = HF, ?_, ?_⟩
  · rcases SD.kk with e | e <;> subst e
    · refine ⟨_, rfl, .inl ⟨rfl, _, SqL.new f7⟩, L7, _, _, rfl, rfl, SqL.new f7, rfl, bools_flat _, rfl, _, rfl, ?_⟩
      exact iteF ⟨rfl, rfl⟩
    · refine ⟨_, rfl, .inl ⟨rfl, _, SqL.new f7⟩, L7, _, _, rfl, rfl, SqL.new f7, rfl, bools_flat _, rfl, _, rfl, ?_⟩
      exact iteF ⟨rfl, rfl⟩
  rintro _ _ ⟨rfl, rfl⟩
  refine ⟨fun σ HF => σ = [some (.ref a), some (.ref L7), some (.int (k : Nat)), none, none, none] ∧ H7 = HF, ?_, ?_⟩
  · rcases SD.kk with e | e <;> subst e
    · refine ⟨_, rfl, .inl ⟨rfl, _, SqL.new f7⟩, L7, _, .bl true, 20, .bl true, rfl, rfl, SqL.new f7, rfl, bools_flat _, rfl, rfl, ?_, ?_⟩
      · exact no20
      · exact ⟨rfl, rfl⟩
    · refine ⟨_, rfl, .inl ⟨rfl, _, SqL.new f7⟩, L7, _, .bl true, 21, .bl true, rfl, rfl, SqL.new f7, rfl, bools_flat _, rfl, rfl, ?_, ?_⟩
      · exact no21
      · exact ⟨rfl, rfl⟩
  rintro _ _ ⟨rfl, rfl⟩
  refine ⟨fun σ HF => ∃ LB, σ = [some (.ref a), some (.ref L7), some (.int (k : Nat)), some (.ref LB), none, none] ∧ HF LB = some (.lst ([false, false, true].map V.bl)) ∧ Same H7 HF, ?_, ?_⟩
  · refine ⟨_, rfl, V.ref (c 23), _, false, rfl, .own _, ⟨_, hdd⟩, SD.b0, _, rfl, V.ref (c 24), _, false, rfl, .own _, ⟨_, hdd⟩, SD.b1, _, rfl, V.ref (c 25), _, true, rfl, .own _, ⟨_, hdd⟩, SD.b2, by show 3 ≤ sizeLine; decide, fun LB hLB => ?_⟩
    exact ⟨LB, rfl, upd_same, same_new hLB⟩
  rintro _ H8 ⟨LB, rfl, fB, sB⟩
  have hdd := sB _ _ hdd
  refine ⟨fun σ HF => ∃ LO, σ = [some (.ref a), some (.ref L7), some (.int (k : Nat)), some (.ref LB), some (.ref LO), none] ∧ HF LO = some (.lst ([false, false, true].map V.bl)) ∧ Same H8 HF, ?_, ?_⟩
  · refine ⟨_, rfl, V.ty "ValueError", _, false, rfl, .ty _, ⟨_, hdd⟩, SD.v0, _, rfl, V.ty "LookupError", _, false, rfl, .ty _, ⟨_, hdd⟩, SD.v1, _, rfl, V.ty "ArithmeticError", _, true, rfl, .ty _, ⟨_, hdd⟩, SD.v2, by show 3 ≤ sizeLine; decide, fun LO hLO => ?_⟩
    exact ⟨LO, rfl, upd_same, same_new hLO⟩
  rintro _ H9 ⟨LO, rfl, fO, sO⟩
  refine ⟨fun σ HF => σ = [some (.ref a), some (.ref L7), some (.int (k : Nat)), some (.ref LB), some (.ref LO), none] ∧ Same H9 HF, ?_, ?_⟩
  · refine ⟨_, rfl, _, rfl, _, _, rfl, rfl, _, rfl, rfl, _, rfl, _, _, rfl, rfl, by show 3 ≤ sizeLine; decide, fun LC hLC => ?_⟩
    have sC : Same H9 (upd H9 LC (.lst [.bl (decide ((k : Int) < 16)), .bl (decide (V.int k = V.int 16)), .bl (decide ((k : Int) > 16))])) := same_new hLC
    have hC : (upd H9 LC (.lst [.bl (decide ((k : Int) < 16)), .bl (decide (V.int k = V.int 16)), .bl (decide ((k : Int) > 16))])) LC = some (.lst ([false, false, true].map V.bl)) := by rw [upd_same]; rcases SD.kk with e | e <;> subst e <;> rfl
    refine ⟨.list ([false, false, true].map PyData.bool), .list ([false, false, true].map PyData.bool), .lst (SqL.new (sC _ _ (sO _ _ fB))) (dp_bools _), .lst (SqL.new hC) (dp_bools _), rfl, rfl, _, rfl, iteF ?_⟩
    refine ⟨_, rfl, _, rfl, .list ([false, false, true].map PyData.bool), .list ([false, false, true].map PyData.bool), .lst (SqL.new (sC _ _ fO)) (dp_bools _), .lst (SqL.new (sC _ _ (sO _ _ fB))) (dp_bools _), rfl, rfl, _, rfl, iteF ?_⟩
    exact ⟨rfl, sC⟩
  rintro _ HC ⟨rfl, sC⟩
  refine ⟨fun σ HF => σ = [some (.ref a), some (.ref L7), some (.int (k : Nat)), some (.ref LB), some (.ref LO), some (.str (("InvalidText InvalidMarks InvalidIndex InvalidWord NotARanking NotAHouse NotALook " : Str)))] ∧ HC = HF, ⟨rfl, rfl⟩, ?_⟩
  rintro _ _ ⟨rfl, rfl⟩
  refine ⟨fun σ HF => σ = [some (.ref a), some (.ref L7), some (.int (k : Nat)), some (.ref LB), some (.ref LO), some (.str (("InvalidText InvalidMarks InvalidIndex InvalidWord NotARanking NotAHouse NotALook " : Str) ++ "NotLooks OtherThings InvalidRow InvalidMenu InvalidThings InvalidTaken "))] ∧ HC = HF, ⟨_, rfl, _, _, rfl, rfl, by decide +kernel, rfl, rfl⟩, ?_⟩
  rintro _ _ ⟨rfl, rfl⟩
  refine ⟨fun σ HF => σ = [some (.ref a), some (.ref L7), some (.int (k : Nat)), some (.ref LB), some (.ref LO), some (.str (("InvalidText InvalidMarks InvalidIndex InvalidWord NotARanking NotAHouse NotALook " : Str) ++ "NotLooks OtherThings InvalidRow InvalidMenu InvalidThings InvalidTaken " ++ "InvalidRankings InvalidLooks InvalidTable UnknownThing TooMany NoHouse "))] ∧ HC = HF, ⟨_, rfl, _, _, rfl, rfl, by decide +kernel, rfl, rfl⟩, ?_⟩
  rintro _ _ ⟨rfl, rfl⟩
  refine ⟨_, rfl, _, _, rfl, rfl, by decide +kernel, ⟨_, rfl⟩, _, _, rfl, rfl, rfl, by decide +kernel, fun p hp => ?_⟩
  refine ⟨_, rfl, p, _, _, .str (wordK k), rfl, rfl, SqL.new upd_same, atI_nat ?_, ?_⟩
  · rw [List.getElem?_map]
    rcases SD.kk with e | e <;> subst e
    · rw [split20]
      rfl
    · rw [split21]
      rfl
  refine q _ ?_
  exact (((s07.trans sB).trans sO).trans sC).trans (same_new hp)

end
end Mh
end
section
set_option Elab.async false
set_option linter.all false
set_option maxRecDepth 100000
set_option maxHeartbeats 4000000
/-! MhL12: the field of a caught exception; what _law_caught makes of an act. -/
namespace Mh
open PySem PySem.Spec PyProof.Rows L2 MhX
open C8 (Cal Mak Met pe_c pe_mk pe_mt pe_mt0 pe_gc pss_cut tCut)
open L2H (roomH_of RoomH PinOk cxH inv_startH)
section
variable {P : Program} {w : World} {K : PySem.W.Frag} {mg : Str → Option Value} {base : Heap} {c : Nat → Addr}
def spField (c : Nat → Addr) (K : PySem.W.Frag) (p : Addr × Obj) : Sp := fun vs H Q _ => ∃ (D : Addr) (k : Nat) (v : V), vs = [.str (wordK k), .ref p.1] ∧ SortD K c D k ∧ CgtX D p H v ∧ ∀ H', Same H H' → Q v H'
theorem sc_law_field : FnScope ["_law_word", "_law_e", "_law_indexed"] ["_law_word", "_law_e"] (L2.defScope (fnd 86)) := ⟨rfl, rfl, rfl, by decide +kernel, rfl, by decide +kernel, by decide +kernel⟩
theorem d_field (T : Tx K mg) (D : DefF K mg "_law_field" (fnd 86)) : CalE P w K mg base 1 "_law_field" (spField c K) := by
  have S := sc_law_field
  refine mkCalE D S (fun _ _ _ _ _ _ us hl => match us, hl with | [_, _], _ => rfl) (fun p vs H Q E h => ?_) (fun f cdv A outer s H vs Q E p hr h => ?_)
  · obtain ⟨D, k, v, rfl, _⟩ := h
    rfl
  obtain ⟨D, k, v, rfl, SD, ⟨dd, hz, hf, hdd⟩, q⟩ := h
  obtain ⟨a, oe⟩ := p
  have hp : (a, oe) ∈ [(a, oe)] := List.mem_singleton.mpr rfl
  -- slots: 0 _law_word, 1 _law_e, 2 _law_indexed
  refine ⟨_, (pss_cons (ps_if (pt_cmpR (op_in_seqK K) (pv 0) (pe_lst (pa_cons pe_str (pa_cons pe_str pa_nil))) (by rfl)) pss_never pss_nil) 
    (pss_cons (ps_if (pt_cmpR (op_in_seqK K) (pv 0) (pe_lst (pa_cons pe_str (pa_cons pe_str pa_nil))) (by rfl)) pss_never pss_nil) 
    (pss_cons (ps_if (pt_cmpR op_eq (pv 0) pe_str (nomark _)) pss_never pss_nil) 
    (pss_cons (ps_set (i := 2) S.nd rfl (Or.inl rfl) (pe_lst (pa_cons pe_str (pa_cons pe_str (pa_cons pe_str (pa_cons pe_str (pa_cons pe_str (pa_cons pe_str pa_nil)))))))) (pss_one (ps_ret (pe_ifExp (pt_cmpR (op_in_seqK K) (pv 0) (pe_op op_cat (pv 2) (pe_lst (pa_cons pe_str (pa_cons pe_str (pa_cons pe_str pa_nil))))) (by rfl)) (pe_xfP SD.xf SD.no hp hz hf (pv 1) rfl) pe_never))))))), ?_⟩
  rcases SD.kk with e | e <;> subst e
  · refine ⟨_, rfl, by show 2 ≤ sizeLine; decide, fun L1 hL1 => ⟨L1, _, rfl, .inl (SqL.new upd_same), rfl, rfl, _, rfl, iteF ?_⟩⟩
    have s1 := same_new (o := .lst [V.str "", V.str "NothingToUndo"]) hL1
    refine ⟨_, rfl, by show 2 ≤ sizeLine; decide, fun L2 hL2 => ⟨L2, _, rfl, .inl (SqL.new upd_same), rfl, rfl, _, rfl, iteF ?_⟩⟩
    have s2 := same_upd (o := .lst [V.str "TooMany", V.str "NoHouse"]) (s1.free hL2) s1
    refine ⟨_, rfl, rfl, _, rfl, iteF ⟨by show 6 ≤ sizeLine; decide, fun L3 hL3 => ?_⟩⟩
    have s3 := same_upd (o := .lst [V.str "InvalidRow", V.str "InvalidMenu", V.str "InvalidThings", V.str "InvalidTaken", V.str "InvalidRankings", V.str "InvalidLooks"]) (s2.free hL3) s2
    refine ⟨_, rfl, _, rfl, by show 3 ≤ sizeLine; decide, fun L4 hL4 => ⟨L3, L4, _, _, rfl, rfl, same_new hL4 _ _ upd_same, upd_same, by show 9 ≤ sizeLine; decide, fun L5 hL5 => ⟨L5, _, rfl, .inl (SqL.new upd_same), rfl, rfl, _, rfl, iteT ?_⟩⟩⟩
    have s4 := same_upd (o := .lst [V.str "InvalidTable", V.str "Clash", V.str "Broken"]) (s3.free hL4) s3
    have s5 := same_upd (o := .lst ([V.str "InvalidRow", V.str "InvalidMenu", V.str "InvalidThings", V.str "InvalidTaken", V.str "InvalidRankings", V.str "InvalidLooks"] ++ [V.str "InvalidTable", V.str "Clash", V.str "Broken"])) (s4.free hL5) s4
    exact ⟨_, rfl, rfl, _, _, s5 _ _ hdd, ixD_at v, q _ s5⟩
  · refine ⟨_, rfl, by show 2 ≤ sizeLine; decide, fun L1 hL1 => ⟨L1, _, rfl, .inl (SqL.new upd_same), rfl, rfl, _, rfl, iteF ?_⟩⟩
    have s1 := same_new (o := .lst [V.str "", V.str "NothingToUndo"]) hL1
    refine ⟨_, rfl, by show 2 ≤ sizeLine; decide, fun L2 hL2 => ⟨L2, _, rfl, .inl (SqL.new upd_same), rfl, rfl, _, rfl, iteF ?_⟩⟩
    have s2 := same_upd (o := .lst [V.str "TooMany", V.str "NoHouse"]) (s1.free hL2) s1
    refine ⟨_, rfl, rfl, _, rfl, iteF ⟨by show 6 ≤ sizeLine; decide, fun L3 hL3 => ?_⟩⟩
    have s3 := same_upd (o := .lst [V.str "InvalidRow", V.str "InvalidMenu", V.str "InvalidThings", V.str "InvalidTaken", V.str "InvalidRankings", V.str "InvalidLooks"]) (s2.free hL3) s2
    refine ⟨_, rfl, _, rfl, by show 3 ≤ sizeLine; decide, fun L4 hL4 => ⟨L3, L4, _, _, rfl, rfl, same_new hL4 _ _ upd_same, upd_same, by show 9 ≤ sizeLine; decide, fun L5 hL5 => ⟨L5, _, rfl, .inl (SqL.new upd_same), rfl, rfl, _, rfl, iteT ?_⟩⟩⟩
    have s4 := same_upd (o := .lst [V.str "InvalidTable", V.str "Clash", V.str "Broken"]) (s3.free hL4) s3
    have s5 := same_upd (o := .lst ([V.str "InvalidRow", V.str "InvalidMenu", V.str "InvalidThings", V.str "InvalidTaken", V.str "InvalidRankings", V.str "InvalidLooks"] ++ [V.str "InvalidTable", V.str "Clash", V.str "Broken"])) (s4.free hL5) s4
    exact ⟨_, rfl, rfl, _, _, s5 _ _ hdd, ixD_at v, q _ s5⟩
/-- a def called in the suite -/
theorem pe_cE {X : Cx} {j k : Nat} {x : Str} {sp : Addr × Obj → Sp} {p : Addr × Obj} {q pos : Pos} {e : Expr} {es : List Expr} {t : TA} (C : CalE X.prog X.w X.K X.mg X.base j x sp) (hr : RoomH k X.A) (hj : j ≤ k) (hp : p ∈ X.pn) (hg : Gl X x)
    (ha : PA X (e :: es) t) (hdb : (x == ("__debug__" : Str)) = false := by decide) (he : starEach (e :: es) X.env = (false, eval e X.env) :: starEach es X.env := by rfl) (hpl : (backTo pos (starEach es X.env)).any (·.1) = false := by rfl) :
    PE X (.Call (.Name x q) (e :: es) [] pos) (tCallE (sp p) t) := by
  obtain ⟨f, fd, ps, F, hm, hk, hb⟩ := C.ex
  exact pe_callE F (hr.mono hj) hp hg hm hk hb ha hdb he hpl
/-- what an act may raise: Clash or Broken with a place, of which the tuple is made -/
def xCgt (K : PySem.W.Frag) (c : Nat → Addr) (Q : VK) : XK := fun cls d H => ∃ (D : Addr) (k : Nat) (dd : Addr) (i : Int), cls = .ref D ∧ d = some dd ∧ SortD K c D k ∧ PySem.W.exmAny K (.ref D) [.ref (c 23), .ref (c 24), .ref (c 25)] = some true ∧ H dd = some (.xd (ixD (.int i))) ∧ i.natAbs.log2 < 1920 ∧ ∀ H' r, Same H H' → SqT K H' r [.str (wordK k), .str (toString i)] → Q (.ref r) H'
def TCgt (K : PySem.W.Frag) (c : Nat → Addr) : (XK → Hp → VK → Prop) → Hp → VK → Prop := fun tl H Q => tl (xCgt K c Q) H fun v H' => ∃ v0, some (some v) = some (some v0) ∧ (2 ≤ sizeLine ∧ ∀ d, H' d = none → Q (.ref d) (upd H' d (.tup [.str "told", v0])))
def tsC (K : PySem.W.Frag) (c : Nat → Addr) (a : Addr) (cls : Value) (d : Option Addr) : TS := fun D σ H => (σ.length = 4 → σ[2]? = some (some (.ref a))) ∧ xCgt K c D.rt cls d H
theorem sc_law_caught : FnScope ["_law_act", "_law_told_here", "_law_e", "_law_word"] ["_law_act"] (L2.defScope (fnd 87)) := ⟨rfl, rfl, rfl, by decide +kernel, rfl, by decide +kernel, by decide +kernel⟩
abbrev cgC (X : Cx) (g : Addr) (cdg : Value) (s : Shared) (H : Hp) : Cx := (cxOf C8.CX0 X.prog X.w X.K X.mg X.base ["_law_act", "_law_told_here", "_law_e", "_law_word"] "_law_caught" (defScope (fnd 87)) g cdg X.A X.stack s H C8.E0).nox
theorem caught_gives {X : Cx} {g : Addr} {cdg : Value} {q : Str} {k : Nat} (T : Tx X.K X.mg) (ST : SortTx X.mg c) (hr : Room (k + 3) X.A) (c_sort : CalE X.prog X.w X.K X.mg X.base 1 "_law_sort" (spSort c X.K)) (c_field : CalE X.prog X.w X.K X.mg X.base 1 "_law_field" (spField c X.K)) :
    LamX.GivesTo X ["_law_act", "_law_told_here", "_law_e", "_law_word"] "_law_caught" (defScope (fnd 87)) g cdg (defBody (fnd 87)) "_law_act" q (TCgt X.K c) := by
  intro f c' s H Q tl act hc h
  have S := sc_law_caught
  refine ⟨_, pss_cons (ps_try_as3 (X := cgC X g cdg s H) (c1 := .ref (c 23)) (c2 := .ref (c 24)) (c3 := .ref (c 25)) (i := 2)
      (tb := fun W D σ H => ∃ Ech : XK, (∀ cls d σ' H', Ech cls d H' → W cls d σ' H') ∧ σ[0]? = some (some (.ref f)) ∧ H c' = some (LamX.CodeO c' q) ∧ tl Ech H fun v H' => D.nx (σ.set 1 (some v)) H') (ts := tsC X.K c)
      rfl rfl S.nd rfl rfl ⟨rfl, by decide, .inl (ST.gl 23 _ rfl)⟩ ⟨rfl, by decide, .inl (ST.gl 24 _ rfl)⟩ ⟨rfl, by decide, .inl (ST.gl 25 _ rfl)⟩ (fun W pn xe tk _ => ?_) (fun a oe cls d pn hz hf => ?_)) (pss_one (ps_ret (pe_tup (pa_cons pe_str (pa_cons (pv 1) pa_nil))))), ?_⟩
  · refine ⟨fun pins s' σ H' D I h' => ?_⟩
    obtain ⟨Ech, hW, h1, h2, h3⟩ := h'
    exact (pss_one (ps_set (i := 1) S.nd rfl (Or.inl rfl) (act W pn xe Ech _ _ tk hW))).run pins s' σ H' D I ⟨h1, h2, h3⟩
  · refine ⟨fun pins s' σ H' D I h' => ?_⟩
    obtain ⟨h2, D0, kk, dd, i, rfl, rfl, SD, _, hdd, hi, q9⟩ := h'
    have h2 := h2 I.len
    have hrS : RoomH 1 ((cgC X g cdg s H).suite a ((a, oe) :: pn)).A := by
      have r1 := roomH_of (hr.deeper (envOfC "_law_caught" (defScope (fnd 87)) s.heap.objs.size g cdg))
      exact RoomH.mono (k := k + 2) ⟨r1.dp, r1.un⟩ (by omega)
    have hp : (a, oe) ∈ (a, oe) :: pn := List.mem_cons_self
    refine (pss_cons (ps_set (i := 3) S.nd rfl (Or.inl rfl) (pe_cE (X := (cgC X g cdg s H).suite a ((a, oe) :: pn)) (p := (a, oe)) c_sort hrS (by decide) hp rfl (pa_cons (pv 2) pa_nil))) (pss_one (ps_ret (pe_tup (pa_cons (pv 3) (pa_cons (pe_callB (x := "repr") SkE.call_repr_int rfl T.n.repr (by rfl) (pa_cons (pe_cE (X := (cgC X g cdg s H).suite a ((a, oe) :: pn)) (p := (a, oe)) c_field hrS (by decide) hp rfl (pa_cons (pv 3) (pa_cons (pv 2) pa_nil))) pa_nil)) pa_nil)))))).run pins s' σ H' D I ?_
    have l4 : σ.length = 4 := I.len
    have e3 : ∀ y : Option V, (σ.set 3 y)[3]? = some y := fun y => List.getElem?_set_self (by omega)
    have e2 : ∀ y : Option V, (σ.set 3 y)[2]? = some (some (.ref a)) := fun y => by
      rw [List.getElem?_set_ne (by decide)]
      exact h2
    refine ⟨_, h2, D0, kk, .int i, rfl, SD, ⟨dd, hz, hf, hdd⟩, fun H1 s1 => ?_⟩
    refine ⟨_, e3 _, _, e3 _, _, e2 _, D0, kk, .int i, rfl, SD, ⟨dd, hz, hf, s1 _ _ hdd⟩, fun H2 s2 => ⟨i, rfl, hi, by show 2 ≤ sizeLine; decide, fun r hr => ?_⟩⟩
    exact q9 _ r ((s1.trans s2).trans (same_new hr)) (SqT.new upd_same)
  · refine ⟨xCgt X.K c Q, fun cls d σ' H' hx => ?_, rfl, hc, h⟩
    obtain ⟨D0, kk, dd, i, rfl, rfl, SD, ex, hdd, hi, q9⟩ := hx
    refine ⟨ex, fun a ha => ⟨fun hl => ?_, D0, kk, dd, i, rfl, rfl, SD, ex, hdd, hi, q9⟩⟩
    rw [List.length_set] at hl
    exact List.getElem?_set_self (by omega)
end
end Mh
end
section
set_option Elab.async false
set_option linter.all false
set_option maxRecDepth 100000
set_option maxHeartbeats 4000000
/-! MhL13: != on two lists of texts and of lists of texts; data to be shown. -/
namespace Mh
open PySem PySem.Spec PyProof.Rows L2 MhX
open C8 (Cal Mak Met pe_c pe_mk pe_mt pe_mt0 pe_gc pss_cut tCut)
/-- alike: the same flat value, or two lists of the same texts -/
def AlikeV (K : PySem.W.Frag) (H : Hp) (x y : V) : Prop := (x = y ∧ flatB x = true) ∨ ∃ a b zs, x = .ref a ∧ y = .ref b ∧ SqL K H a zs ∧ SqL K H b zs ∧ zs.all flatB = true
def rNeS (K : PySem.W.Frag) : R2 := fun x y H Q => ∃ a b xs ys, x = .ref a ∧ y = .ref b ∧ SqL K H a xs ∧ SqL K H b ys ∧ xs.length = ys.length ∧ (∀ (j : Nat) u v, xs[j]? = some u → ys[j]? = some v → AlikeV K H u v) ∧ Q (.bl false) H
theorem vals_at {xs : List V} {us : List Value} (r : Vals xs us) {j : Nat} (h : j < us.length) : ∃ x, xs[j]? = some x ∧ RelV x us[j] := by
  have h2 : j < xs.length := by rw [r.length]; exact h
  obtain ⟨u, hu, ru⟩ := r.get (List.getElem?_eq_getElem h2)
  refine ⟨xs[j], List.getElem?_eq_getElem h2, ?_⟩
  rw [List.getElem?_eq_getElem h] at hu
  cases hu
  exact ru
section
variable {X : Cx} {pins : List (Addr × Obj)} {σ : L2.St} {H : Hp} {s : Shared}
theorem alike_run (I : Inv X pins σ H s) {A : Around} (hu : A.units < cLine) {x y : V} {u v : Value} (h : AlikeV X.K H x y) (rx : RelV x u) (ry : RelV y v) : SeqAt.EqAt A s u v true := by
  rcases h with ⟨rfl, f⟩ | ⟨a, b, zs, rfl, rfl, ha, hb, f⟩
  · exact eqAt_same rx ry f
  · cases (show u = Value.ref a from rx)
    cases (show v = Value.ref b from ry)
    obtain ⟨us, r1, p1, _⟩ := I.list ha
    obtain ⟨ws, r2, p2, _⟩ := I.list hb
    have hsz : us.toArray.size = ws.toArray.size := by
      rw [List.size_toArray, List.size_toArray, ← r1.length, ← r2.length]
    have q := SeqAt.RcAt.lists (A := A) (e := fun _ => true) p1.isList p2.isList hsz hu fun j h1 h2 => by
      obtain ⟨z1, g1, t1⟩ := vals_at r1 (show j < us.length by simpa using h1)
      obtain ⟨z2, g2, t2⟩ := vals_at r2 (show j < ws.length by simpa using h2)
      rw [g1] at g2
      cases g2
      have k := eqAt_same (A := A.in1) (s := s) t1 t2 (List.all_eq_true.mp f z1 (List.mem_of_getElem? g1))
      simpa using k
    rw [show ((List.range us.toArray.size).all fun _ => true) = true from List.all_eq_true.mpr fun _ _ => rfl] at q
    by_cases e : a = b
    · subst e
      exact SeqAt.EqAt.same _
    · exact SeqAt.EqAt.of_refs e q
theorem op_neSK (K : PySem.W.Frag) (hu : X.A.units + 64 < cLine) (hK : X.K = K := by rfl) : OpR X (compareOp .NotEq) (rNeS K) := by
  subst hK
  intro pins s σ H x y v u Q I rx ry h
  obtain ⟨a, b, xs, ys, rfl, rfl, ha, hb, hl, al, q⟩ := h
  cases (show v = Value.ref a from rx)
  cases (show u = Value.ref b from ry)
  obtain ⟨us, r1, p1, _⟩ := I.list ha
  obtain ⟨ws, r2, p2, _⟩ := I.list hb
  have hsz : us.toArray.size = ws.toArray.size := by
    rw [List.size_toArray, List.size_toArray, ← r1.length, ← r2.length]
    exact hl
  have k := SeqAt.RcNeAt.lists (A := X.A) (e := fun _ => true) p1.isList p2.isList hsz (by omega) fun j h1 h2 => by
    obtain ⟨z1, g1, t1⟩ := vals_at r1 (show j < us.length by simpa using h1)
    obtain ⟨z2, g2, t2⟩ := vals_at r2 (show j < ws.length by simpa using h2)
    have kk := alike_run I (A := X.A.in1) (by show X.A.units + 1 < cLine; omega) (al j z1 z2 g1 g2) t1 t2
    simpa using kk
  rw [show ((List.range us.toArray.size).all fun _ => true) = true from List.all_eq_true.mpr fun _ _ => rfl] at k
  exact k X.prog X.w X.xe _ ⟨.bl false, H, I, rfl, q⟩
end
/-! ### data to be shown -/
structure ShP (n wt : Nat) (d : PyData) : Prop where
  sh : Sh n d
  wt : d.weight ≤ wt
  ok : d.showable = true
  nd : d.hasDict = false
  is : d.intsShort 13 = true
theorem ShP.mono {n m a b : Nat} {d : PyData} (h : ShP n a d) (h1 : n ≤ m) (h2 : a ≤ b) : ShP m b d := ⟨h.sh.mono h1, Nat.le_trans h.wt h2, h.ok, h.nd, h.is⟩
theorem ShP.str {n wt : Nat} {x : Str} (h : PyData.strOk x = true) (l : x.cps.size ≤ wt) : ShP n wt (.str x) := ⟨.str h, by simpa [PyData.weight] using l, by simp [PyData.showable], by simp [PyData.hasDict], by simp [PyData.intsShort]⟩
theorem ShP.bl {n wt : Nat} (b : Bool) : ShP n wt (.bool b) := ⟨⟨by simp [PyData.canLay0], by simp [PyData.depth]⟩, by simp [PyData.weight], by simp [PyData.showable], by simp [PyData.hasDict], by simp [PyData.intsShort]⟩
theorem ints_short : ∀ n < 256, (PyData.shown (.int (n : Nat))).length ≤ 13 ∧ (PyData.int (n : Nat)).weight ≤ 9 ∧ (PyData.int (n : Nat)).showable = true := by decide +kernel
theorem ShP.int {n wt : Nat} {i : Nat} (h : i < 256) (hw : 9 ≤ wt) : ShP n wt (.int (i : Nat)) := by
  obtain ⟨h1, h2, h3⟩ := ints_short i h
  exact ⟨.int _, Nat.le_trans h2 hw, h3, by simp [PyData.hasDict], by simpa [PyData.intsShort] using h1⟩
theorem shp_all {n wt : Nat} : ∀ {ds : List PyData}, (∀ d ∈ ds, ShP n wt d) → PyData.weightAll ds ≤ (wt + 1) * ds.length ∧ PyData.showableAll ds = true ∧ PyData.hasDictAll ds = false ∧ PyData.intsShortAll 13 ds = true
  | [], _ => by simp [PyData.weightAll, PyData.showableAll, PyData.hasDictAll, PyData.intsShortAll]
  | d :: ds, h => by
    obtain ⟨h1, h2, h3, h4⟩ := shp_all fun e he => h e (List.mem_cons_of_mem _ he)
    have g := h d List.mem_cons_self
    have gw := g.wt
    refine ⟨?_, ?_, ?_, ?_⟩
    · simp only [PyData.weightAll, List.length_cons, Nat.mul_add, Nat.mul_one]
      omega
    · simp [PyData.showableAll, g.ok, h2]
    · simp [PyData.hasDictAll, g.nd, h3]
    · simp [PyData.intsShortAll, g.is, h4]
theorem ShP.tuple {n wt m : Nat} {ds : List PyData} (h : ∀ d ∈ ds, ShP n wt d) (hm : (wt + 1) * ds.length ≤ m) : ShP (n + 1) m (.tuple ds) := by
  obtain ⟨h1, h2, h3, h4⟩ := shp_all h
  exact ⟨.tuple fun d hd => (h d hd).sh, by simp only [PyData.weight]; omega, by simpa [PyData.showable] using h2, by simpa [PyData.hasDict] using h3, by simpa [PyData.intsShort] using h4⟩
theorem ShP.list {n wt m : Nat} {ds : List PyData} (h : ∀ d ∈ ds, ShP n wt d) (hm : (wt + 1) * ds.length ≤ m) : ShP (n + 1) m (.list ds) := by
  obtain ⟨h1, h2, h3, h4⟩ := shp_all h
  exact ⟨.list fun d hd => (h d hd).sh, by simp only [PyData.weight]; omega, by simpa [PyData.showable] using h2, by simpa [PyData.hasDict] using h3, by simpa [PyData.intsShort] using h4⟩
theorem ShP.fits {n wt : Nat} {d : PyData} (h : ShP n wt d) (h1 : n ≤ 50) (h2 : wt ≤ 1048576) : d.showable = true ∧ d.hasDict = false ∧ d.depth ≤ 50 ∧ d.shown.length ≤ sizeLine := by
  refine ⟨h.ok, h.nd, Nat.le_trans h.sh.dep h1, ?_⟩
  have l : PyData.layable0 d = true := by
    have d1 := h.sh.lay
    have d2 := h.sh.dep
    have d3 := h.wt
    have d4 : d.weight ≤ 2 ^ 20 := by
      have : (2 : Nat) ^ 20 = 1048576 := by decide
      omega
    unfold PyData.layable0
    rw [d1, decide_eq_true (show d.depth ≤ 64 by omega), decide_eq_true d4]
    rfl
  have := shown_le13 l h.is
  rw [sizeLine_eq]
  omega
/-- a tuple of names -/
theorem shp_names {ns : List Str} (no : NamesOk ns) : ShP 1 100 (.tuple (txs ns)) := by
  refine .tuple (wt := 8) (fun d hd => ?_) ?_
  · obtain ⟨t, ht, rfl⟩ := List.mem_map.mp hd
    exact .str (no.txt t ht) (no.ok t ht).hi
  · have := no.few
    unfold txs
    rw [List.length_map]
    omega
def vowD (q : Vow) : PyData := .tuple [.str q.1, .tuple (txs q.2.1), .str q.2.2]
/-- the word of a promise is one of the three -/
def WdOk (q : Vow) : Prop := q.1 = "never" ∨ q.1 = "surely" ∨ q.1 = "perhaps"
theorem wd_of (ns : List Str) (Ls : List (Lk Str)) (M : List Str) (t : Str) : WdOk (wordP ns Ls M t, M, t) := by
  unfold WdOk wordP
  dsimp only
  split
  · exact .inl rfl
  · split
    · exact .inr (.inl rfl)
    · exact .inr (.inr rfl)
theorem shp_vow {ns : List Str} {q : Vow} (h : VwOk ns q) (w : WdOk q) : ShP 2 400 (vowD q) := by
  have key : ∀ s : Str, (s = "never" ∨ s = "surely" ∨ s = "perhaps") → ShP 1 100 (.str s) := by
    rintro s (rfl | rfl | rfl)
    · exact .str (by decide +kernel) (by decide +kernel)
    · exact .str (by decide +kernel) (by decide +kernel)
    · exact .str (by decide +kernel) (by decide +kernel)
  refine .tuple (n := 1) (wt := 100) (fun d hd => ?_) (by show 101 * 3 ≤ 400; decide)
  have no := h.names
  rcases List.mem_cons.mp hd with rfl | hd
  · exact key _ w
  rcases List.mem_cons.mp hd with rfl | hd
  · exact shp_names no
  · have e : d = .str q.2.2 := by simpa using hd
    rw [e]
    exact .str (no.txt _ h.mem) (by have := (no.ok _ h.mem).hi; omega)
theorem shp_vows {ns : List Str} {Vs : List Vow} (h : ∀ q ∈ Vs, VwOk ns q) (w : ∀ q ∈ Vs, WdOk q) (l : Vs.length ≤ 100) : ShP 3 50000 (.tuple (Vs.map vowD)) := by
  refine .tuple (n := 2) (wt := 400) (fun d hd => ?_) (by rw [List.length_map]; omega)
  obtain ⟨q, hq, rfl⟩ := List.mem_map.mp hd
  exact shp_vow (h q hq) (w q hq)
theorem dp_vow {K : PySem.W.Frag} {H : Hp} {v : V} {q : Vow} (h : VwV K H v q) : Dp K H v (vowD q) := by
  obtain ⟨T, m, rfl, h1, h2⟩ := h
  exact .tup h1 (.cons (.str _) (.cons (dp_tt h2) (.cons (.str _) .nil)))
theorem dp_vows {K : PySem.W.Frag} {H : Hp} : ∀ {vs : List V} {Vs : List Vow}, All2 (VwV K H) vs Vs → DpAll K H vs (Vs.map vowD)
  | [], [], _ => .nil
  | [], _ :: _, h => by cases h.1
  | _ :: _, [], h => by cases h.1
  | v :: vs, q :: Vs, h => .cons (dp_vow (h.2 0 v q rfl rfl)) (dp_vows ⟨by have := h.1; simpa using this, fun i x y hx hy => h.2 (i + 1) x y (by simpa using hx) (by simpa using hy)⟩)
end Mh
end
section
set_option Elab.async false
set_option linter.all false
set_option maxRecDepth 100000
set_option maxHeartbeats 4000000
/-! MhL14: defs called where no guard is under way; what is shot of a book. -/
namespace Mh
open PySem PySem.Spec PyProof.Rows L2 MhX
open C8 (Cal Mak Met pe_c pe_mk pe_mt pe_mt0 pe_gc pss_cut tCut)
structure CalG (P : Program) (w : World) (K : PySem.W.Frag) (mg : Str → Option Value) (base : Heap) (k : Nat) (x : Str) (sp : Sp) : Prop where
  ex : ∃ (f : Addr) (fd : FuncData) (ps : List Str), FnG P w K mg base k f fd ps sp ∧ mg x = some (.ref f) ∧ PySem.W.keepIn K (.ref f) = true ∧ Binds K fd ps []
theorem pe_cG {X : Cx} {j k : Nat} {x : Str} {sp : Sp} {q pos : Pos} {e : Expr} {es : List Expr} {t : TA} (C : CalG X.prog X.w X.K X.mg X.base j x sp) (hG : X.A.guards = some []) (hr : Room k X.A) (hj : j ≤ k) (hg : Gl X x)
    (ha : PA X (e :: es) t) (hdb : (x == ("__debug__" : Str)) = false := by decide) (he : starEach (e :: es) X.env = (false, eval e X.env) :: starEach es X.env := by rfl) (hpl : (backTo pos (starEach es X.env)).any (·.1) = false := by rfl) :
    PE X (.Call (.Name x q) (e :: es) [] pos) (tCallG sp t) := by
  obtain ⟨f, fd, ps, F, hm, hk, hb⟩ := C.ex
  exact pe_callG F hG (hr.mono hj) hg hm hk hb ha hdb he hpl
theorem call_reprDK {X : Cx} {n : Nat} (K : PySem.W.Frag) (hG : X.A.guards = some []) (hr : Room 1 X.A) (hn : n ≤ 50) (h : X.K = K := by rfl) : CallR X (.builtin "repr") (rRepr K n) := by
  subst h
  exact call_reprD hG hr hn
section
variable {P : Program} {w : World} {K : PySem.W.Frag} {mg : Str → Option Value} {base : Heap} {CK CL C : Addr}
theorem mkCalG {x : Str} {st : Stmt} {N ps : List Str} {k : Nat} {sp : Sp} (D : DefF K mg x st) (S : FnScope N ps (defScope st)) (b : BindP st x x ps) (len : ∀ vs H Q E, sp vs H Q E → vs.length = ps.length)
    (hbody : ∀ (f : Addr) (cdv : Value) (A : Around) (outer : List Env) (s : Shared) (H : Hp) (vs : List V) (Q : VK) (E : XK), (A.deeper (envOfC x (defScope st) s.heap.objs.size f cdv)).guards = some [] → Room k (A.deeper (envOfC x (defScope st) s.heap.objs.size f cdv)) → sp vs H Q E →
      ∃ t, PSs (cxOf L2.CX0 P w K mg base N x (defScope st) f cdv A outer s H E).nox (defBody st) t ∧ t { nx := fun _ H' => Q .non H', rt := Q } (L2.start N vs) H) : CalG P w K mg base (k + 1) x sp := by
  obtain ⟨f, fd, F, hm⟩ := D.ex
  exact ⟨f, fd, ps, fun_okG F S len fun cdv A outer s H vs Q E _ _ hg hr h => hbody f cdv A outer s H vs Q E hg hr h, hm, F.kp, F.binds b⟩
/-- a def of which the code object is known -/
structure DefC (K : PySem.W.Frag) (mg : Str → Option Value) (x : Str) (st : Stmt) (c : Addr) : Prop where
  ex : ∃ (f : Addr) (fd : FuncData), L2.Fun K x x st f fd ∧ mg x = some (.ref f) ∧ fd.code = .ref c
theorem mkCalGC {x : Str} {st : Stmt} {N ps : List Str} {k : Nat} {sp : Sp} {c : Addr} (D : DefC K mg x st c) (S : FnScope N ps (defScope st)) (b : BindP st x x ps) (len : ∀ vs H Q E, sp vs H Q E → vs.length = ps.length)
    (hbody : ∀ (f : Addr) (A : Around) (outer : List Env) (s : Shared) (H : Hp) (vs : List V) (Q : VK) (E : XK), (A.deeper (envOfC x (defScope st) s.heap.objs.size f (.ref c))).guards = some [] → Room k (A.deeper (envOfC x (defScope st) s.heap.objs.size f (.ref c))) → sp vs H Q E →
      ∃ t, PSs (cxOf L2.CX0 P w K mg base N x (defScope st) f (.ref c) A outer s H E).nox (defBody st) t ∧ t { nx := fun _ H' => Q .non H', rt := Q } (L2.start N vs) H) : CalG P w K mg base (k + 1) x sp := by
  obtain ⟨f, fd, F, hm, hc⟩ := D.ex
  refine ⟨f, fd, ps, fun_okG F S len fun cdv A outer s H vs Q E _ e hg hr h => ?_, hm, F.kp, F.binds b⟩
  obtain rfl : cdv = .ref c := by rw [← e, hc]
  exact hbody f A outer s H vs Q E hg hr h
theorem bk_fld {H : Hp} {b : Addr} {ns : List Str} {Ls : List (Lk Str)} {Vs : List Vow} {n : Nat} (h : BkAt K CK CL C H b ns Ls Vs n) : ∃ dx fs, H b = some (.ins CK dx fs) := by
  obtain ⟨dx, h0, v, g, gs, h1, _⟩ := h
  exact ⟨dx, _, h1⟩
def spShot (K : PySem.W.Frag) (CK CL C : Addr) : Sp := fun vs H Q _ => ∃ (b : Addr) (ns : List Str) (Ls : List (Lk Str)) (Vs : List Vow) (n : Nat), vs = [.ref b] ∧ BkAt K CK CL C H b ns Ls Vs n ∧ NamesOk ns ∧ (∀ l ∈ Ls, LpOk ns l) ∧ Ls.length ≤ 12 ∧ (∀ q ∈ Vs, VwOk ns q) ∧ (∀ q ∈ Vs, WdOk q) ∧ Vs.length ≤ 100 ∧ n ≤ 200 ∧
  ∀ H' r S z, Same H H' → H' r = some (.lst [.str (PyData.tuple (txs ns)).shown, .ref S, .str (PyData.tuple (Vs.map vowD)).shown, .str z]) → H' S = some (.lst ((Ls.map lookText).map V.str)) → Q (.ref r) H'
theorem sc_law_shot : FnScope ["_law_book", "_law_said", "_law_one"] ["_law_book"] (L2.defScope (fnd 93)) := ⟨rfl, rfl, rfl, by decide +kernel, rfl, by decide +kernel, by decide +kernel⟩
theorem d_shot (T : Tx K mg) (D : DefF K mg "_law_shot" (fnd 93)) (p_looks : Prp P w K mg base 1 CL "looks" (spSeen CL)) (p_Book_things : Prp P w K mg base 3 CK "things" (spBkThings K CK CL C)) (p_Book_looks : Prp P w K mg base 1 CK "looks" (spBkLooks K CK CL C)) (p_Book_promises : Prp P w K mg base 1 CK "promises" (spBkPromises K CK CL C)) (p_Book_changes : Prp P w K mg base 1 CK "changes" (spBkChanges K CK CL C))
    (s_look_str : SpcOk P w K mg base 1 C "__str__" (spLookStr K C)) (s_Book_len : SpcOk P w K mg base 3 CK "__len__" (spBkLen K CK CL C)) (s_Book_bool : SpcOk P w K mg base 1 CK "__bool__" spBkBool) : CalG P w K mg base 5 "_law_shot" (spShot K CK CL C) := by
  have S := sc_law_shot
  refine mkCalG D S (fun _ _ _ _ _ _ us hl => match us, hl with | [_], _ => rfl) (fun vs H Q E h => ?_) (fun f cdv A outer s H vs Q E hG hr h => ?_)
  · obtain ⟨b, ns, Ls, Vs, n, rfl, _⟩ := h
    rfl
  obtain ⟨b, ns, Ls, Vs, n, rfl, ba, no, ok, l12, okV, wdV, lV, ln, k⟩ := h
  obtain ⟨f1, fd1, ps1, S1, _, F1, B1⟩ := s_look_str.ex
  obtain ⟨f2, fd2, ps2, S2, _, F2, B2⟩ := s_Book_len.ex
  obtain ⟨f3, fd3, ps3, S3, _, F3, B3⟩ := s_Book_bool.ex
  have hr0 := hr.mono (j := 1) (by decide)
  have hr1 := hr.mono (j := 3) (by decide)
  have hr2 := hr.mono (j := 4) (by decide)
  have hr3 := hr.mono (j := 3) (by decide)
  obtain ⟨dx, fs, hb⟩ := bk_fld ba
  -- slots: 0 _law_book, 1 _law_said, 2 _law_one
  refine ⟨_, (pss_cons (ps_setLc (i := 1) rfl S.nd rfl rfl (by rfl) (pi_tupK K (pe_pr p_looks hr (by decide) (pe_pr p_Book_looks hr (by decide) (pv 0) rfl) rfl)) (blkOk_by (N := ["_law_book", "_law_said", "_law_one"]) (sc := L2.defScope (fnd 93)) (own := [("_law_one", 2)]) (by decide +kernel)) (fun _ _ _ _ _ => (pg_name (i := 2) S.nd rfl (Or.inl rfl))) (fun _ _ _ _ _ => pts_nil) (fun _ _ _ _ _ => (pe_callTy (call_strOwn S1 F1 hr1 B1) rfl T.n.str (by rfl) (pa_cons (pv 2) pa_nil)))) (pss_one (ps_ret (pe_lst (pa_cons (pe_callB (call_reprDK K hG hr0 (Nat.le_refl 50)) rfl T.n.repr (by rfl) (pa_cons (pe_pr p_Book_things hr (by decide) (pv 0) rfl) pa_nil)) (pa_cons (pv 1) (pa_cons (pe_callB (call_reprDK K hG hr0 (Nat.le_refl 50)) rfl T.n.repr (by rfl) (pa_cons (pe_pr p_Book_promises hr (by decide) (pv 0) rfl) pa_nil)) (pa_cons (pe_callB (call_reprDK K hG hr0 (Nat.le_refl 50)) rfl T.n.repr (by rfl) (pa_cons (pe_lst (pa_cons (pe_pr p_Book_changes hr (by decide) (pv 0) rfl) (pa_cons (pe_callB (call_lenOwn S2 F2 hr2 B2) rfl T.n.len (by rfl) (pa_cons (pv 0) pa_nil)) (pa_cons (pe_callTy (call_boolOwn S3 F3 hr3 B3) rfl T.n.bool (by rfl) (pa_cons (pv 0) pa_nil)) pa_nil)))) pa_nil)) pa_nil)))))))), ?_⟩
  refine ⟨_, rfl, b, dx, _, rfl, hb, b, rfl, ns, Ls, Vs, n, ba, fun a la => ?_⟩
  obtain ⟨dy, m, t, hh, c⟩ := id la
  obtain ⟨us, h1, h2⟩ := c.looks
  have hul := h2.1
  refine ⟨a, dy, _, rfl, hh, a, dy, m, t, rfl, hh, t, rfl, ⟨_, h1⟩, fun D1 hD1 => lc_pure walk_tup (fun i => (Ls[i]?).bind fun l => some (V.str (lookText l))) hD1 (len_small (by omega)) (fun H' s => sqT_same s h1) ?_ ?_⟩
  · rintro i x H3 H4 hi s3 ⟨e0, hx⟩ R k2
    subst e0
    obtain ⟨l, hl, hv⟩ := h2.at hx
    have ml := ok l (List.mem_of_getElem? hl)
    have k3 := fun H'' s => k2 H'' s
    rw [hl] at k3
    obtain ⟨a1, dz, m1, rfl, g1, g2⟩ := id hv
    refine ⟨rfl, _, rfl, a1, dz, _, rfl, s3 _ _ g1, _, l, rfl, hv.kt s3.kt, lp_len ml no, fun u hu => (no.ok u (ml.sub.subset hu)).hi, fun H' s' => ⟨_, rfl, k3 H' s'⟩⟩
  · intro H1 s1 e1
    rw [hul, range_fm, fm_map] at e1
    have ba1 := ba.same s1
    have hb1 := s1 _ _ hb
    obtain ⟨r1, r2, r3, r4⟩ := (shp_names no).fits (by decide) (by decide)
    refine ⟨_, rfl, b, dx, _, rfl, hb1, b, rfl, ns, Ls, Vs, n, ba1, fun a2 ha2 => ⟨a2, _, rfl, dp_tt ha2, r1, r2, r3, r4, _, rfl, ?_⟩⟩
    obtain ⟨q1, q2, q3, q4⟩ := (shp_vows okV wdV lV).fits (by decide) (by decide)
    refine ⟨_, rfl, b, dx, _, rfl, hb1, b, rfl, ns, Ls, Vs, n, ba1, fun a3 ⟨vs3, g3, g4⟩ => ⟨a3, _, rfl, .tup g3 (dp_vows g4), q1, q2, q3, q4, ?_⟩⟩
    refine ⟨_, rfl, b, dx, _, rfl, hb1, b, rfl, ns, Ls, Vs, n, ba1, _, rfl, b, dx, _, rfl, hb1, b, rfl, ns, Ls, Vs, n, ba1, _, rfl, Int.natCast_nonneg _, ?_, ?_⟩
    · have : (Ls.length : Int) < 13 := by omega
      exact Int.lt_trans this (by decide)
    refine ⟨_, rfl, b, dx, _, rfl, hb1, b, rfl, _, rfl, by show 3 ≤ sizeLine; decide, fun L hL => ?_⟩
    have hp : ShP 1 100 (.list [.int (n : Nat), .int (Ls.length : Nat), .bool true]) := by
      refine .list (wt := 9) (fun d hd => ?_) (by show 10 * 3 ≤ 100; decide)
      rcases List.mem_cons.mp hd with rfl | hd
      · exact .int (by omega) (by decide)
      rcases List.mem_cons.mp hd with rfl | hd
      · exact .int (by omega) (by decide)
      · have e : d = .bool true := by simpa using hd
        rw [e]
        exact .bl _
    obtain ⟨p1, p2, p3, p4⟩ := hp.fits (by decide) (by decide)
    refine ⟨L, _, rfl, .lst (SqL.new upd_same) (.cons (.int _) (.cons (.int _) (.cons (.bl _) .nil))), p1, p2, p3, p4, by show 4 ≤ sizeLine; decide, fun r hr9 => ?_⟩
    refine k _ r D1 _ (s1.trans ((same_new hL).trans (same_new hr9))) upd_same ?_
    rw [((same_new hL).trans (same_new hr9)) _ _ e1, List.map_map]
    rfl
end
end Mh
end
section
set_option Elab.async false
set_option linter.all false
set_option maxRecDepth 100000
set_option maxHeartbeats 4000000
/-! MhL15: the book is what it should be. -/
namespace Mh
open PySem PySem.Spec PyProof.Rows L2 MhX
open C8 (Cal Mak Met pe_c pe_mk pe_mt pe_mt0 pe_gc pss_cut tCut)
section
variable {P : Program} {w : World} {K : PySem.W.Frag} {mg : Str → Option Value} {base : Heap} {CK CL C : Addr}
theorem first_none {ns : List Str} {Ls : List (Lk Str)} {Vs : List Vow} (h : firstP ns Ls Vs = none) : ∀ q ∈ Vs, wordP ns Ls q.2.1 q.2.2 = q.1 := fun q hq => by
  unfold firstP at h
  have := List.findIdx?_eq_none_iff.mp h q hq
  simpa using this
theorem word_mark (ns : List Str) (Ls : List (Lk Str)) (M : List Str) (t : Str) : some (V.str ⟨#[markP ns Ls M t]⟩) = valV (mergeK [] [(.inr ("surely" : Str), V.str "+"), (.inr ("never" : Str), V.str "-"), (.inr ("perhaps" : Str), V.str "?")]) (.inr (wordP ns Ls M t)) := by
  unfold markP wordP
  by_cases h1 : neverP ns Ls M t
  · rw [if_pos h1, if_pos h1]
    decide +kernel
  · rw [if_neg h1, if_neg h1]
    by_cases h2 : sureP ns Ls M t
    · rw [if_pos h2, if_pos h2]
      decide +kernel
    · rw [if_neg h2, if_neg h2]
      decide +kernel
structure IsC (K : PySem.W.Frag) (CK CL C : Addr) (H : Hp) (b a l t : Addr) (ns : List Str) (Ls : List (Lk Str)) (Vs : List Vow) (n : Nat) : Prop where
  bk : BkAt K CK CL C H b ns Ls Vs n
  nm : TT K H a ns
  no : NamesOk ns
  lp : LpL K H l Ls
  ok : ∀ l ∈ Ls, LpOk ns l
  l12 : Ls.length ≤ 12
  vw : VwL K H t Vs
  okV : ∀ q ∈ Vs, VwOk ns q
  wdV : ∀ q ∈ Vs, WdOk q
  lV : Vs.length ≤ 100
  ln : n ≤ 200
  fit : fitP ns Ls
  first : firstP ns Ls Vs = none
def spIs (K : PySem.W.Frag) (CK CL C : Addr) : Sp := fun vs H Q _ => ∃ (b a l t : Addr) (ns : List Str) (Ls : List (Lk Str)) (Vs : List Vow) (n : Nat), vs = [.ref b, .ref a, .ref l, .ref t] ∧ IsC K CK CL C H b a l t ns Ls Vs n ∧ ∀ H', Same H H' → Q (.bl true) H'
theorem sc_law_is : FnScope ["_law_book", "_law_names_here", "_law_pairs", "_law_vows", "_law_said", "_law_word", "_law_menu_here", "_law_thing", "_law_pair"] ["_law_book", "_law_names_here", "_law_pairs", "_law_vows"] (L2.defScope (fnd 96)) := ⟨rfl, rfl, rfl, by decide +kernel, rfl, by decide +kernel, by decide +kernel⟩
theorem d_is (T : Tx K mg) (D : DefF K mg "_law_is" (fnd 96)) (c__law_text : Cal P w K mg base 1 "_law_text" (spText K) []) (c__law_shot : CalG P w K mg base 5 "_law_shot" (spShot K CK CL C)) (s_Book_len : SpcOk P w K mg base 3 CK "__len__" (spBkLen K CK CL C)) (s_Book_get : SpcOk P w K mg base 10 CK "__getitem__" (spBkGet K CK CL C)) (s_look_get : SpcOk P w K mg base 1 C "__getitem__" (spLookGet K C)) : CalG P w K mg base 12 "_law_is" (spIs K CK CL C) := by
  have S := sc_law_is
  refine mkCalG D S (fun _ _ _ _ _ _ us hl => match us, hl with | [_, _, _, _], _ => rfl) (fun vs H Q E h => ?_) (fun f cdv A outer s H vs Q E hG hr h => ?_)
  · obtain ⟨b, a, l, t, ns, Ls, Vs, n, rfl, _⟩ := h
    rfl
  obtain ⟨b, a, l, t, ns, Ls, Vs, n, rfl, ⟨ba, ha, no, ⟨us, h1, h2⟩, ok, l12, ⟨ws, g1, g2⟩, okV, wdV, lV, ln, fit, first⟩, k⟩ := h
  obtain ⟨f2, fd2, ps2, S2, _, F2, B2⟩ := s_Book_len.ex
  obtain ⟨f4, fd4, ps4, S4, N4, F4, B4⟩ := s_look_get.ex
  obtain ⟨f5, fd5, ps5, S5, N5, F5, B5⟩ := s_Book_get.ex
  have hr0 := hr.mono (j := 1) (by decide)
  have hr2 := hr.mono (j := 4) (by decide)
  have hr4 := hr.mono (j := 2) (by decide)
  have hr5 := hr.mono (j := 11) (by decide)
  have hu1 : (A.deeper (envOfC "_law_is" (defScope (fnd 96)) s.heap.objs.size f cdv)).units + 1 < cLine := by
    have := hu64 hr
    omega
  obtain ⟨dx, fs, hb⟩ := bk_fld ba
  have hul := h2.1
  -- slots: 0 _law_book, 1 _law_names_here, 2 _law_pairs, 3 _law_vows, 4 _law_said, 5 _law_word, 6 _law_menu_here, 7 _law_thing, 8 _law_pair
  refine ⟨_, (pss_cons (ps_setLc (i := 4) rfl S.nd rfl rfl (by rfl) (pi_listK K (pv 2)) (blkOk_by (N := ["_law_book", "_law_names_here", "_law_pairs", "_law_vows", "_law_said", "_law_word", "_law_menu_here", "_law_thing", "_law_pair"]) (sc := L2.defScope (fnd 96)) (own := [("_law_pair", 8)]) (by decide +kernel)) (fun _ _ _ _ _ => (pg_name (i := 8) S.nd rfl (Or.inl rfl))) (fun _ _ _ _ _ => pts_nil) (fun _ _ _ _ _ => (pe_c c__law_text hr (by decide) rfl (pa_cons (pv 8) pa_nil)))) 
    (pss_cons (ps_if (pt_cmpR (op_neSK K (hu64 hr)) (pe_slice (sl_listK K) (pe_cG c__law_shot hG hr (by decide) rfl (pa_cons (pv 0) pa_nil)) po_none (po_some pe_int)) (pe_lst (pa_cons (pe_callB (call_reprDK K hG hr0 (Nat.le_refl 50)) rfl T.n.repr (by rfl) (pa_cons (pv 1) pa_nil)) (pa_cons (pv 4) (pa_cons (pe_callB (call_reprDK K hG hr0 (Nat.le_refl 50)) rfl T.n.repr (by rfl) (pa_cons (pe_callTy (call_tuple_ofK K) rfl T.n.tuple (by rfl) (pa_cons (pv 3) pa_nil)) pa_nil)) pa_nil)))) (nomark _)) (pss_one (ps_ret pe_bl)) pss_nil) 
    (pss_cons (ps_for PassesOwn.never rfl (pi_listK K (pv 3)) (pg_tupK K (n := 3) rfl (pgs_cons (pg_name (i := 5) S.nd rfl (Or.inl rfl)) (pgs_cons (pg_name (i := 6) S.nd rfl (Or.inl rfl)) (pgs_cons (pg_name (i := 7) S.nd rfl (Or.inl rfl)) pgs_nil)))) (pss_one (ps_if (pt_cmpR op_ne (pe_ixOwn S4 N4 F4 hr4 B4 (pe_ixOwn S5 N5 F5 hr5 B5 (pv 0) (pv 6)) (pv 7)) (pe_dget hu1 (pe_disp (pps_cons pe_str pe_str (pps_cons pe_str pe_str (pps_cons pe_str pe_str pps_nil))) rfl rfl (by simp) (by decide)) (pv 5) (fun _ _ => rfl)) (nomark _)) (pss_one (ps_ret pe_bl)) pss_nil))) (pss_one (ps_ret (pe_cmpR op_eq (pe_callB (call_lenOwn S2 F2 hr2 B2) rfl T.n.len (by rfl) (pa_cons (pv 0) pa_nil)) (pe_callB (call_len_seqK K) rfl T.n.len (by rfl) (pa_cons (pv 2) pa_nil)) (nomark _))))))), ?_⟩
  refine ⟨_, rfl, l, rfl, ⟨_, h1⟩, fun D1 hD1 => lc_pure walk_list (fun i => (Ls[i]?).bind fun l => some (V.str (lookText l))) hD1 (len_small (by omega)) (fun H' s => s.seq h1) ?_ ?_⟩
  · rintro i x H3 H4 hi s3 ⟨e0, hx⟩ R k2
    subst e0
    obtain ⟨lk, hlk, hv⟩ := h2.at hx
    have ml := ok lk (List.mem_of_getElem? hlk)
    have k3 := fun H'' s => k2 H'' s
    rw [hlk] at k3
    exact ⟨rfl, _, rfl, _, lk, rfl, hv.kt s3.kt, ml.len, lp_len ml no, fun u hu => (no.ok u (ml.sub.subset hu)).hi, fun H' s' => k3 H' s'⟩
  intro H1 s1 e1
  rw [hul, range_fm, fm_map] at e1
  refine ⟨_, rfl, b, ns, Ls, Vs, n, rfl, ba.same s1, no, ok, l12, okV, wdV, lV, ln, fun H2 r Sd z s2 e2 e3 => ?_⟩
  unfold tNoPart
  refine ⟨_, rfl, r, _, rfl, SqL.new e2, fun p hp => ?_⟩
  obtain ⟨r1, r2, r3, r4⟩ := (shp_names no).fits (by decide) (by decide)
  obtain ⟨q1, q2, q3, q4⟩ := (shp_vows okV wdV lV).fits (by decide) (by decide)
  have s3 := same_upd (o := .lst (cutV [.str (PyData.tuple (txs ns)).shown, .ref Sd, .str (PyData.tuple (Vs.map vowD)).shown, .str z] none (some 3))) (s2.free hp) s2
  have e4 := same_new (o := .lst (cutV [.str (PyData.tuple (txs ns)).shown, .ref Sd, .str (PyData.tuple (Vs.map vowD)).shown, .str z] none (some 3))) hp _ _ e3
  have e5 : (upd H2 p (.lst (cutV [.str (PyData.tuple (txs ns)).shown, .ref Sd, .str (PyData.tuple (Vs.map vowD)).shown, .str z] none (some 3)))) p = some (.lst [.str (PyData.tuple (txs ns)).shown, .ref Sd, .str (PyData.tuple (Vs.map vowD)).shown]) := upd_same
  have e6 := (s2.trans (same_new (o := .lst (cutV [.str (PyData.tuple (txs ns)).shown, .ref Sd, .str (PyData.tuple (Vs.map vowD)).shown, .str z] none (some 3))) hp)) _ _ e1
  have s03 : Same H _ := s1.trans (s2.trans (same_new (o := .lst (cutV [.str (PyData.tuple (txs ns)).shown, .ref Sd, .str (PyData.tuple (Vs.map vowD)).shown, .str z] none (some 3))) hp))
  generalize upd H2 p (.lst (cutV [.str (PyData.tuple (txs ns)).shown, .ref Sd, .str (PyData.tuple (Vs.map vowD)).shown, .str z] none (some 3))) = H3 at e4 e5 e6 s03 ⊢
  refine ⟨_, rfl, a, _, rfl, dp_tt (ha.same s03), r1, r2, r3, r4, _, rfl, _, rfl, t, ws, rfl, .inl ⟨s03.seq g1, fun y hy => ⟨y, _, rfl, .tup (SqT.new upd_same) (dp_vows (g2.mono fun _ _ r => r.kt (s03.trans (same_new hy)).kt)), q1, q2, q3, q4, by show 3 ≤ sizeLine; decide, fun L hL => ?_⟩⟩⟩
  have s45 := (same_new (o := .tup ws) hy).trans (same_new (o := .lst [.str (PyData.tuple (txs ns)).shown, .ref D1, .str (PyData.tuple (Vs.map vowD)).shown]) hL)
  refine ⟨p, L, _, _, rfl, rfl, SqL.new (s45 _ _ e5), SqL.new upd_same, rfl, ?_, _, rfl, iteF ?_⟩
  · intro j u v hu hv
    match j, hu, hv with
    | 0, hu, hv =>
      cases hu
      cases hv
      exact .inl ⟨rfl, rfl⟩
    | 1, hu, hv =>
      cases hu
      cases hv
      refine .inr ⟨Sd, D1, (Ls.map lookText).map V.str, rfl, rfl, SqL.new (s45 _ _ e4), SqL.new ?_, ?_⟩
      · rw [s45 _ _ e6, List.map_map]
        rfl
      · rw [List.all_map, List.all_eq_true]
        exact fun _ _ => rfl
    | 2, hu, hv =>
      cases hu
      cases hv
      exact .inl ⟨rfl, rfl⟩
  have s05 := s03.trans s45
  generalize upd (upd H3 y (.tup ws)) L (.lst [.str (PyData.tuple (txs ns)).shown, .ref D1, .str (PyData.tuple (Vs.map vowD)).shown]) = H5 at s05 ⊢
  refine ⟨_, rfl, t, rfl, ⟨_, s05.seq g1⟩, for_it walk_list (fun i σ H6 => ∃ v5 v6 v7 v8, σ = [some (.ref b), some (.ref a), some (.ref l), some (.ref t), some (.ref D1), v5, v6, v7, v8] ∧ Same H5 H6) ⟨_, _, _, _, rfl, Same.refl _⟩ (fun i σ H6 _ ⟨_, _, _, _, _, s6⟩ => (s05.trans s6).seq g1) ?_ ?_⟩
  · rintro i x σ H6 H7 hi ⟨v5, v6, v7, v8, rfl, s6⟩ ⟨e0, hx⟩
    subst e0
    obtain ⟨q, hq, T2, m, rfl, c1, c2⟩ := g2.at hx
    have mq := List.mem_of_getElem? hq
    have vq := okV q mq
    have s06 := s05.trans s6
    refine ⟨T2, _, rfl, sqT_same s06 c1, rfl, _, _, rfl, _, _, rfl, _, _, rfl, rfl, ?_⟩
    have hw := first_none first q mq
    obtain ⟨i2, hi2⟩ := List.getElem?_of_mem vq.mem
    have nd := asc_nodup vq.names.asc
    refine ⟨_, rfl, _, rfl, b, dx, _, rfl, s06 _ _ hb, b, m, q.2.1, rfl, ns, Ls, Vs, n, ba.same s06, fit, c2.same s06, vq.menu, vq.names, vq.txt, fun H8 v s8 lv => ?_⟩
    obtain ⟨a9, dz, m9, rfl, g9, h9⟩ := id lv
    refine ⟨_, rfl, a9, dz, _, rfl, g9, _, (q.2.1, q.2.1.map (markP ns Ls q.2.1)), q.2.2, i2, markP ns Ls q.2.1 q.2.2, rfl, lv, hi2, by rw [List.getElem?_map, hi2]; rfl, fun j hj e => ?_, fun H9 s9 => ?_⟩
    · have hlt : j < q.2.1.length := (List.getElem?_eq_some_iff.mp e).1
      have := (List.getElem?_inj hlt nd).mp (e.trans hi2.symm)
      omega
    intro p9 hp9
    have hv : some (V.str ⟨#[markP ns Ls q.2.1 q.2.2]⟩) = valV (mergeK [] [(.inr ("surely" : Str), V.str "+"), (.inr ("never" : Str), V.str "-"), (.inr ("perhaps" : Str), V.str "?")]) (.inr q.1) := by
      rw [← hw]
      exact word_mark ns Ls q.2.1 q.2.2
    refine ⟨upd_same, [(.inr ("surely" : Str), V.str "+"), (.inr ("never" : Str), V.str "-"), (.inr ("perhaps" : Str), V.str "?")], rfl, by decide, _, rfl, p9, _, rfl, .inl ⟨_, .inr q.1, .inl upd_same, rfl, hv⟩, rfl, _, rfl, ?_⟩
    have e2 : decide (V.str ⟨#[markP ns Ls q.2.1 q.2.2]⟩ = V.str ⟨#[markP ns Ls q.2.1 q.2.2]⟩) = true := decide_eq_true rfl
    rw [e2]
    refine iteF ⟨_, _, _, _, rfl, s6.trans (s8.trans (s9.trans ?_))⟩
    exact same_upd hp9 (same_upd hp9 (Same.refl _))
  · rintro σ H6 ⟨v5, v6, v7, v8, rfl, s6⟩
    have s06 := s05.trans s6
    refine ⟨_, rfl, b, dx, _, rfl, s06 _ _ hb, b, rfl, ns, Ls, Vs, n, ba.same s06, _, rfl, Int.natCast_nonneg _, ?_, _, rfl, l, us, rfl, .inl (s06.seq h1), rfl, ?_⟩
    · have : (Ls.length : Int) < 13 := by omega
      exact Int.lt_trans this (by decide)
    have q := k H6 s06
    have e : decide (V.int (Ls.length : Nat) = V.int us.length) = true := decide_eq_true (by rw [hul])
    show Q (V.bl (decide (V.int (Ls.length : Nat) = V.int us.length))) H6
    rw [e]
    exact q
end
end Mh
end
section
set_option Elab.async false
set_option linter.all false
set_option maxRecDepth 100000
set_option maxHeartbeats 4000000
/-! MhL16: _law_caught called with a lambda; one look forgotten. -/
namespace Mh
open PySem PySem.Spec PyProof.Rows L2 MhX
open C8 (Cal Mak Met pe_c pe_mk pe_mt pe_mt0 pe_gc pss_cut tCut)
open LamX (Tabs TabS TabB ExtN CodeO LamS lamS_by lamEnv lamCx tLam)
/-! ### all but the book at b and the tables stays -/
def ExtB (b : Addr) (H H' : Hp) : Prop := ∀ c o, c ≠ b → H c = some o → (∀ ps, o ≠ .tbl ps) → H' c = some o
theorem ExtB.refl (b : Addr) (H : Hp) : ExtB b H H := fun _ _ _ e _ => e
theorem ExtB.trans {b : Addr} {H H1 H2 : Hp} (x : ExtB b H H1) (y : ExtB b H1 H2) : ExtB b H H2 := fun c o n e t => y c o n (x c o n e t) t
theorem ExtB.ofN {b : Addr} {H H' : Hp} (x : ExtN H H') : ExtB b H H' := fun c o _ e t => x c o e t
theorem ExtB.ofBut {b : Addr} {H H' : Hp} (x : But b H H') : ExtB b H H' := fun c o n e _ => x c o n e
theorem ExtB.ofSame {b : Addr} {H H' : Hp} (x : Same H H') : ExtB b H H' := fun c o _ e _ => x c o e
theorem extN_kt {H H' : Hp} (x : ExtN H H') : Kt H H' := fun c o e i => x c o e i.nt
/-- a book stands at b -/
def BkFs (CK : Addr) (H : Hp) (b : Addr) : Prop := ∃ dx h v g, H b = some (.ins CK dx (fsBook h v g))
theorem BkAt.fs {K : PySem.W.Frag} {CK CL C : Addr} {H : Hp} {b : Addr} {ns : List Str} {Ls : List (Lk Str)} {Vs : List Vow} {n : Nat} (h : BkAt K CK CL C H b ns Ls Vs n) : BkFs CK H b := by
  obtain ⟨dx, h0, v, g, gs, h1, _⟩ := h
  exact ⟨dx, h0, v, g, h1⟩
theorem extB_kt {CK b : Addr} {H H' : Hp} (hb : BkFs CK H b) (x : ExtB b H H') : Kt H H' := fun c o e i => by
  by_cases q : c = b
  · subst q
    obtain ⟨dx, h, v, g, e2⟩ := hb
    rw [e2] at e
    cases e
    exact absurd rfl (i.nb _ _ _ _ _)
  · exact x c o q e i.nt
theorem extB_lst {CK b l : Addr} {H H' : Hp} {xs : List V} (hb : BkFs CK H b) (x : ExtB b H H') (e : H l = some (.lst xs)) : H' l = some (.lst xs) := by
  refine x l _ (fun z => ?_) e fun _ z => nomatch z
  obtain ⟨dx, h, v, g, e2⟩ := hb
  rw [z, e2] at e
  cases e
theorem extB_seq {K : PySem.W.Frag} {CK b l : Addr} {H H' : Hp} {xs : List V} (hb : BkFs CK H b) (x : ExtB b H H') (e : SqL K H l xs) : SqL K H' l xs := by
  rcases e with (e | ⟨o, e⟩) | e
  · exact .inl (.inl (extB_lst hb x e))
  · exact .inl (.inr ⟨o, extB_kt hb x _ _ e (imm_frz _ _)⟩)
  · exact .inr e
theorem VwL.extB {K : PySem.W.Frag} {CK b l : Addr} {H H' : Hp} {Vs : List Vow} (h : VwL K H l Vs) (hb : BkFs CK H b) (x : ExtB b H H') : VwL K H' l Vs := by
  obtain ⟨vs, h1, h2⟩ := h
  exact ⟨vs, extB_seq hb x h1, h2.mono fun _ _ r => r.kt (extB_kt hb x)⟩
/-- a tracked list of pairs of the law -/
def LpN (K : PySem.W.Frag) (H : Hp) (l : Addr) (Ls : List (Lk Str)) : Prop := ∃ vs : List V, H l = some (.lst vs) ∧ All2 (LpV K H) vs Ls
theorem LpN.l {K : PySem.W.Frag} {H : Hp} {l : Addr} {Ls : List (Lk Str)} (h : LpN K H l Ls) : LpL K H l Ls := by
  obtain ⟨vs, h1, h2⟩ := h
  exact ⟨vs, SqL.new h1, h2⟩
theorem LpN.extB {K : PySem.W.Frag} {CK b l : Addr} {H H' : Hp} {Ls : List (Lk Str)} (h : LpN K H l Ls) (hb : BkFs CK H b) (x : ExtB b H H') : LpN K H' l Ls := by
  obtain ⟨vs, h1, h2⟩ := h
  exact ⟨vs, extB_lst hb x h1, h2.mono fun _ _ r => r.kt (extB_kt hb x)⟩
theorem LpN.same {K : PySem.W.Frag} {H H' : Hp} {l : Addr} {Ls : List (Lk Str)} (h : LpN K H l Ls) (s : Same H H') : LpN K H' l Ls := by
  obtain ⟨vs, h1, h2⟩ := h
  exact ⟨vs, s _ _ h1, h2.mono fun _ _ r => r.kt s.kt⟩
theorem BkAt.extN {K : PySem.W.Frag} {CK CL C : Addr} {H H' : Hp} {b : Addr} {ns : List Str} {Ls : List (Lk Str)} {Vs : List Vow} {n : Nat} (h : BkAt K CK CL C H b ns Ls Vs n) (x : ExtN H H') : BkAt K CK CL C H' b ns Ls Vs n := by
  obtain ⟨dx, h0, v, g, gs, h1, h2, h3, h4, h5⟩ := h
  have k := extN_kt x
  exact ⟨dx, h0, v, g, gs, x _ _ h1 (fun _ z => nomatch z), h2.kt k, h3.kt k, sqT_kt h4 k, h5⟩
theorem Tabs.but {Ts : List (Addr × Str)} {CK b : Addr} {H H' : Hp} (t : Tabs Ts H) (hb : BkFs CK H b) (x : But b H H') : Tabs Ts H' := fun p hp => by
  obtain ⟨ps, h1, h2, h3⟩ := t p hp
  obtain ⟨dx, h, v, g, e2⟩ := hb
  refine ⟨ps, x _ _ (fun z => ?_) h1, h2, fun pos cv hc => ?_⟩
  · rw [z, e2] at h1
    cases h1
  · obtain ⟨c, e1, e3⟩ := h3 pos cv hc
    refine ⟨c, e1, x _ _ (fun z => ?_) e3⟩
    rw [z, e2] at e3
    unfold CodeO at e3
    cases e3
/-! ### what is due, as data -/
def dV : V → PyData
  | .str x => .str x
  | _ => .none
theorem ints_ok : ∀ n < 256, PyData.strOk (Str.ofString (toString ((n : Nat) : Int))) = true := by decide +kernel
theorem due_cases {ns : List Str} {n : Nat} {Ls : List (Lk Str)} {Vs : List Vow} (hn : n < 256) (hV : Vs.length < 256) :
    (dueP ns n Ls Vs = (("told" : Str), V.non) ∧ fitP ns Ls ∧ firstP ns Ls Vs = none) ∨ (∃ k, dueP ns n Ls Vs = (("Broken" : Str), V.str (toString ((k : Nat) : Int))) ∧ fitP ns Ls ∧ firstP ns Ls Vs = some k ∧ k < 256) ∨ (dueP ns n Ls Vs = (("Clash" : Str), V.str (toString ((n : Nat) : Int))) ∧ ¬ fitP ns Ls) := by
  unfold dueP
  by_cases h : fitP ns Ls
  · rw [if_pos h]
    cases e : firstP ns Ls Vs with
    | none => exact .inl ⟨rfl, h, rfl⟩
    | some k => exact .inr (.inl ⟨k, rfl, h, rfl, Nat.lt_trans (List.findIdx?_eq_some_iff_getElem.mp e).1 hV⟩)
  · rw [if_neg h]
    exact .inr (.inr ⟨rfl, h⟩)
/-- a tuple (word, what) -/
def dueD (x : Str) (y : V) : PyData := .tuple [.str x, dV y]
def DueOk (x : Str) (y : V) : Prop := PyData.strOk x = true ∧ (y = .non ∨ ∃ z, y = .str z ∧ PyData.strOk z = true)
theorem sh_due {x : Str} {y : V} (h : DueOk x y) : Sh 1 (dueD x y) := by
  refine .tuple (n := 0) fun d hd => ?_
  rcases List.mem_cons.mp hd with rfl | hd
  · exact .str h.1
  · have e : d = dV y := by simpa using hd
    rw [e]
    rcases h.2 with rfl | ⟨z, rfl, hz⟩
    · exact ⟨by simp [dV, PyData.canLay0], by simp [dV, PyData.depth]⟩
    · exact .str hz
theorem dp_due {K : PySem.W.Frag} {H : Hp} {d : Addr} {x : Str} {y : V} (h : DueOk x y) (s : SqT K H d [.str x, y]) : Dp K H (.ref d) (dueD x y) := by
  refine .tup s (.cons (.str _) (.cons ?_ .nil))
  rcases h.2 with rfl | ⟨z, rfl, _⟩
  · exact .non
  · exact .str _
theorem ok_broken : PyData.strOk ("Broken" : Str) = true := by decide +kernel
theorem ok_clash : PyData.strOk ("Clash" : Str) = true := by decide +kernel
theorem ok_told : DueOk "told" .non := ⟨by decide +kernel, .inl rfl⟩
theorem due_ok {ns : List Str} {n : Nat} {Ls : List (Lk Str)} {Vs : List Vow} (hn : n < 256) (hV : Vs.length < 256) : DueOk (dueP ns n Ls Vs).1 (dueP ns n Ls Vs).2 := by
  rcases due_cases (ns := ns) (Ls := Ls) hn hV with ⟨e, _⟩ | ⟨k, e, _, _, hk⟩ | ⟨e, _⟩
  · rw [e]
    exact ⟨by decide +kernel, .inl rfl⟩
  · rw [e]
    exact ⟨ok_broken, .inr ⟨_, rfl, ints_ok k hk⟩⟩
  · rw [e]
    exact ⟨ok_clash, .inr ⟨_, rfl, ints_ok n hn⟩⟩
theorem told_yes : PyData.eqv (dueD "told" .non) (dueD "told" .non) = true := by decide +kernel
theorem told_no {x : Str} {y : V} (h : x ≠ "told") : PyData.eqv (dueD x y) (dueD "told" .non) = false := by
  unfold dueD
  simp [PyData.eqv, PyData.eqvAll, h]
theorem due_refl {x : Str} {y : V} (h : DueOk x y) : PyData.eqv (dueD x y) (dueD x y) = true := SeqAt.eqv_refl _ (sh_due h).lay
section
variable {P : Program} {w : World} {K : PySem.W.Frag} {mg : Str → Option Value} {base : Heap} {CK CL C CB CC : Addr} {c : Nat → Addr}
theorem pe_caught {X : Cx} {Ts : List (Addr × Str)} {cc Pt : Addr} {k : Nat} {params : Arguments} {body : Expr} {scope : Scope} {t : XK → TE} {p lpos pos : Pos} (T : Tx X.K X.mg) (ST : SortTx X.mg c) (Dc : DefF X.K X.mg "_law_caught" (fnd 87))
    (c_sort : CalE X.prog X.w X.K X.mg X.base 1 "_law_sort" (spSort c X.K)) (c_field : CalE X.prog X.w X.K X.mg X.base 1 "_law_field" (spField c X.K)) (hr : Room (k + 3) X.A) (TB : TabB X.base X.mg cc Pt) (hg : Gl X "_law_caught") (hcode : X.env.code = .ref cc)
    (hmT : (Pt, X.env.qual ++ "<lambda>") ∈ Ts) (hmU : ∀ p ∈ Ts, p.1 = Pt → p.2 = X.env.qual ++ "<lambda>") (L : LamS X.env.scope scope) (hdef : defaultsOf params X.env = ([], []))
    (hbind : ∀ (q : Str) (cl : List (Str × Addr)) (pm cv ctv : Value), bindArgs (PySem.W.kla_fn "<lambda>" q params body scope cl pm cv ctv) ⟨[], []⟩ = pure [])
    (hbody : ∀ (A : Around) (outer : List Env) (s : Shared) (H : Hp) (E : XK) (f c' : Addr), Room k (A.deeper (lamEnv X scope s.heap.objs.size f c')) → PE (lamCx X A outer s H E scope f c') body (t E)) :
    PE X (.Call (.Name "_law_caught" p) [.Lambda params body scope lpos] [] pos) (tLam Ts (TCgt X.K c) t) := by
  obtain ⟨g, fd, F, hm⟩ := Dc.ex
  have hb := F.binds (ps := ["_law_act"]) (fun _ _ _ _ _ _ us hl => match us, hl with | [_], _ => rfl)
  have hk := F.kp
  obtain ⟨oc, od, kV, doc, pm, an, cdv, ct, osl, rfl, lk, hcd⟩ := F.ex
  exact LamX.pe_lamcall hg hm hk lk hcd hb sc_law_caught rfl (.inl rfl) (caught_gives T ST hr c_sort c_field) TB hcode hmT hmU (hr.mono (by omega)) L hdef hbind hbody
theorem cut_take {xs : List V} {k : Nat} {z : Int} (ez : z = (k : Int)) (h : k < xs.length) : cutV xs none (some z) = xs.take k := by
  subst ez
  unfold cutV
  rw [sIx_some, HT.sIx_none, List.drop_zero]
  congr 1
  omega
theorem cut_drop {xs : List V} {k : Nat} {z : Int} (ez : z = (k : Int) + 1) (h : k < xs.length) : cutV xs (some z) none = xs.drop (k + 1) := by
  have ek : z = ((k + 1 : Nat) : Int) := by omega
  rw [ek]
  unfold cutV
  rw [sIx_some, HT.sIx_none]
  have e1 : min (k + 1) xs.length = k + 1 := by omega
  rw [e1]
  refine List.take_of_length_le ?_
  rw [List.length_drop]
  omega
theorem All2.erase {α β : Type} {R : α → β → Prop} {xs : List α} {us : List β} (h : All2 R xs us) (k : Nat) : All2 R (xs.take k ++ xs.drop (k + 1)) (us.eraseIdx k) := by
  rw [List.eraseIdx_eq_take_drop_succ]
  refine All2.app ⟨by rw [List.length_take, List.length_take, h.1], fun i x y hx hy => ?_⟩ ⟨by rw [List.length_drop, List.length_drop, h.1], fun i x y hx hy => ?_⟩
  · rw [List.getElem?_take] at hx hy
    split at hx
    · rename_i lt
      rw [if_pos lt] at hy
      exact h.2 i x y hx hy
    · cases hx
  · rw [List.getElem?_drop] at hx hy
    exact h.2 _ x y hx hy
def spForgotten (K : PySem.W.Frag) (CK CL C : Addr) (Ts : List (Addr × Str)) : Sp := fun vs H Q _ => ∃ (b a l t : Addr) (k : Nat) (ns : List Str) (Ls : List (Lk Str)) (Vs : List Vow) (n : Nat), vs = [.ref b, .ref a, .ref l, .ref t, .int k] ∧ IsC K CK CL C H b a l t ns Ls Vs n ∧ LpN K H l Ls ∧ k < Ls.length ∧ n ≤ 50 ∧ Tabs Ts H ∧
  ∀ H' r Ls' n', ExtB b H H' → Tabs Ts H' → IsC K CK CL C H' b a r t ns Ls' Vs n' → LpN K H' r Ls' → (Ls' = Ls ∧ n' = n ∨ Ls' = Ls.eraseIdx k ∧ n' = n + 1) → Q (.ref r) H'
theorem sc_law_forgotten : FnScope ["_law_book", "_law_names_here", "_law_pairs", "_law_vows", "_law_at", "_law_later", "_law_due_here"] ["_law_book", "_law_names_here", "_law_pairs", "_law_vows", "_law_at"] (L2.defScope (fnd 97)) := ⟨rfl, rfl, rfl, by decide +kernel, rfl, by decide +kernel, by decide +kernel⟩
theorem d_forgotten {Ts : List (Addr × Str)} {cc Pt : Addr} (T : Tx K mg) (ST : SortTx mg c) (SB : SortD K c CB 21) (xB : PySem.W.exmAny K (.ref CB) [.ref (c 23), .ref (c 24), .ref (c 25)] = some true) (D : DefC K mg "_law_forgotten" (fnd 97) cc) (Dc : DefF K mg "_law_caught" (fnd 87)) (TB : TabB base mg cc Pt) (hmT : (Pt, ("_law_forgotten.<locals>.<lambda>" : Str)) ∈ Ts) (hmU : ∀ p ∈ Ts, p.1 = Pt → p.2 = ("_law_forgotten.<locals>.<lambda>" : Str))
    (c__law_sort : CalE P w K mg base 1 "_law_sort" (spSort c K)) (c__law_field : CalE P w K mg base 1 "_law_field" (spField c K)) (c__law_due : Cal P w K mg base 4 "_law_due" (spDue K) []) (c__law_is : CalG P w K mg base 12 "_law_is" (spIs K CK CL C)) (m_forget : MetX P w K mg base 9 CK "forget" (spForget K CK CL C CB)) : CalG P w K mg base 14 "_law_forgotten" (spForgotten K CK CL C Ts) := by
  have S := sc_law_forgotten
  refine mkCalGC D S (fun _ _ _ _ _ _ us hl => match us, hl with | [_, _, _, _, _], _ => rfl) (fun vs H Q E h => ?_) (fun f A outer s H vs Q E hG hr h => ?_)
  · obtain ⟨b, a, l, t, k, ns, Ls, Vs, n, rfl, _⟩ := h
    rfl
  obtain ⟨b, a, l, t, kk, ns, Ls, Vs, n, rfl, I, lp, hk, n50, tabs, q⟩ := h
  have hrc := hr.mono (j := 9 + 3) (by decide)
  -- slots: 0 _law_book, 1 _law_names_here, 2 _law_pairs, 3 _law_vows, 4 _law_at, 5 _law_later, 6 _law_due_here
  refine ⟨_, (pss_cons (ps_set (i := 5) S.nd rfl (Or.inl rfl) (pe_op op_cat (pe_slice (sl_listK K) (pv 2) po_none (po_some (pv 4))) (pe_slice (sl_listK K) (pv 2) (po_some (pe_op op_add (pv 4) pe_int)) po_none))) 
    (pss_cons (ps_set (i := 6) S.nd rfl (Or.inl rfl) (pe_c c__law_due hr (by decide) rfl (pa_cons (pv 1) (pa_cons (pv 2) (pa_cons (pv 5) (pa_cons (pv 3) pa_nil)))))) 
    (pss_cons (ps_if (pt_cmpR (op_neDK K (hu64 hr)) (pe_caught T ST Dc c__law_sort c__law_field hrc TB rfl rfl hmT hmU (lamS_by (sc := L2.defScope (fnd 97)) (by decide +kernel)) rfl (fun _ _ _ _ _ => rfl) (fun A outer s H E f c' hrb => (pe_mtX m_forget hrb (by decide) (passes_call (E := E) (takes_of rfl rfl rfl rfl) fun _ _ _ _ h => h) (pv 0) (pa_cons (pv 4) pa_nil)))) (pv 6) (nomark _)) (pss_one (ps_ret pe_non)) pss_nil) 
    (pss_cons (ps_set (i := 5) S.nd rfl (Or.inl rfl) (pe_ifExp (pt_cmpR (op_eqDK K (hu64 hr)) (pv 6) (pe_tup (pa_cons pe_str (pa_cons pe_non pa_nil))) (nomark _)) (pv 5) (pv 2))) (pss_one (ps_ret (pe_ifExp (pt_val (pe_cG c__law_is hG hr (by decide) rfl (pa_cons (pv 0) (pa_cons (pv 1) (pa_cons (pv 5) (pa_cons (pv 3) pa_nil)))))) (pv 5) pe_non))))))), ?_⟩
  obtain ⟨us, h1, h2⟩ := id lp
  have hul := h2.1
  have hku : kk < us.length := by omega
  have b1 := I.bk
  have l12 := I.l12
  have el : (us.take kk ++ us.drop (kk + 1)).length ≤ 1000 := by
    rw [List.length_append, List.length_take, List.length_drop]
    omega
  refine ⟨_, rfl, _, rfl, _, rfl, l, _, rfl, SqL.new h1, fun p1 hp1 => ?_⟩
  unfold tNoPart
  refine ⟨_, rfl, _, rfl, _, _, rfl, rfl, _, rfl, l, _, rfl, SqL.new (same_new hp1 _ _ h1), fun p2 hp2 => ?_⟩
  rw [cut_take rfl hku] at hp2 ⊢
  rw [cut_drop (k := kk) rfl hku]
  refine ⟨p1, p2, _, _, rfl, rfl, same_new hp2 _ _ upd_same, upd_same, by rw [List.length_append] at el; exact len_small el, fun l2 hl2 => ?_⟩
  have s1 := ((same_new (o := .lst (us.take kk)) hp1).trans (same_new (o := .lst (us.drop (kk + 1))) hp2)).trans (same_new (o := .lst (us.take kk ++ us.drop (kk + 1))) hl2)
  have lp2 : LpN K (upd (upd (upd H p1 (.lst (us.take kk))) p2 (.lst (us.drop (kk + 1)))) l2 (.lst (us.take kk ++ us.drop (kk + 1)))) l2 (Ls.eraseIdx kk) := ⟨_, upd_same, (h2.erase kk).mono fun _ _ r => r.kt s1.kt⟩
  generalize upd (upd (upd H p1 (.lst (us.take kk))) p2 (.lst (us.drop (kk + 1)))) l2 (.lst (us.take kk ++ us.drop (kk + 1))) = H1 at s1 lp2 ⊢
  have sub : ∀ x ∈ Ls.eraseIdx kk, x ∈ Ls := fun x hx => List.mem_of_mem_eraseIdx hx
  have ok2 : ∀ x ∈ Ls.eraseIdx kk, LpOk ns x := fun x hx => I.ok x (sub x hx)
  have l2l : (Ls.eraseIdx kk).length ≤ 12 := by
    rw [List.length_eraseIdx]
    split <;> omega
  have fit2 : fitP ns (Ls.eraseIdx kk) := fit_part sub I.fit
  refine ⟨_, rfl, _, rfl, _, rfl, _, rfl, a, l, l2, t, ns, Ls, Ls.eraseIdx kk, Vs, rfl, I.nm.same s1, I.no, (lp.same s1).l, by omega, lp2.l, ok2, by omega, I.vw.same s1, I.okV, I.lV, fun H2 d s2 hd => ?_⟩
  have s12 := s1.trans s2
  have bk2 := b1.same s12
  have fs2 := bk2.fs
  have lpA := lp.same s12
  have lpB := lp2.same s2
  have vw2 := I.vw.same s12
  have nm2 := I.nm.same s12
  have tabs2 : Tabs Ts H2 := tabs.ext s12
  have dok : DueOk (dueP ns Ls.length (Ls.eraseIdx kk) Vs).1 (dueP ns Ls.length (Ls.eraseIdx kk) Vs).2 := due_ok (by omega) (by have := I.lV; omega)
  have isOf : ∀ {H' : Hp} {r : Addr} {Ls' : List (Lk Str)} {n' : Nat}, ExtB b H2 H' → BkAt K CK CL C H' b ns Ls' Vs n' → LpN K H' r Ls' → (∀ x ∈ Ls', LpOk ns x) → Ls'.length ≤ 12 → fitP ns Ls' → firstP ns Ls' Vs = none → n' ≤ 200 → IsC K CK CL C H' b a r t ns Ls' Vs n' := fun e x1 x2 x3 x4 x5 x6 x7 =>
    ⟨x1, nm2.kt (extB_kt fs2 e), I.no, x2.l, x3, x4, vw2.extB fs2 e, I.okV, I.wdV, I.lV, x7, x5, x6⟩
  refine ⟨tabs2, fun H3 eN tabs3 => ?_⟩
  have bk3 := bk2.extN eN
  obtain ⟨dx, h0, v0, g0, gs, hb3, _⟩ := id bk3
  refine ⟨_, rfl, b, dx, _, rfl, hb3, rfl, _, rfl, b, kk, ns, Ls, Vs, n, rfl, bk3, I.no, hk, l12, I.okV, I.lV, by omega, ?_⟩
  rcases due_cases (ns := ns) (n := Ls.length) (Ls := Ls.eraseIdx kk) (Vs := Vs) (by omega) (by have := I.lV; omega) with ⟨ed, _, ef⟩ | ⟨i, ed, _, ef, hi⟩ | ⟨_, nf⟩
  · rw [ed] at hd dok
    refine ⟨fun _ H4 bt bk4 => ⟨_, rfl, by show 2 ≤ sizeLine; decide, fun d2 hd2 => ?_⟩, fun k' ek => by rw [ef] at ek; cases ek⟩
    have e24 : ExtB b H2 H4 := (ExtB.ofN eN).trans (.ofBut bt)
    have s45 : Same H4 (upd H4 d2 (.tup [.str "told", .non])) := same_new hd2
    have e25 := e24.trans (.ofSame s45)
    have hd5 := sqT_kt hd (extB_kt fs2 e25)
    have fs4 := bk4.fs
    refine ⟨_, rfl, _, _, dp_due ok_told (SqT.new upd_same), dp_due ok_told hd5, (sh_due ok_told).shaped (by decide), (sh_due ok_told).shaped (by decide), _, rfl, ?_⟩
    rw [told_yes]
    refine iteF ⟨_, rfl, by show 2 ≤ sizeLine; decide, fun d3 hd3 => ?_⟩
    have s56 := same_new (o := .tup [.str "told", .non]) hd3
    refine ⟨_, _, dp_due ok_told (sqT_same s56 hd5), dp_due ok_told (SqT.new upd_same), (sh_due ok_told).shaped (by decide), (sh_due ok_told).shaped (by decide), _, rfl, ?_⟩
    rw [told_yes]
    have s46 := s45.trans s56
    have e26 := e24.trans (.ofSame s46)
    refine iteT ⟨_, rfl, _, rfl, _, rfl, _, rfl, _, rfl, b, a, l2, t, ns, Ls.eraseIdx kk, Vs, n + 1, rfl, isOf e26 (bk4.same s46) (lpB.extB fs2 e26) ok2 l2l fit2 ef (by omega), fun H7 s67 => ⟨_, rfl, iteT ⟨_, rfl, ?_⟩⟩⟩
    have e27 := e26.trans (.ofSame s67)
    have s47 := s46.trans s67
    exact q H7 l2 _ _ ((ExtB.ofSame s12).trans e27) ((Tabs.but tabs3 bk3.fs bt).ext s47) (isOf e27 (bk4.same s47) (lpB.extB fs2 e27) ok2 l2l fit2 ef (by omega)) (lpB.extB fs2 e27) (.inr ⟨rfl, rfl⟩)
  · rw [ed] at hd dok
    refine ⟨fun en => (by rw [ef] at en; cases en), fun k' ek H4 d' s34 hd' => ?_⟩
    rw [ef] at ek
    cases ek
    refine ⟨CB, 21, d', ((i : Nat) : Int), rfl, rfl, SB, xB, hd', log_small (by omega), fun H5 r s45 hr5 => ?_⟩
    have e25 : ExtB b H2 H5 := ((ExtB.ofN eN).trans (.ofSame s34)).trans (.ofSame s45)
    have hd5 := sqT_kt hd (extB_kt fs2 e25)
    have dok : DueOk ("Broken" : Str) (.str (toString ((i : Nat) : Int))) := dok
    have dok2 : DueOk (wordK 21) (.str (toString ((i : Nat) : Int))) := dok
    refine ⟨_, rfl, _, _, dp_due dok2 hr5, dp_due dok hd5, (sh_due dok2).shaped (by decide), (sh_due dok).shaped (by decide), _, rfl, ?_⟩
    have er : PyData.eqv (dueD (wordK 21) (.str (toString ((i : Nat) : Int)))) (dueD "Broken" (.str (toString ((i : Nat) : Int)))) = true := due_refl dok2
    rw [er]
    refine iteF ⟨_, rfl, by show 2 ≤ sizeLine; decide, fun d3 hd3 => ?_⟩
    have s56 := same_new (o := .tup [.str "told", .non]) hd3
    refine ⟨_, _, dp_due dok (sqT_same s56 hd5), dp_due ok_told (SqT.new upd_same), (sh_due dok).shaped (by decide), (sh_due ok_told).shaped (by decide), _, rfl, ?_⟩
    rw [told_no (show ("Broken" : Str) ≠ "told" from by decide +kernel)]
    have s36 := s34.trans (s45.trans s56)
    have e26 := e25.trans (.ofSame s56)
    refine iteF ⟨_, rfl, _, rfl, _, rfl, _, rfl, _, rfl, b, a, l, t, ns, Ls, Vs, n, rfl, isOf e26 (bk3.same s36) (lpA.extB fs2 e26) I.ok l12 I.fit I.first I.ln, fun H7 s67 => ⟨_, rfl, iteT ⟨_, rfl, ?_⟩⟩⟩
    have e27 := e26.trans (.ofSame s67)
    have s37 := s36.trans s67
    exact q H7 l _ _ ((ExtB.ofSame s12).trans e27) (tabs3.ext s37) (isOf e27 (bk3.same s37) (lpA.extB fs2 e27) I.ok l12 I.fit I.first I.ln) (lpA.extB fs2 e27) (.inl ⟨rfl, rfl⟩)
  · exact absurd fit2 nf
end
end Mh
end
section
set_option Elab.async false
set_option linter.all false
set_option maxRecDepth 100000
set_option maxHeartbeats 4000000
/-! MhL17: what the law's round holds; how it is kept. -/
namespace Mh
open PySem PySem.Spec PyProof.Rows L2 MhX
open C8 (Cal Mak Met pe_c pe_mk pe_mt pe_mt0 pe_gc pss_cut tCut)
open LamX (Tabs TabS TabB ExtN CodeO LamS lamS_by lamEnv lamCx tLam)
/-- a list or a book stands at x -/
def Mu (CK : Addr) (H : Hp) (x : Addr) : Prop := (∃ xs, H x = some (.lst xs)) ∨ BkFs CK H x
theorem Mu.kt {CK x : Addr} {H H' : Hp} (m : Mu CK H x) (b : But x H H') : Kt H H' := by
  rcases m with ⟨xs, e⟩ | ⟨dx, h, v, g, e⟩
  · exact kt_lst e b
  · exact kt_but e b
theorem tabs_mu {Ts : List (Addr × Str)} {CK x : Addr} {H H' : Hp} (t : Tabs Ts H) (m : Mu CK H x) (b : But x H H') : Tabs Ts H' := by
  rcases m with ⟨xs, e⟩ | f
  · intro p hp
    obtain ⟨ps, h1, h2, h3⟩ := t p hp
    refine ⟨ps, b _ _ (fun z => ?_) h1, h2, fun pos cv hc => ?_⟩
    · rw [z, e] at h1
      cases h1
    · obtain ⟨c, e1, e3⟩ := h3 pos cv hc
      refine ⟨c, e1, b _ _ (fun z => ?_) e3⟩
      rw [z, e] at e3
      unfold CodeO at e3
      cases e3
  · exact Tabs.but t f b
/-- a tracked list of rankings, of promises -/
def RwN (K : PySem.W.Frag) (H : Hp) (l : Addr) (rows : List (List Str)) : Prop := ∃ vs : List V, H l = some (.lst vs) ∧ All2 (fun v r => ∃ a, v = .ref a ∧ TT K H a r) vs rows
def VwN (K : PySem.W.Frag) (H : Hp) (l : Addr) (Vs : List Vow) : Prop := ∃ vs : List V, H l = some (.lst vs) ∧ All2 (VwV K H) vs Vs
theorem RwN.l {K : PySem.W.Frag} {H : Hp} {l : Addr} {rows : List (List Str)} (h : RwN K H l rows) : RwL K H l rows := by
  obtain ⟨vs, h1, h2⟩ := h
  exact ⟨vs, SqL.new h1, h2⟩
theorem VwN.l {K : PySem.W.Frag} {H : Hp} {l : Addr} {Vs : List Vow} (h : VwN K H l Vs) : VwL K H l Vs := by
  obtain ⟨vs, h1, h2⟩ := h
  exact ⟨vs, SqL.new h1, h2⟩
section
variable {K : PySem.W.Frag} {CK CL C x l b : Addr} {H H' : Hp} {rows : List (List Str)} {Vs : List Vow} {Ls : List (Lk Str)} {ns : List Str} {n : Nat}
theorem RwN.go (h : RwN K H l rows) (k : Kt H H') (g : ∀ xs, H l = some (.lst xs) → H' l = some (.lst xs)) : RwN K H' l rows := by
  obtain ⟨vs, h1, h2⟩ := h
  exact ⟨vs, g _ h1, h2.mono fun _ _ ⟨a, e, t⟩ => ⟨a, e, t.kt k⟩⟩
theorem VwN.go (h : VwN K H l Vs) (k : Kt H H') (g : ∀ xs, H l = some (.lst xs) → H' l = some (.lst xs)) : VwN K H' l Vs := by
  obtain ⟨vs, h1, h2⟩ := h
  exact ⟨vs, g _ h1, h2.mono fun _ _ r => r.kt k⟩
theorem LpN.go (h : LpN K H l Ls) (k : Kt H H') (g : ∀ xs, H l = some (.lst xs) → H' l = some (.lst xs)) : LpN K H' l Ls := by
  obtain ⟨vs, h1, h2⟩ := h
  exact ⟨vs, g _ h1, h2.mono fun _ _ r => r.kt k⟩
theorem BkAt.go (h : BkAt K CK CL C H b ns Ls Vs n) (k : Kt H H') (g : ∀ o, H b = some o → H' b = some o) : BkAt K CK CL C H' b ns Ls Vs n := by
  obtain ⟨dx, h0, v, g0, gs, h1, h2, h3, h4, h5⟩ := h
  exact ⟨dx, h0, v, g0, gs, g _ h1, h2.kt k, h3.kt k, sqT_kt h4 k, h5⟩
/-- a list that is changed is no book -/
theorem bk_ne (h : BkAt K CK CL C H b ns Ls Vs n) {xs : List V} (e : H x = some (.lst xs)) : b ≠ x := fun z => by
  obtain ⟨dx, h0, v, g0, gs, h1, _⟩ := h
  rw [z, e] at h1
  cases h1
/-- the urn is no list of pairs -/
theorem urn_ne {u m : Nat} (h : LpN K H l Ls) (hu : Urn H u m) : l ≠ u := fun z => by
  obtain ⟨vs, h1, h2⟩ := h
  obtain ⟨g, s, c, e, _⟩ := hu
  rw [z, e] at h1
  cases h1
  cases Ls with
  | nil =>
    have := h2.1
    simp at this
  | cons q Ls =>
    obtain ⟨T, m, e2, _⟩ := h2.2 0 _ q rfl rfl
    cases e2
end
/-- what stands: the urn, names, rankings, pairs, promises, book, tables -/
structure Rt (K : PySem.W.Frag) (CK CL C : Addr) (Ts : List (Addr × Str)) (H : Hp) (u a r p v b : Addr) (ns : List Str) (rows : List (List Str)) (Ls : List (Lk Str)) (Vs : List Vow) (n m : Nat) : Prop where
  urn : Urn H u m
  nm : TT K H a ns
  rw_ : RwN K H r rows
  lp : LpN K H p Ls
  vw : VwN K H v Vs
  bk : BkAt K CK CL C H b ns Ls Vs n
  tb : Tabs Ts H
section
variable {K : PySem.W.Frag} {CK CL C : Addr} {Ts : List (Addr × Str)} {H H' : Hp} {u a r p v b : Addr} {ns : List Str} {rows : List (List Str)} {Ls : List (Lk Str)} {Vs : List Vow} {n m m' : Nat}
theorem Rt.same (h : Rt K CK CL C Ts H u a r p v b ns rows Ls Vs n m) (s : Same H H') : Rt K CK CL C Ts H' u a r p v b ns rows Ls Vs n m :=
  ⟨h.urn.same s, h.nm.same s, h.rw_.go s.kt fun _ e => s _ _ e, h.lp.go s.kt fun _ e => s _ _ e, h.vw.go s.kt fun _ e => s _ _ e, h.bk.same s, LamX.Tabs.ext h.tb s⟩
theorem Rt.draw (h : Rt K CK CL C Ts H u a r p v b ns rows Ls Vs n m) (t : But u H H') (hu : Urn H' u m') (n1 : r ≠ u) (n2 : v ≠ u) : Rt K CK CL C Ts H' u a r p v b ns rows Ls Vs n m' := by
  have k := h.urn.kt t
  have n3 := urn_ne h.lp h.urn
  obtain ⟨g, s, c, e, _⟩ := h.urn
  have M : Mu CK H u := .inl ⟨_, e⟩
  exact ⟨hu, h.nm.kt k, h.rw_.go k fun _ e => t _ _ n1 e, h.lp.go k fun _ e => t _ _ n3 e, h.vw.go k fun _ e => t _ _ n2 e, h.bk.go k fun _ q => t _ _ (bk_ne h.bk e) q, tabs_mu h.tb M t⟩
/-- a pair more in the list, a look more in the book -/
theorem Rt.pairs (h : Rt K CK CL C Ts H u a r p v b ns rows Ls Vs n m) (t : But p H H') {Ls2 : List (Lk Str)} (n1 : r ≠ p) (n2 : v ≠ p) : Urn H' u m ∧ TT K H' a ns ∧ RwN K H' r rows ∧ VwN K H' v Vs ∧ BkAt K CK CL C H' b ns Ls Vs n ∧ Tabs Ts H' := by
  have n3 := urn_ne h.lp h.urn
  obtain ⟨vs, e, _⟩ := id h.lp
  have M : Mu CK H p := .inl ⟨_, e⟩
  have k := M.kt t
  obtain ⟨g, s, c, eu, q1, q2⟩ := id h.urn
  exact ⟨⟨g, s, c, t _ _ (Ne.symm n3) eu, q1, q2⟩, h.nm.kt k, h.rw_.go k fun _ e => t _ _ n1 e, h.vw.go k fun _ e => t _ _ n2 e, h.bk.go k fun _ q => t _ _ (bk_ne h.bk e) q, tabs_mu h.tb M t⟩
theorem Rt.vows (h : Rt K CK CL C Ts H u a r p v b ns rows Ls Vs n m) (t : But v H H') (n1 : r ≠ v) (n2 : p ≠ v) (n4 : u ≠ v) : Urn H' u m ∧ TT K H' a ns ∧ RwN K H' r rows ∧ LpN K H' p Ls ∧ BkAt K CK CL C H' b ns Ls Vs n ∧ Tabs Ts H' := by
  obtain ⟨vs, e, _⟩ := id h.vw
  have M : Mu CK H v := .inl ⟨_, e⟩
  have k := M.kt t
  obtain ⟨g, s, c, eu, q1, q2⟩ := id h.urn
  exact ⟨⟨g, s, c, t _ _ n4 eu, q1, q2⟩, h.nm.kt k, h.rw_.go k fun _ e => t _ _ n1 e, h.lp.go k fun _ e => t _ _ n2 e, h.bk.go k fun _ q => t _ _ (bk_ne h.bk e) q, tabs_mu h.tb M t⟩
/-- the book is changed, tables may grow -/
theorem Rt.book (h : Rt K CK CL C Ts H u a r p v b ns rows Ls Vs n m) (t : ExtB b H H') (tb : Tabs Ts H') {Ls2 : List (Lk Str)} {Vs2 : List Vow} {n2 : Nat} (bk : BkAt K CK CL C H' b ns Ls2 Vs2 n2) : Urn H' u m ∧ TT K H' a ns ∧ RwN K H' r rows ∧ LpN K H' p Ls ∧ VwN K H' v Vs := by
  have fs := h.bk.fs
  have k := extB_kt fs t
  have g : ∀ {l : Addr} {xs : List V}, H l = some (.lst xs) → H' l = some (.lst xs) := fun e => extB_lst fs t e
  obtain ⟨g0, s, c, eu, q1, q2⟩ := id h.urn
  exact ⟨⟨g0, s, c, g eu, q1, q2⟩, h.nm.kt k, h.rw_.go k fun _ e => g e, h.lp.go k fun _ e => g e, h.vw.go k fun _ e => g e⟩
end
end Mh
end
section
set_option Elab.async false
set_option linter.all false
set_option maxRecDepth 100000
set_option maxHeartbeats 4000000
/-! MhL18: one round of the law. -/
namespace Mh
open PySem PySem.Spec PyProof.Rows L2 MhX
open C8 (Cal Mak Met pe_c pe_mk pe_mt pe_mt0 pe_gc pss_cut tCut)
open LamX (Tabs TabS TabB ExtN CodeO LamS lamS_by lamEnv lamCx tLam)
theorem ExtB.but_new {u x : Addr} {H0 H1 H2 : Hp} (h : ExtB u H0 H1) (hx : H0 x = none) (t : But x H1 H2) : ExtB u H0 H2 := fun c o n e q => t c o (ne_of_none e hx) (h c o n e q)
theorem ExtB.ext_new {u x : Addr} {H0 H1 H2 : Hp} (h : ExtB u H0 H1) (hx : H0 x = none) (t : ExtB x H1 H2) : ExtB u H0 H2 := fun c o n e q => t c o (ne_of_none e hx) (h c o n e q) q
theorem urn_extB {CK u b m : Addr} {H H' : Hp} (hb : BkFs CK H b) (t : ExtB b H H') (h : Urn H u m) : Urn H' u m := by
  obtain ⟨g, s, c, e, q1, q2⟩ := h
  exact ⟨g, s, c, extB_lst hb t e, q1, q2⟩
section
variable {P : Program} {w : World} {K : PySem.W.Frag} {mg : Str → Option Value} {base : Heap} {CK CL C CB CC : Addr} {c : Nat → Addr}
theorem put_caught {Ts : List (Addr × Str)} {cont Qf : VK} {HE : Hp} {b : Addr} {ns : List Str} {Ls : List (Lk Str)} {lk : Lk Str} {Vs : List Vow} {n : Nat} (SB : SortD K c CB 21) (SC : SortD K c CC 20) (xB : PySem.W.exmAny K (.ref CB) [.ref (c 23), .ref (c 24), .ref (c 25)] = some true) (xC : PySem.W.exmAny K (.ref CC) [.ref (c 23), .ref (c 24), .ref (c 25)] = some true)
    (tb : Tabs Ts HE) (bk : BkAt K CK CL C HE b ns Ls Vs n) (hl : Ls.length ≤ 100) (hV : Vs.length ≤ 100)
    (key : ∀ HF r Ls2 n2, ExtB b HE HF → Tabs Ts HF → SqT K HF r [.str (dueP ns Ls.length (Ls ++ [lk]) Vs).1, (dueP ns Ls.length (Ls ++ [lk]) Vs).2] → BkAt K CK CL C HF b ns Ls2 Vs n2 →
      (dueP ns Ls.length (Ls ++ [lk]) Vs = (("told" : Str), V.non) ∧ Ls2 = Ls ++ [lk] ∧ n2 = n + 1 ∧ fitP ns (Ls ++ [lk]) ∧ firstP ns (Ls ++ [lk]) Vs = none ∨ (dueP ns Ls.length (Ls ++ [lk]) Vs).1 ≠ "told" ∧ Ls2 = Ls ∧ n2 = n) → cont (.ref r) HF) :
    (∀ v H', (∀ d, H' d = none → cont (.ref d) (upd H' d (.tup [.str "told", v]))) → Qf v H') → (fitP ns (Ls ++ [lk]) → Ends K CK CL C CB HE Qf (xCgt K c cont) b ns (Ls ++ [lk]) Vs n) ∧
      (¬ fitP ns (Ls ++ [lk]) → ∀ H' d, Same HE H' → H' d = some (.xd (ixD (.int (Ls.length : Nat)))) → xCgt K c cont (.ref CC) (some d) H') := by
  intro hQ
  rcases due_cases (ns := ns) (n := Ls.length) (Ls := Ls ++ [lk]) (Vs := Vs) (by omega) (by omega) with ⟨ed, ft, ef⟩ | ⟨i, ed, ft, ef, hi⟩ | ⟨ed, nf⟩
  · refine ⟨fun _ => ⟨fun _ H4 bt bk4 => hQ _ _ fun d2 hd2 => ?_, fun k' ek => by rw [ef] at ek; cases ek⟩, fun nf => absurd ft nf⟩
    have s45 := same_new (o := .tup [.str "told", .non]) hd2
    refine key _ d2 _ _ ((ExtB.ofBut bt).trans (.ofSame s45)) (LamX.Tabs.ext (Tabs.but tb bk.fs bt) s45) ?_ (bk4.same s45) (.inl ⟨ed, rfl, rfl, ft, ef⟩)
    rw [ed]
    exact SqT.new upd_same
  · refine ⟨fun _ => ⟨fun en => (by rw [ef] at en; cases en), fun k' ek H4 d' s34 hd' => ?_⟩, fun nf => absurd ft nf⟩
    rw [ef] at ek
    cases ek
    refine ⟨CB, 21, d', ((i : Nat) : Int), rfl, rfl, SB, xB, hd', log_small (by omega), fun H5 r s45 hr5 => ?_⟩
    have s35 := s34.trans s45
    refine key _ r _ _ (.ofSame s35) (LamX.Tabs.ext tb s35) ?_ (bk.same s35) (.inr ⟨?_, rfl, rfl⟩)
    · rw [ed]
      exact hr5
    · rw [ed]
      exact (show ("Broken" : Str) ≠ "told" from by decide +kernel)
  · refine ⟨fun ft => absurd ft nf, fun _ H4 d' s34 hd' => ?_⟩
    refine ⟨CC, 20, d', ((Ls.length : Nat) : Int), rfl, rfl, SC, xC, hd', log_small (by omega), fun H5 r s45 hr5 => ?_⟩
    have s35 := s34.trans s45
    refine key _ r _ _ (.ofSame s35) (LamX.Tabs.ext tb s35) ?_ (bk.same s35) (.inr ⟨?_, rfl, rfl⟩)
    · rw [ed]
      exact hr5
    · rw [ed]
      exact (show ("Clash" : Str) ≠ "told" from by decide +kernel)
def spRight (Ts : List (Addr × Str)) : Sp := fun vs H Q _ => ∃ (u : Addr), vs = [.ref u] ∧ Urn H u 90000 ∧ Tabs Ts H ∧ ∀ H', ExtB u H H' → Tabs Ts H' → Q (.bl true) H'
theorem sc_law_right : FnScope ["_law_urn_here", "_law_names_here", "_law_rows", "_law_pairs", "_law_vows", "_law_book", "_law_k", "_law_menu_here", "_law_thing", "_law_done", "_law_turn", "_law_pair", "_law_due_here"] ["_law_urn_here"] (L2.defScope (fnd 98)) := ⟨rfl, rfl, rfl, by decide +kernel, rfl, by decide +kernel, by decide +kernel⟩
theorem d_right {Ts : List (Addr × Str)} {cr Pt : Addr} (T : Tx K mg) (ST : SortTx mg c) (SB : SortD K c CB 21) (SC : SortD K c CC 20) (xB : PySem.W.exmAny K (.ref CB) [.ref (c 23), .ref (c 24), .ref (c 25)] = some true) (xC : PySem.W.exmAny K (.ref CC) [.ref (c 23), .ref (c 24), .ref (c 25)] = some true)
    (D : DefC K mg "_law_right" (fnd 98) cr) (Dc : DefF K mg "_law_caught" (fnd 87)) (TB : TabB base mg cr Pt) (hmT : (Pt, ("_law_right.<locals>.<lambda>" : Str)) ∈ Ts) (hmU : ∀ p ∈ Ts, p.1 = Pt → p.2 = ("_law_right.<locals>.<lambda>" : Str))
    (c__law_sort : CalE P w K mg base 1 "_law_sort" (spSort c K)) (c__law_field : CalE P w K mg base 1 "_law_field" (spField c K)) (c__law_draw : Cal P w K mg base 1 "_law_draw" spDraw []) (c__law_names : Cal P w K mg base 3 "_law_names" (spNames K) []) (c__law_shuffled : Cal P w K mg base 2 "_law_shuffled" (spShuffled K) []) (c__law_menu : Cal P w K mg base 2 "_law_menu" (spMenu K) [])
    (c__law_look : Cal P w K mg base 3 "_law_look" (spLLook K) []) (c__law_told : Cal P w K mg base 2 "_law_told" (spLTold K) []) (c__law_due : Cal P w K mg base 4 "_law_due" (spDue K) []) (c__law_is : CalG P w K mg base 12 "_law_is" (spIs K CK CL C)) (c__law_forgotten : CalG P w K mg base 14 "_law_forgotten" (spForgotten K CK CL C Ts))
    (k_Book : Mak P w K mg base 6 "Book" CK (spBookInit K CK CL C) []) (k_Look : Mak P w K mg base 4 "Look" C (spLookInit K C) []) (m_see : MetX P w K mg base 10 CK "see" (spPut K CK CL C CB CC)) (m_promise : MetX P w K mg base 9 CK "promise" (spPromise K CK CL C)) (p_Book_changes : Prp P w K mg base 1 CK "changes" (spBkChanges K CK CL C)) : CalG P w K mg base 18 "_law_right" (spRight Ts) := by
  have S := sc_law_right
  refine mkCalGC D S (fun _ _ _ _ _ _ us hl => match us, hl with | [_], _ => rfl) (fun vs H Q E h => ?_) (fun f A outer s H vs Q E hG hr h => ?_)
  · obtain ⟨u, rfl, _⟩ := h
    rfl
  obtain ⟨u, rfl, hu, tabs, q⟩ := h
  have hrc := hr.mono (j := 13 + 3) (by decide)
  -- slots: 0 _law_urn_here, 1 _law_names_here, 2 _law_rows, 3 _law_pairs, 4 _law_vows, 5 _law_book, 6 _law_k, 7 _law_menu_here, 8 _law_thing, 9 _law_done, 10 _law_turn, 11 _law_pair, 12 _law_due_here
  refine ⟨_, (pss_cons (ps_set (i := 1) S.nd rfl (Or.inr rfl) (pe_c c__law_names hr (by decide) rfl (pa_cons (pv 0) (pa_cons (pe_op op_add pe_int (pe_c c__law_draw hr (by decide) rfl (pa_cons (pv 0) (pa_cons pe_int pa_nil)))) pa_nil)))) 
    (pss_cons (ps_setLc (i := 2) rfl S.nd rfl rfl (by rfl) (pi_range1 rfl T.n.range (pa_cons (pe_op op_add pe_int (pe_c c__law_draw hr (by decide) rfl (pa_cons (pv 0) (pa_cons pe_int pa_nil)))) pa_nil)) (blkOk_by (N := ["_law_urn_here", "_law_names_here", "_law_rows", "_law_pairs", "_law_vows", "_law_book", "_law_k", "_law_menu_here", "_law_thing", "_law_done", "_law_turn", "_law_pair", "_law_due_here"]) (sc := L2.defScope (fnd 98)) (own := [("_law_k", 6)]) (by decide +kernel)) (fun _ _ _ _ _ => (pg_name (i := 6) S.nd rfl (Or.inl rfl))) (fun _ _ _ _ _ => pts_nil) (fun _ _ _ _ _ => (pe_c c__law_shuffled hr (by decide) rfl (pa_cons (pv 0) (pa_cons (pv 1) pa_nil))))) 
    (pss_cons (ps_asg (pe_tup (pa_cons (pe_lst pa_nil) (pa_cons (pe_lst pa_nil) (pa_cons (pe_mk k_Book hr (by decide) rfl (pa_cons (pv 1) pa_nil)) pa_nil)))) (pg_tupK K (n := 3) rfl (pgs_cons (pg_name (i := 3) S.nd rfl (Or.inl rfl)) (pgs_cons (pg_name (i := 4) S.nd rfl (Or.inl rfl)) (pgs_cons (pg_name (i := 5) S.nd rfl (Or.inr rfl)) pgs_nil))))) 
    (pss_cons (ps_for PassesOwn.never rfl (pi_range1 rfl T.n.range (pa_cons (pe_c c__law_draw hr (by decide) rfl (pa_cons (pv 0) (pa_cons pe_int pa_nil))) pa_nil)) (pg_name (i := 6) S.nd rfl (Or.inl rfl)) 
      (pss_cons (ps_expr (pe_bmK K F.plainAttrs_list F.slot_list_append F.type_list_append mt_append (pv 3) (pa_cons (pe_c c__law_look hr (by decide) rfl (pa_cons (pv 0) (pa_cons (pv 1) (pa_cons (pv 2) (pa_cons pe_int pa_nil))))) pa_nil))) (pss_one (ps_expr (pe_mtX m_see hr (by decide) (passes_call (E := fun _ _ _ => False) LamX.takes0 fun _ _ _ _ h => h) (pv 5) (pa_cons (pe_mk k_Look hr (by decide) rfl (pa_cons (pe_ix (ix_tupK K) (pe_ix (ix_listK K) (pv 3) (pe_un un_neg pe_int) (fun _ _ => rfl)) pe_int (fun _ _ => rfl)) (pa_cons (pe_ix (ix_tupK K) (pe_ix (ix_listK K) (pv 3) (pe_un un_neg pe_int) (fun _ _ => rfl)) pe_int (fun _ _ => rfl)) pa_nil))) pa_nil)))))) 
    (pss_cons (ps_for PassesOwn.never rfl (pi_range1 rfl T.n.range (pa_cons pe_int pa_nil)) (pg_name (i := 6) S.nd rfl (Or.inl rfl)) 
      (pss_cons (ps_set (i := 7) S.nd rfl (Or.inl rfl) (pe_c c__law_menu hr (by decide) rfl (pa_cons (pv 0) (pa_cons (pv 1) pa_nil)))) 
      (pss_cons (ps_set (i := 8) S.nd rfl (Or.inl rfl) (pe_ix (ix_tupK K) (pv 7) (pe_c c__law_draw hr (by decide) rfl (pa_cons (pv 0) (pa_cons (pe_callB (call_len_seqK K) rfl T.n.len (by rfl) (pa_cons (pv 7) pa_nil)) pa_nil))) (fun _ _ => rfl))) 
      (pss_cons (ps_expr (pe_bmK K F.plainAttrs_list F.slot_list_append F.type_list_append mt_append (pv 4) (pa_cons (pe_tup (pa_cons (pe_c c__law_told hr (by decide) rfl (pa_cons (pv 1) (pa_cons (pv 3) (pa_cons (pv 7) (pa_cons (pv 8) pa_nil))))) (pa_cons (pv 7) (pa_cons (pv 8) pa_nil)))) pa_nil))) (pss_one (ps_if (pt_cmpR op_notN (pe_mtX m_promise hr (by decide) (passes_call (E := fun _ _ _ => False) LamX.takes0 fun _ _ _ _ h => h) (pv 5) (pa_cons (pe_ix (ix_tupK K) (pe_ix (ix_listK K) (pv 4) (pe_un un_neg pe_int) (fun _ _ => rfl)) pe_int (fun _ _ => rfl)) (pa_cons (pv 7) (pa_cons (pv 8) pa_nil)))) pe_non (nomark _)) (pss_one (ps_ret pe_bl)) pss_nil)))))) 
    (pss_cut (ps_set (i := 9) S.nd rfl (Or.inl rfl) (pe_op op_add (pe_callB (call_len_seqK K) rfl T.n.len (by rfl) (pa_cons (pv 3) pa_nil)) pe_int)) 
    (pss_cons (ps_for PassesOwn.never rfl (pi_range1 rfl T.n.range (pa_cons pe_int pa_nil)) (pg_name (i := 10) S.nd rfl (Or.inl rfl)) 
      (pss_cons (ps_set (i := 11) S.nd rfl (Or.inr rfl) (pe_c c__law_look hr (by decide) rfl (pa_cons (pv 0) (pa_cons (pv 1) (pa_cons (pv 2) (pa_cons pe_int pa_nil)))))) 
      (pss_cons (ps_set (i := 12) S.nd rfl (Or.inl rfl) (pe_c c__law_due hr (by decide) rfl (pa_cons (pv 1) (pa_cons (pv 3) (pa_cons (pe_op op_cat (pv 3) (pe_lst (pa_cons (pv 11) pa_nil))) (pa_cons (pv 4) pa_nil)))))) 
      (pss_cons (ps_if (pt_cmpR (op_neDK K (hu64 hr)) (pe_caught T ST Dc c__law_sort c__law_field hrc TB rfl rfl hmT hmU (lamS_by (sc := L2.defScope (fnd 98)) (by decide +kernel)) rfl (fun _ _ _ _ _ => rfl) (fun A outer s H E f c' hrb => (pe_mtX m_see hrb (by decide) (passes_call (E := E) (takes_of rfl rfl rfl rfl) fun _ _ _ _ h => h) (pv 5) (pa_cons (pe_mk k_Look hrb (by decide) rfl (pa_cons (pe_ix (ix_tupK K) (pv 11) pe_int (fun _ _ => rfl)) (pa_cons (pe_ix (ix_tupK K) (pv 11) pe_int (fun _ _ => rfl)) pa_nil))) pa_nil)))) (pv 12) (nomark _)) (pss_one (ps_ret pe_bl)) pss_nil) 
      (pss_cut (ps_if (pt_cmpR (op_eqDK K (hu64 hr)) (pv 12) (pe_tup (pa_cons pe_str (pa_cons pe_non pa_nil))) (nomark _)) (pss_one (ps_par (i := 3) (j := 9) rfl S.nd rfl rfl (by decide) rfl rfl (pa_cons (pe_op op_cat (pv 3) (pe_lst (pa_cons (pv 11) pa_nil))) (pa_cons (pe_op op_add (pv 9) pe_int) pa_nil)) (by rfl))) pss_nil) 
      (pss_cons (ps_if (pt_not (pt_val (pe_cG c__law_is hG hr (by decide) rfl (pa_cons (pv 5) (pa_cons (pv 1) (pa_cons (pv 3) (pa_cons (pv 4) pa_nil))))))) (pss_one (ps_ret pe_bl)) pss_nil) (pss_one (ps_if (PW.pt (pw_and (pt_cmpR op_gt (pe_callB (call_len_seqK K) rfl T.n.len (by rfl) (pa_cons (pv 3) pa_nil)) pe_int (nomark _)) (pw_and1 (pt_cmpR op_eq (pe_c c__law_draw hr (by decide) rfl (pa_cons (pv 0) (pa_cons pe_int pa_nil))) pe_int (nomark _))))) 
        (pss_cons (ps_set (i := 9) S.nd rfl (Or.inl rfl) (pe_op op_add (pv 9) (pe_callB (call_len_seqK K) rfl T.n.len (by rfl) (pa_cons (pv 3) pa_nil)))) 
        (pss_cons (ps_set (i := 3) S.nd rfl (Or.inl rfl) (pe_cG c__law_forgotten hG hr (by decide) rfl (pa_cons (pv 5) (pa_cons (pv 1) (pa_cons (pv 3) (pa_cons (pv 4) (pa_cons (pe_c c__law_draw hr (by decide) rfl (pa_cons (pv 0) (pa_cons (pe_callB (call_len_seqK K) rfl T.n.len (by rfl) (pa_cons (pv 3) pa_nil)) pa_nil))) pa_nil))))))) 
        (pss_cons (ps_if (pt_cmpR op_isN (pv 3) pe_non (nomark _)) (pss_one (ps_ret pe_bl)) pss_nil) (pss_one (ps_set (i := 9) S.nd rfl (Or.inl rfl) (pe_op op_sub (pv 9) (pe_callB (call_len_seqK K) rfl T.n.len (by rfl) (pa_cons (pv 3) pa_nil)))))))) pss_nil)))))))) (pss_one (ps_ret (pe_and (pe_cmpR op_eq (pe_callB SkE.call_repr_int rfl T.n.repr (by rfl) (pa_cons (pe_pr p_Book_changes hr (by decide) (pv 5) rfl) pa_nil)) (pe_callB SkE.call_repr_int rfl T.n.repr (by rfl) (pa_cons (pv 9) pa_nil)) (nomark _)) (pe_one (pe_cG c__law_is hG hr (by decide) rfl (pa_cons (pv 5) (pa_cons (pv 1) (pa_cons (pv 3) (pa_cons (pv 4) pa_nil)))))))))))))))), ?_⟩
  refine ⟨_, rfl, _, rfl, u, 4, 89999, rfl, by decide, by decide, hu, fun H1 i i0 i4 b1 u1 => ⟨_, _, rfl, rfl, u, (5 + i).toNat, 89899, ?_, by omega, by omega, u1, fun H2 a ns b2 u2 ha no hl => ?_⟩⟩
  · rw [Int.toNat_of_nonneg (by omega)]
    rfl
  have few := no.few
  refine ⟨_, rfl, u, 4, 89898, rfl, by decide, by decide, u2, fun H3 j j0 j4 b3 u3 => ⟨_, _, rfl, rfl, _, rfl, by omega, by omega, fun D1 hD1 => ?_⟩⟩
  have nDu := u3.ne hD1
  have e3 : ExtB u H H3 := ((ExtB.ofBut b1).trans (.ofBut b2)).trans (.ofBut b3)
  have ha3 : TT K H3 a ns := ha.kt (u2.kt b3)
  have tb3 : Tabs Ts H3 := by
    have g : ∀ {Hx Hy : Hp} {m : Nat}, Tabs Ts Hx → Urn Hx u m → But u Hx Hy → Tabs Ts Hy := fun t hu b => by
      obtain ⟨g, s, c, e, _⟩ := hu
      exact tabs_mu (CK := CK) t (.inl ⟨_, e⟩) b
    exact g (g (g tabs hu b1) u1 b2) u2 b3
  have b3D : But u H3 (upd H3 D1 (.lst [])) := (same_new hD1).but
  refine lc_it walk_range (fun i H4 => But u H3 H4 ∧ Urn H4 u (89898 - 8 * i) ∧ ∃ (vs : List V) (rows : List (List Str)), H4 D1 = some (.lst vs) ∧ All2 (fun v r => ∃ a, v = .ref a ∧ TT K H4 a r) vs rows ∧ vs.length = i ∧ ∀ r ∈ rows, Sub ns r ∧ r.length ≤ 100)
    ⟨b3D, u3.same (same_new hD1), [], [], upd_same, All2.nil, rfl, fun r h => by cases h⟩ (fun _ _ _ _ => trivial) ?_ ?_
  · rintro i2 x H4 H5 hi ⟨b4, u4, vs, rows, e4, a4, l4, g4⟩ ⟨e0, rfl⟩
    subst e0
    have hi9 : i2 < 5 := by omega
    refine ⟨rfl, _, rfl, _, rfl, u, a, 89898 - 8 * (i2 + 1), ns, rfl, ha3.kt (u3.kt b4), few, u4.mono (by omega), fun H6 p r b6 u6 hp sr lr => ?_⟩
    have e6 := b6.get e4 nDu
    have b46 := b4.trans b6
    refine ⟨vs, e6, small1000 (by omega), but_new hD1 b46, u6.upd (Ne.symm nDu), vs ++ [.ref p], rows ++ [r], upd_same, ?_, by rw [List.length_append, l4]; rfl, fun r2 hr2 => ?_⟩
    · have kD : Kt H6 (upd H6 D1 (.lst (vs ++ [.ref p]))) := kt_upd e6
      exact All2.snoc (a4.mono fun _ _ ⟨a, e, t⟩ => ⟨a, e, (t.kt (u4.kt b6)).kt kD⟩) ⟨p, rfl, hp.kt kD⟩
    · rcases List.mem_append.mp hr2 with z | z
      · exact g4 r2 z
      · have e : r2 = r := by simpa using z
        rw [e]
        exact ⟨sr, by omega⟩
  rintro H4 ⟨b4, u4, vs4, rows, e4, a4, l4, g4⟩
  have e04 : ExtB u H H4 := e3.trans (.ofBut b4)
  have tb4 : Tabs Ts H4 := by
    obtain ⟨g, s, c, e, _⟩ := u3
    exact tabs_mu (CK := CK) tb3 (.inl ⟨_, e⟩) b4
  have ha4 := ha3.kt (u3.kt b4)
  have u4 := u4.mono (m := 89800) (by omega)
  refine ⟨Nat.zero_le _, fun p hp => ⟨Nat.zero_le _, fun v hv => ⟨_, rfl, fun b dx hb hdx ne => ?_⟩⟩⟩
  have sp : Same H4 (upd H4 p (.lst [])) := same_new hp
  have spv : Same H4 (upd (upd H4 p (.lst [])) v (.lst [])) := sp.trans (same_new hv)
  have sx : Same (upd (upd H4 p (.lst [])) v (.lst [])) (upd (upd (upd (upd H4 p (.lst [])) v (.lst [])) dx (.own b)) b (.ins CK dx [])) := same_upd hb (same_new hdx)
  have hb4 : H4 b = none := spv.free hb
  have hv4 : H4 v = none := sp.free hv
  refine ⟨b, dx, a, ns, rfl, upd_same, ha4.same (spv.trans sx), no, no.txt, fun H5 bt bk => ⟨rfl, by show 3 ≤ sizeLine; decide, fun tp htp => ⟨tp, _, rfl, SqT.new upd_same, rfl, _, _, rfl, _, _, rfl, _, _, rfl, rfl, ?_⟩⟩⟩
  have s45 : Same H4 H5 := fun z o e => bt _ _ (ne_of_none e hb4) ((spv.trans sx) _ _ e)
  have npb : p ≠ b := ne_of_none (same_new hv _ _ upd_same) hb
  have nvb : v ≠ b := ne_of_none upd_same hb
  have npv : p ≠ v := ne_of_none upd_same hv
  have fp5 : H5 p = some (.lst []) := bt _ _ npb (sx _ _ (same_new hv _ _ upd_same))
  have fv5 : H5 v = some (.lst []) := bt _ _ nvb (sx _ _ upd_same)
  have s56 : Same H5 (upd H5 tp (.tup [.ref p, .ref v, .ref b])) := same_new htp
  have s46 := s45.trans s56
  have fp6 := s56 _ _ fp5
  have fv6 := s56 _ _ fv5
  have bk6 := bk.same s56
  generalize upd H5 tp (.tup [.ref p, .ref v, .ref b]) = H6 at s46 fp6 fv6 bk6 ⊢
  have e06 : ExtB u H H6 := e04.trans (.ofSame s46)
  have nup : p ≠ u := u4.ne hp
  have nuv : v ≠ u := u4.ne hv4
  have nDp : D1 ≠ p := ne_of_none e4 hp
  have nDv : D1 ≠ v := ne_of_none e4 hv4
  have b04 : But u H H4 := ((b1.trans b2).trans b3).trans b4
  have fresh : ∀ {z : Addr}, z ≠ u → H4 z = none → H z = none := fun {z} nz e => by
    cases e9 : H z with
    | none => rfl
    | some o =>
      rw [b04 z o nz e9] at e
      cases e
  have nub : b ≠ u := u4.ne hb4
  have fp := fresh nup hp
  have fv := fresh nuv hv4
  have fb := fresh nub hb4
  have R0 : Rt K CK CL C Ts H6 u a D1 p v b ns rows [] [] 0 89800 := ⟨u4.same s46, ha4.same s46, ⟨vs4, s46 _ _ e4, a4.mono fun _ _ ⟨a, e, t⟩ => ⟨a, e, t.same s46⟩⟩, ⟨[], fp6, All2.nil⟩, ⟨[], fv6, All2.nil⟩, bk6, LamX.Tabs.ext tb4 s46⟩
  have rl : rows.length = (1 + j).toNat := by rw [← a4.1, l4]
  have rne : rows ≠ [] := fun z => by
    rw [z] at rl
    have : 0 = (1 + j).toNat := rl
    omega
  have fitC : ∀ {Ls : List (Lk Str)}, (∀ l ∈ Ls, LpOk ns l ∧ LkCon rows l) → fitP ns Ls := fun h => fit_of_rows rne (fun r hr => (g4 r hr).1) (fun l hl => (h l hl).2.1) (fun l hl => (h l hl).2.2)
  refine ⟨_, rfl, u, 4, 89799, rfl, by decide, by decide, R0.urn, fun H7 j2 j20 j24 b7 u7 => ⟨_, rfl, by omega, by omega, ?_⟩⟩
  refine for_it walk_range (fun i σ H8 => ∃ v6 Ls, σ = [some (.ref u), some (.ref a), some (.ref D1), some (.ref p), some (.ref v), some (.ref b), v6, none, none, none, none, none, none] ∧ Rt K CK CL C Ts H8 u a D1 p v b ns rows Ls [] Ls.length (89799 - 22 * i) ∧ Ls.length = i ∧ (∀ l ∈ Ls, LpOk ns l ∧ LkCon rows l) ∧ ExtB u H H8)
    ⟨none, [], rfl, R0.draw b7 u7 nDu nuv, rfl, (fun l h => by cases h), e06.trans (.ofBut b7)⟩ (fun _ _ _ _ _ => trivial) ?_ ?_
  · rintro i2 x σ H8 H9 hi ⟨v6, Ls, rfl, R, li, okc, e8⟩ ⟨e0, rfl⟩
    subst e0
    have hi9 : i2 < 4 := by omega
    obtain ⟨ws, ew, aw⟩ := id R.lp
    refine ⟨_, rfl, .inl ⟨rfl, _, SqL.new ew⟩, _, rfl, _, rfl, _, rfl, u, a, D1, 89799 - 22 * (i2 + 1), 0, ns, rows, rfl, by decide, by decide, R.nm, no, R.rw_.l, nDu, by omega, g4, R.urn.mono (by omega), fun HA q lk bA uA lv lok con => ?_⟩
    have RA := R.draw bA uA nDu nuv
    have eA : HA p = some (.lst ws) := bA.get ew nup
    refine ⟨p, ws, q, rfl, rfl, eA, small1000 (by rw [aw.1]; omega), ?_⟩
    have kA := R.urn.kt bA
    have kB : Kt HA (upd HA p (.lst (ws ++ [q]))) := kt_lst eA but_upd
    obtain ⟨uB, nmB, rwB, vwB, bkB, tbB⟩ := RA.pairs (H' := upd HA p (.lst (ws ++ [q]))) but_upd (Ls2 := []) nDp (Ne.symm npv)
    have lpB : LpN K (upd HA p (.lst (ws ++ [q]))) p (Ls ++ [lk]) := ⟨_, upd_same, All2.snoc (aw.mono fun _ _ r => (r.kt kA).kt kB) (lv.kt kB)⟩
    have fpB : (upd HA p (.lst (ws ++ [q]))) p = some (.lst (ws ++ [q])) := upd_same
    have eB : ExtB u H (upd HA p (.lst (ws ++ [q]))) := (e8.trans (.ofBut bA)).but_new fp but_upd
    have lvB := lv.kt kB
    generalize upd HA p (.lst (ws ++ [q])) = HB at uB nmB rwB vwB bkB tbB lpB fpB eB lvB ⊢
    obtain ⟨T2, m2, rfl, t1, t2⟩ := id lvB
    obtain ⟨dxb, h0, v0, g0, gs, hbB, _⟩ := id bkB
    refine ⟨_, rfl, b, dxb, _, rfl, hbB, rfl, _, rfl, 1, rfl, p, _, -1, .ref T2, rfl, rfl, SqL.new fpB, atI_last _ _, T2, _, 0, .ref m2, rfl, rfl, t1, atI_nat (j := 0) rfl, _, rfl, 1, rfl, p, _, -1, .ref T2, rfl, rfl, SqL.new fpB, atI_last _ _, T2, _, 1, .str (mk lk.2), rfl, rfl, t1, atI_nat (j := 1) rfl, fun y dy hy hdy ne => ?_⟩
    have sy : Same HB (upd (upd HB dy (.own y)) y (.ins C dy [])) := same_upd hy (same_new hdy)
    refine ⟨y, dy, m2, lk.1, lk.2, rfl, upd_same, t2.same sy, no.sub lok.sub lok.ne, lok.marks, lok.len, fun HC bt ey => ⟨rfl, ?_⟩⟩
    have sBC : Same HB HC := fun z o e => bt _ _ (ne_of_none e hy) (sy _ _ e)
    have okc2 : ∀ l ∈ Ls ++ [lk], LpOk ns l ∧ LkCon rows l := fun l hl => by
      rcases List.mem_append.mp hl with z | z
      · exact okc l z
      · have e : l = lk := by simpa using z
        rw [e]
        exact ⟨lok, con rfl⟩
    have bkC := bkB.same sBC
    refine ⟨b, .ref y, ns, Ls, [], Ls.length, lk, rfl, bkC, no, ⟨y, dy, m2, rfl, ey, t2.same sBC⟩, lok.lk no, by omega, (fun q h => by cases h), by decide, by omega, fun _ => ⟨fun _ HD bD bkD => ⟨_, Ls ++ [lk], rfl, ?_, by rw [List.length_append, li]; rfl, okc2, ?_⟩, fun k ek => by cases ek⟩, fun nf => absurd (fitC okc2) nf⟩
    · have fsC := bkC.fs
      have tD : ExtB b HC HD := .ofBut bD
      have kD := extB_kt fsC tD
      have g : ∀ {l : Addr} (xs : List V), HC l = some (.lst xs) → HD l = some (.lst xs) := fun xs e => extB_lst fsC tD e
      refine ⟨urn_extB fsC tD (uB.same sBC), (nmB.same sBC).kt kD, (rwB.go sBC.kt fun _ e => sBC _ _ e).go kD g, (lpB.same sBC).go kD g, (vwB.go sBC.kt fun _ e => sBC _ _ e).go kD g, ?_, Tabs.but (LamX.Tabs.ext tbB sBC) fsC bD⟩
      rw [List.length_append]
      exact bkD
    · exact (eB.trans (.ofSame sBC)).but_new fb bD
  · rintro σ H8 ⟨v6, Ls, rfl, R, li, okc, e8⟩
    have l4' : Ls.length ≤ 3 := by omega
    have fitL := fitC okc
    have R := { R with urn := R.urn.mono (m := 89700) (by omega) }
    have ok : ∀ l ∈ Ls, LpOk ns l := fun l hl => (okc l hl).1
    refine ⟨3, rfl, by decide, by decide, ?_⟩
    refine for_it walk_range (fun i σ H9 => ∃ v6 v7 v8 Vs, σ = [some (.ref u), some (.ref a), some (.ref D1), some (.ref p), some (.ref v), some (.ref b), v6, v7, v8, none, none, none, none] ∧ Rt K CK CL C Ts H9 u a D1 p v b ns rows Ls Vs (Ls.length + i) (89700 - 20 * i) ∧ Vs.length = i ∧ (∀ q ∈ Vs, VwOk ns q ∧ WdOk q) ∧ firstP ns Ls Vs = none ∧ ExtB u H H9)
      ⟨_, none, none, [], rfl, R, rfl, (fun q h => by cases h), rfl, e8⟩ (fun _ _ _ _ _ => trivial) ?_ ?_
    · rintro i2 x σ H9 H10 hi ⟨v6, v7, v8, Vs, rfl, R, li2, okV, fst, e9⟩ ⟨e0, rfl⟩
      subst e0
      have hi9 : i2 < 3 := hi
      refine ⟨_, rfl, _, rfl, u, a, 89700 - 20 * (i2 + 1) + 11, ns, rfl, R.nm, no, R.urn.mono (by omega), fun HA m M bA uA hm sM neM => ?_⟩
      have RA := R.draw bA uA nDu nuv
      have noM := no.sub sM neM
      have lM := noM.few
      have lM0 : 0 < M.length := List.length_pos_iff.mpr neM
      refine ⟨_, rfl, _, rfl, _, rfl, m, _, rfl, .inr hm, u, ((M.map V.str).length : Nat), 89700 - 20 * (i2 + 1), rfl, by rw [List.length_map]; omega, by rw [List.length_map]; omega, RA.urn.mono (by omega), fun HB k k0 k1 bB uB => ?_⟩
      rw [List.length_map] at k1
      have RB := RA.draw bB uB nDu nuv
      have hmB : TT K HB m M := hm.kt (RA.urn.kt bB)
      have kl : k.toNat < M.length := by omega
      refine ⟨m, _, k, .str M[k.toNat], rfl, rfl, hmB, atI_int k0 (by rw [List.getElem?_map, List.getElem?_eq_getElem kl]; rfl), ?_⟩
      have tM : M[k.toNat] ∈ M := List.getElem_mem kl
      generalize M[k.toNat] = t at tM ⊢
      obtain ⟨vs, ev, av⟩ := id RB.vw
      refine ⟨_, rfl, .inl ⟨rfl, _, SqL.new ev⟩, _, rfl, _, rfl, _, rfl, _, rfl, a, p, m, ns, Ls, M, t, rfl, RB.nm, no, RB.lp.l, ok, by omega, hmB, lM, fun HC sC => ⟨_, rfl, _, rfl, by show 3 ≤ sizeLine; decide, fun T3 hT3 => ?_⟩⟩
      have sD : Same HC (upd HC T3 (.tup [.str (wordP ns Ls M t), .ref m, .str t])) := same_new hT3
      have sBD := sC.trans sD
      have tD : SqT K (upd HC T3 (.tup [.str (wordP ns Ls M t), .ref m, .str t])) T3 [.str (wordP ns Ls M t), .ref m, .str t] := SqT.new upd_same
      have RD := RB.same sBD
      have hmD := hmB.same sBD
      generalize upd HC T3 (.tup [.str (wordP ns Ls M t), .ref m, .str t]) = HD at sD sBD tD RD hmD ⊢
      have evD := sBD _ _ ev
      refine ⟨v, vs, _, rfl, rfl, evD, small1000 (by rw [av.1]; omega), ?_⟩
      have kE : Kt HD (upd HD v (.lst (vs ++ [.ref T3]))) := kt_lst evD but_upd
      obtain ⟨uE, nmE, rwE, lpE, bkE, tbE⟩ := RD.vows (H' := upd HD v (.lst (vs ++ [.ref T3]))) but_upd nDv npv (Ne.symm nuv)
      have tE := sqT_kt tD kE
      have hmE := hmD.kt kE
      have fvE : (upd HD v (.lst (vs ++ [.ref T3]))) v = some (.lst (vs ++ [.ref T3])) := upd_same
      have vwE : VwN K (upd HD v (.lst (vs ++ [.ref T3]))) v (Vs ++ [(wordP ns Ls M t, M, t)]) := ⟨_, upd_same, All2.snoc (av.mono fun _ _ r => (r.kt sBD.kt).kt kE) ⟨T3, m, rfl, tE, hmE⟩⟩
      have eE : ExtB u H (upd HD v (.lst (vs ++ [.ref T3]))) := (((e9.trans (.ofBut bA)).trans (.ofBut bB)).trans (.ofSame sBD)).but_new fv but_upd
      generalize upd HD v (.lst (vs ++ [.ref T3])) = HE at kE uE nmE rwE lpE bkE tbE tE hmE fvE vwE eE ⊢
      obtain ⟨dxb, h0, v0, g0, gs, hbE, _⟩ := id bkE
      have okV1 : ∀ q ∈ Vs, VwOk ns q := fun q hq => (okV q hq).1
      have vok : VwOk ns (wordP ns Ls M t, M, t) := ⟨no.menu sM neM, lM, noM.txt, noM, tM⟩
      have wok : WdOk (wordP ns Ls M t, M, t) := wd_of ns Ls M t
      have okV2 : ∀ q ∈ Vs ++ [(wordP ns Ls M t, M, t)], VwOk ns q ∧ WdOk q := fun q hq => by
        rcases List.mem_append.mp hq with z | z
        · exact okV q z
        · have e : q = (wordP ns Ls M t, M, t) := by simpa using z
          rw [e]
          exact ⟨vok, wok⟩
      have fst2 : firstP ns Ls (Vs ++ [(wordP ns Ls M t, M, t)]) = none := by
        unfold firstP
        rw [List.findIdx?_eq_none_iff]
        intro q hq
        rcases List.mem_append.mp hq with z | z
        · rw [decide_eq_true (first_none fst q z)]
          rfl
        · have e : q = (wordP ns Ls M t, M, t) := by simpa using z
          rw [e, decide_eq_true rfl]
          rfl
      have mem3 : wordP ns Ls M t ∈ (["surely", "never", "perhaps"] : List Str) := by
        rcases wok with e | e | e
        · have e : wordP ns Ls M t = "never" := e
          rw [e]
          exact List.mem_cons_of_mem _ List.mem_cons_self
        · have e : wordP ns Ls M t = "surely" := e
          rw [e]
          exact List.mem_cons_self
        · have e : wordP ns Ls M t = "perhaps" := e
          rw [e]
          exact List.mem_cons_of_mem _ (List.mem_cons_of_mem _ List.mem_cons_self)
      refine ⟨_, rfl, b, dxb, _, rfl, hbE, rfl, _, rfl, 1, rfl, v, _, -1, .ref T3, rfl, rfl, SqL.new fvE, atI_last _ _, T3, _, 0, .str (wordP ns Ls M t), rfl, rfl, tE, atI_nat (j := 0) rfl, _, rfl, _, rfl, b, m, ns, Ls, Vs, Ls.length + i2, (wordP ns Ls M t, M, t), rfl, bkE, hmE, okV1, vok, by omega, by omega, mem3, fst2, fun HF bF bkF => ⟨rfl, _, rfl, iteF ⟨_, _, _, Vs ++ [(wordP ns Ls M t, M, t)], rfl, ?_, by rw [List.length_append, li2]; rfl, okV2, fst2, eE.but_new fb bF⟩⟩⟩
      have fsE := bkE.fs
      have tF : ExtB b HE HF := .ofBut bF
      have kF := extB_kt fsE tF
      have g : ∀ {l : Addr} (xs : List V), HE l = some (.lst xs) → HF l = some (.lst xs) := fun xs e => extB_lst fsE tF e
      exact ⟨urn_extB fsE tF uE, nmE.kt kF, rwE.go kF g, lpE.go kF g, vwE.go kF g, bkF, Tabs.but tbE fsE bF⟩
    · rintro σ H9 ⟨v6, v7, v8, Vs, rfl, R, li2, okV, fst, e9⟩
      have okV1 : ∀ q ∈ Vs, VwOk ns q := fun q hq => (okV q hq).1
      have wdV1 : ∀ q ∈ Vs, WdOk q := fun q hq => (okV q hq).2
      have lV : Vs.length = 3 := li2
      have R : Rt K CK CL C Ts H9 u a D1 p v b ns rows Ls Vs (Ls.length + 3) 89600 := { R with urn := R.urn.mono (m := 89600) (by decide) }
      obtain ⟨ws, ew, aw⟩ := id R.lp
      refine ⟨fun σ Hx => ∃ v6 v7 v8, σ = [some (.ref u), some (.ref a), some (.ref D1), some (.ref p), some (.ref v), some (.ref b), v6, v7, v8, some (.int ((Ls.length + 3 : Nat) : Int)), none, none, none] ∧ Hx = H9, ?_, ?_⟩
      · refine ⟨_, rfl, p, ws, rfl, .inl (SqL.new ew), _, _, rfl, rfl, v6, v7, v8, ?_, rfl⟩
        rw [aw.1]
        rfl
      rintro σ Hx ⟨v6, v7, v8, rfl, rfl⟩
      refine ⟨3, rfl, by decide, by decide, ?_⟩
      refine for_it walk_range (fun i σ HZ => ∃ v6 v7 v8 v10 v11 v12 p Ls n, σ = [some (.ref u), some (.ref a), some (.ref D1), some (.ref p), some (.ref v), some (.ref b), v6, v7, v8, some (.int ((n : Nat) : Int)), v10, v11, v12] ∧ Rt K CK CL C Ts HZ u a D1 p v b ns rows Ls Vs n (89600 - 30 * i) ∧ Ls.length ≤ 3 + i ∧ n ≤ 6 + 2 * i ∧ (∀ l ∈ Ls, LpOk ns l) ∧ fitP ns Ls ∧ firstP ns Ls Vs = none ∧ ExtB u H HZ)
        ⟨_, _, _, none, none, none, p, Ls, _, rfl, R, by omega, by omega, ok, fitL, fst, e9⟩ (fun _ _ _ _ _ => trivial) ?_ ?_
      · rintro i3 x σ HX HY hi ⟨v6, v7, v8, v10, v11, v12, p, Ls, n, rfl, R, lL, ln, ok, fitL, fst, e9⟩ ⟨e0, rfl⟩
        subst e0
        have hi9 : i3 < 3 := hi
        obtain ⟨ws0, ew0, aw0⟩ := id R.lp
        have nup0 := urn_ne R.lp R.urn
        refine ⟨_, rfl, _, rfl, _, rfl, u, a, D1, 89600 - 30 * i3 - 22, 3, ns, rows, rfl, by decide, by decide, R.nm, no, R.rw_.l, nDu, by omega, g4, R.urn.mono (by omega), fun HA ql lk bA uA lv lok _ => ?_⟩
        have RA := R.draw bA uA nDu nuv
        have eA := e9.trans (.ofBut bA)
        have ewA : HA p = some (.lst ws0) := bA.get ew0 nup0
        have awA := aw0.mono fun _ _ r => LpV.kt r (R.urn.kt bA)
        refine ⟨_, rfl, _, rfl, _, rfl, _, rfl, by show 1 ≤ sizeLine; decide, fun L1 hL1 => ⟨p, L1, ws0, _, rfl, rfl, same_new hL1 _ _ ewA, upd_same, len_small (by rw [aw0.1]; show _ + 1 ≤ 1000; omega), fun p2 hp2 => ?_⟩⟩
        have s1 := (same_new (o := .lst [ql]) hL1).trans (same_new (o := .lst (ws0 ++ [ql])) hp2)
        have lp2 : LpN K (upd (upd HA L1 (.lst [ql])) p2 (.lst (ws0 ++ [ql]))) p2 (Ls ++ [lk]) := ⟨_, upd_same, (All2.snoc awA lv).mono fun _ _ r => LpV.kt r s1.kt⟩
        have RB := RA.same s1
        have lvB := lv.kt s1.kt
        have eB := eA.trans (.ofSame s1)
        generalize upd (upd HA L1 (.lst [ql])) p2 (.lst (ws0 ++ [ql])) = HB at s1 lp2 RB lvB eB ⊢
        have ok2 : ∀ l ∈ Ls ++ [lk], LpOk ns l := fun l hl => by
          rcases List.mem_append.mp hl with z | z
          · exact ok l z
          · have e : l = lk := by simpa using z
            rw [e]
            exact lok
        have l2l : (Ls ++ [lk]).length = Ls.length + 1 := by rw [List.length_append]; rfl
        refine ⟨_, rfl, a, p, p2, v, ns, Ls, Ls ++ [lk], Vs, rfl, RB.nm, no, RB.lp.l, by omega, lp2.l, ok2, by omega, RB.vw.l, okV1, by omega, fun HC d sC hd => ?_⟩
        have RC := RB.same sC
        have lpC := lp2.same sC
        have eC := eB.trans (.ofSame sC)
        have lvC := lvB.kt sC.kt
        have fsC := RC.bk.fs
        have dok : DueOk (dueP ns Ls.length (Ls ++ [lk]) Vs).1 (dueP ns Ls.length (Ls ++ [lk]) Vs).2 := due_ok (by omega) (by omega)
        refine ⟨RC.tb, fun HD eN tbD => ?_⟩
        have bkD := RC.bk.extN eN
        have kN := extN_kt eN
        obtain ⟨dxb, h0, v0, g0, gs, hbD, _⟩ := id bkD
        obtain ⟨T2, m2, rfl, t1, t2⟩ := lvC.kt kN
        refine ⟨_, rfl, b, dxb, _, rfl, hbD, rfl, _, rfl, T2, _, 0, .ref m2, rfl, rfl, t1, atI_nat (j := 0) rfl, _, rfl, T2, _, 1, .str (mk lk.2), rfl, rfl, t1, atI_nat (j := 1) rfl, fun y dy hy hdy ne => ?_⟩
        have sy : Same HD (upd (upd HD dy (.own y)) y (.ins C dy [])) := same_upd hy (same_new hdy)
        refine ⟨y, dy, m2, lk.1, lk.2, rfl, upd_same, t2.same sy, no.sub lok.sub lok.ne, lok.marks, lok.len, fun HE bt ey => ⟨rfl, ?_⟩⟩
        have sDE : Same HD HE := fun z o e => bt _ _ (ne_of_none e hy) (sy _ _ e)
        have bkE := bkD.same sDE
        have tCE : ExtB b HC HE := (ExtB.ofN eN).trans (.ofSame sDE)
        refine ⟨b, .ref y, ns, Ls, Vs, n, lk, rfl, bkE, no, ⟨y, dy, m2, rfl, ey, t2.same sDE⟩, lok.lk no, by omega, okV1, by omega, by omega, ?_⟩
        refine put_caught (Ts := Ts) (lk := lk) SB SC xB xC (LamX.Tabs.ext tbD sDE) bkE (by omega) (by omega) (fun HF r Ls2 n2 tEF tbF hr5 bkF cs => ?_) (fun v1 H1 h1 => ⟨_, rfl, by show 2 ≤ sizeLine; decide, h1⟩)
        have tCF := tCE.trans tEF
        have hd5 := sqT_kt hd (extB_kt fsC tCF)
        refine ⟨_, rfl, _, _, dp_due dok hr5, dp_due dok hd5, (sh_due dok).shaped (by decide), (sh_due dok).shaped (by decide), _, rfl, ?_⟩
        rw [due_refl dok]
        refine iteF ?_
        have eF : ExtB u H HF := eC.ext_new fb tCF
        obtain ⟨uF, nmF, rwF, lpF, vwF⟩ := RC.book tCF tbF bkF
        refine ⟨fun σ HG => ∃ v10 v11 v12 p3 Ls3 n3, σ = [some (.ref u), some (.ref a), some (.ref D1), some (.ref p3), some (.ref v), some (.ref b), v6, v7, v8, some (.int ((n3 : Nat) : Int)), v10, v11, v12] ∧ Rt K CK CL C Ts HG u a D1 p3 v b ns rows Ls3 Vs n3 (89600 - 30 * i3 - 22) ∧ Ls3.length ≤ 4 + i3 ∧ n3 ≤ 7 + 2 * i3 ∧ (∀ l ∈ Ls3, LpOk ns l) ∧ fitP ns Ls3 ∧ firstP ns Ls3 Vs = none ∧ ExtB u H HG, ?_, ?_⟩
        · rcases cs with ⟨ed, rfl, rfl, ft2, fst2⟩ | ⟨nt, rfl, rfl⟩
          · rw [ed] at dok hd5
            refine ⟨_, rfl, by show 2 ≤ sizeLine; decide, fun d3 hd3 => ?_⟩
            have s3 := same_new (o := .tup [.str "told", .non]) hd3
            refine ⟨_, _, dp_due ok_told (sqT_same s3 hd5), dp_due ok_told (SqT.new upd_same), (sh_due ok_told).shaped (by decide), (sh_due ok_told).shaped (by decide), _, rfl, ?_⟩
            rw [told_yes]
            obtain ⟨wsF, ewF, awF⟩ := id lpF
            have lvF := lvC.kt (extB_kt fsC tCF)
            refine iteT ⟨_, rfl, _, rfl, by show 1 ≤ sizeLine; decide, fun L2 hL2 => ⟨p, L2, wsF, _, rfl, rfl, same_new hL2 _ _ (s3 _ _ ewF), upd_same, len_small (by rw [awF.1]; show _ + 1 ≤ 1000; omega), fun p4 hp4 => ?_⟩⟩
            have s4 := s3.trans ((same_new (o := .lst [.ref T2]) hL2).trans (same_new (o := .lst (wsF ++ [.ref T2])) hp4))
            have lp4 : LpN K _ p4 (Ls ++ [lk]) := ⟨_, upd_same, (All2.snoc awF lvF).mono fun _ _ r => LpV.kt r s4.kt⟩
            exact ⟨_, rfl, _, _, rfl, rfl, _, _, rfl, _, _, _, p4, Ls ++ [lk], n + 1, rfl, ⟨uF.same s4, nmF.same s4, rwF.go s4.kt fun _ e => s4 _ _ e, lp4, vwF.go s4.kt fun _ e => s4 _ _ e, bkF.same s4, LamX.Tabs.ext tbF s4⟩, by omega, by omega, ok2, ft2, fst2, eF.trans (.ofSame s4)⟩
          · refine ⟨_, rfl, by show 2 ≤ sizeLine; decide, fun d3 hd3 => ?_⟩
            have s3 := same_new (o := .tup [.str "told", .non]) hd3
            refine ⟨_, _, dp_due dok (sqT_same s3 hd5), dp_due ok_told (SqT.new upd_same), (sh_due dok).shaped (by decide), (sh_due ok_told).shaped (by decide), _, rfl, ?_⟩
            rw [told_no nt]
            have RF : Rt K CK CL C Ts HF u a D1 p v b ns rows Ls2 Vs n2 (89600 - 30 * i3 - 22) := ⟨uF, nmF, rwF, lpF, vwF, bkF, tbF⟩
            exact iteF ⟨_, _, _, p, Ls2, n2, rfl, RF.same s3, by omega, by omega, ok, fitL, fst, eF.trans (.ofSame s3)⟩
        · rintro σ HG ⟨v10, v11, v12, p3, Ls3, n3, rfl, R3, l3, n3l, ok3, fit3, fst3, e3G⟩
          have isC3 : IsC K CK CL C HG b a p3 v ns Ls3 Vs n3 := ⟨R3.bk, R3.nm, no, R3.lp.l, ok3, by omega, R3.vw.l, okV1, wdV1, by omega, by omega, fit3, fst3⟩
          refine ⟨_, rfl, _, rfl, _, rfl, _, rfl, b, a, p3, v, ns, Ls3, Vs, n3, rfl, isC3, fun HH sH => ⟨_, rfl, iteF ?_⟩⟩
          have R4 := R3.same sH
          have e4H := e3G.trans (.ofSame sH)
          obtain ⟨ws3, ew3, aw3⟩ := id R4.lp
          have ll := aw3.1
          refine ⟨_, rfl, p3, ws3, rfl, .inl (SqL.new ew3), _, _, rfl, rfl, _, rfl, ?_⟩
          refine ite2 (fun g => ?_) (fun _ => iteF ⟨_, _, _, _, _, _, p3, Ls3, n3, rfl, { R4 with urn := R4.urn.mono (by omega) }, by omega, by omega, ok3, fit3, fst3, e4H⟩)
          have g : (0 : Int) < ws3.length := of_decide_eq_true g
          refine ⟨_, rfl, u, 2, 89600 - 30 * i3 - 23, rfl, by decide, by decide, R4.urn.mono (by omega), fun HI k k0 k2 bI uI => ⟨rfl, _, rfl, ?_⟩⟩
          have R5 := R4.draw bI uI nDu nuv
          have e5I := e4H.trans (.ofBut bI)
          refine ite2 (fun _ => ?_) (fun _ => ⟨_, _, _, _, _, _, p3, Ls3, n3, rfl, { R5 with urn := R5.urn.mono (by omega) }, by omega, by omega, ok3, fit3, fst3, e5I⟩)
          have ew5 : HI p3 = some (.lst ws3) := bI.get ew3 (urn_ne R4.lp R4.urn)
          refine ⟨_, rfl, _, rfl, p3, ws3, rfl, .inl (SqL.new ew5), _, _, rfl, rfl, ?_⟩
          refine ⟨_, rfl, _, rfl, _, rfl, _, rfl, _, rfl, _, rfl, p3, ws3, rfl, .inl (SqL.new ew5), u, (ws3.length : Nat), 89600 - 30 * i3 - 24, rfl, by omega, by omega, R5.urn.mono (by omega), fun HJ kk kk0 kk1 bJ uJ => ?_⟩
          have R6 := R5.draw bJ uJ nDu nuv
          have e6J := e5I.trans (.ofBut bJ)
          have isC6 : IsC K CK CL C HJ b a p3 v ns Ls3 Vs n3 := ⟨R6.bk, R6.nm, no, R6.lp.l, ok3, by omega, R6.vw.l, okV1, wdV1, by omega, by omega, fit3, fst3⟩
          refine ⟨b, a, p3, v, kk.toNat, ns, Ls3, Vs, n3, by rw [Int.toNat_of_nonneg kk0], isC6, R6.lp, by omega, by omega, R6.tb, fun HK r Ls' n' tK tbK isK lpK hc => ?_⟩
          obtain ⟨wsK, ewK, awK⟩ := id lpK
          have e7K := e6J.ext_new fb tK
          obtain ⟨uK, nmK, rwK, _, vwK⟩ := R6.book tK tbK isK.bk
          refine ⟨_, rfl, rfl, _, rfl, iteF ?_⟩
          refine ⟨_, rfl, _, rfl, r, wsK, rfl, .inl (SqL.new ewK), _, _, rfl, rfl, ?_⟩
          have lw := awK.1
          have le : Ls'.length ≤ Ls3.length ∧ ((n3 : Int) + ws3.length - wsK.length = ((n' : Nat) : Int)) ∧ n' ≤ n3 + 1 := by
            rcases hc with ⟨rfl, rfl⟩ | ⟨rfl, rfl⟩
            · exact ⟨Nat.le_refl _, by omega, by omega⟩
            · have hl : (Ls3.eraseIdx kk.toNat).length = Ls3.length - 1 := by
                rw [List.length_eraseIdx, if_pos (by omega)]
              exact ⟨by omega, by omega, by omega⟩
          obtain ⟨le1, le2, le3⟩ := le
          exact ⟨_, _, _, _, _, _, r, Ls', n', by rw [← le2]; rfl, ⟨uK.mono (by omega), nmK, rwK, lpK, vwK, isK.bk, tbK⟩, by omega, by omega, isK.ok, isK.fit, isK.first, e7K⟩
      · rintro σ HX ⟨v6, v7, v8, v10, v11, v12, p, Ls, n, rfl, R, lL, ln, ok, fitL, fst, e9⟩
        have lL2 : Ls.length ≤ 6 := lL
        have ln2 : n ≤ 12 := ln
        have fsX := R.bk.fs
        obtain ⟨dxb, h0, v0, g0, gs, hbX, _⟩ := id R.bk
        have isC : IsC K CK CL C HX b a p v ns Ls Vs n := ⟨R.bk, R.nm, no, R.lp.l, ok, by omega, R.vw.l, okV1, wdV1, by omega, by omega, fitL, fst⟩
        refine ⟨_, rfl, b, dxb, _, rfl, hbX, b, rfl, ns, Ls, Vs, n, R.bk, _, rfl, log_small (by omega), _, rfl, _, rfl, log_small (by omega), rfl, ?_⟩
        refine ⟨_, rfl, ?_⟩
        rw [decide_eq_true (rfl : V.str (Str.ofString (toString ((n : Nat) : Int))) = V.str (Str.ofString (toString ((n : Nat) : Int))))]
        exact iteT ⟨_, rfl, _, rfl, _, rfl, _, rfl, b, a, p, v, ns, Ls, Vs, n, rfl, isC, fun H' s => q H' (e9.trans (.ofSame s)) (LamX.Tabs.ext R.tb s)⟩
end
end Mh
end
section
set_option Elab.async false
set_option linter.all false
set_option maxRecDepth 100000
set_option maxHeartbeats 4000000
/-! MhL19: the law. -/
namespace Mh
open PySem PySem.Spec PyProof.Rows L2 MhX
open C8 (Cal Mak Met pe_c pe_mk pe_mt pe_mt0 pe_gc pss_cut tCut)
open LamX (Tabs TabS TabB ExtN CodeO LamS lamS_by lamEnv lamCx tLam)
section
variable {P : Program} {w : World} {K : PySem.W.Frag} {mg : Str → Option Value} {base : Heap}
def spLaw (K : PySem.W.Frag) (Ts : List (Addr × Str)) : Sp := fun vs H Q _ => ∃ (a : Addr) (ns : List Int), vs = [.ref a] ∧ SqL K H a (ns.map V.int) ∧ ns.length ≤ sizeLine ∧ Tabs Ts H ∧ ∀ H', Q (.bl true) H'
theorem sc_law : FnScope ["_law_cells", "_law_k"] ["_law_cells"] (L2.defScope (fnd 99)) := ⟨rfl, rfl, rfl, by decide +kernel, rfl, by decide +kernel, by decide +kernel⟩
theorem d_law {Ts : List (Addr × Str)} {f : Addr} {fd : FuncData} (T : Tx K mg) (D : L2.Fun K "law" "law" (fnd 99) f fd) (c__law_urn : Cal P w K mg base 1 "_law_urn" (spUrn K) []) (c__law_right : CalG P w K mg base 18 "_law_right" (spRight Ts)) : FnG P w K mg base 19 f fd ["_law_cells"] (spLaw K Ts) := by
  have S := sc_law
  refine fun_okG D S (fun vs H Q E h => ?_) (fun cdv A outer s H vs Q E _ _ hG hr h => ?_)
  · obtain ⟨a, ns, rfl, _⟩ := h
    rfl
  obtain ⟨a, ns, rfl, ha, ln, tabs, q⟩ := h
  -- slots: 0 _law_cells, 1 _law_k
  refine ⟨_, (pss_one (ps_ret (pe_callB (cr_allK K rfl) rfl T.n.all (by rfl) (pa_cons (pe_lc rfl S.nd (pi_range1 rfl T.n.range (pa_cons (pe_callB (call_max2 rfl) rfl T.n.max (by rfl) (pa_cons pe_int (pa_cons (pe_callB (call_min2 rfl) rfl T.n.min (by rfl) (pa_cons (pe_callB (call_len_seqK K) rfl T.n.len (by rfl) (pa_cons (pv 0) pa_nil)) (pa_cons pe_int pa_nil))) pa_nil))) pa_nil)) (blkOk_by (N := ["_law_cells", "_law_k"]) (sc := L2.defScope (fnd 99)) (own := [("_law_k", 1)]) (by decide +kernel)) (fun _ _ _ _ _ => (pg_name (i := 1) S.nd rfl (Or.inl rfl))) (fun _ _ _ _ _ => pts_nil) (fun _ _ _ _ _ => (pe_cG c__law_right hG hr (by decide) rfl (pa_cons (pe_c c__law_urn hr (by decide) rfl (pa_cons (pv 0) (pa_cons (pv 1) pa_nil))) pa_nil)))) pa_nil)))), ?_⟩
  have hm : ∀ x : Int, 0 ≤ x → (0 : Int) ≤ (if (if (3 : Int) < x then 3 else x) > 2 then (if (3 : Int) < x then 3 else x) else 2) ∧ (if (if (3 : Int) < x then 3 else x) > 2 then (if (3 : Int) < x then 3 else x) else 2) ≤ 3 := fun x h => by
    split <;> split <;> omega
  refine ⟨_, rfl, a, _, rfl, .inl ha, _, _, rfl, _, _, rfl, ?_⟩
  obtain ⟨m0, m3⟩ := hm ((ns.map V.int).length : Nat) (Int.natCast_nonneg _)
  generalize (if (if (3 : Int) < (((ns.map V.int).length : Nat) : Int) then 3 else (((ns.map V.int).length : Nat) : Int)) > 2 then (if (3 : Int) < (((ns.map V.int).length : Nat) : Int) then 3 else (((ns.map V.int).length : Nat) : Int)) else 2) = m at m0 m3 ⊢
  refine ⟨_, rfl, by omega, by omega, fun D1 hD1 => ?_⟩
  have s0 : Same H (upd H D1 (.lst [])) := same_new hD1
  refine lc_it walk_range (fun i H2 => Tabs Ts H2 ∧ SqL K H2 a (ns.map V.int) ∧ (a ≠ D1 ∨ ∀ Hx, SqL K Hx a (ns.map V.int)) ∧ ∃ bs : List Bool, H2 D1 = some (.lst (bs.map V.bl)) ∧ bs.length = i ∧ bs.all id = true) ⟨LamX.Tabs.ext tabs s0, s0.seq ha, ?_, [], upd_same, rfl, rfl⟩ (fun _ _ _ _ => trivial) ?_ ?_
  · rcases ha with (e | ⟨o, e⟩) | e
    · exact .inl (ne_of_none e hD1)
    · exact .inl (ne_of_none e hD1)
    · exact .inr fun Hx => .inr e
  · rintro i x H2 H3 hi ⟨t2, a2, na, bs, e2, l2, b2⟩ ⟨e0, rfl⟩
    subst e0
    refine ⟨rfl, _, rfl, _, rfl, a, i, ns, ?_, a2, by omega, fun H4 u s4 nu hu => ?_⟩
    · show [V.ref a, V.int (0 + ((i : Nat) : Int))] = _
      rw [Int.zero_add]
    refine ⟨u, rfl, hu, LamX.Tabs.ext t2 s4, fun H5 e5 t5 => ?_⟩
    have nD : D1 ≠ u := ne_of_none e2 nu
    have e5D := e5 _ _ nD (s4 _ _ e2) (fun _ z => nomatch z)
    refine ⟨bs.map V.bl, e5D, small1000 (by rw [List.length_map]; omega), tabs_mu (CK := 0) t5 (.inl ⟨_, e5D⟩) but_upd, ?_, na, bs ++ [true], by rw [upd_same, List.map_append]; rfl, by rw [List.length_append, l2]; rfl, by rw [List.all_append, b2]; rfl⟩
    rcases na with na | na
    · rcases a2 with (e | ⟨o, e⟩) | e
      · refine .inl (.inl ?_)
        rw [upd_ne na]
        exact e5 _ _ (ne_of_none e nu) (s4 _ _ e) fun _ z => nomatch z
      · refine .inl (.inr ⟨o, ?_⟩)
        rw [upd_ne na]
        exact e5 _ _ (ne_of_none e nu) (s4 _ _ e) fun _ z => nomatch z
      · exact .inr e
    · exact na _
  · rintro H2 ⟨t2, a2, na, bs, e2, l2, b2⟩
    refine ⟨D1, bs, rfl, SqL.new e2, ?_⟩
    rw [b2]
    exact q H2
end
end Mh
end
section
set_option Elab.async false
set_option linter.all false
set_option maxRecDepth 100000
set_option maxHeartbeats 4000000
/-! MhHf: the facts of the head, from what the hook tells. -/
namespace MhHd
open PySem PySem.Spec PyProof.Rows L2 MhX Mh
open C8 (Cal Mak Met)
open He (Fa Dv Defn Tab ga ma ba frT asD tabsB dicW keysIn eqO)
open He5 (DefA SaysA obsA valA)
theorem says_fact {fa : List Fa} {fn : List DefA} {K : PySem.W.Frag} (c : SaysA fa fn K) {f : Fa} (h : f ∈ fa) : f.ok K = true := by
  obtain ⟨i, hi, e⟩ := List.mem_iff_getElem.mp h
  exact c.fact i (f := f) (by rw [List.getElem?_eq_getElem hi, e])
theorem says_def {fa : List Fa} {fn : List DefA} {K : PySem.W.Frag} (c : SaysA fa fn K) {d : DefA} (h : d ∈ fn) : ∃ fd, FunD K d.name d.qual d.params d.body d.scope (d.dvs K) (d.kws K) (d.at_ K) fd := by
  obtain ⟨i, hi, e⟩ := List.mem_iff_getElem.mp h
  exact c.def_ i (d := d) (by rw [List.getElem?_eq_getElem hi, e])
section
variable {P : Program} {w : World} {K : PySem.W.Frag} {mg : Str → Option Value} {base h : Heap}
theorem fc_free (X : K.In h) (G : h.Ns mainGlobals mg) (c : SaysZ fa fn ts tf ex w h K) {x : Str} (hx : x ∈ freeL) : mg x = none :=
  He.free_ok X G (says_fact c.a (List.mem_append_left _ (List.mem_append_left _ (List.mem_append_left _ (List.mem_append_left _ (List.mem_append_left _ (List.mem_append_left _ (List.mem_append_left _ (List.mem_append_right _ (List.mem_map.mpr ⟨x, hx, rfl⟩))))))))))
theorem fc_gd (X : K.In h) (G : h.Ns mainGlobals mg) (c : SaysZ fa fn ts tf ex w h K) {p : Str × (Nat × Addr)} (hp : p ∈ gds) : mg p.1 = some (.ref (ga K p.1)) :=
  He.glo_ok X G (says_fact c.a (List.mem_append_left _ (List.mem_append_left _ (List.mem_append_left _ (List.mem_append_left _ (List.mem_append_left _ (List.mem_append_left _ (List.mem_append_right _ (List.mem_map.mpr ⟨p, hp, rfl⟩)))))))))
theorem fc_ld (X : K.In h) (G : h.Ns mainGlobals mg) (c : SaysZ fa fn ts tf ex w h K) {p : Str × (Nat × Addr)} (hp : p ∈ lds) : mg p.1 = some (.ref (ga K p.1)) :=
  He.glo_ok X G (says_fact c.a (List.mem_append_left _ (List.mem_append_left _ (List.mem_append_left _ (List.mem_append_left _ (List.mem_append_left _ (List.mem_append_right _ (List.mem_map.mpr ⟨p, hp, rfl⟩))))))))
theorem fc_sort (X : K.In h) (G : h.Ns mainGlobals mg) (c : SaysZ fa fn ts tf ex w h K) {x : Str} (hx : x ∈ sortL) : mg x = some (.ref (ga K x)) :=
  He.glo_ok X G (says_fact c.a (List.mem_append_left _ (List.mem_append_left _ (List.mem_append_left _ (List.mem_append_left _ (List.mem_append_right _ (List.mem_map.mpr ⟨x, hx, rfl⟩)))))))
theorem fc_cg (X : K.In h) (G : h.Ns mainGlobals mg) (c : SaysZ fa fn ts tf ex w h K) {x : Str} (hx : x ∈ clsL) : mg x = some (.ref (ga K x)) :=
  He.glo_ok X G (says_fact c.a (List.mem_append_left _ (List.mem_append_left _ (List.mem_append_left _ (List.mem_append_right _ (List.mem_map.mpr ⟨x, hx, rfl⟩))))))
theorem fc_cls (c : SaysZ fa fn ts tf ex w h K) {x : Str} (hx : x ∈ clsL) : Cls K (ga K x) :=
  He.cls_ok (says_fact c.a (List.mem_append_left _ (List.mem_append_left _ (List.mem_append_right _ (List.mem_map.mpr ⟨x, hx, rfl⟩)))))
theorem fc_mkr (c : SaysZ fa fn ts tf ex w h K) {x : Str} (hx : x ∈ clsL) : Mk K (ga K x) (ma K (ga K x) "__init__") :=
  He.mkr_ok (says_fact c.a (List.mem_append_left _ (List.mem_append_right _ (List.mem_map.mpr ⟨x, hx, rfl⟩))))
theorem fc_noat (c : SaysZ fa fn ts tf ex w h K) {p : Str × Str} (hp : p ∈ noatL) : NoAttr K (ga K p.1) p.2 :=
  He.noat_ok (says_fact c.a (List.mem_append_right _ (List.mem_map.mpr ⟨p, hp, rfl⟩)))
theorem fc_0 (c : SaysZ fa fn ts tf ex w h K) (i : Nat) {f : Fa} (e : fa[i]? = some f := by rfl) : f.ok K = true := c.a.fact i e
theorem fc_ex (c : SaysZ fa fn ts tf ex w h K) (i : Nat) {f : PySem.W.Frag → Bool} (e : exs[i]? = some f := by rfl) : f K = true := List.all_eq_true.mp c.more f (List.mem_of_getElem? e)
/-! ### the defs -/
theorem at_g (c : SaysZ fa fn ts tf ex w h K) {p : Str × (Nat × Addr)} (hp : p ∈ gds ++ lds) : ga K p.1 = p.2.2 := of_decide_eq_true (List.all_eq_true.mp (fc_ex c 14) p hp)
theorem at_m (c : SaysZ fa fn ts tf ex w h K) {d : MeD} (hd : d ∈ mds ++ ids) : ma K (ga K d.cl) d.nm = d.a := of_decide_eq_true (List.all_eq_true.mp (fc_ex c 15) d hd)
theorem at_p (c : SaysZ fa fn ts tf ex w h K) {d : MeD} (hd : d ∈ pds) : He5.wf K (ga K d.cl) "property" d.nm = d.a := of_decide_eq_true (List.all_eq_true.mp (fc_ex c 16) d hd)
theorem df_g (X : K.In h) (G : h.Ns mainGlobals mg) (c : SaysZ fa fn ts tf ex w h K) {p : Str × (Nat × Addr)} (hp : p ∈ gds) : DefF K mg p.1 (fnd p.2.1) := by
  obtain ⟨fd, F⟩ := says_def c.a (d := gD p) (List.mem_cons_of_mem _ (List.mem_append_left _ (List.mem_append_left _ (List.mem_append_left _ (List.mem_append_left _ (List.mem_map.mpr ⟨p, hp, rfl⟩))))))
  exact ⟨p.2.2, fd, He5.fun_of F, by rw [← at_g c (List.mem_append_left _ hp)]; exact fc_gd X G c hp⟩
theorem df_l (X : K.In h) (G : h.Ns mainGlobals mg) (c : SaysZ fa fn ts tf ex w h K) {p : Str × (Nat × Addr)} (hp : p ∈ lds) : DefF K mg p.1 (fnd p.2.1) := by
  obtain ⟨fd, F⟩ := says_def c.a (d := gD p) (List.mem_cons_of_mem _ (List.mem_append_left _ (List.mem_append_left _ (List.mem_append_left _ (List.mem_append_right _ (List.mem_map.mpr ⟨p, hp, rfl⟩))))))
  exact ⟨p.2.2, fd, He5.fun_of F, by rw [← at_g c (List.mem_append_right _ hp)]; exact fc_ld X G c hp⟩
theorem df_c (X : K.In h) (G : h.Ns mainGlobals mg) (c : SaysZ fa fn ts tf ex w h K) {p : Str × (Nat × Addr)} (hp : p ∈ lds) : DefC K mg p.1 (fnd p.2.1) (He.codeOf K (p.1, none)) := by
  obtain ⟨f, fd, F, hm⟩ := (df_l X G c hp).ex
  have hf : f = ga K p.1 := by
    have e := hm.symm.trans (fc_ld X G c hp)
    cases e
    rfl
  obtain ⟨oc, od, kV, doc, pm, an, cdv, ct, osl, e, lk, hcd⟩ := F.ex
  obtain ⟨cc, hcc⟩ := He.codeIn_ref hcd
  have ec : fd.code = .ref cc := by rw [e]; exact hcc
  refine ⟨f, fd, F, hm, ?_⟩
  rw [ec, He.codeOf_eq (K := K) (p := (p.1, none)) (by rw [hf] at lk; exact lk) ec]
theorem mt_ (c : SaysZ fa fn ts tf ex w h K) (i j : Nat) {d : MeD} (e : mds[i]? = some d := by rfl) (e2 : metL[j]? = some d := by rfl) : MetF K (ga K d.cl) d.nm d.ql (met d.i d.j) := by
  obtain ⟨fd, F⟩ := says_def c.a (d := mD d) (List.mem_cons_of_mem _ (List.mem_append_left _ (List.mem_append_left _ (List.mem_append_right _ (List.mem_map.mpr ⟨d, List.mem_of_getElem? e, rfl⟩)))))
  exact ⟨d.a, fd, He5.fun_of F, by rw [← at_m c (List.mem_append_left _ (List.mem_of_getElem? e))]; exact He.meth_ok (List.all_eq_true.mp (fc_ex c 0) d (List.mem_of_getElem? e2))⟩
theorem sp_ (c : SaysZ fa fn ts tf ex w h K) (i j : Nat) {d : MeD} (e : mds[i]? = some d := by rfl) (e2 : spcL[j]? = some d := by rfl) : SpcF K (ga K d.cl) d.nm d.ql (met d.i d.j) := by
  obtain ⟨fd, F⟩ := says_def c.a (d := mD d) (List.mem_cons_of_mem _ (List.mem_append_left _ (List.mem_append_left _ (List.mem_append_right _ (List.mem_map.mpr ⟨d, List.mem_of_getElem? e, rfl⟩)))))
  obtain ⟨h1, h2⟩ := ba (List.all_eq_true.mp (fc_ex c 1) d (List.mem_of_getElem? e2))
  obtain ⟨h2, h3⟩ := ba h2
  have ea := at_m c (List.mem_append_left _ (List.mem_of_getElem? e))
  rw [ea] at h1 h2 h3
  exact ⟨d.a, fd, He5.fun_of F, ⟨He.eqO_ok h1, h2⟩, h3⟩
theorem pr_ (c : SaysZ fa fn ts tf ex w h K) (i : Nat) {d : MeD} (e : pds[i]? = some d := by rfl) : PrpF K (ga K d.cl) d.nm d.ql (met d.i d.j) := by
  have hd := List.mem_of_getElem? e
  obtain ⟨fd, F⟩ := says_def c.a (d := pD d) (List.mem_cons_of_mem _ (List.mem_append_right _ (List.mem_map.mpr ⟨d, hd, rfl⟩)))
  obtain ⟨h1, h2⟩ := ba (List.all_eq_true.mp (fc_ex c 2) d hd)
  obtain ⟨h2, h3⟩ := ba h2
  obtain ⟨h3, h4⟩ := ba h3
  refine ⟨ma K (ga K d.cl) d.nm, d.a, fd, He5.fun_of F, He.eqO_ok h1, He.eqO_ok h2, of_decide_eq_true h3, ?_⟩
  rw [← at_p c hd]
  unfold He5.wf
  split at h4
  · rename_i f r q
    exact ⟨r, by rw [q]⟩
  · cases h4
theorem in_ (c : SaysZ fa fn ts tf ex w h K) (i : Nat) {d : MeD} (e : ids[i]? = some d := by rfl) : ∃ fd, L2.Fun K d.nm d.ql (met d.i d.j) (ma K (ga K d.cl) d.nm) fd := by
  obtain ⟨fd, F⟩ := says_def c.a (d := mD d) (List.mem_cons_of_mem _ (List.mem_append_left _ (List.mem_append_right _ (List.mem_map.mpr ⟨d, List.mem_of_getElem? e, rfl⟩))))
  rw [at_m c (List.mem_append_right _ (List.mem_of_getElem? e))]
  exact ⟨fd, He5.fun_of F⟩
/-! ### all of them -/
theorem f_nn (X : K.In h) (G : h.Ns mainGlobals mg) (c : SaysZ fa fn ts tf ex w h K) : Nn mg := by
  constructor <;> exact fc_free X G c (by decide +kernel)
theorem f_tx (X : K.In h) (G : h.Ns mainGlobals mg) (c : SaysZ fa fn ts tf ex w h K) : Tx K mg := by
  obtain ⟨t1, e1⟩ := He.int_ok X G (fc_0 c 0)
  obtain ⟨t2, e2⟩ := He.int_ok X G (fc_0 c 1)
  obtain ⟨t3, e3⟩ := He.str_ok X G (fc_0 c 2)
  obtain ⟨t4, e4⟩ := He.str_ok X G (fc_0 c 3)
  exact ⟨f_nn X G c, ⟨_, e1, ⟨_, rfl⟩⟩, ⟨_, e2, ⟨_, rfl⟩⟩, ⟨_, e3, ⟨_, rfl⟩⟩, ⟨_, e4, ⟨_, rfl⟩⟩⟩
theorem f_lk (X : K.In h) (G : h.Ns mainGlobals mg) (c : SaysZ fa fn ts tf ex w h K) : LkTx K mg (ga K "Look") :=
  ⟨fc_cls c (by decide +kernel), fc_noat c (p := ("Look", "menu")) (by decide +kernel), fc_noat c (p := ("Look", "marks")) (by decide +kernel), fc_cg X G c (by decide +kernel)⟩
theorem f_ls (c : SaysZ fa fn ts tf ex w h K) : LsTx K mg (ga K "Looks") :=
  ⟨fc_cls c (by decide +kernel), fc_noat c (p := ("Looks", "named")) (by decide +kernel), fc_noat c (p := ("Looks", "seen")) (by decide +kernel)⟩
theorem f_bk (c : SaysZ fa fn ts tf ex w h K) : BkTx K mg (ga K "Book") :=
  ⟨fc_cls c (by decide +kernel), fc_noat c (p := ("Book", "held")) (by decide +kernel), fc_noat c (p := ("Book", "vows")) (by decide +kernel), fc_noat c (p := ("Book", "log")) (by decide +kernel)⟩
theorem f_ins (c : SaysZ fa fn ts tf ex w h K) : C8.InsC K (ga K "Look") := by
  obtain ⟨h1, h2⟩ := ba (fc_ex c 3)
  obtain ⟨h2, h3⟩ := ba h2
  obtain ⟨h3, h4⟩ := ba h3
  obtain ⟨h4, h5⟩ := ba h4
  exact ⟨fc_cls c (by decide +kernel), He.eqO_ok h1, He.eqO_ok h2, of_decide_eq_true h3, of_decide_eq_true h4, of_decide_eq_true h5⟩
theorem f_nil (c : SaysZ fa fn ts tf ex w h K) (H : Hp) : SqT K H (a0K K) [] := by
  have e := fc_ex c 4
  have e : etB K (a0K K) = true := e
  unfold etB at e
  split at e
  · rename_i cc od its n sl q
    obtain ⟨h1, h2⟩ := ba e
    have ei : its = #[] := Array.isEmpty_iff.mp h2
    subst ei
    exact .inr ⟨_, #[], n, q, congrArg Value.type (of_decide_eq_true h1), rfl, Nat.zero_le _, .nil⟩
  · cases e
theorem f_mkd (X : K.In h) (G : h.Ns mainGlobals mg) (c : SaysZ fa fn ts tf ex w h K) : MakD K mg (ga K "Looks") (a0K K) := by
  obtain ⟨fd, F⟩ := says_def c.a (d := lsD) List.mem_cons_self
  exact ⟨⟨ma K (ga K "Looks") "__init__", fd, F, fc_mkr c (by decide +kernel), fc_cg X G c (by decide +kernel)⟩, f_nil c⟩
theorem f_mk (X : K.In h) (G : h.Ns mainGlobals mg) (c : SaysZ fa fn ts tf ex w h K) : MkTx K w mg (ga K "MARKS") := by
  obtain ⟨es, n, D⟩ := c.tab 0
  have v := fc_ex c 5
  have g : ∀ q : Str × Dv, q ∈ ([("surely", .str "+"), ("never", .str "-"), ("perhaps", .str "?")] : List (Str × Dv)) → KDct K w (ga K "MARKS") q.1 (q.2.v K) := fun q hq => by
    obtain ⟨u, h1, h2⟩ := He.valsB_ok v hq
    exact ⟨es, n, u, D.at_, D.lit, h1, h2⟩
  exact ⟨⟨_, He.glo_ok X G (fc_0 c 4), rfl⟩, g ("surely", .str "+") (.head _), g ("never", .str "-") (.tail _ (.head _)), g ("perhaps", .str "?") (.tail _ (.tail _ (.head _)))⟩
theorem f_wd (X : K.In h) (G : h.Ns mainGlobals mg) (c : SaysZ fa fn ts tf ex w h K) : WdTx K mg (ga K "WORDS") :=
  ⟨⟨_, He.glo_ok X G (fc_0 c 5), rfl⟩, fun H => He.tupB_ok (fc_ex c 6) H⟩
theorem f_ix1 (X : K.In h) (G : h.Ns mainGlobals mg) (c : SaysZ fa fn ts tf ex w h K) {x qual : Str} {st : Stmt} {fd : FuncData} (hx : x ∈ sortL) (e : ixB1 K x = true) (F : L2.Fun K "__init__" qual st (ma K (ga K x) "__init__") fd)
    {p1 p2 q1 q2 q3 q4 : Pos} (ea : defArgs st = PySem.MhE.ixA p1 p2) (eb : defBody st = PySem.MhE.ixB q1 q2 q3 q4) (es : defScope st = PySem.MhE.ixS) : PySem.MhE.IxT K mg x qual (ga K x) (ma K (ga K x) "__init__") := by
  obtain ⟨h1, h2⟩ := ba e
  obtain ⟨h2, h3⟩ := ba h2
  obtain ⟨h3, h4⟩ := ba h3
  obtain ⟨h4, h5⟩ := ba h4
  obtain ⟨h5, h6⟩ := ba h5
  obtain ⟨h6, h7⟩ := ba h6
  obtain ⟨h7, h8⟩ := ba h7
  obtain ⟨h8, h9⟩ := ba h8
  obtain ⟨h9, h10⟩ := ba h9
  obtain ⟨h10, h11⟩ := ba h10
  obtain ⟨h11, h12⟩ := ba h11
  obtain ⟨oc, od, kV, doc, pm, an, cdv, ct, osl, rfl, lk, hcd⟩ := F.ex
  rw [ea, eb, es] at lk
  exact ⟨fc_sort X G c hx, h1, h2, He.eqO_ok h3, He.eqO_ok h4, He.eqO_ok h5, He.eqO_ok h6, He.eqO_ok h7, of_decide_eq_true h8, h9, of_decide_eq_true h10, of_decide_eq_true h11, h12,
    oc, od, doc, pm, an, cdv, ct, osl, p1, p2, q1, q2, q3, q4, kV, lk, hcd⟩
theorem f_ixC (X : K.In h) (G : h.Ns mainGlobals mg) (c : SaysZ fa fn ts tf ex w h K) : PySem.MhE.IxT K mg "Clash" "Clash.__init__" (ga K "Clash") (ma K (ga K "Clash") "__init__") := by
  obtain ⟨fd, F⟩ := in_ c 2
  exact f_ix1 X G c (by decide +kernel) (fc_ex c 7) F rfl rfl rfl
theorem f_ixB (X : K.In h) (G : h.Ns mainGlobals mg) (c : SaysZ fa fn ts tf ex w h K) : PySem.MhE.IxT K mg "Broken" "Broken.__init__" (ga K "Broken") (ma K (ga K "Broken") "__init__") := by
  obtain ⟨fd, F⟩ := in_ c 3
  exact f_ix1 X G c (by decide +kernel) (fc_ex c 8) F rfl rfl rfl
theorem f_sortTx (X : K.In h) (G : h.Ns mainGlobals mg) (c : SaysZ fa fn ts tf ex w h K) : SortTx mg (cK K) := by
  refine ⟨fun i n e => ?_⟩
  have e2 : sortL[i]? = some n := e
  unfold cK
  rw [e2]
  exact fc_sort X G c (List.mem_of_getElem? e2)
theorem f_sort {x qual : Str} {k : Nat} {f : Addr} (I : PySem.MhE.IxT K mg x qual (ga K x) f) (hk : k = 20 ∨ k = 21) (hx : ga K x = cK K k) (e2 : ixB2 K x = true) (e3 : sortB K x k = true) :
    SortD K (cK K) (ga K x) k ∧ PySem.W.exmAny K (.ref (ga K x)) [.ref (cK K 23), .ref (cK K 24), .ref (cK K 25)] = some true := by
  obtain ⟨a1, a2⟩ := ba e2
  obtain ⟨a2, a3⟩ := ba a2
  obtain ⟨a3, a4⟩ := ba a3
  obtain ⟨s1, s2⟩ := ba e3
  obtain ⟨s2, s3⟩ := ba s2
  obtain ⟨s3, s4⟩ := ba s3
  obtain ⟨s4, s5⟩ := ba s4
  obtain ⟨s5, s6⟩ := ba s5
  obtain ⟨s6, s7⟩ := ba s6
  obtain ⟨s7, s8⟩ := ba s7
  exact ⟨⟨hx, hk, fun i hi => of_decide_eq_true (List.all_eq_true.mp s1 i (List.mem_range.mpr hi)), of_decide_eq_true s2, of_decide_eq_true s3, of_decide_eq_true s4, of_decide_eq_true s5, of_decide_eq_true s6, of_decide_eq_true s7,
    ⟨I.ga, I.gg, I.exC, I.hdC, He.eqO_ok a1, He.eqO_ok a2, of_decide_eq_true a3, of_decide_eq_true a4⟩, ⟨I.ga, I.gg, I.exC, I.hdC⟩, I.noN⟩, of_decide_eq_true s8⟩
theorem f_tabs (c : SaysZ fa fn ts tf ex w h K) : (He.cT K ("_law_right", none)).2 ≠ (He.cT K ("_law_forgotten", none)).2 := by
  have e := fc_ex c 13
  intro z
  have e2 : (!decide ((He.cT K ("_law_right", none)).2 = (He.cT K ("_law_forgotten", none)).2)) = true := e
  rw [decide_eq_true z] at e2
  cases e2
end
end MhHd
end
section
set_option Elab.async false
set_option linter.all false
set_option maxRecDepth 100000
set_option maxHeartbeats 4000000
/-! MhHc: every def keeps its promise; the law's. -/
namespace MhHd
open PySem PySem.Spec PyProof.Rows L2 MhX Mh
open C8 (Cal Mak Met)
open He (Fa Dv Defn Tab ga ma ba frT asD tabsB dicW keysIn eqO)
def TsK (K : PySem.W.Frag) : List (Addr × Str) := [((He.cT K ("_law_right", none)).2, "_law_right.<locals>.<lambda>"), ((He.cT K ("_law_forgotten", none)).2, "_law_forgotten.<locals>.<lambda>")]
theorem chain {P : Program} {w : World} {K : PySem.W.Frag} {mg : Str → Option Value} {base h : Heap} {f : Addr} {fd : FuncData} (X : K.In h) (G : h.Ns mainGlobals mg) (c : SaysZ fa fn ts tf ex w h K) (F : L2.Fun K "law" "law" (fnd 99) f fd)
    (TB : ∀ p ∈ tf.map (He.cT K), LamX.TabB base mg p.1 p.2) : FnG P w K mg base 19 f fd ["_law_cells"] (spLaw K (TsK K)) := by
  have T := f_tx X G c
  have L := f_lk X G c
  have LS := f_ls (mg := mg) c
  have BT := f_bk (mg := mg) c
  have LI := f_ins c
  have M := f_mk X G c
  have W := f_wd X G c
  have IC := f_ixC X G c
  have IB := f_ixB X G c
  have ST := f_sortTx X G c
  obtain ⟨SC, xC⟩ := f_sort IC (.inl rfl) rfl (fc_ex c 9) (fc_ex c 11)
  obtain ⟨SB, xB⟩ := f_sort IB (.inr rfl) rfl (fc_ex c 10) (fc_ex c 12)
  have is_part := d_is_part (P := P) (w := w) (base := base) T (df_g X G c (p := ("is_part", 32, 502)) (by decide +kernel))
  have less := d_less (P := P) (w := w) (base := base) T (df_g X G c (p := ("less", 33, 507)) (by decide +kernel))
  have is_natural := d_is_natural (P := P) (w := w) (base := base) T (df_g X G c (p := ("is_natural", 37, 514)) (by decide +kernel))
  have is_index := d_is_index (P := P) (w := w) (base := base) T (df_g X G c (p := ("is_index", 38, 521)) (by decide +kernel)) is_natural
  have is_name := d_is_name (P := P) (w := w) (base := base) T (df_g X G c (p := ("is_name", 39, 526)) (by decide +kernel))
  have wrong_place := d_wrong_place (P := P) (w := w) (base := base) T (df_g X G c (p := ("wrong_place", 40, 533)) (by decide +kernel))
  have wrong_names := d_wrong_names (P := P) (w := w) (base := base) T (df_g X G c (p := ("wrong_names", 41, 540)) (by decide +kernel)) is_name
  have check_menu := d_check_menu (P := P) (w := w) (base := base) T (df_g X G c (p := ("check_menu", 42, 547)) (by decide +kernel)) wrong_place
  have check_things := d_check_things (P := P) (w := w) (base := base) T (df_g X G c (p := ("check_things", 44, 561)) (by decide +kernel)) wrong_names
  have check_names := d_check_names (P := P) (w := w) (base := base) T (df_g X G c (p := ("check_names", 64, 799)) (by decide +kernel)) wrong_names
  have is_thing := d_is_thing (P := P) (w := w) (base := base) T (df_g X G c (p := ("is_thing", 45, 568)) (by decide +kernel))
  have check_thing := d_check_thing (P := P) (w := w) (base := base) T (df_g X G c (p := ("check_thing", 46, 575)) (by decide +kernel)) is_thing
  have bits_of := d_bits_of (P := P) (w := w) (base := base) T (df_g X G c (p := ("bits_of", 52, 738)) (by decide +kernel))
  have things_of := d_things_of (P := P) (w := w) (base := base) T (df_g X G c (p := ("things_of", 53, 743)) (by decide +kernel))
  have let_row := d_let_row (P := P) (w := w) (base := base) T (df_g X G c (p := ("let_row", 54, 748)) (by decide +kernel)) bits_of things_of
  have taken := p_taken (P := P) (w := w) (base := base) T L (pr_ c 0)
  have passed := p_passed (P := P) (w := w) (base := base) T L (pr_ c 1)
  have pairs_of := d_pairs_of (P := P) (w := w) (base := base) T L (df_g X G c (p := ("pairs_of", 55, 753)) (by decide +kernel)) passed
  have needs_of := d_needs_of (P := P) (w := w) (base := base) T L (df_g X G c (p := ("needs_of", 56, 758)) (by decide +kernel)) taken
  have sharpened := d_sharpened (P := P) (w := w) (base := base) T L (df_g X G c (p := ("sharpened", 57, 765)) (by decide +kernel)) pairs_of less
  have are_fit := d_are_fit (P := P) (w := w) (base := base) T (df_g X G c (p := ("are_fit", 58, 772)) (by decide +kernel)) needs_of sharpened let_row
  have is_never := d_is_never (P := P) (w := w) (base := base) T (df_g X G c (p := ("is_never", 59, 779)) (by decide +kernel)) pairs_of less let_row
  have is_sure := d_is_sure (P := P) (w := w) (base := base) T (df_g X G c (p := ("is_sure", 60, 786)) (by decide +kernel)) needs_of sharpened let_row
  have are_marks := d_are_marks (P := P) (w := w) (base := base) T (df_g X G c (p := ("are_marks", 63, 792)) (by decide +kernel))
  obtain ⟨fd0, F0⟩ := in_ c 0
  obtain ⟨fd1, F1⟩ := in_ c 1
  have DL : MakF K mg "Look" (ga K "Look") "Look.__init__" (met 65 0) := ⟨_, fd0, F0, fc_mkr c (by decide +kernel), fc_cg X G c (by decide +kernel)⟩
  have DK : MakF K mg "Book" (ga K "Book") "Book.__init__" (met 73 0) := ⟨_, fd1, F1, fc_mkr c (by decide +kernel), fc_cg X G c (by decide +kernel)⟩
  have kLook := k_look (P := P) (w := w) (base := base) T L DL check_names are_marks
  have gLook := s_look_get (P := P) (w := w) (base := base) T L (sp_ c 0 0)
  have sLook := s_look_str (P := P) (w := w) (base := base) T L (sp_ c 1 1)
  have check_look := d_check_look (P := P) (w := w) (base := base) T L LI (df_g X G c (p := ("check_look", 67, 916)) (by decide +kernel))
  have wrong_look := d_wrong_look (P := P) (w := w) (base := base) T L LI (df_g X G c (p := ("wrong_look", 68, 923)) (by decide +kernel)) is_part
  obtain ⟨kLooks, kLooks1⟩ := k_Looks (P := P) (w := w) (base := base) T LS (f_mkd X G c) check_things wrong_look
  have pThings := p_Looks_things (P := P) (w := w) (base := base)  T LS (pr_ c 2)
  have pLooks := p_Looks_looks (P := P) (w := w) (base := base) T LS (pr_ c 3)
  have pFit := p_fit (P := P) (w := w) (base := base) T LS (pr_ c 4) are_fit
  have mFit := m_check_fit (P := P) (w := w) (base := base) T LS (mt_ c 4 2) pFit
  have mWord := m_word_of (P := P) (w := w) (base := base) T LS (mt_ c 5 3) is_never is_sure
  have mLook := m_look (P := P) (w := w) (base := base) T LS M (mt_ c 6 4) check_menu mFit mWord kLook
  have mSeen := m_and_seen (P := P) (w := w) (base := base) T LS (mt_ c 2 0) kLooks
  have mWithout := m_without (P := P) (w := w) (base := base) T LS (mt_ c 3 1) kLooks is_index
  have check_promises := d_check_promises (P := P) (w := w) (base := base) T LS (df_g X G c (p := ("check_promises", 72, 1070)) (by decide +kernel)) IB mWord
  have kBook := k_Book (P := P) (w := w) (base := base) T BT (f_nil c) DK kLooks1
  have bThings := p_Book_things (P := P) (w := w) (base := base) (C := ga K "Look") T BT (pr_ c 5) pThings
  have bLooks := p_Book_looks (P := P) (w := w) (base := base) (CL := ga K "Looks") (C := ga K "Look") T BT (pr_ c 6)
  have bPromises := p_Book_promises (P := P) (w := w) (base := base) (CL := ga K "Looks") (C := ga K "Look") T BT (pr_ c 7)
  have bChanges := p_Book_changes (P := P) (w := w) (base := base) (CL := ga K "Looks") (C := ga K "Look") T BT (pr_ c 8)
  have bLen := s_Book_len (P := P) (w := w) (base := base) (C := ga K "Look") T BT (sp_ c 7 2) pLooks
  have bBool := s_Book_bool (P := P) (w := w) (base := base) (mg := mg) (sp_ c 8 3)
  have bGet := s_Book_get (P := P) (w := w) (base := base) T BT (sp_ c 9 4) mLook
  have mChange := m_change (P := P) (w := w) (base := base) T BT (mt_ c 10 5) check_promises
  have mPut := m_put (P := P) (w := w) (base := base) T LS BT (mt_ c 11 6) IC pLooks pFit mSeen mChange
  have mSee := m_see (P := P) (w := w) (base := base) T L BT (mt_ c 12 7) check_look check_thing pThings mPut
  have mForget := m_forget (P := P) (w := w) (base := base) T LS BT (mt_ c 13 8) is_index pLooks mWithout mChange
  have mPromise := m_promise (P := P) (w := w) (base := base) T W BT (mt_ c 14 9) check_menu check_thing pThings mChange
  have l_urn := d_urn (P := P) (w := w) (base := base) T (df_l X G c (p := ("_law_urn", 75, 1228)) (by decide +kernel)) 
  have l_draw := d_draw (P := P) (w := w) (base := base) T (df_l X G c (p := ("_law_draw", 76, 1235)) (by decide +kernel)) 
  have l_name := d_name (P := P) (w := w) (base := base) T (df_l X G c (p := ("_law_name", 77, 1242)) (by decide +kernel)) l_draw
  have l_names := d_names (P := P) (w := w) (base := base) T (df_l X G c (p := ("_law_names", 78, 1247)) (by decide +kernel)) l_draw l_name
  have l_shuffled := d_shuffled (P := P) (w := w) (base := base) T (df_l X G c (p := ("_law_shuffled", 79, 1252)) (by decide +kernel)) l_draw
  have l_menu := d_menu (P := P) (w := w) (base := base) T (df_l X G c (p := ("_law_menu", 80, 1257)) (by decide +kernel)) l_draw
  have l_best := d_best (P := P) (w := w) (base := base) T (df_l X G c (p := ("_law_best", 81, 1262)) (by decide +kernel)) 
  have l_takes := d_takes (P := P) (w := w) (base := base) T (df_l X G c (p := ("_law_takes", 82, 1267)) (by decide +kernel)) l_best
  have l_look := d_llook (P := P) (w := w) (base := base) T (df_l X G c (p := ("_law_look", 83, 1272)) (by decide +kernel)) l_draw l_menu l_takes
  have l_text := d_text (P := P) (w := w) (base := base) T (df_l X G c (p := ("_law_text", 84, 1277)) (by decide +kernel)) 
  have l_bars := d_bars (P := P) (w := w) (base := base) T (df_l X G c (p := ("_law_bars", 88, 1303)) (by decide +kernel)) 
  have l_wants := d_wants (P := P) (w := w) (base := base) T (df_l X G c (p := ("_law_wants", 89, 1310)) (by decide +kernel)) 
  have l_left := d_left (P := P) (w := w) (base := base) T (df_l X G c (p := ("_law_left", 90, 1315)) (by decide +kernel)) 
  have l_fit := d_fit (P := P) (w := w) (base := base) T (df_l X G c (p := ("_law_fit", 91, 1320)) (by decide +kernel)) l_bars l_wants l_left
  have l_told := d_told (P := P) (w := w) (base := base) T (df_l X G c (p := ("_law_told", 92, 1325)) (by decide +kernel)) l_bars l_wants l_left
  have l_first := d_first (P := P) (w := w) (base := base) T (df_l X G c (p := ("_law_first", 94, 1337)) (by decide +kernel)) l_told
  have l_due := d_due (P := P) (w := w) (base := base) T (df_l X G c (p := ("_law_due", 95, 1344)) (by decide +kernel)) l_fit l_first
  have l_sort := d_sort (P := P) (w := w) (base := base) T ST (df_l X G c (p := ("_law_sort", 85, 1284)) (by decide +kernel))
  have l_field := d_field (P := P) (w := w) (base := base) (c := cK K) T (df_l X G c (p := ("_law_field", 86, 1291)) (by decide +kernel))
  have l_shot := d_shot (P := P) (w := w) (base := base) T (df_l X G c (p := ("_law_shot", 93, 1330)) (by decide +kernel)) pLooks bThings bLooks bPromises bChanges sLook bLen bBool
  have l_is := d_is (P := P) (w := w) (base := base) T (df_l X G c (p := ("_law_is", 96, 1349)) (by decide +kernel)) l_text l_shot bLen bGet gLook
  have mT1 : ((He.cT K ("_law_forgotten", none)).2, ("_law_forgotten.<locals>.<lambda>" : Str)) ∈ TsK K := .tail _ (.head _)
  have mT0 : ((He.cT K ("_law_right", none)).2, ("_law_right.<locals>.<lambda>" : Str)) ∈ TsK K := .head _
  have mU1 : ∀ p ∈ TsK K, p.1 = (He.cT K ("_law_forgotten", none)).2 → p.2 = ("_law_forgotten.<locals>.<lambda>" : Str) := fun p hp e => by
    rcases List.mem_cons.mp hp with q | q
    · rw [q] at e
      exact absurd e (f_tabs c)
    · rw [List.mem_singleton.mp q]
  have mU0 : ∀ p ∈ TsK K, p.1 = (He.cT K ("_law_right", none)).2 → p.2 = ("_law_right.<locals>.<lambda>" : Str) := fun p hp e => by
    rcases List.mem_cons.mp hp with q | q
    · rw [q]
    · rw [List.mem_singleton.mp q] at e
      exact absurd e.symm (f_tabs c)
  have TB0 := TB (He.cT K ("_law_right", none)) (.head _)
  have TB1 := TB (He.cT K ("_law_forgotten", none)) (.tail _ (.head _))
  have l_forgotten := d_forgotten (P := P) (w := w) (base := base) T ST SB xB (df_c X G c (p := ("_law_forgotten", 97, 1356)) (by decide +kernel)) (df_l X G c (p := ("_law_caught", 87, 1298)) (by decide +kernel)) TB1 mT1 mU1 l_sort l_field l_due l_is mForget
  have l_right := d_right (P := P) (w := w) (base := base) T ST SB SC xB xC (df_c X G c (p := ("_law_right", 98, 1361)) (by decide +kernel)) (df_l X G c (p := ("_law_caught", 87, 1298)) (by decide +kernel)) TB0 mT0 mU0 l_sort l_field l_draw l_names l_shuffled l_menu l_look l_told l_due l_is l_forgotten kBook kLook mSee mPromise bChanges
  exact d_law T F l_urn l_right
end MhHd
end
section
set_option Elab.async false
set_option linter.all false
set_option maxRecDepth 100000
set_option maxHeartbeats 0
/-! MhZ: the end. -/
namespace MhHd
open PySem PySem.Spec PyProof.Rows L2 MhX Mh
open He (Fa Dv Defn Tab ga ma ba frT asD tabsB dicW keysIn eqO)
theorem law_at {w : World} {K : PySem.W.Frag} {mg : Str → Option Value} {h : Heap} {a : Addr} (X : K.In h) (G : h.Ns mainGlobals mg) (c : SaysZ fa fn ts tf ex w h K) (ha : mg ("law" : Str) = some (.ref a)) :
    LawG PySem.Challenge.rw_menuhouses_k90_whole_promises_of_many_th w K 19 63 "_law_cells" mg a h := by
  obtain ⟨fd, F⟩ := says_def c.a (d := gD ("law", 99, 1366)) (List.mem_cons_of_mem _ (List.mem_append_left _ (List.mem_append_left _ (List.mem_append_left _ (List.mem_append_right _ (List.mem_map.mpr ⟨("law", 99, 1366), by decide +kernel, rfl⟩))))))
  have e := ha.symm.trans (fc_ld X G c (p := ("law", 99, 1366)) (by decide +kernel))
  have e2 : ga K ("law" : Str) = 1366 := at_g c (p := ("law", 99, 1366)) (by decide +kernel)
  have e3 : a = 1366 := (Value.ref.inj (Option.some.inj e)).trans e2
  subst e3
  have b := FunD.bindsA (ps := ["_law_cells"]) F fun _ _ _ _ _ _ us hl => match us, hl with | [_], _ => rfl
  refine ⟨fd, tf.map (He.cT K), spLaw K (TsK K), fun p hp => ?_, fun p hp => ?_, fun p hp => ?_, fun s v => b s [v] rfl, fun H a ns hl hT hS => ?_, fun bs _ _ TB => chain X G c (He5.fun_of F) TB⟩
  · obtain ⟨q, hq, rfl⟩ := List.mem_map.mp hp
    exact c.empty q hq
  · obtain ⟨q, hq, rfl⟩ := List.mem_map.mp hp
    exact c.out q hq
  · obtain ⟨q, hq, rfl⟩ := List.mem_map.mp hp
    exact PySem.W.codeHd_of_K X (c.hd q hq)
  · refine ⟨a, ns, rfl, hS, Nat.le_trans hl (by decide), fun p hp => ?_, fun _ => rfl⟩
    rcases List.mem_cons.mp hp with q | q
    · rw [q]
      exact LamX.TabS.nil (hT (He.cT K ("_law_right", none)) (.head _))
    · rw [List.mem_singleton.mp q]
      exact LamX.TabS.nil (hT (He.cT K ("_law_forgotten", none)) (.tail _ (.head _)))
end MhHd
open PySem PySem.W PySem.Calls PyProof.Rows
theorem PySem.Challenge.cw_menuhouses_k90_whole_promises_of_many_th_holds : PySem.Challenge.rw_menuhouses_k90_whole_promises_of_many_th.Holds := by
  w_on; o_law
  refine HandSHeadRun.head_any (r := OpenLaw.row PySem.Challenge.rw_menuhouses_k90_whole_promises_of_many_th) (q := MhHd.qv) (H := MhHd.hk) (ob := MhHd.ob) (M := 20000) (loose := MhHd.names) (d := HandSHeadRun.topDef (OpenLaw.row PySem.Challenge.rw_menuhouses_k90_whole_promises_of_many_th).prog 99) (kwd := []) MhHd.ob_eq
    (by kernel_rfl) (fun s => by kernel_rfl) MhHd.run (by kernel_rfl) (by kernel_rfl) (by kernel_rfl) (by rfl) (by first | assumption | decide +kernel) (by decide +kernel) ⟨rfl, rfl, rfl, rfl, rfl, by decide +kernel⟩ ?hw ?hc
  case hw => w_witness2
  case hc =>
    refine MhX.walkG (l := PySem.Challenge.rw_menuhouses_k90_whole_promises_of_many_th) (n := 63) (k := 19) (x := "_law_cells") rfl (by decide) (by kernel_rfl) ⟨rfl, by decide, by decide⟩ ?F
    intro w mg fa h Y G hmg0
    obtain ⟨K, KX, c⟩ := Y
    have hmg : mg ("law" : PySem.Str) = some (.ref fa) := by
      have e : (HandSHeadRun.topDef (OpenLaw.row PySem.Challenge.rw_menuhouses_k90_whole_promises_of_many_th).prog 99).name = ("law" : PySem.Str) := by kernel_rfl
      rw [← e]
      exact hmg0
    exact ⟨K, KX, MhHd.law_at KX G c hmg⟩
end
