import PyProof.Rows.All
import Wide.All
import OpenK.AllK
import Wide.FinOn
import KE.KStateDown
import KE.SortData
import KE.KCallOwn
import KE.KExcSuper
import HandS.ForMost
import HandS.ForExc
import HandS.Codes
import HandS.More
import HandS.Star
import HandS.Property
import HandS.Flow
import HandS.Zip
import HandS.Conv
import HandS.DictComp
import HandS.SetKeys
import HandS.Strs
import HandS.IsInst
import HandS.Wide
import HandS.WideMore
import HandS.TupAny
import HandS.Defaults
import HandS.ExcInit
import HandS.ExcIs
import HandS.ExcField
import HandS.Lambda
import HandS.TryOnly
import PySem.Challenge.RW_rowclash_k15_whole_keys_renamed
import KE.KNest
import KE.KNestM
import HandS.Ends
import HandS.EndBits
import HandS.EndTab
import HandS.CallRecv
import HandS.HeadWalk
import HandS.Head0
import HandS.Head1
import HandS.Head2
import HandS.HeadEnd
import HandS.HeadHook1
import HandS.HeadHook2
import HandS.HeadHook3
import HandS.HeadHook4
import HandS.Walk
import HandS.HotCalls
import HandS.Style
import HandS.SetFor
section
set_option Elab.async false
set_option linter.all false
set_option maxRecDepth 100000
set_option maxHeartbeats 4000000
/-! The text by places. -/
namespace RcX
open PySem PySem.Spec PyProof.Rows L2
def topS (i : Nat) : Stmt := PySem.Challenge.pw_rowclash_k15_whole_keys_renamed.main.body.getD i (.Pass ⟨0, 0, 0, 0⟩)
abbrev inC (i j : Nat) : Stmt := inClass (topS i) j
def Big : Int := 10 ^ 30
def excNames : List Str := ["NotRow", "NotTable", "NotKey", "NotKeys", "NotRows", "NotOrder", "NotRule", "NotInteger", "NotScan", "NotBound", "NotFormula", "NotDeed", "NotText", "NotBytes", "NotLine", "Missing", "Impossible", "TooLarge", "NothingDone", "Twice", "Held", "TooMany", "Competing", "Ringed", "Collision"]
end RcX
end
section
set_option Elab.async false
set_option linter.all false
set_option maxRecDepth 100000
set_option maxHeartbeats 0
namespace RcX
open PySem PySem.Spec PyProof.Rows L2
/-! ### the head: what is read of the top's end -/
structure DefA where
  at_ : PySem.W.Frag → Addr
  name : Str
  qual : Str
  st : Stmt
  clo : List Str := []
abbrev FnY : Type := Option (Str × Str × Arguments × FuncBody × Scope × Addr × List Str × Addr)
def seeY (K : PySem.W.Frag) (a : Addr) : FnY := match K.lookup a with
  | some ⟨_, _, .func fd, _⟩ => some (fd.name, fd.qualname, fd.params, fd.body, fd.scope, fd.globals, fd.closure.map (·.1), fd.builtins)
  | _ => none
def DefA.said (d : DefA) : FnY := some (d.name, d.qual, defArgs d.st, .stmts (defBody d.st), defScope d.st, mainGlobals, d.clo, builtinsNs)
def isNone : Value → Bool
  | .none => true
  | _ => false
def goodY (K : PySem.W.Frag) (a : Addr) (q : Str) : Bool := match K.lookup a with
  | some ⟨_, _, .func fd, _⟩ => PySem.W.codeIn K fd.code q && isNone fd.defaults
  | _ => false
def DefA.good (K : PySem.W.Frag) (d : DefA) : Bool := PySem.W.keepIn K (.ref (d.at_ K)) && goodY K (d.at_ K) d.qual
def getter (K : PySem.W.Frag) (p : Addr) (t : String) : Addr := match PySem.W.recIn K p t with
  | some (.ref g :: _) => g
  | _ => 0
def hasGet (K : PySem.W.Frag) (p : Addr) (t : String) : Bool := match PySem.W.recIn K p t with
  | some (.ref _ :: _) => true
  | _ => false
open He (ga ma eqO ba)
def gl0 : List (Str × Nat) := [("is_integer", 31), ("is_key", 32), ("is_row", 33), ("checked_rows", 35), ("more_rows", 36), ("keys_of", 38), ("need_table", 39), ("need_row", 40), ("is_order", 43), ("need_order", 44), ("waited", 46), ("path_of", 47), ("end_of", 48), ("path", 49), ("rings_of", 50), ("rings", 51), ("by_new", 52), ("groups_of", 53), ("groups", 54), ("trees_of", 55), ("trees", 56), ("waiting_for", 57), ("need_no_pair", 59), ("need_no_ring", 60), ("ready", 61)]
def gl1 : List (Str × Nat) := [("first_order", 62), ("verdict", 63), ("is_free_of", 64), ("factorial", 65), ("chains_of", 66), ("orders_of", 67), ("passing_orders", 68), ("fits_at_end", 69), ("stages", 70), ("holder_of", 74), ("_law_cell_at", 86), ("_law_pen", 87), ("_law_draw", 88), ("_law_pick", 89), ("_law_mixed", 90), ("_law_pairs", 91), ("_law_word", 92), ("_law_said", 93), ("_law_named", 94), ("_law_names", 95), ("_law_told", 96), ("law", 97)]
def hgl : List (Str × Nat) := gl0 ++ gl1
def ml : List (Str × Str × Str × Stmt) := [("Table", "__contains__", "Table.__contains__", inC 37 4), ("Table", "__getitem__", "Table.__getitem__", inC 37 2), ("Table", "__len__", "Table.__len__", inC 37 6), ("Table", "__add__", "Table.__add__", inC 37 9), ("Table", "__init__", "Table.__init__", inC 37 0), ("Outcome", "__init__", "Outcome.__init__", inC 72 0), ("Abort", "halts", "Stops.halts", inC 76 0), ("Abort", "settle", "Undoes.settle", inC 78 0), ("Abort", "__call__", "Rule.__call__", inC 75 4), ("Fail", "halts", "Stops.halts", inC 76 0), ("Fail", "settle", "Leaves.settle", inC 79 0), ("Fail", "__call__", "Rule.__call__", inC 75 4), ("Ignore", "halts", "Continues.halts", inC 77 0), ("Ignore", "settle", "Leaves.settle", inC 79 0), ("Ignore", "__call__", "Rule.__call__", inC 75 4), ("Replace", "halts", "Continues.halts", inC 77 0), ("Replace", "settle", "Removes.settle", inC 80 0), ("Replace", "__call__", "Rule.__call__", inC 75 4)]
def pl : List (Str × Str × Str × Stmt) := [("Table", "rows", "Table.rows", inC 37 1), ("Outcome", "stop", "Outcome.stop", inC 72 2), ("Outcome", "ends", "Outcome.ends", inC 72 3), ("Outcome", "moved", "Outcome.moved", inC 72 4), ("Outcome", "left", "Outcome.left", inC 72 5), ("Outcome", "held", "Outcome.held", inC 72 6)]
def frees : List (Str) := ["isinstance", "int", "bool", "tuple", "list", "len", "all", "sorted", "min", "max", "range", "enumerate", "set", "str", "super", "ValueError"]

def fnG : List DefA := hgl.map fun r => ⟨fun K => ga K r.1, r.1, r.1, topS r.2, []⟩
def fnM : List DefA := ml.map fun r => ⟨fun K => ma K (ga K r.1) r.2.1, r.2.1, r.2.2.1, r.2.2.2, []⟩
def fnP : List DefA := pl.map fun r => ⟨fun K => getter K (ma K (ga K r.1) r.2.1) "property", r.2.1, r.2.2.1, r.2.2.2, []⟩
def dNamed : DefA := ⟨fun K => getter K (ma K (ga K "Rule") "named") "staticmethod", "named", "Rule.named", inC 75 1, []⟩
def dComp : DefA := ⟨fun K => ma K (ga K "Competing") "__init__", "__init__", "Competing.__init__", inC 25 0, ["__class__"]⟩
def dRing : DefA := ⟨fun K => ma K (ga K "Ringed") "__init__", "__init__", "Ringed.__init__", inC 26 0, ["__class__"]⟩
def fnY : List DefA := fnG ++ (fnM ++ (fnP ++ [dNamed]))
def fnZ : List DefA := [dComp, dRing]
/-! the Bools -/
def ownB (K : PySem.W.Frag) (C : Addr) (m : Str) : Bool := eqO (PySem.W.findIn K (.ref C) m) (some (some (.ref (ma K C m)))) && (PySem.W.isFn K (.ref (ma K C m)) && PySem.W.fnIn K (ma K C m))
def propB (K : PySem.W.Frag) (C : Addr) (f : Str) : Bool := eqO (PySem.W.findIn K (.ref C) f) (some (some (.ref (ma K C f)))) && (eqO (PySem.W.specialIn K (.ref (ma K C f)) "__get__") (some (some (.builtin "property.__get__"))) && (decide (PySem.W.takesIn K (.ref (ma K C f)) = some true) && hasGet K (ma K C f) "property"))
def clsAB (K : PySem.W.Frag) (C : Addr) : Bool := eqO (PySem.W.findIn K (.ref C) "__class__") (some (some (.builtin "object.__class__"))) && (eqO (PySem.W.specialIn K (.builtin "object.__class__") "__get__") (some (some (.builtin "getset_descriptor.__get__"))) &&
  (decide (PySem.W.takesIn K (.builtin "object.__class__") = some true) && decide (PySem.W.mroIn K C (.type "object") = some true)))
def bareB (K : PySem.W.Frag) (C : Addr) : Bool := PySem.W.makesIn K C && (eqO (PySem.W.findIn K (.ref C) "__init__") (some (some (.builtin "object.__init__"))) && PySem.W.keepIn K (.ref C))
def fndB (r : Option PySem.W.CFound) (q C : Addr) : Bool := match r with
  | some (.get (.builtin s) (.ref q') .none (.ref C')) => decide (s = "staticmethod.__get__") && (decide (q' = q) && decide (C' = C))
  | _ => false
def statB (K : PySem.W.Frag) (C : Addr) (m : Str) : Bool := eqO (PySem.W.specialIn K (.ref C) "__getattribute__") (some (some (.builtin "type.__getattribute__"))) && (decide (PySem.W.typeIn K (.ref C) = some (.type "type")) && (PySem.W.readsIn K C (.type "type") &&
  (fndB (PySem.W.findCls K (.ref C) (.type "type") m) (ma K C m) C && hasGet K (ma K C m) "staticmethod")))
def oexB (K : PySem.W.Frag) (C : Addr) : Bool := match K.lookup C with
  | some ⟨.type t, _, .cls cd, sl⟩ => decide (t = "type") && (match cd.mro, sl.toList with
    | .ref C' :: bm, [_, _, _, _, some (.builtin n), _] => decide (C' = C) && (decide (n = "ValueError.__new__") && (cd.hasDict && (!cd.hasDel && PySem.HandSPX.refsVE bm)))
    | _, _ => false)
  | _ => false
def oexB2 (K : PySem.W.Frag) (C : Addr) : Bool := eqO (PySem.W.findIn K (.ref C) "__setattr__") (some (some (.builtin "object.__setattr__"))) && (decide (PySem.W.subIn K (.ref C) (.type "BaseException") = some true) && (decide (PySem.W.typeIn K (.ref C) = some (.type "type")) && PySem.W.keepIn K (.ref C)))
def fileP : Str := PySem.Challenge.pw_rowclash_k15_whole_keys_renamed.main.file
def cloB2 (K : PySem.W.Frag) (cd : Value) (cl : List (Str × Addr)) (C : Addr) (q : Str) : Bool := match cd, cl with
  | .ref cda, [(_, cc)] => PySem.W.codeIn K (.ref cda) q && ((match K.lookup cda with
    | some ⟨_, _, .fields vs, _⟩ => (match (vs[2]? : Option Value) with
      | some (.str file _) => (fileP == file)
      | _ => false)
    | _ => false) && (match K.lookup cc with
    | some ⟨_, _, .cell (some (.ref C')), _⟩ => decide (C' = C)
    | _ => false))
  | _, _ => false
def cloB (K : PySem.W.Frag) (f C : Addr) (q : Str) : Bool := match K.lookup f with
  | some ⟨_, _, .func fd, _⟩ => isNone fd.defaults && cloB2 K fd.code fd.closure C q
  | _ => false
def excKB (K : PySem.W.Frag) (C : Addr) (q f : Str) : Bool := oexB K C && (oexB2 K C && (cloB K (ma K C "__init__") C q && (eqO (PySem.W.findIn K (.ref C) "__init__") (some (some (.ref (ma K C "__init__")))) && (decide (PySem.W.typeIn K (.ref (ma K C "__init__")) = some (.type "function")) &&
  (eqO (PySem.W.ks_superIn K C C "__init__") (some (some (.builtin "ValueError.__init__"))) && (decide (PySem.W.subIn K (.ref C) (.type "ValueError") = some true) && (decide (PySem.W.mroIn K C (.ref C) = some true) && (eqO (PySem.W.nsIn K cStatics "thirdparty.any") (some none) && eqO (PySem.W.findIn K (.ref C) f) (some none)))))))))
def excCB (K : PySem.W.Frag) (D : Addr) : Bool := xfB K D && clsAB K D
def kitB27 (K : PySem.W.Frag) (D : Addr) (nm : Str) : Bool := (excNames.all fun x => decide (PySem.W.kitOne K (.ref D) (.ref (ga K x)) = some (decide (x = nm)))) && decide (PySem.W.kitOne K (.ref D) (.type "ValueError") = some true)
abbrev Fb : Type := PySem.W.Frag → Bool
def fGlo : List Fb := hgl.map fun r => fun K => (He.Fa.glo r.1).ok K
def fFree : List Fb := frees.map fun x => fun K => (He.Fa.free x).ok K
def fMeth : List Fb := ml.map fun r => fun K => ownB K (ga K r.1) r.2.1
def fProp : List Fb := pl.map fun r => fun K => propB K (ga K r.1) r.2.1
def rlNames : List Str := ["Abort", "Fail", "Ignore", "Replace"]
def clNames : List Str := ["Table", "Outcome"]
def gcNames : List Str := ["Table", "Outcome", "Rule", "RowError"]
def fCls : List Fb := (clNames ++ rlNames).map fun x => fun K => (He.Fa.cls x).ok K
def fGlC : List Fb := (gcNames ++ (rlNames ++ excNames)).map fun x => fun K => (He.Fa.glo x).ok K
def fBare : List Fb := rlNames.map fun x => fun K => bareB K (ga K x)
def fWord : List Fb := [fun K => He.conB K "Abort" "WORD" (.str "abort"), fun K => He.conB K "Fail" "WORD" (.str "fail"), fun K => He.conB K "Ignore" "WORD" (.str "ignore"), fun K => He.conB K "Replace" "WORD" (.str "replace")]
def fOne : List Fb := [fun K => (He.Fa.int "KEY_BOUND" Big).ok K, fun K => (He.Fa.int "MOST_ROWS" 40).ok K, fun K => clsAB K (ga K "Table"), fun K => decide (PySem.W.kitOne K (.ref (ga K "Table")) (.ref (ga K "Table")) = some true), fun K => (He.Fa.noat "Table" "wants").ok K,
  fun K => decide (PySem.W.kitOne K (.type "tuple") (.ref (ga K "Table")) = some false), fun K => (He.Fa.mkr "Table").ok K, fun K => PySem.W.selfFirst K (ga K "Table"), fun K => (He.Fa.mkr "Outcome").ok K, fun K => (He.Fa.noat "Outcome" "triple").ok K, fun K => statB K (ga K "Rule") "named",
  fun K => excKB K (ga K "Competing") "Competing.__init__" "pair", fun K => excKB K (ga K "Ringed") "Ringed.__init__" "ring", fun K => excCB K (ga K "Competing"), fun K => excCB K (ga K "Ringed"), fun K => kitB27 K (ga K "Competing") "Competing", fun K => kitB27 K (ga K "Ringed") "Ringed",
  fun K => (He.Fa.exm "Competing" "RowError" true).ok K, fun K => (He.Fa.exm "Ringed" "RowError" true).ok K]
def factsA : List Fb := fGlo ++ (fFree ++ (fMeth ++ fProp))
def factsB : List Fb := fCls ++ (fGlC ++ (fBare ++ (fWord ++ fOne)))
def facts : List Fb := factsA ++ factsB
/-! ### the Hook -/
def frL {α β : Type} : List α → (List α → β) → β
  | [], k => k []
  | a :: r, k => frL r fun s => k (a :: s)
theorem frL_eq {α β : Type} : ∀ (l : List α) (k : List α → β), frL l k = k l
  | [], _ => rfl
  | a :: r, k => frL_eq r fun s => k (a :: s)
abbrev tfY : List He.Defn := [("_law_told", none)]
abbrev AlY : Type := Bool × List FnY
def boolY (g : Addr → Option Obj) (K : PySem.W.Frag) : Bool := (facts.all fun f => f K) && ((fnY.all fun d => d.good K) && He.tabsB g tfY K)
def listY (K : PySem.W.Frag) : List FnY := (fnY ++ fnZ).map fun d => seeY K (d.at_ K)
/-- what is looked at: found by Adr.lean -/
def asL0 : List Addr := [2, 3, 6, 4, 21, 31, 44, 56, 68, 80, 92, 104, 116, 128, 140, 152, 164, 176, 188, 200, 212, 224, 236, 248, 260, 281, 302, 323, 344, 365, 386, 395, 402, 409, 414, 421, 428, 527]
def asL1 : List Addr := [536, 543, 550, 555, 562, 567, 574, 581, 588, 595, 602, 609, 616, 623, 628, 635, 640, 647, 652, 659, 666, 673, 680, 687, 694, 701, 706, 713, 720, 727, 732, 852, 863, 916, 937, 956, 975, 994]
def asL2 : List Addr := [1013, 1025, 1037, 1049, 1061, 1070, 1077, 1084, 1091, 1098, 1105, 1112, 1119, 1124, 1129, 1134, 1139, 20, 30, 43, 55, 67, 79, 91, 103, 115, 127, 139, 151, 163, 175, 187, 199, 211, 223, 235, 247, 259]
def asL3 : List Addr := [280, 301, 322, 343, 364, 385, 394, 401, 408, 413, 420, 427, 526, 535, 542, 549, 554, 561, 566, 573, 580, 587, 594, 601, 608, 615, 622, 627, 634, 639, 646, 651, 658, 665, 672, 679, 686, 693]
def asL4 : List Addr := [700, 705, 712, 719, 726, 731, 851, 862, 915, 936, 955, 974, 993, 1012, 1024, 1036, 1048, 1060, 1069, 1076, 1083, 1090, 1097, 1104, 1111, 1118, 1123, 1128, 1133, 1138, 29, 32, 42, 54, 66, 78, 90, 102]
def asL5 : List Addr := [114, 126, 138, 150, 162, 174, 186, 198, 210, 222, 234, 246, 258, 278, 279, 299, 300, 320, 321, 341, 342, 362, 363, 383, 384, 442, 448, 455, 462, 469, 476, 483, 490, 495, 502, 509, 514, 523]
def asL6 : List Addr := [525, 528, 529, 746, 754, 762, 770, 776, 782, 788, 793, 800, 807, 814, 821, 828, 835, 842, 849, 850, 853, 854, 879, 887, 894, 899, 906, 913, 914, 917, 918, 934, 935, 953, 954, 972, 973, 991]
def asL7 : List Addr := [992, 1010, 1011, 1023, 1035, 1047, 1059, 277, 266, 298, 287, 319, 308, 340, 329, 361, 350, 382, 371, 441, 447, 454, 461, 468, 475, 482, 489, 494, 501, 508, 513, 745, 753, 761, 769, 775, 781, 787]
def asL8 : List Addr := [792, 799, 806, 813, 820, 827, 834, 841, 848, 877, 886, 893, 898, 905, 912, 933, 952, 971, 990, 1009, 446, 752, 760, 768, 774, 780, 786, 876]
def asL : List Addr := asL0 ++ (asL1 ++ (asL2 ++ (asL3 ++ (asL4 ++ (asL5 ++ (asL6 ++ (asL7 ++ (asL8))))))))
def obs1 (g : Addr → Option Obj) : Bool := frL (He.frT g asL) fun K => boolY g K
def obs2 (g : Addr → Option Obj) : List FnY := frL (He.frT g asL) fun K => listY K
def obsY (g : Addr → Option Obj) : AlY := (obs1 g, obs2 g)
def valY : AlY := (true, (fnY ++ fnZ).map DefA.said)

structure SaysY (h : Heap) (K : PySem.W.Frag) : Prop where
  fact : ∀ f ∈ facts, f K = true
  good : ∀ d ∈ fnY, d.good K = true
  see : ∀ d ∈ fnY ++ fnZ, seeY K (d.at_ K) = d.said
  hd : ∀ p ∈ tfY, PySem.W.codeHdIn K (He.cT K p).1 (He.cT K p).2 = true
  out : ∀ p ∈ tfY, K.lookup (He.cT K p).2 = none
  empty : ∀ p ∈ tfY, h.get? (He.cT K p).2 = some { cls := .none, data := .fields #[] }
theorem saysY_of {h : Heap} (e : obsY h.get? = valY) : SaysY h (He.frT h.get? asL) := by
  have e1 : obs1 h.get? = true := congrArg (fun z : AlY => z.1) e
  have e2 : obs2 h.get? = (fnY ++ fnZ).map DefA.said := congrArg (fun z : AlY => z.2) e
  unfold obs1 at e1
  unfold obs2 at e2
  rw [frL_eq] at e1 e2
  unfold boolY at e1
  unfold listY at e2
  obtain ⟨h1, h2⟩ := ba e1
  obtain ⟨h3, h4⟩ := ba h2
  have key : ∀ p ∈ tfY, PySem.W.codeHdIn (He.frT h.get? asL) (He.cT (He.frT h.get? asL) p).1 (He.cT (He.frT h.get? asL) p).2 = true ∧ ∃ o, h.get? (He.cT (He.frT h.get? asL) p).2 = some o ∧ He.emptyTab o = true := fun p hp => by
    have h5 := List.all_eq_true.mp h4 p hp
    obtain ⟨h6, h7⟩ := ba h5
    refine ⟨h6, ?_⟩
    split at h7
    · rename_i o q
      exact ⟨o, q, h7⟩
    · cases h7
  refine ⟨fun f hf => List.all_eq_true.mp h1 f hf, fun d hd => List.all_eq_true.mp h3 d hd, List.map_inj_left.mp e2, fun p hp => (key p hp).1, fun p hp => ?_, fun p hp => ?_⟩
  · obtain ⟨_, o, q, z⟩ := key p hp
    exact He.frT_none q z
  · obtain ⟨_, o, q, z⟩ := key p hp
    rw [q, He.emptyTab_eq z]
def hookY : PySem.W.Hook where
  α := AlY
  obs := fun s => obsY s.heap.get?
  val := fun _ => valY
  says := fun _ h => ∃ K : PySem.W.Frag, K.In h ∧ SaysY h K
  of := fun _ _ e => ⟨_, He.frT_in, saysY_of e⟩
  keeps := fun _ _ _ ⟨K, hK, c⟩ k => ⟨K, PySem.W.Frag.In.keeps hK k, ⟨c.fact, c.good, c.see, c.hd, c.out, fun p hp => k _ _ (c.empty p hp)⟩⟩

/-! ### the run -/
abbrev R : PySem.W.OpenRow := PySem.W.OpenLaw.row PySem.Challenge.rw_rowclash_k15_whole_keys_renamed
abbrev qv : Program := PySem.W.view R.prog [97]
def n1 : List PySem.Str := ["_wall", "RowError", "NotRow", "NotTable", "NotKey", "NotKeys", "NotRows", "NotOrder", "NotRule", "NotInteger", "NotScan", "NotBound", "NotFormula", "NotDeed", "NotText", "NotBytes", "NotLine", "Missing", "Impossible", "TooLarge", "NothingDone", "Twice", "Held", "TooMany", "Competing", "Ringed", "Collision"]
def n2 : List PySem.Str := ["MOST_ROWS", "KEY_BOUND", "is_integer", "is_key", "is_row", "is_ascending", "checked_rows", "more_rows", "Table", "keys_of", "need_table", "need_row", "is_set", "need_rows", "is_order", "need_order", "waited", "path_of", "end_of", "path", "rings_of", "rings", "by_new", "groups_of", "groups", "trees_of", "trees", "waiting_for"]
def n3 : List PySem.Str := ["need_no_pair", "need_no_ring", "ready", "first_order", "verdict", "is_free_of", "factorial", "chains_of", "orders_of", "passing_orders", "fits_at_end", "stages", "Outcome", "holder_of", "Rule", "Stops", "Continues", "Undoes", "Leaves", "Removes", "Abort", "Fail", "Ignore", "Replace"]
def n4 : List PySem.Str := ["_law_cell_at", "_law_pen", "_law_draw", "_law_pick", "_law_mixed", "_law_pairs", "_law_word", "_law_said", "_law_named", "_law_names", "_law_told"]
def names : List PySem.Str := n1 ++ (n2 ++ (n3 ++ n4))
def obY (s : PySem.W.SharedT) : AlY := obsY (HandSHeadRun.getT s)
theorem obY_eq (s : PySem.W.SharedT) : obY s = hookY.obs s.abs := by
  have e : HandSHeadRun.getT s = s.abs.heap.get? := funext (HandSHeadRun.getT_eq s)
  show obsY (HandSHeadRun.getT s) = obsY s.abs.heap.get?
  rw [e]
noncomputable abbrev endY (w : World) (os : OsState) : Option PySem.W.SharedT := HandSHeadRun.endF (HandSHeadRun.stepQ (HandSHeadRun.denQ HandSHeadRun.tabQ) R.prog w) 20000 R.prog w os
open PySem.W PySem.Calls in
theorem run1 (w : World) : ∀ os : OsState, (endY w os).map (fun s => (HandSHeadRun.looksF R.prog (boot_heap w.params) s.abs, HandSHeadRun.seenQ qv names (importedModules R.prog.main.body) (fun s => PySem.W.xlAt qv [] s && PySem.W.recOk R.toRowW.records s) s.abs)) = some (true, PySem.W.openGood qv names) := by
  intro os
  kernel_rfl
/-- the looks of obs1 in three parts -/
noncomputable abbrev part1 (s : PySem.W.SharedT) : Bool := frL (He.frT (HandSHeadRun.getT s) asL) fun K => factsA.all fun f => f K
noncomputable abbrev part2 (s : PySem.W.SharedT) : Bool := frL (He.frT (HandSHeadRun.getT s) asL) fun K => factsB.all fun f => f K
noncomputable abbrev part3 (s : PySem.W.SharedT) : Bool := frL (He.frT (HandSHeadRun.getT s) asL) fun K => (fnY.all fun d => d.good K) && He.tabsB (HandSHeadRun.getT s) tfY K
theorem run2a (w : World) : ∀ os : OsState, (endY w os).map part1 = some true := by
  intro os
  kernel_rfl
theorem run2b (w : World) : ∀ os : OsState, (endY w os).map part2 = some true := by
  intro os
  kernel_rfl
theorem run2c (w : World) : ∀ os : OsState, (endY w os).map part3 = some true := by
  intro os
  kernel_rfl
theorem parts (s : PySem.W.SharedT) (h1 : part1 s = true) (h2 : part2 s = true) (h3 : part3 s = true) : (obY s).1 = true := by
  show obs1 (HandSHeadRun.getT s) = true
  unfold part1 at h1
  unfold part2 at h2
  unfold part3 at h3
  unfold obs1
  rw [frL_eq] at h1 h2 h3 ⊢
  unfold boolY facts
  rw [List.all_append, h1, h2, h3]
  rfl
theorem run2 (w : World) : ∀ os : OsState, (endY w os).map (fun s => (obY s).1) = some valY.1 := by
  intro os
  have h1 := run2a w os
  have h2 := run2b w os
  have h3 := run2c w os
  cases e : endY w os with
  | none => rw [e] at h1; cases h1
  | some s =>
    rw [e] at h1 h2 h3
    exact congrArg some (parts s (Option.some.inj h1) (Option.some.inj h2) (Option.some.inj h3))
theorem run3 (w : World) : ∀ os : OsState, (endY w os).map (fun s => (obY s).2) = some valY.2 := by
  intro os
  kernel_rfl
theorem join3 {σ α β γ δ : Type} {e : Option σ} {p : σ → α} {q : σ → β} {u : σ → γ × δ} {a : α} {b : β} {v : γ × δ} (h1 : e.map (fun s => (p s, q s)) = some (a, b)) (h2 : e.map (fun s => (u s).1) = some v.1) (h3 : e.map (fun s => (u s).2) = some v.2) : e.map (fun s => (p s, q s, u s)) = some (a, b, v) := by
  cases e with
  | none => cases h1
  | some s =>
    have e1 := Option.some.inj (show some (p s, q s) = some (a, b) from h1)
    have e2 := Option.some.inj (show some (u s).1 = some v.1 from h2)
    have e3 := Option.some.inj (show some (u s).2 = some v.2 from h3)
    obtain ⟨e4, e5⟩ := Prod.mk.inj e1
    show some (p s, q s, u s) = _
    rw [e4, e5, Prod.ext e2 e3]
theorem run (w : World) : HandSHeadRun.RunEq R qv hookY obY 20000 names w := by
  intro os
  have h := join3 (run1 w os) (run2 w os) (run3 w os)
  exact h
end RcX
end
section
set_option autoImplicit false
set_option linter.all false
/-! Plain mirrors of the program's functions, over any type with an order, and: each goes with a rising map. -/
namespace RC

structure Emb {α β : Type} [LT α] [LT β] (g : α → β) : Prop where
  inj : ∀ {a b : α}, g a = g b → a = b
  lt : ∀ {a b : α}, g a < g b ↔ a < b

section
variable {α : Type} [DecidableEq α] [LT α] [DecidableLT α]

def le (a b : α) : Bool := !decide (b < a)
def leF {γ : Type} (a b : α × γ) : Bool := !decide (b.1 < a.1)
def leL (a b : List α) : Bool := !decide (b < a)

/-! ### tables: the rows, ascending -/
def keys (R : List (α × α)) : List α := R.map (·.1)
def look (R : List (α × α)) (k : α) : Option α := (R.find? fun p => decide (p.1 = k)).map (·.2)
def waited (R : List (α × α)) (k : α) : Option α := match look R k with
  | none => none
  | some n => if n = k then none else if n ∈ keys R then some n else none
def pathGo (R : List (α × α)) : Nat → List α → Option α → List α
  | 0, found, _ => found
  | _ + 1, found, none => found
  | f + 1, found, some r => if r ∈ found then found else pathGo R f (found ++ [r]) (waited R r)
def pathOf (R : List (α × α)) (k : α) : List α := pathGo R (R.length + 1) [k] (waited R k)
inductive End where
  | ring | still | free
  deriving DecidableEq
def endOf (R : List (α × α)) (p : List α) : End := match p.getLast? with
  | none => .ring
  | some l => match waited R l with
    | some _ => .ring
    | none => if look R l = some l then .still else .free
def onRing (R : List (α × α)) (k : α) (p : List α) : Bool := decide (p.getLast?.bind (waited R) = some k) && p.all fun y => !decide (y < k)
def rings (R : List (α × α)) : List (List α) := (keys R).filterMap fun k => if onRing R k (pathOf R k) = true then some (pathOf R k) else none
def put (n k : α) : List (α × List α) → List (α × List α)
  | [] => [(n, [k])]
  | (m, l) :: r => if m = n then (m, l ++ [k]) :: r else (m, l) :: put n k r
def byNew (R : List (α × α)) : List (α × List α) := R.foldl (fun d p => put p.2 p.1 d) []
def groups (R : List (α × α)) : List (List α) := ((byNew R).filterMap fun p => if 1 < p.2.length then some p.2 else none).mergeSort leL
def treeOf (R : List (α × α)) (k : α) : Option α := if endOf R (pathOf R k) = .free then (pathOf R k).getLast?.bind (look R) else none
def treeStep (R : List (α × α)) (d : List (α × List α)) (k : α) : List (α × List α) := match treeOf R k with
  | some n => put n k d
  | none => d
def trees (R : List (α × α)) : List (α × List α) := ((keys R).foldl (treeStep R) []).mergeSort leF
def waitingFor (R : List (α × α)) (k : α) : List α := R.filterMap fun p => if p.2 = k ∧ p.1 ≠ k then some p.1 else none
def isReady (R : List (α × α)) (done : List α) (k : α) : Bool := decide (k ∉ done) && (match waited R k with
  | none => true
  | some r => decide (r ∈ done))
def ready (R : List (α × α)) (done : List α) : List α := (keys R).filter (isReady R done)
def firstGo (R : List (α × α)) : Nat → List α → List α
  | 0, done => done
  | f + 1, done => if done.length < R.length then (match ready R done with
    | [] => done
    | r :: _ => firstGo R f (done ++ [r])) else done
def firstOrder (R : List (α × α)) : List α := firstGo R (R.length + 1) []
inductive Verd (α : Type) where
  | compete (p : List α) | ring (p : List α) | order (p : List α)
def Verd.map {α β : Type} (g : α → β) : Verd α → Verd β
  | .compete p => .compete (p.map g)
  | .ring p => .ring (p.map g)
  | .order p => .order (p.map g)
def verdict (R : List (α × α)) : Verd α := match groups R with
  | p :: _ => .compete (p.take 2)
  | [] => match rings R with
    | p :: _ => .ring p
    | [] => .order (firstOrder R)
def fact : Nat → Nat
  | 0 => 1
  | n + 1 => (n + 1) * fact n
def chains (R : List (α × α)) : List (List α) := (keys R).filterMap fun k => if waitingFor R k = [] then some (pathOf R k) else none
def isFree (R : List (α × α)) : Bool := (groups R).isEmpty && (rings R).isEmpty
def countOf (R : List (α × α)) : Nat := if isFree R = true then (chains R).foldl (fun f c => f / fact c.length) (fact R.length) else 0
inductive Stg (α : Type) where
  | compete (p : List α) | ring (p : List α) | ok (l : List (List α))
def Stg.map {α β : Type} (g : α → β) : Stg α → Stg β
  | .compete p => .compete (p.map g)
  | .ring p => .ring (p.map g)
  | .ok l => .ok (l.map (List.map g))
def padTo (d : Nat) (f : List (List α)) : List (List α) := f ++ List.replicate (d - f.length) []
def addAt (i : Nat) (k : α) (f : List (List α)) : List (List α) := f.modify i (· ++ [k])
def stageStep (R : List (α × α)) (f : List (List α)) (k : α) : List (List α) := addAt ((pathOf R k).length - 1) k (padTo (pathOf R k).length f)
def stagesOk (R : List (α × α)) : List (List α) := (keys R).foldl (stageStep R) []
def stages (R : List (α × α)) : Stg α := match groups R with
  | p :: _ => .compete (p.take 2)
  | [] => match rings R with
    | p :: _ => .ring p
    | [] => .ok (stagesOk R)

/-! ### rules -/
inductive Rl where
  | abort | fail | ignore | replace
  deriving DecidableEq
def holder (P : List (α × Option α)) (n : α) : Option α := (P.find? fun p => decide (p.2 = some n)).map (·.1)
def getP (P : List (α × Option α)) (k : α) : Option (Option α) := (P.find? fun p => decide (p.1 = k)).map (·.2)
def setP (P : List (α × Option α)) (k : α) (v : Option α) : List (α × Option α) := P.map fun p => if p.1 = k then (p.1, v) else p
def undo (P : List (α × Option α)) : List (α × Option α) := P.map fun p => (p.1, some p.1)
def runGo (R : List (α × α)) (rl : Rl) : List α → List (α × Option α) → List (α × Option α) × Option (α × α)
  | [], P => (P, none)
  | k :: rest, P => match look R k with
    | none => (P, none)
    | some n => if getP P k = some none ∨ n = k then runGo R rl rest P else match holder P n with
      | none => runGo R rl rest (setP P k (some n))
      | some h => match rl with
        | .abort => (undo P, some (k, h))
        | .fail => (P, some (k, h))
        | .ignore => runGo R rl rest P
        | .replace => runGo R rl rest (setP (setP P h none) k (some n))
def start (o : List α) : List (α × Option α) := o.map fun k => (k, some k)
def runRl (R : List (α × α)) (rl : Rl) (o : List α) : List (α × Option α) × Option (α × α) := runGo R rl o (start o)
def endsOf (P : List (α × Option α)) : List (α × α) := (P.filterMap fun p => p.2.map fun v => (p.1, v)).mergeSort leF
def movedOf (E : List (α × α)) : List α := E.filterMap fun p => if p.2 ≠ p.1 then some p.1 else none
def leftOf (E : List (α × α)) : List α := E.map (·.1)
def heldOf (E : List (α × α)) : List α := (E.map (·.2)).mergeSort le
end

/-! ### each goes with a rising map -/
section
variable {α β : Type} [DecidableEq α] [LT α] [DecidableLT α] [DecidableEq β] [LT β] [DecidableLT β]
def gp (g : α → β) (p : α × α) : β × β := (g p.1, g p.2)
def gl (g : α → β) (p : α × List α) : β × List β := (g p.1, p.2.map g)
def go (g : α → β) (p : α × Option α) : β × Option β := (g p.1, p.2.map g)
variable {g : α → β}
theorem Emb.eq (e : Emb g) {a b : α} : g a = g b ↔ a = b := ⟨e.inj, fun h => by rw [h]⟩
theorem Emb.mem (e : Emb g) {a : α} {l : List α} : g a ∈ l.map g ↔ a ∈ l := by
  rw [List.mem_map]
  exact ⟨fun ⟨b, hb, h⟩ => e.inj h ▸ hb, fun h => ⟨a, h, rfl⟩⟩
theorem Emb.le (e : Emb g) (a b : α) : le (g a) (g b) = le a b := by
  unfold RC.le
  by_cases h : b < a
  · rw [decide_eq_true h, decide_eq_true (e.lt.mpr h)]
  · rw [decide_eq_false h, decide_eq_false fun z => h (e.lt.mp z)]
theorem Emb.listLt (e : Emb g) : ∀ a b : List α, a.map g < b.map g ↔ a < b
  | [], [] => by simp
  | [], _ :: _ => by simp
  | _ :: _, [] => by simp
  | x :: a, y :: b => by
    rw [List.map_cons, List.map_cons, List.cons_lt_cons_iff, List.cons_lt_cons_iff, e.lt, e.eq, Emb.listLt e a b]
theorem Emb.leL (e : Emb g) (a b : List α) : leL (a.map g) (b.map g) = leL a b := by
  unfold RC.leL
  by_cases h : b < a
  · rw [decide_eq_true h, decide_eq_true ((e.listLt _ _).mpr h)]
  · rw [decide_eq_false h, decide_eq_false fun z => h ((e.listLt _ _).mp z)]
theorem keys_map (R : List (α × α)) : keys (R.map (gp g)) = (keys R).map g := by
  unfold keys
  rw [List.map_map, List.map_map] <;> rfl
theorem look_map (e : Emb g) (k : α) : ∀ R : List (α × α), look (R.map (gp g)) (g k) = (look R k).map g
  | [] => rfl
  | p :: R => by
    have ih := look_map e k R
    unfold look at ih ⊢
    rw [List.map_cons, List.find?_cons, List.find?_cons]
    by_cases h : p.1 = k
    · have h' : (gp g p).1 = g k := by show g p.1 = g k; rw [h]
      rw [decide_eq_true h, decide_eq_true h']
      rfl
    · have h' : ¬ (gp g p).1 = g k := fun z => h (e.inj z)
      rw [decide_eq_false h, decide_eq_false h']
      exact ih
theorem waited_map (e : Emb g) (R : List (α × α)) (k : α) : waited (R.map (gp g)) (g k) = (waited R k).map g := by
  unfold waited
  rw [look_map e]
  cases h : look R k with
  | none => rfl
  | some n =>
    show (if g n = g k then none else if g n ∈ keys (R.map (gp g)) then some (g n) else none) = _
    rw [keys_map]
    by_cases h1 : n = k
    · rw [if_pos (by rw [h1])]
      show none = Option.map g (if n = k then none else _)
      rw [if_pos h1]
      rfl
    · rw [if_neg fun z => h1 (e.inj z)]
      show _ = Option.map g (if n = k then none else if n ∈ keys R then some n else none)
      rw [if_neg h1]
      by_cases h2 : n ∈ keys R
      · rw [if_pos (e.mem.mpr h2), if_pos h2]; rfl
      · rw [if_neg fun z => h2 (e.mem.mp z), if_neg h2]; rfl
theorem pathGo_map (e : Emb g) (R : List (α × α)) : ∀ (f : Nat) (found : List α) (row : Option α), pathGo (R.map (gp g)) f (found.map g) (row.map g) = (pathGo R f found row).map g
  | 0, _, _ => rfl
  | _ + 1, _, none => rfl
  | f + 1, found, some r => by
    show (if g r ∈ found.map g then found.map g else pathGo (R.map (gp g)) f (found.map g ++ [g r]) (waited (R.map (gp g)) (g r))) = _
    rw [waited_map e]
    show _ = List.map g (if r ∈ found then found else pathGo R f (found ++ [r]) (waited R r))
    by_cases h : r ∈ found
    · rw [if_pos (e.mem.mpr h), if_pos h]
    · rw [if_neg fun z => h (e.mem.mp z), if_neg h, ← pathGo_map e R f (found ++ [r]) (waited R r), List.map_append]
      rfl
theorem pathOf_map (e : Emb g) (R : List (α × α)) (k : α) : pathOf (R.map (gp g)) (g k) = (pathOf R k).map g := by
  unfold pathOf
  rw [List.length_map, waited_map e, ← pathGo_map e]
  rfl
theorem last_map (l : List α) : (l.map g).getLast? = l.getLast?.map g := by simp
theorem endOf_map (e : Emb g) (R : List (α × α)) (p : List α) : endOf (R.map (gp g)) (p.map g) = endOf R p := by
  unfold endOf
  rw [last_map]
  cases h : p.getLast? with
  | none => rfl
  | some l =>
    show (match waited (R.map (gp g)) (g l) with | some _ => End.ring | none => if look (R.map (gp g)) (g l) = some (g l) then End.still else End.free) = _
    rw [waited_map e, look_map e]
    show _ = (match waited R l with | some _ => End.ring | none => if look R l = some l then End.still else End.free)
    cases waited R l with
    | some _ => rfl
    | none =>
      show (if (look R l).map g = some (g l) then End.still else End.free) = (if look R l = some l then End.still else End.free)
      cases hl : look R l with
      | none => simp
      | some n => simp [e.eq]
theorem all_map_lt (e : Emb g) (k : α) (p : List α) : ((p.map g).all fun y => !decide (y < g k)) = p.all fun y => !decide (y < k) := by
  rw [List.all_map]
  congr 1
  funext y
  exact Emb.le e k y
theorem onRing_map (e : Emb g) (R : List (α × α)) (k : α) (p : List α) : onRing (R.map (gp g)) (g k) (p.map g) = onRing R k p := by
  unfold onRing
  rw [all_map_lt e, last_map]
  congr 1
  cases p.getLast? with
  | none => simp
  | some l =>
    show decide (waited (R.map (gp g)) (g l) = some (g k)) = decide (waited R l = some k)
    rw [waited_map e]
    cases waited R l with
    | none => simp
    | some n => simp [e.eq]
theorem rings_map (e : Emb g) (R : List (α × α)) : rings (R.map (gp g)) = (rings R).map (List.map g) := by
  unfold rings
  rw [keys_map, List.filterMap_map, List.map_filterMap]
  congr 1
  funext k
  show (if onRing (R.map (gp g)) (g k) (pathOf (R.map (gp g)) (g k)) = true then some (pathOf (R.map (gp g)) (g k)) else none) = _
  rw [pathOf_map e, onRing_map e]
  cases onRing R k (pathOf R k) <;> rfl
theorem put_map (e : Emb g) (n k : α) : ∀ d : List (α × List α), put (g n) (g k) (d.map (gl g)) = (put n k d).map (gl g)
  | [] => rfl
  | (m, l) :: r => by
    show (if g m = g n then (g m, l.map g ++ [g k]) :: r.map (gl g) else (g m, l.map g) :: put (g n) (g k) (r.map (gl g))) = List.map (gl g) (if m = n then (m, l ++ [k]) :: r else (m, l) :: put n k r)
    by_cases h : m = n
    · rw [if_pos (by rw [h]), if_pos h, List.map_cons]
      unfold gl
      rw [List.map_append]
      rfl
    · rw [if_neg fun z => h (e.inj z), if_neg h, put_map e n k r]
      rfl
theorem byNew_map_go (e : Emb g) : ∀ (R : List (α × α)) (d : List (α × List α)), (R.map (gp g)).foldl (fun d p => put p.2 p.1 d) (d.map (gl g)) = (R.foldl (fun d p => put p.2 p.1 d) d).map (gl g)
  | [], _ => rfl
  | p :: R, d => by
    show (R.map (gp g)).foldl _ (put (g p.2) (g p.1) (d.map (gl g))) = _
    rw [put_map e, byNew_map_go e R]
    rfl
theorem byNew_map (e : Emb g) (R : List (α × α)) : byNew (R.map (gp g)) = (byNew R).map (gl g) := byNew_map_go e R []
theorem groups_map (e : Emb g) (R : List (α × α)) : groups (R.map (gp g)) = (groups R).map (List.map g) := by
  unfold groups
  rw [byNew_map e, List.filterMap_map, List.map_mergeSort (r := leL) (s := leL) (f := List.map g) (fun a _ b _ => (e.leL a b).symm), List.map_filterMap]
  congr 1
  congr 1
  funext p
  show (if 1 < (p.2.map g).length then some (p.2.map g) else none) = _
  rw [List.length_map]
  by_cases h : 1 < p.2.length
  · rw [if_pos h, if_pos h]; rfl
  · rw [if_neg h, if_neg h]; rfl
theorem treeOf_map (e : Emb g) (R : List (α × α)) (k : α) : treeOf (R.map (gp g)) (g k) = (treeOf R k).map g := by
  unfold treeOf
  rw [pathOf_map e, endOf_map e, last_map]
  by_cases h : endOf R (pathOf R k) = .free
  · rw [if_pos h, if_pos h]
    cases (pathOf R k).getLast? with
    | none => rfl
    | some l => exact look_map e l R
  · rw [if_neg h, if_neg h]; rfl
theorem treeStep_map (e : Emb g) (R : List (α × α)) (d : List (α × List α)) (k : α) : treeStep (R.map (gp g)) (d.map (gl g)) (g k) = (treeStep R d k).map (gl g) := by
  unfold treeStep
  rw [treeOf_map e]
  cases treeOf R k with
  | none => rfl
  | some n => exact put_map e n k d
theorem trees_go (e : Emb g) (R : List (α × α)) : ∀ (l : List α) (d : List (α × List α)), (l.map g).foldl (treeStep (R.map (gp g))) (d.map (gl g)) = (l.foldl (treeStep R) d).map (gl g)
  | [], _ => rfl
  | k :: l, d => by
    show (l.map g).foldl _ (treeStep (R.map (gp g)) (d.map (gl g)) (g k)) = _
    rw [treeStep_map e, trees_go e R l]
    rfl
theorem trees_map (e : Emb g) (R : List (α × α)) : trees (R.map (gp g)) = (trees R).map (gl g) := by
  unfold trees
  rw [keys_map, List.map_mergeSort (r := leF) (s := leF) (f := gl g) (fun a _ b _ => (e.le a.1 b.1).symm)]
  congr 1
  exact trees_go e R (keys R) []
theorem waitingFor_map (e : Emb g) (R : List (α × α)) (k : α) : waitingFor (R.map (gp g)) (g k) = (waitingFor R k).map g := by
  unfold waitingFor
  rw [List.filterMap_map, List.map_filterMap]
  congr 1
  funext p
  show (if g p.2 = g k ∧ g p.1 ≠ g k then some (g p.1) else none) = _
  by_cases h : p.2 = k ∧ p.1 ≠ k
  · rw [if_pos h, if_pos ⟨by rw [h.1], fun z => h.2 (e.inj z)⟩]; rfl
  · rw [if_neg h, if_neg fun z => h ⟨e.inj z.1, fun y => z.2 (by rw [y])⟩]; rfl
theorem isReady_map (e : Emb g) (R : List (α × α)) (done : List α) (k : α) : isReady (R.map (gp g)) (done.map g) (g k) = isReady R done k := by
  unfold isReady
  rw [waited_map e]
  have h1 : ∀ a : α, decide (g a ∈ done.map g) = decide (a ∈ done) := fun a => by rw [Bool.eq_iff_iff]; simp only [decide_eq_true_eq]; exact e.mem
  have h2 : decide (g k ∉ done.map g) = decide (k ∉ done) := by rw [Bool.eq_iff_iff]; simp only [decide_eq_true_eq]; exact not_congr e.mem
  rw [h2]
  cases waited R k with
  | none => rfl
  | some r =>
    show (decide (k ∉ done) && decide (g r ∈ done.map g)) = (decide (k ∉ done) && decide (r ∈ done))
    rw [h1]
theorem ready_map (e : Emb g) (R : List (α × α)) (done : List α) : ready (R.map (gp g)) (done.map g) = (ready R done).map g := by
  unfold ready
  rw [keys_map, List.filter_map]
  congr 2
  funext k
  exact isReady_map e R done k
theorem firstGo_map (e : Emb g) (R : List (α × α)) : ∀ (f : Nat) (done : List α), firstGo (R.map (gp g)) f (done.map g) = (firstGo R f done).map g
  | 0, _ => rfl
  | f + 1, done => by
    show (if (done.map g).length < (R.map (gp g)).length then (match ready (R.map (gp g)) (done.map g) with | [] => done.map g | r :: _ => firstGo (R.map (gp g)) f (done.map g ++ [r])) else done.map g) = List.map g (if done.length < R.length then (match ready R done with | [] => done | r :: _ => firstGo R f (done ++ [r])) else done)
    rw [List.length_map, List.length_map, ready_map e]
    by_cases h : done.length < R.length
    · rw [if_pos h, if_pos h]
      cases ready R done with
      | nil => rfl
      | cons r t =>
        show firstGo (R.map (gp g)) f (done.map g ++ [g r]) = List.map g (firstGo R f (done ++ [r]))
        rw [← firstGo_map e R f (done ++ [r]), List.map_append]
        rfl
    · rw [if_neg h, if_neg h]
theorem firstOrder_map (e : Emb g) (R : List (α × α)) : firstOrder (R.map (gp g)) = (firstOrder R).map g := by
  unfold firstOrder
  rw [List.length_map]
  exact firstGo_map e R (R.length + 1) []
theorem verdict_map (e : Emb g) (R : List (α × α)) : verdict (R.map (gp g)) = (verdict R).map g := by
  unfold verdict
  rw [groups_map e, rings_map e, firstOrder_map e]
  cases groups R with
  | cons p t => show Verd.compete ((p.map g).take 2) = Verd.compete ((p.take 2).map g); rw [List.map_take]
  | nil =>
    cases rings R with
    | cons p t => rfl
    | nil => rfl
theorem chains_map (e : Emb g) (R : List (α × α)) : chains (R.map (gp g)) = (chains R).map (List.map g) := by
  unfold chains
  rw [keys_map, List.filterMap_map, List.map_filterMap]
  congr 1
  funext k
  show (if waitingFor (R.map (gp g)) (g k) = [] then some (pathOf (R.map (gp g)) (g k)) else none) = _
  rw [waitingFor_map e, pathOf_map e]
  by_cases h : waitingFor R k = []
  · rw [if_pos h, if_pos (by rw [h]; rfl)]; rfl
  · rw [if_neg h, if_neg fun z => h (List.map_eq_nil_iff.mp z)]; rfl
theorem isFree_map (e : Emb g) (R : List (α × α)) : isFree (R.map (gp g)) = isFree R := by
  unfold isFree
  rw [groups_map e, rings_map e, List.isEmpty_map, List.isEmpty_map]
theorem countOf_map (e : Emb g) (R : List (α × α)) : countOf (R.map (gp g)) = countOf R := by
  unfold countOf
  rw [isFree_map e, chains_map e, List.length_map, List.foldl_map]
  simp only [List.length_map]
theorem padTo_map (d : Nat) (f : List (List α)) : padTo d (f.map (List.map g)) = (padTo d f).map (List.map g) := by
  unfold padTo
  rw [List.map_append, List.length_map, List.map_replicate]
  rfl
theorem addAt_map (k : α) : ∀ (i : Nat) (f : List (List α)), addAt i (g k) (f.map (List.map g)) = (addAt i k f).map (List.map g)
  | 0, [] => rfl
  | 0, x :: f => by
    show (x.map g ++ [g k]) :: f.map (List.map g) = ((x ++ [k]) :: f).map (List.map g)
    rw [List.map_cons, List.map_append]
    rfl
  | i + 1, [] => rfl
  | i + 1, x :: f => by
    have ih := addAt_map k i f
    unfold addAt at ih ⊢
    rw [List.map_cons, List.modify_succ_cons, List.modify_succ_cons, List.map_cons, ih]
theorem stageStep_map (e : Emb g) (R : List (α × α)) (f : List (List α)) (k : α) : stageStep (R.map (gp g)) (f.map (List.map g)) (g k) = (stageStep R f k).map (List.map g) := by
  unfold stageStep
  rw [pathOf_map e, List.length_map, padTo_map, addAt_map]
theorem stages_go (e : Emb g) (R : List (α × α)) : ∀ (l : List α) (f : List (List α)), (l.map g).foldl (stageStep (R.map (gp g))) (f.map (List.map g)) = (l.foldl (stageStep R) f).map (List.map g)
  | [], _ => rfl
  | k :: l, f => by
    show (l.map g).foldl _ (stageStep (R.map (gp g)) (f.map (List.map g)) (g k)) = _
    rw [stageStep_map e, stages_go e R l]
    rfl
theorem stages_map (e : Emb g) (R : List (α × α)) : stages (R.map (gp g)) = (stages R).map g := by
  unfold stages
  rw [groups_map e, rings_map e]
  cases groups R with
  | cons p t => show Stg.compete ((p.map g).take 2) = Stg.compete ((p.take 2).map g); rw [List.map_take]
  | nil =>
    cases rings R with
    | cons p t => rfl
    | nil =>
      show Stg.ok (stagesOk (R.map (gp g))) = Stg.ok ((stagesOk R).map (List.map g))
      unfold stagesOk
      rw [keys_map]
      exact congrArg _ (stages_go e R (keys R) [])
theorem holder_map (e : Emb g) (n : α) : ∀ P : List (α × Option α), holder (P.map (go g)) (g n) = (holder P n).map g
  | [] => rfl
  | p :: P => by
    have ih := holder_map e n P
    unfold holder at ih ⊢
    rw [List.map_cons, List.find?_cons, List.find?_cons]
    have hd : decide ((go g p).2 = some (g n)) = decide (p.2 = some n) := by
      show decide (p.2.map g = some (g n)) = _
      cases p.2 with
      | none => simp
      | some v => simp [e.eq]
    rw [hd]
    cases decide (p.2 = some n) with
    | true => rfl
    | false => exact ih
theorem getP_map (e : Emb g) (k : α) : ∀ P : List (α × Option α), getP (P.map (go g)) (g k) = (getP P k).map (Option.map g)
  | [] => rfl
  | p :: P => by
    have ih := getP_map e k P
    unfold getP at ih ⊢
    rw [List.map_cons, List.find?_cons, List.find?_cons]
    have hd : decide ((go g p).1 = g k) = decide (p.1 = k) := by
      show decide (g p.1 = g k) = _
      rw [Bool.eq_iff_iff]; simp only [decide_eq_true_eq]; exact e.eq
    rw [hd]
    cases decide (p.1 = k) with
    | true => rfl
    | false => exact ih
theorem setP_map (e : Emb g) (P : List (α × Option α)) (k : α) (v : Option α) : setP (P.map (go g)) (g k) (v.map g) = (setP P k v).map (go g) := by
  unfold setP
  rw [List.map_map, List.map_map]
  congr 1
  funext p
  show (if g p.1 = g k then (g p.1, v.map g) else go g p) = go g (if p.1 = k then (p.1, v) else p)
  by_cases h : p.1 = k
  · rw [if_pos h, if_pos (by rw [h])]; rfl
  · rw [if_neg h, if_neg fun z => h (e.inj z)]
theorem undo_map (P : List (α × Option α)) : undo (P.map (go g)) = (undo P).map (go g) := by
  unfold undo
  rw [List.map_map, List.map_map] <;> rfl
def gr (g : α → β) (x : List (α × Option α) × Option (α × α)) : List (β × Option β) × Option (β × β) := (x.1.map (go g), x.2.map (gp g))
theorem runGo_map (e : Emb g) (R : List (α × α)) (rl : Rl) : ∀ (o : List α) (P : List (α × Option α)), runGo (R.map (gp g)) rl (o.map g) (P.map (go g)) = gr g (runGo R rl o P)
  | [], _ => rfl
  | k :: o, P => by
    rw [List.map_cons]
    unfold runGo
    rw [look_map e, getP_map e]
    cases look R k with
    | none => rfl
    | some n =>
      show (if (getP P k).map (Option.map g) = some none ∨ g n = g k then runGo (R.map (gp g)) rl (o.map g) (P.map (go g)) else _) = gr g (if getP P k = some none ∨ n = k then runGo R rl o P else _)
      have hc : ((getP P k).map (Option.map g) = some none ∨ g n = g k) ↔ (getP P k = some none ∨ n = k) := by
        refine or_congr ?_ e.eq
        cases getP P k with
        | none => simp
        | some v => cases v <;> simp
      by_cases h : getP P k = some none ∨ n = k
      · rw [if_pos h, if_pos (hc.mpr h)]
        exact runGo_map e R rl o P
      · rw [if_neg h, if_neg fun z => h (hc.mp z), holder_map e]
        cases holder P n with
        | none =>
          show runGo (R.map (gp g)) rl (o.map g) (setP (P.map (go g)) (g k) ((some n).map g)) = _
          rw [setP_map e]
          exact runGo_map e R rl o _
        | some hh =>
          cases rl with
          | abort =>
            show (undo (P.map (go g)), some (g k, g hh)) = _
            rw [undo_map]
            rfl
          | fail => rfl
          | ignore => exact runGo_map e R _ o P
          | replace =>
            show runGo (R.map (gp g)) .replace (o.map g) (setP (setP (P.map (go g)) (g hh) (Option.map g none)) (g k) ((some n).map g)) = _
            rw [setP_map e, setP_map e]
            exact runGo_map e R _ o _
theorem runRl_map (e : Emb g) (R : List (α × α)) (rl : Rl) (o : List α) : runRl (R.map (gp g)) rl (o.map g) = gr g (runRl R rl o) := by
  unfold runRl
  rw [← runGo_map e]
  unfold start
  rw [List.map_map, List.map_map]
  rfl
theorem endsOf_map (e : Emb g) (P : List (α × Option α)) : endsOf (P.map (go g)) = (endsOf P).map (gp g) := by
  unfold endsOf
  rw [List.filterMap_map, List.map_mergeSort (r := leF) (s := leF) (f := gp g) (fun a _ b _ => (e.le a.1 b.1).symm), List.map_filterMap]
  congr 1
  congr 1
  funext p
  show (p.2.map g).map (fun v => (g p.1, v)) = _
  cases p.2 <;> rfl
theorem movedOf_map (e : Emb g) (E : List (α × α)) : movedOf (E.map (gp g)) = (movedOf E).map g := by
  unfold movedOf
  rw [List.filterMap_map, List.map_filterMap]
  congr 1
  funext p
  show (if g p.2 ≠ g p.1 then some (g p.1) else none) = _
  by_cases h : p.2 = p.1
  · rw [if_neg fun z => z (by rw [h]), if_neg fun z => z h]; rfl
  · rw [if_pos fun z => h (e.inj z), if_pos h]; rfl
theorem leftOf_map (E : List (α × α)) : leftOf (E.map (gp g)) = (leftOf E).map g := keys_map E
theorem heldOf_map (e : Emb g) (E : List (α × α)) : heldOf (E.map (gp g)) = (heldOf E).map g := by
  unfold heldOf
  rw [List.map_mergeSort (r := le) (s := le) (f := g) (fun a _ b _ => (e.le a b).symm), List.map_map, List.map_map]
  rfl
end
end RC
end
section
set_option autoImplicit false
set_option linter.all false
/-! Facts of the mirrors over the ints: paths, first order, sizes. -/
namespace RC

theorem length_le_of_sub {α : Type} [DecidableEq α] : ∀ {l m : List α}, l.Nodup → (∀ x ∈ l, x ∈ m) → l.length ≤ m.length
  | [], _, _, _ => Nat.zero_le _
  | a :: l, m, hn, hs => by
    have ha : a ∈ m := hs a List.mem_cons_self
    have h1 := List.nodup_cons.mp hn
    have ih : l.length ≤ (m.erase a).length := length_le_of_sub h1.2 fun x hx => by
      have hne : x ≠ a := fun z => h1.1 (z ▸ hx)
      exact (List.mem_erase_of_ne hne).mpr (hs x (List.mem_cons_of_mem _ hx))
    rw [List.length_erase_of_mem ha] at ih
    have hp : 0 < m.length := List.length_pos_of_mem ha
    rw [List.length_cons]
    omega

theorem last_app {α : Type} (a : List α) {b : List α} (h : b ≠ []) : (a ++ b).getLast? = b.getLast? := by
  rw [List.getLast?_append]
  cases b with
  | nil => exact absurd rfl h
  | cons x t => rw [List.getLast?_eq_some_getLast (by simp : x :: t ≠ [])]; rfl
section
variable {α : Type} [DecidableEq α] [LT α] [DecidableLT α] {R : List (α × α)}
theorem look_mem {k n : α} (h : look R k = some n) : (k, n) ∈ R := by
  unfold look at h
  cases hf : R.find? (fun p => decide (p.1 = k)) with
  | none => rw [hf] at h; cases h
  | some p =>
    rw [hf] at h
    have h1 : p.2 = n := Option.some.inj h
    have h2 := List.find?_some hf
    have h3 : p.1 = k := of_decide_eq_true h2
    have h4 := List.mem_of_find?_eq_some hf
    rw [← h1, ← h3]
    exact h4
theorem look_some {k : α} (h : k ∈ keys R) : ∃ n, look R k = some n := by
  unfold keys at h
  obtain ⟨p, hp, e⟩ := List.mem_map.mp h
  unfold look
  cases hf : R.find? (fun p => decide (p.1 = k)) with
  | none =>
    have z := List.find?_eq_none.mp hf p hp
    exact absurd (decide_eq_true e) z
  | some q => exact ⟨q.2, rfl⟩
theorem look_none {k : α} (h : k ∉ keys R) : look R k = none := by
  cases hl : look R k with
  | none => rfl
  | some n => exact absurd (List.mem_map.mpr ⟨(k, n), look_mem hl, rfl⟩) h
theorem look_of {k n : α} (hn : (keys R).Nodup) (h : (k, n) ∈ R) : look R k = some n := by
  obtain ⟨m, hm⟩ := look_some (R := R) (k := k) (List.mem_map.mpr ⟨(k, n), h, rfl⟩)
  have h2 := look_mem hm
  have : m = n := by
    clear hm
    induction R with
    | nil => cases h
    | cons p R ih =>
      have hn' := List.nodup_cons.mp (show (p.1 :: keys R).Nodup from hn)
      rcases List.mem_cons.mp h with e1 | e1
      · rcases List.mem_cons.mp h2 with e2 | e2
        · rw [← e1] at e2; exact (Prod.mk.inj e2).2
        · exact absurd (List.mem_map.mpr ⟨(k, m), e2, by rw [← e1]⟩) hn'.1
      · rcases List.mem_cons.mp h2 with e2 | e2
        · exact absurd (List.mem_map.mpr ⟨(k, n), e1, by rw [← e2]⟩) hn'.1
        · exact ih hn'.2 e1 e2
  rw [hm, this]
theorem waited_key {k r : α} (h : waited R k = some r) : r ∈ keys R := by
  unfold waited at h
  cases hl : look R k with
  | none => rw [hl] at h; cases h
  | some n =>
    rw [hl] at h
    have h' : (if n = k then none else if n ∈ keys R then some n else none) = some r := h
    by_cases h1 : n = k
    · rw [if_pos h1] at h'; cases h'
    · rw [if_neg h1] at h'
      by_cases h2 : n ∈ keys R
      · rw [if_pos h2] at h'; rw [← Option.some.inj h']; exact h2
      · rw [if_neg h2] at h'; cases h'
/-- each waits for the next -/
def Ch (R : List (α × α)) : List α → Prop
  | [] => True
  | [_] => True
  | a :: b :: t => waited R a = some b ∧ Ch R (b :: t)
theorem Ch.tail {a : α} : ∀ {t : List α}, Ch R (a :: t) → Ch R t
  | [], _ => trivial
  | _ :: _, h => h.2
theorem Ch.drop : ∀ {a b : List α}, Ch R (a ++ b) → Ch R b
  | [], _, h => h
  | _ :: a, b, h => Ch.drop (a := a) (Ch.tail h)
theorem Ch.take : ∀ {a b : List α}, Ch R (a ++ b) → Ch R a
  | [], _, _ => trivial
  | [_], _, _ => trivial
  | _ :: y :: a, b, h => ⟨h.1, Ch.take (a := y :: a) h.2⟩
theorem Ch.snoc {r : α} : ∀ {l : List α}, Ch R l → (∀ x, l.getLast? = some x → waited R x = some r) → Ch R (l ++ [r])
  | [], _, _ => trivial
  | [a], _, h => ⟨h a rfl, trivial⟩
  | a :: b :: t, hc, h => ⟨hc.1, Ch.snoc (l := b :: t) hc.2 fun x hx => h x (by rw [List.getLast?_cons_cons]; exact hx)⟩
theorem Ch.append : ∀ {l m : List α} {r : α}, Ch R l → Ch R (r :: m) → (∀ x, l.getLast? = some x → waited R x = some r) → Ch R (l ++ r :: m)
  | [], _, _, _, hm, _ => hm
  | [a], _, _, _, hm, h => ⟨h a rfl, hm⟩
  | a :: b :: t, m, r, hc, hm, h => ⟨hc.1, Ch.append (l := b :: t) hc.2 hm fun x hx => h x (by rw [List.getLast?_cons_cons]; exact hx)⟩
theorem Ch.link : ∀ {l m : List α} {r x : α}, Ch R (l ++ r :: m) → l.getLast? = some x → waited R x = some r
  | [], _, _, _, _, h => by cases h
  | [a], _, _, _, hc, h => by
    have e : a = _ := Option.some.inj h
    rw [← e]
    exact hc.1
  | a :: b :: t, m, r, x, hc, h => Ch.link (l := b :: t) (m := m) hc.2 (by rw [List.getLast?_cons_cons] at h; exact h)
/-- where a walk stands: what it has found, and that it still comes to the path -/
structure PInv (R : List (α × α)) (k : α) (found : List α) (row : Option α) : Prop where
  nd : found.Nodup
  sub : ∀ x ∈ found, x ∈ keys R
  ch : Ch R found
  hd : found.head? = some k
  rw_ : found.getLast?.bind (waited R) = row
  go : pathGo R (R.length + 2 - found.length) found row = pathOf R k
theorem PInv.len {k : α} {found : List α} {row : Option α} (p : PInv R k found row) : found.length ≤ R.length := by
  have h := length_le_of_sub p.nd p.sub
  unfold keys at h
  rw [List.length_map] at h
  exact h
theorem PInv.start {k : α} (h : k ∈ keys R) : PInv R k [k] (waited R k) :=
  ⟨by simp, fun x hx => by rw [List.mem_singleton.mp hx]; exact h, trivial, rfl, rfl, rfl⟩
theorem PInv.rowKey {k r : α} {found : List α} (p : PInv R k found (some r)) : r ∈ keys R := by
  have h := p.rw_
  cases hl : found.getLast? with
  | none => rw [hl] at h; cases h
  | some l =>
    rw [hl] at h
    exact waited_key (show waited R l = some r from h)
theorem PInv.step {k r : α} {found : List α} (p : PInv R k found (some r)) (h : r ∉ found) : PInv R k (found ++ [r]) (waited R r) := by
  have hl := p.len
  have hsub : ∀ x ∈ found ++ [r], x ∈ keys R := fun x hx => by
    rcases List.mem_append.mp hx with z | z
    · exact p.sub x z
    · rw [List.mem_singleton.mp z]; exact p.rowKey
  refine ⟨?_, hsub, ?_, ?_, by simp, ?_⟩
  · rw [List.nodup_append]
    refine ⟨p.nd, by simp, fun a ha b hb => ?_⟩
    rw [List.mem_singleton.mp hb]
    exact fun z => h (z ▸ ha)
  · refine Ch.snoc p.ch fun x hx => ?_
    have z := p.rw_
    rw [hx] at z
    exact z
  · rw [List.head?_append, p.hd]; rfl
  · have g := p.go
    rw [List.length_append, List.length_singleton]
    rw [show R.length + 2 - found.length = (R.length + 2 - (found.length + 1)) + 1 by omega] at g
    rw [← g]
    show _ = if r ∈ found then found else _
    rw [if_neg h]
theorem PInv.endNone {k : α} {found : List α} (p : PInv R k found none) : found = pathOf R k := by
  have hl := p.len
  have g := p.go
  rw [show R.length + 2 - found.length = (R.length + 1 - found.length) + 1 by omega] at g
  exact g
theorem PInv.endIn {k r : α} {found : List α} (p : PInv R k found (some r)) (h : r ∈ found) : found = pathOf R k := by
  have hl := p.len
  have g := p.go
  rw [show R.length + 2 - found.length = (R.length + 1 - found.length) + 1 by omega] at g
  have g' : (if r ∈ found then found else _) = pathOf R k := g
  rw [if_pos h] at g'
  exact g'
/-- what a path is -/
structure IsPath (R : List (α × α)) (k : α) (p : List α) : Prop where
  nd : p.Nodup
  sub : ∀ x ∈ p, x ∈ keys R
  ch : Ch R p
  hd : p.head? = some k
  stop : p.getLast?.bind (waited R) = none ∨ ∃ r, p.getLast?.bind (waited R) = some r ∧ r ∈ p
theorem PInv.all {k : α} : ∀ (n : Nat) {found : List α} {row : Option α}, R.length + 1 - found.length ≤ n → PInv R k found row → ∃ row', PInv R k (pathOf R k) row' ∧ (row' = none ∨ ∃ r, row' = some r ∧ r ∈ pathOf R k)
  | 0, found, row, h, p => by have := p.len; omega
  | n + 1, found, none, h, p => by
    have e := p.endNone
    rw [e] at p
    exact ⟨none, p, .inl rfl⟩
  | n + 1, found, some r, h, p => by
    by_cases hr : r ∈ found
    · have e := p.endIn hr
      rw [e] at p hr
      exact ⟨some r, p, .inr ⟨r, rfl, hr⟩⟩
    · exact PInv.all n (by rw [List.length_append, List.length_singleton]; have := p.len; omega) (p.step hr)
theorem isPath {k : α} (h : k ∈ keys R) : IsPath R k (pathOf R k) := by
  obtain ⟨row, p, hs⟩ := PInv.all (R.length + 1) (by omega) (PInv.start h)
  have e := p.rw_
  rcases hs with rfl | ⟨r, rfl, hr⟩
  · exact ⟨p.nd, p.sub, p.ch, p.hd, .inl e⟩
  · exact ⟨p.nd, p.sub, p.ch, p.hd, .inr ⟨r, e, hr⟩⟩
theorem IsPath.len {k : α} {p : List α} (h : IsPath R k p) : p.length ≤ R.length := by
  have z := length_le_of_sub h.nd h.sub
  unfold keys at z
  rw [List.length_map] at z
  exact z
theorem IsPath.cons {k : α} {p : List α} (h : IsPath R k p) : ∃ t, p = k :: t := by
  have e := h.hd
  cases p with
  | nil => cases e
  | cons a t => exact ⟨t, by rw [Option.some.inj e]⟩
theorem path_go {k : α} {l : List α} (hp : IsPath R k l) : ∀ (rest pre : List α), pre ++ rest = l → pre ≠ [] → ∀ f, rest.length + 1 ≤ f → pathGo R f pre (pre.getLast?.bind (waited R)) = l
  | [], pre, e, hne, f + 1, _ => by
    rw [List.append_nil] at e
    subst e
    rcases hp.stop with z | ⟨r, z, hr⟩
    · rw [z]; rfl
    · rw [z]
      show (if r ∈ pre then pre else _) = pre
      rw [if_pos hr]
  | r :: rest, pre, e, hne, f + 1, hf => by
    obtain ⟨x, hx⟩ : ∃ x, pre.getLast? = some x := by
      cases pre with
      | nil => exact absurd rfl hne
      | cons a t => exact ⟨_, List.getLast?_eq_some_getLast (by simp)⟩
    have hw : waited R x = some r := Ch.link (l := pre) (m := rest) (by rw [e]; exact hp.ch) hx
    have hnin : r ∉ pre := fun z => by
      have hn := hp.nd
      rw [← e, List.nodup_append] at hn
      exact hn.2.2 r z r List.mem_cons_self rfl
    rw [hx]
    show pathGo R (f + 1) pre (waited R x) = l
    rw [hw]
    show (if r ∈ pre then pre else pathGo R f (pre ++ [r]) (waited R r)) = l
    rw [if_neg hnin]
    have ih := path_go hp rest (pre ++ [r]) (by rw [← e, List.append_assoc]; rfl) (by simp) f (by rw [List.length_cons] at hf; omega)
    rw [show (pre ++ [r]).getLast? = some r by simp] at ih
    exact ih
  | [], _, _, _, 0, hf => by omega
  | _ :: _, _, _, _, 0, hf => by omega
/-- a path is known by what it is -/
theorem path_char {k : α} {l : List α} (hp : IsPath R k l) : pathOf R k = l := by
  obtain ⟨t, e⟩ := hp.cons
  have hl := hp.len
  rw [e, List.length_cons] at hl
  have z := path_go hp t [k] (by rw [e]; rfl) (by simp) (R.length + 1) (by omega)
  exact z
end

/-! ### the ints -/
section
variable {R : List (Int × Int)}
theorem exists_min : ∀ {l : List Int}, l ≠ [] → ∃ m, m ∈ l ∧ ∀ y ∈ l, m ≤ y
  | [], h => absurd rfl h
  | [a], _ => ⟨a, by simp, fun y hy => by rw [List.mem_singleton.mp hy]; omega⟩
  | a :: b :: t, _ => by
    obtain ⟨m, hm, hle⟩ := exists_min (l := b :: t) (by simp)
    by_cases h : a ≤ m
    · exact ⟨a, by simp, fun y hy => by
        rcases List.mem_cons.mp hy with rfl | hy
        · omega
        · have := hle y hy; omega⟩
    · exact ⟨m, List.mem_cons_of_mem _ hm, fun y hy => by
        rcases List.mem_cons.mp hy with rfl | hy
        · omega
        · exact hle y hy⟩
/-- a ring: a path whose last row waits for its first, the least one first -/
theorem ring_of_cycle {r : Int} {b : List Int} (hn : (r :: b).Nodup) (hs : ∀ x ∈ r :: b, x ∈ keys R) (hc : Ch R (r :: b)) (hl : (r :: b).getLast?.bind (waited R) = some r) : rings R ≠ [] := by
  obtain ⟨m, hm, hle⟩ := exists_min (l := r :: b) (by simp)
  obtain ⟨a, c, e⟩ := List.append_of_mem hm
  -- the ring begun at m
  have key : ∃ l, IsPath R m l ∧ (∀ y ∈ l, m ≤ y) ∧ l.getLast?.bind (waited R) = some m := by
    cases a with
    | nil =>
      have e' : r :: b = m :: c := e
      refine ⟨m :: c, ⟨e' ▸ hn, e' ▸ hs, e' ▸ hc, rfl, .inr ⟨m, ?_, by simp⟩⟩, e' ▸ hle, ?_⟩
      · rw [← e', hl, (List.cons.inj e').1]
      · rw [← e', hl, (List.cons.inj e').1]
    | cons a0 a =>
      have e0 : a0 = r := (List.cons.inj (show r :: b = a0 :: (a ++ m :: c) from e)).1.symm
      subst e0
      have e1 : a0 :: b = (a0 :: a) ++ m :: c := e
      have hc' : Ch R ((a0 :: a) ++ m :: c) := e1 ▸ hc
      have c1 : Ch R (m :: c) := Ch.drop hc'
      have c2 : Ch R (a0 :: a) := Ch.take hc'
      have hl' : (m :: c).getLast?.bind (waited R) = some a0 := by
        rw [e1] at hl
        rw [last_app _ (by simp)] at hl
        exact hl
      have hperm : ((m :: c) ++ (a0 :: a)).Perm (a0 :: b) := by
        rw [e1]
        exact List.perm_append_comm
      obtain ⟨x, hx⟩ : ∃ x, (a0 :: a).getLast? = some x := ⟨_, List.getLast?_eq_some_getLast (by simp)⟩
      have hlast : ((m :: c) ++ a0 :: a).getLast?.bind (waited R) = some m := by
        rw [last_app _ (by simp), hx]
        exact Ch.link (l := a0 :: a) (m := c) hc' hx
      refine ⟨(m :: c) ++ (a0 :: a), ⟨hperm.nodup_iff.mpr hn, fun x hx => hs x (hperm.mem_iff.mp hx), ?_, rfl, .inr ⟨m, hlast, by simp⟩⟩, fun y hy => hle y (hperm.mem_iff.mp hy), hlast⟩
      refine Ch.append c1 c2 fun x hx => ?_
      rw [hx] at hl'
      exact hl'
  obtain ⟨l, hp, hmin, hlast⟩ := key
  have e2 := path_char hp
  have hk : m ∈ keys R := hs m hm
  have hon : onRing R m (pathOf R m) = true := by
    rw [e2]
    unfold onRing
    rw [hlast, decide_eq_true rfl, Bool.true_and, List.all_eq_true]
    intro y hy
    have := hmin y hy
    rw [decide_eq_false (by omega)]
    rfl
  intro z
  have hin : pathOf R m ∈ rings R := by
    unfold rings
    exact List.mem_filterMap.mpr ⟨m, hk, by rw [if_pos hon]⟩
  rw [z] at hin
  cases hin
/-- no ring: some row is ready as long as not all are done -/
theorem ready_ne {done : List Int} (hr : rings R = []) (hk : (keys R).Nodup) (hd : done.length < R.length) : ready R done ≠ [] := by
  intro hz
  have closed : ∀ k ∈ keys R, k ∉ done → ∃ r, waited R k = some r ∧ r ∉ done := fun k hkk hnd => by
    have h : isReady R done k ≠ true := fun z => by
      have hin : k ∈ ready R done := List.mem_filter.mpr ⟨hkk, z⟩
      rw [hz] at hin
      cases hin
    unfold isReady at h
    rw [decide_eq_true hnd, Bool.true_and] at h
    cases hw : waited R k with
    | none => rw [hw] at h; exact absurd rfl h
    | some r =>
      rw [hw] at h
      exact ⟨r, rfl, fun z => h (decide_eq_true z)⟩
  obtain ⟨k0, hk0, hn0⟩ : ∃ k, k ∈ keys R ∧ k ∉ done := by
    refine Classical.byContradiction fun hno => ?_
    have hsub : ∀ x ∈ keys R, x ∈ done := fun x hx => Classical.byContradiction fun z => hno ⟨x, hx, z⟩
    have := length_le_of_sub hk hsub
    unfold keys at this
    rw [List.length_map] at this
    omega
  have hp := isPath hk0
  have alln : ∀ (l : List Int) (k : Int), Ch R (k :: l) → (∀ x ∈ k :: l, x ∈ keys R) → k ∉ done → ∀ x ∈ k :: l, x ∉ done := by
    intro l
    induction l with
    | nil => intro k _ _ h x hx; rw [List.mem_singleton.mp hx]; exact h
    | cons b t ih =>
      intro k hc hs h x hx
      rcases List.mem_cons.mp hx with rfl | hx
      · exact h
      · obtain ⟨r, e1, e2⟩ := closed k (hs k (by simp)) h
        have e3 : some r = some b := by rw [← e1]; exact hc.1
        rw [Option.some.inj e3] at e2
        exact ih b hc.2 (fun y hy => hs y (List.mem_cons_of_mem _ hy)) e2 x hx
  obtain ⟨t, et⟩ := hp.cons
  have hch := hp.ch
  have hsub := hp.sub
  rw [et] at hch hsub
  obtain ⟨x, hx⟩ : ∃ x, (pathOf R k0).getLast? = some x := by rw [et]; exact ⟨_, List.getLast?_eq_some_getLast (by simp)⟩
  have hxin : x ∈ pathOf R k0 := List.mem_of_getLast? hx
  obtain ⟨r, hw, _⟩ := closed x (hp.sub x hxin) (alln t k0 hch hsub hn0 x (et ▸ hxin))
  rcases hp.stop with z | ⟨r', z, hr'⟩
  · rw [hx] at z
    rw [show waited R x = none from z] at hw
    cases hw
  · obtain ⟨a, b, e⟩ := List.append_of_mem hr'
    have hnd := hp.nd
    have hch' := hp.ch
    have hsub' := hp.sub
    rw [e] at z hnd hch' hsub'
    rw [last_app _ (by simp)] at z
    exact ring_of_cycle (R := R) (List.nodup_append.mp hnd).2.1 (fun y hy => hsub' y (List.mem_append_right _ hy)) (Ch.drop hch') z hr
end
end RC
end
section
set_option Elab.async false
set_option linter.all false
set_option maxRecDepth 100000
set_option maxHeartbeats 4000000
/-! Rules beside the layer's: own special methods, calls by position. -/
namespace RcX
open PySem PySem.Spec PyProof.Rows L2

/-- the class at C (or one above) has the special method m as the def at g -/
structure Own (K : PySem.W.Frag) (C : Addr) (m : Str) (g : Addr) : Prop where
  ha : PySem.W.findIn K (.ref C) m = some (some (.ref g))
  hf : PySem.W.isFn K (.ref g) = true
  hi : PySem.W.fnIn K g = true

section
variable {X : Cx} {CX : CXT} {pins : List (Addr × Obj)} {σ : L2.St} {H : Hp} {s : Shared} {a C dx g : Addr} {fs : List (Str × V)} {k : Nat} {sp : Sp} {E : XK}
theorem instAt (I : Inv X pins σ H s) (e : H a = some (.ins C dx fs)) : ∃ od, PySem.W.InstAt s.heap a (PySem.W.instObj C dx) C (some od) := by
  obtain ⟨mA, O, _⟩ := ins_get I.hok e
  obtain ⟨od, J, _⟩ := O.look
  exact ⟨od, J⟩
/-- the callee runs, the caller's own thread some levels deeper -/
theorem run_in {A : Around} {Q : VK} {us : List Value} {vs : List V} (F : FnR X.prog X.w X.K X.mg X.base CX k g sp) (hr : Room k A) (e0 : Env0 X.prog X.w X.K X.mg X.base A X.stack s H) (hx : Passes CX X E) (I : Inv X pins σ H s) (r : Vals vs us) (h : sp vs H Q E) :
    wpAny (model X.prog X.w) A (call (.ref g) us) (EP X pins σ Q) X.xe s := by
  refine wpAny_call (codeAny_mono (F A X.stack s H us vs Q E hr e0 r h) fun r s' hq => ?_)
  rcases r with er | fl
  · exact hx pins σ H s er s' I hq
  · cases fl with
    | ret u => exact I.after hq
    | next => exact hq.elim
    | brk => exact hq.elim
    | cont => exact hq.elim
theorem run_at0 {Q : VK} {us : List Value} {vs : List V} (F : FnR X.prog X.w X.K X.mg X.base CX k g sp) (hr : Room k X.A) (hx : Passes CX X E) (I : Inv X pins σ H s) (r : Vals vs us) (h : sp vs H Q E) :
    wpAny (model X.prog X.w) X.A (call (.ref g) us) (EP X pins σ Q) X.xe s := run_in F hr I.env0 hx I r h
end

/-! ### a def by its name -/
structure Fnc (P : Program) (w : World) (K : PySem.W.Frag) (mg : Str → Option Value) (base : Heap) (CX : CXT) (k : Nat) (x : Str) (sp : Sp) : Prop where
  ex : ∃ f : Addr, FnR P w K mg base CX k f sp ∧ mg x = some (.ref f) ∧ PySem.W.keepIn K (.ref f) = true
/-- a special method, a method -/
structure Mth (P : Program) (w : World) (K : PySem.W.Frag) (mg : Str → Option Value) (base : Heap) (CX : CXT) (k : Nat) (C : Addr) (m : Str) (sp : Sp) : Prop where
  ex : ∃ g : Addr, Own K C m g ∧ FnR P w K mg base CX k g sp ∧ PySem.W.keepIn K (.ref g) = true
/-- e(..) by position: the promise at the arguments -/
def tFn (sp : Sp) (E : XK) (t : TA) : TE := fun σ H Q => t σ H fun vs H1 => sp vs H1 Q E
section
variable {X : Cx} {CX : CXT} {j k : Nat} {x m : Str} {C : Addr} {sp : Sp} {E : XK} {e o value slice : Expr} {es : List Expr} {te ta tb to : TE} {t : TA} {p pos apos : Pos}
theorem pe_f (c : Fnc X.prog X.w X.K X.mg X.base CX k x sp) (hr : Room j X.A) (hk : k ≤ j) (hx : Passes CX X E) (hg : Gl X x) (ha : PA X (e :: es) t)
    (hdb : (x == ("__debug__" : Str)) = false := by decide) (he : starEach (e :: es) X.env = (false, eval e X.env) :: starEach es X.env := by rfl) (hpl : (backTo pos (starEach es X.env)).any (·.1) = false := by rfl) :
    PE X (.Call (.Name x p) (e :: es) [] pos) (tFn sp E t) := by
  obtain ⟨f, F, hm, kp⟩ := c.ex
  refine ⟨fun pins s σ H Q I h => ?_⟩
  refine wpAny_Call_Name_kw (ld_glob I hg hm ?_ hdb)
  exact PySem.W.callWith_K (h₀ := X.base) I.ok.mod.kin kp (thn (ha.run pos pins s σ H _ I h) fun us s1 ⟨vs, H1, I1, r, q⟩ => ⟨I1.kIn, run_at0 F (hr.mono hk) hx I1 r q⟩) he hpl
/-- o.m(e, ..), o an instance of C -/
def tMt (C : Addr) (m : Str) (sp : Sp) (E : XK) (to : TE) (t : TA) : TE := fun σ H Q => to σ H fun y H1 => ∃ a dx fs, y = .ref a ∧ H1 a = some (.ins C dx fs) ∧ fs.lookup m = none ∧ t σ H1 fun vs H2 => sp (y :: vs) H2 Q E
theorem pe_m {pl : Sem Bool} (c : Mth X.prog X.w X.K X.mg X.base CX k C m sp) (cl : Cls X.K C) (hr : Room j X.A) (hk : k ≤ j) (hx : Passes CX X E) (ho : PE X o to) (ha : PA X (e :: es) t)
    (he : starEach (e :: es) X.env = (false, eval e X.env) :: starEach es X.env := by rfl) (hpl : (backTo pos (starEach es X.env)).any (·.1) = false := by rfl)
    (ht : eval (.Call (.Attribute o m apos) (e :: es) [] pos) X.env = (eval o X.env >>= fun ov => standAt apos.atName >>= fun _ => holding [ov] (getMethod ov m pl) >>= fun z =>
      callWith pos z.1 z.2 (backTo pos (starEach (e :: es) X.env)) (backToKw pos (keywordEach [] X.env))) := by rfl) :
    PE X (.Call (.Attribute o m apos) (e :: es) [] pos) (tMt C m sp E to t) := by
  obtain ⟨g, ow, F, kp⟩ := c.ex
  refine ⟨fun pins s σ H Q I h => ?_⟩
  refine PySem.W.methodCall_KW (pl := pl) (thn (ho.run pins s σ H _ I h) fun u s1 ⟨y, H1, I1, ry, a, dx, fs, ey, ea, l, q⟩ => ?_) ht
  subst ey
  obtain rfl : u = Value.ref a := ry
  refine getmeth_ok I1 ea cl ⟨ow.ha, ow.hf, kp⟩ l ?_
  exact PySem.W.callWith_K (first := [.ref a]) (h₀ := X.base) I.ok.mod.kin kp (thn (ha.run pos pins s1 σ H1 _ I1 q) fun us s2 ⟨vs, H2, I2, r, q2⟩ => ⟨I2.kIn, run_at0 (us := .ref a :: us) (vs := .ref a :: vs) F (hr.mono hk) hx I2 (.cons rfl r) q2⟩) he hpl
theorem pe_m0 {pl : Sem Bool} (c : Mth X.prog X.w X.K X.mg X.base CX k C m sp) (cl : Cls X.K C) (hr : Room j X.A) (hk : k ≤ j) (hx : Passes CX X E) (ho : PE X o to)
    (ht : eval (.Call (.Attribute o m apos) [] [] pos) X.env = (eval o X.env >>= fun ov => standAt apos.atName >>= fun _ => holding [ov] (getMethod ov m pl) >>= fun z =>
      callWith pos z.1 z.2 (backTo pos (starEach [] X.env)) (backToKw pos (keywordEach [] X.env))) := by rfl) :
    PE X (.Call (.Attribute o m apos) [] [] pos) (tMt C m sp E to tNil) := by
  obtain ⟨g, ow, F, kp⟩ := c.ex
  refine ⟨fun pins s σ H Q I h => ?_⟩
  refine PySem.W.methodCall_KW (pl := pl) (thn (ho.run pins s σ H _ I h) fun u s1 ⟨y, H1, I1, ry, a, dx, fs, ey, ea, l, q⟩ => ?_) ht
  subst ey
  obtain rfl : u = Value.ref a := ry
  refine getmeth_ok I1 ea cl ⟨ow.ha, ow.hf, kp⟩ l ?_
  exact PySem.W.callWith_K0 (first := [.ref a]) I1.kIn kp (run_at0 (us := [.ref a]) (vs := [.ref a]) F (hr.mono hk) hx I1 (.cons rfl .nil) q)

/-! ### the special methods -/
/-- the value on the left (right) is an instance of C, its special method's promise holds of both -/
def rOwnL (C : Addr) (sp : Sp) (E : XK) : R2 := fun x y H Q => ∃ a dx fs, x = .ref a ∧ H a = some (.ins C dx fs) ∧ sp [x, y] H Q E
def rOwnIn (C : Addr) (sp : Sp) (E : XK) : R2 := fun x y H Q => ∃ a dx fs, y = .ref a ∧ H a = some (.ins C dx fs) ∧ sp [y, x] H (fun z H' => ∃ b, z = .bl b ∧ Q (.bl b) H') E
def rOwnNot (C : Addr) (sp : Sp) (E : XK) : R2 := fun x y H Q => ∃ a dx fs, y = .ref a ∧ H a = some (.ins C dx fs) ∧ sp [y, x] H (fun z H' => ∃ b, z = .bl b ∧ Q (.bl (!b)) H') E
/-- o[i] -/
theorem pe_ixO (c : Mth X.prog X.w X.K X.mg X.base CX k C "__getitem__" sp) (hr : Room j X.A) (hk : k + 1 ≤ j) (hx : Passes CX X E) (ha : PE X value ta) (hb : PE X slice tb)
    (hs : ∀ ov iv, subscripted slice true ov iv = runValue (.builtin "lifetime.subscript" ⟨[ov, iv], []⟩) := by intro _ _; with_unfolding_all rfl) :
    PE X (.Subscript value slice pos) (tOp (rOwnL C sp E) ta tb) := by
  obtain ⟨g, ow, F, kp⟩ := c.ex
  refine ⟨fun pins s σ H Q I h => ?_⟩
  refine Subscript_ (binT ha hb I h fun v u s2 x y H2 I2 rx ry q => ?_)
  obtain ⟨a, dx, fs, rfl, ea, q⟩ := q
  obtain rfl : v = Value.ref a := rx
  obtain ⟨m, fr⟩ := I2.fr
  obtain ⟨od, J⟩ := instAt I2 ea
  have r1 : Room k X.A.in1 := (show Room (k + 1) X.A from hr.mono hk).in1
  exact PySem.W.sub_K fr I2.ok.mod.kin J ow.ha ow.hi ow.hf (run_in (us := [.ref a, u]) (vs := [.ref a, y]) F r1 I2.env0.in1 hx I2 (.cons rfl (.cons ry .nil)) q) (hs _ _)
/-- x in o -/
theorem op_inO (c : Mth X.prog X.w X.K X.mg X.base CX k C "__contains__" sp) (hr : Room j X.A) (hk : k ≤ j) (hx : Passes CX X E) : OpR X (compareOp .In) (rOwnIn C sp E) := by
  obtain ⟨g, ow, F, kp⟩ := c.ex
  intro pins s σ H x y v u Q I rx ry h
  obtain ⟨a, dx, fs, rfl, ea, q⟩ := h
  obtain rfl : u = Value.ref a := ry
  obtain ⟨m, fr⟩ := I.fr
  obtain ⟨od, J⟩ := instAt I ea
  refine PySem.W.in_K fr I.ok.mod.kin J ow.ha ow.hf (thn (run_at0 (us := [.ref a, v]) (vs := [.ref a, x]) F (hr.mono hk) hx I (.cons rfl (.cons rx .nil)) q) fun r s' ⟨z, H', I', rz, b, ez, q'⟩ => ?_)
  subst ez
  obtain rfl : r = Value.bool b := rz
  exact wpAny_truthy_bool ⟨.bl b, H', I', rfl, q'⟩
theorem op_notInO (c : Mth X.prog X.w X.K X.mg X.base CX k C "__contains__" sp) (hr : Room j X.A) (hk : k ≤ j) (hx : Passes CX X E) : OpR X (compareOp .NotIn) (rOwnNot C sp E) := by
  obtain ⟨g, ow, F, kp⟩ := c.ex
  intro pins s σ H x y v u Q I rx ry h
  obtain ⟨a, dx, fs, rfl, ea, q⟩ := h
  obtain rfl : u = Value.ref a := ry
  obtain ⟨m, fr⟩ := I.fr
  obtain ⟨od, J⟩ := instAt I ea
  refine PySem.W.notIn_K fr I.ok.mod.kin J ow.ha ow.hf (thn (run_at0 (us := [.ref a, v]) (vs := [.ref a, x]) F (hr.mono hk) hx I (.cons rfl (.cons rx .nil)) q) fun r s' ⟨z, H', I', rz, b, ez, q'⟩ => ?_)
  subst ez
  obtain rfl : r = Value.bool b := rz
  exact wpAny_truthy_bool ⟨.bl (!b), H', I', rfl, q'⟩
/-- len(o) -/
def rLenO (C : Addr) (sp : Sp) (E : XK) : List V → Hp → VK → Prop := fun xs H Q => ∃ a dx fs, xs = [.ref a] ∧ H a = some (.ins C dx fs) ∧ sp [.ref a] H (fun z H' => ∃ n : Int, z = .int n ∧ (0 ≤ n ∧ n < 2 ^ 63) ∧ Q (.int n) H') E
theorem call_lenO (c : Mth X.prog X.w X.K X.mg X.base CX k C "__len__" sp) (hr : Room j X.A) (hk : k + 1 ≤ j) (hx : Passes CX X E) : CallR X (.builtin "len") (rLenO C sp E) := by
  obtain ⟨g, ow, F, kp⟩ := c.ex
  intro pins s σ H xs us Q I r h
  obtain ⟨a, dx, fs, rfl, ea, q⟩ := h
  obtain ⟨u, rfl, ru⟩ := r.one
  obtain rfl : u = Value.ref a := ru
  obtain ⟨m, fr⟩ := I.fr
  obtain ⟨od, J⟩ := instAt I ea
  have r1 : Room k X.A.in1 := (show Room (k + 1) X.A from hr.mono hk).in1
  refine PySem.W.len_K fr I.ok.mod.kin J ow.ha ow.hf (thn (run_in (us := [.ref a]) (vs := [.ref a]) F r1 I.env0.in1 hx I (.cons rfl .nil) q) fun z s' ⟨y, H', I', rz, n, ey, hn, q'⟩ => ?_)
  subst ey
  obtain ⟨t, rfl⟩ := rz
  exact ⟨hn, .int n, H', I'.tok _, ⟨_, rfl⟩, q'⟩
/-- o + t, t a tuple -/
def rAddO (K : PySem.W.Frag) (C : Addr) (sp : Sp) (E : XK) : R2 := fun x y H Q => ∃ a dx fs t ys, x = .ref a ∧ H a = some (.ins C dx fs) ∧ y = .ref t ∧ SqT K H t ys ∧ sp [x, y] H (fun z H' => ∃ q, z = .ref q ∧ Q (.ref q) H') E
theorem op_addO (c : Mth X.prog X.w X.K X.mg X.base CX k C "__add__" sp) (hc : PySem.W.selfFirst X.K C = true) (hr : Room j X.A) (hk : k ≤ j) (hx : Passes CX X E) : OpR X (binaryOp .Add) (rAddO X.K C sp E) := by
  obtain ⟨g, ow, F, kp⟩ := c.ex
  intro pins s σ H x y v u Q I rx ry h
  obtain ⟨a, dx, fs, t, ys, rfl, ea, rfl, ht, q⟩ := h
  obtain rfl : v = Value.ref a := rx
  obtain rfl : u = Value.ref t := ry
  obtain ⟨od, J⟩ := instAt I ea
  obtain ⟨its, _, ⟨ot, hot, hct, _⟩, _⟩ := I.tuple ht
  obtain ⟨cd, rest, hcd, hm⟩ := PySem.W.ksp_first hc
  have KX := I.kIn
  have hT : s.TypeIs (.ref t) "tuple" := ⟨ot, hot, hct⟩
  have hd : dunder "add" = ("__add__" : Str) := by decide +kernel
  have hadd : PySem.W.findIn X.K (.ref C) (dunder "add") = some (some (.ref g)) := by rw [hd]; exact ow.ha
  unfold binaryOp
  refine wpAny_holding (wpAny_bind ?_)
  unfold binaryOp1
  refine wpAny_bind (J.type.here (wpAny_bind (wpAny_typeOf hT (wpAny_bind ((PySem.W.fills_K KX hcd hm hadd).here ?_)))))
  have hne : (Value.ref C == Value.type "tuple") = false := rfl
  simp only [hne, Bool.false_eq_true, if_false]
  refine wpAny_bind (wpAny_of_eq (a := false) noFill_tuple_add ?_)
  simp only [Bool.and_false, Bool.false_and, Bool.false_eq_true, if_false]
  refine wpAny_bind (wpAny_pure ?_)
  simp only [Bool.false_eq_true, if_false, if_true]
  refine wpAny_bind ?_
  unfold tryMethod
  refine wpAny_bind (PySem.W.special_fn KX J hadd (beq_iff_eq.mp ow.hf) (thn (run_at0 (us := [.ref a, .ref t]) (vs := [.ref a, .ref t]) F (hr.mono hk) hx I (.cons rfl (.cons rfl .nil)) q) fun r s' ⟨z, H', I', rz, q1, ez, q'⟩ => ?_))
  subst ez
  obtain rfl : r = Value.ref q1 := rz
  exact wpAny_pure (wpAny_pure (wpAny_pure ⟨.ref q1, H', I', rfl, q'⟩))
end
end RcX
end
section
set_option Elab.async false
set_option linter.all false
set_option maxRecDepth 100000
set_option maxHeartbeats 4000000
namespace RcX
open PySem PySem.Spec PyProof.Rows L2

/-! ### making instances -/
/-- C(..) by position: a new instance, then its __init__'s promise -/
def tNew (C : Addr) (sp : Sp) (E : XK) (vs : List V) (H1 : Hp) (Q : VK) : Prop := ∀ x dx, H1 x = none → H1 dx = none → dx ≠ x →
  sp (.ref x :: vs) (upd (upd H1 dx (.own x)) x (.ins C dx [])) (fun v H2 => v = .non ∧ Q (.ref x) H2) E
structure Cls1 (P : Program) (w : World) (K : PySem.W.Frag) (mg : Str → Option Value) (base : Heap) (CX : CXT) (k : Nat) (x : Str) (C : Addr) (sp : Sp) : Prop where
  ex : ∃ f : Addr, Mk K C f ∧ FnR P w K mg base CX k f sp ∧ mg x = some (.ref C)
section
variable {X : Cx} {CX : CXT} {j k : Nat} {x m : Str} {C f : Addr} {sp : Sp} {E : XK} {e o : Expr} {es : List Expr} {te to : TE} {t : TA} {p pos apos sp_ : Pos}
/-- C() -/
theorem pe_new0 (c : Cls1 X.prog X.w X.K X.mg X.base CX k x C sp) (hr : Room j X.A) (hk : k + 1 ≤ j) (hx : Passes CX X E) (hg : Gl X x) (hdb : (x == ("__debug__" : Str)) = false := by decide) :
    PE X (.Call (.Name x p) [] [] pos) (fun σ H Q => tNew C sp E [] H Q) := by
  obtain ⟨f, M, F, hm⟩ := c.ex
  refine ⟨fun pins s σ H Q I h => ?_⟩
  refine wpAny_Call_Name_kw (ld_glob I hg hm ?_ hdb)
  exact PySem.W.callWith_K0 I.kIn M.kp (StX.run_makeR (us := []) (vs := []) M F (hr.mono hk) hx I .nil h)
/-- C(e, ..) -/
theorem pe_new (c : Cls1 X.prog X.w X.K X.mg X.base CX k x C sp) (hr : Room j X.A) (hk : k + 1 ≤ j) (hx : Passes CX X E) (hg : Gl X x) (ha : PA X (e :: es) t) (hdb : (x == ("__debug__" : Str)) = false := by decide)
    (he : starEach (e :: es) X.env = (false, eval e X.env) :: starEach es X.env := by rfl) (hpl : (backTo pos (starEach es X.env)).any (·.1) = false := by rfl) :
    PE X (.Call (.Name x p) (e :: es) [] pos) (fun σ H Q => t σ H fun vs H1 => tNew C sp E vs H1 Q) := by
  obtain ⟨f, M, F, hm⟩ := c.ex
  refine ⟨fun pins s σ H Q I h => ?_⟩
  refine wpAny_Call_Name_kw (ld_glob I hg hm ?_ hdb)
  exact PySem.W.callWith_K (h₀ := X.base) I.ok.mod.kin M.kp (thn (ha.run pos pins s σ H _ I h) fun us s1 ⟨vs, H1, I1, r, q⟩ => ⟨I1.kIn, StX.run_makeR M F (hr.mono hk) hx I1 r q⟩) he hpl
/-- C(*e) -/
theorem pe_newS (c : Cls1 X.prog X.w X.K X.mg X.base CX k x C sp) (hr : Room j X.A) (hk : k + 1 ≤ j) (hx : Passes CX X E) (hg : Gl X x) (he : PE X e te) (hdb : (x == ("__debug__" : Str)) = false := by decide)
    (hst : starEach [.Starred e sp_] X.env = [(true, eval e X.env)] := by rfl) :
    PE X (.Call (.Name x p) [.Starred e sp_] [] pos) (fun σ H Q => te σ H fun y H1 => ∃ a xs, y = .ref a ∧ SqL X.K H1 a xs ∧ tNew C sp E xs H1 Q) := by
  obtain ⟨f, M, F, hm⟩ := c.ex
  refine ⟨fun pins s σ H Q I h => ?_⟩
  refine wpAny_Call_Name_kw (ld_glob I hg hm ?_ hdb)
  refine PySem.W.callWith_S (h₀ := X.base) I.ok.mod.kin M.kp (thn (he.run pins s σ H _ I h) fun v s1 ⟨y, H1, I1, ry, a, xs, ey, hxs, q⟩ => ?_) hst
  subst ey
  obtain rfl : v = Value.ref a := ry
  exact StX.star_lst I1 hxs fun us s2 I2 rv => ⟨I2.kIn, StX.run_makeR M F (hr.mono hk) hx I2 rv q⟩
/-- C() of a class without an __init__ of its own or above -/
structure Bare (K : PySem.W.Frag) (C : Addr) : Prop where
  makes : PySem.W.makesIn K C = true
  init : PySem.W.findIn K (.ref C) "__init__" = some (some (.builtin "object.__init__"))
  kp : PySem.W.keepIn K (.ref C) = true
theorem pe_bare (M : Bare X.K C) (hg : Gl X x) (hm : X.mg x = some (.ref C)) (hdb : (x == ("__debug__" : Str)) = false := by decide) :
    PE X (.Call (.Name x p) [] [] pos) (fun σ H Q => ∀ a dx, H a = none → H dx = none → dx ≠ a → Q (.ref a) (upd (upd H dx (.own a)) a (.ins C dx []))) := by
  refine ⟨fun pins s σ H Q I h => ?_⟩
  refine wpAny_Call_Name_kw (ld_glob I hg hm ?_ hdb)
  refine PySem.W.callWith_K0 I.kIn M.kp ?_
  have q := h (s.heap.objs.size + 1) s.heap.objs.size (I.hok.fresh (Nat.le_succ _)) (I.hok.fresh (Nat.le_refl _)) (Nat.ne_of_lt (Nat.lt_succ_self _))
  have J := Inv.made (C := C) I
  have KX := I.kIn
  obtain ⟨hh, g, d, tk, os⟩ := s
  have Y := PySem.W.makes_of (M := model X.prog X.w) KX M.makes
  show wpAny _ _ (call (.ref C) []) _ _ _
  refine wpAny_call (PySem.W.make_core Y (PySem.W.looks_findIn KX M.init) (fun self => PySem.W.Looks.of_pure (PySem.W.oi_bind self)) (.inr ⟨rfl, rfl⟩) ?_)
  have hx : ((hh.push PySem.W.emptyDict).push (PySem.W.instObj C hh.objs.size)).get? (hh.objs.size + 1) = some (PySem.W.instObj C hh.objs.size) := by heap_get
  have ty : PySem.W.Looks (model X.prog X.w) ((hh.push PySem.W.emptyDict).push (PySem.W.instObj C hh.objs.size)) (typeOf (.ref (hh.objs.size + 1))) (.ref C) := (PySem.W.Looks.ld hx).andThen .now
  have isO : PySem.W.Looks (model X.prog X.w) ((hh.push PySem.W.emptyDict).push (PySem.W.instObj C hh.objs.size)) (isInstance (.ref (hh.objs.size + 1)) (.type "object")) true :=
    ty.andThen (Y.top.keeps fun b o z => Heap.get?_push_of_some _ (Heap.get?_push_of_some _ z))
  refine codeAny_call_builtin PySem.W.oi_plain PySem.W.entry_oi (@PySem.W.check_slot (model X.prog X.w) _ _ _ "object.__init__" "object" "__init__" (.ref (hh.objs.size + 1)) [] [] _ PySem.W.oi_kind PySem.W.oi_split isO (PySem.W.oi_args _) ?_)
  rw [PySem.W.oi_run]
  exact wpAny_pure ⟨rfl, .ref (hh.objs.size + 1), _, J, rfl, q⟩

/-! ### a static method off its class -/
structure Stat (K : PySem.W.Frag) (C : Addr) (m : Str) (g : Addr) : Prop where
  ga : PySem.W.specialIn K (.ref C) "__getattribute__" = some (some (.builtin "type.__getattribute__"))
  ty : PySem.W.typeIn K (.ref C) = some (.type "type")
  rd : PySem.W.readsIn K C (.type "type") = true
  fnd : ∃ q rest, PySem.W.findCls K (.ref C) (.type "type") m = some (.get (.builtin "staticmethod.__get__") (.ref q) .none (.ref C)) ∧ PySem.W.recIn K q "staticmethod" = some (.ref g :: rest)
  kp : PySem.W.keepIn K (.ref g) = true
theorem pe_stat {pl : Sem Bool} {g : Addr} (S : Stat X.K C m g) (F : FnR X.prog X.w X.K X.mg X.base CX k g sp) (hr : Room j X.A) (hk : k ≤ j) (hx : Passes CX X E) (hg : Gl X x) (hm : X.mg x = some (.ref C)) (ha : PA X (e :: es) t)
    (hdb : (x == ("__debug__" : Str)) = false := by decide) (he : starEach (e :: es) X.env = (false, eval e X.env) :: starEach es X.env := by rfl) (hpl : (backTo pos (starEach es X.env)).any (·.1) = false := by rfl)
    (ht : eval (.Call (.Attribute (.Name x p) m apos) (e :: es) [] pos) X.env = (eval (.Name x p) X.env >>= fun ov => standAt apos.atName >>= fun _ => holding [ov] (getMethod ov m pl) >>= fun z =>
      callWith pos z.1 z.2 (backTo pos (starEach (e :: es) X.env)) (backToKw pos (keywordEach [] X.env))) := by rfl) :
    PE X (.Call (.Attribute (.Name x p) m apos) (e :: es) [] pos) (tFn sp E t) := by
  refine ⟨fun pins s σ H Q I h => ?_⟩
  refine PySem.W.methodCall_KW (pl := pl) (ld_glob I hg hm ?_ hdb) ht
  obtain ⟨mm, fr⟩ := I.fr
  obtain ⟨q, rest, h1, h2⟩ := S.fnd
  refine PySem.W.method_of_cls fr I.ok.mod.kin S.ga (PySem.W.cls_sm fr I.ok.mod.kin S.ty S.rd h1 h2 rfl ?_)
  have I1 := I.tok (s.toks + 1)
  exact PySem.W.callWith_K (first := []) (h₀ := X.base) I.ok.mod.kin S.kp (thn (ha.run pos pins _ σ H _ I1 h) fun us s2 ⟨vs, H2, I2, r, q2⟩ => ⟨I2.kIn, run_at0 (us := us) (vs := vs) F (hr.mono hk) hx I2 r q2⟩) he hpl
end
end RcX
end
section
set_option Elab.async false
set_option linter.all false
set_option maxRecDepth 100000
set_option maxHeartbeats 4000000
/-! sorted of a list or a tuple of data. -/
namespace RcX
open PySem PySem.Spec PyProof.Rows L2
open PySem.W (EachIs AllAlike Sortable dataLe alike alikeAll)

mutual
theorem reads_here {h : Heap} {a : Addr} : ∀ (d : PyData) (v : Value) (as : List Addr), alike d d = true → Reads h v d as → a ∈ as → ∃ o, h.get? a = some o
  | .none, _, _, _, r, m => by cases r; cases m
  | .bool _, _, _, _, r, m => by cases r; cases m
  | .int _, _, _, _, r, m => by cases r; cases m
  | .str _, _, _, _, r, m => by cases r; cases m
  | .list xs, _, _, hal, r, m => by
    cases r with
    | list h1 h2 h3 h4 =>
      rcases List.mem_cons.mp m with e | e
      · rw [e]; exact ⟨_, h1⟩
      · exact readsAll_here xs _ _ (by simpa [alike] using hal) h4 e
  | .tuple xs, _, _, hal, r, m => by
    cases r with
    | tuple h1 h2 h3 h4 => exact readsAll_here xs _ _ (by simpa [alike] using hal) h4 m
  | .dict _, _, _, hal, _, _ => absurd hal (by simp [alike])
theorem readsAll_here {h : Heap} {a : Addr} : ∀ (ds : List PyData) (vs : List Value) (as : List Addr), alikeAll ds ds = true → ReadsAll h vs ds as → a ∈ as → ∃ o, h.get? a = some o
  | [], _, _, _, r, m => by cases r; cases m
  | d :: ds, _, _, hal, r, m => by
    obtain ⟨h1', h2'⟩ := PySem.W.alike_all_cons hal
    cases r with
    | cons h1 h2 =>
      rcases List.mem_append.mp m with e | e
      · exact reads_here d _ _ h1' h1 e
      · exact readsAll_here ds _ _ h2' h2 e
end
section
variable {X : Cx} {pins : List (Addr × Obj)} {σ : L2.St} {H : Hp} {s : Shared} {β : Type} {enc : β → PyData}
theorem each_of (I : Inv X pins σ H s) : ∀ {xs : List V} {us : List Value} {bs : List β}, DpAll X.K H xs (bs.map enc) → Vals xs us →
    EachIs (fun v b => ∃ x, RelV x v ∧ Dp X.K H x (enc b)) us bs
  | _, _, [], h, r => by
    have h' : DpAll X.K H _ [] := h
    cases h'
    cases r
    exact .nil
  | _, _, b :: bs, h, r => by
    have h' : DpAll X.K H _ (enc b :: bs.map enc) := h
    cases h' with
    | cons h1 h2 =>
      cases r with
      | cons r1 r2 => exact .cons ⟨_, r1, h1⟩ (each_of I h2 r2)
theorem each_to : ∀ {us : List Value} {bs : List β}, EachIs (fun v b => ∃ x, RelV x v ∧ Dp X.K H x (enc b)) us bs → ∃ ys, Vals ys us ∧ DpAll X.K H ys (bs.map enc)
  | _, _, .nil => ⟨[], .nil, .nil⟩
  | _, _, .cons ⟨x, r, d⟩ t => by
    obtain ⟨ys, h1, h2⟩ := each_to t
    exact ⟨x :: ys, .cons r h1, .cons d h2⟩
def rSortD (K : PySem.W.Frag) : List V → Hp → VK → Prop := fun vs H Q => ∃ (β : Type) (enc : β → PyData) (a : Addr) (xs : List V) (bs : List β), vs = [.ref a] ∧ (SqL K H a xs ∨ SqT K H a xs) ∧ DpAll K H xs (bs.map enc) ∧
  AllAlike (bs.map enc) ∧ Sortable (bs.map enc) ∧ bs.length ≤ 1000 ∧ (∀ b ∈ bs, (enc b).depth ≤ 8) ∧ ∀ ys p, DpAll K H ys ((bs.mergeSort (dataLe false enc)).map enc) → H p = none → Q (.ref p) (upd H p (.lst ys))
theorem cr_sortD {j : Nat} (hr : Room j X.A) : CallR X (.builtin "sorted") (rSortD X.K) := by
  intro pins s σ H vs us Q I r h
  obtain ⟨β, enc, a, xs, bs, rfl, hs, hd, hal, hso, hlen, hdep, q⟩ := h
  obtain ⟨u, rfl, ru⟩ := r.one
  obtain rfl : u = Value.ref a := ru
  -- the items, at any later state
  have col : ∃ its : List Value, Vals xs its ∧ its.length ≤ sizeLine ∧ ∀ (A' : Around) (E' : Value → Shared → Prop) (Q' : List Value → Shared → Prop), (∀ s1, Inv X pins σ H s1 → Q' its s1) → wpAny (model X.prog X.w) A' (collect (.ref a)) Q' E' s := by
    rcases hs with hs | hs
    · obtain ⟨its, rv, pl, hz⟩ := I.list hs
      obtain ⟨o, ho, hc, n, hdt⟩ := pl.isList
      have hl := rv.length
      refine ⟨its, rv, by omega, fun A' E' Q' hQ => wpAny_collect_seq a (.inl rfl) ho hc hdt (fun h' hk => ?_) (by rw [List.size_toArray]; omega)⟩
      have e : its.toArray.toList = its := by simp
      rw [e]
      exact hQ _ (I.kept (t' := s.toks) hk)
    · obtain ⟨its, rv, ⟨o, ho, hc, n, hdt⟩, hz⟩ := I.tuple hs
      have hl := rv.length
      refine ⟨its, rv, by omega, fun A' E' Q' hQ => wpAny_collect_seq a (.inr rfl) ho hc hdt (fun h' hk => ?_) (by rw [List.size_toArray]; omega)⟩
      have e : its.toArray.toList = its := by simp
      rw [e]
      exact hQ _ (I.kept (t' := s.toks) hk)
  obtain ⟨its, rv, hz, col⟩ := col
  refine call_function_entry_kw kind_sorted plain_sorted entry_sorted (args_sorted1 _) ?_
  unfold Builtin.«sorted»
  refine wpAny_bind (m := checkCount "sorted" 1 1 _) (wpAny_pure ?_)
  refine wpAny_bind (col _ _ _ fun s1 I1 => ?_)
  refine wpAny_bind (wpAny_newList ?_ hz)
  have I2 : Inv X pins σ H { s1 with heap := s1.heap.push (seqObj "list" its.toArray 0) } := I1.kept (t' := s1.toks) fun b o e => Heap.get?_push_of_some _ e
  have hp : H s1.heap.objs.size = none := I1.hok.fresh (Nat.le_refl _)
  have ho : (s1.heap.push (seqObj "list" its.toArray 0)).get? s1.heap.objs.size = some (seqObj "list" its.toArray 0) := Heap.get?_push_size _ rfl
  have e1 := each_of I2 hd rv
  have al : ∀ b ∈ bs, alike (enc b) (enc b) = true := fun b hb => hal _ (List.mem_map.mpr ⟨b, hb, rfl⟩) _ (List.mem_map.mpr ⟨b, hb, rfl⟩)
  have er : EachIs (fun v b => ∃ as, Reads (s1.heap.push (seqObj "list" its.toArray 0)) v (enc b) as ∧ s1.heap.objs.size ∉ as) its bs := by
    refine EachIs.of_zip e1.length fun p hp' => ?_
    obtain ⟨x, rx, dx⟩ := e1.zip p hp'
    have hb : p.2 ∈ bs := (List.of_mem_zip hp').2
    obtain ⟨as, ra⟩ := Dp.reads I1 (enc p.2) x p.1 dx rx
    refine ⟨as, PyProof.Rows.Reads.keeps (fun b o e => Heap.get?_push_of_some _ e) ra, fun m => ?_⟩
    obtain ⟨o, e⟩ := reads_here _ _ _ (al _ hb) ra m
    exact absurd (Heap.lt_size e) (Nat.lt_irrefl _)
  have hl2 : bs.length ≤ sizeLine := by rw [sizeLine_eq]; omega
  refine wpAny_bind (wpAny_holding (PySem.W.list_sort_data (vs := its) (n := 0) (bs := bs) (enc := enc) (R := fun v b => ∃ x, RelV x v ∧ Dp X.K H x (enc b)) ho e1 er hal hso hl2 (fun b hb => ?_) fun out hol eo => ?_))
  · have h1 := hr.un
    have h2 := hdep b hb
    show X.A.in1.units + 1 + _ < cLine
    have h3 : X.A.in1.units = X.A.units + 1 := rfl
    omega
  · obtain ⟨ys, ry, dy⟩ := each_to eo
    obtain ⟨c, hc⟩ := PyProof.Rows.sortedHeap_at (vs := its) (out := out.toArray) ho
    have hyl : ys.length ≤ sizeLine := by rw [ry.length, hol]; exact hl2
    have J : Inv X pins σ (upd H s1.heap.objs.size (.lst ys)) { s1 with heap := PyProof.Rows.sortedHeap (s1.heap.push (seqObj "list" its.toArray 0)) s1.heap.objs.size its out.toArray } := by
      refine I1.laid (t' := s1.toks) (fun b o e => ?_) (Nat.le_refl _) ⟨hyl, out, c, ry, hc⟩
      have hlt := Heap.lt_size e
      exact (PyProof.Rows.sortedHeap_old (Nat.ne_of_lt hlt) (by rw [size_push']; exact Nat.lt_succ_of_lt hlt)).trans (Heap.get?_push_of_some _ e)
    exact wpAny_pure ⟨_, rfl, .ref s1.heap.objs.size, _, J, rfl, q ys _ dy hp⟩
end
end RcX
end
section
set_option Elab.async false
set_option linter.all false
set_option maxRecDepth 100000
set_option maxHeartbeats 4000000
/-! The text by places, the facts of the top, tables. -/
namespace RcX
open PySem PySem.Spec PyProof.Rows L2

abbrev FnAt (K : PySem.W.Frag) (x q : Str) (st : Stmt) (f : Addr) : Prop := ∃ fd : FuncData, FunD K x q (defArgs st) (defBody st) (defScope st) [] [] f fd
/-- the def x of the module, the i-th statement -/
def Glb (K : PySem.W.Frag) (mg : Str → Option Value) (x : Str) (st : Stmt) : Prop := ∃ f : Addr, FnAt K x x st f ∧ mg x = some (.ref f)
/-- the special method m of C -/
def MtA (K : PySem.W.Frag) (C : Addr) (m q : Str) (st : Stmt) : Prop := ∃ f : Addr, FnAt K m q st f ∧ Own K C m f

abbrev BindOk (x q : Str) (st : Stmt) (ps : List Str) : Prop := ∀ (kV doc pm : Value) (an : Option Addr) (cdv ct : Value) (us : List Value), us.length = ps.length →
  bindArgs (PySem.W.fnOf x q (defArgs st) (defBody st) (defScope st) .none kV doc pm an cdv ct) ⟨us, []⟩ = pure (ps.zip us)
section
variable {P : Program} {w : World} {K : PySem.W.Frag} {mg : Str → Option Value} {base : Heap} {CX : CXT} {k : Nat} {x q m : Str} {st : Stmt} {N ps : List Str} {sp : Sp} {C f : Addr}
theorem fnR_of (F : FnAt K x q st f) (S : FnScope N ps (defScope st)) (hb : BindOk x q st ps) (len : ∀ vs H Q E, sp vs H Q E → vs.length = ps.length)
    (hbody : ∀ (cdv : Value) (A : Around) (outer : List Env) (s : Shared) (H : Hp) (vs : List V) (Q : VK) (E : XK), Room k (A.deeper (envOfC q (defScope st) s.heap.objs.size f cdv)) → sp vs H Q E →
      ∃ t, PSs (cxOf CX P w K mg base N q (defScope st) f cdv A outer s H E).nox (defBody st) t ∧ t { nx := fun _ H' => Q .non H', rt := Q } (start N vs) H) : FnR P w K mg base CX (k + 1) f sp := by
  obtain ⟨fd, F⟩ := F
  have b : Binds K fd ps [] := FunD.bindsN F hb
  have G : FnOk P w K mg base CX (k + 1) f fd ps sp := FunD.ok F S len fun cdv A outer s H vs Q E hr h => by
    obtain ⟨t, h1, h2⟩ := hbody cdv A outer s H vs Q E hr h
    exact ⟨t, h1.nox, h2⟩
  exact FnR.imp (FnOk.raw G b .nil) fun vs H Q E h => by rw [List.append_nil]; exact h
theorem fnR_ofX (F : FnAt K x q st f) (S : FnScope N ps (defScope st)) (hb : BindOk x q st ps) (len : ∀ vs H Q E, sp vs H Q E → vs.length = ps.length)
    (hbody : ∀ (cdv : Value) (A : Around) (outer : List Env) (s : Shared) (H : Hp) (vs : List V) (Q : VK) (E : XK), Room k (A.deeper (envOfC q (defScope st) s.heap.objs.size f cdv)) → sp vs H Q E →
      ∃ t, PSs (cxOf CX P w K mg base N q (defScope st) f cdv A outer s H E) (defBody st) t ∧ t { nx := fun _ H' => Q .non H', rt := Q } (start N vs) H) : FnR P w K mg base CX (k + 1) f sp := by
  obtain ⟨fd, F⟩ := F
  have b : Binds K fd ps [] := FunD.bindsN F hb
  have G : FnOk P w K mg base CX (k + 1) f fd ps sp := FunD.ok F S len hbody
  exact FnR.imp (FnOk.raw G b .nil) fun vs H Q E h => by rw [List.append_nil]; exact h
theorem keep_of (F : FnAt K x q st f) : PySem.W.keepIn K (.ref f) = true := by
  obtain ⟨fd, F⟩ := F
  exact F.kp
theorem fnc_of (G : Glb K mg x st) (S : FnScope N ps (defScope st)) (hb : BindOk x x st ps) (len : ∀ vs H Q E, sp vs H Q E → vs.length = ps.length)
    (hbody : ∀ (f : Addr) (cdv : Value) (A : Around) (outer : List Env) (s : Shared) (H : Hp) (vs : List V) (Q : VK) (E : XK), Room k (A.deeper (envOfC x (defScope st) s.heap.objs.size f cdv)) → sp vs H Q E →
      ∃ t, PSs (cxOf CX P w K mg base N x (defScope st) f cdv A outer s H E).nox (defBody st) t ∧ t { nx := fun _ H' => Q .non H', rt := Q } (start N vs) H) : Fnc P w K mg base CX (k + 1) x sp := by
  obtain ⟨f, F, hm⟩ := G
  exact ⟨f, fnR_of F S hb len (hbody f), hm, keep_of F⟩
theorem fnc_ofX (G : Glb K mg x st) (S : FnScope N ps (defScope st)) (hb : BindOk x x st ps) (len : ∀ vs H Q E, sp vs H Q E → vs.length = ps.length)
    (hbody : ∀ (f : Addr) (cdv : Value) (A : Around) (outer : List Env) (s : Shared) (H : Hp) (vs : List V) (Q : VK) (E : XK), Room k (A.deeper (envOfC x (defScope st) s.heap.objs.size f cdv)) → sp vs H Q E →
      ∃ t, PSs (cxOf CX P w K mg base N x (defScope st) f cdv A outer s H E) (defBody st) t ∧ t { nx := fun _ H' => Q .non H', rt := Q } (start N vs) H) : Fnc P w K mg base CX (k + 1) x sp := by
  obtain ⟨f, F, hm⟩ := G
  exact ⟨f, fnR_ofX F S hb len (hbody f), hm, keep_of F⟩
theorem mth_of (G : MtA K C m q st) (S : FnScope N ps (defScope st)) (hb : BindOk m q st ps) (len : ∀ vs H Q E, sp vs H Q E → vs.length = ps.length)
    (hbody : ∀ (f : Addr) (cdv : Value) (A : Around) (outer : List Env) (s : Shared) (H : Hp) (vs : List V) (Q : VK) (E : XK), Room k (A.deeper (envOfC q (defScope st) s.heap.objs.size f cdv)) → sp vs H Q E →
      ∃ t, PSs (cxOf CX P w K mg base N q (defScope st) f cdv A outer s H E).nox (defBody st) t ∧ t { nx := fun _ H' => Q .non H', rt := Q } (start N vs) H) : Mth P w K mg base CX (k + 1) C m sp := by
  obtain ⟨f, F, ow⟩ := G
  exact ⟨f, ow, fnR_of F S hb len (hbody f), keep_of F⟩
end

/-! ### the heap -/
theorem _root_.L2.Same.new {H : Hp} {p : Addr} {o : HO} (n : H p = none) : Same H (upd H p o) := fun b u e => by rw [upd_ne (ne_of_none e n)]; exact e
theorem _root_.L2.Same.up {H H1 : Hp} {p : Addr} {o : HO} (e : Same H H1) (n : H p = none) : Same H (upd H1 p o) := fun b u z => by rw [upd_ne (ne_of_none z n)]; exact e b u z
mutual
theorem Dp.same {K : PySem.W.Frag} {H H' : Hp} (e : Same H H') : ∀ (d : PyData) (v : V), Dp K H v d → Dp K H' v d
  | .none, _, h => by cases h; exact .non
  | .bool _, _, h => by cases h; exact .bl _
  | .int _, _, h => by cases h; exact .int _
  | .str _, _, h => by cases h; exact .str _
  | .list ds, _, h => by
    cases h with
    | lst h1 h2 => exact .lst (e.seq h1) (DpAll.same e ds _ h2)
  | .tuple ds, _, h => by
    cases h with
    | tup h1 h2 => exact .tup (seqT e h1) (DpAll.same e ds _ h2)
  | .dict _, _, h => by cases h
theorem DpAll.same {K : PySem.W.Frag} {H H' : Hp} (e : Same H H') : ∀ (ds : List PyData) (vs : List V), DpAll K H vs ds → DpAll K H' vs ds
  | [], _, h => by cases h; exact .nil
  | d :: ds, _, h => by
    cases h with
    | cons h1 h2 => exact .cons (Dp.same e d _ h1) (DpAll.same e ds _ h2)
theorem seqT {K : PySem.W.Frag} {H H' : Hp} {a : Addr} {xs : List V} (e : Same H H') (h : SqT K H a xs) : SqT K H' a xs := by
  rcases h with (h | ⟨o, h⟩) | h
  · exact .inl (.inl (e _ _ h))
  · exact .inl (.inr ⟨o, e _ _ h⟩)
  · exact .inr h
end
/-- data without lists that stand in the heap: the tuples stay -/
def NoL : PyData → Bool
  | .list _ => false
  | .tuple ds => go ds
  | .dict _ => false
  | _ => true
where go : List PyData → Bool
  | [] => true
  | d :: ds => NoL d && go ds
mutual
theorem Dp.same' {K : PySem.W.Frag} {H H' : Hp} (e : ∀ b xs, H b = some (.tup xs) → H' b = some (.tup xs)) (f : ∀ b o xs, H b = some (.frz o (.tup xs)) → H' b = some (.frz o (.tup xs))) : ∀ (d : PyData) (v : V), NoL d = true → Dp K H v d → Dp K H' v d
  | .none, _, _, h => by cases h; exact .non
  | .bool _, _, _, h => by cases h; exact .bl _
  | .int _, _, _, h => by cases h; exact .int _
  | .str _, _, _, h => by cases h; exact .str _
  | .list ds, _, n, h => by cases n
  | .tuple ds, _, n, h => by
    cases h with
    | tup h1 h2 =>
      refine .tup ?_ (DpAll.same' e f ds _ n h2)
      rcases h1 with (h1 | ⟨o, h1⟩) | h1
      · exact .inl (.inl (e _ _ h1))
      · exact .inl (.inr ⟨o, f _ _ _ h1⟩)
      · exact .inr h1
  | .dict _, _, n, _ => by cases n
theorem DpAll.same' {K : PySem.W.Frag} {H H' : Hp} (e : ∀ b xs, H b = some (.tup xs) → H' b = some (.tup xs)) (f : ∀ b o xs, H b = some (.frz o (.tup xs)) → H' b = some (.frz o (.tup xs))) : ∀ (ds : List PyData) (vs : List V), NoL.go ds = true → DpAll K H vs ds → DpAll K H' vs ds
  | [], _, _, h => by cases h; exact .nil
  | d :: ds, _, n, h => by
    obtain ⟨n1, n2⟩ := Bool.and_eq_true_iff.mp n
    cases h with
    | cons h1 h2 => exact .cons (Dp.same' e f d _ n1 h1) (DpAll.same' e f ds _ n2 h2)
end
theorem NoL.map {β : Type} {enc : β → PyData} (h : ∀ b, NoL (enc b) = true) : ∀ bs : List β, NoL.go (bs.map enc) = true
  | [] => rfl
  | b :: bs => by
    show (NoL (enc b) && NoL.go (bs.map enc)) = true
    rw [h b, NoL.map h bs]; rfl
/-! ### tables -/
structure RowsOk (R : List (Int × Int)) : Prop where
  srt : (R.map (·.1)).Pairwise (· < ·)
  len : R.length ≤ 30
  kb : ∀ p ∈ R, -Big < p.1 ∧ p.1 < Big
  nb : ∀ p ∈ R, -Big < p.2 ∧ p.2 < Big
def kvOf (T : List (Int × Int)) : List (Key × V) := T.map fun p => (Sum.inl p.1, V.int p.2)
def tabF (d : Addr) : List (Str × V) := [("wants", .ref d)]
/-- a Table of the rows R stands at t -/
structure TabAt (C : Addr) (H : Hp) (t : Addr) (R : List (Int × Int)) : Prop where
  ex : ∃ (dx d : Addr) (T : List (Int × Int)), H t = some (.ins C dx (tabF d)) ∧ H d = some (.dK (kvOf T)) ∧ T.Perm R
  ok : RowsOk R
theorem TabAt.same {C t : Addr} {H H' : Hp} {R : List (Int × Int)} (e : Same H H') (h : TabAt C H t R) : TabAt C H' t R := by
  obtain ⟨⟨dx, d, T, h1, h2, h3⟩, h4⟩ := h
  exact ⟨⟨dx, d, T, e _ _ h1, e _ _ h2, h3⟩, h4⟩
theorem RowsOk.nd {R : List (Int × Int)} (h : RowsOk R) : (RC.keys R).Nodup := by
  unfold RC.keys
  exact h.srt.imp fun a => by omega
theorem find_kv (k : Int) : ∀ T : List (Int × Int), valV (kvOf T) (Sum.inl k : Key) = (RC.look T k).map V.int
  | [] => rfl
  | p :: T => by
    have ih := find_kv k T
    unfold valV RC.look at ih ⊢
    unfold kvOf at ih ⊢
    rw [List.map_cons, List.find?_cons, List.find?_cons]
    by_cases h : p.1 = k
    · have h' : (Sum.inl p.1 : Key) = Sum.inl k := by rw [h]
      rw [decide_eq_true h, decide_eq_true h']
      rfl
    · have h' : ¬ (Sum.inl p.1 : Key) = Sum.inl k := fun z => h (Sum.inl.inj z)
      rw [decide_eq_false h, decide_eq_false h']
      exact ih
theorem look_perm {T R : List (Int × Int)} (hp : T.Perm R) (hn : (RC.keys R).Nodup) (k : Int) : RC.look T k = RC.look R k := by
  have hk : (RC.keys T).Perm (RC.keys R) := hp.map _
  by_cases h : k ∈ RC.keys R
  · obtain ⟨n, hn'⟩ := RC.look_some h
    rw [hn']
    exact RC.look_of (hk.nodup_iff.mpr hn) (hp.mem_iff.mpr (RC.look_mem hn'))
  · rw [RC.look_none h, RC.look_none fun z => h (hk.mem_iff.mp z)]
theorem TabAt.val {C t dx d : Addr} {H : Hp} {R T : List (Int × Int)} (ok : RowsOk R) (hp : T.Perm R) (k : Int) : valV (kvOf T) (Sum.inl k : Key) = (RC.look R k).map V.int := by
  rw [find_kv, look_perm hp ok.nd]

/-! ### the facts of the top -/
structure Ads where
  T : Addr
  O : Addr
  R : Addr
structure Tx (K : PySem.W.Frag) (mg : Str → Option Value) (a : Ads) : Prop where
  isi : mg "isinstance" = none
  int : mg "int" = none
  bool : mg "bool" = none
  tuple : mg "tuple" = none
  list : mg "list" = none
  len : mg "len" = none
  all : mg "all" = none
  sorted : mg "sorted" = none
  min : mg "min" = none
  max : mg "max" = none
  range : mg "range" = none
  enum : mg "enumerate" = none
  set : mg "set" = none
  big : ∃ t, mg "KEY_BOUND" = some (.int Big t)
  most : ∃ t, mg "MOST_ROWS" = some (.int 40 t)
  insT : C8.InsC K a.T
  noW : NoAttr K a.T "wants"
  mgT : mg "Table" = some (.ref a.T)
  tupT : PySem.W.kitOne K (.type "tuple") (.ref a.T) = some false
  d_is_integer : Glb K mg "is_integer" (topS 31)
  d_is_key : Glb K mg "is_key" (topS 32)
  d_contains : MtA K a.T "__contains__" "Table.__contains__" (inC 37 4)
  d_getitem : MtA K a.T "__getitem__" "Table.__getitem__" (inC 37 2)
  d_len : MtA K a.T "__len__" "Table.__len__" (inC 37 6)
  d_waited : Glb K mg "waited" (topS 46)
  rowsP : ∃ p g, PropOf K a.T "rows" p g ∧ FnAt K "rows" "Table.rows" (inC 37 1) g
  d_keys_of : Glb K mg "keys_of" (topS 38)
  d_need_table : Glb K mg "need_table" (topS 39)
  d_need_row : Glb K mg "need_row" (topS 40)
  d_path_of : Glb K mg "path_of" (topS 47)
  d_end_of : Glb K mg "end_of" (topS 48)
  d_path : Glb K mg "path" (topS 49)
  d_rings_of : Glb K mg "rings_of" (topS 50)
  d_rings : Glb K mg "rings" (topS 51)
  d_by_new : Glb K mg "by_new" (topS 52)
  d_groups_of : Glb K mg "groups_of" (topS 53)
  d_groups : Glb K mg "groups" (topS 54)
  d_trees_of : Glb K mg "trees_of" (topS 55)
  d_trees : Glb K mg "trees" (topS 56)
  d_waiting_for : Glb K mg "waiting_for" (topS 57)
  d_need_no_pair : Glb K mg "need_no_pair" (topS 59)
  d_need_no_ring : Glb K mg "need_no_ring" (topS 60)
  d_ready : Glb K mg "ready" (topS 61)
  d_first_order : Glb K mg "first_order" (topS 62)
  d_verdict : Glb K mg "verdict" (topS 63)
  d_is_free_of : Glb K mg "is_free_of" (topS 64)
  d_factorial : Glb K mg "factorial" (topS 65)
  d_chains_of : Glb K mg "chains_of" (topS 66)
  d_orders_of : Glb K mg "orders_of" (topS 67)
  d_passing_orders : Glb K mg "passing_orders" (topS 68)
  d_fits_at_end : Glb K mg "fits_at_end" (topS 69)
  d_stages : Glb K mg "stages" (topS 70)
  d_is_row : Glb K mg "is_row" (topS 33)
end RcX
end
section
set_option Elab.async false
set_option linter.all false
set_option maxRecDepth 100000
set_option maxHeartbeats 4000000
namespace RcX
open PySem PySem.Spec PyProof.Rows L2
section
variable {P : Program} {w : World} {K : PySem.W.Frag} {mg : Str → Option Value} {base : Heap} {a : Ads}
def spIsInt : Sp := fun vs H Q _ => ∃ i : Int, vs = [.int i] ∧ Q (.bl true) H
theorem sc31 : FnScope ["thing"] ["thing"] (defScope (topS 31)) := ⟨rfl, rfl, rfl, by decide +kernel, rfl, by decide +kernel, by decide +kernel⟩
theorem ok_is_integer (T : Tx K mg a) : Fnc P w K mg base CX0 1 "is_integer" spIsInt := by
  refine fnc_of T.d_is_integer sc31 (fun _ _ _ _ _ _ us hl => match us, hl with | [_], _ => rfl) (fun vs H Q E h => ?_) fun f cdv A outer s H vs Q E hr h => ?_
  · obtain ⟨i, rfl, _⟩ := h; rfl
  · obtain ⟨i, rfl, k⟩ := h
    refine ⟨_, pss_one (ps_ret (pe_and (pe_callB call_isi (by rfl) T.isi (by decide +kernel) (pa_cons (pv 0) (pa_cons (pe_bltn (v := .ty "int") (by rfl) T.int (by decide +kernel) rfl) pa_nil)))
      (pe_one (pe_not (pe_callB call_isi (by rfl) T.isi (by decide +kernel) (pa_cons (pv 0) (pa_cons (pe_bltn (v := .ty "bool") (by rfl) T.bool (by decide +kernel) rfl) pa_nil))))))), ?_⟩
    refine ⟨_, rfl, .int i, .ty "int", .type "int", .type "int", true, rfl, .ty _, .base (.int _), kit_ty (by decide +kernel), true, rfl, iteT ?_⟩
    exact ⟨_, rfl, .int i, .ty "bool", .type "int", .type "bool", false, rfl, .ty _, .base (.int _), kit_ty (by decide +kernel), false, rfl, k⟩
end
end RcX
end
section
set_option Elab.async false
set_option linter.all false
set_option maxRecDepth 100000
set_option maxHeartbeats 4000000
namespace RcX
open PySem PySem.Spec PyProof.Rows L2
section
variable {P : Program} {w : World} {K : PySem.W.Frag} {mg : Str → Option Value} {base : Heap} {a : Ads}
def spIsKey : Sp := fun vs H Q _ => ∃ i : Int, vs = [.int i] ∧ -Big < i ∧ i < Big ∧ Q (.bl true) H
theorem sc32 : FnScope ["thing"] ["thing"] (defScope (topS 32)) := ⟨rfl, rfl, rfl, by decide +kernel, rfl, by decide +kernel, by decide +kernel⟩
theorem ok_is_key (T : Tx K mg a) : Fnc P w K mg base CX0 2 "is_key" spIsKey := by
  have c1 : Fnc P w K mg base CX0 1 "is_integer" spIsInt := ok_is_integer T
  obtain ⟨tb, eb⟩ := T.big
  refine fnc_of T.d_is_key sc32 (fun _ _ _ _ _ _ us hl => match us, hl with | [_], _ => rfl) (fun vs H Q E h => ?_) fun f cdv A outer s H vs Q E hr h => ?_
  · obtain ⟨i, rfl, _⟩ := h; rfl
  · obtain ⟨i, rfl, h1, h2, k⟩ := h
    refine ⟨_, pss_one (ps_ret (pe_and (pe_f c1 hr (by decide) (E := E0) pass0 (by rfl) (pa_cons (pv 0) pa_nil))
      (pe_one (pe_chain op_lt op_lt (pe_un un_neg (pe_glob (v := .int Big) (by rfl) eb ⟨_, rfl⟩)) (pv 0) (pe_glob (v := .int Big) (by rfl) eb ⟨_, rfl⟩))))), ?_⟩
    refine ⟨_, rfl, i, rfl, true, rfl, iteT ?_⟩
    refine ⟨Big, rfl, _, rfl, -Big, i, rfl, rfl, _, rfl, ?_⟩
    rw [decide_eq_true h1]
    refine iteT ⟨i, Big, rfl, rfl, ?_⟩
    show Q (.bl (decide (i < Big))) H
    rw [decide_eq_true h2]
    exact k
theorem tabF_look (d : Addr) : (tabF d).lookup ("wants" : Str) = some (.ref d) := by
  unfold tabF
  rw [List.lookup_cons, show (("wants" : Str) == "wants") = true by decide +kernel]
theorem tabF_no (d : Addr) {m : Str} (h : (m == ("wants" : Str)) = false) : (tabF d).lookup m = none := by
  unfold tabF
  rw [List.lookup_cons, h]
  rfl
def spContains (C : Addr) : Sp := fun vs H Q _ => ∃ (t : Addr) (R : List (Int × Int)) (i : Int), vs = [.ref t, .int i] ∧ TabAt C H t R ∧ -Big < i ∧ i < Big ∧ Q (.bl (decide (i ∈ RC.keys R))) H
theorem look_isSome {R : List (Int × Int)} (i : Int) : ((RC.look R i).map V.int).isSome = decide (i ∈ RC.keys R) := by
  by_cases h : i ∈ RC.keys R
  · obtain ⟨n, hn⟩ := RC.look_some h
    rw [hn, decide_eq_true h]; rfl
  · rw [RC.look_none h, decide_eq_false h]; rfl
theorem sc37c : FnScope ["self", "thing"] ["self", "thing"] (defScope (inC 37 4)) := ⟨rfl, rfl, rfl, by decide +kernel, rfl, by decide +kernel, by decide +kernel⟩
theorem ok_contains (T : Tx K mg a) : Mth P w K mg base CX0 3 a.T "__contains__" (spContains a.T) := by
  have c1 : Fnc P w K mg base CX0 2 "is_key" spIsKey := ok_is_key T
  refine mth_of T.d_contains sc37c (fun _ _ _ _ _ _ us hl => match us, hl with | [_, _], _ => rfl) (fun vs H Q E h => ?_) fun f cdv A outer s H vs Q E hr h => ?_
  · obtain ⟨t, R, i, rfl, _⟩ := h; rfl
  · obtain ⟨t, R, i, rfl, ⟨⟨dx, d, T', e1, e2, hp⟩, ok⟩, h1, h2, k⟩ := h
    have hu := hu_of hr
    refine ⟨_, pss_one (ps_ret (pe_and (pe_f c1 hr (by decide) (E := E0) pass0 (by rfl) (pa_cons (pv 1) pa_nil))
      (pe_one (pe_cmp (pc_din hu (pv 1) (pe_fld (pv 0) rfl)) rfl)))), ?_⟩
    refine ⟨_, rfl, i, rfl, h1, h2, true, rfl, iteT ?_⟩
    refine ⟨_, rfl, _, rfl, t, a.T, dx, _, _, rfl, e1, T.insT.cl, T.noW, tabF_look d, d, _, rfl, DGet.k (k := Sum.inl i) e2, ?_⟩
    rw [TabAt.val (C := a.T) (t := t) (dx := dx) (d := d) (H := H) ok hp, look_isSome]
    exact k
def spGetitem (C : Addr) : Sp := fun vs H Q _ => ∃ (t : Addr) (R : List (Int × Int)) (i n : Int), vs = [.ref t, .int i] ∧ TabAt C H t R ∧ RC.look R i = some n ∧ Q (.int n) H
theorem key_bound {R : List (Int × Int)} (ok : RowsOk R) {i : Int} (h : i ∈ RC.keys R) : -Big < i ∧ i < Big := by
  obtain ⟨p, hp, e⟩ := List.mem_map.mp h
  have := ok.kb p hp
  rw [← e]
  exact this
theorem look_key {R : List (Int × Int)} {i n : Int} (h : RC.look R i = some n) : i ∈ RC.keys R := List.mem_map.mpr ⟨(i, n), RC.look_mem h, rfl⟩
theorem sc37g : FnScope ["self", "key"] ["self", "key"] (defScope (inC 37 2)) := ⟨rfl, rfl, rfl, by decide +kernel, rfl, by decide +kernel, by decide +kernel⟩
theorem ok_getitem (T : Tx K mg a) : Mth P w K mg base CX0 4 a.T "__getitem__" (spGetitem a.T) := by
  have c1 : Mth P w K mg base CX0 3 a.T "__contains__" (spContains a.T) := ok_contains T
  refine mth_of T.d_getitem sc37g (fun _ _ _ _ _ _ us hl => match us, hl with | [_, _], _ => rfl) (fun vs H Q E h => ?_) fun f cdv A outer s H vs Q E hr h => ?_
  · obtain ⟨t, R, i, n, rfl, _⟩ := h; rfl
  · obtain ⟨t, R, i, n, rfl, S, hl, k⟩ := h
    obtain ⟨⟨dx, d, T', e1, e2, hp⟩, ok⟩ := id S
    have hu := hu_of hr
    have hb := key_bound ok (look_key hl)
    refine ⟨_, pss_cons (ps_if (pt_cmpR (op_notInO c1 hr (by decide) (E := E0) pass0) (pv 1) (pv 0) (by with_unfolding_all rfl)) (pss_one ps_never) pss_nil)
      (pss_one (ps_ret (pe_dget hu (pe_fld (pv 0) rfl) (pv 1) (fun _ _ => rfl)))), ?_⟩
    refine ⟨_, rfl, _, rfl, t, dx, _, rfl, e1, t, R, i, rfl, S, hb.1, hb.2, _, rfl, _, rfl, ?_⟩
    rw [decide_eq_true (look_key hl)]
    refine iteF ?_
    refine ⟨_, rfl, t, a.T, dx, _, _, rfl, e1, T.insT.cl, T.noW, tabF_look d, _, rfl, d, .int n, rfl, ?_, k⟩
    have g := DGet.k (k := Sum.inl i) e2
    rw [TabAt.val (C := a.T) (t := t) (dx := dx) (d := d) (H := H) ok hp, hl] at g
    exact g
def spLen (C : Addr) : Sp := fun vs H Q _ => ∃ (t : Addr) (R : List (Int × Int)), vs = [.ref t] ∧ TabAt C H t R ∧ Q (.int R.length) H
theorem sc37l : FnScope ["self"] ["self"] (defScope (inC 37 6)) := ⟨rfl, rfl, rfl, by decide +kernel, rfl, by decide +kernel, by decide +kernel⟩
theorem ok_len (T : Tx K mg a) : Mth P w K mg base CX0 1 a.T "__len__" (spLen a.T) := by
  refine mth_of T.d_len sc37l (fun _ _ _ _ _ _ us hl => match us, hl with | [_], _ => rfl) (fun vs H Q E h => ?_) fun f cdv A outer s H vs Q E hr h => ?_
  · obtain ⟨t, R, rfl, _⟩ := h; rfl
  · obtain ⟨t, R, rfl, S, k⟩ := h
    obtain ⟨⟨dx, d, T', e1, e2, hp⟩, ok⟩ := id S
    refine ⟨_, pss_one (ps_ret (pe_callB call_lenD (by rfl) T.len PySem.boot_len (pa_cons (pe_fld (pv 0) rfl) pa_nil))), ?_⟩
    refine ⟨_, rfl, t, a.T, dx, _, _, rfl, e1, T.insT.cl, T.noW, tabF_look d, d, _, rfl, e2, ?_⟩
    have el : (kvOf T').length = R.length := by unfold kvOf; rw [List.length_map]; exact hp.length_eq
    rw [el]
    exact k
end
end RcX
end
section
set_option Elab.async false
set_option linter.all false
set_option maxRecDepth 100000
set_option maxHeartbeats 4000000
namespace RcX
open PySem PySem.Spec PyProof.Rows L2
section
variable {P : Program} {w : World} {K : PySem.W.Frag} {mg : Str → Option Value} {base : Heap} {a : Ads}
theorem pe_fldK {X : Cx} {K : PySem.W.Frag} {e : Expr} {f : Str} {pos : Pos} {ta : TE} (he : PE X e ta) (hb : attributeBase e f X.env (eval e X.env) = eval e X.env := by rfl) (hK : X.K = K := by rfl) : PE X (.Attribute e f pos) (tFld K ta f) := by
  subst hK
  exact pe_fld he hb
theorem two_line {x y : V} : [x, y].length ≤ sizeLine := by show 2 ≤ sizeLine; rw [sizeLine_eq]; decide
theorem yes_if {σ : L2.St} {H : Hp} {F G : Hp → Prop} (h : F H) : tYes σ H fun b H3 => if b = true then F H3 else G H3 := by
  show if true = true then F H else G H
  exact iteT h
def optV : Option Int → V
  | none => .non
  | some i => .int i
theorem waited_look {R : List (Int × Int)} {k n : Int} (h : RC.look R k = some n) : RC.waited R k = if n = k then none else if n ∈ RC.keys R then some n else none := by
  unfold RC.waited
  rw [h]
def spWaited (C : Addr) : Sp := fun vs H Q _ => ∃ (t : Addr) (R : List (Int × Int)) (k : Int), vs = [.ref t, .int k] ∧ TabAt C H t R ∧ k ∈ RC.keys R ∧ Q (optV (RC.waited R k)) H
theorem sc46 : FnScope ["table", "key", "new"] ["table", "key"] (defScope (topS 46)) := ⟨rfl, rfl, rfl, by decide +kernel, rfl, by decide +kernel, by decide +kernel⟩
theorem ok_waited (T : Tx K mg a) : Fnc P w K mg base CX0 6 "waited" (spWaited a.T) := by
  have cg : Mth P w K mg base CX0 4 a.T "__getitem__" (spGetitem a.T) := ok_getitem T
  have cc : Mth P w K mg base CX0 3 a.T "__contains__" (spContains a.T) := ok_contains T
  refine fnc_of T.d_waited sc46 (fun _ _ _ _ _ _ us hl => match us, hl with | [_, _], _ => rfl) (fun vs H Q E h => ?_) fun f cdv A outer s H vs Q E hr h => ?_
  · obtain ⟨t, R, k, rfl, _⟩ := h; rfl
  · obtain ⟨t, R, k, rfl, S, hk, kq⟩ := h
    obtain ⟨⟨dx, d, T', e1, e2, hp⟩, ok⟩ := id S
    obtain ⟨n, hn⟩ := RC.look_some hk
    have hb := ok.nb _ (RC.look_mem hn)
    refine ⟨_, pss_cons (ps_set (i := 2) sc46.nd rfl (.inl rfl) (pe_ixO cg hr (by decide) (E := E0) pass0 (pv 0) (pv 1)))
      (pss_one (ps_ret (pe_ifExp (PW.pt (pw_and (pt_cmpR op_ne (pv 2) (pv 1) (nomark _)) (pw_and1 (pt_cmpR (op_inO cc hr (by decide) (E := E0) pass0) (pv 2) (pv 0) (by with_unfolding_all rfl))))) (pv 2) pe_non))), ?_⟩
    refine ⟨_, rfl, _, rfl, t, dx, _, rfl, e1, t, R, k, n, rfl, S, hn, ?_⟩
    refine ⟨_, rfl, _, rfl, rfl, _, rfl, ?_⟩
    rw [waited_look hn] at kq
    by_cases h1 : n = k
    · subst h1
      rw [if_pos rfl] at kq
      rw [decide_eq_true rfl]
      exact iteF (iteF kq)
    · rw [if_neg h1] at kq
      rw [decide_eq_false (show ¬ V.int n = V.int k from fun z => h1 (by injection z))]
      refine iteT ?_
      refine ⟨_, rfl, _, rfl, t, dx, _, rfl, e1, t, R, n, rfl, S, hb.1, hb.2, _, rfl, _, rfl, ?_⟩
      by_cases h2 : n ∈ RC.keys R
      · rw [if_pos h2] at kq
        rw [decide_eq_true h2]
        exact iteT ⟨_, rfl, kq⟩
      · rw [if_neg h2] at kq
        rw [decide_eq_false h2]
        exact iteF kq

/-! ### rows -/
def pairD (p : Int × Int) : PyData := .tuple [.int p.1, .int p.2]
theorem pair_alike : ∀ b b' : Int × Int, PySem.W.alike (pairD b) (pairD b') = true := fun b b' => by simp [pairD, PySem.W.alike, PySem.W.alikeAll]
theorem pair_noL (b : Int × Int) : NoL (pairD b) = true := rfl
theorem NoL_app : ∀ {l m : List PyData}, NoL.go l = true → NoL.go m = true → NoL.go (l ++ m) = true
  | [], _, _, h => h
  | d :: l, m, h1, h2 => by
    obtain ⟨a1, a2⟩ := Bool.and_eq_true_iff.mp (show (NoL d && NoL.go l) = true from h1)
    show (NoL d && NoL.go (l ++ m)) = true
    rw [a1, NoL_app a2 h2]; rfl
theorem pair_depth (b : Int × Int) : (pairD b).depth ≤ 8 := by simp [pairD, PyData.depth, PyData.depthAll]
/-- sorting by the key alone, where the keys differ -/
theorem sort_rows {T R : List (Int × Int)} (hp : T.Perm R) (hs : (R.map (·.1)).Pairwise (· < ·)) : T.mergeSort (PySem.W.dataLe false pairD) = R := by
  have hle : PySem.W.dataLe false pairD = fun p q => decide (p.1 < q.1 ∨ (p.1 = q.1 ∧ p.2 ≤ q.2)) := PySem.W.dataLe_ii (fun p : Int × Int => p.1) (fun p => p.2)
  rw [hle]
  have hR : R.Pairwise fun p q => decide (p.1 < q.1 ∨ (p.1 = q.1 ∧ p.2 ≤ q.2)) = true := by
    rw [List.pairwise_map] at hs
    exact hs.imp fun h => decide_eq_true (.inl h)
  refine List.Perm.eq_of_pairwise (le := fun p q => decide (p.1 < q.1 ∨ (p.1 = q.1 ∧ p.2 ≤ q.2)) = true) (fun x y _ _ h1 h2 => ?_) (List.pairwise_mergeSort (fun x y z h1 h2 => ?_) (fun x y => ?_) T) hR ((List.mergeSort_perm T _).trans hp)
  · have h1' := of_decide_eq_true h1
    have h2' := of_decide_eq_true h2
    obtain ⟨x1, x2⟩ := x
    obtain ⟨y1, y2⟩ := y
    simp only at h1' h2'
    have : x1 = y1 := by omega
    have : x2 = y2 := by omega
    simp [*]
  · have h1' := of_decide_eq_true h1
    have h2' := of_decide_eq_true h2
    exact decide_eq_true (by omega)
  · rw [Bool.or_eq_true]
    by_cases h : x.1 < y.1 ∨ (x.1 = y.1 ∧ x.2 ≤ y.2)
    · exact .inl (decide_eq_true h)
    · exact .inr (decide_eq_true (by omega))
theorem dpAll_snoc {K : PySem.W.Frag} {H : Hp} : ∀ {xs : List V} {ds : List PyData} {x : V} {d : PyData}, DpAll K H xs ds → Dp K H x d → DpAll K H (xs ++ [x]) (ds ++ [d])
  | _, _, _, _, .nil, h => .cons h .nil
  | _, _, _, _, .cons h1 h2, h => .cons h1 (dpAll_snoc h2 h)
theorem dpAll_len {K : PySem.W.Frag} {H : Hp} : ∀ {xs : List V} {ds : List PyData}, DpAll K H xs ds → xs.length = ds.length
  | _, _, .nil => rfl
  | _, _, .cons _ h => congrArg (· + 1) (dpAll_len h)
theorem dpAll_get {K : PySem.W.Frag} {H : Hp} : ∀ {xs : List V} {ds : List PyData} {i : Nat} {x : V}, DpAll K H xs ds → xs[i]? = some x → ∃ d, ds[i]? = some d ∧ Dp K H x d
  | _, _, _, _, .nil, h => by simp at h
  | _, _, 0, _, .cons h1 _, h => by
    simp only [List.getElem?_cons_zero, Option.some.injEq] at h
    subst h
    exact ⟨_, rfl, h1⟩
  | _, _, i + 1, _, .cons _ h2, h => by
    simp only [List.getElem?_cons_succ] at h ⊢
    exact dpAll_get h2 h
theorem take_snoc {α : Type} {l : List α} {i : Nat} {x : α} (h : l[i]? = some x) : l.take (i + 1) = l.take i ++ [x] := by
  rw [List.take_add_one, h]; rfl
def spRows (K : PySem.W.Frag) (C : Addr) : Sp := fun vs H Q _ => ∃ (t : Addr) (R : List (Int × Int)), vs = [.ref t] ∧ TabAt C H t R ∧ ∀ (p : Addr) (xs : List V) (H' : Hp), Same H H' → H p = none → H' p = some (.tup xs) → DpAll K H' xs (R.map pairD) → Q (.ref p) H'
theorem sc37r : FnScope ["self", "key"] ["self"] (defScope (inC 37 1)) := ⟨rfl, rfl, rfl, by decide +kernel, rfl, by decide +kernel, by decide +kernel⟩
theorem ok_rows {g : Addr} (T : Tx K mg a) (F : FnAt K "rows" "Table.rows" (inC 37 1) g) : FnR P w K mg base CX0 2 g (spRows K a.T) := by
  refine fnR_of F sc37r (fun _ _ _ _ _ _ us hl => match us, hl with | [_], _ => rfl) (fun vs H Q E h => ?_) fun cdv A outer s H vs Q E hr h => ?_
  · obtain ⟨t, R, rfl, _⟩ := h; rfl
  · obtain ⟨t, R, rfl, S, kq⟩ := h
    obtain ⟨⟨dx, d, T', e1, e2, hp⟩, ok⟩ := id S
    have hu := hu_of hr
    have tnd : t ≠ d := ne_of e1 e2 (by intro z; cases z)
    refine ⟨_, pss_one (ps_ret (pe_callTy call_tuple_of (by rfl) T.tuple PyProof.Rows.boot_tuple (pa_cons (pe_callB (cr_sortD hr) (by rfl) T.sorted (by decide +kernel) (pa_cons
      (pe_lock (pe_lc (own := [("key", 1)]) (g := gName 1) (tt := tYes) rfl sc37r.nd (pi_keys (pe_fld (pv 0) rfl)) (blkOk_by (N := ["self", "key"]) (sc := defScope (inC 37 1)) (by decide +kernel))
        (fun _ _ _ _ _ => pg_name (i := 1) sc37r.nd rfl (Or.inl rfl)) (fun _ _ _ _ _ => pts_nil) (fun _ _ _ _ _ => pe_tup (pa_cons (pv 1) (pa_cons (pe_dget hu (pe_fldK (K := K) (pv 0)) (pv 1) (fun _ _ => rfl)) pa_nil)))))
      pa_nil)) pa_nil))), ?_⟩
    refine ⟨d, _, e2, True.intro, fun od => ?_⟩
    have el : (upd H d (.frz od (.dK (kvOf T')))) t = some (.ins a.T dx (tabF d)) := by rw [upd_ne tnd]; exact e1
    refine ⟨_, rfl, t, a.T, dx, _, _, rfl, el, T.insT.cl, T.noW, tabF_look d, d, od, rfl, .inl ⟨kvOf T', upd_same, fun D hD => ?_⟩⟩
    have hDd : D ≠ d := fun z => by rw [z, upd_same] at hD; cases hD
    refine lc_it walk_keys (fun i H1 => Same (upd H d (.frz od (.dK (kvOf T')))) H1 ∧ ∃ xs, H1 D = some (.lst xs) ∧ DpAll K H1 xs ((T'.take i).map pairD))
      ⟨Same.new hD, [], upd_same, .nil⟩ (fun i H1 _ h => h.1 _ _ upd_same) ?_ ?_
    · rintro i x H1 H1' hi ⟨s1, xs, hx, hd⟩ ⟨rfl, k, v, hk, rfl⟩
      have hi2 : i < T'.length := by unfold kvOf at hi; rw [List.length_map] at hi; exact hi
      obtain ⟨⟨k0, n0⟩, hT⟩ : ∃ p, T'[i]? = some p := ⟨_, List.getElem?_eq_getElem hi2⟩
      obtain ⟨q1, q2⟩ : k = Sum.inl k0 ∧ v = V.int n0 := by
        unfold kvOf at hk
        rw [List.getElem?_map, hT] at hk
        have := Option.some.inj hk
        exact ⟨(congrArg Prod.fst this).symm, (congrArg Prod.snd this).symm⟩
      subst q1 q2
      have hv : valV (kvOf T') (Sum.inl k0 : Key) = some (.int n0) := by
        rw [TabAt.val (C := a.T) (t := t) (dx := dx) (d := d) (H := H) ok hp, RC.look_of (k := k0) (n := n0) ok.nd (hp.mem_iff.mp (List.mem_of_getElem? hT))]
        rfl
      refine ⟨rfl, yes_if ?_⟩
      refine ⟨_, rfl, _, rfl, t, a.T, dx, _, _, rfl, s1 _ _ el, T.insT.cl, T.noW, tabF_look d, _, rfl, d, .int n0, rfl, .inl ⟨kvOf T', Sum.inl k0, .inr ⟨od, s1 _ _ upd_same⟩, rfl, hv.symm⟩, two_line, fun q hq => ?_⟩
      have nD : D ≠ q := ne_of_none hx hq
      have s2 : Same H1' (upd H1' q (.tup [.int k0, .int n0])) := Same.new hq
      refine ⟨xs, by rw [upd_ne nD]; exact hx, ?_, fun b u z => ?_, xs ++ [.ref q], upd_same, ?_⟩
      · have := dpAll_len hd
        rw [List.length_map, List.length_take] at this
        have h30 : T'.length ≤ 30 := by rw [hp.length_eq]; exact ok.len
        exact small1000 (by omega)
      · have zd : b ≠ D := ne_of_none z hD
        rw [upd_ne zd]
        exact s2 _ _ (s1 _ _ z)
      · rw [take_snoc hT, List.map_append]
        have hdq : DpAll K (upd H1' q (.tup [.int k0, .int n0])) (xs ++ [.ref q]) ((T'.take i).map pairD ++ [pairD (k0, n0)]) :=
          dpAll_snoc (DpAll.same s2 _ _ hd) (.tup (.inl (.inl upd_same)) (.cons (.int _) (.cons (.int _) .nil)))
        have keep : ∀ b o, (upd H1' q (.tup [.int k0, .int n0])) b = some o → (∀ ys, o ≠ .lst ys) → (upd (upd H1' q (.tup [.int k0, .int n0])) D (.lst (xs ++ [.ref q]))) b = some o := fun b o z n => by
          have : b ≠ D := fun e => by rw [e, upd_ne nD, hx] at z; exact n xs (Option.some.inj z).symm
          rw [upd_ne this]
          exact z
        exact DpAll.same' (fun b ys z => keep b _ z fun _ y => by cases y) (fun b o ys z => keep b _ z fun _ y => by cases y) _ _ (NoL_app (NoL.map pair_noL _) (show NoL.go [pairD (k0, n0)] = true from rfl)) hdq
    · rintro H1 ⟨s1, xs, hx, hd⟩
      have ln : (kvOf T').length = T'.length := by unfold kvOf; rw [List.length_map]
      rw [ln, List.take_length] at hd
      refine ⟨s1 _ _ upd_same, ?_⟩
      have s0 : Same H (upd H1 d (.dK (kvOf T'))) := fun b o z => by
        by_cases hb : b = d
        · rw [hb, upd_same]; rw [hb, e2] at z; exact z
        · rw [upd_ne hb]; exact s1 _ _ (by rw [upd_ne hb]; exact z)
      have hd2 : DpAll K (upd H1 d (.dK (kvOf T'))) xs (T'.map pairD) := by
        have keep : ∀ b o, H1 b = some o → (∀ u, o ≠ .frz od u) → (upd H1 d (.dK (kvOf T'))) b = some o := fun b o z n => by
          have : b ≠ d := fun e => by rw [e, s1 _ _ upd_same] at z; exact n _ (Option.some.inj z).symm
          rw [upd_ne this]
          exact z
        refine DpAll.same' (fun b ys z => keep b _ z fun _ y => by cases y) (fun b o ys z => ?_) _ _ (NoL.map pair_noL _) hd
        by_cases hb : b = d
        · rw [hb, s1 _ _ upd_same] at z
          cases z
        · rw [upd_ne hb]; exact z
      have hx2 : (upd H1 d (.dK (kvOf T'))) D = some (.lst xs) := by rw [upd_ne hDd]; exact hx
      have h30 : T'.length ≤ 30 := by rw [hp.length_eq]; exact ok.len
      refine ⟨Int × Int, pairD, D, xs, T', rfl, .inl (.inl (.inl hx2)), hd2, PySem.W.AllAlike.of pair_alike, PySem.W.Sortable.tuples fun b => ⟨_, _, rfl⟩, by omega, fun b _ => pair_depth b, fun ys p hys hp2 => ?_⟩
      rw [sort_rows hp ok.srt] at hys
      have s2 : Same (upd H1 d (.dK (kvOf T'))) (upd (upd H1 d (.dK (kvOf T'))) p (.lst ys)) := Same.new hp2
      refine ⟨p, ys, rfl, .inl ⟨.inl (.inl upd_same), fun l hl => ?_⟩⟩
      have s3 := (s0.trans s2).trans (Same.new (o := .tup ys) hl)
      exact kq l ys _ s3 ((s0.trans s2).free hl) upd_same (DpAll.same (s2.trans (Same.new hl)) _ _ hys)
end
end RcX
end
section
set_option Elab.async false
set_option linter.all false
set_option maxRecDepth 100000
set_option maxHeartbeats 4000000
namespace RcX
open PySem PySem.Spec PyProof.Rows L2
/-! ### a property by position -/
structure Prp (P : Program) (w : World) (K : PySem.W.Frag) (mg : Str → Option Value) (base : Heap) (k : Nat) (C : Addr) (f : Str) (sp : Sp) : Prop where
  ex : ∃ p g : Addr, PropOf K C f p g ∧ FnR P w K mg base CX0 k g sp
def tPr (C : Addr) (sp : Sp) (te : TE) : TE := fun σ H Q => te σ H fun x H1 => ∃ a dx fs, x = .ref a ∧ H1 a = some (.ins C dx fs) ∧ sp [.ref a] H1 Q E0
section
variable {X : Cx} {j k : Nat} {C : Addr} {f : Str} {sp : Sp} {e : Expr} {te : TE} {pos : Pos}
theorem pe_pr (c : Prp X.prog X.w X.K X.mg X.base k C f sp) (cl : Cls X.K C) (hr : Room j X.A) (hk : k + 1 ≤ j) (he : PE X e te) (hab : attributeBase e f X.env (eval e X.env) = eval e X.env := by rfl) : PE X (.Attribute e f pos) (tPr C sp te) := by
  obtain ⟨p, g, hp, F⟩ := c.ex
  refine ⟨fun pins s σ H Q I h => ?_⟩
  refine attr_of hab (thn (he.run pins s σ H _ I h) fun u s1 ⟨x, H1, I1, rx, a, dx, fs, ex, ea, q⟩ => ?_)
  subst ex
  obtain rfl : u = Value.ref a := rx
  obtain ⟨od, J⟩ := instAt I1 ea
  obtain ⟨rest, hrec⟩ := hp.rec_
  have I2 := I1.tok (s1.toks + 1)
  have hc : (PySem.W.clsIn X.K C).isSome = true := by
    obtain ⟨cd, hc, _⟩ := PySem.W.any_some cl.hd
    rw [hc]; rfl
  have r1 : Room k X.A.in1 := (show Room (k + 1) X.A from hr.mono hk).in1
  refine PySem.W.get_bind I1.kIn J (PySem.W.plainGet_of (cl.get f)).1 (PySem.W.findObj_data hc hp.at_ hp.get hp.tak) (PySem.W.plainGet_of (cl.get f)).2
    (wpAny_call (PySem.W.prop_get (s := { s1 with toks := s1.toks + 1 }) I1.kIn hrec (codeAny_mono (F X.A.in1 X.stack { s1 with toks := s1.toks + 1 } H1 [.ref a] [.ref a] Q E0 r1 I2.env0.in1 (.cons rfl .nil) q) fun r s' hq => ?_)))
  rcases r with er | fl
  · exact False.elim hq
  · cases fl with
    | ret u =>
      obtain ⟨v, H', I3, rv, q3⟩ := I2.after hq
      exact wpAny_of_eq (PySem.W.handedOut_of (handed_of rv)) ⟨v, H', I3, rv, q3⟩
    | next => exact False.elim hq
    | brk => exact False.elim hq
    | cont => exact False.elim hq
end
section
variable {P : Program} {w : World} {K : PySem.W.Frag} {mg : Str → Option Value} {base : Heap} {a : Ads}
theorem prp_rows (T : Tx K mg a) : Prp P w K mg base 2 a.T "rows" (spRows K a.T) := by
  obtain ⟨p, g, h1, h2⟩ := T.rowsP
  exact ⟨p, g, h1, ok_rows T h2⟩
theorem pair_at {H : Hp} {xs : List V} {R : List (Int × Int)} {i : Nat} {x : V} (hd : DpAll K H xs (R.map pairD)) (hx : xs[i]? = some x) : ∃ (t : Addr) (k n : Int), R[i]? = some (k, n) ∧ x = .ref t ∧ SqT K H t [.int k, .int n] := by
  obtain ⟨d, h1, h2⟩ := dpAll_get hd hx
  rw [List.getElem?_map] at h1
  cases hR : R[i]? with
  | none => rw [hR] at h1; cases h1
  | some p =>
    rw [hR] at h1
    have e : pairD p = d := Option.some.inj h1
    subst e
    cases h2 with
    | tup h3 h4 =>
      cases h4 with
      | cons h5 h6 =>
        cases h5
        cases h6 with
        | cons h7 h8 =>
          cases h7
          cases h8
          exact ⟨_, p.1, p.2, rfl, rfl, h3⟩
/-! ### keys_of -/
def iv (l : List Int) : List V := l.map V.int
def spKeys (C : Addr) : Sp := fun vs H Q _ => ∃ (t : Addr) (R : List (Int × Int)), vs = [.ref t] ∧ TabAt C H t R ∧ ∀ (p : Addr) (H' : Hp), Same H H' → H p = none → H' p = some (.lst (iv (RC.keys R))) → Q (.ref p) H'
theorem sc38 : FnScope ["table", "key", "new"] ["table"] (defScope (topS 38)) := ⟨rfl, rfl, rfl, by decide +kernel, rfl, by decide +kernel, by decide +kernel⟩
theorem ok_keys_of (T : Tx K mg a) : Fnc P w K mg base CX0 4 "keys_of" (spKeys a.T) := by
  have cr : Prp P w K mg base 2 a.T "rows" (spRows K a.T) := prp_rows T
  refine fnc_of T.d_keys_of sc38 (fun _ _ _ _ _ _ us hl => match us, hl with | [_], _ => rfl) (fun vs H Q E h => ?_) fun f cdv A outer s H vs Q E hr h => ?_
  · obtain ⟨t, R, rfl, _⟩ := h; rfl
  · obtain ⟨t, R, rfl, S, kq⟩ := h
    obtain ⟨⟨dx, d, T', e1, e2, hp⟩, ok⟩ := id S
    refine ⟨_, pss_one (ps_ret (pe_lc (own := [("key", 1), ("new", 2)]) (g := gTup K 2 (gCons (gName 1) (gCons (gName 2) gNil))) (tt := tYes) (te := tVar 1) rfl sc38.nd (pi_tup (pe_pr cr T.insT.cl hr (by decide) (pv 0)))
      (blkOk_by (N := ["table", "key", "new"]) (sc := defScope (topS 38)) (by decide +kernel))
      (fun _ _ _ _ _ => pg_tup rfl (pgs_cons (pg_name (i := 1) sc38.nd rfl (Or.inl rfl)) (pgs_cons (pg_name (i := 2) sc38.nd rfl (Or.inl rfl)) pgs_nil))) (fun _ _ _ _ _ => pts_nil) (fun _ _ _ _ _ => pv 1))), ?_⟩
    refine ⟨_, rfl, t, dx, _, rfl, e1, t, R, rfl, S, fun p xs H1 s1 np hx hd => ⟨p, rfl, ⟨xs, .inl (.inl hx)⟩, fun D hD => ?_⟩⟩
    have hl : xs.length = R.length := by rw [dpAll_len hd, List.length_map]
    refine lc_it (walk_tup (xs := xs)) (fun i H2 => Same H1 H2 ∧ H2 D = some (.lst (iv ((RC.keys R).take i)))) ⟨Same.new hD, upd_same⟩ (fun i H2 _ h => seqT h.1 (.inl (.inl hx))) ?_ ?_
    · rintro i x H2 H2' hi ⟨s2, hD2⟩ ⟨rfl, hxi⟩
      obtain ⟨q, k, n, hR, rfl, hq⟩ := pair_at (DpAll.same s2 _ _ hd) hxi
      refine ⟨q, _, rfl, hq, rfl, _, _, rfl, _, _, rfl, rfl, rfl, yes_if ⟨_, rfl, _, hD2, ?_, s2.up hD, ?_⟩⟩
      · unfold iv
        rw [List.length_map, List.length_take]
        have := ok.len
        unfold RC.keys
        rw [List.length_map]
        exact small1000 (by omega)
      · rw [upd_same]
        have hk : (RC.keys R)[i]? = some k := by unfold RC.keys; rw [List.getElem?_map, hR]; rfl
        rw [take_snoc hk]
        unfold iv
        rw [List.map_append]
        rfl
    · rintro H2 ⟨s2, hD2⟩
      have : (RC.keys R).take xs.length = RC.keys R := by
        rw [hl]
        exact List.take_of_length_le (by unfold RC.keys; rw [List.length_map]; exact Nat.le_refl _)
      rw [this] at hD2
      exact kq D H2 (s1.trans s2) (s1.free hD) hD2
/-! ### need_table, need_row -/
def spNeed (C : Addr) : Sp := fun vs H Q _ => ∃ (t : Addr) (R : List (Int × Int)), vs = [.ref t] ∧ TabAt C H t R ∧ Q .non H
theorem sc39 : FnScope ["table"] ["table"] (defScope (topS 39)) := ⟨rfl, rfl, rfl, by decide +kernel, rfl, by decide +kernel, by decide +kernel⟩
theorem ok_need_table (T : Tx K mg a) : Fnc P w K mg base CX0 1 "need_table" (spNeed a.T) := by
  refine fnc_of T.d_need_table sc39 (fun _ _ _ _ _ _ us hl => match us, hl with | [_], _ => rfl) (fun vs H Q E h => ?_) fun f cdv A outer s H vs Q E hr h => ?_
  · obtain ⟨t, R, rfl, _⟩ := h; rfl
  · obtain ⟨t, R, rfl, S, kq⟩ := h
    obtain ⟨⟨dx, d, T', e1, e2, hp⟩, ok⟩ := id S
    refine ⟨_, pss_one (ps_if (pt_not (pt_val (pe_callB (C8.call_isC T.insT) (by rfl) T.isi (by decide +kernel) (pa_cons (pv 0) (pa_cons (pe_glob (v := .ref a.T) (by rfl) T.mgT rfl) pa_nil))))) (pss_one ps_never) pss_nil), ?_⟩
    exact ⟨_, rfl, t, dx, _, rfl, e1, true, rfl, iteF kq⟩
def spNeedRow (C : Addr) : Sp := fun vs H Q _ => ∃ (t : Addr) (R : List (Int × Int)) (k : Int), vs = [.ref t, .int k] ∧ TabAt C H t R ∧ k ∈ RC.keys R ∧ Q .non H
theorem sc40 : FnScope ["table", "key"] ["table", "key"] (defScope (topS 40)) := ⟨rfl, rfl, rfl, by decide +kernel, rfl, by decide +kernel, by decide +kernel⟩
theorem ok_need_row (T : Tx K mg a) : Fnc P w K mg base CX0 4 "need_row" (spNeedRow a.T) := by
  have c1 : Fnc P w K mg base CX0 1 "need_table" (spNeed a.T) := ok_need_table T
  have cc : Mth P w K mg base CX0 3 a.T "__contains__" (spContains a.T) := ok_contains T
  refine fnc_of T.d_need_row sc40 (fun _ _ _ _ _ _ us hl => match us, hl with | [_, _], _ => rfl) (fun vs H Q E h => ?_) fun f cdv A outer s H vs Q E hr h => ?_
  · obtain ⟨t, R, k, rfl, _⟩ := h; rfl
  · obtain ⟨t, R, k, rfl, S, hk, kq⟩ := h
    obtain ⟨⟨dx, d, T', e1, e2, hp⟩, ok⟩ := id S
    have hb := key_bound ok hk
    refine ⟨_, pss_cons (ps_expr (pe_f c1 hr (by decide) (E := E0) pass0 (by rfl) (pa_cons (pv 0) pa_nil)))
      (pss_one (ps_if (pt_cmpR (op_notInO cc hr (by decide) (E := E0) pass0) (pv 1) (pv 0) (by with_unfolding_all rfl)) (pss_one ps_never) pss_nil)), ?_⟩
    refine ⟨_, rfl, t, R, rfl, S, _, rfl, _, rfl, t, dx, _, rfl, e1, t, R, k, rfl, S, hb.1, hb.2, _, rfl, _, rfl, ?_⟩
    rw [decide_eq_true hk]
    exact iteF kq
end
end RcX
end
section
set_option Elab.async false
set_option linter.all false
set_option maxRecDepth 100000
set_option maxHeartbeats 4000000
namespace RcX
open PySem PySem.Spec PyProof.Rows L2
section
variable {P : Program} {w : World} {K : PySem.W.Frag} {mg : Str → Option Value} {base : Heap} {a : Ads}
theorem iv_flat (l : List Int) : (iv l).all flatV = true := by
  unfold iv
  rw [List.all_map, List.all_eq_true]
  intro x _; rfl
theorem inV_iv (r : Int) (l : List Int) : inV (.int r) (iv l) = decide (r ∈ l) := by
  unfold inV iv
  rw [List.any_map, Bool.eq_iff_iff, List.any_eq_true, decide_eq_true_eq]
  constructor
  · rintro ⟨x, hx, e⟩
    have : x = r := eq_of_beq e
    exact this ▸ hx
  · intro h
    exact ⟨r, h, beq_self_eq_true _⟩
theorem iv_snoc (l : List Int) (r : Int) : iv l ++ [.int r] = iv (l ++ [r]) := by unfold iv; rw [List.map_append]; rfl
theorem iv_len (l : List Int) : (iv l).length = l.length := List.length_map _
def spPath (C : Addr) : Sp := fun vs H Q _ => ∃ (t : Addr) (R : List (Int × Int)) (k : Int), vs = [.ref t, .int k] ∧ TabAt C H t R ∧ k ∈ RC.keys R ∧ ∀ (p : Addr) (H' : Hp), Same H H' → H p = none → H' p = some (.lst (iv (RC.pathOf R k))) → Q (.ref p) H'
theorem sc47 : FnScope ["table", "key", "found", "row"] ["table", "key"] (defScope (topS 47)) := ⟨rfl, rfl, rfl, by decide +kernel, rfl, by decide +kernel, by decide +kernel⟩
theorem ok_path_of (T : Tx K mg a) : Fnc P w K mg base CX0 7 "path_of" (spPath a.T) := by
  have cw : Fnc P w K mg base CX0 6 "waited" (spWaited a.T) := ok_waited T
  refine fnc_of T.d_path_of sc47 (fun _ _ _ _ _ _ us hl => match us, hl with | [_, _], _ => rfl) (fun vs H Q E h => ?_) fun f cdv A outer s H vs Q E hr h => ?_
  · obtain ⟨t, R, k, rfl, _⟩ := h; rfl
  · obtain ⟨t, R, k, rfl, S, hk, kq⟩ := h
    have ok := S.ok
    refine ⟨_, pss_cons (ps_par (i := 2) (j := 3) rfl sc47.nd rfl rfl (by decide) rfl rfl (pa_cons (pe_lst (pa_cons (pv 1) pa_nil)) (pa_cons (pe_f cw hr (by decide) (E := E0) pass0 (by rfl) (pa_cons (pv 0) (pa_cons (pv 1) pa_nil))) pa_nil)) (by rfl))
      (pss_cons (ps_while PassesOwn.never (PW.pt (pw_and (pt_cmpR op_notN (pv 3) pe_non (nomark _)) (pw_and1 (pt_cmpR op_notIn_seq (pv 3) (pv 2) (by with_unfolding_all rfl)))))
        (pss_cons (ps_expr (pe_bm PySem.F.plainAttrs_list PySem.F.slot_list_append PySem.F.type_list_append mt_append (pv 2) (pa_cons (pv 3) pa_nil)))
        (pss_one (ps_set (i := 3) sc47.nd rfl (.inl rfl) (pe_f cw hr (by decide) (E := E0) pass0 (by rfl) (pa_cons (pv 0) (pa_cons (pv 3) pa_nil)))))))
      (pss_one (ps_ret (pv 2)))), ?_⟩
    refine ⟨_, rfl, by show 1 ≤ sizeLine; rw [sizeLine_eq]; decide, fun p np => ?_⟩
    have s1 : Same H (upd H p (.lst [.int k])) := Same.new np
    refine ⟨_, rfl, _, rfl, t, R, k, rfl, S.same s1, hk, _, _, rfl, ?_⟩
    refine ⟨fun m σ H2 => ∃ found row, σ = [some (.ref t), some (.int k), some (.ref p), some (optV row)] ∧ Same H H2 ∧ H2 p = some (.lst (iv found)) ∧ RC.PInv R k found row ∧ m = R.length + 2 - found.length,
      ⟨_, [k], _, rfl, s1, upd_same, RC.PInv.start hk, rfl⟩, ?_⟩
    rintro m σ H2 ⟨found, row, rfl, s2, hp, pi, rfl⟩
    refine ⟨_, rfl, rfl, _, rfl, ?_⟩
    cases row with
    | none =>
      rw [decide_eq_true (show optV none = V.non from rfl)]
      have e := pi.endNone
      subst e
      exact iteF (iteF ⟨_, rfl, kq p H2 s2 np hp⟩)
    | some r =>
      rw [decide_eq_false (show ¬ optV (some r) = V.non from fun z => by cases z)]
      refine iteT ⟨_, rfl, _, rfl, p, iv found, rfl, .inl (.inl (.inl hp)), rfl, iv_flat _, _, rfl, ?_⟩
      have e1 : (if true = true then !inV (optV (some r)) (iv found) else inV (optV (some r)) (iv found)) = !decide (r ∈ found) := by
        rw [if_pos rfl]
        exact congrArg not (inV_iv r found)
      rw [e1]
      by_cases hin : r ∈ found
      · rw [decide_eq_true hin]
        have e := pi.endIn hin
        subst e
        exact iteF ⟨_, rfl, kq p H2 s2 np hp⟩
      · rw [decide_eq_false hin]
        have hl := pi.len
        refine iteT ⟨fun σ' H' => ∃ m', m' < R.length + 2 - found.length ∧ ∃ found row, σ' = [some (.ref t), some (.int k), some (.ref p), some (optV row)] ∧ Same H H' ∧ H' p = some (.lst (iv found)) ∧ RC.PInv R k found row ∧ m' = R.length + 2 - found.length, fun σ' H' h => h, ?_⟩
        have s3 : Same H (upd H2 p (.lst (iv found ++ [.int r]))) := s2.up np
        refine ⟨_, rfl, .inl ⟨rfl, _, SqL.of hp⟩, _, rfl, p, _, _, rfl, rfl, hp, ?_, ?_⟩
        · rw [iv_len]
          have := ok.len
          exact small1000 (by omega)
        · refine ⟨_, rfl, _, rfl, t, R, r, rfl, S.same s3, pi.rowKey, ?_⟩
          have st := pi.step hin
          refine ⟨_, ?_, found ++ [r], _, rfl, s3, ?_, st, rfl⟩
          · rw [List.length_append, List.length_singleton]; omega
          · rw [upd_same, ← iv_snoc]; rfl
end
end RcX
end
section
set_option Elab.async false
set_option linter.all false
set_option maxRecDepth 100000
set_option maxHeartbeats 4000000
namespace RcX
open PySem PySem.Spec PyProof.Rows L2
def tupD (l : List Int) : PyData := .tuple (l.map .int)
theorem ints_noL : ∀ l : List Int, NoL.go (l.map .int) = true
  | [] => rfl
  | _ :: l => ints_noL l
theorem tup_noL (l : List Int) : NoL (tupD l) = true := ints_noL l
theorem dp_ints {K : PySem.W.Frag} {H : Hp} : ∀ l : List Int, DpAll K H (iv l) (l.map .int)
  | [] => .nil
  | i :: l => .cons (.int i) (dp_ints l)
theorem dp_ints_inv {K : PySem.W.Frag} {H : Hp} : ∀ {l : List Int} {xs : List V}, DpAll K H xs (l.map .int) → xs = iv l
  | [], _, h => by
    have h' : DpAll K H _ [] := h
    cases h'; rfl
  | i :: l, _, h => by
    have h' : DpAll K H _ (.int i :: l.map .int) := h
    cases h' with
    | cons h1 h2 => cases h1; rw [dp_ints_inv h2]; rfl
theorem upd_keep {H : Hp} {p b : Addr} {o u : HO} {xs : List V} (hp : H p = some (.lst xs)) (z : H b = some o) (n : ∀ ys, o ≠ .lst ys) : (upd H p u) b = some o := by
  have : b ≠ p := fun e => by rw [e, hp] at z; exact n xs (Option.some.inj z).symm
  rw [upd_ne this]; exact z
theorem DpAll.lu {K : PySem.W.Frag} {H : Hp} {p : Addr} {xs : List V} {u : HO} {ds : List PyData} {vs : List V} (hp : H p = some (.lst xs)) (n : NoL.go ds = true) (h : DpAll K H vs ds) : DpAll K (upd H p u) vs ds :=
  DpAll.same' (fun _ _ z => upd_keep hp z fun _ y => by cases y) (fun _ _ _ z => upd_keep hp z fun _ y => by cases y) _ _ n h
theorem Dp.lu {K : PySem.W.Frag} {H : Hp} {p : Addr} {xs : List V} {u : HO} {d : PyData} {v : V} (hp : H p = some (.lst xs)) (n : NoL d = true) (h : Dp K H v d) : Dp K (upd H p u) v d :=
  Dp.same' (fun _ _ z => upd_keep hp z fun _ y => by cases y) (fun _ _ _ z => upd_keep hp z fun _ y => by cases y) _ _ n h
section
variable {P : Program} {w : World} {K : PySem.W.Frag} {mg : Str → Option Value} {base : Heap} {a : Ads}
/-! ### end_of, path -/
def endS : RC.End → Str
  | .ring => "ring"
  | .still => "still"
  | .free => "free"
theorem atI_end {l : List Int} {x : Int} (h : l.getLast? = some x) : atI (iv l) (-1) = some (.int x) := by
  obtain ⟨m, e⟩ : ∃ m, l = m ++ [x] := ⟨l.dropLast, by
    have hne : l ≠ [] := fun z => by rw [z] at h; cases h
    rw [List.getLast?_eq_some_getLast hne] at h
    rw [← Option.some.inj h]
    exact (List.dropLast_concat_getLast hne).symm⟩
  rw [e, ← iv_snoc]
  exact atI_last _ _
def spEnd (C : Addr) : Sp := fun vs H Q _ => ∃ (t p : Addr) (R : List (Int × Int)) (l : List Int), vs = [.ref t, .ref p] ∧ TabAt C H t R ∧ H p = some (.lst (iv l)) ∧ l ≠ [] ∧ (∀ x ∈ l, x ∈ RC.keys R) ∧ Q (.str (endS (RC.endOf R l))) H
theorem sc48 : FnScope ["table", "rows", "last"] ["table", "rows"] (defScope (topS 48)) := ⟨rfl, rfl, rfl, by decide +kernel, rfl, by decide +kernel, by decide +kernel⟩
theorem ok_end_of (T : Tx K mg a) : Fnc P w K mg base CX0 7 "end_of" (spEnd a.T) := by
  have cw : Fnc P w K mg base CX0 6 "waited" (spWaited a.T) := ok_waited T
  have cg : Mth P w K mg base CX0 4 a.T "__getitem__" (spGetitem a.T) := ok_getitem T
  refine fnc_of T.d_end_of sc48 (fun _ _ _ _ _ _ us hl => match us, hl with | [_, _], _ => rfl) (fun vs H Q E h => ?_) fun f cdv A outer s H vs Q E hr h => ?_
  · obtain ⟨t, p, R, l, rfl, _⟩ := h; rfl
  · obtain ⟨t, p, R, l, rfl, S, hp, hne, hs, kq⟩ := h
    obtain ⟨⟨dx, d, T', e1, e2, _⟩, ok⟩ := id S
    obtain ⟨x, hx⟩ : ∃ x, l.getLast? = some x := ⟨_, List.getLast?_eq_some_getLast hne⟩
    have hxk := hs x (List.mem_of_getLast? hx)
    obtain ⟨n, hn⟩ := RC.look_some hxk
    refine ⟨_, pss_cons (ps_set (i := 2) sc48.nd rfl (.inl rfl) (pe_ix ix_list (pv 1) (pe_un un_neg pe_int) (fun _ _ => rfl)))
      (pss_cons (ps_if (pt_cmpR op_notN (pe_f cw hr (by decide) (E := E0) pass0 (by rfl) (pa_cons (pv 0) (pa_cons (pv 2) pa_nil))) pe_non (nomark _)) (pss_one (ps_ret pe_str)) pss_nil)
      (pss_one (ps_ret (pe_ifExp (pt_cmpR op_eq (pe_ixO cg hr (by decide) (E := E0) pass0 (pv 0) (pv 2)) (pv 2) (nomark _)) pe_str pe_str)))), ?_⟩
    refine ⟨_, rfl, 1, rfl, p, _, -1, .int x, rfl, rfl, SqL.of hp, atI_end hx, ?_⟩
    refine ⟨_, rfl, _, rfl, t, R, x, rfl, S, hxk, rfl, _, rfl, ?_⟩
    unfold RC.endOf at kq
    rw [hx] at kq
    cases hw : RC.waited R x with
    | some r =>
      have kq' : Q (.str (endS .ring)) H := by
        have z := kq
        simp only [hw] at z
        exact z
      exact iteT kq'
    | none =>
      have kq' : Q (.str (endS (if RC.look R x = some x then .still else .free))) H := by
        have z := kq
        simp only [hw] at z
        exact z
      refine iteF ?_
      refine ⟨_, rfl, _, rfl, t, dx, _, rfl, e1, t, R, x, n, rfl, S, hn, _, rfl, rfl, _, rfl, ?_⟩
      rw [hn] at kq'
      by_cases h : n = x
      · rw [if_pos (by rw [h])] at kq'
        rw [decide_eq_true (show V.int n = V.int x by rw [h])]
        exact iteT kq'
      · rw [if_neg fun z => h (Option.some.inj z)] at kq'
        rw [decide_eq_false fun z => h (by injection z)]
        exact iteF kq'
def pathD (R : List (Int × Int)) (k : Int) : PyData := .tuple [tupD (RC.pathOf R k), .str (endS (RC.endOf R (RC.pathOf R k)))]
def spPathP (K : PySem.W.Frag) (C : Addr) : Sp := fun vs H Q _ => ∃ (t : Addr) (R : List (Int × Int)) (k : Int), vs = [.ref t, .int k] ∧ TabAt C H t R ∧ k ∈ RC.keys R ∧ ∀ (p : Addr) (H' : Hp), Same H H' → Dp K H' (.ref p) (pathD R k) → Q (.ref p) H'
theorem sc49 : FnScope ["table", "key", "rows"] ["table", "key"] (defScope (topS 49)) := ⟨rfl, rfl, rfl, by decide +kernel, rfl, by decide +kernel, by decide +kernel⟩
theorem ok_path (T : Tx K mg a) : Fnc P w K mg base CX0 8 "path" (spPathP K a.T) := by
  have cn : Fnc P w K mg base CX0 4 "need_row" (spNeedRow a.T) := ok_need_row T
  have cp : Fnc P w K mg base CX0 7 "path_of" (spPath a.T) := ok_path_of T
  have ce : Fnc P w K mg base CX0 7 "end_of" (spEnd a.T) := ok_end_of T
  refine fnc_of T.d_path sc49 (fun _ _ _ _ _ _ us hl => match us, hl with | [_, _], _ => rfl) (fun vs H Q E h => ?_) fun f cdv A outer s H vs Q E hr h => ?_
  · obtain ⟨t, R, k, rfl, _⟩ := h; rfl
  · obtain ⟨t, R, k, rfl, S, hk, kq⟩ := h
    refine ⟨_, pss_cons (ps_expr (pe_f cn hr (by decide) (E := E0) pass0 (by rfl) (pa_cons (pv 0) (pa_cons (pv 1) pa_nil))))
      (pss_cons (ps_set (i := 2) sc49.nd rfl (.inl rfl) (pe_f cp hr (by decide) (E := E0) pass0 (by rfl) (pa_cons (pv 0) (pa_cons (pv 1) pa_nil))))
      (pss_one (ps_ret (pe_tup (pa_cons (pe_callTy call_tuple_of (by rfl) T.tuple PyProof.Rows.boot_tuple (pa_cons (pv 2) pa_nil)) (pa_cons (pe_f ce hr (by decide) (E := E0) pass0 (by rfl) (pa_cons (pv 0) (pa_cons (pv 2) pa_nil))) pa_nil)))))), ?_⟩
    refine ⟨_, rfl, _, rfl, t, R, k, rfl, S, hk, _, rfl, _, rfl, t, R, k, rfl, S, hk, fun p H1 s1 np hp => ?_⟩
    have ip := RC.isPath hk
    obtain ⟨tl, etl⟩ := ip.cons
    refine ⟨_, rfl, p, _, rfl, .inl ⟨SqL.of hp, fun q nq => ?_⟩⟩
    have s2 : Same H1 (upd H1 q (.tup (iv (RC.pathOf R k)))) := Same.new nq
    refine ⟨_, rfl, _, rfl, t, p, R, _, rfl, S.same (s1.trans s2), s2 _ _ hp, by rw [etl]; simp, ip.sub, two_line, fun r nr => ?_⟩
    have s3 : Same (upd H1 q (.tup (iv (RC.pathOf R k)))) (upd (upd H1 q (.tup (iv (RC.pathOf R k)))) r (.tup [.ref q, .str (endS (RC.endOf R (RC.pathOf R k)))])) := Same.new nr
    exact kq r _ ((s1.trans s2).trans s3) (.tup (.inl (.inl upd_same)) (.cons (.tup (.inl (.inl (s3 _ _ upd_same))) (dp_ints _)) (.cons (.str _) .nil)))
end
end RcX
end
section
set_option Elab.async false
set_option linter.all false
set_option maxRecDepth 100000
set_option maxHeartbeats 4000000
namespace RcX
open PySem PySem.Spec PyProof.Rows L2
section
variable {P : Program} {w : World} {K : PySem.W.Frag} {mg : Str → Option Value} {base : Heap} {a : Ads}
def ringF (R : List (Int × Int)) (k : Int) : Option (List Int) := if RC.onRing R k (RC.pathOf R k) = true then some (RC.pathOf R k) else none
theorem iv_get {l : List Int} {i : Nat} {x : V} (h : (iv l)[i]? = some x) : ∃ k, l[i]? = some k ∧ x = .int k := by
  unfold iv at h
  rw [List.getElem?_map] at h
  cases hl : l[i]? with
  | none => rw [hl] at h; cases h
  | some k => rw [hl] at h; exact ⟨k, rfl, (Option.some.inj h).symm⟩
theorem keys_len {R : List (Int × Int)} : (RC.keys R).length = R.length := List.length_map _
theorem fm_snoc {α β : Type} {f : α → Option β} {l : List α} {x : α} : (l ++ [x]).filterMap f = l.filterMap f ++ (f x).toList := by
  rw [List.filterMap_append]
  cases h : f x with
  | none => simp [h]
  | some y => simp [h]
theorem fm_le {α β : Type} {f : α → Option β} {l : List α} : (l.filterMap f).length ≤ l.length := List.length_filterMap_le f l
def spLists (K : PySem.W.Frag) (C : Addr) (f : List (Int × Int) → List PyData) : Sp := fun vs H Q _ => ∃ (t : Addr) (R : List (Int × Int)), vs = [.ref t] ∧ TabAt C H t R ∧
  ∀ (p : Addr) (xs : List V) (H' : Hp), Same H H' → H p = none → H' p = some (.lst xs) → DpAll K H' xs (f R) → Q (.ref p) H'
def spTups (K : PySem.W.Frag) (C : Addr) (f : List (Int × Int) → List PyData) : Sp := fun vs H Q _ => ∃ (t : Addr) (R : List (Int × Int)), vs = [.ref t] ∧ TabAt C H t R ∧
  ∀ (p : Addr) (H' : Hp), Same H H' → Dp K H' (.ref p) (.tuple (f R)) → Q (.ref p) H'
def ringsD (R : List (Int × Int)) : List PyData := (RC.rings R).map tupD
theorem sc50 : FnScope ["table", "found", "key", "rows"] ["table"] (defScope (topS 50)) := ⟨rfl, rfl, rfl, by decide +kernel, rfl, by decide +kernel, by decide +kernel⟩
theorem ok_rings_of (T : Tx K mg a) : Fnc P w K mg base CX0 8 "rings_of" (spLists K a.T ringsD) := by
  have ck : Fnc P w K mg base CX0 4 "keys_of" (spKeys a.T) := ok_keys_of T
  have cw : Fnc P w K mg base CX0 6 "waited" (spWaited a.T) := ok_waited T
  have cp : Fnc P w K mg base CX0 7 "path_of" (spPath a.T) := ok_path_of T
  refine fnc_of T.d_rings_of sc50 (fun _ _ _ _ _ _ us hl => match us, hl with | [_], _ => rfl) (fun vs H Q E h => ?_) fun f cdv A outer s H vs Q E hr h => ?_
  · obtain ⟨t, R, rfl, _⟩ := h; rfl
  · obtain ⟨t, R, rfl, S, kq⟩ := h
    have ok := S.ok
    refine ⟨_, pss_cons (ps_set (i := 1) sc50.nd rfl (.inl rfl) (pe_lst pa_nil))
      (pss_cons (ps_for PassesOwn.never rfl (pi_list (pe_f ck hr (by decide) (E := E0) pass0 (by rfl) (pa_cons (pv 0) pa_nil))) (pg_name (i := 2) sc50.nd rfl (.inl rfl))
        (pss_cons (ps_set (i := 3) sc50.nd rfl (.inl rfl) (pe_f cp hr (by decide) (E := E0) pass0 (by rfl) (pa_cons (pv 0) (pa_cons (pv 2) pa_nil))))
        (pss_one (ps_if (PW.pt (pw_and (pt_cmpR op_eq (pe_f cw hr (by decide) (E := E0) pass0 (by rfl) (pa_cons (pv 0) (pa_cons (pe_ix ix_list (pv 3) (pe_un un_neg pe_int) (fun _ _ => rfl)) pa_nil))) (pv 2) (nomark _))
            (pw_and1 (pt_cmpR op_eq (pv 2) (pe_callB (cr_min rfl) (by rfl) T.min (by decide +kernel) (pa_cons (pv 3) pa_nil)) (nomark _)))))
          (pss_one (ps_expr (pe_bm PySem.F.plainAttrs_list PySem.F.slot_list_append PySem.F.type_list_append mt_append (pv 1) (pa_cons (pe_callTy call_tuple_of (by rfl) T.tuple PyProof.Rows.boot_tuple (pa_cons (pv 3) pa_nil)) pa_nil)))) pss_nil))))
      (pss_one (ps_ret (pv 1)))), ?_⟩
    refine ⟨by show 0 ≤ sizeLine; exact Nat.zero_le _, fun p np => ?_⟩
    have s1 : Same H (upd H p (.lst [])) := Same.new np
    refine ⟨_, rfl, t, R, rfl, S.same s1, fun q H1 s2 nq hq => ⟨q, rfl, ⟨_, SqL.of hq⟩, ?_⟩⟩
    have hpq : p ≠ q := ne_of_none upd_same nq
    have hk30 : (RC.keys R).length ≤ 30 := by rw [keys_len]; exact ok.len
    refine for_list (xs := iv (RC.keys R)) (fun i σ H2 => ∃ v2 v3 xs, σ = [some (.ref t), some (.ref p), v2, v3] ∧ Same H H2 ∧ H2 q = some (.lst (iv (RC.keys R))) ∧ H2 p = some (.lst xs) ∧ DpAll K H2 xs ((((RC.keys R).take i).filterMap (ringF R)).map tupD))
      ⟨none, none, [], rfl, s1.trans s2, hq, s2 _ _ upd_same, .nil⟩ (fun i σ H2 _ ⟨_, _, _, _, _, h, _⟩ => SqL.of h) ?_ ?_
    · rintro i x σ H2 hi ⟨v2, v3, xs, rfl, s3, hq2, hp2, hd⟩
      obtain ⟨k, hki, rfl⟩ := iv_get hi
      have hk : k ∈ RC.keys R := List.mem_of_getElem? hki
      have hi30 : i < (RC.keys R).length := (List.getElem?_eq_some_iff.mp hki).1
      have hxl : xs.length ≤ 30 := by
        have := dpAll_len hd
        rw [List.length_map] at this
        have h2 := fm_le (f := ringF R) (l := (RC.keys R).take i)
        rw [List.length_take] at h2
        omega
      refine ⟨_, rfl, _, rfl, t, R, k, rfl, S.same s3, hk, fun r H3 s4 nr hr3 => ?_⟩
      have ip := RC.isPath hk
      obtain ⟨tl, etl⟩ := ip.cons
      have hne : RC.pathOf R k ≠ [] := by rw [etl]; simp
      obtain ⟨l, hl⟩ : ∃ l, (RC.pathOf R k).getLast? = some l := ⟨_, List.getLast?_eq_some_getLast hne⟩
      have hlk := ip.sub l (List.mem_of_getLast? hl)
      have hrk : k ∈ RC.pathOf R k := by rw [etl]; exact List.mem_cons_self
      have hrf : ringF R k = if RC.waited R l = some k ∧ ∀ y ∈ RC.pathOf R k, k ≤ y then some (RC.pathOf R k) else none := by
        unfold ringF RC.onRing
        rw [hl]
        show (if (decide (RC.waited R l = some k) && (RC.pathOf R k).all fun y => !decide (y < k)) = true then _ else _) = _
        congr 1
        rw [Bool.and_eq_true, decide_eq_true_eq, List.all_eq_true]
        refine propext (and_congr_right fun _ => forall_congr' fun y => imp_congr_right fun _ => ?_)
        rw [Bool.not_eq_true', decide_eq_false_iff_not]
        exact Int.not_lt
      -- where nothing is added
      have skip : ringF R k = none → ∃ v2 v3 xs, ([some (.ref t), some (.ref p), some (.int k), some (.ref r)] : L2.St) = [some (.ref t), some (.ref p), v2, v3] ∧ Same H H3 ∧ H3 q = some (.lst (iv (RC.keys R))) ∧ H3 p = some (.lst xs) ∧
          DpAll K H3 xs ((((RC.keys R).take (i + 1)).filterMap (ringF R)).map tupD) := fun e => by
        refine ⟨_, _, xs, rfl, s3.trans s4, s4 _ _ hq2, s4 _ _ hp2, ?_⟩
        rw [take_snoc hki, fm_snoc, e, Option.toList_none, List.append_nil]
        exact DpAll.same s4 _ _ hd
      refine ⟨_, rfl, _, rfl, 1, rfl, r, _, -1, .int l, rfl, rfl, SqL.of hr3, atI_end hl, t, R, l, rfl, S.same (s3.trans s4), hlk, _, rfl, ?_⟩
      have sc : scal (optV (RC.waited R l)) (.int k) = true := by cases RC.waited R l <;> rfl
      refine ⟨sc, _, rfl, ?_⟩
      by_cases hw : RC.waited R l = some k
      · rw [hw, decide_eq_true (show optV (some k) = V.int k from rfl)]
        refine iteT ⟨_, rfl, _, rfl, r, RC.pathOf R k, rfl, SqL.of hr3, List.length_pos_iff.mpr hne, fun m hm hle => ⟨rfl, _, rfl, ?_⟩⟩
        by_cases hmk : k = m
        · subst hmk
          rw [decide_eq_true rfl]
          have hon : ringF R k = some (RC.pathOf R k) := by rw [hrf, if_pos ⟨hw, hle⟩]
          refine iteT ⟨_, rfl, .inl ⟨rfl, _, SqL.of (s4 _ _ hp2)⟩, _, rfl, r, _, rfl, .inl ⟨SqL.of hr3, fun u nu => ?_⟩⟩
          have s5 : Same H3 (upd H3 u (.tup (iv (RC.pathOf R k)))) := Same.new nu
          have hp5 := s5 _ _ (s4 _ _ hp2)
          refine ⟨p, xs, .ref u, rfl, rfl, hp5, small1000 (by omega), _, _, xs ++ [.ref u], rfl, ((s3.trans s4).trans s5).up np, ?_, upd_same, ?_⟩
          · rw [upd_ne hpq.symm]
            exact s5 _ _ (s4 _ _ hq2)
          · rw [take_snoc hki, fm_snoc, hon, List.map_append]
            exact DpAll.lu hp5 (NoL_app (NoL.map tup_noL _) (NoL.map tup_noL [RC.pathOf R k])) (dpAll_snoc (DpAll.same (s4.trans s5) _ _ hd) (.tup (.inl (.inl upd_same)) (dp_ints _)))
        · rw [decide_eq_false fun z => hmk (by injection z)]
          exact iteF (skip (by rw [hrf, if_neg fun z => hmk (Int.le_antisymm (z.2 m hm) (hle k hrk))]))
      · rw [decide_eq_false (show ¬ optV (RC.waited R l) = V.int k from fun z => hw (by cases h : RC.waited R l with
          | none => rw [h] at z; cases z
          | some y => rw [h] at z; injection z with z; rw [z]))]
        exact iteF (iteF (skip (by rw [hrf, if_neg fun z => hw z.1])))
    · rintro σ H2 ⟨v2, v3, xs, rfl, s3, hq2, hp2, hd⟩
      rw [iv_len, List.take_length] at hd
      exact ⟨_, rfl, kq p xs H2 s3 np hp2 hd⟩
theorem sc51 : FnScope ["table"] ["table"] (defScope (topS 51)) := ⟨rfl, rfl, rfl, by decide +kernel, rfl, by decide +kernel, by decide +kernel⟩
theorem ok_rings (T : Tx K mg a) : Fnc P w K mg base CX0 9 "rings" (spTups K a.T ringsD) := by
  have cn : Fnc P w K mg base CX0 1 "need_table" (spNeed a.T) := ok_need_table T
  have cr : Fnc P w K mg base CX0 8 "rings_of" (spLists K a.T ringsD) := ok_rings_of T
  refine fnc_of T.d_rings sc51 (fun _ _ _ _ _ _ us hl => match us, hl with | [_], _ => rfl) (fun vs H Q E h => ?_) fun f cdv A outer s H vs Q E hr h => ?_
  · obtain ⟨t, R, rfl, _⟩ := h; rfl
  · obtain ⟨t, R, rfl, S, kq⟩ := h
    refine ⟨_, pss_cons (ps_expr (pe_f cn hr (by decide) (E := E0) pass0 (by rfl) (pa_cons (pv 0) pa_nil)))
      (pss_one (ps_ret (pe_callTy call_tuple_of (by rfl) T.tuple PyProof.Rows.boot_tuple (pa_cons (pe_f cr hr (by decide) (E := E0) pass0 (by rfl) (pa_cons (pv 0) pa_nil)) pa_nil)))), ?_⟩
    refine ⟨_, rfl, t, R, rfl, S, _, rfl, t, R, rfl, S, fun p xs H1 s1 np hp hd => ⟨p, xs, rfl, .inl ⟨SqL.of hp, fun q nq => ?_⟩⟩⟩
    have s2 : Same H1 (upd H1 q (.tup xs)) := Same.new nq
    exact kq q _ (s1.trans s2) (.tup (.inl (.inl upd_same)) (DpAll.same s2 _ _ hd))
end
end RcX
end
section
set_option Elab.async false
set_option linter.all false
set_option maxRecDepth 100000
set_option maxHeartbeats 4000000
namespace RcX
open PySem PySem.Spec PyProof.Rows L2
/-! ### what keeps the tuples -/
structure TupS (H H' : Hp) : Prop where
  t : ∀ b xs, H b = some (.tup xs) → H' b = some (.tup xs)
  z : ∀ b o xs, H b = some (.frz o (.tup xs)) → H' b = some (.frz o (.tup xs))
theorem TupS.trans {H H1 H2 : Hp} (a : TupS H H1) (b : TupS H1 H2) : TupS H H2 := ⟨fun c x h => b.t c x (a.t c x h), fun c o x h => b.z c o x (a.z c o x h)⟩
theorem TupS.same {H H' : Hp} (e : Same H H') : TupS H H' := ⟨fun b _ h => e b _ h, fun b _ _ h => e b _ h⟩
def notT : HO → Bool
  | .tup _ => false
  | .frz _ _ => false
  | _ => true
theorem TupS.upd {H : Hp} {p : Addr} {o u : HO} (hp : H p = some o) (n : notT o = true) : TupS H (upd H p u) := by
  have key : ∀ b v, H b = some v → notT v = false → (L2.upd H p u) b = some v := fun b v z nv => by
    have : b ≠ p := fun e => by rw [e, hp] at z; rw [← Option.some.inj z, n] at nv; cases nv
    rw [upd_ne this]; exact z
  exact ⟨fun b xs z => key b _ z rfl, fun b o xs z => key b _ z rfl⟩
theorem SqT.ts {K : PySem.W.Frag} {H H' : Hp} {p : Addr} {xs : List V} (e : TupS H H') (h : SqT K H p xs) : SqT K H' p xs := by
  rcases h with (h | ⟨o, h⟩) | h
  · exact .inl (.inl (e.t _ _ h))
  · exact .inl (.inr ⟨o, e.z _ _ _ h⟩)
  · exact .inr h
theorem DpAll.ts {K : PySem.W.Frag} {H H' : Hp} {ds : List PyData} {vs : List V} (e : TupS H H') (n : NoL.go ds = true) (h : DpAll K H vs ds) : DpAll K H' vs ds := DpAll.same' e.t e.z _ _ n h
theorem Dp.ts {K : PySem.W.Frag} {H H' : Hp} {d : PyData} {v : V} (e : TupS H H') (n : NoL d = true) (h : Dp K H v d) : Dp K H' v d := Dp.same' e.t e.z _ _ n h
/-! ### a dict of lists of ints -/
abbrev Zs := List (Int × Addr × List Int)
def kvZ (Z : Zs) : List (Key × V) := Z.map fun z => (Sum.inl z.1, V.ref z.2.1)
def lsZ (Z : Zs) : List (Int × List Int) := Z.map fun z => (z.1, z.2.2)
structure GD (H : Hp) (d : Addr) (Z : Zs) : Prop where
  dc : H d = some (.dK (kvZ Z))
  nd : (Z.map (·.2.1)).Nodup
  ls : ∀ z ∈ Z, H z.2.1 = some (.lst (iv z.2.2))
theorem GD.same {H H' : Hp} {d : Addr} {Z : Zs} (e : Same H H') (g : GD H d Z) : GD H' d Z := ⟨e _ _ g.dc, g.nd, fun z hz => e _ _ (g.ls z hz)⟩
theorem kvZ_len (Z : Zs) : (kvZ Z).length = Z.length := List.length_map _
theorem find_z (n : Int) : ∀ Z : Zs, (valV (kvZ Z) (Sum.inl n : Key) = none ∧ n ∉ Z.map (·.1)) ∨ ∃ Z1 ad ks Z2, Z = Z1 ++ (n, ad, ks) :: Z2 ∧ n ∉ Z1.map (·.1) ∧ valV (kvZ Z) (Sum.inl n : Key) = some (.ref ad)
  | [] => .inl ⟨rfl, by simp⟩
  | z :: Z => by
    obtain ⟨m, ad, ks⟩ := z
    by_cases h : m = n
    · subst h
      exact .inr ⟨[], ad, ks, Z, rfl, by simp, valV_pos rfl⟩
    · have hn : ¬ (Sum.inl m : Key) = Sum.inl n := fun e => h (Sum.inl.inj e)
      have e : valV (kvZ ((m, ad, ks) :: Z)) (Sum.inl n : Key) = valV (kvZ Z) (Sum.inl n : Key) := valV_neg hn
      rcases find_z n Z with ⟨h1, h2⟩ | ⟨Z1, a2, k2, Z2, h1, h2, h3⟩
      · refine .inl ⟨by rw [e]; exact h1, ?_⟩
        rw [List.map_cons, List.mem_cons]
        rintro (z | z)
        · exact h z.symm
        · exact h2 z
      · refine .inr ⟨(m, ad, ks) :: Z1, a2, k2, Z2, by rw [h1]; rfl, ?_, by rw [e]; exact h3⟩
        rw [List.map_cons, List.mem_cons]
        rintro (z | z)
        · exact h z.symm
        · exact h2 z
theorem put_in (n k : Int) (ad : Addr) (ks : List Int) (Z2 : Zs) : ∀ Z1 : Zs, n ∉ Z1.map (·.1) → RC.put n k (lsZ (Z1 ++ (n, ad, ks) :: Z2)) = lsZ (Z1 ++ (n, ad, ks ++ [k]) :: Z2)
  | [], _ => by
    show (if n = n then _ else _) = _
    rw [if_pos rfl]; rfl
  | (m, a', k') :: Z1, h => by
    rw [List.map_cons, List.mem_cons, not_or] at h
    show (if m = n then _ else (m, k') :: RC.put n k (lsZ (Z1 ++ (n, ad, ks) :: Z2))) = _
    rw [if_neg fun z => h.1 z.symm, put_in n k ad ks Z2 Z1 h.2]
    rfl
theorem put_new (n k : Int) (e : Addr) : ∀ Z : Zs, n ∉ Z.map (·.1) → RC.put n k (lsZ Z) = lsZ (Z ++ [(n, e, [k])])
  | [], _ => rfl
  | (m, a', k') :: Z, h => by
    rw [List.map_cons, List.mem_cons, not_or] at h
    show (if m = n then _ else (m, k') :: RC.put n k (lsZ Z)) = _
    rw [if_neg fun z => h.1 z.symm, put_new n k e Z h.2]
    rfl
theorem kvZ_in (n : Int) (ad : Addr) (ks ks' : List Int) (Z1 Z2 : Zs) : kvZ (Z1 ++ (n, ad, ks) :: Z2) = kvZ (Z1 ++ (n, ad, ks') :: Z2) := by
  unfold kvZ
  rw [List.map_append, List.map_append]; rfl
/-- one more key at its group -/
theorem gd_in {H : Hp} {d ad : Addr} {n k : Int} {ks : List Int} {Z1 Z2 : Zs} (g : GD H d (Z1 ++ (n, ad, ks) :: Z2)) : GD (upd H ad (.lst (iv ks ++ [.int k]))) d (Z1 ++ (n, ad, ks ++ [k]) :: Z2) := by
  have hd := g.ls (n, ad, ks) (by simp)
  have hne : d ≠ ad := fun e => by
    have z := g.dc
    rw [e, hd] at z; cases z
  have hnd := g.nd
  rw [List.map_append, List.map_cons, List.nodup_append, List.nodup_cons] at hnd
  obtain ⟨n1, ⟨n2, n3⟩, n4⟩ := hnd
  refine ⟨by rw [upd_ne hne, g.dc, kvZ_in n ad ks (ks ++ [k])], ?_, fun z hz => ?_⟩
  · rw [List.map_append, List.map_cons, List.nodup_append, List.nodup_cons]
    exact ⟨n1, ⟨n2, n3⟩, n4⟩
  · rcases List.mem_append.mp hz with hz | hz
    · have : z.2.1 ≠ ad := n4 z.2.1 (List.mem_map.mpr ⟨z, hz, rfl⟩) ad List.mem_cons_self
      rw [upd_ne this]
      exact g.ls z (List.mem_append_left _ hz)
    · rcases List.mem_cons.mp hz with rfl | hz
      · rw [upd_same, iv_snoc]
      · have : z.2.1 ≠ ad := fun e => n2 (e ▸ List.mem_map.mpr ⟨z, hz, rfl⟩)
        rw [upd_ne this]
        exact g.ls z (List.mem_append_right _ (List.mem_cons_of_mem _ hz))
/-- a new group -/
theorem gd_new {H : Hp} {d e : Addr} {n k : Int} {Z : Zs} (g : GD H d Z) (ne : H e = none) (hv : valV (kvZ Z) (Sum.inl n : Key) = none) :
    GD (upd (upd (upd H e (.lst [])) d (.dK (putK (kvZ Z) (Sum.inl n) (.ref e)))) e (.lst ([] ++ [.int k]))) d (Z ++ [(n, e, [k])]) := by
  have hde : d ≠ e := ne_of_none g.dc ne
  refine ⟨?_, ?_, fun z hz => ?_⟩
  · rw [upd_ne hde, upd_same, putK_new _ hv]
    unfold kvZ
    rw [List.map_append]; rfl
  · rw [List.map_append, List.nodup_append]
    refine ⟨g.nd, by simp, fun x hx y hy => ?_⟩
    rw [List.map_cons, List.map_nil, List.mem_singleton] at hy
    subst hy
    obtain ⟨z, hz, rfl⟩ := List.mem_map.mp hx
    exact ne_of_none (g.ls z hz) ne
  · rcases List.mem_append.mp hz with hz | hz
    · have h1 : z.2.1 ≠ e := ne_of_none (g.ls z hz) ne
      have h2 : z.2.1 ≠ d := fun q => by
        have y := g.ls z hz
        rw [q, g.dc] at y; cases y
      rw [upd_ne h1, upd_ne h2, upd_ne h1]
      exact g.ls z hz
    · rw [List.mem_singleton.mp hz, upd_same]; rfl
section
variable {P : Program} {w : World} {K : PySem.W.Frag} {mg : Str → Option Value} {base : Heap} {a : Ads}
def spByNew (C : Addr) : Sp := fun vs H Q _ => ∃ (t : Addr) (R : List (Int × Int)), vs = [.ref t] ∧ TabAt C H t R ∧
  ∀ (d : Addr) (Z : Zs) (H' : Hp), Same H H' → GD H' d Z → lsZ Z = RC.byNew R → Q (.ref d) H'
theorem byNew_snoc {R : List (Int × Int)} {i : Nat} {k n : Int} (h : R[i]? = some (k, n)) : RC.byNew (R.take (i + 1)) = RC.put n k (RC.byNew (R.take i)) := by
  unfold RC.byNew
  rw [take_snoc h, List.foldl_append]; rfl
theorem put_len (n k : Int) : ∀ d : List (Int × List Int), (RC.put n k d).length ≤ d.length + 1
  | [] => Nat.le_refl _
  | (m, l) :: r => by
    unfold RC.put
    by_cases h : m = n
    · rw [if_pos h]; simp
    · rw [if_neg h, List.length_cons, List.length_cons]
      have := put_len n k r
      omega
theorem put_sub_len {n k : Int} {d : List (Int × List Int)} {N : Nat} (h : ∀ p ∈ d, p.2.length ≤ N) : ∀ p ∈ RC.put n k d, p.2.length ≤ N + 1 := by
  induction d with
  | nil =>
    intro p hp
    rw [show p = (n, [k]) from List.mem_singleton.mp hp]
    exact Nat.succ_le_succ (Nat.zero_le _)
  | cons q r ih =>
    obtain ⟨m, l⟩ := q
    intro p hp
    unfold RC.put at hp
    by_cases e : m = n
    · rw [if_pos e] at hp
      rcases List.mem_cons.mp hp with rfl | hp
      · have := h (m, l) (by simp)
        rw [List.length_append]
        exact Nat.succ_le_succ this
      · exact Nat.le_succ_of_le (h p (List.mem_cons_of_mem _ hp))
    · rw [if_neg e] at hp
      rcases List.mem_cons.mp hp with rfl | hp
      · exact Nat.le_succ_of_le (h (m, l) (by simp))
      · exact ih (fun p hp => h p (List.mem_cons_of_mem _ hp)) p hp
theorem byNew_lens (R : List (Int × Int)) : ∀ i, (RC.byNew (R.take i)).length ≤ i ∧ ∀ p ∈ RC.byNew (R.take i), p.2.length ≤ i
  | 0 => ⟨Nat.le_refl _, fun p hp => by cases hp⟩
  | i + 1 => by
    obtain ⟨h1, h2⟩ := byNew_lens R i
    cases h : R[i]? with
    | none =>
      have hl := List.getElem?_eq_none_iff.mp h
      have e : R.take (i + 1) = R.take i := by rw [List.take_of_length_le (by omega), List.take_of_length_le hl]
      rw [e]
      exact ⟨by omega, fun p hp => Nat.le_succ_of_le (h2 p hp)⟩
    | some q =>
      obtain ⟨k, n⟩ := q
      rw [byNew_snoc h]
      exact ⟨Nat.le_trans (put_len n k _) (Nat.succ_le_succ h1), put_sub_len h2⟩
theorem sc52 : FnScope ["table", "found", "key", "new"] ["table"] (defScope (topS 52)) := ⟨rfl, rfl, rfl, by decide +kernel, rfl, by decide +kernel, by decide +kernel⟩
theorem ok_by_new (T : Tx K mg a) : Fnc P w K mg base CX0 4 "by_new" (spByNew a.T) := by
  have cr : Prp P w K mg base 2 a.T "rows" (spRows K a.T) := prp_rows T
  refine fnc_of T.d_by_new sc52 (fun _ _ _ _ _ _ us hl => match us, hl with | [_], _ => rfl) (fun vs H Q E h => ?_) fun f cdv A outer s H vs Q E hr h => ?_
  · obtain ⟨t, R, rfl, _⟩ := h; rfl
  · obtain ⟨t, R, rfl, S, kq⟩ := h
    have ok := S.ok
    refine ⟨_, pss_cons (ps_set (i := 1) sc52.nd rfl (.inl rfl) pe_dnewK)
      (pss_cons (ps_for PassesOwn.never rfl (pi_tup (pe_pr cr T.insT.cl hr (by decide) (pv 0))) (pg_tup rfl (pgs_cons (pg_name (i := 2) sc52.nd rfl (Or.inl rfl)) (pgs_cons (pg_name (i := 3) sc52.nd rfl (Or.inl rfl)) pgs_nil)))
        (pss_one (ps_expr (pe_bm PySem.F.plainAttrs_list PySem.F.slot_list_append PySem.F.type_list_append mt_append (pe_dsetd (pv 1) (pv 3) (pe_lst pa_nil) ⟨rfl, rfl, rfl, rfl⟩) (pa_cons (pv 2) pa_nil)))))
      (pss_one (ps_ret (pv 1)))), ?_⟩
    intro d nd
    have s1 : Same H (upd H d (.dK [])) := Same.new nd
    obtain ⟨dx, dd, T', e1, _, _⟩ := (S.same s1).ex
    refine ⟨_, rfl, t, dx, _, rfl, e1, t, R, rfl, S.same s1, fun p xs H1 s2 np hx hd => ⟨p, rfl, ⟨xs, .inl (.inl hx)⟩, ?_⟩⟩
    have hl : xs.length = R.length := by rw [dpAll_len hd, List.length_map]
    have pd : ∀ {b o}, H1 b = some (.tup o) → b ≠ d := fun z e => by rw [e, s2 _ _ upd_same] at z; cases z
    refine for_tup (xs := xs) (fun i σ H2 => ∃ v2 v3 Z, σ = [some (.ref t), some (.ref d), v2, v3] ∧ Same H H2 ∧ GD H2 d Z ∧ lsZ Z = RC.byNew (R.take i) ∧ (∀ z ∈ Z, H z.2.1 = none) ∧ SqT K H2 p xs ∧ DpAll K H2 xs (R.map pairD))
      ⟨none, none, [], rfl, s1.trans s2, ⟨s2 _ _ upd_same, List.nodup_nil, (fun z hz => by cases hz)⟩, rfl, (fun z hz => by cases hz), .inl (.inl hx), hd⟩ (fun i σ H2 _ ⟨_, _, _, _, _, _, _, _, h, _⟩ => h) ?_ ?_
    · rintro i x σ H2 hi ⟨v2, v3, Z, rfl, s3, g, eZ, fr, hp2, hd2⟩
      obtain ⟨q, k, n, hR, rfl, hq⟩ := pair_at hd2 hi
      have hi30 : i < 30 := by
        have h3 : i < xs.length := (List.getElem?_eq_some_iff.mp hi).1
        have := ok.len
        omega
      have hZl : Z.length ≤ 30 := by
        have h1 := (byNew_lens R i).1
        rw [← eZ] at h1
        have h2 : (lsZ Z).length = Z.length := List.length_map _
        omega
      refine ⟨q, _, rfl, hq, rfl, _, _, rfl, _, _, rfl, rfl, ?_⟩
      refine ⟨_, rfl, d, rfl, .inl ⟨_, .inl g.dc⟩, _, rfl, Nat.zero_le _, fun e ne => ?_⟩
      have s4 : Same H2 (upd H2 e (.lst [])) := Same.new ne
      have s34 := s3.trans s4
      have ts4 := TupS.same s4
      refine ⟨kvZ Z, Sum.inl n, s4 _ _ g.dc, rfl, by rw [kvZ_len]; exact small1000 (by omega), fun v hv => ?_, fun hv => ?_⟩
      · rcases find_z n Z with ⟨h1, _⟩ | ⟨Z1, ad, ks, Z2, eq, hn, h3⟩
        · rw [h1] at hv; cases hv
        · rw [h3] at hv
          obtain rfl : V.ref ad = v := Option.some.inj hv
          subst eq
          have g4 := g.same s4
          have had : (upd H2 e (.lst [])) ad = some (.lst (iv ks)) := g4.ls (n, ad, ks) (by simp)
          have hks : ks.length ≤ 30 := by
            have h1 := (byNew_lens R i).2 (n, ks) (by rw [← eZ]; unfold lsZ; exact List.mem_map.mpr ⟨(n, ad, ks), by simp, rfl⟩)
            have h4 : ks.length ≤ i := h1
            omega
          have ts := ts4.trans (TupS.upd (u := .lst (iv ks ++ [.int k])) had rfl)
          refine ⟨.inl ⟨rfl, _, SqL.of had⟩, _, rfl, ad, _, _, rfl, rfl, had, by rw [iv_len]; exact small1000 (by omega), ?_⟩
          refine ⟨_, _, _, rfl, s34.up (fr (n, ad, ks) (by simp)), gd_in g4, ?_, fun z hz => ?_, SqT.ts ts hp2, DpAll.ts ts (NoL.map pair_noL _) hd2⟩
          · rw [← put_in n k ad ks Z2 Z1 hn, eZ, byNew_snoc hR]
          · rcases List.mem_append.mp hz with hz | hz
            · exact fr z (List.mem_append_left _ hz)
            · rcases List.mem_cons.mp hz with rfl | hz
              · exact fr (n, ad, ks) (by simp)
              · exact fr z (List.mem_append_right _ (List.mem_cons_of_mem _ hz))
      · rcases find_z n Z with ⟨_, hn⟩ | ⟨Z1, ad, ks, Z2, eq, hn, h3⟩
        · have hde : d ≠ e := ne_of_none g.dc ne
          have hd4 : (upd H2 e (.lst [])) d = some (.dK (kvZ Z)) := s4 _ _ g.dc
          have he5 : (upd (upd H2 e (.lst [])) d (.dK (putK (kvZ Z) (Sum.inl n) (.ref e)))) e = some (.lst []) := by rw [upd_ne hde.symm, upd_same]
          have ts := (ts4.trans (TupS.upd (u := .dK (putK (kvZ Z) (Sum.inl n) (.ref e))) hd4 rfl)).trans (TupS.upd (u := .lst ([] ++ [.int k])) he5 rfl)
          refine ⟨.inl ⟨rfl, _, SqL.of he5⟩, _, rfl, e, _, _, rfl, rfl, he5, by show 0 < sizeLine; rw [sizeLine_eq]; decide, ?_⟩
          refine ⟨_, _, _, rfl, (s34.up nd).up (s3.free ne), gd_new g ne hv, ?_, fun z hz => ?_, SqT.ts ts hp2, DpAll.ts ts (NoL.map pair_noL _) hd2⟩
          · rw [← put_new n k e Z hn, eZ, byNew_snoc hR]
          · rcases List.mem_append.mp hz with hz | hz
            · exact fr z hz
            · rw [List.mem_singleton.mp hz]
              exact s3.free ne
        · rw [h3] at hv; cases hv
    · rintro σ H2 ⟨v2, v3, Z, rfl, s3, g, eZ, _, hp2, hd2⟩
      rw [hl, List.take_length] at eZ
      exact ⟨_, rfl, kq d Z H2 s3 g eZ⟩
end
end RcX
end
section
set_option Elab.async false
set_option linter.all false
set_option maxRecDepth 100000
set_option maxHeartbeats 4000000
namespace RcX
open PySem PySem.Spec PyProof.Rows L2
/-! ### the same rules with the written part named (within a comprehension's block) -/
def rTupOf (K : PySem.W.Frag) : List V → Hp → VK → Prop := fun xs H Q => ∃ p ys, xs = [.ref p] ∧ ((SqL K H p ys ∧ ∀ l, H l = none → Q (.ref l) (upd H l (.tup ys))) ∨ (SqT K H p ys ∧ Q (.ref p) H))
theorem call_tupK {X : Cx} {K : PySem.W.Frag} (hK : X.K = K := by rfl) : CallR X (.type "tuple") (rTupOf K) := by
  subst hK
  exact call_tuple_of
def rLenSeq (K : PySem.W.Frag) : List V → Hp → VK → Prop := fun xs H Q => ∃ p ys, xs = [.ref p] ∧ (SqL K H p ys ∨ SqT K H p ys) ∧ Q (.int (ys.length : Int)) H
theorem call_lenK {X : Cx} {K : PySem.W.Frag} (hK : X.K = K := by rfl) : CallR X (.builtin "len") (rLenSeq K) := by
  subst hK
  exact call_len_seq
section
variable {P : Program} {w : World} {K : PySem.W.Frag} {mg : Str → Option Value} {base : Heap} {a : Ads}
/-! ### the orders of tuples -/
theorem tup_alike : ∀ b b' : List Int, PySem.W.alike (tupD b) (tupD b') = true := fun b b' => by
  show PySem.W.alike (.tuple _) (.tuple _) = true
  rw [PySem.W.alike]
  exact PySem.W.alike_ints b b'
theorem tup_depth (l : List Int) : (tupD l).depth ≤ 8 := by
  show (PyData.tuple (l.map .int)).depth ≤ 8
  rw [PyData.depth, PySem.W.depth_ints]
  decide
theorem le_tup : PySem.W.dataLe false tupD = RC.leL := by
  funext x y
  show (!PySem.W.dataLt (tupD y) (tupD x)) = !decide (y < x)
  congr 1
  show PySem.W.dataLt (.tuple (y.map .int)) (.tuple (x.map .int)) = _
  rw [PySem.W.dataLt_tuple]
  exact PySem.W.dataLt_ints y x
theorem put_nd (n k : Int) : ∀ d : List (Int × List Int), (d.map (·.1)).Nodup → ((RC.put n k d).map (·.1)).Nodup ∧ ∀ m, m ∈ (RC.put n k d).map (·.1) → m = n ∨ m ∈ d.map (·.1)
  | [], _ => ⟨by show [n].Nodup; simp, fun m hm => .inl (List.mem_singleton.mp hm)⟩
  | (m, l) :: r, h => by
    obtain ⟨h1, h2⟩ := List.nodup_cons.mp (show (m :: r.map (·.1)).Nodup from h)
    unfold RC.put
    by_cases e : m = n
    · rw [if_pos e]
      exact ⟨h, fun x hx => .inr hx⟩
    · rw [if_neg e]
      obtain ⟨i1, i2⟩ := put_nd n k r h2
      refine ⟨?_, fun x hx => ?_⟩
      · show (m :: (RC.put n k r).map (·.1)).Nodup
        refine List.nodup_cons.mpr ⟨fun z => ?_, i1⟩
        rcases i2 m z with z | z
        · exact e z
        · exact h1 z
      · rcases List.mem_cons.mp (show x ∈ m :: (RC.put n k r).map (·.1) from hx) with rfl | hx
        · exact .inr List.mem_cons_self
        · rcases i2 x hx with z | z
          · exact .inl z
          · exact .inr (List.mem_cons_of_mem _ z)
theorem byNew_nd_go : ∀ (R : List (Int × Int)) (d : List (Int × List Int)), (d.map (·.1)).Nodup → ((R.foldl (fun d p => RC.put p.2 p.1 d) d).map (·.1)).Nodup
  | [], _, h => h
  | p :: R, d, h => byNew_nd_go R _ (put_nd p.2 p.1 d h).1
theorem byNew_nd (R : List (Int × Int)) : ((RC.byNew R).map (·.1)).Nodup := byNew_nd_go R [] List.nodup_nil
theorem val_at {n : Int} {ad : Addr} {ks : List Int} : ∀ {Z : Zs}, (Z.map (·.1)).Nodup → (n, ad, ks) ∈ Z → valV (kvZ Z) (Sum.inl n : Key) = some (.ref ad)
  | [], _, h => by cases h
  | (m, a', k') :: Z, hn, h => by
    obtain ⟨h1, h2⟩ := List.nodup_cons.mp (show (m :: Z.map (·.1)).Nodup from hn)
    rcases List.mem_cons.mp h with e | h
    · injection e with e1 e2
      injection e2 with e2 e3
      subst e1 e2 e3
      exact valV_pos rfl
    · have : ¬ (Sum.inl m : Key) = Sum.inl n := fun e => h1 (Sum.inl.inj e ▸ List.mem_map.mpr ⟨_, h, rfl⟩)
      have e : valV (kvZ ((m, a', k') :: Z)) (Sum.inl n : Key) = valV (kvZ Z) (Sum.inl n : Key) := valV_neg this
      rw [e]
      exact val_at h2 h
theorem lsZ_keys (Z : Zs) : (lsZ Z).map (·.1) = Z.map (·.1) := by unfold lsZ; rw [List.map_map]; rfl
theorem unlock_same {H H1 : Hp} {d : Addr} {o : Obj} {u : HO} (hd : H d = some u) (s : Same (upd H d (.frz o u)) H1) : Same H (upd H1 d u) := fun b v z => by
  by_cases hb : b = d
  · rw [hb, upd_same]; rw [hb, hd] at z; exact z
  · rw [upd_ne hb]; exact s _ _ (by rw [upd_ne hb]; exact z)
theorem unlock_tups {H1 : Hp} {d : Addr} {o : Obj} {kvs : List (Key × V)} {u : HO} (hd : H1 d = some (.frz o (.dK kvs))) : TupS H1 (upd H1 d u) :=
  ⟨fun b xs z => by
    have : b ≠ d := fun e => by rw [e, hd] at z; cases z
    rw [upd_ne this]; exact z, fun b o' xs z => by
    have : b ≠ d := fun e => by rw [e, hd] at z; cases z
    rw [upd_ne this]; exact z⟩
def groupsD (R : List (Int × Int)) : List PyData := (RC.groups R).map tupD
def grpF (p : Int × List Int) : Option (List Int) := if 1 < p.2.length then some p.2 else none
theorem groups_eq (R : List (Int × Int)) : RC.groups R = ((RC.byNew R).filterMap grpF).mergeSort RC.leL := rfl
theorem byNew_len (R : List (Int × Int)) : (RC.byNew R).length ≤ R.length ∧ ∀ p ∈ RC.byNew R, p.2.length ≤ R.length := by
  have h := byNew_lens R R.length
  rw [List.take_length] at h
  exact h
theorem sc53 : FnScope ["table", "wants", "new"] ["table"] (defScope (topS 53)) := ⟨rfl, rfl, rfl, by decide +kernel, rfl, by decide +kernel, by decide +kernel⟩
theorem ok_groups_of (T : Tx K mg a) : Fnc P w K mg base CX0 5 "groups_of" (spLists K a.T groupsD) := by
  have cb : Fnc P w K mg base CX0 4 "by_new" (spByNew a.T) := ok_by_new T
  refine fnc_of T.d_groups_of sc53 (fun _ _ _ _ _ _ us hl => match us, hl with | [_], _ => rfl) (fun vs H Q E h => ?_) fun f cdv A outer s H vs Q E hr h => ?_
  · obtain ⟨t, R, rfl, _⟩ := h; rfl
  · obtain ⟨t, R, rfl, S, kq⟩ := h
    have ok := S.ok
    have hu := hu_of hr
    refine ⟨_, pss_cons (ps_set (i := 1) sc53.nd rfl (.inr rfl) (pe_f cb hr (by decide) (E := E0) pass0 (by rfl) (pa_cons (pv 0) pa_nil)))
      (pss_one (ps_ret (pe_callB (cr_sortD hr) (by rfl) T.sorted (by decide +kernel) (pa_cons
        (pe_lock (pe_lc (own := [("new", 2)]) (g := gName 2) rfl sc53.nd (pi_keys (pv 1)) (blkOk_by (N := ["table", "wants", "new"]) (sc := defScope (topS 53)) (by decide +kernel))
          (fun _ _ _ _ _ => pg_name (i := 2) sc53.nd rfl (Or.inl rfl))
          (fun _ _ _ _ _ => pts_one (pt_cmpR op_gt (pe_callB (call_lenK (K := K)) (by rfl) T.len PySem.boot_len (pa_cons (pe_dget hu (pv 1) (pv 2) (fun _ _ => rfl)) pa_nil)) pe_int (nomark _)))
          (fun _ _ _ _ _ => pe_callTy (call_tupK (K := K)) (by rfl) T.tuple PyProof.Rows.boot_tuple (pa_cons (pe_dget hu (pv 1) (pv 2) (fun _ _ => rfl)) pa_nil))))
        pa_nil)))), ?_⟩
    refine ⟨_, rfl, t, R, rfl, S, fun d Z H1 s1 g eZ => ?_⟩
    have hlen := byNew_len R
    rw [← eZ] at hlen
    have hZ : Z.length ≤ 30 := by
      have h2 : (lsZ Z).length = Z.length := List.length_map _
      have := ok.len
      omega
    refine ⟨d, _, g.dc, True.intro, fun od => ?_⟩
    refine ⟨_, rfl, d, od, rfl, .inl ⟨kvZ Z, upd_same, fun D hD => ?_⟩⟩
    have hDd : D ≠ d := fun z => by rw [z, upd_same] at hD; cases hD
    have gl : ∀ z ∈ Z, (upd H1 d (.frz od (.dK (kvZ Z)))) z.2.1 = some (.lst (iv z.2.2)) := fun z hz => by
      have h1 := g.ls z hz
      have h2 : z.2.1 ≠ d := fun e => by rw [e, g.dc] at h1; cases h1
      rw [upd_ne h2]; exact h1
    refine lc_it walk_keys (fun i H2 => Same (upd H1 d (.frz od (.dK (kvZ Z)))) H2 ∧ ∃ xs, H2 D = some (.lst xs) ∧ DpAll K H2 xs ((((lsZ Z).take i).filterMap grpF).map tupD))
      ⟨Same.new hD, [], upd_same, .nil⟩ (fun i H2 _ h => h.1 _ _ upd_same) ?_ ?_
    · rintro i x H2 H2' hi ⟨s2, xs, hx, hd⟩ ⟨rfl, ky, v, hk, rfl⟩
      have hi2 : i < Z.length := by rw [kvZ_len] at hi; exact hi
      obtain ⟨⟨n, ad, ks⟩, hz⟩ : ∃ z, Z[i]? = some z := ⟨_, List.getElem?_eq_getElem hi2⟩
      have hzm := List.mem_of_getElem? hz
      obtain ⟨q1, q2⟩ : ky = Sum.inl n ∧ v = V.ref ad := by
        unfold kvZ at hk
        rw [List.getElem?_map, hz] at hk
        have := Option.some.inj hk
        exact ⟨(congrArg Prod.fst this).symm, (congrArg Prod.snd this).symm⟩
      subst q1 q2
      have hv : valV (kvZ Z) (Sum.inl n : Key) = some (.ref ad) := val_at (by rw [← lsZ_keys, eZ]; exact byNew_nd R) hzm
      have dg : DGet H2' d (kV (Sum.inl n)) (some (.ref ad)) := .inl ⟨kvZ Z, Sum.inl n, .inr ⟨od, s2 _ _ upd_same⟩, rfl, hv.symm⟩
      have had : H2' ad = some (.lst (iv ks)) := s2 _ _ (gl _ hzm)
      have hLi : (lsZ Z)[i]? = some (n, ks) := by unfold lsZ; rw [List.getElem?_map, hz]; rfl
      have hxl : xs.length ≤ 30 := by
        have h1 := dpAll_len hd
        rw [List.length_map] at h1
        have h2 := fm_le (f := grpF) (l := (lsZ Z).take i)
        rw [List.length_take] at h2
        omega
      refine ⟨rfl, _, rfl, _, rfl, d, .ref ad, rfl, dg, ad, iv ks, rfl, .inl (SqL.of had), _, _, rfl, rfl, _, rfl, ?_⟩
      have hlen2 : (((iv ks).length : Nat) : Int) = (ks.length : Int) := by rw [iv_len]
      by_cases h1 : 1 < ks.length
      · have e1 : decide ((1 : Int) < ((iv ks).length : Nat)) = true := decide_eq_true (by omega)
        rw [e1]
        refine iteT ⟨_, rfl, _, rfl, d, .ref ad, rfl, dg, ad, iv ks, rfl, .inl ⟨SqL.of had, fun q nq => ?_⟩⟩
        have s3 : Same H2' (upd H2' q (.tup (iv ks))) := Same.new nq
        have hD3 := s3 _ _ hx
        refine ⟨xs, hD3, small1000 (by omega), (s2.trans s3).up hD, _, upd_same, ?_⟩
        have eg : grpF (n, ks) = some ks := if_pos h1
        rw [take_snoc hLi, fm_snoc, eg, List.map_append]
        exact DpAll.lu hD3 (NoL_app (NoL.map tup_noL _) (NoL.map tup_noL [ks])) (dpAll_snoc (DpAll.same s3 _ _ hd) (.tup (.inl (.inl upd_same)) (dp_ints _)))
      · have e1 : decide ((1 : Int) < ((iv ks).length : Nat)) = false := decide_eq_false (by omega)
        rw [e1]
        refine iteF ⟨s2, xs, hx, ?_⟩
        have eg : grpF (n, ks) = none := if_neg h1
        rw [take_snoc hLi, fm_snoc, eg, Option.toList_none, List.append_nil]
        exact hd
    · rintro H2 ⟨s2, xs, hx, hd⟩
      have hlz : (lsZ Z).length = Z.length := List.length_map _
      rw [kvZ_len, ← hlz, List.take_length, eZ] at hd
      refine ⟨s2 _ _ upd_same, ?_⟩
      have s0 : Same H1 (upd H2 d (.dK (kvZ Z))) := unlock_same g.dc s2
      have hd2 : DpAll K (upd H2 d (.dK (kvZ Z))) xs (((RC.byNew R).filterMap grpF).map tupD) := DpAll.ts (unlock_tups (s2 _ _ upd_same)) (NoL.map tup_noL _) hd
      have hx2 : (upd H2 d (.dK (kvZ Z))) D = some (.lst xs) := by rw [upd_ne hDd]; exact hx
      refine ⟨List Int, tupD, D, xs, (RC.byNew R).filterMap grpF, rfl, .inl (.inl (.inl hx2)), hd2, PySem.W.AllAlike.of tup_alike, .inl fun y hy => ?_, ?_, fun b _ => tup_depth b, fun ys p hys hp2 => ?_⟩
      · obtain ⟨l, hl, rfl⟩ := List.mem_map.mp hy
        obtain ⟨q, hq, e⟩ := List.mem_filterMap.mp hl
        unfold grpF at e
        by_cases h1 : 1 < q.2.length
        · rw [if_pos h1] at e
          obtain rfl : q.2 = l := Option.some.inj e
          cases hh : q.2 with
          | nil => rw [hh] at h1; exact absurd h1 (by decide)
          | cons x r => exact ⟨.int x, r.map .int, rfl⟩
        · rw [if_neg h1] at e; cases e
      · have h1 := fm_le (f := grpF) (l := RC.byNew R)
        have := hlen.1
        rw [eZ] at this
        have := ok.len
        omega
      · rw [le_tup, ← groups_eq] at hys
        have s3 : Same (upd H2 d (.dK (kvZ Z))) (upd (upd H2 d (.dK (kvZ Z))) p (.lst ys)) := Same.new hp2
        exact kq p ys _ ((s1.trans s0).trans s3) ((s1.trans s0).free hp2) upd_same (DpAll.same s3 _ _ hys)
theorem sc54 : FnScope ["table"] ["table"] (defScope (topS 54)) := ⟨rfl, rfl, rfl, by decide +kernel, rfl, by decide +kernel, by decide +kernel⟩
theorem ok_groups (T : Tx K mg a) : Fnc P w K mg base CX0 6 "groups" (spTups K a.T groupsD) := by
  have cn : Fnc P w K mg base CX0 1 "need_table" (spNeed a.T) := ok_need_table T
  have cr : Fnc P w K mg base CX0 5 "groups_of" (spLists K a.T groupsD) := ok_groups_of T
  refine fnc_of T.d_groups sc54 (fun _ _ _ _ _ _ us hl => match us, hl with | [_], _ => rfl) (fun vs H Q E h => ?_) fun f cdv A outer s H vs Q E hr h => ?_
  · obtain ⟨t, R, rfl, _⟩ := h; rfl
  · obtain ⟨t, R, rfl, S, kq⟩ := h
    refine ⟨_, pss_cons (ps_expr (pe_f cn hr (by decide) (E := E0) pass0 (by rfl) (pa_cons (pv 0) pa_nil)))
      (pss_one (ps_ret (pe_callTy call_tuple_of (by rfl) T.tuple PyProof.Rows.boot_tuple (pa_cons (pe_f cr hr (by decide) (E := E0) pass0 (by rfl) (pa_cons (pv 0) pa_nil)) pa_nil)))), ?_⟩
    refine ⟨_, rfl, t, R, rfl, S, _, rfl, t, R, rfl, S, fun p xs H1 s1 np hp hd => ⟨p, xs, rfl, .inl ⟨SqL.of hp, fun q nq => ?_⟩⟩⟩
    have s2 : Same H1 (upd H1 q (.tup xs)) := Same.new nq
    exact kq q _ (s1.trans s2) (.tup (.inl (.inl upd_same)) (DpAll.same s2 _ _ hd))
end
end RcX
end
section
set_option Elab.async false
set_option linter.all false
set_option maxRecDepth 100000
set_option maxHeartbeats 4000000
namespace RcX
open PySem PySem.Spec PyProof.Rows L2
section
variable {P : Program} {w : World} {K : PySem.W.Frag} {mg : Str → Option Value} {base : Heap} {a : Ads}
/-! ### trees -/
def treeD (p : Int × List Int) : PyData := .tuple [.int p.1, tupD p.2]
theorem tree_noL (p : Int × List Int) : NoL (treeD p) = true := by
  show (true && (NoL (tupD p.2) && true)) = true
  rw [tup_noL]; rfl
theorem tree_alike : ∀ b b' : Int × List Int, PySem.W.alike (treeD b) (treeD b') = true := fun b b' => by
  have := tup_alike b.2 b'.2
  simp [treeD, PySem.W.alike, PySem.W.alikeAll] at this ⊢
  exact this
theorem tree_depth (p : Int × List Int) : (treeD p).depth ≤ 8 := by
  show (PyData.tuple [.int p.1, .tuple (p.2.map .int)]).depth ≤ 8
  simp only [PyData.depth, PyData.depthAll, PySem.W.depth_ints]
  decide
theorem lt_tree (p q : Int × List Int) (h : p.1 ≠ q.1) : PySem.W.dataLt (treeD p) (treeD q) = decide (p.1 < q.1) := by
  unfold treeD
  rw [PySem.W.dataLt_pair (by simp [PySem.W.alike]) (tup_alike _ _), PySem.W.dataLt_int]
  simp [PyData.eqv, h]
theorem nd_inj {γ : Type} : ∀ {Z : List (Int × γ)}, (Z.map (·.1)).Nodup → ∀ x ∈ Z, ∀ y ∈ Z, x.1 = y.1 → x = y
  | [], _, x, hx, _, _, _ => by cases hx
  | z :: Z, hn, x, hx, y, hy, e => by
    obtain ⟨h1, h2⟩ := List.nodup_cons.mp (show (z.1 :: Z.map (·.1)).Nodup from hn)
    rcases List.mem_cons.mp hx with rfl | hx'
    · rcases List.mem_cons.mp hy with rfl | hy'
      · rfl
      · exact absurd (List.mem_map.mpr ⟨y, hy', e.symm⟩) h1
    · rcases List.mem_cons.mp hy with rfl | hy'
      · exact absurd (show y.1 ∈ Z.map (·.1) from List.mem_map.mpr ⟨x, hx', e⟩) h1
      · exact nd_inj h2 x hx' y hy' e
theorem sort_keyed {Z : List (Int × List Int)} (hn : (Z.map (·.1)).Nodup) : Z.mergeSort (PySem.W.dataLe false treeD) = Z.mergeSort RC.leF := by
  refine PySem.W.sort_congr fun p hp q hq => ?_
  show (!PySem.W.dataLt (treeD q) (treeD p)) = !decide (q.1 < p.1)
  congr 1
  by_cases h : q.1 = p.1
  · obtain rfl := nd_inj hn q hq p hp h
    rw [decide_eq_false (Int.lt_irrefl _)]
    have hn2 : ∀ d : PyData, PySem.W.dataLt d d = false := fun d => by
      have := PySem.W.dataLt_ints
      exact PyProof.Rows.lex_irrefl _
    exact hn2 _
  · exact lt_tree q p h
/-! one more key -/
theorem treeFold_snoc {R : List (Int × Int)} {l : List Int} {i : Nat} {k : Int} (h : l[i]? = some k) : (l.take (i + 1)).foldl (RC.treeStep R) [] = RC.treeStep R ((l.take i).foldl (RC.treeStep R) []) k := by
  rw [take_snoc h, List.foldl_append]; rfl
theorem treeFold_lens (R : List (Int × Int)) : ∀ (l : List Int) (d : List (Int × List Int)) (N : Nat), d.length ≤ N → (∀ p ∈ d, p.2.length ≤ N) → (d.map (·.1)).Nodup →
    (l.foldl (RC.treeStep R) d).length ≤ N + l.length ∧ (∀ p ∈ l.foldl (RC.treeStep R) d, p.2.length ≤ N + l.length) ∧ ((l.foldl (RC.treeStep R) d).map (·.1)).Nodup
  | [], d, N, h1, h2, h3 => ⟨h1, h2, h3⟩
  | k :: l, d, N, h1, h2, h3 => by
    rw [List.foldl_cons, List.length_cons, show N + (l.length + 1) = (N + 1) + l.length by omega]
    unfold RC.treeStep
    cases hT : RC.treeOf R k with
    | none => exact treeFold_lens R l d (N + 1) (by omega) (fun p hp => Nat.le_succ_of_le (h2 p hp)) h3
    | some n => exact treeFold_lens R l _ (N + 1) (Nat.le_trans (put_len n k _) (Nat.succ_le_succ h1)) (put_sub_len h2) (put_nd n k d h3).1
theorem treesD_nd (R : List (Int × Int)) : (((RC.keys R).foldl (RC.treeStep R) []).map (·.1)).Nodup := (treeFold_lens R _ [] 0 (Nat.le_refl _) (fun p hp => by cases hp) List.nodup_nil).2.2
def treesD (R : List (Int × Int)) : List PyData := (RC.trees R).map treeD
theorem treeOf_eq {R : List (Int × Int)} {k l : Int} (hl : (RC.pathOf R k).getLast? = some l) : RC.treeOf R k = if RC.endOf R (RC.pathOf R k) = .free then RC.look R l else none := by
  unfold RC.treeOf
  rw [hl]; rfl
theorem endS_free (e : RC.End) : decide (V.str (endS e) = V.str "free") = decide (e = .free) := by
  cases e <;> rfl
theorem sc55 : FnScope ["table", "found", "key", "rows", "new"] ["table"] (defScope (topS 55)) := ⟨rfl, rfl, rfl, by decide +kernel, rfl, by decide +kernel, by decide +kernel⟩
theorem ok_trees_of (T : Tx K mg a) : Fnc P w K mg base CX0 8 "trees_of" (spLists K a.T treesD) := by
  have ck : Fnc P w K mg base CX0 4 "keys_of" (spKeys a.T) := ok_keys_of T
  have cp : Fnc P w K mg base CX0 7 "path_of" (spPath a.T) := ok_path_of T
  have ce : Fnc P w K mg base CX0 7 "end_of" (spEnd a.T) := ok_end_of T
  have cg : Mth P w K mg base CX0 4 a.T "__getitem__" (spGetitem a.T) := ok_getitem T
  refine fnc_of T.d_trees_of sc55 (fun _ _ _ _ _ _ us hl => match us, hl with | [_], _ => rfl) (fun vs H Q E h => ?_) fun f cdv A outer s H vs Q E hr h => ?_
  · obtain ⟨t, R, rfl, _⟩ := h; rfl
  · obtain ⟨t, R, rfl, S, kq⟩ := h
    have ok := S.ok
    have hu := hu_of hr
    refine ⟨_, pss_cons (ps_set (i := 1) sc55.nd rfl (.inr rfl) pe_dnewK)
      (pss_cons (ps_for PassesOwn.never rfl (pi_list (pe_f ck hr (by decide) (E := E0) pass0 (by rfl) (pa_cons (pv 0) pa_nil))) (pg_name (i := 2) sc55.nd rfl (.inl rfl))
        (pss_cons (ps_set (i := 3) sc55.nd rfl (.inl rfl) (pe_f cp hr (by decide) (E := E0) pass0 (by rfl) (pa_cons (pv 0) (pa_cons (pv 2) pa_nil))))
        (pss_one (ps_if (pt_cmpR op_eq (pe_f ce hr (by decide) (E := E0) pass0 (by rfl) (pa_cons (pv 0) (pa_cons (pv 3) pa_nil))) pe_str (nomark _))
          (pss_one (ps_expr (pe_bm PySem.F.plainAttrs_list PySem.F.slot_list_append PySem.F.type_list_append mt_append
            (pe_dsetd (pv 1) (pe_ixO cg hr (by decide) (E := E0) pass0 (pv 0) (pe_ix ix_list (pv 3) (pe_un un_neg pe_int) (fun _ _ => rfl))) (pe_lst pa_nil) ⟨rfl, rfl, rfl, rfl⟩) (pa_cons (pv 2) pa_nil)))) pss_nil))))
      (pss_one (ps_ret (pe_callB (cr_sortD hr) (by rfl) T.sorted (by decide +kernel) (pa_cons
        (pe_lock (pe_lc (own := [("new", 4)]) (g := gName 4) (tt := tYes) rfl sc55.nd (pi_keys (pv 1)) (blkOk_by (N := ["table", "found", "key", "rows", "new"]) (sc := defScope (topS 55)) (by decide +kernel))
          (fun _ _ _ _ _ => pg_name (i := 4) sc55.nd rfl (Or.inl rfl))
          (fun _ _ _ _ _ => pts_nil)
          (fun _ _ _ _ _ => pe_tup (pa_cons (pv 4) (pa_cons (pe_callTy (call_tupK (K := K)) (by rfl) T.tuple PyProof.Rows.boot_tuple (pa_cons (pe_dget hu (pv 1) (pv 4) (fun _ _ => rfl)) pa_nil)) pa_nil)))))
        pa_nil))))), ?_⟩
    intro d nd
    have s1 : Same H (upd H d (.dK [])) := Same.new nd
    refine ⟨_, rfl, t, R, rfl, S.same s1, fun q H1 s2 nq hq => ⟨q, rfl, ⟨_, SqL.of hq⟩, ?_⟩⟩
    have hk30 : (RC.keys R).length ≤ 30 := by rw [keys_len]; exact ok.len
    refine for_list (xs := iv (RC.keys R)) (fun i σ H2 => ∃ v2 v3 Z, σ = [some (.ref t), some (.ref d), v2, v3, none] ∧ Same H H2 ∧ H2 q = some (.lst (iv (RC.keys R))) ∧ GD H2 d Z ∧ lsZ Z = ((RC.keys R).take i).foldl (RC.treeStep R) [] ∧ (∀ z ∈ Z, H z.2.1 = none ∧ z.2.1 ≠ q))
      ⟨none, none, [], rfl, s1.trans s2, hq, ⟨s2 _ _ upd_same, List.nodup_nil, (fun z hz => by cases hz)⟩, rfl, (fun z hz => by cases hz)⟩ (fun i σ H2 _ ⟨_, _, _, _, _, h, _⟩ => SqL.of h) ?_ ?_
    · rintro i x σ H2 hi ⟨v2, v3, Z, rfl, s3, hq2, g, eZ, fr⟩
      obtain ⟨k, hki, rfl⟩ := iv_get hi
      have hk : k ∈ RC.keys R := List.mem_of_getElem? hki
      have hi30 : i < (RC.keys R).length := (List.getElem?_eq_some_iff.mp hki).1
      have lens := treeFold_lens R ((RC.keys R).take i) [] 0 (Nat.le_refl _) (fun p hp => by cases hp) List.nodup_nil
      rw [List.length_take] at lens
      rw [← eZ] at lens
      have hZl : Z.length ≤ 30 := by
        have h2 : (lsZ Z).length = Z.length := List.length_map _
        omega
      refine ⟨_, rfl, _, rfl, t, R, k, rfl, S.same s3, hk, fun r H3 s4 nr hr3 => ?_⟩
      have ip := RC.isPath hk
      obtain ⟨tl, etl⟩ := ip.cons
      have hne : RC.pathOf R k ≠ [] := by rw [etl]; simp
      obtain ⟨l, hl⟩ : ∃ l, (RC.pathOf R k).getLast? = some l := ⟨_, List.getLast?_eq_some_getLast hne⟩
      have hlk := ip.sub l (List.mem_of_getLast? hl)
      obtain ⟨n, hn⟩ := RC.look_some hlk
      have s34 := s3.trans s4
      have g3 := g.same s4
      refine ⟨_, rfl, _, rfl, t, r, R, _, rfl, S.same s34, hr3, hne, ip.sub, ?_⟩
      refine ⟨rfl, _, rfl, ?_⟩
      rw [endS_free]
      have hT := treeOf_eq hl
      by_cases hf : RC.endOf R (RC.pathOf R k) = .free
      · rw [if_pos hf, hn] at hT
        rw [decide_eq_true hf]
        have eS : ((RC.keys R).take (i + 1)).foldl (RC.treeStep R) [] = RC.put n k (lsZ Z) := by
          rw [treeFold_snoc hki, ← eZ]
          unfold RC.treeStep
          rw [hT]
        obtain ⟨⟨dx, dd, T', e1, _, _⟩, _⟩ := S.same s34
        refine iteT ⟨_, rfl, d, rfl, .inl ⟨_, .inl g3.dc⟩, _, rfl, _, rfl, 1, rfl, r, _, -1, .int l, rfl, rfl, SqL.of hr3, atI_end hl, t, dx, _, rfl, e1, t, R, l, n, rfl, S.same s34, hn, Nat.zero_le _, fun e ne => ?_⟩
        have s5 : Same H3 (upd H3 e (.lst [])) := Same.new ne
        have g5 := g3.same s5
        have hq5 := s5 _ _ (s4 _ _ hq2)
        have s345 := s34.trans s5
        refine ⟨kvZ Z, Sum.inl n, g5.dc, rfl, by rw [kvZ_len]; exact small1000 (by omega), fun v hv => ?_, fun hv => ?_⟩
        · rcases find_z n Z with ⟨h1, _⟩ | ⟨Z1, ad, ks, Z2, eq, hnn, h3⟩
          · rw [h1] at hv; cases hv
          · rw [h3] at hv
            obtain rfl : V.ref ad = v := Option.some.inj hv
            subst eq
            have had : (upd H3 e (.lst [])) ad = some (.lst (iv ks)) := g5.ls (n, ad, ks) (by simp)
            have hks : ks.length ≤ 30 := by
              have h1 := lens.2.1 (n, ks) (by unfold lsZ; exact List.mem_map.mpr ⟨(n, ad, ks), by simp, rfl⟩)
              have h4 : ks.length ≤ 0 + min i (RC.keys R).length := h1
              omega
            have fa := fr (n, ad, ks) (by simp)
            refine ⟨.inl ⟨rfl, _, SqL.of had⟩, _, rfl, ad, _, _, rfl, rfl, had, by rw [iv_len]; exact small1000 (by omega), ?_⟩
            refine ⟨_, _, _, rfl, s345.up fa.1, by rw [upd_ne fa.2.symm]; exact hq5, gd_in g5, ?_, fun z hz => ?_⟩
            · rw [eS, put_in n k ad ks Z2 Z1 hnn]
            · rcases List.mem_append.mp hz with hz | hz
              · exact fr z (List.mem_append_left _ hz)
              · rcases List.mem_cons.mp hz with rfl | hz
                · exact fa
                · exact fr z (List.mem_append_right _ (List.mem_cons_of_mem _ hz))
        · rcases find_z n Z with ⟨_, hnn⟩ | ⟨Z1, ad, ks, Z2, eq, hnn, h3⟩
          · have hde : d ≠ e := ne_of_none g3.dc ne
            have hqe : q ≠ e := ne_of_none (s4 _ _ hq2) ne
            have hqd : q ≠ d := fun z => by
              have y := g3.dc
              rw [← z, s4 _ _ hq2] at y; cases y
            have he5 : (upd (upd H3 e (.lst [])) d (.dK (putK (kvZ Z) (Sum.inl n) (.ref e)))) e = some (.lst []) := by rw [upd_ne hde.symm, upd_same]
            refine ⟨.inl ⟨rfl, _, SqL.of he5⟩, _, rfl, e, _, _, rfl, rfl, he5, by show 0 < sizeLine; rw [sizeLine_eq]; decide, ?_⟩
            refine ⟨_, _, _, rfl, (s345.up nd).up (s34.free ne), by rw [upd_ne hqe, upd_ne hqd]; exact hq5, gd_new g3 ne hv, ?_, fun z hz => ?_⟩
            · rw [eS, put_new n k e Z hnn]
            · rcases List.mem_append.mp hz with hz | hz
              · exact fr z hz
              · rw [List.mem_singleton.mp hz]
                exact ⟨s34.free ne, hqe.symm⟩
          · rw [h3] at hv; cases hv
      · rw [if_neg hf] at hT
        rw [decide_eq_false hf]
        refine iteF ⟨_, _, Z, rfl, s34, s4 _ _ hq2, g3, ?_, fr⟩
        rw [treeFold_snoc hki, ← eZ]
        unfold RC.treeStep
        rw [hT]
    · rintro σ H1 ⟨v2, v3, Z, rfl, s3, hq2, g, eZ, fr⟩
      rw [iv_len, List.take_length] at eZ
      have hndk := treesD_nd R
      have lens := treeFold_lens R (RC.keys R) [] 0 (Nat.le_refl _) (fun p hp => by cases hp) List.nodup_nil
      rw [← eZ] at hndk lens
      have hZ : Z.length ≤ 30 := by
        have h2 : (lsZ Z).length = Z.length := List.length_map _
        omega
      refine ⟨d, _, g.dc, True.intro, fun od => ?_⟩
      refine ⟨_, rfl, d, od, rfl, .inl ⟨kvZ Z, upd_same, fun D hD => ?_⟩⟩
      have hDd : D ≠ d := fun z => by rw [z, upd_same] at hD; cases hD
      have gl : ∀ z ∈ Z, (upd H1 d (.frz od (.dK (kvZ Z)))) z.2.1 = some (.lst (iv z.2.2)) := fun z hz => by
        have h1 := g.ls z hz
        have h2 : z.2.1 ≠ d := fun e => by rw [e, g.dc] at h1; cases h1
        rw [upd_ne h2]; exact h1
      refine lc_it walk_keys (fun i H2 => Same (upd H1 d (.frz od (.dK (kvZ Z)))) H2 ∧ ∃ xs, H2 D = some (.lst xs) ∧ DpAll K H2 xs (((lsZ Z).take i).map treeD))
        ⟨Same.new hD, [], upd_same, .nil⟩ (fun i H2 _ h => h.1 _ _ upd_same) ?_ ?_
      · rintro i x H2 H2' hi ⟨s2', xs, hx, hd⟩ ⟨rfl, ky, v, hk, rfl⟩
        have hi2 : i < Z.length := by rw [kvZ_len] at hi; exact hi
        obtain ⟨⟨n, ad, ks⟩, hz⟩ : ∃ z, Z[i]? = some z := ⟨_, List.getElem?_eq_getElem hi2⟩
        have hzm := List.mem_of_getElem? hz
        obtain ⟨q1, q2⟩ : ky = Sum.inl n ∧ v = V.ref ad := by
          unfold kvZ at hk
          rw [List.getElem?_map, hz] at hk
          have := Option.some.inj hk
          exact ⟨(congrArg Prod.fst this).symm, (congrArg Prod.snd this).symm⟩
        subst q1 q2
        have hv : valV (kvZ Z) (Sum.inl n : Key) = some (.ref ad) := val_at (by rw [← lsZ_keys]; exact hndk) hzm
        have dg : DGet H2' d (kV (Sum.inl n)) (some (.ref ad)) := .inl ⟨kvZ Z, Sum.inl n, .inr ⟨od, s2' _ _ upd_same⟩, rfl, hv.symm⟩
        have had : H2' ad = some (.lst (iv ks)) := s2' _ _ (gl _ hzm)
        have hLi : (lsZ Z)[i]? = some (n, ks) := by unfold lsZ; rw [List.getElem?_map, hz]; rfl
        have hxl : xs.length ≤ 30 := by
          have h1 := dpAll_len hd
          rw [List.length_map, List.length_take] at h1
          omega
        refine ⟨rfl, yes_if ⟨_, rfl, _, rfl, _, rfl, d, .ref ad, rfl, dg, ad, iv ks, rfl, .inl ⟨SqL.of had, fun u nu => ?_⟩⟩⟩
        have s3' : Same H2' (upd H2' u (.tup (iv ks))) := Same.new nu
        refine ⟨two_line, fun u2 nu2 => ?_⟩
        have s4' : Same (upd H2' u (.tup (iv ks))) (upd (upd H2' u (.tup (iv ks))) u2 (.tup [.int n, .ref u])) := Same.new nu2
        have hD3 := s4' _ _ (s3' _ _ hx)
        refine ⟨xs, hD3, small1000 (by omega), ((s2'.trans s3').trans s4').up hD, _, upd_same, ?_⟩
        rw [take_snoc hLi, List.map_append]
        exact DpAll.lu hD3 (NoL_app (NoL.map tree_noL _) (NoL.map tree_noL [(n, ks)])) (dpAll_snoc (DpAll.same (s3'.trans s4') _ _ hd)
          (.tup (.inl (.inl upd_same)) (.cons (.int n) (.cons (.tup (.inl (.inl (s4' _ _ upd_same))) (dp_ints _)) .nil))))
      · rintro H2 ⟨s2', xs, hx, hd⟩
        have hlz : (lsZ Z).length = Z.length := List.length_map _
        rw [kvZ_len, ← hlz, List.take_length] at hd
        refine ⟨s2' _ _ upd_same, ?_⟩
        have s0 : Same H1 (upd H2 d (.dK (kvZ Z))) := unlock_same g.dc s2'
        have hd2 : DpAll K (upd H2 d (.dK (kvZ Z))) xs ((lsZ Z).map treeD) := DpAll.ts (unlock_tups (s2' _ _ upd_same)) (NoL.map tree_noL _) hd
        have hx2 : (upd H2 d (.dK (kvZ Z))) D = some (.lst xs) := by rw [upd_ne hDd]; exact hx
        refine ⟨Int × List Int, treeD, D, xs, lsZ Z, rfl, .inl (.inl (.inl hx2)), hd2, PySem.W.AllAlike.of tree_alike, PySem.W.Sortable.tuples fun b => ⟨_, _, rfl⟩, by omega, fun b _ => tree_depth b, fun ys p hys hp2 => ?_⟩
        rw [sort_keyed hndk, eZ] at hys
        have s3' : Same (upd H2 d (.dK (kvZ Z))) (upd (upd H2 d (.dK (kvZ Z))) p (.lst ys)) := Same.new hp2
        exact kq p ys _ ((s3.trans s0).trans s3') ((s3.trans s0).free hp2) upd_same (DpAll.same s3' _ _ hys)
theorem sc56 : FnScope ["table"] ["table"] (defScope (topS 56)) := ⟨rfl, rfl, rfl, by decide +kernel, rfl, by decide +kernel, by decide +kernel⟩
theorem ok_trees (T : Tx K mg a) : Fnc P w K mg base CX0 9 "trees" (spTups K a.T treesD) := by
  have cn : Fnc P w K mg base CX0 1 "need_table" (spNeed a.T) := ok_need_table T
  have cr : Fnc P w K mg base CX0 8 "trees_of" (spLists K a.T treesD) := ok_trees_of T
  refine fnc_of T.d_trees sc56 (fun _ _ _ _ _ _ us hl => match us, hl with | [_], _ => rfl) (fun vs H Q E h => ?_) fun f cdv A outer s H vs Q E hr h => ?_
  · obtain ⟨t, R, rfl, _⟩ := h; rfl
  · obtain ⟨t, R, rfl, S, kq⟩ := h
    refine ⟨_, pss_cons (ps_expr (pe_f cn hr (by decide) (E := E0) pass0 (by rfl) (pa_cons (pv 0) pa_nil)))
      (pss_one (ps_ret (pe_callTy call_tuple_of (by rfl) T.tuple PyProof.Rows.boot_tuple (pa_cons (pe_f cr hr (by decide) (E := E0) pass0 (by rfl) (pa_cons (pv 0) pa_nil)) pa_nil)))), ?_⟩
    refine ⟨_, rfl, t, R, rfl, S, _, rfl, t, R, rfl, S, fun p xs H1 s1 np hp hd => ⟨p, xs, rfl, .inl ⟨SqL.of hp, fun q nq => ?_⟩⟩⟩
    have s2 : Same H1 (upd H1 q (.tup xs)) := Same.new nq
    exact kq q _ (s1.trans s2) (.tup (.inl (.inl upd_same)) (DpAll.same s2 _ _ hd))
/-! ### waiting_for -/
def waitF (k : Int) (p : Int × Int) : Option Int := if p.2 = k ∧ p.1 ≠ k then some p.1 else none
def spWaiting (C : Addr) : Sp := fun vs H Q _ => ∃ (t : Addr) (R : List (Int × Int)) (k : Int), vs = [.ref t, .int k] ∧ TabAt C H t R ∧ ∀ (p : Addr) (H' : Hp), Same H H' → H p = none → H' p = some (.lst (iv (RC.waitingFor R k))) → Q (.ref p) H'
theorem sc57 : FnScope ["table", "key", "one", "new"] ["table", "key"] (defScope (topS 57)) := ⟨rfl, rfl, rfl, by decide +kernel, rfl, by decide +kernel, by decide +kernel⟩
theorem ok_waiting_for (T : Tx K mg a) : Fnc P w K mg base CX0 4 "waiting_for" (spWaiting a.T) := by
  have cr : Prp P w K mg base 2 a.T "rows" (spRows K a.T) := prp_rows T
  refine fnc_of T.d_waiting_for sc57 (fun _ _ _ _ _ _ us hl => match us, hl with | [_, _], _ => rfl) (fun vs H Q E h => ?_) fun f cdv A outer s H vs Q E hr h => ?_
  · obtain ⟨t, R, k, rfl, _⟩ := h; rfl
  · obtain ⟨t, R, k, rfl, S, kq⟩ := h
    obtain ⟨⟨dx, d, T', e1, e2, hp⟩, ok⟩ := id S
    refine ⟨_, pss_one (ps_ret (pe_lc (own := [("one", 2), ("new", 3)]) (g := gTup K 2 (gCons (gName 2) (gCons (gName 3) gNil))) (te := tVar 2) rfl sc57.nd (pi_tup (pe_pr cr T.insT.cl hr (by decide) (pv 0)))
      (blkOk_by (N := ["table", "key", "one", "new"]) (sc := defScope (topS 57)) (by decide +kernel))
      (fun _ _ _ _ _ => pg_tup rfl (pgs_cons (pg_name (i := 2) sc57.nd rfl (Or.inl rfl)) (pgs_cons (pg_name (i := 3) sc57.nd rfl (Or.inl rfl)) pgs_nil)))
      (fun _ _ _ _ _ => pts_one (PW.pt (pw_and (pt_cmpR op_eq (pv 3) (pv 1) (nomark _)) (pw_and1 (pt_cmpR op_ne (pv 2) (pv 1) (nomark _)))))) (fun _ _ _ _ _ => pv 2))), ?_⟩
    refine ⟨_, rfl, t, dx, _, rfl, e1, t, R, rfl, S, fun p xs H1 s1 np hx hd => ⟨p, rfl, ⟨xs, .inl (.inl hx)⟩, fun D hD => ?_⟩⟩
    have hl : xs.length = R.length := by rw [dpAll_len hd, List.length_map]
    refine lc_it (walk_tup (xs := xs)) (fun i H2 => Same H1 H2 ∧ H2 D = some (.lst (iv ((R.take i).filterMap (waitF k))))) ⟨Same.new hD, upd_same⟩ (fun i H2 _ h => seqT h.1 (.inl (.inl hx))) ?_ ?_
    · rintro i x H2 H2' hi ⟨s2, hD2⟩ ⟨rfl, hxi⟩
      obtain ⟨q, k0, n, hR, rfl, hq⟩ := pair_at (DpAll.same s2 _ _ hd) hxi
      refine ⟨q, _, rfl, hq, rfl, _, _, rfl, _, _, rfl, rfl, rfl, ?_⟩
      have hlen : (iv ((R.take i).filterMap (waitF k))).length < 1000 := by
        rw [iv_len]
        have h2 := fm_le (f := waitF k) (l := R.take i)
        rw [List.length_take] at h2
        have := ok.len
        omega
      have skip : waitF k (k0, n) = none → Same H1 H2' ∧ H2' D = some (.lst (iv ((R.take (i + 1)).filterMap (waitF k)))) := fun e => by
        rw [take_snoc hR, fm_snoc, e, Option.toList_none, List.append_nil]
        exact ⟨s2, hD2⟩
      refine ⟨_, rfl, _, rfl, rfl, _, rfl, ?_⟩
      by_cases h1 : n = k
      · rw [decide_eq_true (show V.int n = V.int k by rw [h1])]
        refine iteT ⟨_, rfl, _, rfl, rfl, _, rfl, ?_⟩
        by_cases h2 : k0 = k
        · rw [decide_eq_true (show V.int k0 = V.int k by rw [h2])]
          exact iteF (skip (if_neg fun z => z.2 h2))
        · rw [decide_eq_false (show ¬ V.int k0 = V.int k from fun z => h2 (by injection z))]
          refine iteT ⟨_, rfl, _, hD2, small1000 (by omega), s2.up hD, ?_⟩
          rw [upd_same, take_snoc hR, fm_snoc, show waitF k (k0, n) = some k0 from if_pos ⟨h1, h2⟩, Option.toList_some, ← iv_snoc]
      · rw [decide_eq_false (show ¬ V.int n = V.int k from fun z => h1 (by injection z))]
        exact iteF (iteF (skip (if_neg fun z => h1 z.1)))
    · rintro H2 ⟨s2, hD2⟩
      rw [hl, List.take_length] at hD2
      exact kq D H2 (s1.trans s2) (s1.free hD) hD2
end
end RcX
end
section
set_option Elab.async false
set_option linter.all false
set_option maxRecDepth 100000
set_option maxHeartbeats 4000000
namespace RcX
open PySem PySem.Spec PyProof.Rows L2
section
variable {P : Program} {w : World} {K : PySem.W.Frag} {mg : Str → Option Value} {base : Heap} {a : Ads}
/-! ### ready, first_order -/
def spReady (C : Addr) : Sp := fun vs H Q _ => ∃ (t p : Addr) (R : List (Int × Int)) (l : List Int), vs = [.ref t, .ref p] ∧ TabAt C H t R ∧ H p = some (.lst (iv l)) ∧
  ∀ (q : Addr) (H' : Hp), Same H H' → H q = none → H' q = some (.lst (iv (RC.ready R l))) → Q (.ref q) H'
theorem sc61 : FnScope ["table", "done", "found", "key", "row"] ["table", "done"] (defScope (topS 61)) := ⟨rfl, rfl, rfl, by decide +kernel, rfl, by decide +kernel, by decide +kernel⟩
theorem ok_ready (T : Tx K mg a) : Fnc P w K mg base CX0 7 "ready" (spReady a.T) := by
  have ck : Fnc P w K mg base CX0 4 "keys_of" (spKeys a.T) := ok_keys_of T
  have cw : Fnc P w K mg base CX0 6 "waited" (spWaited a.T) := ok_waited T
  refine fnc_of T.d_ready sc61 (fun _ _ _ _ _ _ us hl => match us, hl with | [_, _], _ => rfl) (fun vs H Q E h => ?_) fun f cdv A outer s H vs Q E hr h => ?_
  · obtain ⟨t, p, R, l, rfl, _⟩ := h; rfl
  · obtain ⟨t, p, R, l, rfl, S, hp, kq⟩ := h
    have ok := S.ok
    refine ⟨_, pss_cons (ps_set (i := 2) sc61.nd rfl (.inl rfl) (pe_lst pa_nil))
      (pss_cons (ps_for PassesOwn.never rfl (pi_list (pe_f ck hr (by decide) (E := E0) pass0 (by rfl) (pa_cons (pv 0) pa_nil))) (pg_name (i := 3) sc61.nd rfl (.inl rfl))
        (pss_cons (ps_set (i := 4) sc61.nd rfl (.inl rfl) (pe_f cw hr (by decide) (E := E0) pass0 (by rfl) (pa_cons (pv 0) (pa_cons (pv 3) pa_nil))))
        (pss_one (ps_if (PW.pt (pw_and (pt_cmpR op_notIn_seq (pv 3) (pv 1) (by with_unfolding_all rfl)) (pw_and1 (PW.pt (pw_or (pt_cmpR op_isN (pv 4) pe_non (nomark _)) (pw_or1 (pt_cmpR op_in_seq (pv 4) (pv 1) (by with_unfolding_all rfl))))))))
          (pss_one (ps_expr (pe_bm PySem.F.plainAttrs_list PySem.F.slot_list_append PySem.F.type_list_append mt_append (pv 2) (pa_cons (pv 3) pa_nil)))) pss_nil))))
      (pss_one (ps_ret (pv 2)))), ?_⟩
    refine ⟨by show 0 ≤ sizeLine; exact Nat.zero_le _, fun d nd => ?_⟩
    have s1 : Same H (upd H d (.lst [])) := Same.new nd
    refine ⟨_, rfl, t, R, rfl, S.same s1, fun q H1 s2 nq hq => ⟨q, rfl, ⟨_, SqL.of hq⟩, ?_⟩⟩
    have hdq : d ≠ q := ne_of_none upd_same nq
    have hk30 : (RC.keys R).length ≤ 30 := by rw [keys_len]; exact ok.len
    refine for_list (xs := iv (RC.keys R)) (fun i σ H2 => ∃ v2 v3, σ = [some (.ref t), some (.ref p), some (.ref d), v2, v3] ∧ Same H H2 ∧ H2 q = some (.lst (iv (RC.keys R))) ∧ H2 d = some (.lst (iv (((RC.keys R).take i).filter (RC.isReady R l)))))
      ⟨none, none, rfl, s1.trans s2, hq, s2 _ _ upd_same⟩ (fun i σ H2 _ ⟨_, _, _, _, h, _⟩ => SqL.of h) ?_ ?_
    · rintro i x σ H2 hi ⟨v2, v3, rfl, s3, hq2, hd2⟩
      obtain ⟨k, hki, rfl⟩ := iv_get hi
      have hk : k ∈ RC.keys R := List.mem_of_getElem? hki
      have hi30 : i < (RC.keys R).length := (List.getElem?_eq_some_iff.mp hki).1
      have hfl : (((RC.keys R).take i).filter (RC.isReady R l)).length ≤ 30 := by
        have := List.length_filter_le (RC.isReady R l) ((RC.keys R).take i)
        rw [List.length_take] at this
        omega
      have hp2 := s3 _ _ hp
      have hsn : ((RC.keys R).take (i + 1)).filter (RC.isReady R l) = ((RC.keys R).take i).filter (RC.isReady R l) ++ if RC.isReady R l k = true then [k] else [] := by
        rw [take_snoc hki, List.filter_append]
        congr 1
        by_cases hh : RC.isReady R l k = true
        · simp [hh]
        · simp [hh]
      have skip : RC.isReady R l k = false → ∃ v2 v3, ([some (.ref t), some (.ref p), some (.ref d), some (.int k), some (optV (RC.waited R k))] : L2.St) = [some (.ref t), some (.ref p), some (.ref d), v2, v3] ∧ Same H H2 ∧ H2 q = some (.lst (iv (RC.keys R))) ∧
          H2 d = some (.lst (iv (((RC.keys R).take (i + 1)).filter (RC.isReady R l)))) := fun e => by
        refine ⟨_, _, rfl, s3, hq2, ?_⟩
        rw [hsn, e, if_neg (by decide), List.append_nil]
        exact hd2
      have good : RC.isReady R l k = true → ∃ v2 v3, ([some (.ref t), some (.ref p), some (.ref d), some (.int k), some (optV (RC.waited R k))] : L2.St) = [some (.ref t), some (.ref p), some (.ref d), v2, v3] ∧ Same H (upd H2 d (.lst (iv (((RC.keys R).take i).filter (RC.isReady R l)) ++ [.int k]))) ∧
          (upd H2 d (.lst (iv (((RC.keys R).take i).filter (RC.isReady R l)) ++ [.int k]))) q = some (.lst (iv (RC.keys R))) ∧
          (upd H2 d (.lst (iv (((RC.keys R).take i).filter (RC.isReady R l)) ++ [.int k]))) d = some (.lst (iv (((RC.keys R).take (i + 1)).filter (RC.isReady R l)))) := fun e => by
        refine ⟨_, _, rfl, s3.up nd, by rw [upd_ne hdq.symm]; exact hq2, ?_⟩
        rw [upd_same, hsn, e, if_pos rfl, ← iv_snoc]
      have e1 : (if true = true then !inV (.int k) (iv l) else inV (.int k) (iv l)) = !decide (k ∈ l) := by
        rw [if_pos rfl]
        exact congrArg not (inV_iv k l)
      refine ⟨_, rfl, _, rfl, t, R, k, rfl, S.same s3, hk, ?_⟩
      refine ⟨_, rfl, _, rfl, p, iv l, rfl, .inl (.inl (.inl hp2)), rfl, iv_flat _, _, rfl, ?_⟩
      rw [e1]
      by_cases hin : k ∈ l
      · rw [decide_eq_true hin]
        refine iteF (iteF (skip ?_))
        unfold RC.isReady
        rw [decide_eq_false (fun z => z hin)]; rfl
      · rw [decide_eq_false hin]
        refine iteT ⟨_, rfl, rfl, _, rfl, ?_⟩
        cases hw : RC.waited R k with
        | none =>
          rw [decide_eq_true (show optV none = V.non from rfl)]
          have hrd : RC.isReady R l k = true := by
            unfold RC.isReady
            rw [decide_eq_true hin, hw]; rfl
          rw [hw] at good
          exact iteT (iteT ⟨_, rfl, .inl ⟨rfl, _, SqL.of hd2⟩, _, rfl, d, _, _, rfl, rfl, hd2, by rw [iv_len]; exact small1000 (by omega), good hrd⟩)
        | some r =>
          rw [decide_eq_false (show ¬ optV (some r) = V.non from fun z => by cases z)]
          refine iteF ⟨_, rfl, _, rfl, p, iv l, rfl, .inl (.inl (.inl hp2)), rfl, iv_flat _, _, rfl, ?_⟩
          have e2 : (if false = true then !inV (optV (some r)) (iv l) else inV (optV (some r)) (iv l)) = decide (r ∈ l) := by
            rw [if_neg (by decide)]
            exact inV_iv r l
          rw [e2]
          have hrd : RC.isReady R l k = decide (r ∈ l) := by
            unfold RC.isReady
            rw [decide_eq_true hin, hw]; rfl
          rw [hw] at good skip
          by_cases hrl : r ∈ l
          · rw [decide_eq_true hrl] at hrd ⊢
            exact iteT ⟨_, rfl, .inl ⟨rfl, _, SqL.of hd2⟩, _, rfl, d, _, _, rfl, rfl, hd2, by rw [iv_len]; exact small1000 (by omega), good hrd⟩
          · rw [decide_eq_false hrl] at hrd ⊢
            exact iteF (skip hrd)
    · rintro σ H2 ⟨v2, v3, rfl, s3, hq2, hd2⟩
      rw [iv_len, List.take_length] at hd2
      exact ⟨_, rfl, kq d H2 s3 nd hd2⟩
theorem first_len {R : List (Int × Int)} (hr : RC.rings R = []) (hk : (RC.keys R).Nodup) : ∀ (f : Nat) (l : List Int), l.length ≤ R.length → (RC.firstGo R f l).length ≤ R.length
  | 0, l, h => h
  | f + 1, l, h => by
    unfold RC.firstGo
    by_cases hl : l.length < R.length
    · rw [if_pos hl]
      cases hrd : RC.ready R l with
      | nil => exact h
      | cons r t => exact first_len hr hk f _ (by rw [List.length_append, List.length_singleton]; omega)
    · rw [if_neg hl]; exact h
def spFirst (K : PySem.W.Frag) (C : Addr) : Sp := fun vs H Q _ => ∃ (t : Addr) (R : List (Int × Int)), vs = [.ref t] ∧ TabAt C H t R ∧ RC.rings R = [] ∧ ∀ (q : Addr) (H' : Hp), Same H H' → Dp K H' (.ref q) (tupD (RC.firstOrder R)) → Q (.ref q) H'
theorem sc62 : FnScope ["table", "done"] ["table"] (defScope (topS 62)) := ⟨rfl, rfl, rfl, by decide +kernel, rfl, by decide +kernel, by decide +kernel⟩
theorem ok_first_order (T : Tx K mg a) : Fnc P w K mg base CX0 8 "first_order" (spFirst K a.T) := by
  have cr : Fnc P w K mg base CX0 7 "ready" (spReady a.T) := ok_ready T
  have cl : Mth P w K mg base CX0 1 a.T "__len__" (spLen a.T) := ok_len T
  refine fnc_of T.d_first_order sc62 (fun _ _ _ _ _ _ us hl => match us, hl with | [_], _ => rfl) (fun vs H Q E h => ?_) fun f cdv A outer s H vs Q E hr h => ?_
  · obtain ⟨t, R, rfl, _⟩ := h; rfl
  · obtain ⟨t, R, rfl, S, hrg, kq⟩ := h
    have ok := S.ok
    refine ⟨_, pss_cons (ps_set (i := 1) sc62.nd rfl (.inl rfl) (pe_lst pa_nil))
      (pss_cons (ps_while PassesOwn.never (pt_cmpR op_lt (pe_callB call_len_seq (by rfl) T.len PySem.boot_len (pa_cons (pv 1) pa_nil)) (pe_callB (call_lenO cl hr (by decide) (E := E0) pass0) (by rfl) T.len PySem.boot_len (pa_cons (pv 0) pa_nil)) (nomark _))
        (pss_one (ps_expr (pe_bm PySem.F.plainAttrs_list PySem.F.slot_list_append PySem.F.type_list_append mt_append (pv 1) (pa_cons (pe_ix ix_list (pe_f cr hr (by decide) (E := E0) pass0 (by rfl) (pa_cons (pv 0) (pa_cons (pv 1) pa_nil))) pe_int (fun _ _ => rfl)) pa_nil)))))
      (pss_one (ps_ret (pe_callTy call_tuple_of (by rfl) T.tuple PyProof.Rows.boot_tuple (pa_cons (pv 1) pa_nil))))), ?_⟩
    refine ⟨by show 0 ≤ sizeLine; exact Nat.zero_le _, fun d nd => ?_⟩
    have s1 : Same H (upd H d (.lst [])) := Same.new nd
    refine ⟨fun m σ H2 => ∃ l f, σ = [some (.ref t), some (.ref d)] ∧ Same H H2 ∧ H2 d = some (.lst (iv l)) ∧ l.length ≤ R.length ∧ f + l.length = R.length + 1 ∧ RC.firstOrder R = RC.firstGo R f l ∧ m = R.length - l.length,
      ⟨_, [], R.length + 1, rfl, s1, upd_same, Nat.zero_le _, rfl, rfl, rfl⟩, ?_⟩
    rintro m σ H2 ⟨l, f, rfl, s2, hd, hl, hf, hgo, rfl⟩
    obtain ⟨dx, dd, T', e1, e2, _⟩ := (S.same s2).ex
    obtain ⟨f', rfl⟩ : ∃ f', f = f' + 1 := ⟨f - 1, by omega⟩
    have hsz : R.length ≤ 30 := ok.len
    refine ⟨_, rfl, d, iv l, rfl, .inl (SqL.of hd), _, rfl, t, dx, _, rfl, e1, t, R, rfl, S.same s2, _, rfl, ⟨by omega, by omega⟩, _, _, rfl, rfl, _, rfl, ?_⟩
    rw [iv_len]
    by_cases hlt : l.length < R.length
    · rw [decide_eq_true (show ((l.length : Nat) : Int) < (R.length : Nat) by omega)]
      refine iteT ⟨fun σ' H' => ∃ m', m' < R.length - l.length ∧ ∃ l f, σ' = [some (.ref t), some (.ref d)] ∧ Same H H' ∧ H' d = some (.lst (iv l)) ∧ l.length ≤ R.length ∧ f + l.length = R.length + 1 ∧ RC.firstOrder R = RC.firstGo R f l ∧ m' = R.length - l.length, fun σ' H' h => h, ?_⟩
      have hne := RC.ready_ne hrg ok.nd hlt
      cases hrd : RC.ready R l with
      | nil => exact absurd hrd hne
      | cons r tl =>
        refine ⟨_, rfl, .inl ⟨rfl, _, SqL.of hd⟩, _, rfl, _, rfl, t, d, R, l, rfl, S.same s2, hd, fun q H3 s3 nq hq => ?_⟩
        rw [hrd] at hq
        have hd3 := s3 _ _ hd
        refine ⟨q, _, 0, .int r, rfl, rfl, SqL.of hq, atI_nat (xs := iv (r :: tl)) (j := 0) (v := .int r) rfl, d, _, _, rfl, rfl, hd3, by rw [iv_len]; exact small1000 (by omega), ?_⟩
        refine ⟨R.length - (l ++ [r]).length, ?_, l ++ [r], f', rfl, (s2.trans s3).up nd, by rw [upd_same, ← iv_snoc], ?_, ?_, ?_, rfl⟩
        · rw [List.length_append, List.length_singleton]; omega
        · rw [List.length_append, List.length_singleton]; omega
        · rw [List.length_append, List.length_singleton]; omega
        · rw [hgo]
          conv => lhs; unfold RC.firstGo
          rw [if_pos hlt, hrd]
    · rw [decide_eq_false (show ¬ ((l.length : Nat) : Int) < (R.length : Nat) by omega)]
      have hfin : RC.firstOrder R = l := by
        rw [hgo]
        conv => lhs; unfold RC.firstGo
        rw [if_neg hlt]
      refine iteF ⟨_, rfl, d, _, rfl, .inl ⟨SqL.of hd, fun q nq => ?_⟩⟩
      have s3 : Same H2 (upd H2 q (.tup (iv l))) := Same.new nq
      refine kq q _ (s2.trans s3) (.tup (.inl (.inl upd_same)) ?_)
      rw [hfin]
      exact dp_ints l
/-! ### factorial -/
def spFact : Sp := fun vs H Q _ => ∃ n : Nat, vs = [.int n] ∧ n ≤ 30 ∧ Q (.int (RC.fact n : Nat)) H
theorem fact_lt : ∀ n, n ≤ 30 → RC.fact n < 2 ^ 120 := by decide +kernel
theorem fact_pos : ∀ n, 0 < RC.fact n
  | 0 => Nat.one_pos
  | n + 1 => Nat.mul_pos (Nat.succ_pos n) (fact_pos n)
theorem sc65 : FnScope ["many", "found", "number"] ["many"] (defScope (topS 65)) := ⟨rfl, rfl, rfl, by decide +kernel, rfl, by decide +kernel, by decide +kernel⟩
theorem ok_factorial (T : Tx K mg a) : Fnc P w K mg base CX0 1 "factorial" spFact := by
  refine fnc_of T.d_factorial sc65 (fun _ _ _ _ _ _ us hl => match us, hl with | [_], _ => rfl) (fun vs H Q E h => ?_) fun f cdv A outer s H vs Q E hr h => ?_
  · obtain ⟨n, rfl, _⟩ := h; rfl
  · obtain ⟨n, rfl, hn, kq⟩ := h
    refine ⟨_, pss_cons (ps_set (i := 1) sc65.nd rfl (.inl rfl) pe_int)
      (pss_cons (ps_for PassesOwn.never rfl (pi_range2 (by rfl) T.range (pa_cons pe_int (pa_cons (pe_op op_add (pv 0) pe_int) pa_nil))) (pg_name (i := 2) sc65.nd rfl (.inl rfl))
        (pss_one (ps_aug (i := 1) sc65.nd rfl (.inl rfl) (pv 2) iop_mul)))
      (pss_one (ps_ret (pv 1)))), ?_⟩
    refine ⟨_, rfl, _, _, rfl, rfl, 2, _, rfl, ⟨by omega, by omega, by omega, by omega⟩, ?_⟩
    have e : ((n : Int) + 1 - 2).toNat = n - 1 := by omega
    rw [e]
    refine for_range (fun i σ H2 => ∃ v, σ = [some (.int n), some (.int (RC.fact (i + 1) : Nat)), v] ∧ H2 = H) ⟨none, rfl, rfl⟩ ?_ ?_
    · rintro i σ H2 hi ⟨v, rfl, rfl⟩
      refine ⟨_, rfl, _, rfl, _, _, rfl, rfl, .inr ⟨by omega, by omega⟩, some (.int (2 + (i : Int))), ?_, rfl⟩
      have e2 : ((RC.fact (i + 1) : Nat) : Int) * (2 + (i : Int)) = ((RC.fact (i + 1 + 1) : Nat) : Int) := by
        show _ = (((i + 1 + 1) * RC.fact (i + 1) : Nat) : Int)
        rw [Int.natCast_mul, Int.mul_comm]
        congr 1
        omega
      show [some (V.int n), some (V.int (((RC.fact (i + 1) : Nat) : Int) * (2 + (i : Int)))), some (V.int (2 + (i : Int)))] = _
      rw [e2]
    · rintro σ H2 ⟨v, rfl, rfl⟩
      refine ⟨_, rfl, ?_⟩
      have e3 : RC.fact (n - 1 + 1) = RC.fact n := by
        rcases n with _ | n
        · rfl
        · rfl
      rw [e3]
      exact kq
end
end RcX
end
section
set_option Elab.async false
set_option linter.all false
set_option maxRecDepth 100000
set_option maxHeartbeats 4000000
namespace RcX
open PySem PySem.Spec PyProof.Rows L2
/-! ### shapes -/
theorem canLay_ints : ∀ l : List Int, PyData.canLayAll0 (l.map .int) = true
  | [] => rfl
  | _ :: l => by
    show (true && PyData.canLayAll0 (l.map .int)) = true
    rw [canLay_ints l]; rfl
theorem canLay_map {β : Type} {enc : β → PyData} (h : ∀ b, (enc b).canLay0 = true) : ∀ bs : List β, PyData.canLayAll0 (bs.map enc) = true
  | [] => rfl
  | b :: bs => by
    show ((enc b).canLay0 && PyData.canLayAll0 (bs.map enc)) = true
    rw [h b, canLay_map h bs]; rfl
theorem depth_map {β : Type} {enc : β → PyData} {n : Nat} (h : ∀ b, (enc b).depth ≤ n) : ∀ bs : List β, PyData.depthAll (bs.map enc) ≤ n
  | [] => Nat.zero_le _
  | b :: bs => by
    show max (enc b).depth (PyData.depthAll (bs.map enc)) ≤ n
    exact Nat.max_le.mpr ⟨h b, depth_map h bs⟩
theorem shaped_list {ds : List PyData} (h : PyData.canLayAll0 ds = true) (hd : PyData.depthAll ds ≤ 60) : SeqAt.shaped (.list ds) = true := by
  unfold SeqAt.shaped
  rw [Bool.and_eq_true]
  refine ⟨h, decide_eq_true ?_⟩
  show PyData.depthAll ds + 1 ≤ 64
  omega
theorem shaped_tup {ds : List PyData} (h : PyData.canLayAll0 ds = true) (hd : PyData.depthAll ds ≤ 60) : SeqAt.shaped (.tuple ds) = true := by
  unfold SeqAt.shaped
  rw [Bool.and_eq_true]
  refine ⟨h, decide_eq_true ?_⟩
  show PyData.depthAll ds + 1 ≤ 64
  omega
theorem tup_lay (l : List Int) : (tupD l).canLay0 = true := canLay_ints l
theorem eqv_nil {β : Type} (L : List β) (enc : β → PyData) : PyData.eqv (.list (L.map enc)) (.list []) = L.isEmpty := by
  cases L <;> rfl
section
variable {K : PySem.W.Frag} {H : Hp} {p q : Addr} {xs : List V} {L : List (List Int)} {Q : VK}
theorem shaped_tups (L : List (List Int)) : SeqAt.shaped (.list (L.map tupD)) = true := shaped_list (canLay_map tup_lay L) (Nat.le_trans (depth_map tup_depth L) (by decide))
theorem ne_nil (hp : H p = some (.lst xs)) (hd : DpAll K H xs (L.map tupD)) (hq : H q = some (.lst [])) (k : Q (.bl (!L.isEmpty)) H) : rNeD K (.ref p) (.ref q) H Q :=
  ⟨.list (L.map tupD), .list [], .lst (SqL.of hp) hd, .lst (SqL.of hq) .nil, shaped_tups L, rfl, by rw [eqv_nil]; exact k⟩
theorem eq_nil (hp : H p = some (.lst xs)) (hd : DpAll K H xs (L.map tupD)) (hq : H q = some (.lst [])) (k : Q (.bl L.isEmpty) H) : rEqD K (.ref p) (.ref q) H Q :=
  ⟨.list (L.map tupD), .list [], .lst (SqL.of hp) hd, .lst (SqL.of hq) .nil, shaped_tups L, rfl, by rw [eqv_nil]; exact k⟩
theorem tupD_inv {x : V} {l : List Int} (h : Dp K H x (tupD l)) : ∃ p, x = .ref p ∧ SqT K H p (iv l) := by
  unfold tupD at h
  cases h with
  | tup h1 h2 => rw [dp_ints_inv h2] at h1; exact ⟨_, rfl, h1⟩
theorem hd_inv {g : List Int} {L' : List (List Int)} (hd : DpAll K H xs ((g :: L').map tupD)) : ∃ (u : Addr) (xs' : List V), xs = .ref u :: xs' ∧ SqT K H u (iv g) := by
  cases hd with
  | cons h1 h2 =>
    obtain ⟨u, rfl, hu⟩ := tupD_inv h1
    exact ⟨u, _, rfl, hu⟩
theorem take2 {g : List Int} (hd : SqT K H p (iv g)) (kq : ∀ q H', Same H H' → (q = p ∨ H q = none) → SqT K H' q (iv (g.take 2)) → Q (.ref q) H') : rSlA K (.ref p) none (some 2) H Q := by
  have e2 : HT.sIx (iv g).length (iv g).length (some 2) = min 2 g.length := by
    rw [iv_len]
    exact HT.sIx_nat g.length g.length 2
  refine ⟨p, iv g, rfl, hd, fun hw => kq p H (fun _ _ z => z) (.inl rfl) ?_, fun _ q nq => kq q _ (Same.new nq) (.inr nq) (.inl (.inl ?_))⟩
  · rw [e2, iv_len] at hw
    rw [List.take_of_length_le (by omega)]
    exact hd
  · rw [upd_same]
    unfold cutV
    rw [e2]
    show some (HO.tup (((iv g).drop 0).take (min 2 g.length - 0))) = _
    rw [List.drop_zero, Nat.sub_zero]
    unfold iv
    rw [← List.map_take, show min 2 g.length = min 2 g.length from rfl]
    congr 2
    rw [List.map_inj_right (by intro a b e; injection e)]
    by_cases h : 2 ≤ g.length
    · rw [Nat.min_eq_left h]
    · rw [List.take_of_length_le (by omega), List.take_of_length_le (by omega)]
end
/-! ### with the written part named -/
theorem op_eqDK {X : Cx} {K : PySem.W.Frag} (hu : X.A.units + 64 < cLine) (hK : X.K = K := by rfl) : OpR X (compareOp .Eq) (rEqD K) := by
  subst hK
  exact op_eqD hu
section
variable {P : Program} {w : World} {K : PySem.W.Frag} {mg : Str → Option Value} {base : Heap} {a : Ads}
/-! ### verdict -/
def verdS : RC.Verd Int → Str
  | .compete _ => "compete"
  | .ring _ => "ring"
  | .order _ => "order"
def verdL : RC.Verd Int → List Int
  | .compete p => p
  | .ring p => p
  | .order p => p
def verdD (v : RC.Verd Int) : PyData := .tuple [.str (verdS v), tupD (verdL v)]
def spVerd (K : PySem.W.Frag) (C : Addr) : Sp := fun vs H Q _ => ∃ (t : Addr) (R : List (Int × Int)), vs = [.ref t] ∧ TabAt C H t R ∧ ∀ (p : Addr) (H' : Hp), Same H H' → Dp K H' (.ref p) (verdD (RC.verdict R)) → Q (.ref p) H'
theorem sc63 : FnScope ["table", "groups", "rings"] ["table"] (defScope (topS 63)) := ⟨rfl, rfl, rfl, by decide +kernel, rfl, by decide +kernel, by decide +kernel⟩
theorem ok_verdict (T : Tx K mg a) : Fnc P w K mg base CX0 9 "verdict" (spVerd K a.T) := by
  have cn : Fnc P w K mg base CX0 1 "need_table" (spNeed a.T) := ok_need_table T
  have cg : Fnc P w K mg base CX0 5 "groups_of" (spLists K a.T groupsD) := ok_groups_of T
  have cr : Fnc P w K mg base CX0 8 "rings_of" (spLists K a.T ringsD) := ok_rings_of T
  have cf : Fnc P w K mg base CX0 8 "first_order" (spFirst K a.T) := ok_first_order T
  refine fnc_of T.d_verdict sc63 (fun _ _ _ _ _ _ us hl => match us, hl with | [_], _ => rfl) (fun vs H Q E h => ?_) fun f cdv A outer s H vs Q E hr h => ?_
  · obtain ⟨t, R, rfl, _⟩ := h; rfl
  · obtain ⟨t, R, rfl, S, kq⟩ := h
    have ok := S.ok
    have hu := hr.units
    refine ⟨_, pss_cons (ps_expr (pe_f cn hr (by decide) (E := E0) pass0 (by rfl) (pa_cons (pv 0) pa_nil)))
      (pss_cons (ps_par (i := 1) (j := 2) rfl sc63.nd rfl rfl (by decide) rfl rfl (pa_cons (pe_f cg hr (by decide) (E := E0) pass0 (by rfl) (pa_cons (pv 0) pa_nil)) (pa_cons (pe_f cr hr (by decide) (E := E0) pass0 (by rfl) (pa_cons (pv 0) pa_nil)) pa_nil)) (by rfl))
      (pss_cons (ps_if (pt_cmpR (op_neD hu) (pv 1) (pe_lst pa_nil) (nomark _)) (pss_one (ps_ret (pe_tup (pa_cons pe_str (pa_cons (pe_slice sl_tupA (pe_ix ix_list (pv 1) pe_int (fun _ _ => rfl)) po_none (po_some pe_int)) pa_nil))))) pss_nil)
      (pss_cons (ps_if (pt_cmpR (op_neD hu) (pv 2) (pe_lst pa_nil) (nomark _)) (pss_one (ps_ret (pe_tup (pa_cons pe_str (pa_cons (pe_ix ix_list (pv 2) pe_int (fun _ _ => rfl)) pa_nil))))) pss_nil)
      (pss_one (ps_ret (pe_tup (pa_cons pe_str (pa_cons (pe_f cf hr (by decide) (E := E0) pass0 (by rfl) (pa_cons (pv 0) pa_nil)) pa_nil)))))))), ?_⟩
    refine ⟨_, rfl, t, R, rfl, S, _, rfl, t, R, rfl, S, fun pg xg H1 s1 ng hg hdg => ⟨_, rfl, t, R, rfl, S.same s1, fun pr xr H2 s2 nr hrr hdr => ⟨_, _, rfl, ?_⟩⟩⟩
    refine ⟨_, rfl, Nat.zero_le _, fun e ne => ?_⟩
    have s3 : Same H2 (upd H2 e (.lst [])) := Same.new ne
    refine ne_nil (s3 _ _ (s2 _ _ hg)) (DpAll.same (s2.trans s3) _ _ hdg) upd_same ⟨_, rfl, ?_⟩
    have s123 := (s1.trans s2).trans s3
    unfold RC.verdict at kq
    cases hG : RC.groups R with
    | cons g Gs =>
      rw [hG] at kq
      have hdg' : DpAll K (upd H2 e (.lst [])) xg ((g :: Gs).map tupD) := by
        rw [← hG]; exact DpAll.same (s2.trans s3) _ _ hdg
      obtain ⟨u, xs', rfl, hu'⟩ := hd_inv hdg'
      refine iteT ⟨_, rfl, pg, _, 0, .ref u, rfl, rfl, SqL.of (s3 _ _ (s2 _ _ hg)), atI_nat (xs := .ref u :: xs') (j := 0) (v := .ref u) rfl, 2, rfl, ?_⟩
      refine take2 hu' fun q H4 s4 _ hq => ⟨two_line, fun r nr' => ?_⟩
      have s5 : Same H4 (upd H4 r (.tup [.str "compete", .ref q])) := Same.new nr'
      exact kq r _ ((s123.trans s4).trans s5) (.tup (.inl (.inl upd_same)) (.cons (.str _) (.cons (.tup (seqT s5 hq) (dp_ints _)) .nil)))
    | nil =>
      rw [hG] at kq
      refine iteF ⟨_, rfl, Nat.zero_le _, fun e2 ne2 => ?_⟩
      have s4 : Same (upd H2 e (.lst [])) (upd (upd H2 e (.lst [])) e2 (.lst [])) := Same.new ne2
      have s34 := s3.trans s4
      have s1234 := s123.trans s4
      refine ne_nil (s34 _ _ hrr) (DpAll.same s34 _ _ hdr) upd_same ⟨_, rfl, ?_⟩
      cases hR : RC.rings R with
      | cons g Gs =>
        rw [hR] at kq
        have hdr' : DpAll K (upd (upd H2 e (.lst [])) e2 (.lst [])) xr ((g :: Gs).map tupD) := by
          rw [← hR]; exact DpAll.same s34 _ _ hdr
        obtain ⟨u, xs', rfl, hu'⟩ := hd_inv hdr'
        refine iteT ⟨_, rfl, pr, _, 0, .ref u, rfl, rfl, SqL.of (s34 _ _ hrr), atI_nat (xs := .ref u :: xs') (j := 0) (v := .ref u) rfl, two_line, fun r nr' => ?_⟩
        have s5 : Same (upd (upd H2 e (.lst [])) e2 (.lst [])) (upd (upd (upd H2 e (.lst [])) e2 (.lst [])) r (.tup [.str "ring", .ref u])) := Same.new nr'
        exact kq r _ (s1234.trans s5) (.tup (.inl (.inl upd_same)) (.cons (.str _) (.cons (.tup (seqT s5 hu') (dp_ints _)) .nil)))
      | nil =>
        rw [hR] at kq
        refine iteF ⟨_, rfl, t, R, rfl, S.same s1234, hR, fun q H5 s5 hq => ⟨two_line, fun r nr' => ?_⟩⟩
        have s6 : Same H5 (upd H5 r (.tup [.str "order", .ref q])) := Same.new nr'
        exact kq r _ ((s1234.trans s5).trans s6) (.tup (.inl (.inl upd_same)) (.cons (.str _) (.cons (Dp.same s6 _ _ hq) .nil)))
/-! ### is_free_of, fits_at_end -/
def spBoolT (C : Addr) (f : List (Int × Int) → Bool) : Sp := fun vs H Q _ => ∃ (t : Addr) (R : List (Int × Int)), vs = [.ref t] ∧ TabAt C H t R ∧ ∀ H' : Hp, Same H H' → Q (.bl (f R)) H'
theorem sc64 : FnScope ["table"] ["table"] (defScope (topS 64)) := ⟨rfl, rfl, rfl, by decide +kernel, rfl, by decide +kernel, by decide +kernel⟩
theorem ok_is_free_of (T : Tx K mg a) : Fnc P w K mg base CX0 9 "is_free_of" (spBoolT a.T RC.isFree) := by
  have cg : Fnc P w K mg base CX0 5 "groups_of" (spLists K a.T groupsD) := ok_groups_of T
  have cr : Fnc P w K mg base CX0 8 "rings_of" (spLists K a.T ringsD) := ok_rings_of T
  refine fnc_of T.d_is_free_of sc64 (fun _ _ _ _ _ _ us hl => match us, hl with | [_], _ => rfl) (fun vs H Q E h => ?_) fun f cdv A outer s H vs Q E hr h => ?_
  · obtain ⟨t, R, rfl, _⟩ := h; rfl
  · obtain ⟨t, R, rfl, S, kq⟩ := h
    have hu := hr.units
    refine ⟨_, pss_one (ps_ret (pe_and (pe_cmpR (op_eqD hu) (pe_f cg hr (by decide) (E := E0) pass0 (by rfl) (pa_cons (pv 0) pa_nil)) (pe_lst pa_nil) (nomark _))
      (pe_one (pe_cmpR (op_eqD hu) (pe_f cr hr (by decide) (E := E0) pass0 (by rfl) (pa_cons (pv 0) pa_nil)) (pe_lst pa_nil) (nomark _))))), ?_⟩
    refine ⟨_, rfl, t, R, rfl, S, fun pg xg H1 s1 ng hg hdg => ⟨Nat.zero_le _, fun e ne => ?_⟩⟩
    have s2 : Same H1 (upd H1 e (.lst [])) := Same.new ne
    refine eq_nil (s2 _ _ hg) (DpAll.same s2 _ _ hdg) upd_same ⟨_, rfl, ?_⟩
    unfold RC.isFree at kq
    cases hG : (RC.groups R).isEmpty with
    | false =>
      rw [hG] at kq
      exact iteF (kq _ (s1.trans s2))
    | true =>
      rw [hG] at kq
      refine iteT ⟨_, rfl, t, R, rfl, S.same (s1.trans s2), fun pr xr H3 s3 nr hrr hdr => ⟨Nat.zero_le _, fun e2 ne2 => ?_⟩⟩
      have s4 : Same H3 (upd H3 e2 (.lst [])) := Same.new ne2
      exact eq_nil (s4 _ _ hrr) (DpAll.same s4 _ _ hdr) upd_same (kq _ (((s1.trans s2).trans s3).trans s4))
theorem sc69 : FnScope ["table"] ["table"] (defScope (topS 69)) := ⟨rfl, rfl, rfl, by decide +kernel, rfl, by decide +kernel, by decide +kernel⟩
theorem ok_fits_at_end (T : Tx K mg a) : Fnc P w K mg base CX0 6 "fits_at_end" (spBoolT a.T fun R => (RC.groups R).isEmpty) := by
  have cn : Fnc P w K mg base CX0 1 "need_table" (spNeed a.T) := ok_need_table T
  have cg : Fnc P w K mg base CX0 5 "groups_of" (spLists K a.T groupsD) := ok_groups_of T
  refine fnc_of T.d_fits_at_end sc69 (fun _ _ _ _ _ _ us hl => match us, hl with | [_], _ => rfl) (fun vs H Q E h => ?_) fun f cdv A outer s H vs Q E hr h => ?_
  · obtain ⟨t, R, rfl, _⟩ := h; rfl
  · obtain ⟨t, R, rfl, S, kq⟩ := h
    have hu := hr.units
    refine ⟨_, pss_cons (ps_expr (pe_f cn hr (by decide) (E := E0) pass0 (by rfl) (pa_cons (pv 0) pa_nil)))
      (pss_one (ps_ret (pe_cmpR (op_eqD hu) (pe_f cg hr (by decide) (E := E0) pass0 (by rfl) (pa_cons (pv 0) pa_nil)) (pe_lst pa_nil) (nomark _)))), ?_⟩
    refine ⟨_, rfl, t, R, rfl, S, _, rfl, t, R, rfl, S, fun pg xg H1 s1 ng hg hdg => ⟨Nat.zero_le _, fun e ne => ?_⟩⟩
    have s2 : Same H1 (upd H1 e (.lst [])) := Same.new ne
    exact eq_nil (s2 _ _ hg) (DpAll.same s2 _ _ hdg) upd_same (kq _ (s1.trans s2))
/-! ### chains_of -/
structure LL (H : Hp) (p : Addr) (Z : List (Addr × List Int)) : Prop where
  l : H p = some (.lst (Z.map fun z => V.ref z.1))
  ls : ∀ z ∈ Z, H z.1 = some (.lst (iv z.2)) ∧ z.1 ≠ p
def chainF (R : List (Int × Int)) (k : Int) : Option (List Int) := if RC.waitingFor R k = [] then some (RC.pathOf R k) else none
def spChains (C : Addr) : Sp := fun vs H Q _ => ∃ (t : Addr) (R : List (Int × Int)), vs = [.ref t] ∧ TabAt C H t R ∧ ∀ (p : Addr) (Z : List (Addr × List Int)) (H' : Hp), Same H H' → LL H' p Z → Z.map (·.2) = RC.chains R → Q (.ref p) H'
theorem sc66 : FnScope ["table", "key"] ["table"] (defScope (topS 66)) := ⟨rfl, rfl, rfl, by decide +kernel, rfl, by decide +kernel, by decide +kernel⟩
theorem eq_nilI {K : PySem.W.Frag} {H : Hp} {p q : Addr} {L : List Int} {Q : VK} (hp : H p = some (.lst (iv L))) (hq : H q = some (.lst [])) (k : Q (.bl L.isEmpty) H) : rEqD K (.ref p) (.ref q) H Q :=
  ⟨.list (L.map .int), .list [], .lst (SqL.of hp) (dp_ints _), .lst (SqL.of hq) .nil, shaped_list (canLay_ints L) (by rw [PySem.W.depth_ints]; decide), rfl, by rw [eqv_nil]; exact k⟩
theorem ok_chains_of (T : Tx K mg a) : Fnc P w K mg base CX0 8 "chains_of" (spChains a.T) := by
  have ck : Fnc P w K mg base CX0 4 "keys_of" (spKeys a.T) := ok_keys_of T
  have cp : Fnc P w K mg base CX0 7 "path_of" (spPath a.T) := ok_path_of T
  have cw : Fnc P w K mg base CX0 4 "waiting_for" (spWaiting a.T) := ok_waiting_for T
  refine fnc_of T.d_chains_of sc66 (fun _ _ _ _ _ _ us hl => match us, hl with | [_], _ => rfl) (fun vs H Q E h => ?_) fun f cdv A outer s H vs Q E hr h => ?_
  · obtain ⟨t, R, rfl, _⟩ := h; rfl
  · obtain ⟨t, R, rfl, S, kq⟩ := h
    have ok := S.ok
    have hu := hr.units
    refine ⟨_, pss_one (ps_ret (pe_lc (own := [("key", 1)]) (g := gName 1) rfl sc66.nd (pi_list (pe_f ck hr (by decide) (E := E0) pass0 (by rfl) (pa_cons (pv 0) pa_nil)))
      (blkOk_by (N := ["table", "key"]) (sc := defScope (topS 66)) (by decide +kernel))
      (fun _ _ _ _ _ => pg_name (i := 1) sc66.nd rfl (Or.inl rfl))
      (fun _ _ _ _ _ => pts_one (pt_cmpR (op_eqDK (K := K) hu) (pe_f cw hr (by decide) (E := E0) pass0 (by rfl) (pa_cons (pv 0) (pa_cons (pv 1) pa_nil))) (pe_lst pa_nil) (nomark _)))
      (fun _ _ _ _ _ => pe_f cp hr (by decide) (E := E0) pass0 (by rfl) (pa_cons (pv 0) (pa_cons (pv 1) pa_nil))))), ?_⟩
    refine ⟨_, rfl, t, R, rfl, S, fun q H1 s1 nq hq => ⟨q, rfl, ⟨_, SqL.of hq⟩, fun D hD => ?_⟩⟩
    refine lc_it (walk_list (xs := iv (RC.keys R))) (fun i H2 => Same H1 H2 ∧ ∃ Z, LL H2 D Z ∧ Z.map (·.2) = ((RC.keys R).take i).filterMap (chainF R)) ⟨Same.new hD, [], ⟨upd_same, (fun z hz => by cases hz)⟩, rfl⟩ (fun i H2 _ h => SqL.of (h.1 _ _ hq)) ?_ ?_
    · rintro i x H2 H2' hi ⟨s2, Z, g, eZ⟩ ⟨rfl, hxi⟩
      obtain ⟨k, hki, rfl⟩ := iv_get hxi
      have hk : k ∈ RC.keys R := List.mem_of_getElem? hki
      have hi30 : i < (RC.keys R).length := (List.getElem?_eq_some_iff.mp hki).1
      have hk30 : (RC.keys R).length ≤ 30 := by rw [keys_len]; exact ok.len
      have hZl : Z.length ≤ 30 := by
        have h1 : (Z.map (·.2)).length = Z.length := List.length_map _
        rw [eZ] at h1
        have h2 := fm_le (f := chainF R) (l := (RC.keys R).take i)
        rw [List.length_take] at h2
        omega
      have S2 := S.same (s1.trans s2)
      refine ⟨rfl, _, rfl, _, rfl, t, R, k, rfl, S2, fun r H3 s3 nr hr3 => ⟨Nat.zero_le _, fun e ne => ?_⟩⟩
      have s4 : Same H3 (upd H3 e (.lst [])) := Same.new ne
      refine eq_nilI (s4 _ _ hr3) upd_same ⟨_, rfl, ?_⟩
      have s34 := s3.trans s4
      have s234 := s2.trans s34
      have g4 : LL (upd H3 e (.lst [])) D Z := ⟨s34 _ _ g.l, fun z hz => ⟨s34 _ _ (g.ls z hz).1, (g.ls z hz).2⟩⟩
      cases hW : RC.waitingFor R k with
      | cons y ys =>
        refine iteF ⟨s234, Z, g4, ?_⟩
        rw [take_snoc hki, fm_snoc, show chainF R k = none from if_neg (by rw [hW]; simp), Option.toList_none, List.append_nil]
        exact eZ
      | nil =>
        refine iteT ⟨_, rfl, _, rfl, t, R, k, rfl, S.same (s1.trans s234), hk, fun u H5 s5 nu hu5 => ?_⟩
        have hD5 := s5 _ _ g4.l
        have nuD : u ≠ D := fun z => by rw [z, g4.l] at nu; cases nu
        refine ⟨_, hD5, by rw [List.length_map]; exact small1000 (by omega), (s234.trans s5).up hD, Z ++ [(u, RC.pathOf R k)], ⟨?_, fun z hz => ?_⟩, ?_⟩
        · rw [upd_same, List.map_append]; rfl
        · rcases List.mem_append.mp hz with hz | hz
          · have := g4.ls z hz
            refine ⟨?_, this.2⟩
            rw [upd_ne this.2]
            exact s5 _ _ this.1
          · rw [List.mem_singleton.mp hz]
            refine ⟨?_, nuD⟩
            rw [upd_ne nuD]
            exact hu5
        · rw [List.map_append, eZ, take_snoc hki, fm_snoc, show chainF R k = some (RC.pathOf R k) from if_pos hW]
          rfl
    · rintro H2 ⟨s2, Z, g, eZ⟩
      rw [iv_len, List.take_length] at eZ
      exact kq D Z H2 (s1.trans s2) g eZ
/-! ### orders_of, passing_orders -/
theorem chain_len {R : List (Int × Int)} {c : List Int} (h : c ∈ RC.chains R) : c.length ≤ R.length := by
  obtain ⟨k, hk, e⟩ := List.mem_filterMap.mp (show c ∈ (RC.keys R).filterMap (chainF R) from h)
  unfold chainF at e
  by_cases hw : RC.waitingFor R k = []
  · rw [if_pos hw] at e
    rw [← Option.some.inj e]
    exact (RC.isPath hk).len
  · rw [if_neg hw] at e; cases e
def spIntT (C : Addr) (f : List (Int × Int) → Nat) : Sp := fun vs H Q _ => ∃ (t : Addr) (R : List (Int × Int)), vs = [.ref t] ∧ TabAt C H t R ∧ ∀ H' : Hp, Same H H' → Q (.int (f R : Nat)) H'
theorem sc67 : FnScope ["table", "found", "chain"] ["table"] (defScope (topS 67)) := ⟨rfl, rfl, rfl, by decide +kernel, rfl, by decide +kernel, by decide +kernel⟩
theorem ok_orders_of (T : Tx K mg a) : Fnc P w K mg base CX0 10 "orders_of" (spIntT a.T RC.countOf) := by
  have ci : Fnc P w K mg base CX0 9 "is_free_of" (spBoolT a.T RC.isFree) := ok_is_free_of T
  have cf : Fnc P w K mg base CX0 1 "factorial" spFact := ok_factorial T
  have cc : Fnc P w K mg base CX0 8 "chains_of" (spChains a.T) := ok_chains_of T
  have cl : Mth P w K mg base CX0 1 a.T "__len__" (spLen a.T) := ok_len T
  refine fnc_of T.d_orders_of sc67 (fun _ _ _ _ _ _ us hl => match us, hl with | [_], _ => rfl) (fun vs H Q E h => ?_) fun f cdv A outer s H vs Q E hr h => ?_
  · obtain ⟨t, R, rfl, _⟩ := h; rfl
  · obtain ⟨t, R, rfl, S, kq⟩ := h
    have ok := S.ok
    refine ⟨_, pss_cons (ps_if (pt_not (pt_val (pe_f ci hr (by decide) (E := E0) pass0 (by rfl) (pa_cons (pv 0) pa_nil)))) (pss_one (ps_ret pe_int)) pss_nil)
      (pss_cons (ps_set (i := 1) sc67.nd rfl (.inl rfl) (pe_f cf hr (by decide) (E := E0) pass0 (by rfl) (pa_cons (pe_callB (call_lenO cl hr (by decide) (E := E0) pass0) (by rfl) T.len PySem.boot_len (pa_cons (pv 0) pa_nil)) pa_nil)))
      (pss_cons (ps_for PassesOwn.never rfl (pi_list (pe_f cc hr (by decide) (E := E0) pass0 (by rfl) (pa_cons (pv 0) pa_nil))) (pg_name (i := 2) sc67.nd rfl (.inl rfl))
        (pss_one (ps_aug (i := 1) sc67.nd rfl (.inl rfl) (pe_f cf hr (by decide) (E := E0) pass0 (by rfl) (pa_cons (pe_callB call_len_seq (by rfl) T.len PySem.boot_len (pa_cons (pv 2) pa_nil)) pa_nil)) iop_fdivW)))
      (pss_one (ps_ret (pv 1))))), ?_⟩
    refine ⟨_, rfl, t, R, rfl, S, fun H1 s1 => ⟨_, rfl, ?_⟩⟩
    unfold RC.countOf at kq
    cases hF : RC.isFree R with
    | false =>
      rw [hF] at kq
      exact iteT (kq H1 s1)
    | true =>
      rw [hF, if_pos rfl] at kq
      have S1 := S.same s1
      obtain ⟨dx, dd, T', e1, e2, _⟩ := S1.ex
      have hsz : R.length ≤ 30 := ok.len
      refine iteF ⟨_, rfl, t, dx, _, rfl, e1, t, R, rfl, S1, _, rfl, ⟨by omega, by omega⟩, R.length, rfl, hsz, _, rfl, t, R, rfl, S1, fun q Z H2 s2 g eZ => ?_⟩
      refine ⟨q, rfl, ⟨_, SqL.of g.l⟩, ?_⟩
      refine for_list (xs := Z.map fun z => V.ref z.1) (fun i σ H3 => ∃ v, σ = [some (.ref t), some (.int (((Z.map (·.2)).take i).foldl (fun f c => f / RC.fact c.length) (RC.fact R.length) : Nat)), v] ∧ H3 = H2) ⟨none, rfl, rfl⟩ (fun i σ H3 _ ⟨_, _, e⟩ => by rw [e]; exact SqL.of g.l) ?_ ?_
      · rintro i x σ H3 hi ⟨v, rfl, rfl⟩
        rw [List.getElem?_map] at hi
        cases hz : Z[i]? with
        | none => rw [hz] at hi; cases hi
        | some z =>
          rw [hz] at hi
          obtain rfl : V.ref z.1 = x := Option.some.inj hi
          have hzm := List.mem_of_getElem? hz
          have hc : z.2 ∈ RC.chains R := by rw [← eZ]; exact List.mem_map.mpr ⟨z, hzm, rfl⟩
          have hcl := chain_len hc
          have hz2 : (Z.map (·.2))[i]? = some z.2 := by rw [List.getElem?_map, hz]; rfl
          refine ⟨_, rfl, _, rfl, z.1, _, rfl, .inl (SqL.of (g.ls z hzm).1), z.2.length, by rw [iv_len], by omega, ?_⟩
          have hpos := fact_pos z.2.length
          have hlt := fact_lt z.2.length (by omega)
          refine ⟨_, _, rfl, rfl, wide_div (b := 120) (by omega) (by rw [Int.natAbs_natCast]; exact hlt) (by decide) (by decide), some (.ref z.1), ?_, rfl⟩
          rw [take_snoc hz2, List.foldl_append]
          show [some (V.ref t), some (V.int ((((Z.map (·.2)).take i).foldl (fun f c => f / RC.fact c.length) (RC.fact R.length) : Nat) / ((RC.fact z.2.length : Nat) : Int))), some (V.ref z.1)] = _
          rw [← Int.natCast_ediv]
          rfl
      · rintro σ H3 ⟨v, rfl, rfl⟩
        refine ⟨_, rfl, ?_⟩
        have el : (Z.map fun z => V.ref z.1).length = (Z.map (·.2)).length := by rw [List.length_map, List.length_map]
        rw [el, List.take_length, eZ]
        exact kq _ (s1.trans s2)
theorem sc68 : FnScope ["table"] ["table"] (defScope (topS 68)) := ⟨rfl, rfl, rfl, by decide +kernel, rfl, by decide +kernel, by decide +kernel⟩
theorem ok_passing_orders (T : Tx K mg a) : Fnc P w K mg base CX0 11 "passing_orders" (spIntT a.T RC.countOf) := by
  have cn : Fnc P w K mg base CX0 1 "need_table" (spNeed a.T) := ok_need_table T
  have co : Fnc P w K mg base CX0 10 "orders_of" (spIntT a.T RC.countOf) := ok_orders_of T
  refine fnc_of T.d_passing_orders sc68 (fun _ _ _ _ _ _ us hl => match us, hl with | [_], _ => rfl) (fun vs H Q E h => ?_) fun f cdv A outer s H vs Q E hr h => ?_
  · obtain ⟨t, R, rfl, _⟩ := h; rfl
  · obtain ⟨t, R, rfl, S, kq⟩ := h
    refine ⟨_, pss_cons (ps_expr (pe_f cn hr (by decide) (E := E0) pass0 (by rfl) (pa_cons (pv 0) pa_nil)))
      (pss_one (ps_ret (pe_f co hr (by decide) (E := E0) pass0 (by rfl) (pa_cons (pv 0) pa_nil)))), ?_⟩
    exact ⟨_, rfl, t, R, rfl, S, _, rfl, t, R, rfl, S, kq⟩
end
end RcX
end
section
set_option Elab.async false
set_option linter.all false
set_option maxRecDepth 100000
set_option maxHeartbeats 4000000
namespace RcX
open PySem PySem.Spec PyProof.Rows L2
/-! ### making tables -/
structure Tt (K : PySem.W.Frag) (mg : Str → Option Value) (a : Ads) : Prop where
  x : Tx K mg a
  d_checked_rows : Glb K mg "checked_rows" (topS 35)
  d_more_rows : Glb K mg "more_rows" (topS 36)
  d_is_order : Glb K mg "is_order" (topS 43)
  d_need_order : Glb K mg "need_order" (topS 44)
  mkT : ∃ f, Mk K a.T f ∧ FnAt K "__init__" "Table.__init__" (inC 37 0) f
  d_add : MtA K a.T "__add__" "Table.__add__" (inC 37 9)
  sfT : PySem.W.selfFirst K a.T = true
theorem star_of {P : Program} {w : World} {K : PySem.W.Frag} {mg : Str → Option Value} {base : Heap} {CX : CXT} {k : Nat} {x q pv : Str} {st : Stmt} {N ps : List Str} {sp : Sp} {f : Addr} (F : FnAt K x q st f) (S : FnScope N (ps ++ [pv]) (defScope st)) (hCX : StX.CXUp CX)
    (hb : ∀ (kV doc pm : Value) (an : Option Addr) (cdv ct : Value) (us rest : List Value), us.length = ps.length → bindArgs (PySem.W.fnOf x q (defArgs st) (defBody st) (defScope st) .none kV doc pm an cdv ct) ⟨us ++ rest, []⟩ = (newTuple rest >>= fun t => pure (ps.zip us ++ [(pv, t)])))
    (hbody : ∀ (cdv : Value) (A : Around) (outer : List Env) (s : Shared) (H : Hp) (vs : List V) (Q : VK) (E : XK), Room k (A.deeper (envOfC q (defScope st) s.heap.objs.size f cdv)) → sp vs H Q E →
      ∃ t, PSs (cxOf CX P w K mg base N q (defScope st) f cdv A outer s H E).nox (defBody st) t ∧ t { nx := fun _ H' => Q .non H', rt := Q } (start N vs) H) :
    FnR P w K mg base CX (k + 1) f (fun vs H Q E => ∃ ws rest, vs = ws ++ rest ∧ ws.length = ps.length ∧ rest.length ≤ sizeLine ∧ ∀ p, H p = Option.none → sp (ws ++ [V.ref p]) (upd H p (.tup rest)) Q E) := by
  obtain ⟨fd, F⟩ := F
  obtain ⟨oc, od, dV, kV, doc, pm, an, cdv, ct, osl, rfl, lk, hcd, hD, _⟩ := F.ex
  rcases hD with ⟨_, rfl⟩ | ⟨e, _⟩
  · exact StX.fn_star lk hcd S hCX (hb kV doc pm an cdv ct) fun A outer s H vs Q E hr h => by
      obtain ⟨t, h1, h2⟩ := hbody cdv A outer s H vs Q E hr h
      exact ⟨t, h1.nox, h2⟩
  · exact absurd rfl e
theorem tyX_tup {K : PySem.W.Frag} {H : Hp} {p : Addr} {xs : List V} (h : SqT K H p xs) : TyX K H (.ref p) (.type "tuple") := by
  rcases h with (h | ⟨o, h⟩) | ⟨o, its, n, h, hc, _⟩
  · exact .base (.tup h)
  · exact .fTuple h
  · exact .kTuple h hc
structure RowsIn (T : List (Int × Int)) : Prop where
  nd : (RC.keys T).Nodup
  len : T.length ≤ 30
  kb : ∀ p ∈ T, -Big < p.1 ∧ p.1 < Big
  nb : ∀ p ∈ T, -Big < p.2 ∧ p.2 < Big
def mkR (T : List (Int × Int)) : List (Int × Int) := T.mergeSort RC.leF
theorem mkR_perm (T : List (Int × Int)) : T.Perm (mkR T) := (List.mergeSort_perm T _).symm
theorem mkR_ok {T : List (Int × Int)} (h : RowsIn T) : RowsOk (mkR T) := by
  have hp := (mkR_perm T).symm
  refine ⟨?_, by rw [hp.length_eq]; exact h.len, fun p hm => h.kb p (hp.mem_iff.mp hm), fun p hm => h.nb p (hp.mem_iff.mp hm)⟩
  have hs : (mkR T).Pairwise (fun x y => RC.leF x y = true) := List.pairwise_mergeSort (fun x y z h1 h2 => by
      simp only [RC.leF, Bool.not_eq_true', decide_eq_false_iff_not] at h1 h2 ⊢
      omega) (fun x y => by
      simp only [RC.leF, Bool.or_eq_true, Bool.not_eq_true', decide_eq_false_iff_not]
      omega) T
  have hn : (RC.keys (mkR T)).Nodup := ((hp.map _).nodup_iff).mpr h.nd
  unfold RC.keys at hn
  rw [List.Nodup, List.pairwise_map] at hn
  rw [List.pairwise_map]
  refine (hs.and hn).imp fun {x y} hxy => ?_
  have h1 := hxy.1
  have h2 := hxy.2
  simp only [RC.leF, Bool.not_eq_true', decide_eq_false_iff_not] at h1
  omega
section
variable {P : Program} {w : World} {K : PySem.W.Frag} {mg : Str → Option Value} {base : Heap} {a : Ads}
def spIsRow (K : PySem.W.Frag) : Sp := fun vs H Q _ => ∃ (p : Addr) (k n : Int), vs = [.ref p] ∧ SqT K H p [.int k, .int n] ∧ (-Big < k ∧ k < Big) ∧ (-Big < n ∧ n < Big) ∧ Q (.bl true) H
theorem sc33 : FnScope ["thing"] ["thing"] (defScope (topS 33)) := ⟨rfl, rfl, rfl, by decide +kernel, rfl, by decide +kernel, by decide +kernel⟩
theorem ok_is_row (T : Tx K mg a) : Fnc P w K mg base CX0 3 "is_row" (spIsRow K) := by
  have c1 : Fnc P w K mg base CX0 2 "is_key" spIsKey := ok_is_key T
  refine fnc_of T.d_is_row sc33 (fun _ _ _ _ _ _ us hl => match us, hl with | [_], _ => rfl) (fun vs H Q E h => ?_) fun f cdv A outer s H vs Q E hr h => ?_
  · obtain ⟨p, k, n, rfl, _⟩ := h; rfl
  · obtain ⟨p, k, n, rfl, hp, hk, hn, kq⟩ := h
    refine ⟨_, pss_one (ps_ret (pe_and (pe_callB call_isi (by rfl) T.isi (by decide +kernel) (pa_cons (pv 0) (pa_cons (pe_bltn (v := .ty "tuple") (by rfl) T.tuple (by decide +kernel) rfl) pa_nil)))
      (pe_and (pe_cmpR op_eq (pe_callB call_len_seq (by rfl) T.len PySem.boot_len (pa_cons (pv 0) pa_nil)) pe_int (nomark _))
      (pe_and (pe_f c1 hr (by decide) (E := E0) pass0 (by rfl) (pa_cons (pe_ix ix_tup (pv 0) pe_int (fun _ _ => rfl)) pa_nil))
      (pe_one (pe_f c1 hr (by decide) (E := E0) pass0 (by rfl) (pa_cons (pe_ix ix_tup (pv 0) pe_int (fun _ _ => rfl)) pa_nil))))))), ?_⟩
    refine ⟨_, rfl, .ref p, .ty "tuple", .type "tuple", .type "tuple", true, rfl, .ty _, tyX_tup hp, kit_ty (by decide +kernel), true, rfl, iteT ?_⟩
    refine ⟨_, rfl, p, _, rfl, .inr hp, rfl, true, rfl, iteT ?_⟩
    refine ⟨_, rfl, p, _, 0, .int k, rfl, rfl, hp, atI_nat (xs := [V.int k, V.int n]) (j := 0) (v := V.int k) rfl, k, rfl, hk.1, hk.2, true, rfl, iteT ?_⟩
    exact ⟨_, rfl, p, _, 1, .int n, rfl, rfl, hp, atI_nat (xs := [V.int k, V.int n]) (j := 1) (v := V.int n) rfl, n, rfl, hn.1, hn.2, kq⟩
/-! ### checked_rows -/
theorem kvOf_put {T : List (Int × Int)} {k n : Int} (h : k ∉ RC.keys T) : putK (kvOf T) (Sum.inl k) (.int n) = kvOf (T ++ [(k, n)]) := by
  rw [putK_new]
  · unfold kvOf
    rw [List.map_append]; rfl
  · rw [find_kv, RC.look_none h]; rfl
def spChecked (K : PySem.W.Frag) : Sp := fun vs H Q _ => ∃ (p : Addr) (xs : List V) (T : List (Int × Int)), vs = [.ref p] ∧ H p = some (.lst xs) ∧ DpAll K H xs (T.map pairD) ∧ RowsIn T ∧ ∀ (d : Addr) (H' : Hp), Same H H' → H d = none → H' d = some (.dK (kvOf T)) → Q (.ref d) H'
theorem sc35 : FnScope ["rows", "row", "wants", "key", "new"] ["rows"] (defScope (topS 35)) := ⟨rfl, rfl, rfl, by decide +kernel, rfl, by decide +kernel, by decide +kernel⟩
theorem ok_checked_rows (T : Tt K mg a) : Fnc P w K mg base CX0 4 "checked_rows" (spChecked K) := by
  have cr : Fnc P w K mg base CX0 3 "is_row" (spIsRow K) := ok_is_row T.x
  obtain ⟨tb, eb⟩ := T.x.most
  refine fnc_of T.d_checked_rows sc35 (fun _ _ _ _ _ _ us hl => match us, hl with | [_], _ => rfl) (fun vs H Q E h => ?_) fun f cdv A outer s H vs Q E hr h => ?_
  · obtain ⟨p, xs, T', rfl, _⟩ := h; rfl
  · obtain ⟨p, xs, T', rfl, hp, hd, ri, kq⟩ := h
    have hu := hu_of hr
    refine ⟨_, pss_cons (ps_for PassesOwn.never rfl (pi_list (pv 0)) (pg_name (i := 1) sc35.nd rfl (.inl rfl))
        (pss_one (ps_if (pt_not (pt_val (pe_f cr hr (by decide) (E := E0) pass0 (by rfl) (pa_cons (pv 1) pa_nil)))) (pss_one ps_never) pss_nil)))
      (pss_cons (ps_set (i := 2) sc35.nd rfl (.inl rfl) pe_dnewK)
      (pss_cons (ps_for PassesOwn.never rfl (pi_list (pv 0)) (pg_tup rfl (pgs_cons (pg_name (i := 3) sc35.nd rfl (Or.inl rfl)) (pgs_cons (pg_name (i := 4) sc35.nd rfl (Or.inl rfl)) pgs_nil)))
        (pss_cons (ps_if (pt_cmp (pc_din hu (pv 3) (pv 2)) rfl) (pss_one ps_never) pss_nil)
        (pss_one (ps_dput hu (pv 2) (pv 3) (pv 4) rfl))))
      (pss_cons (ps_if (pt_cmpR op_gt (pe_callB call_len_seq (by rfl) T.x.len PySem.boot_len (pa_cons (pv 0) pa_nil)) (pe_glob (v := .int 40) (by rfl) eb ⟨_, rfl⟩) (nomark _)) (pss_one ps_never) pss_nil)
      (pss_one (ps_ret (pv 2)))))), ?_⟩
    have hl : xs.length = T'.length := by rw [dpAll_len hd, List.length_map]
    refine ⟨_, rfl, p, rfl, ⟨xs, SqL.of hp⟩, ?_⟩
    refine for_list (xs := xs) (fun i σ H2 => ∃ v1, σ = [some (.ref p), v1, none, none, none] ∧ H2 = H) ⟨none, rfl, rfl⟩ (fun i σ H2 _ ⟨_, _, e⟩ => by rw [e]; exact SqL.of hp) ?_ ?_
    · rintro i x σ H2 hi ⟨v1, rfl, rfl⟩
      obtain ⟨q, k, n, hR, rfl, hq⟩ := pair_at hd hi
      have hm := List.mem_of_getElem? hR
      exact ⟨_, rfl, q, k, n, rfl, hq, ri.kb _ hm, ri.nb _ hm, true, rfl, iteF ⟨_, rfl, rfl⟩⟩
    · rintro σ H2 ⟨v1, rfl, rfl⟩
      intro d nd
      have s1 : Same H2 (upd H2 d (.dK [])) := Same.new nd
      refine ⟨_, rfl, p, rfl, ⟨xs, SqL.of (s1 _ _ hp)⟩, ?_⟩
      refine for_list (xs := xs) (fun i σ H3 => ∃ v3 v4, σ = [some (.ref p), v1, some (.ref d), v3, v4] ∧ Same H2 H3 ∧ H3 d = some (.dK (kvOf (T'.take i)))) ⟨none, none, rfl, s1, upd_same⟩ (fun i σ H3 _ ⟨_, _, _, e, _⟩ => SqL.of (e _ _ hp)) ?_ ?_
      · rintro i x σ H3 hi ⟨v3, v4, rfl, s2, hd3⟩
        obtain ⟨q, k, n, hR, rfl, hq⟩ := pair_at (DpAll.same s2 _ _ hd) hi
        have hnk : k ∉ RC.keys (T'.take i) := by
          intro hin
          have hT : T' = T'.take i ++ (k, n) :: T'.drop (i + 1) := by
            rw [← List.take_append_drop i T']
            congr 1
            · rw [List.take_append_drop]
            · have hlt : i < T'.length := (List.getElem?_eq_some_iff.mp hR).1
              have := List.drop_eq_getElem_cons hlt
              rw [List.take_append_drop, this, (List.getElem?_eq_some_iff.mp hR).2]
          have hnd := ri.nd
          rw [hT] at hnd
          unfold RC.keys at hnd hin
          rw [List.map_append, List.map_cons, List.nodup_append] at hnd
          exact hnd.2.2 k hin k List.mem_cons_self rfl
        refine ⟨q, _, rfl, hq, rfl, _, _, rfl, _, _, rfl, rfl, ?_⟩
        have g := DGet.k (k := Sum.inl k) hd3
        rw [find_kv, RC.look_none hnk] at g
        refine ⟨_, rfl, _, rfl, d, _, rfl, g, _, rfl, iteF ?_⟩
        have hlen : (kvOf (T'.take i)).length < sizeLine := by
          unfold kvOf
          rw [List.length_map, List.length_take]
          have := ri.len
          exact small1000 (by omega)
        refine ⟨_, rfl, _, rfl, _, rfl, d, _, rfl, DPut.k (k := Sum.inl k) hd3 hlen, _, _, rfl, s2.up nd, ?_⟩
        rw [upd_same, kvOf_put hnk, take_snoc hR]
      · rintro σ H3 ⟨v3, v4, rfl, s2, hd3⟩
        rw [hl, List.take_length] at hd3
        refine ⟨_, rfl, p, xs, rfl, .inl (SqL.of (s2 _ _ hp)), _, _, rfl, rfl, _, rfl, ?_⟩
        have := ri.len
        rw [decide_eq_false (show ¬ ((40 : Int) < (xs.length : Nat)) by omega)]
        exact iteF ⟨_, rfl, kq d H3 s2 nd hd3⟩
/-! ### Table(*rows) -/
def spTabNew (K : PySem.W.Frag) (C : Addr) : Sp := fun vs H Q _ => ∃ (t dx : Addr) (xs : List V) (T : List (Int × Int)), vs = .ref t :: xs ∧ H t = some (.ins C dx []) ∧ DpAll K H xs (T.map pairD) ∧ RowsIn T ∧
  ∀ H', (∀ b u, H b = some u → b ≠ t → H' b = some u) → TabAt C H' t (mkR T) → Q .non H'
def spInitT (K : PySem.W.Frag) (C : Addr) : Sp := fun vs H Q _ => ∃ (t dx p : Addr) (xs : List V) (T : List (Int × Int)), vs = [.ref t, .ref p] ∧ H t = some (.ins C dx []) ∧ H p = some (.tup xs) ∧ DpAll K H xs (T.map pairD) ∧ RowsIn T ∧
  ∀ H', (∀ b u, H b = some u → b ≠ t → H' b = some u) → TabAt C H' t (mkR T) → Q .non H'
theorem sc37i : FnScope ["self", "rows"] ["self", "rows"] (defScope (inC 37 0)) := ⟨rfl, rfl, rfl, by decide +kernel, rfl, by decide +kernel, by decide +kernel⟩
theorem ok_init (T : Tt K mg a) : Cls1 P w K mg base CX0 5 "Table" a.T (spTabNew K a.T) := by
  obtain ⟨f, M, F⟩ := T.mkT
  have cc : Fnc P w K mg base CX0 4 "checked_rows" (spChecked K) := ok_checked_rows T
  refine ⟨f, M, FnR.imp (star_of (pv := "rows") (ps := ["self"]) (sp := spInitT K a.T) F sc37i StX.cxUp_none (fun kV doc pm an cdv ct => StX.bind_star1 (B := fun us => bindArgs (PySem.W.fnOf "__init__" "Table.__init__" (defArgs (inC 37 0)) (defBody (inC 37 0)) (defScope (inC 37 0)) .none kV doc pm an cdv ct) ⟨us, []⟩) (p1 := "self") (pv := "rows") (fun a => rfl) (fun a r rs => rfl)) fun cdv A outer s H vs Q E hr h => ?_) fun vs H Q E h => ?_, T.x.mgT⟩
  · obtain ⟨t, dx, p, xs, T', rfl, ht, hp, hd, ri, kq⟩ := h
    refine ⟨_, pss_one (ps_fld (pv 0) (pe_f cc hr (by decide) (E := E0) pass0 (by rfl) (pa_cons (pe_callTy call_list_of (by rfl) T.x.list PyProof.Rows.boot_list (pa_cons (pv 1) pa_nil)) pa_nil)) rfl), ?_⟩
    refine ⟨_, rfl, p, xs, rfl, .inr (.inl (.inl hp)), fun l nl => ?_⟩
    have s1 : Same H (upd H l (.lst xs)) := Same.new nl
    refine ⟨l, xs, T', rfl, upd_same, DpAll.same s1 _ _ hd, ri, fun d H2 s2 nd hd2 => ?_⟩
    have s12 := s1.trans s2
    have ht2 := s12 _ _ ht
    have htd : t ≠ d := fun z => by rw [← z, s1 _ _ ht] at nd; cases nd
    refine ⟨_, rfl, t, a.T, dx, _, rfl, ht2, T.x.insT.cl, T.x.noW, by decide, ?_⟩
    refine kq _ (fun b u hb hne => by rw [upd_ne hne]; exact s12 _ _ hb) ⟨⟨dx, d, T', by rw [upd_same]; rfl, by rw [upd_ne htd.symm]; exact hd2, mkR_perm T'⟩, mkR_ok ri⟩
  · obtain ⟨t, dx, xs, T', rfl, ht, hd, ri, kq⟩ := h
    have hl : xs.length = T'.length := by rw [dpAll_len hd, List.length_map]
    refine ⟨[.ref t], xs, rfl, rfl, by have := ri.len; exact Nat.le_of_lt (small1000 (by omega)), fun p np => ?_⟩
    have s1 : Same H (upd H p (.tup xs)) := Same.new np
    refine ⟨t, dx, p, xs, T', rfl, s1 _ _ ht, upd_same, DpAll.same s1 _ _ hd, ri, fun H' h1 h2 => kq H' (fun b u hb hne => h1 b u (s1 _ _ hb) hne) h2⟩
theorem tNew_tab {xs : List V} {T' : List (Int × Int)} {H1 : Hp} {C : Addr} {Q : VK} (hd : DpAll K H1 xs (T'.map pairD)) (ri : RowsIn T') (kq : ∀ t H2, Same H1 H2 → TabAt C H2 t (mkR T') → Q (.ref t) H2) : tNew C (spTabNew K C) E0 xs H1 Q := by
  intro x dx nx nd hne
  have s1 : Same H1 (upd (upd H1 dx (.own x)) x (.ins C dx [])) := (Same.new nd).up nx
  refine ⟨x, dx, xs, T', rfl, upd_same, DpAll.same s1 _ _ hd, ri, fun H' h1 h2 => ⟨rfl, kq x H' (fun b u hb => h1 b u (s1 _ _ hb) (ne_of_none hb nx)) h2⟩⟩
/-! ### more_rows, Table + tuple -/
def spMore (K : PySem.W.Frag) : Sp := fun vs H Q _ => ∃ (p : Addr) (xs : List V), vs = [.ref p] ∧ SqT K H p xs ∧ ∀ l, H l = none → Q (.ref l) (upd H l (.lst xs))
theorem sc36 : FnScope ["other"] ["other"] (defScope (topS 36)) := ⟨rfl, rfl, rfl, by decide +kernel, rfl, by decide +kernel, by decide +kernel⟩
theorem ok_more_rows (T : Tt K mg a) : Fnc P w K mg base CX0 1 "more_rows" (spMore K) := by
  refine fnc_of T.d_more_rows sc36 (fun _ _ _ _ _ _ us hl => match us, hl with | [_], _ => rfl) (fun vs H Q E h => ?_) fun f cdv A outer s H vs Q E hr h => ?_
  · obtain ⟨p, xs, rfl, _⟩ := h; rfl
  · obtain ⟨p, xs, rfl, hp, kq⟩ := h
    refine ⟨_, pss_cons (ps_if (pt_val (pe_callB call_isi (by rfl) T.x.isi (by decide +kernel) (pa_cons (pv 0) (pa_cons (pe_glob (v := .ref a.T) (by rfl) T.x.mgT rfl) pa_nil)))) (pss_one ps_never) pss_nil)
      (pss_cons (ps_if (pt_val (pe_callB call_isi (by rfl) T.x.isi (by decide +kernel) (pa_cons (pv 0) (pa_cons (pe_bltn (v := .ty "tuple") (by rfl) T.x.tuple (by decide +kernel) rfl) pa_nil))))
        (pss_one (ps_ret (pe_callTy call_list_of (by rfl) T.x.list PyProof.Rows.boot_list (pa_cons (pv 0) pa_nil)))) pss_nil)
      (pss_one ps_never)), ?_⟩
    refine ⟨_, rfl, .ref p, .ref a.T, .type "tuple", .ref a.T, false, rfl, .own _, tyX_tup hp, T.x.tupT, false, rfl, iteF ?_⟩
    refine ⟨_, rfl, .ref p, .ty "tuple", .type "tuple", .type "tuple", true, rfl, .ty _, tyX_tup hp, kit_ty (by decide +kernel), true, rfl, iteT ?_⟩
    exact ⟨_, rfl, p, xs, rfl, .inr hp, kq⟩
def spAdd (K : PySem.W.Frag) (C : Addr) : Sp := fun vs H Q _ => ∃ (t p : Addr) (xs : List V) (T : List (Int × Int)), vs = [.ref t, .ref p] ∧ TabAt C H t [] ∧ SqT K H p xs ∧ DpAll K H xs (T.map pairD) ∧ RowsIn T ∧ ∀ (q : Addr) (H' : Hp), Same H H' → TabAt C H' q (mkR T) → Q (.ref q) H'
theorem sc37a : FnScope ["self", "other", "rows"] ["self", "other"] (defScope (inC 37 9)) := ⟨rfl, rfl, rfl, by decide +kernel, rfl, by decide +kernel, by decide +kernel⟩
theorem ok_add (T : Tt K mg a) : Mth P w K mg base CX0 7 a.T "__add__" (spAdd K a.T) := by
  have cr : Prp P w K mg base 2 a.T "rows" (spRows K a.T) := prp_rows T.x
  have cm : Fnc P w K mg base CX0 1 "more_rows" (spMore K) := ok_more_rows T
  have ci : Cls1 P w K mg base CX0 5 "Table" a.T (spTabNew K a.T) := ok_init T
  refine mth_of T.d_add sc37a (fun _ _ _ _ _ _ us hl => match us, hl with | [_, _], _ => rfl) (fun vs H Q E h => ?_) fun f cdv A outer s H vs Q E hr h => ?_
  · obtain ⟨t, p, xs, T', rfl, _⟩ := h; rfl
  · obtain ⟨t, p, xs, T', rfl, S, hp, hd, ri, kq⟩ := h
    obtain ⟨dx, dd, T2, e1, _, _⟩ := S.ex
    refine ⟨_, pss_cons (ps_set (i := 2) sc37a.nd rfl (.inl rfl) (pe_op op_cat (pe_callTy call_list_of (by rfl) T.x.list PyProof.Rows.boot_list (pa_cons (pe_pr cr T.x.insT.cl hr (by decide) (pv 0)) pa_nil)) (pe_f cm hr (by decide) (E := E0) pass0 (by rfl) (pa_cons (pv 1) pa_nil))))
      (pss_one (ps_ret (pe_newS ci hr (by decide) (E := E0) pass0 (by rfl) (pv 2)))), ?_⟩
    refine ⟨_, rfl, t, dx, _, rfl, e1, t, [], rfl, S, fun q ys H1 s1 nq hq hy => ?_⟩
    have ey : ys = [] := by
      have h1 := dpAll_len hy
      exact List.length_eq_zero_iff.mp h1
    subst ey
    refine ⟨q, [], rfl, .inr (.inl (.inl hq)), fun l nl => ?_⟩
    have s2 : Same H1 (upd H1 l (.lst [])) := Same.new nl
    have s12 := s1.trans s2
    refine ⟨_, rfl, p, xs, rfl, seqT s12 hp, fun m nm => ?_⟩
    have s3 : Same (upd H1 l (.lst [])) (upd (upd H1 l (.lst [])) m (.lst xs)) := Same.new nm
    have hl : xs.length = T'.length := by rw [dpAll_len hd, List.length_map]
    refine ⟨l, m, [], xs, rfl, rfl, s3 _ _ upd_same, upd_same, by have := ri.len; have h5 : xs.length < sizeLine := small1000 (by omega); show 0 + xs.length ≤ sizeLine; omega, fun r nr => ?_⟩
    have s4 : Same (upd (upd H1 l (.lst [])) m (.lst xs)) (upd (upd (upd H1 l (.lst [])) m (.lst xs)) r (.lst ([] ++ xs))) := Same.new nr
    have s14 := (s12.trans s3).trans s4
    refine ⟨_, rfl, r, xs, rfl, SqL.of (by rw [upd_same]; rfl), tNew_tab (DpAll.same s14 _ _ hd) ri fun u H5 s5 tb => kq u H5 (s14.trans s5) tb⟩
/-! ### is_order, need_order -/
def spOrder (K : PySem.W.Frag) (C : Addr) : Sp := fun vs H Q _ => ∃ (t p : Addr) (R : List (Int × Int)) (o : List Int), vs = [.ref t, .ref p] ∧ TabAt C H t R ∧ SqT K H p (iv o) ∧ o.Perm (RC.keys R) ∧ ∀ H', Same H H' → Q (.bl true) H'
theorem sort_ints {o l : List Int} (hp : o.Perm l) (hs : l.Pairwise (· < ·)) : o.mergeSort (PySem.W.dataLe false fun b : Int => PyData.int b) = l := by
  have hle : (PySem.W.dataLe false fun b : Int => PyData.int b) = fun p q => decide (p ≤ q) := PySem.W.dataLe_int (fun b : Int => b)
  rw [hle]
  refine List.Perm.eq_of_pairwise (le := fun p q : Int => decide (p ≤ q) = true) (fun x y _ _ h1 h2 => ?_) (List.pairwise_mergeSort (fun x y z h1 h2 => ?_) (fun x y => ?_) o) (hs.imp fun h => decide_eq_true (Int.le_of_lt h)) ((List.mergeSort_perm o _).trans hp)
  · exact Int.le_antisymm (of_decide_eq_true h1) (of_decide_eq_true h2)
  · exact decide_eq_true (Int.le_trans (of_decide_eq_true h1) (of_decide_eq_true h2))
  · rw [Bool.or_eq_true, decide_eq_true_eq, decide_eq_true_eq]
    exact Int.le_total x y
end
end RcX
end
section
set_option Elab.async false
set_option linter.all false
set_option maxRecDepth 100000
set_option maxHeartbeats 4000000
namespace RcX
open PySem PySem.Spec PyProof.Rows L2
section
variable {P : Program} {w : World} {K : PySem.W.Frag} {mg : Str → Option Value} {base : Heap} {a : Ads}
theorem bl_true_all (n : Nat) : (List.replicate n true).all id = true := by
  rw [List.all_eq_true]
  intro x hx
  exact (List.mem_replicate.mp hx).2
theorem eqv_ints : ∀ l : List Int, PyData.eqv (.list (l.map .int)) (.list (l.map .int)) = true := fun l => by
  show PyData.eqvAll (l.map .int) (l.map .int) = true
  induction l with
  | nil => rfl
  | cons i l ih =>
    show ((i == i) && PyData.eqvAll (l.map .int) (l.map .int)) = true
    rw [beq_self_eq_true, ih]; rfl
theorem sc43 : FnScope ["table", "thing", "key"] ["table", "thing"] (defScope (topS 43)) := ⟨rfl, rfl, rfl, by decide +kernel, rfl, by decide +kernel, by decide +kernel⟩
theorem ok_is_order (T : Tt K mg a) : Fnc P w K mg base CX0 5 "is_order" (spOrder K a.T) := by
  have ck : Fnc P w K mg base CX0 4 "keys_of" (spKeys a.T) := ok_keys_of T.x
  have cc : Mth P w K mg base CX0 3 a.T "__contains__" (spContains a.T) := ok_contains T.x
  refine fnc_of T.d_is_order sc43 (fun _ _ _ _ _ _ us hl => match us, hl with | [_, _], _ => rfl) (fun vs H Q E h => ?_) fun f cdv A outer s H vs Q E hr h => ?_
  · obtain ⟨t, p, R, o, rfl, _⟩ := h; rfl
  · obtain ⟨t, p, R, o, rfl, S, hp, hperm, kq⟩ := h
    have ok := S.ok
    have hu := hr.units
    have hol : o.length ≤ 30 := by
      have h1 := hperm.length_eq
      rw [keys_len] at h1
      have := ok.len
      omega
    refine ⟨_, pss_cons (ps_if (PW.pt (pw_or (pt_not (pt_val (pe_callB call_isi (by rfl) T.x.isi (by decide +kernel) (pa_cons (pv 1) (pa_cons (pe_bltn (v := .ty "tuple") (by rfl) T.x.tuple (by decide +kernel) rfl) pa_nil)))))
        (pw_or1 (pt_not (pt_val (pe_callB (cr_all (by rfl)) (by rfl) T.x.all (by decide +kernel) (pa_cons
          (pe_lc (own := [("key", 2)]) (g := gName 2) (tt := tYes) rfl sc43.nd (pi_tup (pv 1)) (blkOk_by (N := ["table", "thing", "key"]) (sc := defScope (topS 43)) (by decide +kernel))
            (fun _ _ _ _ _ => pg_name (i := 2) sc43.nd rfl (Or.inl rfl)) (fun _ _ _ _ _ => pts_nil) (fun _ _ _ _ _ => pe_cmpR (op_inO cc hr (by decide) (E := E0) pass0) (pv 2) (pv 0) (by with_unfolding_all rfl))) pa_nil)))))))
        (pss_one (ps_ret pe_bl)) pss_nil)
      (pss_one (ps_ret (pe_cmpR (op_eqD hu) (pe_callB (cr_sortD hr) (by rfl) T.x.sorted (by decide +kernel) (pa_cons (pv 1) pa_nil)) (pe_f ck hr (by decide) (E := E0) pass0 (by rfl) (pa_cons (pv 0) pa_nil)) (nomark _)))), ?_⟩
    refine ⟨_, rfl, .ref p, .ty "tuple", .type "tuple", .type "tuple", true, rfl, .ty _, tyX_tup hp, kit_ty (by decide +kernel), true, rfl, iteF ?_⟩
    refine ⟨_, rfl, p, rfl, ⟨_, hp⟩, fun D hD => ?_⟩
    refine lc_it (walk_tup (xs := iv o)) (fun i H2 => Same H H2 ∧ H2 D = some (.lst ((List.replicate i true).map V.bl))) ⟨Same.new hD, upd_same⟩ (fun i H2 _ h => seqT h.1 hp) ?_ ?_
    · rintro i x H2 H2' hi ⟨s2, hD2⟩ ⟨rfl, hxi⟩
      obtain ⟨k, hki, rfl⟩ := iv_get hxi
      have hk : k ∈ RC.keys R := hperm.mem_iff.mp (List.mem_of_getElem? hki)
      have hb := key_bound ok hk
      obtain ⟨dx, dd, T', e1, _, _⟩ := (S.same s2).ex
      rw [iv_len] at hi
      refine ⟨rfl, yes_if ⟨_, rfl, _, rfl, t, dx, _, rfl, e1, t, R, k, rfl, S.same s2, hb.1, hb.2, _, rfl, _, hD2, ?_, s2.up hD, ?_⟩⟩
      · rw [List.length_map, List.length_replicate]
        exact small1000 (by omega)
      · rw [upd_same, decide_eq_true hk, List.replicate_succ', List.map_append]
        rfl
    · rintro H2 ⟨s2, hD2⟩
      refine ⟨D, _, rfl, SqL.of hD2, true, ?_, ?_⟩
      · rw [bl_true_all]
      · refine iteF ⟨_, rfl, Int, (fun b : Int => PyData.int b), p, iv o, o, rfl, .inr (seqT s2 hp), dp_ints o, PySem.W.AllAlike.of (fun b b' => by simp [PySem.W.alike]), .inr (fun d hd => ?_), by omega, fun b _ => by simp [PyData.depth], fun ys q hys nq => ?_⟩
        · obtain ⟨b, _, rfl⟩ := List.mem_map.mp hd
          exact ⟨by simp, by simp⟩
        · rw [sort_ints hperm ok.srt] at hys
          have e := dp_ints_inv hys
          subst e
          have s3 : Same H2 (upd H2 q (.lst (iv (RC.keys R)))) := Same.new nq
          refine ⟨_, rfl, t, R, rfl, S.same (s2.trans s3), fun r H4 s4 nr hr4 => ?_⟩
          refine ⟨.list ((RC.keys R).map .int), .list ((RC.keys R).map .int), .lst (SqL.of (s4 _ _ upd_same)) (dp_ints _), .lst (SqL.of hr4) (dp_ints _), shaped_list (canLay_ints _) (by rw [PySem.W.depth_ints]; decide), shaped_list (canLay_ints _) (by rw [PySem.W.depth_ints]; decide), ?_⟩
          rw [eqv_ints]
          exact kq _ ((s2.trans s3).trans s4)
theorem sc44 : FnScope ["table", "order"] ["table", "order"] (defScope (topS 44)) := ⟨rfl, rfl, rfl, by decide +kernel, rfl, by decide +kernel, by decide +kernel⟩
def spNeedOrder (K : PySem.W.Frag) (C : Addr) : Sp := fun vs H Q _ => ∃ (t p : Addr) (R : List (Int × Int)) (o : List Int), vs = [.ref t, .ref p] ∧ TabAt C H t R ∧ SqT K H p (iv o) ∧ o.Perm (RC.keys R) ∧ ∀ H', Same H H' → Q .non H'
theorem ok_need_order (T : Tt K mg a) : Fnc P w K mg base CX0 6 "need_order" (spNeedOrder K a.T) := by
  have cn : Fnc P w K mg base CX0 1 "need_table" (spNeed a.T) := ok_need_table T.x
  have ci : Fnc P w K mg base CX0 5 "is_order" (spOrder K a.T) := ok_is_order T
  refine fnc_of T.d_need_order sc44 (fun _ _ _ _ _ _ us hl => match us, hl with | [_, _], _ => rfl) (fun vs H Q E h => ?_) fun f cdv A outer s H vs Q E hr h => ?_
  · obtain ⟨t, p, R, o, rfl, _⟩ := h; rfl
  · obtain ⟨t, p, R, o, rfl, S, hp, hperm, kq⟩ := h
    refine ⟨_, pss_cons (ps_expr (pe_f cn hr (by decide) (E := E0) pass0 (by rfl) (pa_cons (pv 0) pa_nil)))
      (pss_one (ps_if (pt_not (pt_val (pe_f ci hr (by decide) (E := E0) pass0 (by rfl) (pa_cons (pv 0) (pa_cons (pv 1) pa_nil))))) (pss_one ps_never) pss_nil)), ?_⟩
    refine ⟨_, rfl, t, R, rfl, S, _, rfl, _, rfl, t, p, R, o, rfl, S, hp, hperm, fun H1 s1 => ⟨true, rfl, iteF (kq H1 s1)⟩⟩
end
/-! ### places -/
abbrev Pl := List (Int × Option Int)
def kvP (P : Pl) : List (Key × V) := P.map fun p => (Sum.inl p.1, optV p.2)
theorem valP (k : Int) : ∀ P : Pl, valV (kvP P) (Sum.inl k : Key) = (RC.getP P k).map optV
  | [] => rfl
  | p :: P => by
    have ih := valP k P
    unfold valV RC.getP at ih ⊢
    unfold kvP at ih ⊢
    rw [List.map_cons, List.find?_cons, List.find?_cons]
    by_cases h : p.1 = k
    · have h' : (Sum.inl p.1 : Key) = Sum.inl k := by rw [h]
      rw [decide_eq_true h, decide_eq_true h']; rfl
    · have h' : ¬ (Sum.inl p.1 : Key) = Sum.inl k := fun z => h (Sum.inl.inj z)
      rw [decide_eq_false h, decide_eq_false h']
      exact ih
theorem putP {P : Pl} {k : Int} (v : Option Int) (h : k ∈ P.map (·.1)) : putK (kvP P) (Sum.inl k) (optV v) = kvP (RC.setP P k v) := by
  unfold putK
  have hany : ((kvP P).any fun kv => decide (kv.1 = (Sum.inl k : Key))) = true := by
    rw [List.any_eq_true]
    obtain ⟨p, hp, e⟩ := List.mem_map.mp h
    exact ⟨(Sum.inl p.1, optV p.2), List.mem_map.mpr ⟨p, hp, rfl⟩, decide_eq_true (by show (Sum.inl p.1 : Key) = Sum.inl k; rw [e])⟩
  rw [if_pos hany]
  unfold kvP RC.setP
  rw [List.map_map, List.map_map]
  congr 1
  funext p
  show (if (Sum.inl p.1 : Key) = Sum.inl k then ((Sum.inl p.1 : Key), optV v) else (Sum.inl p.1, optV p.2)) = _
  show _ = ((Sum.inl (if p.1 = k then (p.1, v) else p).1 : Key), optV (if p.1 = k then (p.1, v) else p).2)
  by_cases e : p.1 = k
  · rw [if_pos e, if_pos (by rw [e])]
  · rw [if_neg e, if_neg fun z => e (Sum.inl.inj z)]
theorem setP_keys (P : Pl) (k : Int) (v : Option Int) : (RC.setP P k v).map (·.1) = P.map (·.1) := by
  unfold RC.setP
  rw [List.map_map]
  congr 1
  funext p
  show (if p.1 = k then (p.1, v) else p).1 = p.1
  by_cases e : p.1 = k
  · rw [if_pos e]
  · rw [if_neg e]
theorem undo_keys (P : Pl) : (RC.undo P).map (·.1) = P.map (·.1) := by
  unfold RC.undo
  rw [List.map_map]
  rfl
theorem getP_some {P : Pl} {k : Int} (h : k ∈ P.map (·.1)) : ∃ v, RC.getP P k = some v := by
  obtain ⟨p, hp, e⟩ := List.mem_map.mp h
  unfold RC.getP
  cases hf : P.find? (fun p => decide (p.1 = k)) with
  | some q => exact ⟨q.2, rfl⟩
  | none => exact absurd (decide_eq_true e) (List.find?_eq_none.mp hf p hp)
theorem getP_nd {P : Pl} (hn : (P.map (·.1)).Nodup) {k : Int} {v : Option Int} (h : (k, v) ∈ P) : RC.getP P k = some v := by
  unfold RC.getP
  cases hf : P.find? (fun p => decide (p.1 = k)) with
  | none => exact absurd (decide_eq_true rfl) (List.find?_eq_none.mp hf (k, v) h)
  | some q =>
    have h1 := List.mem_of_find?_eq_some hf
    have h2 : q.1 = k := of_decide_eq_true (List.find?_some (p := fun p : Int × Option Int => decide (p.1 = k)) hf)
    have := nd_inj hn q h1 (k, v) h h2
    rw [this]; rfl
theorem kvP_len (P : Pl) : (kvP P).length = P.length := List.length_map _
theorem upd_back {H : Hp} {d : Addr} {o u : HO} (h : H d = some u) : upd (upd H d o) d u = H := by
  funext b
  by_cases e : b = d
  · rw [e, upd_same, h]
  · rw [upd_ne e, upd_ne e]
/-! ### rules' facts -/
open RC (Rl)
def rName : Rl → Str
  | .abort => "Abort"
  | .fail => "Fail"
  | .ignore => "Ignore"
  | .replace => "Replace"
def rWord : Rl → Str
  | .abort => "abort"
  | .fail => "fail"
  | .ignore => "ignore"
  | .replace => "replace"
def hQual : Rl → Str
  | .abort => "Stops.halts"
  | .fail => "Stops.halts"
  | .ignore => "Continues.halts"
  | .replace => "Continues.halts"
def hStm : Rl → Stmt
  | .abort => inC 76 0
  | .fail => inC 76 0
  | .ignore => inC 77 0
  | .replace => inC 77 0
def sQual : Rl → Str
  | .abort => "Undoes.settle"
  | .fail => "Leaves.settle"
  | .ignore => "Leaves.settle"
  | .replace => "Removes.settle"
def sStm : Rl → Stmt
  | .abort => inC 78 0
  | .fail => inC 79 0
  | .ignore => inC 79 0
  | .replace => inC 80 0
def haltsB : Rl → Bool
  | .abort => true
  | .fail => true
  | .ignore => false
  | .replace => false
def settleP (rl : Rl) (P : Pl) (k h n : Int) : Pl := match rl with
  | .abort => RC.undo P
  | .fail => P
  | .ignore => P
  | .replace => RC.setP (RC.setP P h none) k (some n)
structure RlT (K : PySem.W.Frag) (mg : Str → Option Value) (rl : Rl) (C : Addr) : Prop where
  halts : MtA K C "halts" (hQual rl) (hStm rl)
  settle : MtA K C "settle" (sQual rl) (sStm rl)
  call : ∃ g, StX.CallO K C g ∧ FnAt K "__call__" "Rule.__call__" (inC 75 4) g
  bare : Bare K C
  cl : Cls K C
  nm : mg (rName rl) = some (.ref C)
  word : ∃ u, Con K C "WORD" (.str (rWord rl)) u
structure Tr (K : PySem.W.Frag) (mg : Str → Option Value) (a : Ads) (rc : Rl → Addr) : Prop where
  t : Tt K mg a
  rl : ∀ r, RlT K mg r (rc r)
  str : mg "str" = none
  d_holder_of : Glb K mg "holder_of" (topS 74)
  mgO : mg "Outcome" = some (.ref a.O)
  mkO : ∃ f, Mk K a.O f ∧ FnAt K "__init__" "Outcome.__init__" (inC 72 0) f
  clO : Cls K a.O
  noO : NoAttr K a.O "triple"
  pStop : ∃ p g, PropOf K a.O "stop" p g ∧ FnAt K "stop" "Outcome.stop" (inC 72 2) g
  pEnds : ∃ p g, PropOf K a.O "ends" p g ∧ FnAt K "ends" "Outcome.ends" (inC 72 3) g
  pMoved : ∃ p g, PropOf K a.O "moved" p g ∧ FnAt K "moved" "Outcome.moved" (inC 72 4) g
  pLeft : ∃ p g, PropOf K a.O "left" p g ∧ FnAt K "left" "Outcome.left" (inC 72 5) g
  pHeld : ∃ p g, PropOf K a.O "held" p g ∧ FnAt K "held" "Outcome.held" (inC 72 6) g
  mgR : mg "Rule" = some (.ref a.R)
  named : ∃ g, Stat K a.R "named" g ∧ FnAt K "named" "Rule.named" (inC 75 1) g
section
variable {P : Program} {w : World} {K : PySem.W.Frag} {mg : Str → Option Value} {base : Heap} {a : Ads} {rc : Rl → Addr}
/-! ### halts -/
def spHalts (rl : Rl) : Sp := fun vs H Q _ => ∃ s : Addr, vs = [.ref s] ∧ Q (.bl (haltsB rl)) H
theorem sc76 : FnScope ["self"] ["self"] (defScope (inC 76 0)) := ⟨rfl, rfl, rfl, by decide +kernel, rfl, by decide +kernel, by decide +kernel⟩
theorem sc77 : FnScope ["self"] ["self"] (defScope (inC 77 0)) := ⟨rfl, rfl, rfl, by decide +kernel, rfl, by decide +kernel, by decide +kernel⟩
theorem ok_halts1 {C : Addr} (G : MtA K C "halts" "Stops.halts" (inC 76 0)) {rl : Rl} (hh : haltsB rl = true) : Mth P w K mg base CX0 1 C "halts" (spHalts rl) := by
  refine mth_of G sc76 (fun _ _ _ _ _ _ us hl => match us, hl with | [_], _ => rfl) (fun vs H Q E h => ?_) fun f cdv A outer s H vs Q E hr h => ?_
  · obtain ⟨t, rfl, _⟩ := h; rfl
  · obtain ⟨t, rfl, kq⟩ := h
    rw [hh] at kq
    exact ⟨_, pss_one (ps_ret pe_bl), kq⟩
theorem ok_halts2 {C : Addr} (G : MtA K C "halts" "Continues.halts" (inC 77 0)) {rl : Rl} (hh : haltsB rl = false) : Mth P w K mg base CX0 1 C "halts" (spHalts rl) := by
  refine mth_of G sc77 (fun _ _ _ _ _ _ us hl => match us, hl with | [_], _ => rfl) (fun vs H Q E h => ?_) fun f cdv A outer s H vs Q E hr h => ?_
  · obtain ⟨t, rfl, _⟩ := h; rfl
  · obtain ⟨t, rfl, kq⟩ := h
    rw [hh] at kq
    exact ⟨_, pss_one (ps_ret pe_bl), kq⟩
theorem ok_halts (rl : Rl) {C : Addr} (G : RlT K mg rl C) : Mth P w K mg base CX0 1 C "halts" (spHalts rl) := by
  have g := G.halts
  cases rl with
  | abort => exact ok_halts1 g rfl
  | fail => exact ok_halts1 g rfl
  | ignore => exact ok_halts2 g rfl
  | replace => exact ok_halts2 g rfl
/-! ### settle -/
def spSettle (rl : Rl) : Sp := fun vs H Q _ => ∃ (s d : Addr) (P : Pl) (k h n : Int), vs = [.ref s, .ref d, .int k, .int h, .int n] ∧ H d = some (.dK (kvP P)) ∧ (P.map (·.1)).Nodup ∧ P.length ≤ 30 ∧ k ∈ P.map (·.1) ∧ h ∈ P.map (·.1) ∧
  ∀ H', (∀ b u, H b = some u → b ≠ d → H' b = some u) → H' d = some (.dK (kvP (settleP rl P k h n))) → Q .non H'
theorem sc78 : FnScope ["self", "places", "row", "holder", "new", "key"] ["self", "places", "row", "holder", "new"] (defScope (inC 78 0)) := ⟨rfl, rfl, rfl, by decide +kernel, rfl, by decide +kernel, by decide +kernel⟩
theorem sc79 : FnScope ["self", "places", "row", "holder", "new"] ["self", "places", "row", "holder", "new"] (defScope (inC 79 0)) := ⟨rfl, rfl, rfl, by decide +kernel, rfl, by decide +kernel, by decide +kernel⟩
theorem sc80 : FnScope ["self", "places", "row", "holder", "new"] ["self", "places", "row", "holder", "new"] (defScope (inC 80 0)) := ⟨rfl, rfl, rfl, by decide +kernel, rfl, by decide +kernel, by decide +kernel⟩
theorem len_settle {vs : List V} {H : Hp} {Q : VK} {E : XK} {rl : Rl} (h : spSettle rl vs H Q E) : vs.length = 5 := by
  obtain ⟨s, d, P, k, hh, n, rfl, _⟩ := h; rfl
theorem ok_leaves {C : Addr} (G : MtA K C "settle" "Leaves.settle" (inC 79 0)) {rl : Rl} (hs : ∀ P k h n, settleP rl P k h n = P) : Mth P w K mg base CX0 1 C "settle" (spSettle rl) := by
  refine mth_of G sc79 (fun _ _ _ _ _ _ us hl => match us, hl with | [_, _, _, _, _], _ => rfl) (fun vs H Q E h => len_settle h) fun f cdv A outer s H vs Q E hr h => ?_
  obtain ⟨s', d, P', k, hh, n, rfl, hd, _, _, _, _, kq⟩ := h
  refine ⟨_, pss_one (ps_ret pe_non), kq H (fun _ _ h _ => h) ?_⟩
  rw [hs]; exact hd
theorem ok_removes {C : Addr} (G : MtA K C "settle" "Removes.settle" (inC 80 0)) : Mth P w K mg base CX0 1 C "settle" (spSettle .replace) := by
  refine mth_of G sc80 (fun _ _ _ _ _ _ us hl => match us, hl with | [_, _, _, _, _], _ => rfl) (fun vs H Q E h => len_settle h) fun f cdv A outer s H vs Q E hr h => ?_
  obtain ⟨s', d, P', k, hh, n, rfl, hd, hnd, hl, hk, hhh, kq⟩ := h
  have hu := hu_of hr
  refine ⟨_, pss_cons (ps_dput hu (pv 1) (pv 3) pe_non rfl) (pss_one (ps_dput hu (pv 1) (pv 2) (pv 4) rfl)), ?_⟩
  have l1 : (kvP P').length < sizeLine := by rw [kvP_len]; exact small1000 (by omega)
  refine ⟨_, rfl, _, rfl, d, _, rfl, DPut.k (k := Sum.inl hh) (v := optV none) hd l1, _, rfl, _, rfl, _, rfl, d, _, rfl, DPut.k (k := Sum.inl k) (v := optV (some n)) upd_same ?_, ?_⟩
  · rw [putP none hhh, kvP_len]
    unfold RC.setP
    rw [List.length_map]
    exact small1000 (by omega)
  · refine kq _ (fun b u hb hne => by rw [upd_ne hne, upd_ne hne]; exact hb) ?_
    rw [upd_same, putP none hhh, putP (some n) (by rw [setP_keys]; exact hk)]
    rfl
theorem undo_step {P' : Pl} (hnd : (P'.map (·.1)).Nodup) {i : Nat} {k : Int} {v : Option Int} (h : P'[i]? = some (k, v)) :
    RC.setP ((P'.take i).map (fun p => (p.1, some p.1)) ++ P'.drop i) k (some k) = (P'.take (i + 1)).map (fun p => (p.1, some p.1)) ++ P'.drop (i + 1) := by
  have hlt : i < P'.length := (List.getElem?_eq_some_iff.mp h).1
  have hdr : P'.drop i = (k, v) :: P'.drop (i + 1) := by
    rw [List.drop_eq_getElem_cons hlt, (List.getElem?_eq_some_iff.mp h).2]
  have hT : P' = P'.take i ++ (k, v) :: P'.drop (i + 1) := by rw [← hdr, List.take_append_drop]
  rw [hT, List.map_append, List.map_cons, List.nodup_append, List.nodup_cons] at hnd
  obtain ⟨_, ⟨h2, _⟩, h3⟩ := hnd
  have other : ∀ L : Pl, k ∉ L.map (·.1) → RC.setP L k (some k) = L := fun L hL => by
    unfold RC.setP
    conv => rhs; rw [← List.map_id L]
    refine List.map_congr_left fun p hp => ?_
    have hne : ¬ p.1 = k := fun e => hL (List.mem_map.mpr ⟨p, hp, e⟩)
    rw [if_neg hne]
    rfl
  have app : ∀ L M : Pl, RC.setP (L ++ M) k (some k) = RC.setP L k (some k) ++ RC.setP M k (some k) := fun L M => List.map_append
  rw [app, take_snoc h, List.map_append, hdr, List.append_assoc]
  rw [other]
  · congr 1
    show (if k = k then (k, some k) else (k, v)) :: RC.setP (P'.drop (i + 1)) k (some k) = _
    rw [if_pos rfl, other _ h2]
    rfl
  · rw [List.map_map]
    intro hin
    exact h3 k hin k List.mem_cons_self rfl
theorem ok_undoes {C : Addr} (T : Tr K mg a rc) (G : MtA K C "settle" "Undoes.settle" (inC 78 0)) : Mth P w K mg base CX0 1 C "settle" (spSettle .abort) := by
  refine mth_of G sc78 (fun _ _ _ _ _ _ us hl => match us, hl with | [_, _, _, _, _], _ => rfl) (fun vs H Q E h => len_settle h) fun f cdv A outer s H vs Q E hr h => ?_
  obtain ⟨s', d, P', k, hh, n, rfl, hd, hnd, hl, hk, hhh, kq⟩ := h
  have hu := hu_of hr
  refine ⟨_, pss_one (ps_for PassesOwn.never rfl (pi_list (pe_callTy (call_list_dK rfl) (by rfl) T.t.x.list PyProof.Rows.boot_list (pa_cons (pv 1) pa_nil))) (pg_name (i := 5) sc78.nd rfl (.inl rfl))
    (pss_one (ps_dput hu (pv 1) (pv 5) (pv 5) rfl))), ?_⟩
  refine ⟨_, rfl, d, _, rfl, hd, fun q nq => ⟨q, rfl, ⟨_, SqL.of upd_same⟩, ?_⟩⟩
  have hqd : d ≠ q := ne_of_none hd nq
  have exs : (kvP P').map (fun kv => kV kv.1) = iv (P'.map (·.1)) := by
    unfold kvP iv
    rw [List.map_map, List.map_map]
    rfl
  rw [exs]
  refine for_list (xs := iv (P'.map (·.1))) (fun i σ H2 => ∃ v, σ = [some (.ref s'), some (.ref d), some (.int k), some (.int hh), some (.int n), v] ∧ (∀ b u, H b = some u → b ≠ d → H2 b = some u) ∧ H2 q = some (.lst (iv (P'.map (·.1)))) ∧
    H2 d = some (.dK (kvP ((P'.take i).map (fun p => (p.1, some p.1)) ++ P'.drop i)))) ⟨none, rfl, fun b u hb _ => (Same.new nq) b u hb, upd_same, by rw [upd_ne hqd]; exact hd⟩ (fun i σ H2 _ ⟨_, _, _, h, _⟩ => SqL.of h) ?_ ?_
  · rintro i x σ H2 hi ⟨v, rfl, hs2, hq2, hd2⟩
    obtain ⟨k0, hki, rfl⟩ := iv_get hi
    rw [List.getElem?_map] at hki
    cases hp : P'[i]? with
    | none => rw [hp] at hki; cases hki
    | some p =>
      rw [hp] at hki
      obtain ⟨k1, v1⟩ := p
      obtain rfl : k1 = k0 := Option.some.inj hki
      have hkeys : ((P'.take i).map (fun p => (p.1, some p.1)) ++ P'.drop i : Pl).map (·.1) = P'.map (·.1) := by
        rw [List.map_append, List.map_map]
        show (P'.take i).map (·.1) ++ _ = _
        rw [← List.map_append, List.take_append_drop]
      have hin : k1 ∈ ((P'.take i).map (fun p => (p.1, some p.1)) ++ P'.drop i : Pl).map (·.1) := by
        rw [hkeys]
        exact List.mem_map.mpr ⟨_, List.mem_of_getElem? hp, rfl⟩
      have hlen : (kvP ((P'.take i).map (fun p => (p.1, some p.1)) ++ P'.drop i)).length < sizeLine := by
        rw [kvP_len, ← List.length_map (f := fun p : Int × Option Int => p.1), hkeys, List.length_map]
        exact small1000 (by omega)
      refine ⟨_, rfl, _, rfl, _, rfl, d, _, rfl, DPut.k (k := Sum.inl k1) (v := optV (some k1)) hd2 hlen, _, rfl, fun b u hb hne => by rw [upd_ne hne]; exact hs2 b u hb hne, by rw [upd_ne hqd.symm]; exact hq2, ?_⟩
      rw [upd_same, putP (some k1) hin, undo_step hnd hp]
  · rintro σ H2 ⟨v, rfl, hs2, hq2, hd2⟩
    rw [iv_len, List.length_map, List.take_length, List.drop_length, List.append_nil] at hd2
    exact kq H2 hs2 hd2
theorem ok_settle (T : Tr K mg a rc) (rl : Rl) {C : Addr} (G : RlT K mg rl C) : Mth P w K mg base CX0 1 C "settle" (spSettle rl) := by
  have g := G.settle
  cases rl with
  | abort => exact ok_undoes T g
  | fail => exact ok_leaves g fun _ _ _ _ => rfl
  | ignore => exact ok_leaves g fun _ _ _ _ => rfl
  | replace => exact ok_removes g
/-! ### holder_of -/
def spHolder : Sp := fun vs H Q _ => ∃ (d : Addr) (P : Pl) (n : Int), vs = [.ref d, .int n] ∧ H d = some (.dK (kvP P)) ∧ (P.map (·.1)).Nodup ∧ Q (optV (RC.holder P n)) H
theorem sc74 : FnScope ["places", "key", "row"] ["places", "key"] (defScope (topS 74)) := ⟨rfl, rfl, rfl, by decide +kernel, rfl, by decide +kernel, by decide +kernel⟩
theorem optV_int {v : Option Int} {n : Int} : decide (optV v = V.int n) = decide (v = some n) := by
  cases v with
  | none =>
    rw [decide_eq_false (show ¬ optV none = V.int n from fun z => by cases z), decide_eq_false (by simp)]
  | some m =>
    by_cases h : m = n
    · rw [decide_eq_true (show optV (some m) = V.int n by rw [h]; rfl), decide_eq_true (by rw [h])]
    · rw [decide_eq_false (show ¬ optV (some m) = V.int n from fun z => h (by injection z)), decide_eq_false (by simpa using h)]
theorem ok_holder_of (T : Tr K mg a rc) : Fnc P w K mg base CX0 1 "holder_of" spHolder := by
  refine fnc_of T.d_holder_of sc74 (fun _ _ _ _ _ _ us hl => match us, hl with | [_, _], _ => rfl) (fun vs H Q E h => ?_) fun f cdv A outer s H vs Q E hr h => ?_
  · obtain ⟨d, P', n, rfl, _⟩ := h; rfl
  · obtain ⟨d, P', n, rfl, hd, hnd, kq⟩ := h
    have hu := hu_of hr
    refine ⟨_, pss_cons (ps_lock (ps_for PassesOwn.never rfl (pi_keys (pv 0)) (pg_name (i := 2) sc74.nd rfl (.inl rfl))
        (pss_one (ps_if (pt_cmpR op_eq (pe_dget hu (pv 0) (pv 2) (fun _ _ => rfl)) (pv 1) (nomark _)) (pss_one (ps_ret (pv 2))) pss_nil))))
      (pss_one (ps_ret pe_non)), ?_⟩
    refine ⟨d, _, hd, True.intro, fun od => ⟨_, rfl, d, od, rfl, .inl ⟨kvP P', upd_same, ?_⟩⟩⟩
    refine for_it walk_keys (fun i σ H2 => ∃ v, σ = [some (.ref d), some (.int n), v] ∧ H2 = upd H d (.frz od (.dK (kvP P'))) ∧ (P'.take i).find? (fun p => decide (p.2 = some n)) = none) ⟨none, rfl, rfl, rfl⟩ (fun i σ H2 _ ⟨_, _, e, _⟩ => by rw [e]; exact upd_same) ?_ ?_
    · rintro i x σ H2 H2' hi ⟨v, rfl, rfl, hf⟩ ⟨rfl, ky, vv, hk, rfl⟩
      have hi2 : i < P'.length := by rw [kvP_len] at hi; exact hi
      obtain ⟨⟨k0, v0⟩, hz⟩ : ∃ z, P'[i]? = some z := ⟨_, List.getElem?_eq_getElem hi2⟩
      obtain ⟨q1, q2⟩ : ky = Sum.inl k0 ∧ vv = optV v0 := by
        unfold kvP at hk
        rw [List.getElem?_map, hz] at hk
        have := Option.some.inj hk
        exact ⟨(congrArg Prod.fst this).symm, (congrArg Prod.snd this).symm⟩
      subst q1 q2
      have hv : valV (kvP P') (Sum.inl k0 : Key) = some (optV v0) := by rw [valP, getP_nd hnd (List.mem_of_getElem? hz)]; rfl
      have sc : scal (optV v0) (.int n) = true := by cases v0 <;> rfl
      refine ⟨_, rfl, _, rfl, d, optV v0, rfl, .inl ⟨kvP P', Sum.inl k0, .inr ⟨od, upd_same⟩, rfl, hv.symm⟩, _, rfl, sc, _, rfl, ?_⟩
      rw [optV_int]
      by_cases h : v0 = some n
      · rw [decide_eq_true h]
        refine iteT ⟨_, rfl, upd_same, ?_⟩
        rw [upd_back hd]
        have eh : RC.holder P' n = some k0 := by
          unfold RC.holder
          have hT : P' = P'.take i ++ (k0, v0) :: P'.drop (i + 1) := by
            have := List.drop_eq_getElem_cons hi2
            rw [(List.getElem?_eq_some_iff.mp hz).2] at this
            rw [← this, List.take_append_drop]
          rw [hT, List.find?_append, hf, Option.none_or, List.find?_cons, decide_eq_true h]
          rfl
        rw [eh] at kq
        exact kq
      · rw [decide_eq_false h]
        refine iteF ⟨_, rfl, rfl, ?_⟩
        rw [take_snoc hz, List.find?_append, hf, Option.none_or, List.find?_cons, decide_eq_false h]
        rfl
    · rintro σ H2 ⟨v, rfl, rfl, hf⟩
      rw [kvP_len, List.take_length] at hf
      refine ⟨upd_same, ?_⟩
      rw [upd_back hd]
      have eh : RC.holder P' n = none := by
        unfold RC.holder
        rw [hf]; rfl
      rw [eh] at kq
      exact kq
end
end RcX
end
section
set_option Elab.async false
set_option linter.all false
set_option maxRecDepth 100000
set_option maxHeartbeats 4000000
namespace RcX
open PySem PySem.Spec PyProof.Rows L2
open RC (Rl)
/-! ### outcomes -/
def stopD : Option (Int × Int) → PyData
  | none => .tuple []
  | some p => pairD p
def endsD (E : List (Int × Int)) : PyData := .tuple (E.map pairD)
theorem stop_noL (s : Option (Int × Int)) : NoL (stopD s) = true := by cases s <;> rfl
def outF (tp : Addr) : List (Str × V) := [("triple", .ref tp)]
theorem outF_look (d : Addr) : (outF d).lookup ("triple" : Str) = some (.ref d) := by
  unfold outF
  rw [List.lookup_cons, show (("triple" : Str) == "triple") = true by decide +kernel]
structure OutAt (K : PySem.W.Frag) (O : Addr) (H : Hp) (o : Addr) (st : Option (Int × Int)) (E : List (Int × Int)) : Prop where
  ex : ∃ (dx tp : Addr) (vr vs ve : V), H o = some (.ins O dx (outF tp)) ∧ SqT K H tp [vr, vs, ve] ∧ Dp K H vs (stopD st) ∧ Dp K H ve (endsD E)
  len : E.length ≤ 30
theorem OutAt.same {K : PySem.W.Frag} {O o : Addr} {H H' : Hp} {st : Option (Int × Int)} {E : List (Int × Int)} (e : Same H H') (h : OutAt K O H o st E) : OutAt K O H' o st E := by
  obtain ⟨⟨dx, tp, vr, vs, ve, h1, h2, h3, h4⟩, h5⟩ := h
  exact ⟨⟨dx, tp, vr, vs, ve, e _ _ h1, seqT e h2, Dp.same e _ _ h3, Dp.same e _ _ h4⟩, h5⟩
section
variable {P : Program} {w : World} {K : PySem.W.Frag} {mg : Str → Option Value} {base : Heap} {a : Ads} {rc : Rl → Addr}
def spOutNew (K : PySem.W.Frag) (O : Addr) : Sp := fun vs H Q _ => ∃ (o dx : Addr) (vr vs' ve : V) (st : Option (Int × Int)) (E : List (Int × Int)), vs = [.ref o, vr, vs', ve] ∧ H o = some (.ins O dx []) ∧ Dp K H vs' (stopD st) ∧ Dp K H ve (endsD E) ∧ E.length ≤ 30 ∧
  ∀ H', (∀ b u, H b = some u → b ≠ o → H' b = some u) → OutAt K O H' o st E → Q .non H'
theorem sc72i : FnScope ["self", "rows", "stop", "ends"] ["self", "rows", "stop", "ends"] (defScope (inC 72 0)) := ⟨rfl, rfl, rfl, by decide +kernel, rfl, by decide +kernel, by decide +kernel⟩
theorem ts_ins {H : Hp} {o C dx : Addr} {fs : List (Str × V)} {u : HO} (h : H o = some (.ins C dx fs)) : TupS H (upd H o u) := TupS.upd h rfl
theorem endsD_noL (E : List (Int × Int)) : NoL (endsD E) = true := NoL.map pair_noL E
theorem ok_initO (T : Tr K mg a rc) : Cls1 P w K mg base CX0 1 "Outcome" a.O (spOutNew K a.O) := by
  obtain ⟨f, M, F⟩ := T.mkO
  refine ⟨f, M, fnR_of F sc72i (fun _ _ _ _ _ _ us hl => match us, hl with | [_, _, _, _], _ => rfl) (fun vs H Q E h => ?_) fun cdv A outer s H vs Q E hr h => ?_, T.mgO⟩
  · obtain ⟨o, dx, vr, vs', ve, st, E', rfl, _⟩ := h; rfl
  · obtain ⟨o, dx, vr, vs', ve, st, E', rfl, ho, hs, he, hl, kq⟩ := h
    refine ⟨_, pss_one (ps_fld (pv 0) (pe_tup (pa_cons (pv 1) (pa_cons (pv 2) (pa_cons (pv 3) pa_nil)))) rfl), ?_⟩
    refine ⟨_, rfl, _, rfl, _, rfl, by show 3 ≤ sizeLine; rw [sizeLine_eq]; decide, fun tp ntp => ?_⟩
    have s1 : Same H (upd H tp (.tup [vr, vs', ve])) := Same.new ntp
    have ho1 := s1 _ _ ho
    have hne : tp ≠ o := (ne_of_none ho ntp).symm
    refine ⟨_, rfl, o, a.O, dx, _, rfl, ho1, T.clO, T.noO, by decide, ?_⟩
    refine kq _ (fun b u hb hb2 => by rw [upd_ne hb2]; exact s1 _ _ hb) ⟨⟨dx, tp, vr, vs', ve, by rw [upd_same]; rfl, .inl (.inl (by rw [upd_ne hne, upd_same])), Dp.ts (ts_ins ho1) (stop_noL _) (Dp.same s1 _ _ hs), Dp.ts (ts_ins ho1) (endsD_noL _) (Dp.same s1 _ _ he)⟩, hl⟩
/-! the properties -/
def spStop (K : PySem.W.Frag) (O : Addr) : Sp := fun vs H Q _ => ∃ (o : Addr) (st : Option (Int × Int)) (E : List (Int × Int)), vs = [.ref o] ∧ OutAt K O H o st E ∧ ∀ v, Dp K H v (stopD st) → Q v H
def spEnds (K : PySem.W.Frag) (O : Addr) : Sp := fun vs H Q _ => ∃ (o : Addr) (st : Option (Int × Int)) (E : List (Int × Int)), vs = [.ref o] ∧ OutAt K O H o st E ∧ ∀ v, Dp K H v (endsD E) → Q v H
def spOutL (K : PySem.W.Frag) (O : Addr) (f : List (Int × Int) → List Int) : Sp := fun vs H Q _ => ∃ (o : Addr) (st : Option (Int × Int)) (E : List (Int × Int)), vs = [.ref o] ∧ OutAt K O H o st E ∧ ∀ p H', Same H H' → Dp K H' (.ref p) (tupD (f E)) → Q (.ref p) H'
theorem sc72s : FnScope ["self"] ["self"] (defScope (inC 72 2)) := ⟨rfl, rfl, rfl, by decide +kernel, rfl, by decide +kernel, by decide +kernel⟩
theorem sc72e : FnScope ["self"] ["self"] (defScope (inC 72 3)) := ⟨rfl, rfl, rfl, by decide +kernel, rfl, by decide +kernel, by decide +kernel⟩
theorem prp_stop (T : Tr K mg a rc) : Prp P w K mg base 1 a.O "stop" (spStop K a.O) := by
  obtain ⟨p, g, hp, F⟩ := T.pStop
  refine ⟨p, g, hp, fnR_of F sc72s (fun _ _ _ _ _ _ us hl => match us, hl with | [_], _ => rfl) (fun vs H Q E h => ?_) fun cdv A outer s H vs Q E hr h => ?_⟩
  · obtain ⟨o, st, E', rfl, _⟩ := h; rfl
  · obtain ⟨o, st, E', rfl, ⟨⟨dx, tp, vr, vs', ve, h1, h2, h3, h4⟩, h5⟩, kq⟩ := h
    refine ⟨_, pss_one (ps_ret (pe_ix ix_tup (pe_fld (pv 0) rfl) pe_int (fun _ _ => rfl))), ?_⟩
    exact ⟨_, rfl, o, a.O, dx, _, _, rfl, h1, T.clO, T.noO, outF_look tp, tp, _, 1, vs', rfl, rfl, h2, atI_nat (xs := [vr, vs', ve]) (j := 1) (v := vs') rfl, kq vs' h3⟩
theorem prp_ends (T : Tr K mg a rc) : Prp P w K mg base 1 a.O "ends" (spEnds K a.O) := by
  obtain ⟨p, g, hp, F⟩ := T.pEnds
  refine ⟨p, g, hp, fnR_of F sc72e (fun _ _ _ _ _ _ us hl => match us, hl with | [_], _ => rfl) (fun vs H Q E h => ?_) fun cdv A outer s H vs Q E hr h => ?_⟩
  · obtain ⟨o, st, E', rfl, _⟩ := h; rfl
  · obtain ⟨o, st, E', rfl, ⟨⟨dx, tp, vr, vs', ve, h1, h2, h3, h4⟩, h5⟩, kq⟩ := h
    refine ⟨_, pss_one (ps_ret (pe_ix ix_tup (pe_fld (pv 0) rfl) pe_int (fun _ _ => rfl))), ?_⟩
    exact ⟨_, rfl, o, a.O, dx, _, _, rfl, h1, T.clO, T.noO, outF_look tp, tp, _, 2, ve, rfl, rfl, h2, atI_nat (xs := [vr, vs', ve]) (j := 2) (v := ve) rfl, kq ve h4⟩
theorem endsD_inv {K : PySem.W.Frag} {H : Hp} {v : V} {E : List (Int × Int)} (h : Dp K H v (endsD E)) : ∃ p xs, v = .ref p ∧ SqT K H p xs ∧ DpAll K H xs (E.map pairD) := by
  unfold endsD at h
  cases h with
  | tup h1 h2 => exact ⟨_, _, rfl, h1, h2⟩
theorem sc72m : FnScope ["self", "row", "key"] ["self"] (defScope (inC 72 4)) := ⟨rfl, rfl, rfl, by decide +kernel, rfl, by decide +kernel, by decide +kernel⟩
def movF (p : Int × Int) : Option Int := if p.2 ≠ p.1 then some p.1 else none
theorem prp_moved (T : Tr K mg a rc) : Prp P w K mg base 1 a.O "moved" (spOutL K a.O RC.movedOf) := by
  obtain ⟨p, g, hp, F⟩ := T.pMoved
  refine ⟨p, g, hp, fnR_of F sc72m (fun _ _ _ _ _ _ us hl => match us, hl with | [_], _ => rfl) (fun vs H Q E h => ?_) fun cdv A outer s H vs Q E hr h => ?_⟩
  · obtain ⟨o, st, E', rfl, _⟩ := h; rfl
  · obtain ⟨o, st, E', rfl, ⟨⟨dx, tp, vr, vs', ve, h1, h2, h3, h4⟩, h5⟩, kq⟩ := h
    obtain ⟨q, xs, rfl, hq, hd⟩ := endsD_inv h4
    refine ⟨_, pss_one (ps_ret (pe_callTy call_tuple_of (by rfl) T.t.x.tuple PyProof.Rows.boot_tuple (pa_cons
      (pe_lc (own := [("row", 1), ("key", 2)]) (g := gTup K 2 (gCons (gName 1) (gCons (gName 2) gNil))) (te := tVar 1) rfl sc72m.nd (pi_tup (pe_ix ix_tup (pe_fld (pv 0) rfl) pe_int (fun _ _ => rfl)))
        (blkOk_by (N := ["self", "row", "key"]) (sc := defScope (inC 72 4)) (by decide +kernel))
        (fun _ _ _ _ _ => pg_tup rfl (pgs_cons (pg_name (i := 1) sc72m.nd rfl (Or.inl rfl)) (pgs_cons (pg_name (i := 2) sc72m.nd rfl (Or.inl rfl)) pgs_nil)))
        (fun _ _ _ _ _ => pts_one (pt_cmpR op_ne (pv 2) (pv 1) (nomark _))) (fun _ _ _ _ _ => pv 1)) pa_nil))), ?_⟩
    refine ⟨_, rfl, o, a.O, dx, _, _, rfl, h1, T.clO, T.noO, outF_look tp, tp, _, 2, _, rfl, rfl, h2, atI_nat (xs := [vr, vs', .ref q]) (j := 2) (v := .ref q) rfl, q, rfl, ⟨xs, hq⟩, fun D hD => ?_⟩
    have hl : xs.length = E'.length := by rw [dpAll_len hd, List.length_map]
    refine lc_it (walk_tup (xs := xs)) (fun i H2 => Same H H2 ∧ H2 D = some (.lst (iv ((E'.take i).filterMap movF)))) ⟨Same.new hD, upd_same⟩ (fun i H2 _ h => seqT h.1 hq) ?_ ?_
    · rintro i x H2 H2' hi ⟨s2, hD2⟩ ⟨rfl, hxi⟩
      obtain ⟨u, k0, n, hR, rfl, hu⟩ := pair_at (DpAll.same s2 _ _ hd) hxi
      refine ⟨u, _, rfl, hu, rfl, _, _, rfl, _, _, rfl, rfl, rfl, ?_⟩
      have hlen : (iv ((E'.take i).filterMap movF)).length < 1000 := by
        rw [iv_len]
        have h2 := fm_le (f := movF) (l := E'.take i)
        rw [List.length_take] at h2
        omega
      refine ⟨_, rfl, _, rfl, rfl, _, rfl, ?_⟩
      by_cases e : n = k0
      · rw [decide_eq_true (show V.int n = V.int k0 by rw [e])]
        refine iteF ⟨s2, ?_⟩
        rw [take_snoc hR, fm_snoc, show movF (k0, n) = none from if_neg fun z => z e, Option.toList_none, List.append_nil]
        exact hD2
      · rw [decide_eq_false (show ¬ V.int n = V.int k0 from fun z => e (by injection z))]
        refine iteT ⟨_, rfl, _, hD2, small1000 (by omega), s2.up hD, ?_⟩
        rw [upd_same, take_snoc hR, fm_snoc, show movF (k0, n) = some k0 from if_pos e, Option.toList_some, ← iv_snoc]
    · rintro H2 ⟨s2, hD2⟩
      rw [hl, List.take_length] at hD2
      refine ⟨D, _, rfl, .inl ⟨SqL.of hD2, fun r nr => ?_⟩⟩
      have s3 : Same H2 (upd H2 r (.tup (iv (E'.filterMap movF)))) := Same.new nr
      exact kq r _ (s2.trans s3) (.tup (.inl (.inl upd_same)) (dp_ints _))
theorem sc72l : FnScope ["self", "row", "key"] ["self"] (defScope (inC 72 5)) := ⟨rfl, rfl, rfl, by decide +kernel, rfl, by decide +kernel, by decide +kernel⟩
theorem prp_left (T : Tr K mg a rc) : Prp P w K mg base 1 a.O "left" (spOutL K a.O RC.leftOf) := by
  obtain ⟨p, g, hp, F⟩ := T.pLeft
  refine ⟨p, g, hp, fnR_of F sc72l (fun _ _ _ _ _ _ us hl => match us, hl with | [_], _ => rfl) (fun vs H Q E h => ?_) fun cdv A outer s H vs Q E hr h => ?_⟩
  · obtain ⟨o, st, E', rfl, _⟩ := h; rfl
  · obtain ⟨o, st, E', rfl, ⟨⟨dx, tp, vr, vs', ve, h1, h2, h3, h4⟩, h5⟩, kq⟩ := h
    obtain ⟨q, xs, rfl, hq, hd⟩ := endsD_inv h4
    refine ⟨_, pss_one (ps_ret (pe_callTy call_tuple_of (by rfl) T.t.x.tuple PyProof.Rows.boot_tuple (pa_cons
      (pe_lc (own := [("row", 1), ("key", 2)]) (g := gTup K 2 (gCons (gName 1) (gCons (gName 2) gNil))) (tt := tYes) (te := tVar 1) rfl sc72l.nd (pi_tup (pe_ix ix_tup (pe_fld (pv 0) rfl) pe_int (fun _ _ => rfl)))
        (blkOk_by (N := ["self", "row", "key"]) (sc := defScope (inC 72 5)) (by decide +kernel))
        (fun _ _ _ _ _ => pg_tup rfl (pgs_cons (pg_name (i := 1) sc72l.nd rfl (Or.inl rfl)) (pgs_cons (pg_name (i := 2) sc72l.nd rfl (Or.inl rfl)) pgs_nil)))
        (fun _ _ _ _ _ => pts_nil) (fun _ _ _ _ _ => pv 1)) pa_nil))), ?_⟩
    refine ⟨_, rfl, o, a.O, dx, _, _, rfl, h1, T.clO, T.noO, outF_look tp, tp, _, 2, _, rfl, rfl, h2, atI_nat (xs := [vr, vs', .ref q]) (j := 2) (v := .ref q) rfl, q, rfl, ⟨xs, hq⟩, fun D hD => ?_⟩
    have hl : xs.length = E'.length := by rw [dpAll_len hd, List.length_map]
    refine lc_it (walk_tup (xs := xs)) (fun i H2 => Same H H2 ∧ H2 D = some (.lst (iv ((E'.take i).map (·.1))))) ⟨Same.new hD, upd_same⟩ (fun i H2 _ h => seqT h.1 hq) ?_ ?_
    · rintro i x H2 H2' hi ⟨s2, hD2⟩ ⟨rfl, hxi⟩
      obtain ⟨u, k0, n, hR, rfl, hu⟩ := pair_at (DpAll.same s2 _ _ hd) hxi
      refine ⟨u, _, rfl, hu, rfl, _, _, rfl, _, _, rfl, rfl, rfl, yes_if ⟨_, rfl, _, hD2, ?_, s2.up hD, ?_⟩⟩
      · rw [iv_len, List.length_map, List.length_take]
        exact small1000 (by omega)
      · rw [upd_same, take_snoc hR, List.map_append, List.map_cons, List.map_nil, ← iv_snoc]
    · rintro H2 ⟨s2, hD2⟩
      rw [hl, List.take_length] at hD2
      refine ⟨D, _, rfl, .inl ⟨SqL.of hD2, fun r nr => ?_⟩⟩
      have s3 : Same H2 (upd H2 r (.tup (iv (E'.map (·.1))))) := Same.new nr
      exact kq r _ (s2.trans s3) (.tup (.inl (.inl upd_same)) (dp_ints _))
theorem sc72h : FnScope ["self", "row", "key"] ["self"] (defScope (inC 72 6)) := ⟨rfl, rfl, rfl, by decide +kernel, rfl, by decide +kernel, by decide +kernel⟩
theorem le_int : (PySem.W.dataLe false fun b : Int => PyData.int b) = RC.le := by
  funext x y
  show (!PySem.W.dataLt (.int y) (.int x)) = !decide (y < x)
  rw [PySem.W.dataLt_int]
theorem prp_held (T : Tr K mg a rc) : Prp P w K mg base 1 a.O "held" (spOutL K a.O RC.heldOf) := by
  obtain ⟨p, g, hp, F⟩ := T.pHeld
  refine ⟨p, g, hp, fnR_of F sc72h (fun _ _ _ _ _ _ us hl => match us, hl with | [_], _ => rfl) (fun vs H Q E h => ?_) fun cdv A outer s H vs Q E hr h => ?_⟩
  · obtain ⟨o, st, E', rfl, _⟩ := h; rfl
  · obtain ⟨o, st, E', rfl, ⟨⟨dx, tp, vr, vs', ve, h1, h2, h3, h4⟩, h5⟩, kq⟩ := h
    obtain ⟨q, xs, rfl, hq, hd⟩ := endsD_inv h4
    refine ⟨_, pss_one (ps_ret (pe_callTy call_tuple_of (by rfl) T.t.x.tuple PyProof.Rows.boot_tuple (pa_cons (pe_callB (cr_sortD hr) (by rfl) T.t.x.sorted (by decide +kernel) (pa_cons
      (pe_lc (own := [("row", 1), ("key", 2)]) (g := gTup K 2 (gCons (gName 1) (gCons (gName 2) gNil))) (tt := tYes) (te := tVar 2) rfl sc72h.nd (pi_tup (pe_ix ix_tup (pe_fld (pv 0) rfl) pe_int (fun _ _ => rfl)))
        (blkOk_by (N := ["self", "row", "key"]) (sc := defScope (inC 72 6)) (by decide +kernel))
        (fun _ _ _ _ _ => pg_tup rfl (pgs_cons (pg_name (i := 1) sc72h.nd rfl (Or.inl rfl)) (pgs_cons (pg_name (i := 2) sc72h.nd rfl (Or.inl rfl)) pgs_nil)))
        (fun _ _ _ _ _ => pts_nil) (fun _ _ _ _ _ => pv 2)) pa_nil)) pa_nil))), ?_⟩
    refine ⟨_, rfl, o, a.O, dx, _, _, rfl, h1, T.clO, T.noO, outF_look tp, tp, _, 2, _, rfl, rfl, h2, atI_nat (xs := [vr, vs', .ref q]) (j := 2) (v := .ref q) rfl, q, rfl, ⟨xs, hq⟩, fun D hD => ?_⟩
    have hl : xs.length = E'.length := by rw [dpAll_len hd, List.length_map]
    refine lc_it (walk_tup (xs := xs)) (fun i H2 => Same H H2 ∧ H2 D = some (.lst (iv ((E'.take i).map (·.2))))) ⟨Same.new hD, upd_same⟩ (fun i H2 _ h => seqT h.1 hq) ?_ ?_
    · rintro i x H2 H2' hi ⟨s2, hD2⟩ ⟨rfl, hxi⟩
      obtain ⟨u, k0, n, hR, rfl, hu⟩ := pair_at (DpAll.same s2 _ _ hd) hxi
      refine ⟨u, _, rfl, hu, rfl, _, _, rfl, _, _, rfl, rfl, rfl, yes_if ⟨_, rfl, _, hD2, ?_, s2.up hD, ?_⟩⟩
      · rw [iv_len, List.length_map, List.length_take]
        exact small1000 (by omega)
      · rw [upd_same, take_snoc hR, List.map_append, List.map_cons, List.map_nil, ← iv_snoc]
    · rintro H2 ⟨s2, hD2⟩
      rw [hl, List.take_length] at hD2
      refine ⟨Int, (fun b : Int => PyData.int b), D, _, E'.map (·.2), rfl, .inl (SqL.of hD2), dp_ints _, PySem.W.AllAlike.of (fun b b' => by simp [PySem.W.alike]), .inr (fun d hd => ?_), by rw [List.length_map]; omega, fun b _ => by simp [PyData.depth], fun ys r hys nr => ?_⟩
      · obtain ⟨b, _, rfl⟩ := List.mem_map.mp hd
        exact ⟨by simp, by simp⟩
      · rw [le_int] at hys
        have e := dp_ints_inv hys
        subst e
        have s3 : Same H2 (upd H2 r (.lst (iv ((E'.map (·.2)).mergeSort RC.le)))) := Same.new nr
        refine ⟨r, _, rfl, .inl ⟨SqL.of upd_same, fun u nu => ?_⟩⟩
        have s4 := (s2.trans s3).trans (Same.new (o := .tup (iv ((E'.map (·.2)).mergeSort RC.le))) nu)
        exact kq u _ s4 (.tup (.inl (.inl upd_same)) (dp_ints _))
/-! ### Rule.named -/
def spNamed (rc : Rl → Addr) : Sp := fun vs H Q _ => ∃ rl : Rl, vs = [.str (rWord rl)] ∧ ∀ (b dx : Addr) (H' : Hp), Same H H' → H' b = some (.ins (rc rl) dx []) → Q (.ref b) H'
theorem sc75n : FnScope ["word", "rule"] ["word"] (defScope (inC 75 1)) := ⟨rfl, rfl, rfl, by decide +kernel, rfl, by decide +kernel, by decide +kernel⟩
def rls : List Rl := [.abort, .fail, .ignore, .replace]
theorem rword_inj (r q : Rl) : decide (V.str (rWord r) = V.str (rWord q)) = decide (r = q) := by cases r <;> cases q <;> rfl
theorem four_line {x y z u : V} : [x, y, z, u].length ≤ sizeLine := by show 4 ≤ sizeLine; rw [sizeLine_eq]; decide
theorem ok_named {g : Addr} (T : Tr K mg a rc) (F : FnAt K "named" "Rule.named" (inC 75 1) g) : FnR P w K mg base CX0 1 g (spNamed rc) := by
  refine fnR_of F sc75n (fun _ _ _ _ _ _ us hl => match us, hl with | [_], _ => rfl) (fun vs H Q E h => ?_) fun cdv A outer s H vs Q E hr h => ?_
  · obtain ⟨rl, rfl, _⟩ := h; rfl
  · obtain ⟨rl, rfl, kq⟩ := h
    refine ⟨_, pss_cons (ps_for PassesOwn.never rfl (pi_tup (pe_tup (pa_cons (pe_bare (T.rl .abort).bare (by rfl) (T.rl .abort).nm) (pa_cons (pe_bare (T.rl .fail).bare (by rfl) (T.rl .fail).nm) (pa_cons (pe_bare (T.rl .ignore).bare (by rfl) (T.rl .ignore).nm) (pa_cons (pe_bare (T.rl .replace).bare (by rfl) (T.rl .replace).nm) pa_nil)))))) (pg_name (i := 1) sc75n.nd rfl (.inl rfl))
        (pss_one (ps_if (PW.pt (pw_and (pt_val (pe_callB call_isi (by rfl) T.t.x.isi (by decide +kernel) (pa_cons (pv 0) (pa_cons (pe_bltn (v := .ty "str") (by rfl) T.str (by decide +kernel) rfl) pa_nil))))
            (pw_and1 (pt_cmpR op_eq (pv 0) (pe_con (pv 1) rfl) (nomark _))))) (pss_one (ps_ret (pv 1))) pss_nil)))
      (pss_one ps_never), ?_⟩
    intro x1 d1 nx1 nd1 ne1 x2 d2 nx2 nd2 ne2 x3 d3 nx3 nd3 ne3 x4 d4 nx4 nd4 ne4
    refine ⟨four_line, fun q nq => ?_⟩
    generalize hH1 : upd (upd H d1 (.own x1)) x1 (.ins (rc .abort) d1 []) = H1 at *
    have t1 : Same H H1 := by rw [← hH1]; exact (Same.new nd1).up nx1
    have e1 : H1 x1 = some (.ins (rc .abort) d1 []) := by rw [← hH1]; exact upd_same
    generalize hH2 : upd (upd H1 d2 (.own x2)) x2 (.ins (rc .fail) d2 []) = H2 at *
    have t2 : Same H1 H2 := by rw [← hH2]; exact (Same.new nd2).up nx2
    have e2 : H2 x2 = some (.ins (rc .fail) d2 []) := by rw [← hH2]; exact upd_same
    generalize hH3 : upd (upd H2 d3 (.own x3)) x3 (.ins (rc .ignore) d3 []) = H3 at *
    have t3 : Same H2 H3 := by rw [← hH3]; exact (Same.new nd3).up nx3
    have e3 : H3 x3 = some (.ins (rc .ignore) d3 []) := by rw [← hH3]; exact upd_same
    generalize hH4 : upd (upd H3 d4 (.own x4)) x4 (.ins (rc .replace) d4 []) = H4 at *
    have t4 : Same H3 H4 := by rw [← hH4]; exact (Same.new nd4).up nx4
    have e4 : H4 x4 = some (.ins (rc .replace) d4 []) := by rw [← hH4]; exact upd_same
    have t5 : Same H4 (upd H4 q (.tup [.ref x1, .ref x2, .ref x3, .ref x4])) := Same.new nq
    have tt := (((t1.trans t2).trans t3).trans t4).trans t5
    refine ⟨q, rfl, ⟨_, .inl (.inl upd_same)⟩, ?_⟩
    have ins : ∀ (i : Nat) (x : V), [V.ref x1, V.ref x2, V.ref x3, V.ref x4][i]? = some x → ∃ (r : Rl) (b dx : Addr), rls[i]? = some r ∧ x = V.ref b ∧ (upd H4 q (.tup [.ref x1, .ref x2, .ref x3, .ref x4])) b = some (.ins (rc r) dx []) := by
      intro i x hx
      rcases i with _ | _ | _ | _ | i
      · exact ⟨.abort, x1, d1, rfl, (Option.some.inj hx).symm, t5 _ _ (t4 _ _ (t3 _ _ (t2 _ _ e1)))⟩
      · exact ⟨.fail, x2, d2, rfl, (Option.some.inj hx).symm, t5 _ _ (t4 _ _ (t3 _ _ e2))⟩
      · exact ⟨.ignore, x3, d3, rfl, (Option.some.inj hx).symm, t5 _ _ (t4 _ _ e3)⟩
      · exact ⟨.replace, x4, d4, rfl, (Option.some.inj hx).symm, t5 _ _ e4⟩
      · cases hx
    refine for_tup (xs := [V.ref x1, V.ref x2, V.ref x3, V.ref x4]) (fun i σ H5 => ∃ v, σ = [some (.str (rWord rl)), v] ∧ H5 = upd H4 q (.tup [.ref x1, .ref x2, .ref x3, .ref x4]) ∧ rl ∉ rls.take i) ⟨none, rfl, rfl, by simp⟩ (fun i σ H5 _ ⟨_, _, e, _⟩ => by rw [e]; exact .inl (.inl upd_same)) ?_ ?_
    · rintro i x σ H5 hi ⟨v, rfl, rfl, hn⟩
      obtain ⟨r, b, dx, hr', rfl, hb⟩ := ins i x hi
      obtain ⟨u, cw⟩ := (T.rl r).word
      refine ⟨_, rfl, .str (rWord rl), .ty "str", .type "str", .type "str", true, rfl, .ty _, .base (.str _), kit_ty (by decide +kernel), true, rfl, iteT ?_⟩
      refine ⟨_, rfl, _, rfl, b, rc r, dx, _, _, u, rfl, hb, (T.rl r).cl, cw, rfl, rfl, _, rfl, ?_⟩
      rw [rword_inj]
      by_cases h : rl = r
      · subst h
        rw [decide_eq_true rfl]
        exact iteT ⟨_, rfl, kq b dx _ tt hb⟩
      · rw [decide_eq_false h]
        refine iteF ⟨_, rfl, rfl, ?_⟩
        rw [take_snoc hr', List.mem_append, List.mem_singleton]
        rintro (z | z)
        · exact hn z
        · exact h z
    · rintro σ H5 ⟨v, rfl, rfl, hn⟩
      exact absurd (show rl ∈ rls.take 4 by cases rl <;> decide) hn
end
end RcX
end
section
set_option Elab.async false
set_option linter.all false
set_option maxRecDepth 100000
set_option maxHeartbeats 4000000
namespace RcX
open PySem PySem.Spec PyProof.Rows L2
open RC (Rl)
/-! ### the run of a rule -/
def endF (p : Int × Option Int) : Option (Int × Int) := p.2.map fun v => (p.1, v)
theorem endF_sub : ∀ P : Pl, List.Sublist ((P.filterMap endF).map (·.1)) (P.map (·.1))
  | [] => .slnil
  | (k, none) :: P => by
    rw [List.filterMap_cons]
    exact .cons _ (endF_sub P)
  | (k, some v) :: P => by
    rw [List.filterMap_cons]
    exact .cons_cons _ (endF_sub P)
theorem sort_keyedP {Z : List (Int × Int)} (hn : (Z.map (·.1)).Nodup) : Z.mergeSort (PySem.W.dataLe false pairD) = Z.mergeSort RC.leF := by
  refine PySem.W.sort_congr fun p hp q hq => ?_
  show (!PySem.W.dataLt (pairD q) (pairD p)) = !decide (q.1 < p.1)
  congr 1
  unfold pairD
  rw [PySem.W.dataLt_ii]
  by_cases h : q.1 = p.1
  · obtain rfl := nd_inj hn q hq p hp h
    simp
  · simp [h]
theorem holder_mem {P : Pl} {n h : Int} (e : RC.holder P n = some h) : h ∈ P.map (·.1) := by
  unfold RC.holder at e
  cases hf : P.find? (fun p => decide (p.2 = some n)) with
  | none => rw [hf] at e; cases e
  | some q =>
    rw [hf] at e
    rw [← Option.some.inj e]
    exact List.mem_map.mpr ⟨q, List.mem_of_find?_eq_some hf, rfl⟩
theorem settle_keys (rl : Rl) (P : Pl) (k h n : Int) : (settleP rl P k h n).map (·.1) = P.map (·.1) := by
  cases rl with
  | abort => exact undo_keys P
  | fail => rfl
  | ignore => rfl
  | replace => show (RC.setP (RC.setP P h none) k (some n)).map (·.1) = _; rw [setP_keys, setP_keys]
theorem runGo_skip {R : List (Int × Int)} {rl : Rl} {k n : Int} {rest : List Int} {P : Pl} (hl : RC.look R k = some n) (h : RC.getP P k = some none ∨ n = k) : RC.runGo R rl (k :: rest) P = RC.runGo R rl rest P := by
  conv => lhs; unfold RC.runGo
  rw [hl]
  show (if RC.getP P k = some none ∨ n = k then _ else _) = _
  rw [if_pos h]
theorem runGo_free {R : List (Int × Int)} {rl : Rl} {k n : Int} {rest : List Int} {P : Pl} (hl : RC.look R k = some n) (h : ¬ (RC.getP P k = some none ∨ n = k)) (hh : RC.holder P n = none) : RC.runGo R rl (k :: rest) P = RC.runGo R rl rest (RC.setP P k (some n)) := by
  conv => lhs; unfold RC.runGo
  rw [hl]
  show (if RC.getP P k = some none ∨ n = k then _ else _) = _
  rw [if_neg h, hh]
theorem runGo_held {R : List (Int × Int)} {rl : Rl} {k n h : Int} {rest : List Int} {P : Pl} (hl : RC.look R k = some n) (hc : ¬ (RC.getP P k = some none ∨ n = k)) (hh : RC.holder P n = some h) :
    RC.runGo R rl (k :: rest) P = if haltsB rl = true then (settleP rl P k h n, some (k, h)) else RC.runGo R rl rest (settleP rl P k h n) := by
  conv => lhs; unfold RC.runGo
  rw [hl]
  show (if RC.getP P k = some none ∨ n = k then _ else _) = _
  rw [if_neg hc, hh]
  cases rl <;> rfl
section
variable {P : Program} {w : World} {K : PySem.W.Frag} {mg : Str → Option Value} {base : Heap} {a : Ads} {rc : Rl → Addr}
def spCall (K : PySem.W.Frag) (a : Ads) (C : Addr) (rl : Rl) : Sp := fun vs H Q _ => ∃ (s dx t p : Addr) (R : List (Int × Int)) (o : List Int), vs = [.ref s, .ref t, .ref p] ∧ H s = some (.ins C dx []) ∧ TabAt a.T H t R ∧ SqT K H p (iv o) ∧ o.Perm (RC.keys R) ∧
  ∀ (q : Addr) (H' : Hp), Same H H' → OutAt K a.O H' q (RC.runRl R rl o).2 (RC.endsOf (RC.runRl R rl o).1) → Q (.ref q) H'
theorem sc75c : FnScope ["self", "table", "order", "places", "stop", "row", "new", "holder", "ends", "key"] ["self", "table", "order"] (defScope (inC 75 4)) := ⟨rfl, rfl, rfl, by decide +kernel, rfl, by decide +kernel, by decide +kernel⟩
theorem getP_optV {v : Option Int} {P : Pl} {k : Int} (h : RC.getP P k = some v) : decide (optV v = V.non) = decide (RC.getP P k = some none) := by
  rw [h]
  cases v with
  | none => rfl
  | some x => rw [decide_eq_false (show ¬ optV (some x) = V.non from fun z => by cases z), decide_eq_false (by simp)]
theorem ok_call {g : Addr} (T : Tr K mg a rc) (rl : Rl) (F : FnAt K "__call__" "Rule.__call__" (inC 75 4) g) : FnR P w K mg base CX0 7 g (spCall K a (rc rl) rl) := by
  have cn : Fnc P w K mg base CX0 6 "need_order" (spNeedOrder K a.T) := ok_need_order T.t
  have cg : Mth P w K mg base CX0 4 a.T "__getitem__" (spGetitem a.T) := ok_getitem T.t.x
  have ch : Fnc P w K mg base CX0 1 "holder_of" spHolder := ok_holder_of T
  have cs : Mth P w K mg base CX0 1 (rc rl) "settle" (spSettle rl) := ok_settle T rl (T.rl rl)
  have chl : Mth P w K mg base CX0 1 (rc rl) "halts" (spHalts rl) := ok_halts rl (T.rl rl)
  have cO : Cls1 P w K mg base CX0 1 "Outcome" a.O (spOutNew K a.O) := ok_initO T
  have cr : Prp P w K mg base 2 a.T "rows" (spRows K a.T) := prp_rows T.t.x
  have cl := (T.rl rl).cl
  refine fnR_of F sc75c (fun _ _ _ _ _ _ us hl => match us, hl with | [_, _, _], _ => rfl) (fun vs H Q E h => ?_) fun cdv A outer s H vs Q E hr h => ?_
  · obtain ⟨s', dx, t, p, R, o, rfl, _⟩ := h; rfl
  · obtain ⟨s', dx, t, p, R, o, rfl, hs, S, hp, hperm, kq⟩ := h
    have ok := S.ok
    have hu := hu_of hr
    have hond : o.Nodup := hperm.nodup_iff.mpr ok.nd
    have hol : o.length ≤ 30 := by
      have h1 := hperm.length_eq
      rw [keys_len] at h1
      have := ok.len
      omega
    refine ⟨_, pss_cons (ps_expr (pe_f cn hr (by decide) (E := E0) pass0 (by rfl) (pa_cons (pv 1) (pa_cons (pv 2) pa_nil))))
      (pss_cons (ps_asg (pe_tup (pa_cons (pe_dc (own := [("key", 9)]) (g := gName 9) (tt := tYes) (tk := tVar 9) (tv := tVar 9) rfl sc75c.nd (pi_tup (pv 2)) (blkOk_by (N := ["self", "table", "order", "places", "stop", "row", "new", "holder", "ends", "key"]) (sc := defScope (inC 75 4)) (by decide +kernel))
            (fun _ _ _ _ _ => pg_name (i := 9) sc75c.nd rfl (Or.inl rfl)) (fun _ _ _ _ _ => pts_nil) (fun _ _ _ _ _ => pv 9) (fun _ _ _ _ _ => pv 9)) (pa_cons (pe_tup pa_nil) pa_nil)))
          (pg_tup rfl (pgs_cons (pg_name (i := 3) sc75c.nd rfl (Or.inr rfl)) (pgs_cons (pg_name (i := 4) sc75c.nd rfl (Or.inl rfl)) pgs_nil))))
      (C8.pss_cut (ps_for PassesOwn.never rfl (pi_tup (pv 2)) (pg_name (i := 5) sc75c.nd rfl (.inl rfl))
          (pss_cons (ps_set (i := 6) sc75c.nd rfl (.inl rfl) (pe_ixO cg hr (by decide) (E := E0) pass0 (pv 1) (pv 5)))
          (pss_cons (ps_if (PW.pt (pw_or (pt_cmpR op_isN (pe_dget hu (pv 3) (pv 5) (fun _ _ => rfl)) pe_non (nomark _)) (pw_or1 (pt_cmpR op_eq (pv 6) (pv 5) (nomark _))))) (pss_one ps_continue) pss_nil)
          (pss_cons (ps_set (i := 7) sc75c.nd rfl (.inl rfl) (pe_f ch hr (by decide) (E := E0) pass0 (by rfl) (pa_cons (pv 3) (pa_cons (pv 6) pa_nil))))
          (pss_cons (ps_if (pt_cmpR op_isN (pv 7) pe_non (nomark _)) (pss_cons (ps_dput hu (pv 3) (pv 5) (pv 6) rfl) (pss_one ps_continue)) pss_nil)
          (pss_cons (ps_expr (pe_m cs cl hr (by decide) (E := E0) pass0 (pv 0) (pa_cons (pv 3) (pa_cons (pv 5) (pa_cons (pv 7) (pa_cons (pv 6) pa_nil))))))
          (pss_one (ps_if (pt_val (pe_m0 chl cl hr (by decide) (E := E0) pass0 (pv 0))) (pss_cons (ps_set (i := 4) sc75c.nd rfl (.inl rfl) (pe_tup (pa_cons (pv 5) (pa_cons (pv 7) pa_nil)))) (pss_one ps_break)) pss_nil))))))))
      (pss_cons (ps_set (i := 8) sc75c.nd rfl (.inl rfl) (pe_callTy call_tuple_of (by rfl) T.t.x.tuple PyProof.Rows.boot_tuple (pa_cons (pe_callB (cr_sortD hr) (by rfl) T.t.x.sorted (by decide +kernel) (pa_cons
          (pe_lock (pe_lc (own := [("row", 5)]) (g := gName 5) rfl sc75c.nd (pi_keys (pv 3)) (blkOk_by (N := ["self", "table", "order", "places", "stop", "row", "new", "holder", "ends", "key"]) (sc := defScope (inC 75 4)) (by decide +kernel))
            (fun _ _ _ _ _ => pg_name (i := 5) sc75c.nd rfl (Or.inl rfl))
            (fun _ _ _ _ _ => pts_one (pt_cmpR op_notN (pe_dget hu (pv 3) (pv 5) (fun _ _ => rfl)) pe_non (nomark _)))
            (fun _ _ _ _ _ => pe_tup (pa_cons (pv 5) (pa_cons (pe_dget hu (pv 3) (pv 5) (fun _ _ => rfl)) pa_nil))))) pa_nil)) pa_nil)))
      (pss_one (ps_ret (pe_new cO hr (by decide) (E := E0) pass0 (by rfl) (pa_cons (pe_pr cr T.t.x.insT.cl hr (by decide) (pv 1)) (pa_cons (pv 4) (pa_cons (pv 8) pa_nil))))))))), ?_⟩
    refine ⟨_, rfl, _, rfl, t, p, R, o, rfl, S, hp, hperm, fun H1 s1 => ?_⟩
    have hp1 := seqT s1 hp
    refine ⟨_, rfl, p, rfl, ⟨_, hp1⟩, fun d nd => ?_⟩
    refine dc_tup (xs := iv o) (fun i H2 => Same H1 H2 ∧ H2 d = some (.dK (kvP (RC.start (o.take i))))) ⟨Same.new nd, upd_same⟩ (fun i H2 _ h => seqT h.1 hp1) ?_ ?_
    · rintro i x H2 hi ⟨s2, hd2⟩
      obtain ⟨k, hki, rfl⟩ := iv_get hi
      refine ⟨rfl, yes_if ⟨_, rfl, _, rfl, _, Sum.inl k, rfl, hd2, ?_, s2.up nd, ?_⟩⟩
      · rw [kvP_len]
        unfold RC.start
        rw [List.length_map, List.length_take]
        exact small1000 (by omega)
      · rw [upd_same, putK_new]
        · rw [take_snoc hki]
          unfold RC.start kvP
          rw [List.map_append, List.map_append]
          rfl
        · rw [valP]
          have : RC.getP (RC.start (o.take i)) k = none := by
            unfold RC.getP
            have hnf : (RC.start (o.take i)).find? (fun p => decide (p.1 = k)) = none := by
              rw [List.find?_eq_none]
              intro q hq hqk
              unfold RC.start at hq
              obtain ⟨y, hy, rfl⟩ := List.mem_map.mp hq
              have e : y = k := of_decide_eq_true hqk
              subst e
              have hT : o = o.take i ++ y :: o.drop (i + 1) := by
                have hlt : i < o.length := (List.getElem?_eq_some_iff.mp hki).1
                have := List.drop_eq_getElem_cons hlt
                rw [(List.getElem?_eq_some_iff.mp hki).2] at this
                rw [← this, List.take_append_drop]
              rw [hT, List.nodup_append] at hond
              exact hond.2.2 y hy y List.mem_cons_self rfl
            rw [hnf]; rfl
          rw [this]; rfl
    · rintro H2 ⟨s2, hd2⟩
      rw [iv_len, List.take_length] at hd2
      refine ⟨Nat.zero_le _, fun e ne => ?_⟩
      have s3 : Same H2 (upd H2 e (.tup [])) := Same.new ne
      refine ⟨two_line, fun pr npr => ?_⟩
      have s4 : Same (upd H2 e (.tup [])) (upd (upd H2 e (.tup [])) pr (.tup [.ref d, .ref e])) := Same.new npr
      refine ⟨pr, _, rfl, .inl (.inl upd_same), rfl, _, _, rfl, _, _, rfl, rfl, ?_⟩
      generalize hH4 : upd (upd H2 e (.tup [])) pr (.tup [.ref d, .ref e]) = H4 at *
      have hd4 : H4 d = some (.dK (kvP (RC.start o))) := s4 _ _ (s3 _ _ hd2)
      have he4 : H4 e = some (.tup []) := s4 _ _ upd_same
      have s14 : Same H1 H4 := (s2.trans s3).trans s4
      have s04 := s1.trans s14
      have fd : H d = none := s1.free nd
      refine ⟨fun σ' H' => ∃ (P' : Pl) (st : Option (Int × Int)) (sv : V) (v5 v6 v7 : Option V), σ' = [some (.ref s'), some (.ref t), some (.ref p), some (.ref d), some sv, v5, v6, v7, none, none] ∧ Same H H' ∧ H' d = some (.dK (kvP P')) ∧ P'.map (·.1) = o ∧ Dp K H' sv (stopD st) ∧ RC.runRl R rl o = (P', st), ?_, ?_⟩
      · refine ⟨_, rfl, p, rfl, ⟨_, seqT s14 hp1⟩, ?_⟩
        refine for_tup (xs := iv o) (fun i σ H5 => ∃ (P' : Pl) (v5 v6 v7 : Option V), σ = [some (.ref s'), some (.ref t), some (.ref p), some (.ref d), some (.ref e), v5, v6, v7, none, none] ∧ Same H H5 ∧ H5 d = some (.dK (kvP P')) ∧ H5 e = some (.tup []) ∧ P'.map (·.1) = o ∧ RC.runRl R rl o = RC.runGo R rl (o.drop i) P')
          ⟨_, none, none, none, rfl, s04, hd4, he4, by unfold RC.start; rw [List.map_map]; exact List.map_id' o, rfl⟩ (fun i σ H5 _ ⟨_, _, _, _, _, h, _⟩ => seqT h hp) ?_ ?_
        · rintro i x σ H5 hi ⟨P', v5, v6, v7, rfl, s5, hd5, he5, hk5, hrun⟩
          obtain ⟨k, hki, rfl⟩ := iv_get hi
          have hko : k ∈ o := List.mem_of_getElem? hki
          have hk : k ∈ RC.keys R := hperm.mem_iff.mp hko
          have hlt : i < o.length := (List.getElem?_eq_some_iff.mp hki).1
          have hdr : o.drop i = k :: o.drop (i + 1) := by
            rw [List.drop_eq_getElem_cons hlt, (List.getElem?_eq_some_iff.mp hki).2]
          rw [hdr] at hrun
          obtain ⟨n, hn⟩ := RC.look_some hk
          obtain ⟨dx5, dd5, T5, e5, _, _⟩ := (S.same s5).ex
          have hkP : k ∈ P'.map (·.1) := by rw [hk5]; exact hko
          have hndP : (P'.map (·.1)).Nodup := by rw [hk5]; exact hond
          have hlP : P'.length ≤ 30 := by
            rw [← List.length_map (f := fun p : Int × Option Int => p.1), hk5]
            exact hol
          have hed : e ≠ d := fun z => by rw [z, hd5] at he5; cases he5
          obtain ⟨v, hv⟩ := getP_some hkP
          have dg : DGet H5 d (.int k) (some (optV v)) := .inl ⟨kvP P', Sum.inl k, .inl hd5, rfl, by rw [valP, hv]; rfl⟩
          refine ⟨_, rfl, _, rfl, t, dx5, _, rfl, e5, t, R, k, n, rfl, S.same s5, hn, ?_⟩
          refine ⟨_, rfl, _, rfl, d, optV v, rfl, dg, rfl, _, rfl, ?_⟩
          rw [getP_optV hv]
          by_cases hc1 : RC.getP P' k = some none
          · rw [decide_eq_true hc1]
            refine iteT (iteT ⟨P', _, _, _, rfl, s5, hd5, he5, hk5, ?_⟩)
            rw [hrun, runGo_skip hn (.inl hc1)]
          · rw [decide_eq_false hc1]
            refine iteF ⟨_, rfl, _, rfl, rfl, _, rfl, ?_⟩
            by_cases hc2 : n = k
            · rw [decide_eq_true (show V.int n = V.int k by rw [hc2])]
              refine iteT ⟨P', _, _, _, rfl, s5, hd5, he5, hk5, ?_⟩
              rw [hrun, runGo_skip hn (.inr hc2)]
            · rw [decide_eq_false (show ¬ V.int n = V.int k from fun z => hc2 (by injection z))]
              have hc : ¬ (RC.getP P' k = some none ∨ n = k) := fun z => z.elim hc1 hc2
              refine iteF ⟨_, rfl, _, rfl, d, P', n, rfl, hd5, hndP, ?_⟩
              refine ⟨_, rfl, rfl, _, rfl, ?_⟩
              cases hh : RC.holder P' n with
              | none =>
                rw [decide_eq_true (show optV none = V.non from rfl)]
                have hlen : (kvP P').length < sizeLine := by rw [kvP_len]; exact small1000 (by omega)
                refine iteT ⟨_, rfl, _, rfl, _, rfl, d, _, rfl, DPut.k (k := Sum.inl k) (v := optV (some n)) hd5 hlen, ?_⟩
                refine ⟨RC.setP P' k (some n), _, _, _, rfl, s5.up fd, by rw [upd_same, putP (some n) hkP], by rw [upd_ne hed]; exact he5, by rw [setP_keys]; exact hk5, ?_⟩
                rw [hrun, runGo_free hn hc hh]
              | some h0 =>
                rw [decide_eq_false (show ¬ optV (some h0) = V.non from fun z => by cases z)]
                refine iteF ⟨_, rfl, s', dx, _, rfl, s5 _ _ hs, rfl, _, rfl, _, rfl, _, rfl, _, rfl, ?_⟩
                refine ⟨s', d, P', k, h0, n, rfl, hd5, hndP, hlP, hkP, holder_mem hh, fun H6 k6 hd6 => ?_⟩
                have s6 : Same H H6 := fun b u hb => k6 b u (s5 b u hb) (ne_of_none hb fd)
                have he6 : H6 e = some (.tup []) := k6 _ _ he5 hed
                have hk6 := settle_keys rl P' k h0 n
                rw [hk5] at hk6
                have hgo := runGo_held (rl := rl) (rest := o.drop (i + 1)) hn hc hh
                rw [← hrun] at hgo
                refine ⟨_, rfl, s', dx, _, rfl, s6 _ _ hs, rfl, s', rfl, haltsB rl, rfl, ?_⟩
                cases hB : haltsB rl with
                | false =>
                  rw [hB] at hgo
                  exact iteF ⟨_, _, _, _, rfl, s6, hd6, he6, hk6, hgo⟩
                | true =>
                  rw [hB, if_pos rfl] at hgo
                  refine iteT ⟨_, rfl, _, rfl, two_line, fun sp nsp => ?_⟩
                  have s7 : Same H6 (upd H6 sp (.tup [.int k, .int h0])) := Same.new nsp
                  exact ⟨_, some (k, h0), .ref sp, _, _, _, rfl, s6.trans s7, s7 _ _ hd6, hk6, .tup (.inl (.inl upd_same)) (.cons (.int k) (.cons (.int h0) .nil)), hgo⟩
        · rintro σ H5 ⟨P', v5, v6, v7, rfl, s5, hd5, he5, hk5, hrun⟩
          rw [iv_len, List.drop_length] at hrun
          exact ⟨P', none, .ref e, _, _, _, rfl, s5, hd5, hk5, .tup (.inl (.inl he5)) .nil, hrun⟩
      · rintro σ' H5 ⟨P', st, sv, v5, v6, v7, rfl, s5, hd5, hk5, hsv, hrun⟩
        have hndP : (P'.map (·.1)).Nodup := by rw [hk5]; exact hond
        have hlP : P'.length ≤ 30 := by
          rw [← List.length_map (f := fun p : Int × Option Int => p.1), hk5]
          exact hol
        refine ⟨d, _, hd5, True.intro, fun od => ?_⟩
        refine ⟨_, rfl, d, od, rfl, .inl ⟨kvP P', upd_same, fun D hD => ?_⟩⟩
        have hDd : D ≠ d := fun z => by rw [z, upd_same] at hD; cases hD
        refine lc_it walk_keys (fun i H6 => Same (upd H5 d (.frz od (.dK (kvP P')))) H6 ∧ ∃ xs, H6 D = some (.lst xs) ∧ DpAll K H6 xs (((P'.take i).filterMap endF).map pairD))
          ⟨Same.new hD, [], upd_same, .nil⟩ (fun i H6 _ h => h.1 _ _ upd_same) ?_ ?_
        · rintro i x H6 H6' hi ⟨s6, xs, hx, hd⟩ ⟨rfl, ky, vv, hk, rfl⟩
          have hi2 : i < P'.length := by rw [kvP_len] at hi; exact hi
          obtain ⟨⟨k0, v0⟩, hz⟩ : ∃ z, P'[i]? = some z := ⟨_, List.getElem?_eq_getElem hi2⟩
          obtain ⟨q1, q2⟩ : ky = Sum.inl k0 ∧ vv = optV v0 := by
            unfold kvP at hk
            rw [List.getElem?_map, hz] at hk
            have := Option.some.inj hk
            exact ⟨(congrArg Prod.fst this).symm, (congrArg Prod.snd this).symm⟩
          subst q1 q2
          have hv : valV (kvP P') (Sum.inl k0 : Key) = some (optV v0) := by rw [valP, getP_nd hndP (List.mem_of_getElem? hz)]; rfl
          have dg : DGet H6' d (kV (Sum.inl k0)) (some (optV v0)) := .inl ⟨kvP P', Sum.inl k0, .inr ⟨od, s6 _ _ upd_same⟩, rfl, hv.symm⟩
          have hxl : xs.length ≤ 30 := by
            have h1 := dpAll_len hd
            rw [List.length_map] at h1
            have h2 := fm_le (f := endF) (l := P'.take i)
            rw [List.length_take] at h2
            omega
          refine ⟨rfl, _, rfl, _, rfl, d, optV v0, rfl, dg, rfl, _, rfl, ?_⟩
          cases v0 with
          | none =>
            refine iteF ⟨s6, xs, hx, ?_⟩
            rw [take_snoc hz, fm_snoc, show endF (k0, none) = none from rfl, Option.toList_none, List.append_nil]
            exact hd
          | some v1 =>
            refine iteT ⟨_, rfl, _, rfl, _, rfl, d, optV (some v1), rfl, dg, two_line, fun q nq => ?_⟩
            have s7 : Same H6' (upd H6' q (.tup [.int k0, .int v1])) := Same.new nq
            have hD7 := s7 _ _ hx
            refine ⟨xs, hD7, small1000 (by omega), (s6.trans s7).up hD, _, upd_same, ?_⟩
            rw [take_snoc hz, fm_snoc, show endF (k0, some v1) = some (k0, v1) from rfl, List.map_append]
            exact DpAll.lu hD7 (NoL_app (NoL.map pair_noL _) (NoL.map pair_noL [(k0, v1)])) (dpAll_snoc (DpAll.same s7 _ _ hd) (.tup (.inl (.inl upd_same)) (.cons (.int _) (.cons (.int _) .nil))))
        · rintro H6 ⟨s6, xs, hx, hd⟩
          rw [kvP_len, List.take_length] at hd
          refine ⟨s6 _ _ upd_same, ?_⟩
          have s0 : Same H5 (upd H6 d (.dK (kvP P'))) := unlock_same hd5 s6
          have hd2 : DpAll K (upd H6 d (.dK (kvP P'))) xs ((P'.filterMap endF).map pairD) := DpAll.ts (unlock_tups (s6 _ _ upd_same)) (NoL.map pair_noL _) hd
          have hx2 : (upd H6 d (.dK (kvP P'))) D = some (.lst xs) := by rw [upd_ne hDd]; exact hx
          have hEl : (P'.filterMap endF).length ≤ 30 := Nat.le_trans (fm_le (f := endF)) hlP
          refine ⟨Int × Int, pairD, D, xs, P'.filterMap endF, rfl, .inl (.inl (.inl hx2)), hd2, PySem.W.AllAlike.of pair_alike, PySem.W.Sortable.tuples fun b => ⟨_, _, rfl⟩, by omega, fun b _ => pair_depth b, fun ys q hys nq => ?_⟩
          rw [sort_keyedP (hndP.sublist (endF_sub P'))] at hys
          have eE : (P'.filterMap endF).mergeSort RC.leF = RC.endsOf P' := rfl
          rw [eE] at hys
          generalize hH7 : upd H6 d (.dK (kvP P')) = H7 at *
          have s8 : Same H7 (upd H7 q (.lst ys)) := Same.new nq
          refine ⟨q, ys, rfl, .inl ⟨SqL.of upd_same, fun te nte => ?_⟩⟩
          have s9 : Same (upd H7 q (.lst ys)) (upd (upd H7 q (.lst ys)) te (.tup ys)) := Same.new nte
          generalize hH9 : upd (upd H7 q (.lst ys)) te (.tup ys) = H9 at *
          have s59 := (s0.trans s8).trans s9
          have s09 := s5.trans s59
          have hte : Dp K H9 (.ref te) (endsD (RC.endsOf P')) := .tup (.inl (.inl (by rw [← hH9]; exact upd_same))) (DpAll.same (s8.trans s9) _ _ hys)
          obtain ⟨dx9, dd9, T9, e9, _, _⟩ := (S.same s09).ex
          refine ⟨_, rfl, t, dx9, _, rfl, e9, t, R, rfl, S.same s09, fun rp rx H10 s10 nrp hrp hrd => ?_⟩
          refine ⟨_, rfl, _, rfl, ?_⟩
          intro o' dxo nxo ndo hne
          have s11 : Same H10 (upd (upd H10 dxo (.own o')) o' (.ins a.O dxo [])) := (Same.new ndo).up nxo
          have s10t := s10.trans s11
          have hlE : (RC.endsOf P').length ≤ 30 := by
            rw [← eE, List.length_mergeSort]
            exact hEl
          refine ⟨o', dxo, _, _, _, st, RC.endsOf P', rfl, upd_same, Dp.same (s59.trans s10t) _ _ hsv, Dp.same s10t _ _ hte, hlE, fun H' k' ho' => ⟨rfl, ?_⟩⟩
          have eR : RC.runRl R rl o = (P', st) := hrun
          rw [eR] at kq
          refine kq o' H' (fun b u hb => ?_) ho'
          have hb10 := s10 _ _ (s09 b u hb)
          exact k' b u (s11 _ _ hb10) (ne_of_none hb10 nxo)
end
end RcX
end
section
set_option Elab.async false
set_option linter.all false
set_option maxRecDepth 100000
set_option maxHeartbeats 4000000
/-! An own exception over ValueError whose __init__ says super().__init__('..') and keeps one field. -/
namespace RcX
open PySem PySem.Spec PyProof.Rows L2
structure ExcK (P : Program) (K : PySem.W.Frag) (mg : Str → Option Value) (C fI : Addr) (q : Str) (st : Stmt) (f : Str) : Prop where
  oex : OexC K C
  fn : ∃ (oc : Value) (od : Option Addr) (kV doc pm : Value) (an : Option Addr) (ct : Value) (osl : Array (Option Value)) (cc cda : Addr) (ccl : Value) (cdd : Option Addr) (vs : Array Value) (ccs : Array (Option Value)) (file : Str) (tf : Tok) (cl : Value) (cld : Option Addr) (csl : Array (Option Value)),
    K.lookup fI = some ⟨oc, od, .func (PySem.W.ksFn "__init__" q (defArgs st) (defBody st) (defScope st) .none kV doc pm an (.ref cda) ct cc), osl⟩ ∧ PySem.W.codeIn K (.ref cda) q = true ∧
    K.lookup cda = some ⟨ccl, cdd, .fields vs, ccs⟩ ∧ vs[2]? = some (.str file tf) ∧ ((P.main.file : Str) == file) = true ∧ K.lookup cc = some ⟨cl, cld, .cell (some (.ref C)), csl⟩
  init : PySem.W.findIn K (.ref C) "__init__" = some (some (.ref fI))
  ty : PySem.W.typeIn K (.ref fI) = some (.type "function")
  sup : PySem.W.ks_superIn K C C "__init__" = some (some (.builtin "ValueError.__init__"))
  sub : PySem.W.subIn K (.ref C) (.type "ValueError") = some true
  self : PySem.W.mroIn K C (.ref C) = some true
  third : PySem.W.nsIn K cStatics "thirdparty.any" = some none
  noF : PySem.W.findIn K (.ref C) f = some none
  top : (P.main.scope.names.lookup ("super" : Str)).isSome = false
  mgS : mg "super" = none
/-- what the text must say -/
structure InitS (st : Stmt) (q pn f : Str) : Prop where
  body : ∃ (p0 p1 p2 p3 p4 p5 p6 p7 p8 p9 : Pos) (msg : Str) (j : Nat) (pl : Sem Bool), defBody st = [.Expr (.Call (.Attribute (.Call (.Name "super" p0) [] [] p1) "__init__" p2) [.Constant (.str msg) j p3] [] p4) p5, .Assign [.Attribute (.Name "self" p6) f p7] (.Name pn p8) p9] ∧
    ∀ env : Env, eval (.Call (.Attribute (.Call (.Name "super" p0) [] [] p1) "__init__" p2) [.Constant (.str msg) j p3] [] p4) env = (do
      let o ← attributeBase (.Call (.Name "super" p0) [] [] p1) "__init__" env (eval (.Call (.Name "super" p0) [] [] p1) env)
      standAt p2.atName
      let (m, us) ← holding [o] (getMethod o "__init__" pl)
      callWith p4 m us (backTo p4 (starEach [.Constant (.str msg) j p3] env)) [])
  bind : ∀ (kV doc pm : Value) (an : Option Addr) (cdv ct : Value) (cc : Addr) (u v : Value), bindArgs (PySem.W.ksFn "__init__" q (defArgs st) (defBody st) (defScope st) .none kV doc pm an cdv ct cc) ⟨[u, v], []⟩ = pure [(("self" : Str), u), (pn, v)]
  hs : (defScope st).names.lookup ("super" : Str) = some .globalImplicit
  hc : (defScope st).names.lookup ("__class__" : Str) = some .free
  h1 : (defScope st).names.lookup ("self" : Str) = some .local
  h2 : (defScope st).names.lookup pn = some .local
  nc : ∀ x ∈ (defScope st).names, x.2 ≠ .cell
  co : (defScope st).isCoroutine = false
  gen : (defScope st).isGenerator = false
  kind : (defScope st).kind = .function
  ar : ∃ a : Arg, ((defArgs st).posonlyargs ++ (defArgs st).args).head? = some a ∧ a.arg = ("self" : Str)
  ne : (pn == ("self" : Str)) = false
  d1 : (pn == ("__debug__" : Str)) = false
theorem initS25 : InitS (inC 25 0) "Competing.__init__" "pair" "pair" where
  body := ⟨_, _, _, _, _, _, _, _, _, _, _, _, _, rfl, fun _ => rfl⟩
  bind := fun _ _ _ _ _ _ _ _ _ => rfl
  hs := rfl
  hc := rfl
  h1 := rfl
  h2 := rfl
  nc := by decide +kernel
  co := rfl
  gen := rfl
  kind := rfl
  ar := ⟨_, rfl, rfl⟩
  ne := by decide +kernel
  d1 := by decide +kernel
theorem initS26 : InitS (inC 26 0) "Ringed.__init__" "ring" "ring" where
  body := ⟨_, _, _, _, _, _, _, _, _, _, _, _, _, rfl, fun _ => rfl⟩
  bind := fun _ _ _ _ _ _ _ _ _ => rfl
  hs := rfl
  hc := rfl
  h1 := rfl
  h2 := rfl
  nc := by decide +kernel
  co := rfl
  gen := rfl
  kind := rfl
  ar := ⟨_, rfl, rfl⟩
  ne := by decide +kernel
  d1 := by decide +kernel
section
open PySem.W
variable {P : Program} {w : World} {K : Frag} {mg : Str → Option Value} {base : Heap} {A : Around} {C fI : Addr} {q pn f : Str} {st : Stmt} {R : Result → Shared → Prop} {hp : Heap} {g : Array GenState} {d : Drawn} {t : Nat} {os : OsState} {e t0 : Addr} {v : Value}
/-- the wrapper of ValueError.__init__ called -/
theorem mw_call {A : Around} {E : Value → Shared → Prop} {u : Addr} {rest : List Value} {Q : Value → Shared → Prop} (X : K.In hp) (T : OexC K C)
    (hu : hp.get? u = some (kxs_mw "ValueError.__init__" e)) (he : hp.get? e = some (PySem.HandSPX.excO C t0)) (hz : rest.length ≤ sizeLine)
    (h : ∀ h' t1, (∀ b o, b ≠ e → hp.get? b = some o → h'.get? b = some o) → h'.get? e = some (PySem.HandSPX.excO C t1) → Q .none ⟨h', g, d, t, os⟩) :
    wpAny (model P w) A (call (.ref u) rest) Q E ⟨hp, g, d, t, os⟩ := by
  obtain ⟨nm, q, N, bs, bm, sn, sub, ab, col, dd, k0, k1, k2, k3, k5, hK, hbm⟩ := T.cls
  have hC := X _ _ hK
  have ht : (Value.type "method-wrapper" == Value.type "method" || Value.type "method-wrapper" == Value.type "builtin_function_or_method" || Value.type "method-wrapper" == Value.type "method-wrapper") = true := by decide
  have FB := PySem.F.excBase_ValueError
  refine wpAny_call (codeAny_of_tree (show wpAny _ A.in1 (callAny (.ref u) ⟨rest, []⟩) _ _ _ from ?_))
  unfold callAny
  refine wpAny_bind (wpAny_load hu ?_)
  simp only [kxs_mw, ht, if_true]
  refine KFB.if_so (by decide) (wpAny_bind (check_bound_init FB.toExcCallFacts hC he rfl (wpAny_bind (wpAny_pure (wpAny_pure ⟨plainId_quiet FB.init.plain _, codeAny_builtin FB.initEntry ?_⟩)))))
  exact exc_init_tree (cls := .ref C) (t0 := t0) (dv := none) (c2 := .none) (c3 := .none) (b4 := .bool false) he hz fun h' k1 k2 _ => h h' _ k1 k2
theorem quiet_of {env : Env} (h : env.scope.kind = .function) : interactive env = false := by simp [interactive, h]
/-- the __init__, from the new exception at e -/
theorem init_run (X : ExcK P K mg C fI q st f) (S : InitS st q pn f) (hm : Mod K mg base) (hb : ∀ b o, base.get? b = some o → hp.get? b = some o) (hbe : base.get? e = none) (hd : A.depth < recursionLimit) (he : hp.get? e = some (PySem.HandSPX.excO C t0))
    (hR : ∀ h' tk dx t1, (∀ b o, b ≠ e → hp.get? b = some o → h'.get? b = some o) → hp.objs.size ≤ dx → h'.get? e = some ({ cls := .ref C, dict := some dx, data := .fields #[.ref t1, .none, .none, .none, .bool false, .none] } : Obj) →
      h'.Ns1 dx (fun y => if y = f then some v else none) → R (.ok (.ret .none)) ⟨h', g, d, tk, os⟩) :
    codeAny (model P w) A (.call (.ref fI) ⟨[.ref e, v], []⟩) R ⟨hp, g, d, t, os⟩ := by
  obtain ⟨oc, od, kV, doc, pm, an, ct, osl, cc, cda, ccl, cdd, vs, ccs, file, tf, cl, cld, csl, lk, hcd, lcd, hvs, hfile, lcc⟩ := X.fn
  obtain ⟨p0, p1, p2, p3, p4, p5, p6, p7, p8, p9, msg, j, pl, eB, hmc⟩ := S.body
  obtain ⟨ar, har, hself⟩ := S.ar
  have hkin : K.In hp := hm.kin.keeps hb
  obtain ⟨nm, q', N, bs, bm, sn, sub, ab, col, dd, k0, k1, k2, k3, k5, hK, hbm⟩ := X.oex.cls
  have hcl : clsIn K C = some { name := nm, bases := bs, mro := .ref C :: bm, ns := N, qualname := q', hasDict := true, slotNames := sn, subclasses := sub, abstract := ab, collection := col, hasDel := false } := by unfold clsIn; rw [hK] <;> rfl
  refine ks_codeAny_call_defAt (fd := ksFn "__init__" q (defArgs st) (defBody st) (defScope st) .none kV doc pm an (.ref cda) ct cc) (body := defBody st) (binds := [(("self" : Str), .ref e), (pn, v)]) hd (hkin _ _ lk) rfl (hm.nolimit.keeps hb) (codeRec_of hkin hcd) rfl
    (BindsTo.of_eq (S.bind _ _ _ _ _ _ _ _ _)) S.nc ?_ (fun h₁ hns hk => ?_) S.co S.gen S.kind
  · intro x hx
    rcases List.mem_cons.mp hx with rfl | hx
    · exact S.h1
    · rw [List.mem_singleton.mp hx]; exact S.h2
  have K1 : K.In h₁ := hkin.keeps hk
  have he1 := hk _ _ he
  have hl2 : hp.objs.size ≤ h₁.objs.size := by
    obtain ⟨o, es, ep, ho, _⟩ := hns
    exact Nat.le_of_lt (Heap.lt_size (show h₁.get? hp.objs.size = some o from ho))
  have hbs : ∀ b o, base.get? b = some o → h₁.get? b = some o := fun b o z => hk b o (hb b o z)
  have mself : ([(("self" : Str), Value.ref e), (pn, v)].reverse.lookup ("self" : Str)) = some (.ref e) := by
    show List.lookup ("self" : Str) [(pn, v), (("self" : Str), Value.ref e)] = _
    have : (("self" : Str) == pn) = false := by
      rw [Bool.eq_false_iff]
      intro z
      have := S.ne
      rw [← eq_of_beq z] at this
      simp at this
    rw [List.lookup_cons, this, List.lookup_cons, beq_self_eq_true]
  have mpn : ([(("self" : Str), Value.ref e), (pn, v)].reverse.lookup pn) = some v := by
    show List.lookup pn [(pn, v), (("self" : Str), Value.ref e)] = _
    rw [List.lookup_cons, beq_self_eq_true]
  rw [eB]
  refine ks_wpAt_execs_cons (ks_wpAt_Expr_any (ks_wpAt_MethodCall (pl := pl) ?_ (hmc _)) ?hi ?hs)
  case hi => exact quiet_of S.kind
  case hs => rfl
  refine ks_wpAt_super_base S.hs S.hc rfl rfl (K1 _ _ lk) rfl har rfl (K1 _ _ lcd) rfl hvs hfile X.top ?_
  obtain ⟨mb, hb1, hb2⟩ := hm.blt
  refine ks_loadName_global S.kind S.hs (PySem.Calls.loadGlobal_builtin (hm.glob.keeps hbs) X.mgS (hb1.keeps hbs) ((hb2 _ (by decide +kernel)).trans (by decide +kernel)) ⟨rfl, ?_⟩)
  refine wpAny_loadName_free S.kind S.hc rfl ⟨_, K1 _ _ lcc, rfl⟩ ?_
  rw [hself]
  refine wpAny_loadName_local S.kind S.h1 hns mself ?_
  have hC := K1 _ _ hK
  refine ks_wpAny_isType_cls hC rfl ⟨rfl, ?_⟩
  refine ks_wpAny_call_super hC rfl he1 rfl (fun c z => by cases z) (looks_mroIn K1 X.self) fun h₂ hso k2 => ?_
  have K2 : K.In h₂ := K1.keeps k2
  have he2 := k2 _ _ he1
  have I2 : InstAt h₂ e (PySem.HandSPX.excO C t0) C none := ⟨he2, rfl, rfl, trivial⟩
  refine kxs_getMethod kxs_ValueError hso (looks_opaque K2 X.third) (l₀ := .ref C :: bm) ?_ rfl K2 ?_ (I2.type.andThen (looks_subIn K2 X.sub)) (ks_ne K2 I2 hcl) rfl ?_
  · exact (looks_clsIn K2 hcl).andThen .now
  · have z := X.sup
    unfold ks_superIn at z
    rw [hcl] at z
    exact z
  have hmw : (h₂.push (kxs_mw "ValueError.__init__" e)).get? h₂.objs.size = some (kxs_mw "ValueError.__init__" e) := Heap.get?_push_size _ rfl
  have k3 : ∀ b o, h₂.get? b = some o → (h₂.push (kxs_mw "ValueError.__init__" e)).get? b = some o := fun b o z => Heap.get?_push_of_some _ z
  refine kxs_callWith (i := "ValueError.__init__") (x := e) (by rfl) ?_
  refine PySem.Calls.evalArgs_plain (PySem.Calls.spliced_cons (PySem.Calls.Constant_str (k := j) (pos := p3) (PySem.Calls.spliced_nil ⟨hmw, ?_⟩)))
  have he3 := k3 _ _ he2
  have K3 : K.In (h₂.push (kxs_mw "ValueError.__init__" e)) := K2.keeps k3
  refine mw_call K3 X.oex hmw he3 (by show 1 ≤ sizeLine; rw [sizeLine_eq]; decide) fun h₄ t1 k4 he4 => ?_
  have knew : ∀ b o, b ≠ e → h₁.get? b = some o → h₄.get? b = some o := fun b o hne z => k4 b o hne (k3 _ _ (k2 _ _ z))
  have K4 : K.In h₄ := fun b o z => k4 b o (fun y => by
    have y2 := hm.kin b o z
    rw [y, hbe] at y2
    cases y2) (K3 b o z)
  have hLe : hp.objs.size ≠ e := Nat.ne_of_gt (Heap.lt_size he)
  have hns4 : h₄.Ns hp.objs.size _ := hns.at fun o z => knew _ o hLe z
  refine ks_wpAt_execs_cons (ks_wpAt_Assign_Attr (wpAt_of_wpAny (wpAny_Name (wpAny_loadName_local S.kind S.h2 hns4 mpn (wpAny_Name (wpAny_loadName_local S.kind S.h1 hns4 mself ?_) (by decide))) S.d1)) rfl)
  refine set_plain K4 (ox := PySem.HandSPX.excO C t1) (od := none) ⟨he4, rfl, rfl, trivial⟩ X.oex.sa ?_
  refine PySem.HandSPX.exc_osa K4 he4 hcl (by exact hbm) rfl X.noF fun h' tk' dx k dn dne hx hn => ?_
  have hL4 : hp.objs.size < h₄.objs.size := hns4.lt
  exact wpAt_of_wpAny (wpAny_execs_nil (hR h' tk' dx t1 (fun b o hb ho => k b o hb (knew b o hb (hk b o ho))) (Nat.le_trans (Nat.le_of_lt hL4) dn) hx hn))
end
/-! ### raise C(e) -/
def one1 (F : V → Prop) : List V → Prop
  | [y] => F y
  | _ => False
theorem one1_inv {F : V → Prop} : ∀ {vs : List V}, one1 F vs → ∃ y, vs = [y] ∧ F y
  | [y], h => ⟨y, rfl, h⟩
  | [], h => h.elim
  | _ :: _ :: _, h => h.elim
/-- C(e) with the field f -/
def tMkF (C : Addr) (f : Str) (te : TE) : L2.St → Hp → XK → Prop := fun σ H Q => te σ H fun y H1 => ∀ d, H1 d = none → Q (.ref C) (some d) (upd H1 d (.xd [(f, y)]))
theorem pmk_ks {X : Cx} {C fI : Addr} {q pn f x : Str} {st : Stmt} {k : Nat} {e : Expr} {te : TE} {p pos : Pos} (T : ExcK X.prog X.K X.mg C fI q st f) (S : InitS st q pn f) (hr : Room (k + 1) X.A) (hg : Gl X x) (hm : X.mg x = some (.ref C)) (he : PE X e te)
    (hdb : (x == ("__debug__" : Str)) = false := by decide) (hs1 : starEach [e] X.env = (false, eval e X.env) :: starEach [] X.env := by rfl) : PMk X (.Call (.Name x p) [e] [] pos) (tMkF C f te) := by
  intro pins s σ H Q I h
  obtain ⟨nm, q', N, bs, bm, sn, sub, ab, col, dd, k0, k1, k2, k3, k5, hK, hbm⟩ := T.oex.cls
  have ha : PA X [e] (tCons te tNil) := pa_cons he pa_nil hs1
  refine wpAny_Call_Name_kw (ld_glob I hg hm ?_ hdb)
  refine PySem.W.callWith_K (h₀ := X.base) I.ok.mod.kin T.oex.kC (thn (ha.run pos pins s σ H (fun vs H1 => one1 (fun y => ∀ d, H1 d = none → Q (.ref C) (some d) (upd H1 d (.xd [(f, y)]))) vs) I h) fun us s1 ⟨vs, H1, I1, r1, q1⟩ => ⟨I1.kIn, ?_⟩) hs1 rfl
  obtain ⟨y, rfl, q1⟩ := one1_inv q1
  obtain ⟨u, rfl, ry⟩ := r1.one
  obtain ⟨hp, g, dr, tk, os⟩ := s1
  have kk : ∀ b o, hp.get? b = some o → ((hp.push (PySem.W.kdv_tup [u])).push (PySem.HandSPX.excO C hp.objs.size)).get? b = some o := fun b o z => Heap.get?_push_of_some _ (Heap.get?_push_of_some _ z)
  have hget : ((hp.push (PySem.W.kdv_tup [u])).push (PySem.HandSPX.excO C hp.objs.size)).get? (hp.objs.size + 1) = some (PySem.HandSPX.excO C hp.objs.size) := by heap_get
  have hbase : X.base.get? (hp.objs.size + 1) = none := by
    cases z : X.base.get? (hp.objs.size + 1) with
    | none => rfl
    | some o => exact absurd (Heap.lt_size (I1.bk _ _ z)) (Nat.not_lt.mpr (Nat.le_succ _))
  refine wpAny_call (PySem.HandSPX.call_own F.excBase_ValueError (fun Y => PySem.HandSPX.refsVE_contains Y bm hbm) (I1.kIn _ _ hK) (PySem.W.looks_findIn I1.kIn T.init) (fun self => PySem.W.bind_fn I1.kIn self T.ty) (by show 1 ≤ sizeLine; rw [sizeLine_eq]; decide)
    (init_run T S I1.mod (fun b o z => kk b o (I1.bk b o z)) hbase (hr.make C [u] []).depth hget fun h' tk' dx t1 k hdx hx hn => ?_))
  obtain ⟨G, g1, g2⟩ := restrict h' fun b => decide (b ≠ hp.objs.size + 1)
  have gk : ∀ b, b ≠ hp.objs.size + 1 → G.get? b = h'.get? b := fun b hb => g1 b (decide_eq_true hb)
  have ge : G.get? (hp.objs.size + 1) = none := g2 _ (by simp)
  have nd : H1 dx = none := I1.hok.fresh (Nat.le_trans (by
    show hp.objs.size ≤ ((hp.push (PySem.W.kdv_tup [u])).push (PySem.HandSPX.excO C hp.objs.size)).objs.size
    rw [Heap.size_push, Heap.size_push]
    omega) hdx)
  have hdxe : dx ≠ hp.objs.size + 1 := fun z => by
    obtain ⟨o, es, ep, ho, hd, _⟩ := hn
    rw [z, hx] at ho
    have := Option.some.inj ho
    subst this
    cases hd
  have nlt : ∀ {b : Addr} {o : Obj}, hp.get? b = some o → b ≠ hp.objs.size + 1 := fun {b o} z y => by
    have := Heap.lt_size z
    rw [y] at this
    exact absurd this (Nat.not_lt.mpr (Nat.le_succ _))
  have kG : ∀ b o, hp.get? b = some o → G.get? b = some o := fun b o z => by
    rw [gk b (nlt z)]
    exact k b o (nlt z) (kk b o z)
  have obj : ObjOk X.prog X.w (upd H1 dx (.xd [(f, y)])) G dx (.xd [(f, y)]) := ⟨_, hn.at fun o z => (gk dx hdxe).trans z, relO_put (fs := []) ry fun _ => True.intro⟩
  have J : Inv X pins σ (upd H1 dx (.xd [(f, y)])) ⟨G, g, dr, tk', os⟩ := I1.laid (t' := tk') (a := dx) (h' := G) kG (Nat.le_trans (by
    show hp.objs.size ≤ ((hp.push (PySem.W.kdv_tup [u])).push (PySem.HandSPX.excO C hp.objs.size)).objs.size
    rw [Heap.size_push, Heap.size_push]
    omega) hdx) obj
  refine ⟨rfl, hp.objs.size + 1, _, _, ⟨G, g, dr, tk', os⟩, _, .ref C, some dx, rfl, J, fun b o z => ?_, ge, hx, ⟨rfl, rfl⟩, rfl, rfl, ?_, rfl, I1.bare, raises_own T.oex.exC T.oex.tyC, q1 dx nd⟩
  · by_cases hb : b = hp.objs.size + 1
    · rw [hb, ge] at z; cases z
    · exact (gk b hb).symm.trans z
  · rw [upd_ne (Ne.symm hdxe)]
    exact I1.hok.fresh (Nat.le_succ _)
end RcX
end
section
set_option Elab.async false
set_option linter.all false
set_option maxRecDepth 100000
set_option maxHeartbeats 4000000
namespace RcX
open PySem PySem.Spec PyProof.Rows L2
open RC (Rl)
structure Te (P : Program) (K : PySem.W.Frag) (mg : Str → Option Value) (CC CR : Addr) : Prop where
  c : ∃ fI, ExcK P K mg CC fI "Competing.__init__" (inC 25 0) "pair"
  r : ∃ fI, ExcK P K mg CR fI "Ringed.__init__" (inC 26 0) "ring"
  mgC : mg "Competing" = some (.ref CC)
  mgR : mg "Ringed" = some (.ref CR)
section
variable {P : Program} {w : World} {K : PySem.W.Frag} {mg : Str → Option Value} {base : Heap} {a : Ads} {CC CR : Addr}
def Raised (K : PySem.W.Frag) (C : Addr) (f : Str) (g : List Int) (H : Hp) (E : XK) : Prop := ∀ (d : Addr) (v : V) (H' : Hp), Same H H' → H d = none → H' d = some (.xd [(f, v)]) → Dp K H' v (tupD g) → E (.ref C) (some d) H'
def spNoPair (K : PySem.W.Frag) (C CC : Addr) : Sp := fun vs H Q E => ∃ (t : Addr) (R : List (Int × Int)), vs = [.ref t] ∧ TabAt C H t R ∧ (RC.groups R = [] → ∀ H', Same H H' → Q .non H') ∧ ∀ g Gs, RC.groups R = g :: Gs → Raised K CC "pair" (g.take 2) H E
theorem sc59 : FnScope ["table", "groups"] ["table"] (defScope (topS 59)) := ⟨rfl, rfl, rfl, by decide +kernel, rfl, by decide +kernel, by decide +kernel⟩
theorem ok_no_pair (T : Tx K mg a) (Z : Te P K mg CC CR) : Fnc P w K mg base (L2.CX P w) 6 "need_no_pair" (spNoPair K a.T CC) := by
  have cg : Fnc P w K mg base CX0 5 "groups_of" (spLists K a.T groupsD) := ok_groups_of T
  obtain ⟨fI, xk⟩ := Z.c
  refine fnc_ofX T.d_need_no_pair sc59 (fun _ _ _ _ _ _ us hl => match us, hl with | [_], _ => rfl) (fun vs H Q E h => ?_) fun f cdv A outer s H vs Q E hr h => ?_
  · obtain ⟨t, R, rfl, _⟩ := h; rfl
  · obtain ⟨t, R, rfl, S, k1, k2⟩ := h
    have hu := hr.units
    refine ⟨_, pss_cons (ps_set (i := 1) sc59.nd rfl (.inl rfl) (pe_f cg hr (by decide) (E := E0) pass0 (by rfl) (pa_cons (pv 0) pa_nil)))
      (pss_one (ps_if (pt_cmpR (op_neD hu) (pv 1) (pe_lst pa_nil) (nomark _))
        (pss_one (ps_raise rfl (takes_of rfl rfl rfl rfl) (pmk_ks xk initS25 hr (by rfl) Z.mgC (pe_slice sl_tupA (pe_ix ix_list (pv 1) pe_int (fun _ _ => rfl)) po_none (po_some pe_int)))))
        pss_nil)), ?_⟩
    refine ⟨_, rfl, t, R, rfl, S, fun pg xg H1 s1 ng hg hdg => ?_⟩
    refine ⟨_, rfl, Nat.zero_le _, fun e ne => ?_⟩
    have s2 : Same H1 (upd H1 e (.lst [])) := Same.new ne
    have s12 := s1.trans s2
    refine ne_nil (s2 _ _ hg) (DpAll.same s2 _ _ hdg) upd_same ⟨_, rfl, ?_⟩
    cases hG : RC.groups R with
    | nil => exact iteF (k1 hG _ s12)
    | cons g Gs =>
      have hdg' : DpAll K (upd H1 e (.lst [])) xg ((g :: Gs).map tupD) := by
        rw [← hG]; exact DpAll.same s2 _ _ hdg
      obtain ⟨u, xs', rfl, hu'⟩ := hd_inv hdg'
      refine iteT ⟨_, rfl, pg, _, 0, .ref u, rfl, rfl, SqL.of (s2 _ _ hg), atI_nat (xs := V.ref u :: xs') (j := 0) (v := V.ref u) rfl, 2, rfl, ?_⟩
      refine take2 hu' fun q H4 s4 _ hq => fun d nd => ?_
      have s5 : Same H4 (upd H4 d (.xd [("pair", .ref q)])) := Same.new nd
      exact k2 g Gs hG d (.ref q) _ ((s12.trans s4).trans s5) ((s12.trans s4).free nd) upd_same (.tup (seqT s5 hq) (dp_ints _))
def spNoRing (K : PySem.W.Frag) (C CR : Addr) : Sp := fun vs H Q E => ∃ (t : Addr) (R : List (Int × Int)), vs = [.ref t] ∧ TabAt C H t R ∧ (RC.rings R = [] → ∀ H', Same H H' → Q .non H') ∧ ∀ g Gs, RC.rings R = g :: Gs → Raised K CR "ring" g H E
theorem sc60 : FnScope ["table", "rings"] ["table"] (defScope (topS 60)) := ⟨rfl, rfl, rfl, by decide +kernel, rfl, by decide +kernel, by decide +kernel⟩
theorem ok_no_ring (T : Tx K mg a) (Z : Te P K mg CC CR) : Fnc P w K mg base (L2.CX P w) 9 "need_no_ring" (spNoRing K a.T CR) := by
  have cg : Fnc P w K mg base CX0 8 "rings_of" (spLists K a.T ringsD) := ok_rings_of T
  obtain ⟨fI, xk⟩ := Z.r
  refine fnc_ofX T.d_need_no_ring sc60 (fun _ _ _ _ _ _ us hl => match us, hl with | [_], _ => rfl) (fun vs H Q E h => ?_) fun f cdv A outer s H vs Q E hr h => ?_
  · obtain ⟨t, R, rfl, _⟩ := h; rfl
  · obtain ⟨t, R, rfl, S, k1, k2⟩ := h
    have hu := hr.units
    refine ⟨_, pss_cons (ps_set (i := 1) sc60.nd rfl (.inl rfl) (pe_f cg hr (by decide) (E := E0) pass0 (by rfl) (pa_cons (pv 0) pa_nil)))
      (pss_one (ps_if (pt_cmpR (op_neD hu) (pv 1) (pe_lst pa_nil) (nomark _))
        (pss_one (ps_raise rfl (takes_of rfl rfl rfl rfl) (pmk_ks xk initS26 hr (by rfl) Z.mgR (pe_ix ix_list (pv 1) pe_int (fun _ _ => rfl)))))
        pss_nil)), ?_⟩
    refine ⟨_, rfl, t, R, rfl, S, fun pg xg H1 s1 ng hg hdg => ?_⟩
    refine ⟨_, rfl, Nat.zero_le _, fun e ne => ?_⟩
    have s2 : Same H1 (upd H1 e (.lst [])) := Same.new ne
    have s12 := s1.trans s2
    refine ne_nil (s2 _ _ hg) (DpAll.same s2 _ _ hdg) upd_same ⟨_, rfl, ?_⟩
    cases hG : RC.rings R with
    | nil => exact iteF (k1 hG _ s12)
    | cons g Gs =>
      have hdg' : DpAll K (upd H1 e (.lst [])) xg ((g :: Gs).map tupD) := by
        rw [← hG]; exact DpAll.same s2 _ _ hdg
      obtain ⟨u, xs', rfl, hu'⟩ := hd_inv hdg'
      refine iteT ⟨_, rfl, pg, _, 0, .ref u, rfl, rfl, SqL.of (s2 _ _ hg), atI_nat (xs := V.ref u :: xs') (j := 0) (v := V.ref u) rfl, fun d nd => ?_⟩
      have s5 : Same (upd H1 e (.lst [])) (upd (upd H1 e (.lst [])) d (.xd [("ring", .ref u)])) := Same.new nd
      exact k2 g Gs hG d (.ref u) _ (s12.trans s5) (s12.free nd) upd_same (.tup (seqT s5 hu') (dp_ints _))
/-! ### stages -/
def spStages (K : PySem.W.Frag) (C CC CR : Addr) : Sp := fun vs H Q E => ∃ (t : Addr) (R : List (Int × Int)), vs = [.ref t] ∧ TabAt C H t R ∧ match RC.stages R with
  | .compete g => Raised K CC "pair" g H E
  | .ring g => Raised K CR "ring" g H E
  | .ok l => ∀ p H', Same H H' → Dp K H' (.ref p) (.tuple (l.map tupD)) → Q (.ref p) H'
structure LZ (H : Hp) (p : Addr) (Z : List (Addr × List Int)) : Prop where
  l : H p = some (.lst (Z.map fun z => V.ref z.1))
  nd : (Z.map (·.1)).Nodup
  ls : ∀ z ∈ Z, H z.1 = some (.lst (iv z.2)) ∧ z.1 ≠ p
theorem LZ.same {H H' : Hp} {p : Addr} {Z : List (Addr × List Int)} (e : Same H H') (g : LZ H p Z) : LZ H' p Z := ⟨e _ _ g.l, g.nd, fun z hz => ⟨e _ _ (g.ls z hz).1, (g.ls z hz).2⟩⟩
theorem LZ.push {H : Hp} {p e : Addr} {Z : List (Addr × List Int)} (g : LZ H p Z) (ne : H e = none) : LZ (upd (upd H e (.lst [])) p (.lst ((Z.map fun z => V.ref z.1) ++ [.ref e]))) p (Z ++ [(e, [])]) := by
  have hpe : p ≠ e := ne_of_none g.l ne
  refine ⟨by rw [upd_same, List.map_append]; rfl, ?_, fun z hz => ?_⟩
  · rw [List.map_append, List.nodup_append]
    refine ⟨g.nd, by simp, fun x hx y hy => ?_⟩
    rw [List.map_cons, List.map_nil, List.mem_singleton] at hy
    subst hy
    obtain ⟨z, hz, rfl⟩ := List.mem_map.mp hx
    exact ne_of_none (g.ls z hz).1 ne
  · rcases List.mem_append.mp hz with hz | hz
    · have h := g.ls z hz
      exact ⟨by rw [upd_ne h.2, upd_ne (ne_of_none h.1 ne)]; exact h.1, h.2⟩
    · rw [List.mem_singleton.mp hz]
      exact ⟨by rw [upd_ne hpe.symm, upd_same]; rfl, hpe.symm⟩
theorem LZ.add {H : Hp} {p ad : Addr} {ks : List Int} {k : Int} {Z1 Z2 : List (Addr × List Int)} (g : LZ H p (Z1 ++ (ad, ks) :: Z2)) : LZ (upd H ad (.lst (iv ks ++ [.int k]))) p (Z1 ++ (ad, ks ++ [k]) :: Z2) := by
  have hd := g.ls (ad, ks) (by simp)
  have hnd := g.nd
  rw [List.map_append, List.map_cons, List.nodup_append, List.nodup_cons] at hnd
  obtain ⟨n1, ⟨n2, n3⟩, n4⟩ := hnd
  refine ⟨?_, ?_, fun z hz => ?_⟩
  · rw [upd_ne hd.2.symm, g.l, List.map_append, List.map_append]; rfl
  · rw [List.map_append, List.map_cons, List.nodup_append, List.nodup_cons]
    exact ⟨n1, ⟨n2, n3⟩, n4⟩
  · rcases List.mem_append.mp hz with hz | hz
    · have : z.1 ≠ ad := n4 z.1 (List.mem_map.mpr ⟨z, hz, rfl⟩) ad List.mem_cons_self
      have h := g.ls z (List.mem_append_left _ hz)
      exact ⟨by rw [upd_ne this]; exact h.1, h.2⟩
    · rcases List.mem_cons.mp hz with rfl | hz
      · exact ⟨by rw [upd_same, iv_snoc], hd.2⟩
      · have : z.1 ≠ ad := fun e => n2 (e ▸ List.mem_map.mpr ⟨z, hz, rfl⟩)
        have h := g.ls z (List.mem_append_right _ (List.mem_cons_of_mem _ hz))
        exact ⟨by rw [upd_ne this]; exact h.1, h.2⟩
theorem stages_snoc {R : List (Int × Int)} {l : List Int} {i : Nat} {k : Int} (h : l[i]? = some k) : (l.take (i + 1)).foldl (RC.stageStep R) [] = RC.stageStep R ((l.take i).foldl (RC.stageStep R) []) k := by
  rw [take_snoc h, List.foldl_append]; rfl
theorem modify_mid {α : Type} (f : α → α) (x : α) (m : List α) : ∀ l : List α, (l ++ x :: m).modify l.length f = l ++ f x :: m
  | [] => rfl
  | y :: l => by
    rw [List.cons_append, List.length_cons, List.modify_succ_cons, modify_mid f x m l]
    rfl
theorem sc70 : FnScope ["table", "found", "key", "depth", "rows"] ["table"] (defScope (topS 70)) := ⟨rfl, rfl, rfl, by decide +kernel, rfl, by decide +kernel, by decide +kernel⟩
theorem ok_stages (T : Tx K mg a) (Z : Te P K mg CC CR) : Fnc P w K mg base (L2.CX P w) 10 "stages" (spStages K a.T CC CR) := by
  have cn : Fnc P w K mg base CX0 1 "need_table" (spNeed a.T) := ok_need_table T
  have c1 : Fnc P w K mg base (L2.CX P w) 6 "need_no_pair" (spNoPair K a.T CC) := ok_no_pair T Z
  have c2 : Fnc P w K mg base (L2.CX P w) 9 "need_no_ring" (spNoRing K a.T CR) := ok_no_ring T Z
  have ck : Fnc P w K mg base CX0 4 "keys_of" (spKeys a.T) := ok_keys_of T
  have cp : Fnc P w K mg base CX0 7 "path_of" (spPath a.T) := ok_path_of T
  refine fnc_ofX T.d_stages sc70 (fun _ _ _ _ _ _ us hl => match us, hl with | [_], _ => rfl) (fun vs H Q E h => ?_) fun f cdv A outer s H vs Q E hr h => ?_
  · obtain ⟨t, R, rfl, _⟩ := h; rfl
  · obtain ⟨t, R, rfl, S, kq⟩ := h
    have ok := S.ok
    refine ⟨_, pss_cons (ps_expr (pe_f cn hr (by decide) (E := E0) pass0 (by rfl) (pa_cons (pv 0) pa_nil)))
      (pss_cons (ps_expr (pe_f c1 hr (by decide) (E := E) (passes_call (takes_of rfl rfl rfl rfl) (fun _ _ _ _ h => h)) (by rfl) (pa_cons (pv 0) pa_nil)))
      (pss_cons (ps_expr (pe_f c2 hr (by decide) (E := E) (passes_call (takes_of rfl rfl rfl rfl) (fun _ _ _ _ h => h)) (by rfl) (pa_cons (pv 0) pa_nil)))
      (PSs.nox (pss_cons (ps_set (i := 1) sc70.nd rfl (.inl rfl) (pe_lst pa_nil))
      (pss_cons (ps_for PassesOwn.never rfl (pi_list (pe_f ck hr (by decide) (E := E0) pass0 (by rfl) (pa_cons (pv 0) pa_nil))) (pg_name (i := 2) sc70.nd rfl (.inl rfl))
        (pss_cons (ps_set (i := 3) sc70.nd rfl (.inl rfl) (pe_callB call_len_seq (by rfl) T.len PySem.boot_len (pa_cons (pe_f cp hr (by decide) (E := E0) pass0 (by rfl) (pa_cons (pv 0) (pa_cons (pv 2) pa_nil))) pa_nil)))
        (pss_cons (ps_while PassesOwn.never (pt_cmpR op_lt (pe_callB call_len_seq (by rfl) T.len PySem.boot_len (pa_cons (pv 1) pa_nil)) (pv 3) (nomark _))
          (pss_one (ps_expr (pe_bm PySem.F.plainAttrs_list PySem.F.slot_list_append PySem.F.type_list_append mt_append (pv 1) (pa_cons (pe_lst pa_nil) pa_nil)))))
        (pss_one (ps_expr (pe_bm PySem.F.plainAttrs_list PySem.F.slot_list_append PySem.F.type_list_append mt_append (pe_ix ix_list (pv 1) (pe_op op_sub (pv 3) pe_int) (fun _ _ => rfl)) (pa_cons (pv 2) pa_nil)))))))
      (pss_one (ps_ret (pe_callTy call_tuple_of (by rfl) T.tuple PyProof.Rows.boot_tuple (pa_cons
        (pe_lc (own := [("rows", 4)]) (g := gName 4) (tt := tYes) rfl sc70.nd (pi_list (pv 1)) (blkOk_by (N := ["table", "found", "key", "depth", "rows"]) (sc := defScope (topS 70)) (by decide +kernel))
          (fun _ _ _ _ _ => pg_name (i := 4) sc70.nd rfl (Or.inl rfl)) (fun _ _ _ _ _ => pts_nil)
          (fun _ _ _ _ _ => pe_callTy (call_tupK (K := K)) (by rfl) T.tuple PyProof.Rows.boot_tuple (pa_cons (pv 4) pa_nil))) pa_nil))))))))), ?_⟩
    unfold RC.stages at kq
    refine ⟨_, rfl, t, R, rfl, S, _, rfl, t, R, rfl, S, fun hG H1 s1 => ?_, fun g Gs hG => ?_⟩
    rotate_left
    · rw [hG] at kq
      exact kq
    rw [hG] at kq
    refine ⟨_, rfl, t, R, rfl, S.same s1, fun hR H2 s2 => ?_, fun g Gs hR => ?_⟩
    rotate_left
    · rw [hR] at kq
      exact fun d v H' s' nd hd hv => kq d v H' (s1.trans s') (s1.free nd) hd hv
    rw [hR] at kq
    have kq' : ∀ p H', Same H H' → Dp K H' (.ref p) (.tuple ((RC.stagesOk R).map tupD)) → Q (.ref p) H' := kq
    have s02 := s1.trans s2
    refine ⟨by show 0 ≤ sizeLine; exact Nat.zero_le _, fun p np => ?_⟩
    have s3 : Same H2 (upd H2 p (.lst [])) := Same.new np
    have s03 := s02.trans s3
    have fp : H p = none := s02.free np
    refine ⟨_, rfl, t, R, rfl, S.same s03, fun q H4 s4 nq hq => ⟨q, rfl, ⟨_, SqL.of hq⟩, ?_⟩⟩
    have hpq : p ≠ q := ne_of_none upd_same nq
    have hk30 : (RC.keys R).length ≤ 30 := by rw [keys_len]; exact ok.len
    have hR30 : R.length ≤ 30 := ok.len
    refine for_list (xs := iv (RC.keys R)) (fun i σ H5 => ∃ v2 v3 Zs, σ = [some (.ref t), some (.ref p), v2, v3, none] ∧ Same H H5 ∧ H5 q = some (.lst (iv (RC.keys R))) ∧ LZ H5 p Zs ∧ Zs.map (·.2) = ((RC.keys R).take i).foldl (RC.stageStep R) [] ∧ (∀ z ∈ Zs, H z.1 = none ∧ z.1 ≠ q ∧ z.2.length ≤ i) ∧ Zs.length ≤ 30)
      ⟨none, none, [], rfl, s03.trans s4, hq, ⟨s4 _ _ upd_same, List.nodup_nil, (fun z hz => by cases hz)⟩, rfl, (fun z hz => by cases hz), Nat.zero_le _⟩ (fun i σ H5 _ ⟨_, _, _, _, _, h, _⟩ => SqL.of h) ?_ ?_
    · rintro i x σ H5 hi ⟨v2, v3, Zs, rfl, s5, hq5, g, eZ, fr, hZ30⟩
      obtain ⟨k, hki, rfl⟩ := iv_get hi
      have hk : k ∈ RC.keys R := List.mem_of_getElem? hki
      have hi30 : i < (RC.keys R).length := (List.getElem?_eq_some_iff.mp hki).1
      refine ⟨_, rfl, _, rfl, t, R, k, rfl, S.same s5, hk, fun r H6 s6 nr hr6 => ?_⟩
      have ip := RC.isPath hk
      obtain ⟨tl, etl⟩ := ip.cons
      have hpl := ip.len
      have hpos : 0 < (RC.pathOf R k).length := by rw [etl]; exact Nat.succ_pos _
      refine ⟨r, _, rfl, .inl (SqL.of hr6), ?_⟩
      rw [iv_len]
      have g6 := g.same s6
      refine ⟨fun m σ7 H7 => ∃ Z7, σ7 = [some (.ref t), some (.ref p), some (.int k), some (.int ((RC.pathOf R k).length : Nat)), none] ∧ Same H H7 ∧ H7 q = some (.lst (iv (RC.keys R))) ∧ LZ H7 p Z7 ∧ Z7.map (·.2) = Zs.map (·.2) ++ List.replicate (Z7.length - Zs.length) [] ∧ (∀ z ∈ Z7, H z.1 = none ∧ z.1 ≠ q ∧ z.2.length ≤ i) ∧
          Zs.length ≤ Z7.length ∧ Z7.length ≤ max Zs.length (RC.pathOf R k).length ∧ m = 31 - Z7.length,
        ⟨_, Zs, rfl, s5.trans s6, s6 _ _ hq5, g6, by simp, fr, Nat.le_refl _, Nat.le_max_left _ _, rfl⟩, ?_⟩
      rintro m σ7 H7 ⟨Z7, rfl, s7, hq7, g7, e7, fr7, hle, hmx, rfl⟩
      have hZ7 : Z7.length ≤ 30 := Nat.le_trans hmx (Nat.max_le.mpr ⟨hZ30, Nat.le_trans hpl hR30⟩)
      refine ⟨_, rfl, p, _, rfl, .inl (SqL.of g7.l), _, rfl, _, _, rfl, rfl, _, rfl, ?_⟩
      rw [List.length_map]
      by_cases hlt : Z7.length < (RC.pathOf R k).length
      · rw [decide_eq_true (show ((Z7.length : Nat) : Int) < ((RC.pathOf R k).length : Nat) by omega)]
        refine iteT ⟨fun σ' H' => ∃ m', m' < 31 - Z7.length ∧ ∃ Z7, σ' = [some (.ref t), some (.ref p), some (.int k), some (.int ((RC.pathOf R k).length : Nat)), none] ∧ Same H H' ∧ H' q = some (.lst (iv (RC.keys R))) ∧ LZ H' p Z7 ∧ Z7.map (·.2) = Zs.map (·.2) ++ List.replicate (Z7.length - Zs.length) [] ∧ (∀ z ∈ Z7, H z.1 = none ∧ z.1 ≠ q ∧ z.2.length ≤ i) ∧
          Zs.length ≤ Z7.length ∧ Z7.length ≤ max Zs.length (RC.pathOf R k).length ∧ m' = 31 - Z7.length, fun σ' H' h => h, ?_⟩
        refine ⟨_, rfl, .inl ⟨rfl, _, SqL.of g7.l⟩, Nat.zero_le _, fun e ne => ?_⟩
        have s8 : Same H7 (upd H7 e (.lst [])) := Same.new ne
        have hqe : q ≠ e := ne_of_none hq7 ne
        refine ⟨p, _, _, rfl, rfl, s8 _ _ g7.l, by rw [List.length_map]; exact small1000 (by omega), ?_⟩
        refine ⟨31 - (Z7.length + 1), by omega, Z7 ++ [(e, [])], rfl, (s7.trans s8).up fp, by rw [upd_ne hpq.symm]; exact s8 _ _ hq7, g7.push ne, ?_, fun z hz => ?_, ?_, ?_, ?_⟩
        · rw [List.map_append, e7, List.length_append, List.length_singleton, show Z7.length + 1 - Zs.length = (Z7.length - Zs.length) + 1 by omega, List.replicate_succ', List.append_assoc]
          rfl
        · rcases List.mem_append.mp hz with hz | hz
          · exact fr7 z hz
          · rw [List.mem_singleton.mp hz]
            exact ⟨s7.free ne, hqe.symm, Nat.zero_le _⟩
        · rw [List.length_append]; omega
        · rw [List.length_append, List.length_singleton]; omega
        · rw [List.length_append, List.length_singleton]
      · rw [decide_eq_false (show ¬ ((Z7.length : Nat) : Int) < ((RC.pathOf R k).length : Nat) by omega)]
        have hix : (RC.pathOf R k).length - 1 < Z7.length := by omega
        obtain ⟨⟨ad, ks⟩, hz⟩ : ∃ z, Z7[(RC.pathOf R k).length - 1]? = some z := ⟨_, List.getElem?_eq_getElem hix⟩
        have hsp : Z7 = Z7.take ((RC.pathOf R k).length - 1) ++ (ad, ks) :: Z7.drop ((RC.pathOf R k).length - 1 + 1) := by
          have := List.drop_eq_getElem_cons hix
          rw [(List.getElem?_eq_some_iff.mp hz).2] at this
          rw [← this, List.take_append_drop]
        have hzm := List.mem_of_getElem? hz
        have had := (g7.ls _ hzm).1
        have fa := fr7 _ hzm
        have hpad : Z7.map (·.2) = RC.padTo (RC.pathOf R k).length (Zs.map (·.2)) := by
          rw [e7]
          unfold RC.padTo
          rw [List.length_map]
          congr 2
          omega
        have hat : atI (Z7.map fun z => V.ref z.1) (((RC.pathOf R k).length : Nat) - 1 : Int) = some (.ref ad) := by
          have e1 : ((((RC.pathOf R k).length : Nat) : Int) - 1) = (((RC.pathOf R k).length - 1 : Nat) : Int) := by omega
          rw [e1]
          refine atI_nat ?_
          rw [List.getElem?_map, hz]; rfl
        refine iteF ⟨_, rfl, _, rfl, _, _, rfl, rfl, p, _, _, .ref ad, rfl, rfl, SqL.of g7.l, hat, .inl ⟨rfl, _, SqL.of had⟩, _, rfl, ad, _, _, rfl, rfl, had, by rw [iv_len]; exact small1000 (by have := fa.2.2; show ks.length ≤ 1000; have h9 : ks.length ≤ i := this; omega), ?_⟩
        have gA : LZ (upd H7 ad (.lst (iv ks ++ [.int k]))) p (Z7.take ((RC.pathOf R k).length - 1) ++ (ad, ks ++ [k]) :: Z7.drop ((RC.pathOf R k).length - 1 + 1)) := by
          have z := g7
          rw [hsp] at z
          exact z.add
        refine ⟨_, _, _, rfl, s7.up fa.1, by rw [upd_ne fa.2.1.symm]; exact hq7, gA, ?_, fun z hz' => ?_, ?_⟩
        · rw [stages_snoc hki, ← eZ]
          unfold RC.stageStep RC.addAt
          rw [← hpad]
          conv => rhs; rw [hsp]
          rw [List.map_append, List.map_cons, List.map_append, List.map_cons]
          have hlen : (RC.pathOf R k).length - 1 = ((Z7.take ((RC.pathOf R k).length - 1)).map (·.2)).length := by
            rw [List.length_map, List.length_take]; omega
          conv => rhs; arg 2; rw [hlen]
          rw [modify_mid]
        · rcases List.mem_append.mp hz' with hz' | hz'
          · have := fr7 z (List.mem_of_mem_take hz')
            exact ⟨this.1, this.2.1, Nat.le_succ_of_le this.2.2⟩
          · rcases List.mem_cons.mp hz' with rfl | hz'
            · refine ⟨fa.1, fa.2.1, ?_⟩
              show (ks ++ [k]).length ≤ i + 1
              rw [List.length_append]
              exact Nat.succ_le_succ fa.2.2
            · have := fr7 z (List.mem_of_mem_drop hz')
              exact ⟨this.1, this.2.1, Nat.le_succ_of_le this.2.2⟩
        · have : (Z7.take ((RC.pathOf R k).length - 1) ++ (ad, ks ++ [k]) :: Z7.drop ((RC.pathOf R k).length - 1 + 1)).length = Z7.length := by
            conv => rhs; rw [hsp]
            rw [List.length_append, List.length_append, List.length_cons, List.length_cons]
          omega
    · rintro σ H5 ⟨v2, v3, Zs, rfl, s5, hq5, g, eZ, fr, hZ30⟩
      rw [iv_len, List.take_length] at eZ
      refine ⟨_, rfl, p, rfl, ⟨_, SqL.of g.l⟩, fun D hD => ?_⟩
      refine lc_it (walk_list (xs := Zs.map fun z => V.ref z.1)) (fun i H6 => Same H5 H6 ∧ ∃ xs, H6 D = some (.lst xs) ∧ DpAll K H6 xs (((Zs.map (·.2)).take i).map tupD)) ⟨Same.new hD, [], upd_same, .nil⟩ (fun i H6 _ h => SqL.of (h.1 _ _ g.l)) ?_ ?_
      · rintro i x H6 H6' hi ⟨s6, xs, hx, hd⟩ ⟨rfl, hxi⟩
        rw [List.getElem?_map] at hxi
        cases hz : Zs[i]? with
        | none => rw [hz] at hxi; cases hxi
        | some z =>
          rw [hz] at hxi
          obtain rfl : V.ref z.1 = x := Option.some.inj hxi
          have had := s6 _ _ (g.ls z (List.mem_of_getElem? hz)).1
          have hz2 : (Zs.map (·.2))[i]? = some z.2 := by rw [List.getElem?_map, hz]; rfl
          refine ⟨rfl, yes_if ⟨_, rfl, z.1, _, rfl, .inl ⟨SqL.of had, fun u nu => ?_⟩⟩⟩
          have s7 : Same H6' (upd H6' u (.tup (iv z.2))) := Same.new nu
          have hD7 := s7 _ _ hx
          have hxl : xs.length ≤ 30 := by
            have h1 := dpAll_len hd
            rw [List.length_map, List.length_take, List.length_map] at h1
            omega
          refine ⟨xs, hD7, small1000 (by omega), (s6.trans s7).up hD, _, upd_same, ?_⟩
          rw [take_snoc hz2, List.map_append]
          exact DpAll.lu hD7 (NoL_app (NoL.map tup_noL _) (NoL.map tup_noL [z.2])) (dpAll_snoc (DpAll.same s7 _ _ hd) (.tup (.inl (.inl upd_same)) (dp_ints _)))
      · rintro H6 ⟨s6, xs, hx, hd⟩
        have hzl : (Zs.map fun z => V.ref z.1).length = (Zs.map (·.2)).length := by rw [List.length_map, List.length_map]
        rw [hzl, List.take_length, eZ] at hd
        refine ⟨D, xs, rfl, .inl ⟨SqL.of hx, fun u nu => ?_⟩⟩
        have s7 : Same H6 (upd H6 u (.tup xs)) := Same.new nu
        exact kq' u _ ((s5.trans s6).trans s7) (.tup (.inl (.inl upd_same)) (DpAll.same s7 _ _ hd))
end
end RcX
end
section
set_option Elab.async false
set_option linter.all false
set_option maxRecDepth 100000
set_option maxHeartbeats 4000000
namespace RcX
open PySem PySem.Spec PyProof.Rows L2
/-! ### list.count of flat items -/
section
variable {X : Cx}
theorem count_flat {y : V} {uy : Value} : ∀ {its : List Value} {ys : List V}, Vals ys its → ys.all flatV = true → its.countP (eqU y) = ys.countP (fun z => eqV z y)
  | _, _, .nil, _ => rfl
  | _, _, .cons (a := z) (b := u) rz rr, hf => by
    obtain ⟨h1, h2⟩ := Bool.and_eq_true_iff.mp (by rw [← List.all_cons]; exact hf)
    rw [List.countP_cons, List.countP_cons, count_flat (uy := uy) rr h2, eqU_of rz h1]
def rCntF (K : PySem.W.Frag) : V → List V → Hp → VK → Prop := fun x xs H Q => ∃ (p : Addr) (ys : List V) (y : V), x = .ref p ∧ xs = [y] ∧ SqL K H p ys ∧ flatV y = true ∧ ys.all flatV = true ∧ Q (.int (ys.countP fun z => eqV z y : Nat)) H
theorem mt_fcount : MtR X "list.count" (rCntF X.K) := by
  intro pins s σ H x xs v us Q I rx rxs h
  obtain ⟨p, ys, y, rfl, rfl, hs, fy, fys, q⟩ := h
  cases rx
  obtain ⟨u, rfl, ry⟩ := rxs.one
  obtain ⟨its, rv, ⟨⟨cls, dd, data, sl⟩, n, ho, hc, hdn, hd⟩, hlen⟩ := I.list hs
  simp only at hc hd
  subst hc hd
  refine call_meets PySem.F.slot_list_count ⟨_, ho, rfl⟩ PySem.F.entry_list_count (PySem.F.args_list_count_2 _ _) (SeqAt.list_countAt p its.toArray n dd sl u (eqU y)) ⟨ho, (fun u' hu' => mem_eqAt ry fy rv fys u' (by simpa using hu')), ?_⟩
  have ec : its.toArray.toList.countP (eqU y) = ys.countP (fun z => eqV z y) := count_flat (uy := u) rv fys
  refine ⟨.int (ys.countP fun z => eqV z y : Nat), H, I.tok _, ⟨s.toks, ?_⟩, q⟩
  rw [← ec]
end

/-! ### isinstance of an exception that has its dict -/
section
open PySem.W
variable {K : Frag} {x D : Addr}
def HasD (x D : Addr) (h : Heap) : Prop := ∃ ox od, InstAt h x ox D (some od)
theorem kit_exd (C : ExcC K D) : KitX K (.ref x) (.ref D) (HasD x D) where
  ty := fun _ _ _ ⟨_, _, I⟩ => I.type
  it := fun _ _ X _ => by
    have hd := C.hd
    obtain ⟨cdD, hcD, _⟩ := any_some hd
    unfold clsIn at hcD
    split at hcD
    · rename_i ho
      exact fun A' Q' E' s' k q => by
        unfold isType loadHead
        exact wpAny_bind (wpAny_loadPart (k _ _ (X _ _ ho)) (wpAny_pure q))
    · cases hcD
  ne := fun h tp dd its n sl X htp => by
    have hd := C.hd
    obtain ⟨cdD, hcD, _⟩ := any_some hd
    cases hq : (Value.ref D == Value.ref tp) with
    | false => rfl
    | true =>
      obtain rfl : D = tp := Value.ref.inj (beq_iff_eq.mp hq)
      unfold clsIn at hcD
      split at hcD
      · rename_i ho
        cases (X _ _ ho).symm.trans htp
      · cases hcD
  ca := fun {prog w A E Q s} X ⟨ox, od, I⟩ h => by
    have hd := C.hd
    have hf : findObj K D (some od) "__class__" = some (.bind (.builtin "getset_descriptor.__get__") (.builtin "object.__class__")) := findObj_data (by obtain ⟨cd, hc, _⟩ := any_some hd; rw [hc]; rfl) C.ha C.hn C.ht
    obtain ⟨hp, g, d, t, os⟩ := s
    have t0 := I.type (M := model prog w)
    have t1 := looks_findIn (M := model prog w) X C.hg
    have t2 := looks_findIn (M := model prog w) X C.hk
    have t3 := looks_find (M := model prog w) X I hf
    have sub : Looks (model prog w) hp (isInstance (.ref x) (.type "BaseException")) true := t0.andThen (looks_subIn X C.hs)
    have n0 : (false && onTheHeap (Value.builtin "BaseException.__getattribute__")) = false := rfl
    have n1 : (onTheHeap (Value.ref D) && Value.builtin "BaseException.__getattribute__" == Value.builtin "object.__getattribute__") = false := by
      rw [show (Value.builtin "BaseException.__getattribute__" == Value.builtin "object.__getattribute__") = false from by decide +kernel]
      rfl
    unfold getAttr? getAttrBy? getAttrBy
    refine wpAny_bind (wpAny_mkText (wpAny_bind (wpAny_attempt (wpAny_holding (wpAny_bind (t0.at (wpAny_bind (t1.at ?_))))))))
    show wpAny _ _ (if (onTheHeap (Value.ref D) && Value.builtin "BaseException.__getattribute__" == Value.builtin "object.__getattribute__") = true then _ else _) _ _ _
    rw [n1, if_neg Bool.false_ne_true]
    unfold getAttrByItsOwn hookBefore
    refine wpAny_bind ?_
    rw [if_pos (show onTheHeap (Value.ref D) = true from rfl)]
    refine t2.at (wpAny_bind (wpAny_attempt (wpAny_holding ?_)))
    unfold callGetattribute
    rw [n0, if_neg Bool.false_ne_true]
    unfold boundAndCalled
    rw [PySem.F.excAttr_ValueError.ga.bind (.ref x)]
    refine wpAny_bind (wpAny_pure (show wpAny _ _ (call (.builtin "BaseException.__getattribute__") [.ref x, .str "__class__" t]) _ _ _ from ?_))
    refine wpAny_call (codeAny_call_builtin PySem.F.excAttr_ValueError.ga.plain PySem.F.entry_bexc_ga (@check_slot (model prog w) _ _ ⟨hp, g, d, t + 1, os⟩ "BaseException.__getattribute__" "BaseException" "__getattribute__" (.ref x) [.str "__class__" t] [] _ (by decide +kernel) (by decide +kernel) sub (PySem.F.args_bexc_ga (.ref x) (.str "__class__" t)) ?_))
    unfold Builtin.«object.__getattribute__»
    refine wpAny_bind (wpAny_of_eq (a := ((Value.ref x : Value), [Value.str "__class__" t])) (by first | rfl | (simp only [slotArgs]; rfl)) (wpAny_bind (wpAny_pure (wpAny_bind (t0.at (wpAny_bind (t3.at ?_)))))))
    show wpAny _ _ (holding [Value.builtin "object.__class__"] (call (.builtin "getset_descriptor.__get__") [.builtin "object.__class__", .ref x, .ref D]) >>= ret) _ _ _
    refine wpAny_bind (wpAny_holding (wpAny_call (class_get (s := ⟨hp, g, d, t + 1, os⟩) (ox := ox) (od := some od) X I C.hm (wpAny_pure ?_))))
    show wpAny _ _ (handedOut (.ref D)) _ _ _
    rw [handedOut_of (v := .ref D) rfl]
    first
      | exact wpAny_pure (wpAny_pure h)
      | exact wpAny_pure h
      | exact wpAny_pure (wpAny_bind (wpAny_pure (wpAny_pure h)))
end
def rIsH (K : PySem.W.Frag) (D a d : Addr) : List V → Hp → VK → Prop := fun xs H Q => ∃ (c : V) (cv : Value) (b : Bool) (fs : List (Str × V)), xs = [.ref a, c] ∧ H d = some (.xd fs) ∧ (∀ u, RelV c u → u = cv) ∧ PySem.W.kitOne K (.ref D) cv = some b ∧ Q (.bl b) H
theorem call_isH {X : Cx} {a D d : Addr} {oe : Obj} (C : ExcC X.K D) (hz : Zc (.ref D) (some d) oe) (hpn : (a, oe) ∈ X.pn) (hf : ∃ vs, oe.data = .fields vs) : CallR X (.builtin "isinstance") (rIsH X.K D a d) := by
  intro pins s σ H xs us Q I r h
  obtain ⟨c, cv, b, fs, rfl, hd, hcv, e, q⟩ := h
  cases r with
  | cons rx rr =>
    cases rr with
    | cons rt rr2 =>
    cases rr2
    cases rx
    obtain rfl := hcv _ rt
    obtain ⟨hget, _⟩ := I.pin (a, oe) (List.mem_append_left _ hpn)
    have hx : ObjOk X.prog X.w H s.heap d (.xd fs) := I.hok d _ hd
    obtain ⟨mA, hns, _⟩ := hx
    obtain ⟨od, ho, _⟩ := lookIn_ns hns
    obtain ⟨vs, hv⟩ := hf
    have J : HasD a D s.heap := ⟨oe, od, ⟨hget, hz.1, by unfold PySem.W.notCls; rw [hv] <;> rfl, by rw [hz.2]; exact ho⟩⟩
    exact PySem.W.kia_one (kit_exd C) I.kIn J e (fun z => nomatch z) fun tk => ⟨.bl b, H, I.kept (t' := tk) fun _ _ z => z, rfl, q⟩
/-! ### _law_word -/
def excWords : List Str := ["row", "table", "key", "keys", "rows", "order", "rule", "integer", "scan", "bound", "formula", "deed", "text", "bytes", "line", "missing", "impossible", "large", "nothing", "twice", "held", "many", "competing", "ringed", "collision"]
def boolsOf (nm : Str) : List V := excNames.map fun x => V.bl (decide (x = nm))
structure Xd (K : PySem.W.Frag) (c : Str → Addr) (D : Addr) (nm : Str) : Prop where
  ex : ExcC K D
  kit : ∀ x ∈ excNames, PySem.W.kitOne K (.ref D) (.ref (c x)) = some (decide (x = nm))
  ve : PySem.W.kitOne K (.ref D) (.type "ValueError") = some true
theorem is_at {K : PySem.W.Frag} {D a d : Addr} {H : Hp} {fs : List (Str × V)} {c : Str → Addr} {nm : Str} {Q : VK} (hd : H d = some (.xd fs)) (hk : ∀ x ∈ excNames, PySem.W.kitOne K (.ref D) (.ref (c x)) = some (decide (x = nm))) (x : Str) (hx : x ∈ excNames) (q : Q (.bl (decide (x = nm))) H) :
    rIsH K D a d [.ref a, .ref (c x)] H Q := ⟨_, _, _, fs, rfl, hd, fun u r => r, hk x hx, q⟩
theorem six_line {x1 x2 x3 x4 x5 x6 : V} : [x1, x2, x3, x4, x5, x6].length ≤ sizeLine := by show 6 ≤ sizeLine; rw [sizeLine_eq]; decide
theorem line_of {l : List V} (h : l.length ≤ 1000) : l.length ≤ sizeLine := Nat.le_of_lt (small1000 h)
theorem line_lit {n : Nat} (h : n ≤ 1000) : n ≤ sizeLine := Nat.le_of_lt (small1000 h)
theorem sc92 : FnScope ["_law_e", "_law_some", "_law_words"] ["_law_e"] (defScope (topS 92)) := ⟨rfl, rfl, rfl, by decide +kernel, rfl, by decide +kernel, by decide +kernel⟩
section
variable {P : Program} {w : World} {K : PySem.W.Frag} {mg : Str → Option Value} {base : Heap} {a : Ads}
abbrev wordX (P : Program) (w : World) (K : PySem.W.Frag) (mg : Str → Option Value) (base : Heap) (f : Addr) (cdv : Value) (A : Around) (outer : List Env) (s : Shared) (H : Hp) (p : Addr × Obj) : Cx := (L2H.cxH CX0 P w K mg base ["_law_e", "_law_some", "_law_words"] "_law_word" (defScope (topS 92)) f cdv A outer s H E0 p).nox
theorem word_body {f : Addr} {cdv : Value} {A : Around} {outer : List Env} {s0 : Shared} {H0 : Hp} {c : Str → Addr} {e D d : Addr} {nm wd : Str} {oe : Obj} {j : Nat} {fs : List (Str × V)} (T : Tx K mg a) (mgc : ∀ x ∈ excNames, mg x = some (.ref (c x))) (veN : mg "ValueError" = none) (Y : Xd K c D nm) (hz : Zc (.ref D) (some d) oe) (hf : ∃ vs, oe.data = .fields vs)
    (h1 : (boolsOf nm).countP (fun z => eqV z (.bl true)) = 1) (h2 : (boolsOf nm)[j]? = some (.bl true)) (h3 : ∀ (m : Nat) (z : V), m < j → (boolsOf nm)[m]? = some z → eqV z (.bl true) = false) (h4 : excWords[j]? = some wd) :
    ∃ t, PSs (wordX P w K mg base f cdv A outer s0 H0 (e, oe)) (defBody (topS 92)) t ∧ ∀ (D' : Ends) (H : Hp), H d = some (.xd fs) → (∀ H', Same H H' → D'.rt (.str wd) H') → t D' [some (.ref e), none, none] H := by
  have hpn : (e, oe) ∈ (wordX P w K mg base f cdv A outer s0 H0 (e, oe)).pn := List.mem_cons_self
  refine ⟨_, pss_cons (ps_set (i := 1) sc92.nd rfl (.inl rfl) (pe_lst (pa_cons (pe_callB (call_isH Y.ex hz hpn hf) (by rfl) T.isi (by decide +kernel) (pa_cons (pv 0) (pa_cons (pe_glob (v := .ref (c "NotRow")) (by rfl) (mgc "NotRow" (by decide +kernel)) rfl) pa_nil))) (pa_cons (pe_callB (call_isH Y.ex hz hpn hf) (by rfl) T.isi (by decide +kernel) (pa_cons (pv 0) (pa_cons (pe_glob (v := .ref (c "NotTable")) (by rfl) (mgc "NotTable" (by decide +kernel)) rfl) pa_nil))) (pa_cons (pe_callB (call_isH Y.ex hz hpn hf) (by rfl) T.isi (by decide +kernel) (pa_cons (pv 0) (pa_cons (pe_glob (v := .ref (c "NotKey")) (by rfl) (mgc "NotKey" (by decide +kernel)) rfl) pa_nil))) (pa_cons (pe_callB (call_isH Y.ex hz hpn hf) (by rfl) T.isi (by decide +kernel) (pa_cons (pv 0) (pa_cons (pe_glob (v := .ref (c "NotKeys")) (by rfl) (mgc "NotKeys" (by decide +kernel)) rfl) pa_nil))) (pa_cons (pe_callB (call_isH Y.ex hz hpn hf) (by rfl) T.isi (by decide +kernel) (pa_cons (pv 0) (pa_cons (pe_glob (v := .ref (c "NotRows")) (by rfl) (mgc "NotRows" (by decide +kernel)) rfl) pa_nil))) (pa_cons (pe_callB (call_isH Y.ex hz hpn hf) (by rfl) T.isi (by decide +kernel) (pa_cons (pv 0) (pa_cons (pe_glob (v := .ref (c "NotOrder")) (by rfl) (mgc "NotOrder" (by decide +kernel)) rfl) pa_nil))) pa_nil))))))))
    (pss_cons (ps_set (i := 1) sc92.nd rfl (.inl rfl) (pe_op op_cat (pv 1) (pe_lst (pa_cons (pe_callB (call_isH Y.ex hz hpn hf) (by rfl) T.isi (by decide +kernel) (pa_cons (pv 0) (pa_cons (pe_glob (v := .ref (c "NotRule")) (by rfl) (mgc "NotRule" (by decide +kernel)) rfl) pa_nil))) (pa_cons (pe_callB (call_isH Y.ex hz hpn hf) (by rfl) T.isi (by decide +kernel) (pa_cons (pv 0) (pa_cons (pe_glob (v := .ref (c "NotInteger")) (by rfl) (mgc "NotInteger" (by decide +kernel)) rfl) pa_nil))) (pa_cons (pe_callB (call_isH Y.ex hz hpn hf) (by rfl) T.isi (by decide +kernel) (pa_cons (pv 0) (pa_cons (pe_glob (v := .ref (c "NotScan")) (by rfl) (mgc "NotScan" (by decide +kernel)) rfl) pa_nil))) (pa_cons (pe_callB (call_isH Y.ex hz hpn hf) (by rfl) T.isi (by decide +kernel) (pa_cons (pv 0) (pa_cons (pe_glob (v := .ref (c "NotBound")) (by rfl) (mgc "NotBound" (by decide +kernel)) rfl) pa_nil))) (pa_cons (pe_callB (call_isH Y.ex hz hpn hf) (by rfl) T.isi (by decide +kernel) (pa_cons (pv 0) (pa_cons (pe_glob (v := .ref (c "NotFormula")) (by rfl) (mgc "NotFormula" (by decide +kernel)) rfl) pa_nil))) (pa_cons (pe_callB (call_isH Y.ex hz hpn hf) (by rfl) T.isi (by decide +kernel) (pa_cons (pv 0) (pa_cons (pe_glob (v := .ref (c "NotDeed")) (by rfl) (mgc "NotDeed" (by decide +kernel)) rfl) pa_nil))) pa_nil)))))))))
    (pss_cons (ps_set (i := 1) sc92.nd rfl (.inl rfl) (pe_op op_cat (pv 1) (pe_lst (pa_cons (pe_callB (call_isH Y.ex hz hpn hf) (by rfl) T.isi (by decide +kernel) (pa_cons (pv 0) (pa_cons (pe_glob (v := .ref (c "NotText")) (by rfl) (mgc "NotText" (by decide +kernel)) rfl) pa_nil))) (pa_cons (pe_callB (call_isH Y.ex hz hpn hf) (by rfl) T.isi (by decide +kernel) (pa_cons (pv 0) (pa_cons (pe_glob (v := .ref (c "NotBytes")) (by rfl) (mgc "NotBytes" (by decide +kernel)) rfl) pa_nil))) (pa_cons (pe_callB (call_isH Y.ex hz hpn hf) (by rfl) T.isi (by decide +kernel) (pa_cons (pv 0) (pa_cons (pe_glob (v := .ref (c "NotLine")) (by rfl) (mgc "NotLine" (by decide +kernel)) rfl) pa_nil))) (pa_cons (pe_callB (call_isH Y.ex hz hpn hf) (by rfl) T.isi (by decide +kernel) (pa_cons (pv 0) (pa_cons (pe_glob (v := .ref (c "Missing")) (by rfl) (mgc "Missing" (by decide +kernel)) rfl) pa_nil))) (pa_cons (pe_callB (call_isH Y.ex hz hpn hf) (by rfl) T.isi (by decide +kernel) (pa_cons (pv 0) (pa_cons (pe_glob (v := .ref (c "Impossible")) (by rfl) (mgc "Impossible" (by decide +kernel)) rfl) pa_nil))) (pa_cons (pe_callB (call_isH Y.ex hz hpn hf) (by rfl) T.isi (by decide +kernel) (pa_cons (pv 0) (pa_cons (pe_glob (v := .ref (c "TooLarge")) (by rfl) (mgc "TooLarge" (by decide +kernel)) rfl) pa_nil))) pa_nil)))))))))
    (pss_cons (ps_set (i := 1) sc92.nd rfl (.inl rfl) (pe_op op_cat (pv 1) (pe_lst (pa_cons (pe_callB (call_isH Y.ex hz hpn hf) (by rfl) T.isi (by decide +kernel) (pa_cons (pv 0) (pa_cons (pe_glob (v := .ref (c "NothingDone")) (by rfl) (mgc "NothingDone" (by decide +kernel)) rfl) pa_nil))) (pa_cons (pe_callB (call_isH Y.ex hz hpn hf) (by rfl) T.isi (by decide +kernel) (pa_cons (pv 0) (pa_cons (pe_glob (v := .ref (c "Twice")) (by rfl) (mgc "Twice" (by decide +kernel)) rfl) pa_nil))) (pa_cons (pe_callB (call_isH Y.ex hz hpn hf) (by rfl) T.isi (by decide +kernel) (pa_cons (pv 0) (pa_cons (pe_glob (v := .ref (c "Held")) (by rfl) (mgc "Held" (by decide +kernel)) rfl) pa_nil))) (pa_cons (pe_callB (call_isH Y.ex hz hpn hf) (by rfl) T.isi (by decide +kernel) (pa_cons (pv 0) (pa_cons (pe_glob (v := .ref (c "TooMany")) (by rfl) (mgc "TooMany" (by decide +kernel)) rfl) pa_nil))) (pa_cons (pe_callB (call_isH Y.ex hz hpn hf) (by rfl) T.isi (by decide +kernel) (pa_cons (pv 0) (pa_cons (pe_glob (v := .ref (c "Competing")) (by rfl) (mgc "Competing" (by decide +kernel)) rfl) pa_nil))) (pa_cons (pe_callB (call_isH Y.ex hz hpn hf) (by rfl) T.isi (by decide +kernel) (pa_cons (pv 0) (pa_cons (pe_glob (v := .ref (c "Ringed")) (by rfl) (mgc "Ringed" (by decide +kernel)) rfl) pa_nil))) (pa_cons (pe_callB (call_isH Y.ex hz hpn hf) (by rfl) T.isi (by decide +kernel) (pa_cons (pv 0) (pa_cons (pe_glob (v := .ref (c "Collision")) (by rfl) (mgc "Collision" (by decide +kernel)) rfl) pa_nil))) pa_nil))))))))))
    (pss_cons (ps_set (i := 2) sc92.nd rfl (.inl rfl) (pe_lst (pa_cons pe_str (pa_cons pe_str (pa_cons pe_str (pa_cons pe_str (pa_cons pe_str (pa_cons pe_str (pa_cons pe_str (pa_cons pe_str (pa_cons pe_str (pa_cons pe_str (pa_cons pe_str (pa_cons pe_str (pa_cons pe_str pa_nil)))))))))))))))
    (pss_cons (ps_set (i := 2) sc92.nd rfl (.inl rfl) (pe_op op_cat (pv 2) (pe_lst (pa_cons pe_str (pa_cons pe_str (pa_cons pe_str (pa_cons pe_str (pa_cons pe_str (pa_cons pe_str (pa_cons pe_str (pa_cons pe_str (pa_cons pe_str (pa_cons pe_str (pa_cons pe_str (pa_cons pe_str pa_nil)))))))))))))))
    (pss_cons (ps_if (PW.pt (pw_or (pt_cmpR op_ne (pe_bm PySem.F.plainAttrs_list PySem.F.slot_list_count PySem.F.type_list_count mt_fcount (pv 1) (pa_cons pe_bl pa_nil)) pe_int (nomark _))
        (pw_or1 (pt_not (pt_val (pe_callB (call_isH Y.ex hz hpn hf) (by rfl) T.isi (by decide +kernel) (pa_cons (pv 0) (pa_cons (pe_bltn (v := .ty "ValueError") (by rfl) veN PyProof.Rows.Boot.«ValueError» rfl) pa_nil)))))))) (pss_one ps_never) pss_nil)
    (pss_one (ps_ret (pe_ix ix_list (pv 2) (pe_bm PySem.F.plainAttrs_list PySem.F.slot_list_index PySem.F.type_list_index mt_index (pv 1) (pa_cons pe_bl pa_nil)) (fun _ _ => rfl)))))))))), ?_⟩
  intro D' H hd kq
  refine ⟨_, rfl, _, _, _, fs, rfl, hd, (fun u r => r), Y.kit "NotRow" (by decide +kernel), ⟨_, rfl, _, _, _, fs, rfl, hd, (fun u r => r), Y.kit "NotTable" (by decide +kernel), ⟨_, rfl, _, _, _, fs, rfl, hd, (fun u r => r), Y.kit "NotKey" (by decide +kernel), ⟨_, rfl, _, _, _, fs, rfl, hd, (fun u r => r), Y.kit "NotKeys" (by decide +kernel), ⟨_, rfl, _, _, _, fs, rfl, hd, (fun u r => r), Y.kit "NotRows" (by decide +kernel), ⟨_, rfl, _, _, _, fs, rfl, hd, (fun u r => r), Y.kit "NotOrder" (by decide +kernel), ⟨line_lit (n := 6) (by decide), fun p1 n1 => ?_⟩⟩⟩⟩⟩⟩⟩
  refine ⟨_, rfl, ?_⟩
  refine ⟨_, rfl, _, _, _, fs, rfl, (Same.new n1 _ _ hd), (fun u r => r), Y.kit "NotRule" (by decide +kernel), ⟨_, rfl, _, _, _, fs, rfl, (Same.new n1 _ _ hd), (fun u r => r), Y.kit "NotInteger" (by decide +kernel), ⟨_, rfl, _, _, _, fs, rfl, (Same.new n1 _ _ hd), (fun u r => r), Y.kit "NotScan" (by decide +kernel), ⟨_, rfl, _, _, _, fs, rfl, (Same.new n1 _ _ hd), (fun u r => r), Y.kit "NotBound" (by decide +kernel), ⟨_, rfl, _, _, _, fs, rfl, (Same.new n1 _ _ hd), (fun u r => r), Y.kit "NotFormula" (by decide +kernel), ⟨_, rfl, _, _, _, fs, rfl, (Same.new n1 _ _ hd), (fun u r => r), Y.kit "NotDeed" (by decide +kernel), ⟨line_lit (n := 6) (by decide), fun q2 m2 => ?_⟩⟩⟩⟩⟩⟩⟩
  refine ⟨_, _, _, _, rfl, rfl, Same.new m2 _ _ upd_same, upd_same, line_lit (n := 12) (by decide), fun p2 n2 => ?_⟩
  refine ⟨_, rfl, ?_⟩
  refine ⟨_, rfl, _, _, _, fs, rfl, (Same.new n2 _ _ (Same.new m2 _ _ (Same.new n1 _ _ hd))), (fun u r => r), Y.kit "NotText" (by decide +kernel), ⟨_, rfl, _, _, _, fs, rfl, (Same.new n2 _ _ (Same.new m2 _ _ (Same.new n1 _ _ hd))), (fun u r => r), Y.kit "NotBytes" (by decide +kernel), ⟨_, rfl, _, _, _, fs, rfl, (Same.new n2 _ _ (Same.new m2 _ _ (Same.new n1 _ _ hd))), (fun u r => r), Y.kit "NotLine" (by decide +kernel), ⟨_, rfl, _, _, _, fs, rfl, (Same.new n2 _ _ (Same.new m2 _ _ (Same.new n1 _ _ hd))), (fun u r => r), Y.kit "Missing" (by decide +kernel), ⟨_, rfl, _, _, _, fs, rfl, (Same.new n2 _ _ (Same.new m2 _ _ (Same.new n1 _ _ hd))), (fun u r => r), Y.kit "Impossible" (by decide +kernel), ⟨_, rfl, _, _, _, fs, rfl, (Same.new n2 _ _ (Same.new m2 _ _ (Same.new n1 _ _ hd))), (fun u r => r), Y.kit "TooLarge" (by decide +kernel), ⟨line_lit (n := 6) (by decide), fun q3 m3 => ?_⟩⟩⟩⟩⟩⟩⟩
  refine ⟨_, _, _, _, rfl, rfl, Same.new m3 _ _ upd_same, upd_same, line_lit (n := 18) (by decide), fun p3 n3 => ?_⟩
  refine ⟨_, rfl, ?_⟩
  refine ⟨_, rfl, _, _, _, fs, rfl, (Same.new n3 _ _ (Same.new m3 _ _ (Same.new n2 _ _ (Same.new m2 _ _ (Same.new n1 _ _ hd))))), (fun u r => r), Y.kit "NothingDone" (by decide +kernel), ⟨_, rfl, _, _, _, fs, rfl, (Same.new n3 _ _ (Same.new m3 _ _ (Same.new n2 _ _ (Same.new m2 _ _ (Same.new n1 _ _ hd))))), (fun u r => r), Y.kit "Twice" (by decide +kernel), ⟨_, rfl, _, _, _, fs, rfl, (Same.new n3 _ _ (Same.new m3 _ _ (Same.new n2 _ _ (Same.new m2 _ _ (Same.new n1 _ _ hd))))), (fun u r => r), Y.kit "Held" (by decide +kernel), ⟨_, rfl, _, _, _, fs, rfl, (Same.new n3 _ _ (Same.new m3 _ _ (Same.new n2 _ _ (Same.new m2 _ _ (Same.new n1 _ _ hd))))), (fun u r => r), Y.kit "TooMany" (by decide +kernel), ⟨_, rfl, _, _, _, fs, rfl, (Same.new n3 _ _ (Same.new m3 _ _ (Same.new n2 _ _ (Same.new m2 _ _ (Same.new n1 _ _ hd))))), (fun u r => r), Y.kit "Competing" (by decide +kernel), ⟨_, rfl, _, _, _, fs, rfl, (Same.new n3 _ _ (Same.new m3 _ _ (Same.new n2 _ _ (Same.new m2 _ _ (Same.new n1 _ _ hd))))), (fun u r => r), Y.kit "Ringed" (by decide +kernel), ⟨_, rfl, _, _, _, fs, rfl, (Same.new n3 _ _ (Same.new m3 _ _ (Same.new n2 _ _ (Same.new m2 _ _ (Same.new n1 _ _ hd))))), (fun u r => r), Y.kit "Collision" (by decide +kernel), ⟨line_lit (n := 7) (by decide), fun q4 m4 => ?_⟩⟩⟩⟩⟩⟩⟩⟩
  refine ⟨_, _, _, _, rfl, rfl, Same.new m4 _ _ upd_same, upd_same, line_lit (n := 25) (by decide), fun p4 n4 => ?_⟩
  refine ⟨line_lit (n := 13) (by decide), fun w1 nw1 => ?_⟩
  refine ⟨_, rfl, line_lit (n := 12) (by decide), fun w2 nw2 => ?_⟩
  refine ⟨_, _, _, _, rfl, rfl, Same.new nw2 _ _ upd_same, upd_same, line_lit (n := 25) (by decide), fun w3 nw3 => ?_⟩
  have hs : Same H (upd (upd (upd (upd (upd (upd (upd (upd (upd (upd H p1 (.lst ((["NotRow", "NotTable", "NotKey", "NotKeys", "NotRows", "NotOrder"] : List Str).map (fun x => V.bl (decide (x = nm)))))) q2 (.lst ((["NotRule", "NotInteger", "NotScan", "NotBound", "NotFormula", "NotDeed"] : List Str).map (fun x => V.bl (decide (x = nm)))))) p2 (.lst ((["NotRow", "NotTable", "NotKey", "NotKeys", "NotRows", "NotOrder", "NotRule", "NotInteger", "NotScan", "NotBound", "NotFormula", "NotDeed"] : List Str).map (fun x => V.bl (decide (x = nm)))))) q3 (.lst ((["NotText", "NotBytes", "NotLine", "Missing", "Impossible", "TooLarge"] : List Str).map (fun x => V.bl (decide (x = nm)))))) p3 (.lst ((["NotRow", "NotTable", "NotKey", "NotKeys", "NotRows", "NotOrder", "NotRule", "NotInteger", "NotScan", "NotBound", "NotFormula", "NotDeed", "NotText", "NotBytes", "NotLine", "Missing", "Impossible", "TooLarge"] : List Str).map (fun x => V.bl (decide (x = nm)))))) q4 (.lst ((["NothingDone", "Twice", "Held", "TooMany", "Competing", "Ringed", "Collision"] : List Str).map (fun x => V.bl (decide (x = nm)))))) p4 (.lst ((["NotRow", "NotTable", "NotKey", "NotKeys", "NotRows", "NotOrder", "NotRule", "NotInteger", "NotScan", "NotBound", "NotFormula", "NotDeed", "NotText", "NotBytes", "NotLine", "Missing", "Impossible", "TooLarge", "NothingDone", "Twice", "Held", "TooMany", "Competing", "Ringed", "Collision"] : List Str).map (fun x => V.bl (decide (x = nm)))))) w1 (.lst ((excWords.take 13).map V.str))) w2 (.lst ((excWords.drop 13).map V.str))) w3 (.lst (excWords.map V.str))) := (((((((((Same.new n1).trans (Same.new m2)).trans (Same.new n2)).trans (Same.new m3)).trans (Same.new n3)).trans (Same.new m4)).trans (Same.new n4)).trans (Same.new nw1)).trans (Same.new nw2)).trans (Same.new nw3)
  have hB : (upd (upd (upd (upd (upd (upd (upd (upd (upd (upd H p1 (.lst ((["NotRow", "NotTable", "NotKey", "NotKeys", "NotRows", "NotOrder"] : List Str).map (fun x => V.bl (decide (x = nm)))))) q2 (.lst ((["NotRule", "NotInteger", "NotScan", "NotBound", "NotFormula", "NotDeed"] : List Str).map (fun x => V.bl (decide (x = nm)))))) p2 (.lst ((["NotRow", "NotTable", "NotKey", "NotKeys", "NotRows", "NotOrder", "NotRule", "NotInteger", "NotScan", "NotBound", "NotFormula", "NotDeed"] : List Str).map (fun x => V.bl (decide (x = nm)))))) q3 (.lst ((["NotText", "NotBytes", "NotLine", "Missing", "Impossible", "TooLarge"] : List Str).map (fun x => V.bl (decide (x = nm)))))) p3 (.lst ((["NotRow", "NotTable", "NotKey", "NotKeys", "NotRows", "NotOrder", "NotRule", "NotInteger", "NotScan", "NotBound", "NotFormula", "NotDeed", "NotText", "NotBytes", "NotLine", "Missing", "Impossible", "TooLarge"] : List Str).map (fun x => V.bl (decide (x = nm)))))) q4 (.lst ((["NothingDone", "Twice", "Held", "TooMany", "Competing", "Ringed", "Collision"] : List Str).map (fun x => V.bl (decide (x = nm)))))) p4 (.lst ((["NotRow", "NotTable", "NotKey", "NotKeys", "NotRows", "NotOrder", "NotRule", "NotInteger", "NotScan", "NotBound", "NotFormula", "NotDeed", "NotText", "NotBytes", "NotLine", "Missing", "Impossible", "TooLarge", "NothingDone", "Twice", "Held", "TooMany", "Competing", "Ringed", "Collision"] : List Str).map (fun x => V.bl (decide (x = nm)))))) w1 (.lst ((excWords.take 13).map V.str))) w2 (.lst ((excWords.drop 13).map V.str))) w3 (.lst (excWords.map V.str))) p4 = some (.lst (boolsOf nm)) := Same.new nw3 _ _ (Same.new nw2 _ _ (Same.new nw1 _ _ upd_same))
  have hW : (upd (upd (upd (upd (upd (upd (upd (upd (upd (upd H p1 (.lst ((["NotRow", "NotTable", "NotKey", "NotKeys", "NotRows", "NotOrder"] : List Str).map (fun x => V.bl (decide (x = nm)))))) q2 (.lst ((["NotRule", "NotInteger", "NotScan", "NotBound", "NotFormula", "NotDeed"] : List Str).map (fun x => V.bl (decide (x = nm)))))) p2 (.lst ((["NotRow", "NotTable", "NotKey", "NotKeys", "NotRows", "NotOrder", "NotRule", "NotInteger", "NotScan", "NotBound", "NotFormula", "NotDeed"] : List Str).map (fun x => V.bl (decide (x = nm)))))) q3 (.lst ((["NotText", "NotBytes", "NotLine", "Missing", "Impossible", "TooLarge"] : List Str).map (fun x => V.bl (decide (x = nm)))))) p3 (.lst ((["NotRow", "NotTable", "NotKey", "NotKeys", "NotRows", "NotOrder", "NotRule", "NotInteger", "NotScan", "NotBound", "NotFormula", "NotDeed", "NotText", "NotBytes", "NotLine", "Missing", "Impossible", "TooLarge"] : List Str).map (fun x => V.bl (decide (x = nm)))))) q4 (.lst ((["NothingDone", "Twice", "Held", "TooMany", "Competing", "Ringed", "Collision"] : List Str).map (fun x => V.bl (decide (x = nm)))))) p4 (.lst ((["NotRow", "NotTable", "NotKey", "NotKeys", "NotRows", "NotOrder", "NotRule", "NotInteger", "NotScan", "NotBound", "NotFormula", "NotDeed", "NotText", "NotBytes", "NotLine", "Missing", "Impossible", "TooLarge", "NothingDone", "Twice", "Held", "TooMany", "Competing", "Ringed", "Collision"] : List Str).map (fun x => V.bl (decide (x = nm)))))) w1 (.lst ((excWords.take 13).map V.str))) w2 (.lst ((excWords.drop 13).map V.str))) w3 (.lst (excWords.map V.str))) w3 = some (.lst (excWords.map V.str)) := upd_same
  revert hs hB hW
  intro hs hB hW
  have hfl : (boolsOf nm).all flatV = true := by
    unfold boolsOf
    rw [List.all_map, List.all_eq_true]
    intro x _; rfl
  refine ⟨_, rfl, .inl ⟨rfl, _, SqL.of hB⟩, _, boolsOf nm, .bl true, rfl, rfl, SqL.of hB, rfl, hfl, rfl, _, rfl, ?_⟩
  rw [h1]
  refine iteF ⟨_, rfl, _, _, _, fs, rfl, hs _ _ hd, (fun u r => r), Y.ve, true, rfl, iteF ?_⟩
  refine ⟨_, rfl, _, rfl, .inl ⟨rfl, _, SqL.of hB⟩, _, boolsOf nm, .bl true, j, _, rfl, rfl, SqL.of hB, rfl, hfl, h2, rfl, h3, ?_⟩
  refine ⟨_, excWords.map V.str, _, .str wd, rfl, rfl, SqL.of hW, atI_nat (by rw [List.getElem?_map, h4]; rfl), kq _ hs⟩
end
end RcX
end
section
set_option Elab.async false
set_option linter.all false
set_option maxRecDepth 100000
set_option maxHeartbeats 4000000
namespace RcX
open PySem PySem.Spec PyProof.Rows L2
/-! ### _law_word called in an except suite -/
structure Xw (K : PySem.W.Frag) (mg : Str → Option Value) (c : Str → Addr) : Prop where
  mgc : ∀ x ∈ excNames, mg x = some (.ref (c x))
  veN : mg "ValueError" = none
  d_word : Glb K mg "_law_word" (topS 92)
theorem pe_word {X : Cx} {ads : Ads} {c : Str → Addr} {a D d : Addr} {oe : Obj} {pn : List (Addr × Obj)} {i j k : Nat} {nm wd : Str} {e : Expr} {p1 pos : Pos} (T : Tx X.K X.mg ads) (W : Xw X.K X.mg c) (Y : Xd X.K c D nm) (hz : Zc (.ref D) (some d) oe) (hf : ∃ vs, oe.data = .fields vs)
    (h1 : (boolsOf nm).countP (fun z => eqV z (.bl true)) = 1) (h2 : (boolsOf nm)[j]? = some (.bl true)) (h3 : ∀ (m : Nat) (z : V), m < j → (boolsOf nm)[m]? = some z → eqV z (.bl true) = false) (h4 : excWords[j]? = some wd)
    (hr : Room (k + 1) X.A) (hg : Gl X "_law_word") (he : PE (X.suite a ((a, oe) :: pn)) e (tVar i)) (hst : starEach [e] X.env = (false, eval e X.env) :: starEach [] X.env := by rfl) :
    PE (X.suite a ((a, oe) :: pn)) (.Call (.Name "_law_word" p1) [e] [] pos) (fun σ H Q => σ[i]? = some (some (.ref a)) ∧ ∃ fs, H d = some (.xd fs) ∧ ∀ H', Same H H' → Q (.str wd) H') := by
  obtain ⟨f, ⟨fd, F⟩, hm⟩ := W.d_word
  obtain ⟨oc, od, dV, kV, doc, pm, an, cdv, ct, osl, rfl, lk, hcd, hD, _⟩ := F.ex
  obtain rfl : dV = .none := by
    rcases hD with ⟨_, h⟩ | ⟨h, _⟩
    · exact h
    · exact absurd rfl h
  refine ⟨fun pins s σ H Q I h => ?_⟩
  obtain ⟨hσ, fs, hd, kq⟩ := h
  have ha : PA (X.suite a ((a, oe) :: pn)) [e] (tCons (tVar i) tNil) := pa_cons he pa_nil hst
  refine wpAny_Call_Name_kw (ld_glob (X := X.suite a ((a, oe) :: pn)) I hg hm ?_ (by decide))
  refine PySem.W.callWith_K (h₀ := X.base) I.ok.mod.kin F.kp (thn (ha.run pos pins s σ H (fun vs H1 => vs = [.ref a] ∧ H1 = H) I ⟨_, hσ, rfl, rfl⟩) fun us s1 ⟨vs, H1, I1, r1, ev, eH⟩ => ⟨I1.kIn, ?_⟩) hst rfl
  subst ev eH
  have Pn := I1.pin (a, oe) (List.mem_append_left _ List.mem_cons_self)
  have hpin : L2H.PinOk X.stack H1 s1 (a, oe) := ⟨Pn.1, Pn.2.1, fun hm => (List.mem_cons.mp (I1.stkSub a hm)).elim Pn.2.2.1 Pn.2.2.2.1, Pn.2.2.2.2⟩
  have e0 := I1.env0
  obtain ⟨tb, ht, hq⟩ := word_body (P := X.prog) (w := X.w) (base := X.base) (f := f) (cdv := cdv) (A := X.A.mark (some (.ref a))) (outer := X.stack) (s0 := s1) (H0 := H1) (e := a) (fs := fs) T W.mgc W.veN Y hz hf h1 h2 h3 h4
  have run : codeAny (model X.prog X.w) (X.A.mark (some (.ref a))) (.call (.ref f) ⟨us, []⟩) (CR CX0 X.stack X.prog X.w H1 s1 Q E0) s1 := by
    have hlim : s1.heap.NoLimit := e0.mod.nolimit.keeps fun b o z => (e0.bs b o z).1
    have hlen : us.length = ["_law_e"].length := r1.length.symm
    refine codeAny_call_function (show (X.A.mark (some (.ref a))).depth < recursionLimit from hr.depth) (I1.kIn _ _ lk) rfl sc92.co sc92.gen rfl (PySem.W.codeRec_of I1.kIn hcd) (wpAny_of_eq (a := [("_law_e" : Str)].zip us) (match us, hlen with | [_], _ => rfl) ?_)
    refine wpAny_newFunctionEnv_cells sc92.kind (fun y hy => .inl (by
      have := (List.of_mem_zip hy).1
      rw [List.mem_singleton.mp this]
      rfl)) fun env hE s2 x => ?_
    subst hE
    refine ⟨hlim.keeps x.toInCall.keep, codeAny_func ?_⟩
    have J : Inv (L2H.cxH CX0 X.prog X.w X.K X.mg X.base ["_law_e", "_law_some", "_law_words"] "_law_word" (defScope (topS 92)) f cdv (X.A.mark (some (.ref a))) X.stack s1 H1 E0 (a, oe)) [] (L2.start ["_law_e", "_law_some", "_law_words"] [.ref a]) H1 s2 := L2H.inv_startH sc92 hpin e0 rfl r1 x
    refine wpAny_mono (ht.nox.run [] s2 _ H1 { nx := fun _ H' => Q .non H', rt := Q } J (hq _ H1 hd kq)) (fun fl s' hs => ?_) fun er s' hs => hs
    cases fl with
    | ret u =>
      obtain ⟨v, σ', H', J', rv, q⟩ := hs
      exact ⟨v, H', J'.os, J'.bare, J'.base, J'.hok, rv, q⟩
    | next =>
      obtain ⟨σ', H', J', q⟩ := hs
      exact ⟨.non, H', J'.os, J'.bare, J'.base, J'.hok, rfl, q⟩
    | brk =>
      obtain ⟨_, _, _, q⟩ := hs
      exact False.elim q
    | cont =>
      obtain ⟨_, _, _, q⟩ := hs
      exact False.elim q
  refine wpAny_call (codeAny_mono run fun r s' hq => ?_)
  cases r with
  | error er => exact False.elim hq
  | ok fl =>
    cases fl with
    | ret u => exact I1.after hq
    | next => exact False.elim hq
    | brk => exact False.elim hq
    | cont => exact False.elim hq
/-! ### _law_said -/
structure Xs (K : PySem.W.Frag) (mg : Str → Option Value) (c : Str → Addr) (CC CR RE : Addr) : Prop where
  w : Xw K mg c
  dC : Xd K c CC "Competing"
  dR : Xd K c CR "Ringed"
  fC : XfC K CC
  fR : XfC K CR
  nC : PySem.W.findIn K (.ref CC) "pair" = some none
  nR : PySem.W.findIn K (.ref CR) "ring" = some none
  eC : PySem.W.exmOne K (.ref CC) (.ref RE) = some true
  eR : PySem.W.exmOne K (.ref CR) (.ref RE) = some true
  mgE : mg "RowError" = some (.ref RE)
def SaidE (CC CR : Addr) (rt : VK) : XK := fun cls d H => (cls = .ref CC ∧ ∃ dx v, d = some dx ∧ H dx = some (.xd [(("pair" : Str), v)]) ∧ ∀ p H', Same H H' → H' p = some (.tup [.str "competing", v]) → rt (.ref p) H') ∨
  (cls = .ref CR ∧ ∃ dx v, d = some dx ∧ H dx = some (.xd [(("ring" : Str), v)]) ∧ ∀ p H', Same H H' → H' p = some (.tup [.str "ringed", v]) → rt (.ref p) H')
def tSaid (CC CR : Addr) (a : Addr) (cls : Value) (d : Option Addr) : TS := fun D σ H => (σ.length = 3 → σ[1]? = some (some (.ref a))) ∧ SaidE CC CR D.rt cls d H
def suiteOf : Stmt → List Stmt
  | .Try _ [.ExceptHandler _ _ b _] _ _ _ => b
  | _ => []
def tryOf (st : Stmt) : Stmt := (defBody st).getD 0 st
theorem sc93 : FnScope ["_law_call", "_law_e", "_law_word_here"] ["_law_call"] (defScope (topS 93)) := ⟨rfl, rfl, rfl, by decide +kernel, rfl, by decide +kernel, by decide +kernel⟩
abbrev saidX (X : Cx) (g : Addr) (cdg : Value) (s : Shared) (H : Hp) : Cx := (cxOf C8.CX0 X.prog X.w X.K X.mg X.base ["_law_call", "_law_e", "_law_word_here"] "_law_said" (defScope (topS 93)) g cdg X.A X.stack s H C8.E0).nox
theorem h3_of {L : List V} {j : Nat} (h : (L.take j).all (fun z => !eqV z (.bl true)) = true) (m : Nat) (z : V) (hm : m < j) (hz : L[m]? = some z) : eqV z (.bl true) = false := by
  have h1 := List.all_eq_true.mp h z (List.mem_of_getElem? (i := m) (by rw [List.getElem?_take_of_lt hm]; exact hz))
  rwa [Bool.not_eq_true'] at h1
theorem len3 {σ : L2.St} (h : σ.length = 3) : ∃ a b c, σ = [a, b, c] := by
  match σ, h with
  | [a, b, c], _ => exact ⟨a, b, c, rfl⟩
section
variable {X : Cx} {ads : Ads} {c : Str → Addr} {CC CR RE g : Addr} {cdg : Value} {s : Shared} {H0 : Hp} {k : Nat}
theorem said_suite (T : Tx X.K X.mg ads) (Y : Xs X.K X.mg c CC CR RE) (hr : Room (k + 2) X.A) (a : Addr) (oe : Obj) (cls : Value) (d : Option Addr) (pn : List (Addr × Obj)) (hz : Zc cls d oe) (hf : ∃ vs, oe.data = .fields vs) :
    PSs ((saidX X g cdg s H0).suite a ((a, oe) :: pn)) (suiteOf (tryOf (topS 93))) (tSaid CC CR a cls d) := by
  have hr1 : Room (k + 1) (saidX X g cdg s H0).A := hr.deeper _
  refine ⟨fun pins s1 σ H D I h => ?_⟩
  obtain ⟨h1, h2⟩ := h
  have hl : σ.length = 3 := I.len
  have hσ := h1 hl
  obtain ⟨x0, x1, x2, rfl⟩ := len3 hl
  rcases h2 with ⟨rfl, dx, v, rfl, hd, kq⟩ | ⟨rfl, dx, v, rfl, hd, kq⟩
  · have z : ∃ t, PSs ((saidX X g cdg s H0).suite a ((a, oe) :: pn)) (suiteOf (tryOf (topS 93))) t ∧ t D [x0, x1, x2] H := by
      refine ⟨_, pss_cons (ps_set (i := 2) sc93.nd rfl (.inl rfl) (pe_word (X := saidX X g cdg s H0) T Y.w Y.dC hz hf (j := 22) (wd := "competing") (by decide +kernel) (by decide +kernel) (h3_of (by decide +kernel)) (by decide +kernel) hr1 (by rfl) (pv 1)))
        (pss_cons (ps_if (PW.pt (pw_or (pt_cmpR op_eq (pv 2) pe_str (nomark _)) (pw_or1 (pt_cmpR op_eq (pv 2) pe_str (nomark _))))) (pss_one ps_never) pss_nil)
        (pss_cons (ps_if (pt_cmpR op_eq (pv 2) pe_str (nomark _)) (pss_one ps_never) pss_nil)
        (pss_cons (ps_if (pt_cmpR op_eq (pv 2) pe_str (nomark _)) (pss_one (ps_ret (pe_tup (pa_cons (pv 2) (pa_cons (pe_xf Y.fC Y.nC hz hf (pv 1)) pa_nil))))) pss_nil)
        pss_never))), ?_⟩
      refine ⟨hσ, _, hd, fun H1 s1 => ?_⟩
      refine ⟨_, rfl, rfl, _, rfl, iteF ?_⟩
      refine ⟨_, rfl, rfl, _, rfl, iteF ?_⟩
      refine ⟨_, rfl, rfl, _, rfl, iteF ?_⟩
      refine ⟨_, rfl, rfl, _, rfl, iteT ?_⟩
      refine ⟨_, rfl, _, hσ, rfl, rfl, dx, _, v, rfl, s1 _ _ hd, rfl, two_line, fun p np => ?_⟩
      exact kq p _ (s1.trans (Same.new np)) upd_same
    obtain ⟨t, z1, z2⟩ := z
    exact z1.run pins s1 _ H D I z2
  · have z : ∃ t, PSs ((saidX X g cdg s H0).suite a ((a, oe) :: pn)) (suiteOf (tryOf (topS 93))) t ∧ t D [x0, x1, x2] H := by
      refine ⟨_, pss_cons (ps_set (i := 2) sc93.nd rfl (.inl rfl) (pe_word (X := saidX X g cdg s H0) T Y.w Y.dR hz hf (j := 23) (wd := "ringed") (by decide +kernel) (by decide +kernel) (h3_of (by decide +kernel)) (by decide +kernel) hr1 (by rfl) (pv 1)))
        (pss_cons (ps_if (PW.pt (pw_or (pt_cmpR op_eq (pv 2) pe_str (nomark _)) (pw_or1 (pt_cmpR op_eq (pv 2) pe_str (nomark _))))) (pss_one ps_never) pss_nil)
        (pss_cons (ps_if (pt_cmpR op_eq (pv 2) pe_str (nomark _)) (pss_one ps_never) pss_nil)
        (pss_cons (ps_if (pt_cmpR op_eq (pv 2) pe_str (nomark _)) (pss_one ps_never) pss_nil)
        (pss_cons (ps_if (pt_cmpR op_eq (pv 2) pe_str (nomark _)) (pss_one (ps_ret (pe_tup (pa_cons (pv 2) (pa_cons (pe_xf Y.fR Y.nR hz hf (pv 1)) pa_nil))))) pss_nil)
        pss_never)))), ?_⟩
      refine ⟨hσ, _, hd, fun H1 s1 => ?_⟩
      refine ⟨_, rfl, rfl, _, rfl, iteF ?_⟩
      refine ⟨_, rfl, rfl, _, rfl, iteF ?_⟩
      refine ⟨_, rfl, rfl, _, rfl, iteF ?_⟩
      refine ⟨_, rfl, rfl, _, rfl, iteF ?_⟩
      refine ⟨_, rfl, rfl, _, rfl, iteT ?_⟩
      refine ⟨_, rfl, _, hσ, rfl, rfl, dx, _, v, rfl, s1 _ _ hd, rfl, two_line, fun p np => ?_⟩
      exact kq p _ (s1.trans (Same.new np)) upd_same
    obtain ⟨t, z1, z2⟩ := z
    exact z1.run pins s1 _ H D I z2
/-- what _law_said makes of the lambda's reading -/
def TSaid (CC CR : Addr) : (XK → Hp → VK → Prop) → Hp → VK → Prop := fun tl H Q =>
  tl (SaidE CC CR Q) H fun v H' => [V.str "returned", v].length ≤ sizeLine ∧ ∀ p, H' p = none → Q (.ref p) (upd H' p (.tup [V.str "returned", v]))
theorem said_gives (T : Tx X.K X.mg ads) (Y : Xs X.K X.mg c CC CR RE) (hr : Room (k + 2) X.A) {q : Str} : LamX.GivesTo X ["_law_call", "_law_e", "_law_word_here"] "_law_said" (defScope (topS 93)) g cdg (defBody (topS 93)) "_law_call" q (TSaid CC CR) := by
  intro f c' s H Q tl act hc h
  have hgl : Gl (saidX X g cdg s H) "RowError" := rfl
  refine ⟨_, pss_one (ps_try_as (X := saidX X g cdg s H) (c := .ref RE) (i := 1) (n := "_law_e") (Wout := fun _ _ _ _ => False)
      (tb := fun W D σ H => ∃ Ech : XK, (∀ cls d σ' H', Ech cls d H' → W cls d σ' H') ∧ σ[0]? = some (some (.ref f)) ∧ H c' = some (LamX.CodeO c' q) ∧ tl Ech H fun v H' => [V.str "returned", v].length ≤ sizeLine ∧ ∀ p, H' p = none → D.rt (.ref p) (upd H' p (.tup [V.str "returned", v])))
      (ts := tSaid CC CR) rfl rfl sc93.nd rfl rfl ⟨hgl, by decide, .inl Y.mgE⟩ LamX.takes0 (fun W pn xe tk _ => ?_) (fun a oe cls d pn hz hf => said_suite T Y hr a oe cls d pn hz hf)), ?_⟩
  · refine ⟨fun pins s' σ H' D I h' => ?_⟩
    obtain ⟨Ech, hW, h1, h2, h3⟩ := h'
    refine PSs.run (X := (saidX X g cdg s H).tr pn xe) (pss_one (ps_ret (pe_tup (pa_cons pe_str (pa_cons (act W pn xe Ech _ _ tk hW) pa_nil))))) pins s' σ H' D I ?_
    exact ⟨h1, h2, h3⟩
  · refine ⟨SaidE CC CR Q, fun cls d σ' H' hE => ?_, rfl, hc, h⟩
    have hex : PySem.W.exmOne X.K cls (.ref RE) = some true := by
      rcases hE with ⟨rfl, _⟩ | ⟨rfl, _⟩
      · exact Y.eC
      · exact Y.eR
    refine ⟨true, hex, fun _ a ha => ⟨fun hl => ?_, hE⟩, fun z => nomatch z⟩
    rw [List.length_set] at hl
    rw [List.getElem?_set_self (by omega)]
end
end RcX
end
section
set_option Elab.async false
set_option linter.all false
set_option maxRecDepth 100000
set_option maxHeartbeats 4000000
namespace RcX
open PySem PySem.Spec PyProof.Rows L2
/-! ### the law's own helpers: the pen -/
structure Tl (K : PySem.W.Frag) (mg : Str → Option Value) : Prop where
  d_cell_at : Glb K mg "_law_cell_at" (topS 86)
  d_pen : Glb K mg "_law_pen" (topS 87)
  d_draw : Glb K mg "_law_draw" (topS 88)
  d_pick : Glb K mg "_law_pick" (topS 89)
  d_mixed : Glb K mg "_law_mixed" (topS 90)
  d_pairs : Glb K mg "_law_pairs" (topS 91)
  d_named : Glb K mg "_law_named" (topS 94)
  d_names : Glb K mg "_law_names" (topS 95)
def penL (a b c : Int) : HO := .lst [.int a, .int b, .int c]
structure PenAt (H : Hp) (p : Addr) : Prop where
  ex : ∃ a b c : Int, H p = some (penL a b c) ∧ 0 ≤ b ∧ b < 2147483648
/-- all stays but the pen -/
structure Pn (p : Addr) (H H' : Hp) : Prop where
  k : ∀ b u, H b = some u → b ≠ p → H' b = some u
  at_ : PenAt H' p
theorem Pn.trans {p : Addr} {H H1 H2 : Hp} (a : Pn p H H1) (b : Pn p H1 H2) : Pn p H H2 := ⟨fun c u h n => b.k c u (a.k c u h n) n, b.at_⟩
theorem Pn.same {p : Addr} {H H1 : Hp} (a : PenAt H p) (e : Same H H1) : Pn p H H1 := ⟨fun c u h _ => e c u h, let ⟨⟨x, y, z, h, r⟩⟩ := a; ⟨⟨x, y, z, e _ _ h, r⟩⟩⟩
theorem Pn.then {p : Addr} {H H1 H2 : Hp} (a : Pn p H H1) (e : Same H1 H2) : Pn p H H2 := a.trans (Pn.same a.at_ e)
theorem Pn.refl {p : Addr} {H : Hp} (a : PenAt H p) : Pn p H H := ⟨fun _ _ h _ => h, a⟩
theorem Pn.free {p b : Addr} {H H' : Hp} (a : Pn p H H') (hp : PenAt H p) (n : H' b = none) : H b = none := by
  cases h : H b with
  | none => rfl
  | some u =>
    by_cases e : b = p
    · obtain ⟨⟨x, y, z, h2, _⟩⟩ := a.at_
      rw [e, h2] at n; cases n
    · rw [a.k b u h e] at n; cases n
theorem Pn.up {p b : Addr} {H H' : Hp} {o : HO} (a : Pn p H H') (hp : PenAt H p) (n : H b = none) : Pn p H (upd H' b o) := by
  have hne : p ≠ b := by
    obtain ⟨⟨x, y, z, h2, _⟩⟩ := hp
    exact ne_of_none h2 n
  refine ⟨fun c u h hc => by rw [upd_ne (ne_of_none h n)]; exact a.k c u h hc, ?_⟩
  obtain ⟨⟨x, y, z, h2, r⟩⟩ := a.at_
  exact ⟨⟨x, y, z, by rw [upd_ne hne]; exact h2, r⟩⟩
theorem PenAt.ne {p b : Addr} {H : Hp} {u : HO} (hp : PenAt H p) (h : H b = some u) (n : ∀ a b c, u ≠ penL a b c) : b ≠ p := fun e => by
  obtain ⟨⟨x, y, z, h2, _⟩⟩ := hp
  rw [e, h2] at h
  exact n x y z (Option.some.inj h).symm
theorem Pn.seqT {K : PySem.W.Frag} {p q : Addr} {xs : List V} {H H' : Hp} (a : Pn p H H') (hp : PenAt H p) (h : SqT K H q xs) : SqT K H' q xs := by
  rcases h with (h | ⟨o, h⟩) | h
  · exact .inl (.inl (a.k _ _ h (hp.ne h fun _ _ _ z => by cases z)))
  · exact .inl (.inr ⟨o, a.k _ _ h (hp.ne h fun _ _ _ z => by cases z)⟩)
  · exact .inr h
theorem Pn.tups {p : Addr} {H H' : Hp} (a : Pn p H H') (hp : PenAt H p) : TupS H H' := ⟨fun b xs h => a.k _ _ h (hp.ne h fun _ _ _ z => by cases z), fun b o xs h => a.k _ _ h (hp.ne h fun _ _ _ z => by cases z)⟩
theorem Pn.tab {p C t : Addr} {H H' : Hp} {R : List (Int × Int)} (a : Pn p H H') (hp : PenAt H p) (h : TabAt C H t R) : TabAt C H' t R := by
  obtain ⟨⟨dx, d, T, h1, h2, h3⟩, h4⟩ := h
  exact ⟨⟨dx, d, T, a.k _ _ h1 (hp.ne h1 fun _ _ _ z => by cases z), a.k _ _ h2 (hp.ne h2 fun _ _ _ z => by cases z), h3⟩, h4⟩
section
variable {P : Program} {w : World} {K : PySem.W.Frag} {mg : Str → Option Value} {base : Heap} {a : Ads}
def spCellAt (K : PySem.W.Frag) : Sp := fun vs H Q _ => ∃ (s : Addr) (ns : List Int), vs = [.ref s, .int 0] ∧ SqL K H s (iv ns) ∧ Q (.int (ns.headD 0)) H
theorem sc86 : FnScope ["_law_script", "_law_k"] ["_law_script", "_law_k"] (defScope (topS 86)) := ⟨rfl, rfl, rfl, by decide +kernel, rfl, by decide +kernel, by decide +kernel⟩
theorem ok_cell_at (T : Tx K mg a) (L : Tl K mg) : Fnc P w K mg base CX0 1 "_law_cell_at" (spCellAt K) := by
  refine fnc_of L.d_cell_at sc86 (fun _ _ _ _ _ _ us hl => match us, hl with | [_, _], _ => rfl) (fun vs H Q E h => ?_) fun f cdv A outer s H vs Q E hr h => ?_
  · obtain ⟨s, ns, rfl, _⟩ := h; rfl
  · obtain ⟨s, ns, rfl, hs, kq⟩ := h
    refine ⟨_, pss_cons (ps_if (pt_cmpR op_lt (pv 1) (pe_callB call_len_seq (by rfl) T.len PySem.boot_len (pa_cons (pv 0) pa_nil)) (nomark _)) (pss_one (ps_ret (pe_ix ix_list (pv 0) (pv 1) (fun _ _ => rfl)))) pss_nil) (pss_one (ps_ret pe_int)), ?_⟩
    refine ⟨_, rfl, _, rfl, s, _, rfl, .inl hs, _, _, rfl, rfl, _, rfl, ?_⟩
    rw [iv_len]
    cases ns with
    | nil => exact iteF kq
    | cons n ns => 
      rw [decide_eq_true (show (0 : Int) < ((n :: ns).length : Nat) by rw [List.length_cons]; omega)]
      exact iteT ⟨_, rfl, _, rfl, s, _, 0, .int n, rfl, rfl, hs, atI_nat (xs := iv (n :: ns)) (j := 0) (v := V.int n) rfl, kq⟩
def spPen : Sp := fun vs H Q _ => ∃ c : Int, vs = [.int c] ∧ ∀ p H', Same H H' → H p = none → PenAt H' p → Q (.ref p) H'
theorem sc87 : FnScope ["_law_cell"] ["_law_cell"] (defScope (topS 87)) := ⟨rfl, rfl, rfl, by decide +kernel, rfl, by decide +kernel, by decide +kernel⟩
theorem ok_pen (T : Tx K mg a) (L : Tl K mg) : Fnc P w K mg base CX0 1 "_law_pen" spPen := by
  refine fnc_of L.d_pen sc87 (fun _ _ _ _ _ _ us hl => match us, hl with | [_], _ => rfl) (fun vs H Q E h => ?_) fun f cdv A outer s H vs Q E hr h => ?_
  · obtain ⟨c, rfl, _⟩ := h; rfl
  · obtain ⟨c, rfl, kq⟩ := h
    refine ⟨_, pss_one (ps_ret (pe_lst (pa_cons (pe_callB (call_max2 rfl) (by rfl) T.max (by decide +kernel) (pa_cons pe_int (pa_cons (pe_op op_sub (pv 0) (pe_op op_pow pe_int pe_int)) pa_nil)))
      (pa_cons (pe_op op_mod (pe_callTy call_int1 (by rfl) T.int (by decide +kernel) (pa_cons (pv 0) pa_nil)) pe_int) (pa_cons pe_int pa_nil))))), ?_⟩
    refine ⟨_, rfl, _, _, rfl, rfl, ⟨by decide, by decide, by decide⟩, _, _, rfl, rfl, _, _, rfl, ?_⟩
    refine ⟨_, rfl, .inl ⟨_, rfl, _, _, rfl, rfl, (show (0 : Int) < 2147483629 by decide), line_lit (n := 3) (by decide), fun p np => ?_⟩⟩
    exact kq p _ (Same.new np) np ⟨⟨_, _, _, upd_same, Int.emod_nonneg _ (by decide), Int.lt_trans (Int.emod_lt_of_pos _ (by decide)) (by decide)⟩⟩
def spDraw : Sp := fun vs H Q _ => ∃ (p : Addr) (m : Int), vs = [.ref p, .int m] ∧ 0 < m ∧ m < 1073741824 ∧ PenAt H p ∧ ∀ r H', 0 ≤ r → r < m → Pn p H H' → (∀ b, b ≠ p → H' b = H b) → Q (.int r) H'
theorem sc88 : FnScope ["_law_pen_here", "_law_many", "_law_digit", "_law_stirred"] ["_law_pen_here", "_law_many"] (defScope (topS 88)) := ⟨rfl, rfl, rfl, by decide +kernel, rfl, by decide +kernel, by decide +kernel⟩
theorem pn_upd {H : Hp} {p : Addr} {a b c : Int} (h1 : 0 ≤ b) (h2 : b < 2147483648) : Pn p H (upd H p (penL a b c)) := ⟨fun x u h n => by rw [upd_ne n]; exact h, ⟨⟨a, b, c, upd_same, h1, h2⟩⟩⟩
theorem upd_upd {H : Hp} {p : Addr} {o u : HO} : upd (upd H p o) p u = upd H p u := by
  funext b
  by_cases e : b = p
  · rw [e, upd_same, upd_same]
  · rw [upd_ne e, upd_ne e, upd_ne e]
theorem ok_draw (T : Tx K mg a) (L : Tl K mg) : Fnc P w K mg base CX0 1 "_law_draw" spDraw := by
  refine fnc_of L.d_draw sc88 (fun _ _ _ _ _ _ us hl => match us, hl with | [_, _], _ => rfl) (fun vs H Q E h => ?_) fun f cdv A outer s H vs Q E hr h => ?_
  · obtain ⟨p, m, rfl, _⟩ := h; rfl
  · obtain ⟨p, m, rfl, hm0, hm1, ⟨⟨x, y, z, hp, hy0, hy1⟩⟩, kq⟩ := h
    refine ⟨_, pss_cons (ps_if (pt_cmpR op_gt (pe_ix ix_list (pv 0) pe_int (fun _ _ => rfl)) pe_int (nomark _))
        (pss_cons (ps_set (i := 2) sc88.nd rfl (.inl rfl) (pe_op op_mod (pe_callTy call_int1 (by rfl) T.int (by decide +kernel) (pa_cons (pe_ix ix_list (pv 0) pe_int (fun _ _ => rfl)) pa_nil)) (pv 1)))
        (pss_cons (ps_asg (pe_op op_fdiv (pe_ix ix_list (pv 0) pe_int (fun _ _ => rfl)) (pv 1)) (pg_sub (pv 0) pe_int set_list))
        (pss_one (ps_ret (pv 2))))) pss_nil)
      (pss_cons (ps_asg (pe_op op_add (pe_ix ix_list (pv 0) pe_int (fun _ _ => rfl)) pe_int) (pg_sub (pv 0) pe_int set_list))
      (pss_cons (ps_asg (pe_op op_mod (pe_callTy call_int1 (by rfl) T.int (by decide +kernel) (pa_cons (pe_op op_add (pe_op op_add (pe_op op_mul (pe_ix ix_list (pv 0) pe_int (fun _ _ => rfl)) pe_int) (pe_op op_mul pe_int (pe_ix ix_list (pv 0) pe_int (fun _ _ => rfl)))) pe_int) pa_nil)) pe_int) (pg_sub (pv 0) pe_int set_list))
      (pss_cons (ps_set (i := 3) sc88.nd rfl (.inl rfl) (pe_op op_mod (pe_callTy call_int1 (by rfl) T.int (by decide +kernel) (pa_cons (pe_op op_add (pe_op op_add (pe_op op_mul (pe_ix ix_list (pv 0) pe_int (fun _ _ => rfl)) (pe_ix ix_list (pv 0) pe_int (fun _ _ => rfl))) (pe_op op_mul pe_int (pe_ix ix_list (pv 0) pe_int (fun _ _ => rfl)))) (pe_ix ix_list (pv 0) pe_int (fun _ _ => rfl))) pa_nil)) pe_int))
      (pss_one (ps_ret (pe_op op_mod (pe_callTy call_int1 (by rfl) T.int (by decide +kernel) (pa_cons (pe_op op_fdiv (pe_op op_mod (pe_callTy call_int1 (by rfl) T.int (by decide +kernel) (pa_cons (pe_op op_mul (pv 3) pe_int) pa_nil)) pe_int) pe_int) pa_nil)) (pv 1))))))), ?_⟩
    have a0 : atI [V.int x, V.int y, V.int z] 0 = some (V.int x) := atI_nat (j := 0) rfl
    have hp' : H p = some (.lst [.int x, .int y, .int z]) := hp
    refine ⟨_, rfl, p, _, 0, .int x, rfl, rfl, SqL.of hp', a0, _, _, rfl, rfl, _, rfl, ?_⟩
    by_cases hx : (0 : Int) < x
    · rw [decide_eq_true hx]
      refine iteT ⟨_, rfl, p, _, 0, .int x, rfl, rfl, SqL.of hp', a0, .inl ⟨_, rfl, _, rfl, _, _, rfl, rfl, hm0, ?_⟩⟩
      refine ⟨_, rfl, p, _, 0, .int x, rfl, rfl, SqL.of hp', a0, _, rfl, _, _, rfl, rfl, ⟨hm0, hm1⟩, ?_⟩
      refine ⟨_, rfl, p, _, _, 0, rfl, rfl, hp', rfl, _, rfl, ?_⟩
      exact kq (x % m) _ (Int.emod_nonneg _ (by omega)) (Int.emod_lt_of_pos _ hm0) (pn_upd (a := x / m) (b := y) (c := z) hy0 hy1) (fun b hb => upd_ne hb)
    · rw [decide_eq_false hx]
      have a2 : atI [V.int x, V.int y, V.int z] 2 = some (V.int z) := atI_nat (j := 2) rfl
      refine iteF ⟨_, rfl, p, _, 2, .int z, rfl, rfl, SqL.of hp', a2, _, _, rfl, rfl, ?_⟩
      refine ⟨_, rfl, p, _, _, 2, rfl, rfl, hp', rfl, ?_⟩
      have hp1 : (upd H p (.lst [.int x, .int y, .int (z + 1)])) p = some (.lst [.int x, .int y, .int (z + 1)]) := upd_same
      have b1 : atI [V.int x, V.int y, V.int (z + 1)] 1 = some (V.int y) := atI_nat (j := 1) rfl
      have b2 : atI [V.int x, V.int y, V.int (z + 1)] 2 = some (V.int (z + 1)) := atI_nat (j := 2) rfl
      refine ⟨_, rfl, p, _, 1, .int y, rfl, rfl, SqL.of hp1, b1, _, _, rfl, rfl, .inr ⟨by decide, by decide⟩, ?_⟩
      refine ⟨_, rfl, p, _, 2, .int (z + 1), rfl, rfl, SqL.of hp1, b2, _, _, rfl, rfl, .inl ⟨by decide, by decide⟩, _, _, rfl, rfl, _, _, rfl, rfl, .inl ⟨_, rfl, _, _, rfl, rfl, (show (0 : Int) < 2147483647 by decide), ?_⟩⟩
      have hw0 := Int.emod_nonneg (y * 48271 + 7919 * (z + 1) + 11) (show (2147483647 : Int) ≠ 0 by decide)
      have hw1 := Int.emod_lt_of_pos (y * 48271 + 7919 * (z + 1) + 11) (show (0 : Int) < 2147483647 by decide)
      refine ⟨_, rfl, p, _, _, 1, rfl, rfl, hp1, rfl, ?_⟩
      have hp2 : (upd (upd H p (.lst [.int x, .int y, .int (z + 1)])) p (.lst [.int x, .int ((y * 48271 + 7919 * (z + 1) + 11) % 2147483647), .int (z + 1)])) p = some (.lst [.int x, .int ((y * 48271 + 7919 * (z + 1) + 11) % 2147483647), .int (z + 1)]) := upd_same
      have c1 : atI [V.int x, V.int ((y * 48271 + 7919 * (z + 1) + 11) % 2147483647), V.int (z + 1)] 1 = some (V.int ((y * 48271 + 7919 * (z + 1) + 11) % 2147483647)) := atI_nat (j := 1) rfl
      have c2 : atI [V.int x, V.int ((y * 48271 + 7919 * (z + 1) + 11) % 2147483647), V.int (z + 1)] 2 = some (V.int (z + 1)) := atI_nat (j := 2) rfl
      refine ⟨_, rfl, p, _, 1, .int ((y * 48271 + 7919 * (z + 1) + 11) % 2147483647), rfl, rfl, SqL.of hp2, c1, _, rfl, p, _, 1, .int ((y * 48271 + 7919 * (z + 1) + 11) % 2147483647), rfl, rfl, SqL.of hp2, c1, _, _, rfl, rfl, .inl ⟨by omega, by omega⟩, ?_⟩
      refine ⟨_, rfl, p, _, 1, .int ((y * 48271 + 7919 * (z + 1) + 11) % 2147483647), rfl, rfl, SqL.of hp2, c1, _, _, rfl, rfl, .inl ⟨by decide, by decide⟩, _, _, rfl, rfl, ?_⟩
      refine ⟨_, rfl, p, _, 2, .int (z + 1), rfl, rfl, SqL.of hp2, c2, _, _, rfl, rfl, .inl ⟨_, rfl, _, _, rfl, rfl, (show (0 : Int) < 2147483563 by decide), ?_⟩⟩
      refine ⟨_, rfl, _, _, rfl, rfl, .inr ⟨by decide, by decide⟩, .inl ⟨_, rfl, _, _, rfl, rfl, (show (0 : Int) < 2147483647 by decide), _, _, rfl, rfl, ⟨by decide, by decide⟩, .inl ⟨_, rfl, _, rfl, _, _, rfl, rfl, hm0, ?_⟩⟩⟩
      refine kq _ _ (Int.emod_nonneg _ (by omega)) (Int.emod_lt_of_pos _ hm0) ?_ fun b hb => by rw [upd_ne hb, upd_ne hb]
      rw [upd_upd]
      exact pn_upd hw0 (by omega)
end
end RcX
end
section
set_option Elab.async false
set_option linter.all false
set_option maxRecDepth 100000
set_option maxHeartbeats 4000000
namespace RcX
open PySem PySem.Spec PyProof.Rows L2
section
variable {P : Program} {w : World} {K : PySem.W.Frag} {mg : Str → Option Value} {base : Heap} {a : Ads}
def spPick : Sp := fun vs H Q _ => ∃ (p l : Addr) (xs : List V), vs = [.ref p, .ref l] ∧ PenAt H p ∧ l ≠ p ∧ H l = some (.lst xs) ∧ 0 < xs.length ∧ xs.length ≤ 1000 ∧ ∀ (i : Nat) x H', xs[i]? = some x → Pn p H H' → (∀ b, b ≠ p → H' b = H b) → Q x H'
theorem sc89 : FnScope ["_law_pen_here", "_law_things"] ["_law_pen_here", "_law_things"] (defScope (topS 89)) := ⟨rfl, rfl, rfl, by decide +kernel, rfl, by decide +kernel, by decide +kernel⟩
theorem ok_pick (T : Tx K mg a) (L : Tl K mg) : Fnc P w K mg base CX0 2 "_law_pick" spPick := by
  have cd : Fnc P w K mg base CX0 1 "_law_draw" spDraw := ok_draw T L
  refine fnc_of L.d_pick sc89 (fun _ _ _ _ _ _ us hl => match us, hl with | [_, _], _ => rfl) (fun vs H Q E h => ?_) fun f cdv A outer s H vs Q E hr h => ?_
  · obtain ⟨p, l, xs, rfl, _⟩ := h; rfl
  · obtain ⟨p, l, xs, rfl, hp, hlp, hl, h0, h1, kq⟩ := h
    refine ⟨_, pss_one (ps_ret (pe_ix ix_list (pv 1) (pe_f cd hr (by decide) (E := E0) pass0 (by rfl) (pa_cons (pv 0) (pa_cons (pe_callB call_len_seq (by rfl) T.len PySem.boot_len (pa_cons (pv 1) pa_nil)) pa_nil))) (fun _ _ => rfl))), ?_⟩
    refine ⟨_, rfl, _, rfl, _, rfl, l, xs, rfl, .inl (SqL.of hl), p, xs.length, rfl, by omega, by omega, hp, fun r H' hr0 hr1 pn same => ?_⟩
    obtain ⟨k, rfl⟩ : ∃ k : Nat, r = k := ⟨r.toNat, by omega⟩
    have hk : k < xs.length := by omega
    have hl' : H' l = some (.lst xs) := by rw [same l hlp]; exact hl
    exact ⟨l, xs, _, xs[k], rfl, rfl, SqL.of hl', atI_nat (List.getElem?_eq_getElem hk), kq k _ H' (List.getElem?_eq_getElem hk) pn same⟩
/-! ### _law_mixed -/
theorem dpAll_erase {H : Hp} : ∀ {xs : List V} {ds : List PyData} {j : Nat}, DpAll K H xs ds → DpAll K H (xs.eraseIdx j) (ds.eraseIdx j)
  | _, _, _, .nil => .nil
  | _, _, 0, .cons _ h => h
  | _, _, j + 1, .cons h1 h2 => .cons h1 (dpAll_erase (j := j) h2)
theorem erase_map {α β : Type} (f : α → β) : ∀ (l : List α) (j : Nat), (l.map f).eraseIdx j = (l.eraseIdx j).map f
  | [], _ => rfl
  | _ :: _, 0 => rfl
  | x :: l, j + 1 => by
    show f x :: (l.map f).eraseIdx j = _
    rw [erase_map f l j]; rfl
theorem erase_len {α : Type} : ∀ {l : List α} {j : Nat} {x : α}, l[j]? = some x → (l.eraseIdx j).length + 1 = l.length
  | _ :: _, 0, _, _ => rfl
  | y :: l, j + 1, x, h => by
    show (l.eraseIdx j).length + 1 + 1 = l.length + 1
    rw [erase_len (l := l) (j := j) (by simpa using h)]
theorem erase_perm {α : Type} : ∀ {l : List α} {j : Nat} {x : α}, l[j]? = some x → (x :: l.eraseIdx j).Perm l
  | y :: l, 0, x, h => by
    obtain rfl : y = x := by simpa using h
    exact .refl _
  | y :: l, j + 1, x, h => by
    have ih := erase_perm (l := l) (j := j) (by simpa using h)
    show (x :: y :: l.eraseIdx j).Perm (y :: l)
    exact (List.Perm.swap _ _ _).trans (ih.cons _)
def spMixed (K : PySem.W.Frag) : Sp := fun vs H Q _ => ∃ (β : Type) (enc : β → PyData) (p l : Addr) (xs : List V) (bs : List β), vs = [.ref p, .ref l] ∧ PenAt H p ∧ l ≠ p ∧ H l = some (.lst xs) ∧ DpAll K H xs (bs.map enc) ∧ (∀ b, NoL (enc b) = true) ∧ (∀ b, (enc b).canLay0 = true) ∧ (∀ b, (enc b).depth ≤ 8) ∧ bs.length ≤ 900 ∧
  ∀ (q : Addr) (ys : List V) (cs : List β) (H' : Hp), cs.Perm bs → DpAll K H' ys (cs.map enc) → H' q = some (.lst ys) → Pn p H H' → H q = none → Q (.ref q) H'
theorem sc90 : FnScope ["_law_pen_here", "_law_things", "_law_left", "_law_found"] ["_law_pen_here", "_law_things"] (defScope (topS 90)) := ⟨rfl, rfl, rfl, by decide +kernel, rfl, by decide +kernel, by decide +kernel⟩
theorem ok_mixed (T : Tx K mg a) (L : Tl K mg) : Fnc P w K mg base CX0 2 "_law_mixed" (spMixed K) := by
  have cd : Fnc P w K mg base CX0 1 "_law_draw" spDraw := ok_draw T L
  refine fnc_of L.d_mixed sc90 (fun _ _ _ _ _ _ us hl => match us, hl with | [_, _], _ => rfl) (fun vs H Q E h => ?_) fun f cdv A outer s H vs Q E hr h => ?_
  · obtain ⟨β, enc, p, l, xs, bs, rfl, _⟩ := h; rfl
  · obtain ⟨β, enc, p, l, xs, bs, rfl, hp, hlp, hl, hd, hno, hcl, hdp, hlen, kq⟩ := h
    have hu := hr.units
    refine ⟨_, pss_cons (ps_par (i := 2) (j := 3) rfl sc90.nd rfl rfl (by decide) rfl rfl (pa_cons (pe_callTy call_list_of (by rfl) T.list PyProof.Rows.boot_list (pa_cons (pv 1) pa_nil)) (pa_cons (pe_lst pa_nil) pa_nil)) (by rfl))
      (pss_cons (ps_while PassesOwn.never (pt_cmpR (op_neD hu) (pv 2) (pe_lst pa_nil) (nomark _))
        (pss_one (ps_expr (pe_bm PySem.F.plainAttrs_list PySem.F.slot_list_append PySem.F.type_list_append mt_append (pv 3)
          (pa_cons (pe_bm PySem.F.plainAttrs_list PySem.F.slot_list_pop PySem.F.type_list_pop mt_popAt (pv 2)
            (pa_cons (pe_f cd hr (by decide) (E := E0) pass0 (by rfl) (pa_cons (pv 0) (pa_cons (pe_callB call_len_seq (by rfl) T.len PySem.boot_len (pa_cons (pv 2) pa_nil)) pa_nil))) pa_nil)) pa_nil)))))
      (pss_one (ps_ret (pv 3)))), ?_⟩
    refine ⟨_, rfl, l, xs, rfl, .inl (SqL.of hl), fun d1 nd1 => ?_⟩
    have s1 : Same H (upd H d1 (.lst xs)) := Same.new nd1
    refine ⟨Nat.zero_le _, fun d2 nd2 => ⟨_, _, rfl, ?_⟩⟩
    have s2 : Same (upd H d1 (.lst xs)) (upd (upd H d1 (.lst xs)) d2 (.lst [])) := Same.new nd2
    have s12 := s1.trans s2
    have f2 : H d2 = none := s1.free nd2
    have h12 : d1 ≠ d2 := ne_of_none upd_same nd2
    refine ⟨fun m σ H2 => ∃ (xs1 ys : List V) (ls cs : List β), σ = [some (.ref p), some (.ref l), some (.ref d1), some (.ref d2)] ∧ Pn p H H2 ∧ H2 d1 = some (.lst xs1) ∧ DpAll K H2 xs1 (ls.map enc) ∧ H2 d2 = some (.lst ys) ∧ DpAll K H2 ys (cs.map enc) ∧ (cs ++ ls).Perm bs ∧ m = ls.length,
      ⟨_, xs, [], bs, [], rfl, Pn.same hp s12, s2 _ _ upd_same, DpAll.same s12 _ _ hd, upd_same, .nil, .refl _, rfl⟩, ?_⟩
    rintro m σ H2 ⟨xs1, ys, ls, cs, rfl, pn, h1, e1, h2, e2, perm, rfl⟩
    refine ⟨_, rfl, Nat.zero_le _, fun e ne => ?_⟩
    have s3 : Same H2 (upd H2 e (.lst [])) := Same.new ne
    have pl := perm.length_eq
    rw [List.length_append] at pl
    refine ⟨.list (ls.map enc), .list [], .lst (SqL.of (s3 _ _ h1)) (DpAll.same s3 _ _ e1), .lst (SqL.of upd_same) .nil, shaped_list (canLay_map hcl ls) (Nat.le_trans (depth_map hdp ls) (by decide)), rfl, ?_⟩
    rw [eqv_nil]
    refine ⟨_, rfl, ?_⟩
    cases ls with
    | nil =>
      refine iteF ⟨_, rfl, ?_⟩
      rw [List.append_nil] at perm
      exact kq d2 ys cs _ perm (DpAll.same s3 _ _ e2) (s3 _ _ h2) (pn.then s3) f2
    | cons b0 lr =>
      generalize hls : b0 :: lr = ls at *
      have hemp : ls.isEmpty = false := by rw [← hls]; rfl
      rw [hemp]
      have hne : 0 < ls.length := by rw [← hls]; exact Nat.succ_pos _
      have hx1 : xs1.length = ls.length := by rw [dpAll_len e1, List.length_map]
      refine iteT ⟨fun σ' H' => ∃ m', m' < ls.length ∧ ∃ (xs1 ys : List V) (ls cs : List β), σ' = [some (.ref p), some (.ref l), some (.ref d1), some (.ref d2)] ∧ Pn p H H' ∧ H' d1 = some (.lst xs1) ∧ DpAll K H' xs1 (ls.map enc) ∧ H' d2 = some (.lst ys) ∧ DpAll K H' ys (cs.map enc) ∧ (cs ++ ls).Perm bs ∧ m' = ls.length, fun σ' H' h => h, ?_⟩
      have pn3 := pn.then s3
      have hd1p : d1 ≠ p := fun z => by
        obtain ⟨⟨x, y, zz, h9, _⟩⟩ := hp
        rw [z, h9] at nd1; cases nd1
      have hd2p : d2 ≠ p := fun z => by
        obtain ⟨⟨x, y, zz, h9, _⟩⟩ := hp
        rw [z, h9] at f2; cases f2
      refine ⟨_, rfl, .inl ⟨rfl, _, SqL.of (s3 _ _ h2)⟩, _, rfl, .inl ⟨rfl, _, SqL.of (s3 _ _ h1)⟩, _, rfl, _, rfl, d1, xs1, rfl, .inl (SqL.of (s3 _ _ h1)), p, xs1.length, rfl, by omega, by omega, pn3.at_, fun r H4 hr0 hr1 pn4 same => ?_⟩
      obtain ⟨k, rfl⟩ : ∃ k : Nat, r = k := ⟨r.toNat, by omega⟩
      have hk : k < xs1.length := by omega
      obtain ⟨j, hj1, hj2, hj3, _, _⟩ := atI_get (xs := xs1) (i := (k : Int)) (v := xs1[k]) (atI_nat (List.getElem?_eq_getElem hk))
      have h14 : H4 d1 = some (.lst xs1) := by rw [same d1 hd1p]; exact s3 _ _ h1
      have h24 : H4 d2 = some (.lst ys) := by rw [same d2 hd2p]; exact s3 _ _ h2
      obtain ⟨dt, hdt, hDp⟩ := dpAll_get (DpAll.same s3 _ _ e1) hj2
      rw [List.getElem?_map] at hdt
      cases hb : ls[j]? with
      | none => rw [hb] at hdt; cases hdt
      | some b =>
        rw [hb] at hdt
        obtain rfl : enc b = dt := Option.some.inj hdt
        refine ⟨d1, xs1, _, j, _, rfl, rfl, h14, by omega, by omega, hj1, hj2, ?_⟩
        have ts4 := pn4.tups pn3.at_
        have ts5 : TupS H4 (upd H4 d1 (.lst (xs1.eraseIdx j))) := TupS.upd h14 rfl
        have h25 : (upd H4 d1 (.lst (xs1.eraseIdx j))) d2 = some (.lst ys) := by rw [upd_ne h12.symm]; exact h24
        have ts6 : TupS (upd H4 d1 (.lst (xs1.eraseIdx j))) (upd (upd H4 d1 (.lst (xs1.eraseIdx j))) d2 (.lst (ys ++ [xs1[k]]))) := TupS.upd h25 rfl
        have ts := ((TupS.same s3).trans ts4).trans (ts5.trans ts6)
        have hyl : ys.length = cs.length := by rw [dpAll_len e2, List.length_map]
        refine ⟨d2, _, _, rfl, rfl, h25, small1000 (by omega), ?_⟩
        have le1 := erase_len hb
        refine ⟨(ls.eraseIdx j).length, by omega, xs1.eraseIdx j, ys ++ [xs1[k]], ls.eraseIdx j, cs ++ [b], rfl, ((pn3.trans pn4).up hp nd1).up hp f2, by rw [upd_ne h12, upd_same], ?_, upd_same, ?_, ?_, rfl⟩
        · rw [← erase_map]
          exact DpAll.ts ts (by rw [erase_map]; exact NoL.map hno _) (dpAll_erase e1)
        · rw [List.map_append]
          have hDb : Dp K H2 (xs1[k]) (enc b) := by
            obtain ⟨dt2, h9, h10⟩ := dpAll_get e1 hj2
            rw [List.getElem?_map, hb] at h9
            obtain rfl : enc b = dt2 := Option.some.inj h9
            exact h10
          exact DpAll.ts ts (NoL_app (NoL.map hno _) (NoL.map hno [b])) (dpAll_snoc e2 hDb)
        · have hp1 := erase_perm hb
          have : (cs ++ [b] ++ ls.eraseIdx j).Perm (cs ++ ls) := by
            rw [List.append_assoc]
            exact List.Perm.append_left cs hp1
          exact this.trans perm
end
end RcX
end
section
set_option Elab.async false
set_option linter.all false
set_option maxRecDepth 100000
set_option maxHeartbeats 4000000
namespace RcX
open PySem PySem.Spec PyProof.Rows L2
/-! ### _law_pairs -/
def Kp (p : Addr) (H H' : Hp) : Prop := ∀ b u, H b = some u → b ≠ p → H' b = some u
theorem Kp.of {p : Addr} {H H' : Hp} (e : Same H H') : Kp p H H' := fun b u h _ => e b u h
theorem cut_to (l : List Int) (n : Nat) : cutV (iv l) none (some (n : Int)) = iv (l.take n) := by
  unfold cutV
  show ((iv l).drop 0).take (HT.sIx (iv l).length (iv l).length (some (n : Int)) - 0) = _
  rw [HT.sIx_nat, List.drop_zero, Nat.sub_zero, iv_len]
  unfold iv
  rw [← List.map_take]
  congr 1
  by_cases h : n ≤ l.length
  · rw [Nat.min_eq_left h]
  · rw [Nat.min_eq_right (by omega), List.take_of_length_le (Nat.le_refl _), List.take_of_length_le (by omega)]
theorem cut_from (l : List Int) (n : Nat) (h : n ≤ l.length) : cutV (iv l) (some (n : Int)) none = iv (l.drop n) := by
  unfold cutV
  show ((iv l).drop (HT.sIx (iv l).length 0 (some (n : Int)))).take ((iv l).length - HT.sIx (iv l).length 0 (some (n : Int))) = _
  rw [HT.sIx_nat, iv_len, Nat.min_eq_left h]
  unfold iv
  rw [← List.map_drop, ← List.map_take]
  congr 1
  rw [List.take_of_length_le (by rw [List.length_drop]; exact Nat.le_refl _)]
theorem rg_iv (n : Nat) : rgV 0 (n : Int) = iv ((List.range n).map fun i : Nat => (i : Int)) := by
  unfold rgV iv
  rw [List.map_map, Int.sub_zero, Int.toNat_natCast]
  refine List.map_congr_left fun i _ => ?_
  show V.int (0 + (i : Int)) = V.int i
  rw [Int.zero_add]
structure PL (H0 H : Hp) (p s k f t q : Addr) (spots keys free turned : List Int) : Prop where
  hs : H s = some (.lst (iv spots))
  hk : H k = some (.lst (iv keys))
  hf : H f = some (.lst (iv free))
  ht : H t = some (.lst (iv turned))
  fs : H0 s = none
  fk : H0 k = none
  ff : H0 f = none
  ft : H0 t = none
  fq : H0 q = none
  sq : s ≠ q
  kq : k ≠ q
  fq' : f ≠ q
  tq : t ≠ q
theorem pen_ne {H0 : Hp} {p b : Addr} (hp : PenAt H0 p) (h : H0 b = none) : b ≠ p := fun e => by
  obtain ⟨⟨x, y, z, h2, _⟩⟩ := hp
  rw [e, h2] at h; cases h
theorem PL.kp {H0 H H' : Hp} {p s k f t q : Addr} {spots keys free turned : List Int} (hp : PenAt H0 p) (l : PL H0 H p s k f t q spots keys free turned) (e : Kp p H H') : PL H0 H' p s k f t q spots keys free turned :=
  ⟨e _ _ l.hs (pen_ne hp l.fs), e _ _ l.hk (pen_ne hp l.fk), e _ _ l.hf (pen_ne hp l.ff), e _ _ l.ht (pen_ne hp l.ft), l.fs, l.fk, l.ff, l.ft, l.fq, l.sq, l.kq, l.fq', l.tq⟩
theorem PL.q {H0 H : Hp} {p s k f t q : Addr} {spots keys free turned : List Int} {o : HO} (l : PL H0 H p s k f t q spots keys free turned) : PL H0 (upd H q o) p s k f t q spots keys free turned :=
  ⟨by rw [upd_ne l.sq]; exact l.hs, by rw [upd_ne l.kq]; exact l.hk, by rw [upd_ne l.fq']; exact l.hf, by rw [upd_ne l.tq]; exact l.ht, l.fs, l.fk, l.ff, l.ft, l.fq, l.sq, l.kq, l.fq', l.tq⟩
def Fk (shift scale x : Int) : Int := (x - shift) * scale
def Ins (n x : Int) : Prop := 0 ≤ x ∧ x < n
theorem get_ins {n : Int} {L : List Int} (h : ∀ y ∈ L, Ins n y) {j : Nat} (hj : j < L.length) : ∃ y, Ins n y ∧ (iv L)[j]? = some (.int y) := by
  refine ⟨L[j], h _ (List.getElem_mem hj), ?_⟩
  unfold iv
  rw [List.getElem?_map, List.getElem?_eq_getElem hj]; rfl
theorem iv_app (l m : List Int) : iv l ++ iv m = iv (l ++ m) := by unfold iv; rw [List.map_append]
section
variable {P : Program} {w : World} {K : PySem.W.Frag} {mg : Str → Option Value} {base : Heap} {a : Ads}
/-- the state of the loop -/
structure PG2 (K : PySem.W.Frag) (H0 H : Hp) (p s k f t q : Addr) (spots keys free turned : List Int) (shift scale : Int) (n : Int) (i : Nat) : Prop where
  pn : Pn p H0 H
  pl : PL H0 H p s k f t q spots keys free turned
  ex : ∃ (xs : List V) (T : List (Int × Int)), H q = some (.lst xs) ∧ DpAll K H xs (T.map pairD) ∧ T.map (·.1) = (keys.take i).map (Fk shift scale) ∧ ∀ r ∈ T, ∃ y, Ins n y ∧ r.2 = Fk shift scale y
theorem PG2.pn' {H0 H H' : Hp} {p s k f t q : Addr} {spots keys free turned : List Int} {shift scale n : Int} {i : Nat} (hp : PenAt H0 p) (g : PG2 K H0 H p s k f t q spots keys free turned shift scale n i) (e : Pn p H H') : PG2 K H0 H' p s k f t q spots keys free turned shift scale n i := by
  obtain ⟨xs, T, h1, h2, h3, h4⟩ := g.ex
  refine ⟨g.pn.trans e, g.pl.kp hp e.k, xs, T, e.k _ _ h1 (pen_ne hp g.pl.fq), DpAll.ts (e.tups g.pn.at_) (NoL.map pair_noL _) h2, h3, h4⟩
theorem PG2.same {H0 H H' : Hp} {p s k f t q : Addr} {spots keys free turned : List Int} {shift scale n : Int} {i : Nat} (hp : PenAt H0 p) (g : PG2 K H0 H p s k f t q spots keys free turned shift scale n i) (e : Same H H') : PG2 K H0 H' p s k f t q spots keys free turned shift scale n i := g.pn' hp (Pn.same g.pn.at_ e)
def spPairs (K : PySem.W.Frag) : Sp := fun vs H Q _ => ∃ (p : Addr) (m : Nat), vs = [.ref p, .int m] ∧ m ≤ 30 ∧ PenAt H p ∧ ∀ (q : Addr) (xs : List V) (T : List (Int × Int)) (H' : Hp), RowsIn T → H' q = some (.lst xs) → DpAll K H' xs (T.map pairD) → Pn p H H' → H q = none → Q (.ref q) H'
abbrev N91 : List Str := ["_law_pen_here", "_law_most", "_law_many", "_law_scale", "_law_shift", "_law_way", "_law_spots", "_law_keys", "_law_free", "_law_turned", "_law_pairs_here", "_law_at", "_law_key", "_law_to"]
theorem sc91 : FnScope N91 ["_law_pen_here", "_law_most"] (defScope (topS 91)) := ⟨rfl, rfl, rfl, by decide +kernel, rfl, by decide +kernel, by decide +kernel⟩
theorem fk_bound {shift scale x : Int} {n : Int} (h1 : 1 ≤ scale) (h2 : scale ≤ 10 ^ 28) (hs : Ins n shift) (hx : Ins n x) (hn : n ≤ 62) : -Big < Fk shift scale x ∧ Fk shift scale x < Big := by
  have a1 : x - shift ≤ 61 := by have := hs.1; have := hx.2; omega
  have a2 : -61 ≤ x - shift := by have := hs.2; have := hx.1; omega
  have b1 : (x - shift) * scale ≤ 61 * scale := Int.mul_le_mul_of_nonneg_right a1 (by omega)
  have b2 : -61 * scale ≤ (x - shift) * scale := Int.mul_le_mul_of_nonneg_right a2 (by omega)
  unfold Fk Big
  have hc : (10 : Int) ^ 30 = 100 * 10 ^ 28 := by decide
  constructor
  · rw [hc]; omega
  · rw [hc]; omega
theorem fk_inj {shift scale x y : Int} (h1 : 1 ≤ scale) (h : Fk shift scale x = Fk shift scale y) : x = y := by
  unfold Fk at h
  have := Int.eq_of_mul_eq_mul_right (by omega) h
  omega
theorem ok_pairs (T : Tx K mg a) (L : Tl K mg) : Fnc P w K mg base CX0 3 "_law_pairs" (spPairs K) := by
  have cd : Fnc P w K mg base CX0 1 "_law_draw" spDraw := ok_draw T L
  have cp : Fnc P w K mg base CX0 2 "_law_pick" spPick := ok_pick T L
  have cm : Fnc P w K mg base CX0 2 "_law_mixed" (spMixed K) := ok_mixed T L
  refine fnc_of L.d_pairs sc91 (fun _ _ _ _ _ _ us hl => match us, hl with | [_, _], _ => rfl) (fun vs H Q E h => ?_) fun fA cdv A outer s0 H0 vs Q E hr h => ?_
  · obtain ⟨p, m, rfl, _⟩ := h; rfl
  · obtain ⟨p, m, rfl, hm, hp, kq⟩ := h
    refine ⟨_, pss_cons (ps_set (i := 2) sc91.nd rfl (.inl rfl) (pe_f cd hr (by decide) (E := E0) pass0 (by rfl) (pa_cons (pv 0) (pa_cons (pe_op op_add (pv 1) pe_int) pa_nil))))
      (pss_cons (ps_par3 (i := 3) (j := 4) (l := 5) rfl sc91.nd rfl rfl rfl (by decide) (by decide) (by decide) rfl rfl rfl
        (pa_cons (pe_f cp hr (by decide) (E := E0) pass0 (by rfl) (pa_cons (pv 0) (pa_cons (pe_lst (pa_cons pe_int (pa_cons pe_int (pa_cons pe_int (pa_cons (pe_op op_pow pe_int pe_int) (pa_cons (pe_op op_pow pe_int pe_int) pa_nil)))))) pa_nil)))
        (pa_cons (pe_f cd hr (by decide) (E := E0) pass0 (by rfl) (pa_cons (pv 0) (pa_cons (pe_op op_add (pe_op op_mul pe_int (pv 2)) pe_int) pa_nil)))
        (pa_cons (pe_f cd hr (by decide) (E := E0) pass0 (by rfl) (pa_cons (pv 0) (pa_cons pe_int pa_nil))) pa_nil))) (by rfl))
      (pss_cons (ps_set (i := 6) sc91.nd rfl (.inl rfl) (pe_f cm hr (by decide) (E := E0) pass0 (by rfl) (pa_cons (pv 0) (pa_cons (pe_listRg rfl (by rfl) T.list (prg_1 (by rfl) T.range (pe_op op_add (pe_op op_mul pe_int (pv 2)) pe_int))) pa_nil))))
      (pss_cons (ps_par3 (i := 7) (j := 8) (l := 9) rfl sc91.nd rfl rfl rfl (by decide) (by decide) (by decide) rfl rfl rfl
        (pa_cons (pe_slice sl_list (pv 6) po_none (po_some (pv 2))) (pa_cons (pe_slice sl_list (pv 6) (po_some (pv 2)) po_none)
          (pa_cons (pe_f cm hr (by decide) (E := E0) pass0 (by rfl) (pa_cons (pv 0) (pa_cons (pe_slice sl_list (pv 6) po_none (po_some (pv 2))) pa_nil))) pa_nil))) (by rfl))
      (pss_cons (ps_set (i := 10) sc91.nd rfl (.inl rfl) (pe_lst pa_nil))
      (pss_cons (ps_for PassesOwn.never rfl (pi_enum (by rfl) T.enum (pa_cons (pv 7) pa_nil)) (pg_tup rfl (pgs_cons (pg_name (i := 11) sc91.nd rfl (.inl rfl)) (pgs_cons (pg_name (i := 12) sc91.nd rfl (.inl rfl)) pgs_nil)))
        (C8.pss_cut (ps_set (i := 13) sc91.nd rfl (.inl rfl) (pe_f cp hr (by decide) (E := E0) pass0 (by rfl) (pa_cons (pv 0) (pa_cons (pe_lst (pa_cons (pe_f cp hr (by decide) (E := E0) pass0 (by rfl) (pa_cons (pv 0) (pa_cons (pv 6) pa_nil)))
            (pa_cons (pe_f cp hr (by decide) (E := E0) pass0 (by rfl) (pa_cons (pv 0) (pa_cons (pv 8) pa_nil))) (pa_cons (pv 12) (pa_cons (pe_f cp hr (by decide) (E := E0) pass0 (by rfl) (pa_cons (pv 0) (pa_cons (pv 7) pa_nil))) pa_nil))))) pa_nil))))
        (C8.pss_cut (ps_if (pt_cmpR op_eq (pv 5) pe_int (nomark _)) (pss_one (ps_set (i := 13) sc91.nd rfl (.inl rfl) (pe_ix ix_list (pv 9) (pv 11) (fun _ _ => rfl)))) pss_nil)
        (C8.pss_cut (ps_if (PW.pt (pw_and (pt_cmpR op_eq (pv 5) pe_int (nomark _)) (pw_and1 (pt_cmpR op_gt (pe_f cd hr (by decide) (E := E0) pass0 (by rfl) (pa_cons (pv 0) (pa_cons pe_int pa_nil))) pe_int (nomark _)))))
            (pss_one (ps_set (i := 13) sc91.nd rfl (.inl rfl) (pe_ix ix_list (pe_op op_cat (pv 7) (pv 8)) (pe_op op_add (pv 11) pe_int) (fun _ _ => rfl)))) pss_nil)
        (C8.pss_cut (ps_if (pt_cmpR op_eq (pv 5) pe_int (nomark _)) (pss_one (ps_set (i := 13) sc91.nd rfl (.inl rfl) (pe_ix ix_list (pe_op op_cat (pv 7) (pv 8))
            (pe_op op_sub (pe_op op_add (pv 11) pe_int) (pe_op op_mul (pe_f cd hr (by decide) (E := E0) pass0 (by rfl) (pa_cons (pv 0) (pa_cons pe_int pa_nil))) (pv 11))) (fun _ _ => rfl)))) pss_nil)
        (C8.pss_cut (ps_if (pt_cmpR op_eq (pv 5) pe_int (nomark _)) (pss_one (ps_set (i := 13) sc91.nd rfl (.inl rfl) (pe_ix ix_list (pe_op op_cat (pe_slice sl_list (pv 8) po_none (po_some pe_int)) (pv 7))
            (pe_callB (call_max2 rfl) (by rfl) T.max (by decide +kernel) (pa_cons pe_int (pa_cons (pe_op op_sub (pv 11) (pe_f cd hr (by decide) (E := E0) pass0 (by rfl) (pa_cons (pv 0) (pa_cons pe_int pa_nil)))) pa_nil))) (fun _ _ => rfl)))) pss_nil)
        (C8.pss_cut (ps_if (PW.pt (pw_and (pt_cmpR op_eq (pv 5) pe_int (nomark _)) (pw_and1 (pt_cmpR op_gt (pv 11) pe_int (nomark _)))))
            (pss_one (ps_set (i := 13) sc91.nd rfl (.inl rfl) (pe_f cp hr (by decide) (E := E0) pass0 (by rfl) (pa_cons (pv 0) (pa_cons (pe_op op_cat (pe_slice sl_list (pv 7) po_none (po_some (pv 11))) (pe_slice sl_list (pv 8) po_none (po_some pe_int))) pa_nil))))) pss_nil)
        (pss_one (ps_expr (pe_bm PySem.F.plainAttrs_list PySem.F.slot_list_append PySem.F.type_list_append mt_append (pv 10)
          (pa_cons (pe_tup (pa_cons (pe_op op_mul (pe_op op_sub (pv 12) (pv 4)) (pv 3)) (pa_cons (pe_op op_mul (pe_op op_sub (pv 13) (pv 4)) (pv 3)) pa_nil))) pa_nil)))))))))))
      (pss_one (ps_ret (pv 10)))))))), ?_⟩
    refine ⟨_, rfl, _, rfl, _, _, rfl, rfl, p, (m : Int) + 1, rfl, by omega, by omega, hp, fun r0 H1 hr0 hr1 pn1 _ => ?_⟩
    obtain ⟨many, rfl⟩ : ∃ n : Nat, r0 = n := ⟨r0.toNat, by omega⟩
    have hmany : many ≤ 30 := by omega
    -- scale, shift, way
    refine ⟨_, rfl, _, _, rfl, rfl, ⟨by decide, by decide, by decide⟩, _, _, rfl, rfl, ⟨by decide, by decide, by decide⟩, line_lit (n := 5) (by decide), fun l1 nl1 => ?_⟩
    have q1 : Same H1 (upd H1 l1 (.lst [.int 1, .int 1, .int 3, .int (10 ^ 9), .int (10 ^ 28)])) := Same.new nl1
    have pn2 := pn1.then q1
    have fl1 : H0 l1 = none := pn1.free hp nl1
    refine ⟨p, l1, _, rfl, pn2.at_, pen_ne hp fl1, upd_same, by decide, by decide, fun i1 x1 H2 hx1 pn3 _ => ?_⟩
    have hsc : ∃ scale : Int, x1 = .int scale ∧ 1 ≤ scale ∧ scale ≤ 10 ^ 28 := by
      rcases i1 with _ | _ | _ | _ | _ | i1
      · exact ⟨1, (Option.some.inj hx1).symm, by decide, by decide⟩
      · exact ⟨1, (Option.some.inj hx1).symm, by decide, by decide⟩
      · exact ⟨3, (Option.some.inj hx1).symm, by decide, by decide⟩
      · exact ⟨10 ^ 9, (Option.some.inj hx1).symm, by decide, by decide⟩
      · exact ⟨10 ^ 28, (Option.some.inj hx1).symm, by decide, by decide⟩
      · cases hx1
    obtain ⟨scale, rfl, hsc1, hsc2⟩ := hsc
    have pn4 := pn2.trans pn3
    refine ⟨_, rfl, _, rfl, _, _, rfl, rfl, .inl ⟨by decide, by decide⟩, _, _, rfl, rfl, p, 2 * (many : Int) + 2, rfl, by omega, by omega, pn4.at_, fun shift H3 hsh0 hsh1 pn5 _ => ?_⟩
    have pn6 := pn4.trans pn5
    refine ⟨_, rfl, p, 7, rfl, by decide, by decide, pn6.at_, fun way H4 hw0 hw1 pn7 _ => ⟨_, _, _, rfl, ?_⟩⟩
    have pn8 := pn6.trans pn7
    obtain ⟨n, hn⟩ : ∃ n : Int, n = 2 * (many : Int) + 2 := ⟨_, rfl⟩
    have hn62 : n ≤ 62 := by omega
    have hInsS : Ins n shift := ⟨hsh0, by omega⟩
    have erg : rgV 0 (2 * (many : Int) + 2) = iv ((List.range (2 * many + 2)).map fun i : Nat => (i : Int)) := by
      have := rg_iv (2 * many + 2)
      rwa [show (((2 * many + 2 : Nat)) : Int) = 2 * (many : Int) + 2 by omega] at this
    -- the spots
    refine ⟨_, rfl, _, rfl, _, _, rfl, rfl, .inl ⟨by decide, by decide⟩, _, _, rfl, rfl, _, rfl, RgOk.of_le (by decide) (by omega) (by decide) (by omega), fun u nu => ?_⟩
    have q2 : Same H4 (upd H4 u (.lst (rgV 0 (2 * (many : Int) + 2)))) := Same.new nu
    have pn9 := pn8.then q2
    have fu : H0 u = none := pn8.free hp nu
    refine ⟨Int, PyData.int, p, u, _, (List.range (2 * many + 2)).map fun i : Nat => (i : Int), rfl, pn9.at_, pen_ne hp fu, upd_same, by rw [erg]; exact dp_ints _, fun _ => rfl, fun _ => rfl, fun _ => by simp [PyData.depth], by rw [List.length_map, List.length_range]; omega, fun sp ys spots H5 permS hdS hsp pn10 fsp => ?_⟩
    obtain rfl := dp_ints_inv hdS
    have pn11 := pn9.trans pn10
    have fs : H0 sp = none := pn9.free hp fsp
    have hspl : spots.length = 2 * many + 2 := by rw [permS.length_eq, List.length_map, List.length_range]
    have hspI : ∀ y ∈ spots, Ins n y := fun y hy => by
      obtain ⟨j, hj, rfl⟩ := List.mem_map.mp (permS.mem_iff.mp hy)
      have := List.mem_range.mp hj
      exact ⟨by omega, by omega⟩
    have hspN : spots.Nodup := by
      rw [permS.nodup_iff, List.Nodup, List.pairwise_map]
      exact List.nodup_range.imp fun {a b} hab hz => hab (by omega)
    -- keys, free, turned
    refine ⟨_, rfl, _, rfl, _, rfl, sp, _, rfl, SqL.of hsp, fun kk nkk => ?_⟩
    have q3 : Same H5 (upd H5 kk (.lst (cutV (iv spots) none (some (many : Int))))) := Same.new nkk
    have hkk : (upd H5 kk (.lst (cutV (iv spots) none (some (many : Int))))) kk = some (.lst (iv (spots.take many))) := by rw [upd_same, cut_to]
    generalize hH6 : upd H5 kk (.lst (cutV (iv spots) none (some (many : Int)))) = H6 at *
    have pn12 := pn11.then q3
    have fkk : H0 kk = none := pn11.free hp nkk
    refine ⟨_, rfl, _, rfl, _, rfl, sp, _, rfl, SqL.of (q3 _ _ hsp), fun ff nff => ?_⟩
    have q4 : Same H6 (upd H6 ff (.lst (cutV (iv spots) (some (many : Int)) none))) := Same.new nff
    have hff : (upd H6 ff (.lst (cutV (iv spots) (some (many : Int)) none))) ff = some (.lst (iv (spots.drop many))) := by rw [upd_same, cut_from _ _ (by omega)]
    generalize hH7 : upd H6 ff (.lst (cutV (iv spots) (some (many : Int)) none)) = H7 at *
    have pn13 := pn12.then q4
    have fff : H0 ff = none := pn12.free hp nff
    refine ⟨_, rfl, _, rfl, _, rfl, _, rfl, sp, _, rfl, SqL.of (q4 _ _ (q3 _ _ hsp)), fun u2 nu2 => ?_⟩
    have q5 : Same H7 (upd H7 u2 (.lst (cutV (iv spots) none (some (many : Int))))) := Same.new nu2
    have hu2 : (upd H7 u2 (.lst (cutV (iv spots) none (some (many : Int))))) u2 = some (.lst (iv (spots.take many))) := by rw [upd_same, cut_to]
    generalize hH8 : upd H7 u2 (.lst (cutV (iv spots) none (some (many : Int)))) = H8 at *
    have pn14 := pn13.then q5
    have fu2 : H0 u2 = none := pn13.free hp nu2
    refine ⟨Int, PyData.int, p, u2, _, spots.take many, rfl, pn14.at_, pen_ne hp fu2, hu2, dp_ints _, fun _ => rfl, fun _ => rfl, fun _ => by simp [PyData.depth], by rw [List.length_take]; omega, fun tt ys2 turned H9 permT hdT htt pn15 ftt => ?_⟩
    obtain rfl := dp_ints_inv hdT
    have pn16 := pn14.trans pn15
    have ftt0 : H0 tt = none := pn14.free hp ftt
    have keep9 : ∀ b o, H7 b = some o → b ≠ p → H9 b = some o := fun b o h hb => pn15.k b o (q5 b o h) hb
    refine ⟨_, _, _, rfl, Nat.zero_le _, fun qq nqq => ?_⟩
    have q6 : Same H9 (upd H9 qq (.lst [])) := Same.new nqq
    have pn17 := pn16.then q6
    have fqq : H0 qq = none := pn16.free hp nqq
    have hs9 := keep9 _ _ (q4 _ _ (q3 _ _ hsp)) (pen_ne hp fs)
    have hk9 := keep9 _ _ (q4 _ _ hkk) (pen_ne hp fkk)
    have hf9 := keep9 _ _ hff (pen_ne hp fff)
    have pl0 : PL H0 (upd H9 qq (.lst [])) p sp kk ff tt qq spots (spots.take many) (spots.drop many) turned :=
      ⟨q6 _ _ hs9, q6 _ _ hk9, q6 _ _ hf9, q6 _ _ htt, fs, fkk, fff, ftt0, fqq, ne_of_none hs9 nqq, ne_of_none hk9 nqq, ne_of_none hf9 nqq, ne_of_none htt nqq⟩
    have g0 : PG2 K H0 (upd H9 qq (.lst [])) p sp kk ff tt qq spots (spots.take many) (spots.drop many) turned shift scale n 0 := ⟨pn17, pl0, [], [], upd_same, .nil, rfl, fun r hr => by cases hr⟩
    have hkl : (spots.take many).length = many := by rw [List.length_take]; omega
    have hfl : (spots.drop many).length = many + 2 := by rw [List.length_drop]; omega
    have htl : turned.length = many := by rw [permT.length_eq]; exact hkl
    have hkI : ∀ y ∈ spots.take many, Ins n y := fun y hy => hspI y (List.mem_of_mem_take hy)
    have hfI : ∀ y ∈ spots.drop many, Ins n y := fun y hy => hspI y (List.mem_of_mem_drop hy)
    have htI : ∀ y ∈ turned, Ins n y := fun y hy => hkI y (permT.mem_iff.mp hy)
    generalize hkeys : spots.take many = keys at *
    generalize hfree : spots.drop many = free at *
    refine ⟨_, rfl, kk, _, rfl, SqL.of pl0.hk, ?_⟩
    refine for_it walk_enum (fun i σ H => ∃ v11 v12 v13, σ = [some (.ref p), some (.int m), some (.int many), some (.int scale), some (.int shift), some (.int way), some (.ref sp), some (.ref kk), some (.ref ff), some (.ref tt), some (.ref qq), v11, v12, v13] ∧ PG2 K H0 H p sp kk ff tt qq spots keys free turned shift scale n i)
      ⟨none, none, none, rfl, g0⟩ (fun i σ H _ ⟨_, _, _, _, g⟩ => SqL.of g.pl.hk) ?_ ?_
    · rintro i x σ Hi Hi' hi ⟨v11, v12, v13, rfl, g⟩ ⟨T0, x0, y0, rfl, nT, rfl, hx0, hy0⟩
      obtain rfl : V.int (i : Nat) = x0 := Option.some.inj hx0
      obtain ⟨key, hkey, rfl⟩ := iv_get hy0
      rw [iv_len, hkl] at hi
      have g1 := g.same hp (Same.new (o := .tup [.int (i : Nat), .int key]) nT)
      have hkeyI : Ins n key := hkI _ (List.mem_of_getElem? hkey)
      refine ⟨T0, _, rfl, .inl (.inl upd_same), rfl, _, _, rfl, _, _, rfl, rfl, ?_⟩
      generalize upd Hi T0 (.tup [.int (i : Nat), .int key]) = Ha at *
      have hps : sp ≠ p := pen_ne hp fs
      have hpk : kk ≠ p := pen_ne hp fkk
      have hpf : ff ≠ p := pen_ne hp fff
      have hsl : (iv spots).length = 2 * many + 2 := by rw [iv_len]; exact hspl
      have hfl' : (iv free).length = many + 2 := by rw [iv_len]; exact hfl
      have hkl' : (iv keys).length = many := by rw [iv_len]; exact hkl
      have ofL : ∀ (Lx : List Int), (∀ y ∈ Lx, Ins n y) → ∀ (j : Nat) (x : V), (iv Lx)[j]? = some x → ∃ y, Ins n y ∧ x = .int y := fun Lx hL j x hx => by
        obtain ⟨y, h1, h2⟩ := iv_get hx
        exact ⟨y, hL y (List.mem_of_getElem? h1), h2⟩
      have atKF : ∀ j, j < 2 * many + 2 → ∃ y, Ins n y ∧ (iv keys ++ iv free)[j]? = some (.int y) := fun j hj => by
        rw [iv_app]
        exact get_ins (fun y hy => (List.mem_append.mp hy).elim (hkI y) (hfI y)) (by rw [List.length_append]; omega)
      refine ⟨fun σ H => ∃ to, Ins n to ∧ σ = [some (.ref p), some (.int m), some (.int many), some (.int scale), some (.int shift), some (.int way), some (.ref sp), some (.ref kk), some (.ref ff), some (.ref tt), some (.ref qq), some (.int (i : Nat)), some (.int key), some (.int to)] ∧ PG2 K H0 H p sp kk ff tt qq spots keys free turned shift scale n i, ?_, ?_⟩
      · refine ⟨_, rfl, _, rfl, _, rfl, p, sp, _, rfl, g1.pn.at_, hps, g1.pl.hs, by omega, by omega, fun i1 x1 Hb hx1 pb _ => ?_⟩
        have g2 := g1.pn' hp pb
        refine ⟨_, rfl, _, rfl, p, ff, _, rfl, g2.pn.at_, hpf, g2.pl.hf, by omega, by omega, fun i2 x2 Hc hx2 pc _ => ?_⟩
        have g3 := g2.pn' hp pc
        refine ⟨_, rfl, _, rfl, _, rfl, p, kk, _, rfl, g3.pn.at_, hpk, g3.pl.hk, by omega, by omega, fun i3 x3 Hd hx3 pd _ => ?_⟩
        have g4 := g3.pn' hp pd
        obtain ⟨y1, hy1, rfl⟩ := ofL _ hspI _ _ hx1
        obtain ⟨y2, hy2, rfl⟩ := ofL _ hfI _ _ hx2
        obtain ⟨y3, hy3, rfl⟩ := ofL _ hkI _ _ hx3
        refine ⟨line_lit (n := 4) (by decide), fun u4 nu4 => ?_⟩
        have g5 := g4.same hp (Same.new (o := .lst [.int y1, .int y2, .int key, .int y3]) nu4)
        refine ⟨p, u4, _, rfl, g5.pn.at_, pen_ne hp (g4.pn.free hp nu4), upd_same, Nat.succ_pos _, (show 4 ≤ 1000 by decide), fun i4 x4 He hx4 pe4 _ => ?_⟩
        have g6 := g5.pn' hp pe4
        have hx : ∃ y, Ins n y ∧ x4 = .int y := by
          rcases i4 with _ | _ | _ | _ | i4
          · exact ⟨y1, hy1, (Option.some.inj hx4).symm⟩
          · exact ⟨y2, hy2, (Option.some.inj hx4).symm⟩
          · exact ⟨key, hkeyI, (Option.some.inj hx4).symm⟩
          · exact ⟨y3, hy3, (Option.some.inj hx4).symm⟩
          · cases hx4
        obtain ⟨y4, hy4, rfl⟩ := hx
        exact ⟨y4, hy4, rfl, g6⟩
      rintro σ1 Hf ⟨to, hto, rfl, g⟩
      -- way 1
      refine ⟨fun σ H => ∃ to, Ins n to ∧ σ = [some (.ref p), some (.int m), some (.int many), some (.int scale), some (.int shift), some (.int way), some (.ref sp), some (.ref kk), some (.ref ff), some (.ref tt), some (.ref qq), some (.int (i : Nat)), some (.int key), some (.int to)] ∧ PG2 K H0 H p sp kk ff tt qq spots keys free turned shift scale n i, ?_, ?_⟩
      · refine ⟨_, rfl, rfl, _, rfl, ?_⟩
        by_cases hw : V.int way = V.int 1
        · rw [decide_eq_true hw]
          obtain ⟨y, hy, hat⟩ := get_ins htI (j := i) (by omega)
          exact iteT ⟨_, rfl, _, rfl, tt, _, _, .int y, rfl, rfl, SqL.of g.pl.ht, atI_nat hat, y, hy, rfl, g⟩
        · rw [decide_eq_false hw]
          exact iteF ⟨to, hto, rfl, g⟩
      clear hto g
      rintro σ1 Hf ⟨to, hto, rfl, g⟩
      -- way 2
      refine ⟨fun σ H => ∃ to, Ins n to ∧ σ = [some (.ref p), some (.int m), some (.int many), some (.int scale), some (.int shift), some (.int way), some (.ref sp), some (.ref kk), some (.ref ff), some (.ref tt), some (.ref qq), some (.int (i : Nat)), some (.int key), some (.int to)] ∧ PG2 K H0 H p sp kk ff tt qq spots keys free turned shift scale n i, ?_, ?_⟩
      · refine ⟨_, rfl, rfl, _, rfl, ?_⟩
        by_cases hw : V.int way = V.int 2
        · rw [decide_eq_true hw]
          refine iteT ⟨_, rfl, p, 8, rfl, by decide, by decide, g.pn.at_, fun r Hg hr0 hr1 pg _ => ?_⟩
          have g2 := g.pn' hp pg
          refine ⟨_, _, rfl, rfl, _, rfl, ?_⟩
          by_cases hr2 : (0 : Int) < r
          · rw [decide_eq_true hr2]
            refine iteT ⟨_, rfl, _, rfl, kk, ff, _, _, rfl, rfl, g2.pl.hk, g2.pl.hf, by rw [hkl', hfl']; exact line_lit (n := many + (many + 2)) (by omega), fun u nu => ?_⟩
            have g3 := g2.same hp (Same.new (o := .lst (iv keys ++ iv free)) nu)
            obtain ⟨y, hy, hat⟩ := atKF (i + 1) (by omega)
            refine ⟨_, rfl, _, _, rfl, rfl, u, _, _, .int y, rfl, rfl, SqL.of upd_same, ?_, y, hy, rfl, g3⟩
            have := atI_nat hat
            rwa [show (((i + 1 : Nat)) : Int) = (i : Int) + 1 by omega] at this
          · rw [decide_eq_false hr2]
            exact iteF ⟨to, hto, rfl, g2⟩
        · rw [decide_eq_false hw]
          exact iteF (iteF ⟨to, hto, rfl, g⟩)
      clear hto g
      rintro σ1 Hf ⟨to, hto, rfl, g⟩
      -- way 3
      refine ⟨fun σ H => ∃ to, Ins n to ∧ σ = [some (.ref p), some (.int m), some (.int many), some (.int scale), some (.int shift), some (.int way), some (.ref sp), some (.ref kk), some (.ref ff), some (.ref tt), some (.ref qq), some (.int (i : Nat)), some (.int key), some (.int to)] ∧ PG2 K H0 H p sp kk ff tt qq spots keys free turned shift scale n i, ?_, ?_⟩
      · refine ⟨_, rfl, rfl, _, rfl, ?_⟩
        by_cases hw : V.int way = V.int 3
        · rw [decide_eq_true hw]
          refine iteT ⟨_, rfl, _, rfl, kk, ff, _, _, rfl, rfl, g.pl.hk, g.pl.hf, by rw [hkl', hfl']; exact line_lit (n := many + (many + 2)) (by omega), fun u nu => ?_⟩
          have g3 := g.same hp (Same.new (o := .lst (iv keys ++ iv free)) nu)
          have fu3 := g.pn.free hp nu
          refine ⟨_, rfl, _, _, rfl, rfl, _, rfl, p, 2, rfl, by decide, by decide, g3.pn.at_, fun r Hg hr0 hr1 pg _ => ?_⟩
          have g4 := g3.pn' hp pg
          have hu : Hg u = some (.lst (iv keys ++ iv free)) := pg.k _ _ upd_same (pen_ne hp fu3)
          refine ⟨_, rfl, _, _, rfl, rfl, .inl ⟨by omega, by omega⟩, _, _, rfl, rfl, u, iv keys ++ iv free, (i : Int) + 1 - r * (i : Int), ?_⟩
          rcases (show r = 0 ∨ r = 1 by omega) with rfl | rfl
          · obtain ⟨y, hy, hat⟩ := atKF (i + 1) (by omega)
            refine ⟨.int y, rfl, rfl, SqL.of hu, ?_, y, hy, rfl, g4⟩
            have := atI_nat hat
            rwa [show (((i + 1 : Nat)) : Int) = (i : Int) + 1 - 0 * (i : Int) by omega] at this
          · obtain ⟨y, hy, hat⟩ := atKF 1 (by omega)
            refine ⟨.int y, rfl, rfl, SqL.of hu, ?_, y, hy, rfl, g4⟩
            have := atI_nat hat
            rwa [show (((1 : Nat)) : Int) = (i : Int) + 1 - 1 * (i : Int) by omega] at this
        · rw [decide_eq_false hw]
          exact iteF ⟨to, hto, rfl, g⟩
      clear hto g
      rintro σ1 Hf ⟨to, hto, rfl, g⟩
      -- way 4
      refine ⟨fun σ H => ∃ to, Ins n to ∧ σ = [some (.ref p), some (.int m), some (.int many), some (.int scale), some (.int shift), some (.int way), some (.ref sp), some (.ref kk), some (.ref ff), some (.ref tt), some (.ref qq), some (.int (i : Nat)), some (.int key), some (.int to)] ∧ PG2 K H0 H p sp kk ff tt qq spots keys free turned shift scale n i, ?_, ?_⟩
      · refine ⟨_, rfl, rfl, _, rfl, ?_⟩
        by_cases hw : V.int way = V.int 4
        · rw [decide_eq_true hw]
          refine iteT ⟨_, rfl, 1, rfl, ff, _, rfl, SqL.of g.pl.hf, fun u1 nu1 => ?_⟩
          have q1' : Same Hf (upd Hf u1 (.lst (cutV (iv free) none (some 1)))) := Same.new nu1
          have hu1 : (upd Hf u1 (.lst (cutV (iv free) none (some 1)))) u1 = some (.lst (iv (free.take 1))) := by rw [upd_same]; exact congrArg (fun z => some (HO.lst z)) (cut_to free 1)
          have g2 := g.same hp q1'
          generalize upd Hf u1 (.lst (cutV (iv free) none (some 1))) = Hg at *
          have hl1 : (free.take 1).length = 1 := by rw [List.length_take]; omega
          refine ⟨_, rfl, u1, kk, _, _, rfl, rfl, hu1, g2.pl.hk, by rw [iv_len, hl1, hkl']; exact line_lit (n := 1 + many) (by omega), fun u nu => ?_⟩
          have g3 := g2.same hp (Same.new (o := .lst (iv (free.take 1) ++ iv keys)) nu)
          have fu3 := g2.pn.free hp nu
          refine ⟨_, rfl, _, rfl, p, 4, rfl, by decide, by decide, g3.pn.at_, fun r Hh hr0 hr1 ph _ => ?_⟩
          have g4 := g3.pn' hp ph
          have hu : Hh u = some (.lst (iv (free.take 1) ++ iv keys)) := ph.k _ _ upd_same (pen_ne hp fu3)
          refine ⟨_, _, rfl, rfl, _, _, rfl, u, iv (free.take 1) ++ iv keys, (if (i : Int) - r > 0 then (i : Int) - r else 0), ?_⟩
          have hI2 : ∀ y ∈ free.take 1 ++ keys, Ins n y := fun y hy => (List.mem_append.mp hy).elim (fun h => hfI y (List.mem_of_mem_take h)) (hkI y)
          obtain ⟨k2, hk2, hk3⟩ : ∃ k2 : Nat, (if (i : Int) - r > 0 then (i : Int) - r else 0) = (k2 : Int) ∧ k2 ≤ i := by
            by_cases h0 : (i : Int) - r > 0
            · exact ⟨((i : Int) - r).toNat, by rw [if_pos h0]; omega, by omega⟩
            · exact ⟨0, by rw [if_neg h0]; rfl, by omega⟩
          obtain ⟨y, hy, hat⟩ := get_ins hI2 (j := k2) (by rw [List.length_append, hl1]; omega)
          refine ⟨.int y, rfl, rfl, SqL.of hu, ?_, y, hy, rfl, g4⟩
          rw [iv_app]
          have := atI_nat hat
          rw [← hk2] at this
          exact this
        · rw [decide_eq_false hw]
          exact iteF ⟨to, hto, rfl, g⟩
      clear hto g
      rintro σ1 Hf ⟨to, hto, rfl, g⟩
      -- way 5
      refine ⟨fun σ H => ∃ to, Ins n to ∧ σ = [some (.ref p), some (.int m), some (.int many), some (.int scale), some (.int shift), some (.int way), some (.ref sp), some (.ref kk), some (.ref ff), some (.ref tt), some (.ref qq), some (.int (i : Nat)), some (.int key), some (.int to)] ∧ PG2 K H0 H p sp kk ff tt qq spots keys free turned shift scale n i, ?_, ?_⟩
      · refine ⟨_, rfl, rfl, _, rfl, ?_⟩
        by_cases hw : V.int way = V.int 5
        · rw [decide_eq_true hw]
          refine iteT ⟨_, rfl, _, _, rfl, rfl, _, rfl, ?_⟩
          by_cases hi0 : (0 : Int) < (i : Nat)
          · rw [decide_eq_true hi0]
            refine iteT ⟨_, rfl, _, rfl, _, rfl, _, rfl, kk, _, rfl, SqL.of g.pl.hk, fun u1 nu1 => ?_⟩
            have q1' : Same Hf (upd Hf u1 (.lst (cutV (iv keys) none (some (i : Int))))) := Same.new nu1
            have hu1 : (upd Hf u1 (.lst (cutV (iv keys) none (some (i : Int))))) u1 = some (.lst (iv (keys.take i))) := by rw [upd_same, cut_to]
            have g2 := g.same hp q1'
            generalize upd Hf u1 (.lst (cutV (iv keys) none (some (i : Int)))) = Hg at *
            refine ⟨_, rfl, 2, rfl, ff, _, rfl, SqL.of g2.pl.hf, fun u2' nu2' => ?_⟩
            have q2' : Same Hg (upd Hg u2' (.lst (cutV (iv free) none (some 2)))) := Same.new nu2'
            have hu2' : (upd Hg u2' (.lst (cutV (iv free) none (some 2)))) u2' = some (.lst (iv (free.take 2))) := by rw [upd_same]; exact congrArg (fun z => some (HO.lst z)) (cut_to free 2)
            have g3 := g2.same hp q2'
            have hu1' := q2' _ _ hu1
            generalize upd Hg u2' (.lst (cutV (iv free) none (some 2))) = Hh at *
            have hl1 : (keys.take i).length ≤ many := by rw [List.length_take]; omega
            have hl2 : (free.take 2).length = 2 := by rw [List.length_take]; omega
            refine ⟨u1, u2', _, _, rfl, rfl, hu1', hu2', by rw [iv_len, iv_len, hl2]; exact Nat.le_of_lt (small1000 (by omega)), fun u nu => ?_⟩
            have g4 := g3.same hp (Same.new (o := .lst (iv (keys.take i) ++ iv (free.take 2))) nu)
            refine ⟨p, u, _, rfl, g4.pn.at_, pen_ne hp (g3.pn.free hp nu), upd_same, by rw [List.length_append, iv_len, iv_len]; omega, by rw [List.length_append, iv_len, iv_len]; omega, fun i5 x5 Hj hx5 pj _ => ?_⟩
            have hI2 : ∀ y ∈ keys.take i ++ free.take 2, Ins n y := fun y hy => (List.mem_append.mp hy).elim (fun h => hkI y (List.mem_of_mem_take h)) (fun h => hfI y (List.mem_of_mem_take h))
            rw [iv_app] at hx5
            obtain ⟨y, hy, rfl⟩ := ofL _ hI2 _ _ hx5
            exact ⟨y, hy, rfl, g4.pn' hp pj⟩
          · rw [decide_eq_false hi0]
            exact iteF ⟨to, hto, rfl, g⟩
        · rw [decide_eq_false hw]
          exact iteF (iteF ⟨to, hto, rfl, g⟩)
      clear hto g
      rintro σ1 Hf ⟨to, hto, rfl, g⟩
      obtain ⟨xs, Tl, e1, e2, e3, e4⟩ := g.ex
      have hTl : Tl.length = i := by
        have h1 : (Tl.map (·.1)).length = Tl.length := List.length_map _
        rw [e3, List.length_map, List.length_take] at h1
        omega
      have hxl : xs.length = Tl.length := by rw [dpAll_len e2, List.length_map]
      refine ⟨_, rfl, .inl ⟨rfl, _, SqL.of e1⟩, _, rfl, _, rfl, _, _, rfl, rfl, _, rfl, _, _, rfl, rfl, .inl ⟨?_, ?_⟩, _, rfl, _, rfl, _, _, rfl, rfl, _, rfl, _, _, rfl, rfl, .inl ⟨?_, ?_⟩, two_line, fun T1 nT1 => ?_⟩
      · have := hkeyI.1; have := hInsS.2; show -(2 ^ 64 : Int) < key - shift; omega
      · have := hkeyI.2; have := hInsS.1; show key - shift < (2 ^ 64 : Int); omega
      · have := hto.1; have := hInsS.2; show -(2 ^ 64 : Int) < to - shift; omega
      · have := hto.2; have := hInsS.1; show to - shift < (2 ^ 64 : Int); omega
      have q7 : Same Hf (upd Hf T1 (.tup [.int ((key - shift) * scale), .int ((to - shift) * scale)])) := Same.new nT1
      have g8 := g.same hp q7
      have e1' := q7 _ _ e1
      refine ⟨qq, xs, _, rfl, rfl, e1', small1000 (by omega), _, _, _, rfl, ?_⟩
      refine ⟨g8.pn.up hp fqq, g8.pl.q, xs ++ [.ref T1], Tl ++ [(Fk shift scale key, Fk shift scale to)], upd_same, ?_, ?_, ?_⟩
      · rw [List.map_append]
        exact DpAll.lu e1' (NoL_app (NoL.map pair_noL _) (NoL.map pair_noL [(Fk shift scale key, Fk shift scale to)])) (dpAll_snoc (DpAll.same q7 _ _ e2) (.tup (.inl (.inl upd_same)) (.cons (.int _) (.cons (.int _) .nil))))
      · rw [List.map_append, e3, take_snoc hkey, List.map_append]
        rfl
      · intro r hr
        rcases List.mem_append.mp hr with hr | hr
        · exact e4 r hr
        · rw [List.mem_singleton.mp hr]
          exact ⟨to, hto, rfl⟩
    · rintro σ H ⟨v11, v12, v13, rfl, g⟩
      rw [iv_len, hkl] at g
      obtain ⟨xs, Tl, h1, h2, h3, h4⟩ := g.ex
      rw [List.take_of_length_le (by omega)] at h3
      refine ⟨_, rfl, kq qq xs Tl H ⟨?_, ?_, ?_, ?_⟩ h1 h2 g.pn fqq⟩
      · show (Tl.map (·.1)).Nodup
        rw [h3, List.Nodup, List.pairwise_map]
        have hkn : keys.Nodup := by rw [← hkeys]; exact hspN.sublist (List.take_sublist _ _)
        exact hkn.imp fun {a b} hab hz => hab (fk_inj hsc1 hz)
      · have : (Tl.map (·.1)).length = Tl.length := List.length_map _
        rw [h3, List.length_map] at this
        omega
      · intro r hr
        have : r.1 ∈ Tl.map (·.1) := List.mem_map.mpr ⟨r, hr, rfl⟩
        rw [h3] at this
        obtain ⟨y, hy, e⟩ := List.mem_map.mp this
        rw [← e]
        exact fk_bound hsc1 hsc2 hInsS (hkI y hy) hn62
      · intro r hr
        obtain ⟨y, hy, e⟩ := h4 r hr
        rw [e]
        exact fk_bound hsc1 hsc2 hInsS hy hn62
end
end RcX
end
section
set_option Elab.async false
set_option linter.all false
set_option maxRecDepth 100000
set_option maxHeartbeats 4000000
/-! set(list of ints) -/
namespace RcX
open PySem PySem.Spec PyProof.Rows L2
section
variable {P : Program} {w : World} {A : Around} {E : Value → Shared → Prop} {s : Shared}
/-- a set just made, without members -/
abbrev nsO (w : World) : Obj := { cls := .type "set", dict := none, data := .set #[] 0 (.fresh 0 0 (!w.params.followText "set-order")) }
/-- what the making reaches -/
def Made1 (w : World) (s : Shared) (ns : List Int) (s₂ : Shared) : Prop := ∃ h' tk c, s₂ = { s with heap := h', toks := tk } ∧ SetR w h' s.heap.objs.size (fun j => decide (j ∈ ns)) c ∧ c ≤ ns.length ∧ ∀ b o, s.heap.get? b = some o → h'.get? b = some o
theorem set_of_ints {l : Addr} {items : Array Value} (ns : List Int) {Q : Value → Shared → Prop} (hh : A.handled = none) (hl : s.heap.IsList l items) (hit : IntsAre items.toList ns) (hb : ns.length + 1 < scanBound) (h : ∀ s₂, Made1 w s ns s₂ → Q (.ref s.heap.objs.size) s₂) :
    wpAny (model P w) A (call (.type "set") [.ref l]) Q E s := by
  have hsz : items.size = ns.length := by rw [← Array.length_toList]; exact IntsAre.length hit
  have f1 := F.called_set.notType
  have f2 := F.called_set.canCreate
  have f3 := F.typeCall_set_1 (.ref l)
  have f4 := F.called_set.made
  have f5 := F.called_set.sub
  obtain ⟨c, tl, f6⟩ := F.called_set.mro
  refine wpAny_call (codeAny_of_tree (show wpAny _ _ (callAny (.type "set") _) _ _ _ from wpAny_pure ⟨Code.quiet_builtin _ (by decide +kernel), codeAny_builtin F.entry_type_call ?_⟩))
  rw [Around.under_plain (weight_type_call_type "set" [.ref l] []) rfl]
  repeat (any_goals (first | assumption | wp_step))
  refine codeAny_mono (code_set_led1 (.ref l) (E := E) (Q₁ := fun obj s₁ => obj = .ref s.heap.objs.size ∧ s₁ = { s with heap := s.heap.push (nsO w) }) ⟨rfl, rfl⟩) fun r s₁ hr => ?_
  cases r with
  | error e => exact hr
  | ok fl =>
    cases fl with
    | next => exact hr.elim
    | brk => exact hr.elim
    | cont => exact hr.elim
    | ret obj =>
    obtain ⟨rfl, rfl⟩ := hr
    have oS : (s.heap.push (nsO w)).get? s.heap.objs.size = some (nsO w) := Heap.get?_push_size _ rfl
    have tS : Shared.TypeIs { s with heap := s.heap.push (nsO w) } (.ref s.heap.objs.size) "set" := ⟨_, oS, rfl⟩
    have f7 := F.called_set.init.lookup
    have f8 := F.called_set.init.bind (.ref s.heap.objs.size)
    repeat (any_goals (first | assumption | wp_step))
    refine codeAny_mono (codeAny_call_builtin (R := wants (fun r s₂ => r = .none ∧ Made1 w s ns s₂) E) F.called_set.init.plain F.entry_set_init (check_set_init_1 tS ?_)) fun r₂ s₂ hr₂ => ?_
    · obtain ⟨⟨ocls, odict, odata, oslots⟩, hol, hcl, nl, hdl⟩ := hl
      simp only at hcl hdl
      subst hcl hdl
      have g1 : (s.heap.push (nsO w)).get? l = some { cls := .type "list", dict := odict, data := .seq items nl, slots := oslots } := Heap.get?_push_of_some _ hol
      have g2 := F.sub_list_set
      have g3 := F.sub_list_frozenset
      have g4 : (Value.type "list" == Value.type "dict") = false := by decide
      have g5 : (s.heap.push (nsO w)).IsList l items := ⟨_, g1, rfl, nl, rfl⟩
      unfold Builtin.«set.__init__» noKeywords Builtin.Frozenset.updateFrom
      generalize hPI : pyIter = PI
      wp_walk
      subst hPI
      refine wpAny_pyIter_list g5 (wpAny_bind (wpAny_runValue ?_))
      have lt := Heap.lt_size hol
      have noH : A.in1.in1.in1.handled = none := by simp [hh]
      have zS : (s.heap.push (nsO w)).objs.size = s.heap.objs.size + 1 := Heap.size_push ..
      have apart : l ≠ (s.heap.push (nsO w)).objs.size := by rw [zS]; exact Nat.ne_of_lt (Nat.lt_succ_of_lt lt)
      have notIn : s.heap.objs.size ∉ [(s.heap.push (nsO w)).objs.size, l] := by
        rw [zS]
        intro z
        rcases List.mem_cons.mp z with z | z
        · exact absurd z (Nat.ne_of_lt (Nat.lt_succ_self _))
        · exact absurd (List.mem_singleton.mp z) (Nat.ne_of_gt lt)
      have each : ∀ (i : Nat) (v : Value), items[i]? = some v → ∃ k t, ns[i]? = some k ∧ v = .int k t := fun i v hv => by
        have hi : i < ns.length := by rw [← hsz]; exact (Array.getElem?_eq_some_iff.mp hv).1
        obtain ⟨t, e⟩ := PyProof.Rows.IntsAre.int_at hit i v (by rw [Array.getElem?_toList]; exact hv)
        exact ⟨ns[i], t, List.getElem?_eq_getElem hi, by rw [e, List.getD_eq_getElem?_getD, List.getElem?_eq_getElem hi] <;> rfl⟩
      refine set_update_ints ((Walks.list noH _ l apart items).toS) s.heap.objs.size notIn ns hsz hb each (items.size - 0) 0 _ (by omega) (Nat.zero_le _) ⟨⟨_, Heap.get?_push_size _ rfl, rfl, rfl⟩, (g5.push _)⟩ ?z0 ?zR
      case z0 => exact ⟨0, Nat.le_refl 0, setR_new_at (Heap.get?_push_of_some _ oS)⟩
      case zR =>
        intro s' c' hm hc' hS'
        obtain ⟨h', q1, q2, tk', q3⟩ := s'
        obtain rfl : q1 = s.gens := hm.gens
        obtain rfl : q2 = s.drawn := hm.drawn
        obtain rfl : q3 = s.os := hm.os
        refine wpAny_pure (show wpAny _ _ (ret Value.none) _ _ _ from wpAny_pure ⟨rfl, h', tk', c', rfl, hS', by rw [← hsz]; exact hc', fun b o e => ?_⟩)
        have hb0 : b < s.heap.objs.size := Heap.lt_size e
        refine hm.heap b o (fun z => ?_) (Heap.get?_push_of_some _ (Heap.get?_push_of_some _ e))
        rcases List.mem_cons.mp z with z | z
        · exact absurd z (Nat.ne_of_lt hb0)
        · rw [List.mem_singleton.mp z, zS] at hb0
          exact absurd hb0 (Nat.not_lt.mpr (Nat.le_succ _))
    · cases r₂ with
      | error e => exact hr₂
      | ok fl₂ =>
        cases fl₂ with
        | next => exact hr₂.elim
        | brk => exact hr₂.elim
        | cont => exact hr₂.elim
        | ret r =>
          obtain ⟨rfl, made⟩ := hr₂
          obtain ⟨h', tk, c', rfl, h1, h2, h3⟩ := made
          repeat (any_goals (first | assumption | wp_step))
          exact h _ ⟨h', tk, c', rfl, h1, h2, h3⟩
end
def rSetI (w : World) (K : PySem.W.Frag) : List V → Hp → VK → Prop := fun xs H Q => ∃ (l : Addr) (ns : List Int), xs = [.ref l] ∧ SqL K H l (iv ns) ∧ ns.length ≤ 900 ∧ ∀ (q : Addr) (n : Nat), H q = none → n ≤ ns.length → Q (.ref q) (upd H q (SetO w q (fun k => decide (k ∈ ns)) n))
theorem cr_setI {X : Cx} (hc : X.calm = true) : CallR X (.type "set") (rSetI X.w X.K) := by
  intro pins s σ H xs us Q I r h
  obtain ⟨l, ns, rfl, hl, hlen, q⟩ := h
  obtain ⟨u, rfl, ru⟩ := r.one
  obtain rfl : u = Value.ref l := ru
  obtain ⟨its, rv, pl, hz⟩ := I.list hl
  refine set_of_ints (items := its.toArray) ns (I.ok.hd hc) pl.isList (by simpa using ints_of_vals rv) (by unfold scanBound; omega) fun s₂ made => ?_
  obtain ⟨h', tk, c, rfl, h1, h2, h3⟩ := made
  exact ⟨.ref _, upd H s.heap.objs.size (SetO X.w s.heap.objs.size (fun k => decide (k ∈ ns)) c), I.laid (t' := tk) h3 (Nat.le_refl _) (setO_new h1), rfl, q _ c (I.hok.fresh (Nat.le_refl _)) h2⟩
end RcX
end
section
set_option Elab.async false
set_option linter.all false
set_option maxRecDepth 100000
set_option maxHeartbeats 4000000
namespace RcX
open PySem PySem.Spec PyProof.Rows L2
/-! ### _law_named -/
mutual
def nm (N : List (Int × Int)) : PyData → PyData
  | .int i => match RC.look N i with
    | some j => .int j
    | none => .none
  | .tuple ds => .tuple (nmA N ds)
  | .none => .none
  | .bool b => .bool b
  | .str s => .str s
  | .list ds => .list ds
  | .dict kvs => .dict kvs
def nmA (N : List (Int × Int)) : List PyData → List PyData
  | [] => []
  | d :: ds => nm N d :: nmA N ds
end
theorem nmA_map (N : List (Int × Int)) : ∀ ds, nmA N ds = ds.map (nm N)
  | [] => by unfold nmA; rfl
  | d :: ds => by unfold nmA; rw [nmA_map N ds]; rfl
mutual
/-- short tuples of ints, texts, None, truths -/
def Sm : PyData → Bool
  | .tuple ds => SmA ds
  | .list _ => false
  | .dict _ => false
  | .int _ => true
  | .none => true
  | .bool _ => true
  | .str _ => true
def SmA : List PyData → Bool
  | [] => true
  | d :: ds => Sm d && SmA ds
end
theorem smA_of {ds : List PyData} (h : SmA ds = true) : ∀ d ∈ ds, Sm d = true := by
  induction ds with
  | nil => intro d hd; cases hd
  | cons x ds ih =>
    unfold SmA at h
    obtain ⟨h1, h2⟩ := Bool.and_eq_true_iff.mp h
    intro d hd
    rcases List.mem_cons.mp hd with rfl | hd
    · exact h1
    · exact ih h2 d hd
theorem smA_map {β : Type} {enc : β → PyData} (h : ∀ b, Sm (enc b) = true) : ∀ bs : List β, SmA (bs.map enc) = true
  | [] => by unfold SmA; rfl
  | b :: bs => by
    show SmA (enc b :: bs.map enc) = true
    unfold SmA
    rw [h b, smA_map h bs]; rfl
mutual
theorem nm_noL (N : List (Int × Int)) : ∀ d, Sm d = true → NoL (nm N d) = true
  | .int i, _ => by
    unfold nm
    cases RC.look N i <;> rfl
  | .tuple ds, h => by
    unfold Sm at h
    unfold nm
    exact nmA_noL N ds h
  | .none, _ => by unfold nm; rfl
  | .bool _, _ => by unfold nm; rfl
  | .str _, _ => by unfold nm; rfl
  | .list _, h => by unfold Sm at h; cases h
  | .dict _, h => by unfold Sm at h; cases h
theorem nmA_noL (N : List (Int × Int)) : ∀ ds, SmA ds = true → NoL.go (nmA N ds) = true
  | [], _ => by unfold nmA; rfl
  | d :: ds, h => by
    unfold SmA at h
    obtain ⟨h1, h2⟩ := Bool.and_eq_true_iff.mp h
    unfold nmA
    show (NoL (nm N d) && NoL.go (nmA N ds)) = true
    rw [nm_noL N d h1, nmA_noL N ds h2]; rfl
end
theorem depth_mem {ds : List PyData} {d : PyData} {n : Nat} (h : PyData.depthAll ds ≤ n) (hd : d ∈ ds) : d.depth ≤ n := by
  induction ds with
  | nil => cases hd
  | cons x ds ih =>
    have h' : max x.depth (PyData.depthAll ds) ≤ n := h
    rcases List.mem_cons.mp hd with rfl | hd
    · exact Nat.le_trans (Nat.le_max_left _ _) h'
    · exact ih (Nat.le_trans (Nat.le_max_right _ _) h') hd
/-- what stands in a heap is short -/
def tLens (K : PySem.W.Frag) (t : TE) : TE := fun σ H Q => (∀ p xs, SqT K H p xs → xs.length ≤ sizeLine) → t σ H Q
theorem pe_lens {X : Cx} {e : Expr} {t : TE} (h : PE X e t) : PE X e (tLens X.K t) := ⟨fun pins s σ H Q I hw => h.run pins s σ H Q I (hw fun p xs hs => by
  obtain ⟨its, rv, pl, hz⟩ := I.tuple hs
  exact hz)⟩
section
variable {P : Program} {w : World} {K : PySem.W.Frag} {mg : Str → Option Value} {base : Heap} {a : Ads}
def spNm (K : PySem.W.Frag) (n : Nat) : Sp := fun vs H Q _ => ∃ (d : Addr) (v : V) (N : List (Int × Int)) (x : PyData), vs = [.ref d, v] ∧ H d = some (.dK (kvOf N)) ∧ Dp K H v x ∧ Sm x = true ∧ x.depth ≤ n ∧ ∀ v' H', Same H H' → Dp K H' v' (nm N x) → Q v' H'
abbrev N94 : List Str := ["_law_names_here", "_law_thing", "_law_part"]
theorem sc94 : FnScope N94 ["_law_names_here", "_law_thing"] (defScope (topS 94)) := ⟨rfl, rfl, rfl, by decide +kernel, rfl, by decide +kernel, by decide +kernel⟩
theorem len94 {vs : List V} {H : Hp} {Q : VK} {E : XK} {n : Nat} (h : spNm K n vs H Q E) : vs.length = 2 := by
  obtain ⟨d, v, N, x, rfl, _⟩ := h; rfl
/-- what is no tuple -/
def flatD : PyData → Bool
  | .tuple _ => false
  | .list _ => false
  | .dict _ => false
  | _ => true
theorem isi_flat {H : Hp} {v : V} {x : PyData} (h : Dp K H v x) (f : flatD x = true) : ∃ t : String, TyX K H v (.type t) ∧ kitB t "tuple" = some false ∧ (kitB t "int" = some true ∧ (kitB t "bool" = some false ∨ kitB t "bool" = some true) ∨ kitB t "int" = some false) := by
  cases h with
  | non => exact ⟨"NoneType", .base .non, by decide +kernel, .inr (by decide +kernel)⟩
  | bl b => exact ⟨"bool", .base (.bl b), by decide +kernel, .inl ⟨by decide +kernel, .inr (by decide +kernel)⟩⟩
  | int i => exact ⟨"int", .base (.int i), by decide +kernel, .inl ⟨by decide +kernel, .inl (by decide +kernel)⟩⟩
  | str s => exact ⟨"str", .base (.str s), by decide +kernel, .inr (by decide +kernel)⟩
  | lst _ _ => cases f
  | tup _ _ => cases f
theorem ok_lnamed : ∀ n : Nat, Tx K mg a → Tl K mg → Fnc P w K mg base CX0 (n + 1) "_law_named" (spNm K n)
  | n, T, L => by
    refine fnc_of L.d_named sc94 (fun _ _ _ _ _ _ us hl => match us, hl with | [_, _], _ => rfl) (fun vs H Q E h => len94 h) fun f cdv A outer s H vs Q E hr h => ?_
    have hu := hu_of hr
    obtain ⟨d, v, N, x, rfl, hd, hx, hsm, hdep, kq⟩ := h
    by_cases hfl : flatD x = true
    · refine ⟨_, pss_cons (ps_if (pt_val (pe_callB call_isi (by rfl) T.isi (by decide +kernel) (pa_cons (pv 1) (pa_cons (pe_bltn (v := .ty "tuple") (by rfl) T.tuple (by decide +kernel) rfl) pa_nil)))) (pss_one ps_never) pss_nil)
        (pss_one (ps_ret (pe_ifExp (PW.pt (pw_and (pt_val (pe_callB call_isi (by rfl) T.isi (by decide +kernel) (pa_cons (pv 1) (pa_cons (pe_bltn (v := .ty "int") (by rfl) T.int (by decide +kernel) rfl) pa_nil))))
            (pw_and1 (pt_not (pt_val (pe_callB call_isi (by rfl) T.isi (by decide +kernel) (pa_cons (pv 1) (pa_cons (pe_bltn (v := .ty "bool") (by rfl) T.bool (by decide +kernel) rfl) pa_nil))))))))
          (pe_dget2 hu (pv 0) (pv 1) pe_non ⟨rfl, rfl, rfl, rfl⟩) (pv 1)))), ?_⟩
      have same0 : Same H H := fun _ _ z => z
      cases hx with
      | non =>
        refine ⟨_, rfl, .non, .ty "tuple", .type "NoneType", .type "tuple", false, rfl, .ty _, .base .non, kit_ty (by decide +kernel), false, rfl, iteF ?_⟩
        refine ⟨_, rfl, .non, .ty "int", .type "NoneType", .type "int", false, rfl, .ty _, .base .non, kit_ty (by decide +kernel), false, rfl, iteF (iteF ⟨_, rfl, kq _ H same0 ?_⟩)⟩
        unfold nm; exact .non
      | bl b =>
        refine ⟨_, rfl, .bl b, .ty "tuple", .type "bool", .type "tuple", false, rfl, .ty _, .base (.bl b), kit_ty (by decide +kernel), false, rfl, iteF ?_⟩
        refine ⟨_, rfl, .bl b, .ty "int", .type "bool", .type "int", true, rfl, .ty _, .base (.bl b), kit_ty (by decide +kernel), true, rfl, iteT ?_⟩
        refine ⟨_, rfl, .bl b, .ty "bool", .type "bool", .type "bool", true, rfl, .ty _, .base (.bl b), kit_ty (by decide +kernel), true, rfl, iteF ⟨_, rfl, kq _ H same0 ?_⟩⟩
        unfold nm; exact .bl b
      | int i =>
        refine ⟨_, rfl, .int i, .ty "tuple", .type "int", .type "tuple", false, rfl, .ty _, .base (.int i), kit_ty (by decide +kernel), false, rfl, iteF ?_⟩
        refine ⟨_, rfl, .int i, .ty "int", .type "int", .type "int", true, rfl, .ty _, .base (.int i), kit_ty (by decide +kernel), true, rfl, iteT ?_⟩
        refine ⟨_, rfl, .int i, .ty "bool", .type "int", .type "bool", false, rfl, .ty _, .base (.int i), kit_ty (by decide +kernel), false, rfl, iteT ?_⟩
        refine ⟨_, rfl, d, rfl, .inl ⟨_, .inl hd⟩, _, rfl, _, DGet.k (k := Sum.inl i) hd, kq _ H same0 ?_⟩
        rw [find_kv]
        unfold nm
        cases RC.look N i with
        | none => exact .non
        | some j => exact .int j
      | str z =>
        refine ⟨_, rfl, .str z, .ty "tuple", .type "str", .type "tuple", false, rfl, .ty _, .base (.str z), kit_ty (by decide +kernel), false, rfl, iteF ?_⟩
        refine ⟨_, rfl, .str z, .ty "int", .type "str", .type "int", false, rfl, .ty _, .base (.str z), kit_ty (by decide +kernel), false, rfl, iteF (iteF ⟨_, rfl, kq _ H same0 ?_⟩)⟩
        unfold nm; exact .str z
      | lst _ _ => cases hfl
      | tup _ _ => cases hfl
    · cases hx with
      | non => exact absurd rfl hfl
      | bl b => exact absurd rfl hfl
      | int i => exact absurd rfl hfl
      | str z => exact absurd rfl hfl
      | lst _ _ =>
        unfold Sm at hsm
        cases hsm
      | @tup p xs ds h1 h2 =>
      unfold Sm at hsm
      have hsA := hsm
      have hdep' : PyData.depthAll ds + 1 ≤ n := hdep
      cases n with
      | zero => exact absurd hdep' (Nat.not_succ_le_zero _)
      | succ n =>
        have ih : Fnc P w K mg base CX0 (n + 1) "_law_named" (spNm K n) := ok_lnamed n T L
        refine ⟨_, pss_cons (ps_if (pt_val (pe_callB call_isi (by rfl) T.isi (by decide +kernel) (pa_cons (pv 1) (pa_cons (pe_bltn (v := .ty "tuple") (by rfl) T.tuple (by decide +kernel) rfl) pa_nil))))
            (pss_one (ps_ret (pe_callTy call_tuple_of (by rfl) T.tuple PyProof.Rows.boot_tuple (pa_cons
              (pe_lens (pe_lc (own := [("_law_part", 2)]) (g := gName 2) (tt := tYes) rfl sc94.nd (pi_tup (pv 1)) (blkOk_by (N := N94) (sc := defScope (topS 94)) (by decide +kernel))
                (fun _ _ _ _ _ => pg_name (i := 2) sc94.nd rfl (Or.inl rfl)) (fun _ _ _ _ _ => pts_nil)
                (fun _ _ _ _ _ => pe_f ih hr (by omega) (E := E0) pass0 (by rfl) (pa_cons (pv 0) (pa_cons (pv 2) pa_nil))))) pa_nil)))) pss_nil)
          (pss_one ps_never), ?_⟩
        refine ⟨_, rfl, .ref p, .ty "tuple", .type "tuple", .type "tuple", true, rfl, .ty _, tyX_tup h1, kit_ty (by decide +kernel), true, rfl, iteT ?_⟩
        intro hlen
        have hz := hlen p xs h1
        refine ⟨_, rfl, p, rfl, ⟨xs, h1⟩, fun D hD => ?_⟩
        have hxl := dpAll_len h2
        refine lc_it (walk_tup (xs := xs)) (fun i H2 => Same H H2 ∧ ∃ ys, H2 D = some (.lst ys) ∧ DpAll K H2 ys ((ds.take i).map (nm N))) ⟨Same.new hD, [], upd_same, .nil⟩ (fun i H2 _ h => seqT h.1 h1) ?_ ?_
        · rintro i x0 H2 H2' hi ⟨s2, ys, hy, hdy⟩ ⟨rfl, hxi⟩
          obtain ⟨d0, hdi, hd0⟩ := dpAll_get (DpAll.same s2 _ _ h2) hxi
          have hdm := List.mem_of_getElem? hdi
          have hyl : ys.length ≤ i := by
            have := dpAll_len hdy
            rw [List.length_map, List.length_take] at this
            omega
          refine ⟨rfl, yes_if ⟨_, rfl, _, rfl, d, x0, N, d0, rfl, s2 _ _ hd, hd0, smA_of hsA _ hdm, depth_mem (by omega) hdm, fun v' H3 s3 hv' => ?_⟩⟩
          have hy3 := s3 _ _ hy
          refine ⟨ys, hy3, by omega, (s2.trans s3).up hD, _, upd_same, ?_⟩
          rw [take_snoc hdi, List.map_append]
          have hnl : NoL.go ((ds.take i).map (nm N)) = true := by
            rw [← nmA_map]
            exact nmA_noL N _ (by
              have : ∀ (l : List PyData) (j : Nat), SmA l = true → SmA (l.take j) = true := by
                intro l
                induction l with
                | nil => intro j h; rw [List.take_nil]; exact h
                | cons y l ihl =>
                  intro j h
                  cases j with
                  | zero => unfold SmA; rfl
                  | succ j =>
                    unfold SmA at h
                    obtain ⟨g1, g2⟩ := Bool.and_eq_true_iff.mp h
                    rw [List.take_succ_cons]
                    unfold SmA
                    rw [g1, ihl j g2]; rfl
              exact this ds i hsA)
          exact DpAll.lu hy3 (NoL_app hnl (show (NoL (nm N d0) && true) = true by rw [nm_noL N d0 (smA_of hsA _ hdm)]; rfl)) (dpAll_snoc (DpAll.same s3 _ _ hdy) hv')
        · rintro H2 ⟨s2, ys, hy, hdy⟩
          rw [hxl, List.take_length] at hdy
          refine ⟨D, ys, rfl, .inl ⟨SqL.of hy, fun q nq => ?_⟩⟩
          have s3 : Same H2 (upd H2 q (.tup ys)) := Same.new nq
          refine kq _ _ (s2.trans s3) ?_
          unfold nm
          rw [nmA_map]
          exact .tup (.inl (.inl upd_same)) (DpAll.same s3 _ _ hdy)
end
end RcX
end
section
set_option Elab.async false
set_option linter.all false
set_option maxRecDepth 100000
set_option maxHeartbeats 4000000
namespace RcX
open PySem PySem.Spec PyProof.Rows L2
/-! ### _law_names -/
structure NamesOk (N : List (Int × Int)) (T : List (Int × Int)) : Prop where
  k : (N.map (·.1)).Pairwise (· < ·)
  v : (N.map (·.2)).Pairwise (· < ·)
  all : ∀ x, x ∈ N.map (·.1) ↔ (x ∈ T.map (·.1) ∨ x ∈ T.map (·.2))
  b : ∀ r ∈ N, -Big < r.2 ∧ r.2 < Big
def spNames (K : PySem.W.Frag) : Sp := fun vs H Q _ => ∃ (p l : Addr) (xs : List V) (T : List (Int × Int)), vs = [.ref p, .ref l] ∧ PenAt H p ∧ l ≠ p ∧ H l = some (.lst xs) ∧ DpAll K H xs (T.map pairD) ∧ RowsIn T ∧
  ∀ (d : Addr) (N : List (Int × Int)) (H' : Hp), NamesOk N T → H' d = some (.dK (kvOf N)) → Pn p H H' → H d = none → Q (.ref d) H'
abbrev N95 : List Str := ["_law_pen_here", "_law_pairs_here", "_law_found", "_law_now", "_law_one", "_law_key", "_law_new"]
theorem sc95 : FnScope N95 ["_law_pen_here", "_law_pairs_here"] (defScope (topS 95)) := ⟨rfl, rfl, rfl, by decide +kernel, rfl, by decide +kernel, by decide +kernel⟩
section
variable {P : Program} {w : World} {K : PySem.W.Frag} {mg : Str → Option Value} {base : Heap} {a : Ads}
theorem ok_names (T : Tx K mg a) (L : Tl K mg) : Fnc P w K mg base CX0 3 "_law_names" (spNames K) := by
  have cd : Fnc P w K mg base CX0 1 "_law_draw" spDraw := ok_draw T L
  have cp : Fnc P w K mg base CX0 2 "_law_pick" spPick := ok_pick T L
  refine fnc_of L.d_names sc95 (fun _ _ _ _ _ _ us hl => match us, hl with | [_, _], _ => rfl) (fun vs H Q E h => ?_) fun fA cdv A outer s0 H0 vs Q E hr h => ?_
  · obtain ⟨p, l, xs, T', rfl, _⟩ := h; rfl
  · obtain ⟨p, l, xs, T', rfl, hp, hlp, hl, hd, ri, kq⟩ := h
    have hu := hu_of hr
    have hT30 : T'.length ≤ 30 := ri.len
    have hxl : xs.length = T'.length := by rw [dpAll_len hd, List.length_map]
    refine ⟨_, pss_cons (ps_par (i := 2) (j := 3) rfl sc95.nd rfl rfl (by decide) rfl rfl (pa_cons pe_dnewK (pa_cons (pe_f cp hr (by decide) (E := E0) pass0 (by rfl) (pa_cons (pv 0) (pa_cons (pe_lst (pa_cons pe_int (pa_cons (pe_un un_neg (pe_op op_pow pe_int pe_int)) (pa_cons (pe_un un_neg (pe_op op_pow pe_int pe_int)) pa_nil)))) pa_nil))) pa_nil)) (by rfl))
      (pss_cons (ps_for PassesOwn.never rfl (pi_list (pe_callB (cr_sortedSet rfl) (by rfl) T.sorted (by decide +kernel) (pa_cons (pe_callTy (cr_setI rfl) (by rfl) T.set (by decide +kernel) (pa_cons
          (pe_op op_cat
            (pe_lc (own := [("_law_key", 5), ("_law_new", 6)]) (g := gTup K 2 (gCons (gName 5) (gCons (gName 6) gNil))) (tt := tYes) (te := tVar 5) rfl sc95.nd (pi_list (pv 1)) (blkOk_by (N := N95) (sc := defScope (topS 95)) (by decide +kernel))
              (fun _ _ _ _ _ => pg_tup rfl (pgs_cons (pg_name (i := 5) sc95.nd rfl (Or.inl rfl)) (pgs_cons (pg_name (i := 6) sc95.nd rfl (Or.inl rfl)) pgs_nil))) (fun _ _ _ _ _ => pts_nil) (fun _ _ _ _ _ => pv 5))
            (pe_lc (own := [("_law_key", 5), ("_law_new", 6)]) (g := gTup K 2 (gCons (gName 5) (gCons (gName 6) gNil))) (tt := tYes) (te := tVar 6) rfl sc95.nd (pi_list (pv 1)) (blkOk_by (N := N95) (sc := defScope (topS 95)) (by decide +kernel))
              (fun _ _ _ _ _ => pg_tup rfl (pgs_cons (pg_name (i := 5) sc95.nd rfl (Or.inl rfl)) (pgs_cons (pg_name (i := 6) sc95.nd rfl (Or.inl rfl)) pgs_nil))) (fun _ _ _ _ _ => pts_nil) (fun _ _ _ _ _ => pv 6))) pa_nil)) pa_nil)))
          (pg_name (i := 4) sc95.nd rfl (.inl rfl))
        (pss_cons (ps_set (i := 3) sc95.nd rfl (.inl rfl) (pe_op op_add (pe_op op_add (pv 3) pe_int) (pe_f cp hr (by decide) (E := E0) pass0 (by rfl) (pa_cons (pv 0) (pa_cons (pe_lst (pa_cons pe_int (pa_cons pe_int (pa_cons (pe_f cd hr (by decide) (E := E0) pass0 (by rfl) (pa_cons (pv 0) (pa_cons pe_int pa_nil))) (pa_cons (pe_op op_pow pe_int pe_int) pa_nil))))) pa_nil)))))
        (pss_one (ps_dput hu (pv 2) (pv 4) (pv 3) rfl))))
      (pss_one (ps_ret (pv 2)))), ?_⟩
    intro d nd
    have q1 : Same H0 (upd H0 d (.dK [])) := Same.new nd
    have pn1 := Pn.same hp q1
    refine ⟨_, rfl, _, _, rfl, rfl, ⟨by decide, by decide, by decide⟩, _, rfl, _, _, rfl, rfl, ⟨by decide, by decide, by decide⟩, _, rfl, line_lit (n := 3) (by decide), fun l1 nl1 => ?_⟩
    have q2 : Same (upd H0 d (.dK [])) (upd (upd H0 d (.dK [])) l1 (.lst [.int 0, .int (-(10 ^ 6)), .int (-(10 ^ 29))])) := Same.new nl1
    have pn2 := pn1.then q2
    refine ⟨p, l1, _, rfl, pn2.at_, pen_ne hp (q1.free nl1), upd_same, (show 0 < 3 by decide), (show 3 ≤ 1000 by decide), fun i1 x1 H1 hx1 pn3 same3 => ⟨_, _, rfl, ?_⟩⟩
    have hst : ∃ s : Int, x1 = .int s ∧ -(10 ^ 29) ≤ s ∧ s ≤ 0 := by
      rcases i1 with _ | _ | _ | i1
      · exact ⟨0, (Option.some.inj hx1).symm, by decide, by decide⟩
      · exact ⟨_, (Option.some.inj hx1).symm, by decide, by decide⟩
      · exact ⟨_, (Option.some.inj hx1).symm, by decide, by decide⟩
      · cases hx1
    obtain ⟨st, rfl, hst1, hst2⟩ := hst
    have pn4 := pn2.trans pn3
    have hdp : d ≠ p := pen_ne hp nd
    have hd1 : H1 d = some (.dK []) := by rw [same3 d hdp]; exact q2 _ _ upd_same
    have hl1 : H1 l = some (.lst xs) := pn4.k _ _ hl hlp
    have hdA : DpAll K H1 xs (T'.map pairD) := DpAll.ts (pn4.tups hp) (NoL.map pair_noL _) hd
    -- the keys
    refine ⟨_, rfl, l, rfl, ⟨_, SqL.of hl1⟩, fun D1 nD1 => ?_⟩
    refine lc_it (walk_list (xs := xs)) (fun i H2 => Same H1 H2 ∧ H2 D1 = some (.lst (iv ((T'.map (·.1)).take i)))) ⟨Same.new nD1, upd_same⟩ (fun i H2 _ h => SqL.of (h.1 _ _ hl1)) ?_ ?_
    · rintro i x H2 H2' hi ⟨s2, hD2⟩ ⟨rfl, hxi⟩
      obtain ⟨u, k, n, hR, rfl, hu2⟩ := pair_at (DpAll.same s2 _ _ hdA) hxi
      refine ⟨u, _, rfl, hu2, rfl, _, _, rfl, _, _, rfl, rfl, rfl, yes_if ⟨_, rfl, _, hD2, ?_, s2.up nD1, ?_⟩⟩
      · rw [iv_len, List.length_take, List.length_map]
        exact small1000 (by omega)
      · have hk2 : (T'.map (·.1))[i]? = some k := by rw [List.getElem?_map, hR]; rfl
        rw [upd_same, take_snoc hk2, ← iv_snoc]
    rintro H2 ⟨s2, hD1⟩
    rw [hxl, List.take_of_length_le (by rw [List.length_map]; exact Nat.le_refl _)] at hD1
    have hl2 := s2 _ _ hl1
    have hdB := DpAll.same s2 _ _ hdA
    -- the new keys
    refine ⟨_, rfl, l, rfl, ⟨_, SqL.of hl2⟩, fun D2 nD2 => ?_⟩
    refine lc_it (walk_list (xs := xs)) (fun i H3 => Same H2 H3 ∧ H3 D2 = some (.lst (iv ((T'.map (·.2)).take i)))) ⟨Same.new nD2, upd_same⟩ (fun i H3 _ h => SqL.of (h.1 _ _ hl2)) ?_ ?_
    · rintro i x H3 H3' hi ⟨s3, hD3⟩ ⟨rfl, hxi⟩
      obtain ⟨u, k, n, hR, rfl, hu2⟩ := pair_at (DpAll.same s3 _ _ hdB) hxi
      refine ⟨u, _, rfl, hu2, rfl, _, _, rfl, _, _, rfl, rfl, rfl, yes_if ⟨_, rfl, _, hD3, ?_, s3.up nD2, ?_⟩⟩
      · rw [iv_len, List.length_take, List.length_map]
        exact small1000 (by omega)
      · have hk2 : (T'.map (·.2))[i]? = some n := by rw [List.getElem?_map, hR]; rfl
        rw [upd_same, take_snoc hk2, ← iv_snoc]
    rintro H3 ⟨s3, hD2⟩
    rw [hxl, List.take_of_length_le (by rw [List.length_map]; exact Nat.le_refl _)] at hD2
    -- the set, sorted
    have hla : (T'.map (·.1)).length ≤ 30 := by rw [List.length_map]; exact hT30
    have hlb : (T'.map (·.2)).length ≤ 30 := by rw [List.length_map]; exact hT30
    refine ⟨D1, D2, _, _, rfl, rfl, s3 _ _ hD1, hD2, by rw [iv_len, iv_len]; exact Nat.le_of_lt (small1000 (by omega)), fun D3 nD3 => ?_⟩
    rw [iv_app]
    have s4 : Same H3 (upd H3 D3 (.lst (iv (T'.map (·.1) ++ T'.map (·.2))))) := Same.new nD3
    refine ⟨D3, _, rfl, SqL.of upd_same, by rw [List.length_append]; omega, fun sq ms nsq hms => ?_⟩
    have hms2 : ms < 64 := by rw [List.length_append] at hms; omega
    have s5 : Same (upd H3 D3 (.lst (iv (T'.map (·.1) ++ T'.map (·.2))))) (upd (upd H3 D3 (.lst (iv (T'.map (·.1) ++ T'.map (·.2))))) sq (SetO w sq (fun k => decide (k ∈ T'.map (·.1) ++ T'.map (·.2))) ms)) := Same.new nsq
    refine ⟨sq, _, ms, rfl, upd_same, hms2, fun ns rp hnp hnm hnl nrp => ?_⟩
    have s6 : Same (upd (upd H3 D3 (.lst (iv (T'.map (·.1) ++ T'.map (·.2))))) sq (SetO w sq (fun k => decide (k ∈ T'.map (·.1) ++ T'.map (·.2))) ms)) (upd (upd (upd H3 D3 (.lst (iv (T'.map (·.1) ++ T'.map (·.2))))) sq (SetO w sq (fun k => decide (k ∈ T'.map (·.1) ++ T'.map (·.2))) ms)) rp (.lst (iv ns))) := Same.new nrp
    have sAll := (((s2.trans s3).trans s4).trans s5).trans s6
    have frp : H0 rp = none := pn4.free hp ((((s2.trans s3).trans s4).trans s5).free nrp)
    have hrp : (upd (upd (upd H3 D3 (.lst (iv (T'.map (·.1) ++ T'.map (·.2))))) sq (SetO w sq (fun k => decide (k ∈ T'.map (·.1) ++ T'.map (·.2))) ms)) rp (.lst (iv ns))) rp = some (.lst (iv ns)) := upd_same
    have pn5 := pn4.then sAll
    have hd5 := sAll _ _ hd1
    have hdr : d ≠ rp := ne_of_none ((((s2.trans s3).trans s4).trans s5) _ _ hd1) nrp
    have hn60 : ns.length ≤ 60 := by rw [hnl]; rw [List.length_append] at hms; omega
    refine ⟨rp, rfl, ⟨_, SqL.of hrp⟩, ?_⟩
    refine for_list (xs := iv ns) (fun i σ H6 => ∃ (now : Int) (v4 : Option V) (N : List (Int × Int)), σ = [some (.ref p), some (.ref l), some (.ref d), some (.int now), v4, none, none] ∧ Pn p H0 H6 ∧ H6 rp = some (.lst (iv ns)) ∧ H6 d = some (.dK (kvOf N)) ∧ N.map (·.1) = ns.take i ∧ (N.map (·.2)).Pairwise (· < ·) ∧ (∀ r ∈ N, st < r.2 ∧ r.2 ≤ now) ∧ st ≤ now ∧ now ≤ st + i * (10 ^ 27 + 1))
      ⟨st, none, [], rfl, pn5, hrp, hd5, rfl, .nil, (fun r hr => by cases hr), Int.le_refl _, by omega⟩ (fun i σ H6 _ ⟨_, _, _, _, _, h, _⟩ => SqL.of h) ?_ ?_
    · rintro i x σ H6 hi ⟨now, v4, N, rfl, pn6, hrp6, hd6, hNk, hNv, hNb, hlo, hhi⟩
      obtain ⟨k, hki, rfl⟩ := iv_get hi
      have hi60 : i < ns.length := (List.getElem?_eq_some_iff.mp hki).1
      refine ⟨_, rfl, _, _, rfl, rfl, _, rfl, _, rfl, p, 9, rfl, by decide, by decide, pn6.at_, fun r H7 hr0 hr1 pn7 same7 => ?_⟩
      refine ⟨_, _, rfl, rfl, ⟨by decide, by decide, by decide⟩, line_lit (n := 4) (by decide), fun l2 nl2 => ?_⟩
      have q8 : Same H7 (upd H7 l2 (.lst [.int 0, .int 0, .int r, .int (10 ^ 27)])) := Same.new nl2
      have pn8 := (pn6.trans pn7).then q8
      refine ⟨p, l2, _, rfl, pn8.at_, pen_ne hp ((pn6.trans pn7).free hp nl2), upd_same, (show 0 < 4 by decide), (show 4 ≤ 1000 by decide), fun i2 x2 H8 hx2 pn9 same9 => ?_⟩
      have hx : ∃ y : Int, x2 = .int y ∧ 0 ≤ y ∧ y ≤ 10 ^ 27 := by
        rcases i2 with _ | _ | _ | _ | i2
        · exact ⟨0, (Option.some.inj hx2).symm, by decide, by decide⟩
        · exact ⟨0, (Option.some.inj hx2).symm, by decide, by decide⟩
        · exact ⟨r, (Option.some.inj hx2).symm, hr0, by omega⟩
        · exact ⟨10 ^ 27, (Option.some.inj hx2).symm, by decide, by decide⟩
        · cases hx2
      obtain ⟨y, rfl, hy0, hy1⟩ := hx
      have pn10 := pn8.trans pn9
      have hd8 : H8 d = some (.dK (kvOf N)) := pn9.k _ _ (q8 _ _ (pn7.k _ _ hd6 hdp)) hdp
      have hrpp : rp ≠ p := pen_ne hp frp
      have hrp8 : H8 rp = some (.lst (iv ns)) := pn9.k _ _ (q8 _ _ (pn7.k _ _ hrp6 hrpp)) hrpp
      have hNl : N.length = i := by
        have h1 : (N.map (·.1)).length = N.length := List.length_map _
        rw [hNk, List.length_take] at h1
        omega
      have hnk : k ∉ RC.keys N := by
        show k ∉ N.map (·.1)
        rw [hNk]
        intro hin
        have hTs : ns = ns.take i ++ k :: ns.drop (i + 1) := by
          have := List.drop_eq_getElem_cons hi60
          rw [(List.getElem?_eq_some_iff.mp hki).2] at this
          rw [← this, List.take_append_drop]
        rw [hTs, List.pairwise_append] at hnp
        exact Int.lt_irrefl _ (hnp.2.2 k hin k List.mem_cons_self)
      have hkl : (kvOf N).length < sizeLine := by
        unfold kvOf
        rw [List.length_map]
        exact small1000 (by omega)
      refine ⟨_, _, rfl, rfl, _, rfl, _, rfl, _, rfl, d, _, rfl, DPut.k (k := Sum.inl k) hd8 hkl, _, _, N ++ [(k, now + 1 + y)], rfl, pn10.up hp nd, by rw [upd_ne hdr.symm]; exact hrp8, by rw [upd_same, kvOf_put hnk], ?_, ?_, ?_, by omega, ?_⟩
      · rw [List.map_append, hNk, take_snoc hki]; rfl
      · rw [List.map_append, List.pairwise_append]
        refine ⟨hNv, List.pairwise_singleton _ _, fun x hx z hz => ?_⟩
        rw [List.map_cons, List.map_nil, List.mem_singleton] at hz
        obtain ⟨r', hr', rfl⟩ := List.mem_map.mp hx
        have := (hNb r' hr').2
        show r'.2 < z
        rw [hz]
        show r'.2 < now + 1 + y
        omega
      · intro r' hr'
        rcases List.mem_append.mp hr' with hr' | hr'
        · have := hNb r' hr'
          exact ⟨this.1, by omega⟩
        · rw [List.mem_singleton.mp hr']
          exact ⟨by show st < now + 1 + y; omega, Int.le_refl _⟩
      · have e : ((i + 1 : Nat) : Int) * (10 ^ 27 + 1) = (i : Int) * (10 ^ 27 + 1) + (10 ^ 27 + 1) := by
          rw [Int.natCast_add, Int.add_mul]; simp
        rw [e]
        omega
    · rintro σ H6 ⟨now, v4, N, rfl, pn6, hrp6, hd6, hNk, hNv, hNb, hlo, hhi⟩
      rw [iv_len, List.take_length] at hNk
      rw [iv_len] at hhi
      refine ⟨_, rfl, kq d N H6 ⟨by rw [hNk]; exact hnp, hNv, fun x => ?_, fun r hr => ?_⟩ hd6 pn6 nd⟩
      · rw [hNk, hnm, decide_eq_true_eq, List.mem_append]
      · have h1 := hNb r hr
        have h2 : (ns.length : Int) * (10 ^ 27 + 1) ≤ 60 * (10 ^ 27 + 1) := Int.mul_le_mul_of_nonneg_right (by omega) (by decide)
        have hB : Big = 1000 * 10 ^ 27 := by unfold Big; decide
        have hS : (10 : Int) ^ 29 = 100 * 10 ^ 27 := by decide
        rw [hB]
        rw [hS] at hst1
        constructor
        · omega
        · omega
end
end RcX
end
section
set_option Elab.async false
set_option linter.all false
set_option maxRecDepth 100000
set_option maxHeartbeats 4000000
namespace RcX
open PySem PySem.Spec PyProof.Rows L2
open LamX (Tabs ExtN TabB)
/-! ### _law_told -/
def saidD : RC.Stg Int → PyData
  | .compete g => .tuple [.str "competing", tupD g]
  | .ring g => .tuple [.str "ringed", tupD g]
  | .ok l => .tuple [.str "returned", .tuple (l.map tupD)]
def toldD (R : List (Int × Int)) : PyData := .tuple [.tuple (ringsD R), .tuple (groupsD R), .tuple (treesD R), verdD (RC.verdict R), saidD (RC.stages R), .tuple ((RC.keys R).map (pathD R))]
theorem _root_.LamX.ExtN.tups {H H' : Hp} (e : ExtN H H') : TupS H H' := ⟨fun b xs h => e b _ h (fun _ z => by cases z), fun b o xs h => e b _ h (fun _ z => by cases z)⟩
theorem TabAt.extN {C t : Addr} {H H' : Hp} {R : List (Int × Int)} (e : ExtN H H') (h : TabAt C H t R) : TabAt C H' t R := by
  obtain ⟨⟨dx, d, T, h1, h2, h3⟩, h4⟩ := h
  exact ⟨⟨dx, d, T, e _ _ h1 (fun _ z => by cases z), e _ _ h2 (fun _ z => by cases z), h3⟩, h4⟩
structure Tm (K : PySem.W.Frag) (mg : Str → Option Value) (c : Addr) : Prop where
  d_said : Glb K mg "_law_said" (topS 93)
  told : ∃ (f : Addr) (oc : Value) (od : Option Addr) (kV doc pm : Value) (an : Option Addr) (ct : Value) (osl : Array (Option Value)),
    K.lookup f = some ⟨oc, od, .func (PySem.W.fnOf "_law_told" "_law_told" (defArgs (topS 96)) (defBody (topS 96)) (defScope (topS 96)) .none kV doc pm an (.ref c) ct), osl⟩ ∧ PySem.W.codeIn K (.ref c) "_law_told" = true ∧ PySem.W.keepIn K (.ref f) = true ∧ mg "_law_told" = some (.ref f)
abbrev lamQ : Str := "_law_told" ++ ".<locals>." ++ "<lambda>"
abbrev N96 : List Str := ["_law_table", "_law_found", "_law_key", "_law_new"]
theorem sc96 : FnScope N96 ["_law_table"] (defScope (topS 96)) := ⟨rfl, rfl, rfl, by decide +kernel, rfl, by decide +kernel, by decide +kernel⟩
def spTold (K : PySem.W.Frag) (C tP : Addr) : Sp := fun vs H Q _ => ∃ (t : Addr) (R : List (Int × Int)), vs = [.ref t] ∧ TabAt C H t R ∧ Tabs [(tP, lamQ)] H ∧ ∀ (p : Addr) (H' : Hp), ExtN H H' → Tabs [(tP, lamQ)] H' → Dp K H' (.ref p) (toldD R) → Q (.ref p) H'
section
variable {P : Program} {w : World} {K : PySem.W.Frag} {mg : Str → Option Value} {base : Heap} {a : Ads} {cn : Str → Addr} {CC CR RE c tP : Addr}
theorem told_said {C t : Addr} {R : List (Int × Int)} {σ : L2.St} {H : Hp} {Q : VK} (hσ : σ[0]? = some (some (.ref t))) (S : TabAt C H t R) (k : ∀ q H', Same H H' → Dp K H' (.ref q) (saidD (RC.stages R)) → Q (.ref q) H') :
    TSaid CC CR (fun E H' Q' => tFn (spStages K C CC CR) E (tCons (tVar 0) tNil) σ H' Q') H Q := by
  refine ⟨_, hσ, t, R, rfl, S, ?_⟩
  cases hS : RC.stages R with
  | compete g =>
    rw [hS] at k
    refine fun d v H' s nd hd hv => .inl ⟨rfl, d, v, rfl, hd, fun p H'' s2 hp => k p H'' (s.trans s2) (.tup (.inl (.inl hp)) (.cons (.str _) (.cons (Dp.same s2 _ _ hv) .nil)))⟩
  | ring g =>
    rw [hS] at k
    refine fun d v H' s nd hd hv => .inr ⟨rfl, d, v, rfl, hd, fun p H'' s2 hp => k p H'' (s.trans s2) (.tup (.inl (.inl hp)) (.cons (.str _) (.cons (Dp.same s2 _ _ hv) .nil)))⟩
  | ok l =>
    rw [hS] at k
    refine fun p H' s hv => ⟨two_line, fun q nq => ?_⟩
    have s2 : Same H' (upd H' q (.tup [V.str "returned", .ref p])) := Same.new nq
    exact k q _ (s.trans s2) (.tup (.inl (.inl upd_same)) (.cons (.str _) (.cons (Dp.same s2 _ _ hv) .nil)))
theorem path_noL (R : List (Int × Int)) (k : Int) : NoL (pathD R k) = true := by
  show (NoL (tupD _) && (true && true)) = true
  rw [tup_noL]; rfl
theorem ok_told (T : Tx K mg a) (Z : Te P K mg CC CR) (Y : Xs K mg cn CC CR RE) (M : Tm K mg c) (TB : TabB base mg c tP) : Fnc P w K mg base CX0 13 "_law_told" (spTold K a.T tP) := by
  have c1 : Fnc P w K mg base CX0 9 "rings" (spTups K a.T ringsD) := ok_rings T
  have c2 : Fnc P w K mg base CX0 6 "groups" (spTups K a.T groupsD) := ok_groups T
  have c3 : Fnc P w K mg base CX0 9 "trees" (spTups K a.T treesD) := ok_trees T
  have c4 : Fnc P w K mg base CX0 9 "verdict" (spVerd K a.T) := ok_verdict T
  have c5 : Fnc P w K mg base (L2.CX P w) 10 "stages" (spStages K a.T CC CR) := ok_stages T Z
  have c6 : Fnc P w K mg base CX0 8 "path" (spPathP K a.T) := ok_path T
  have cr : Prp P w K mg base 2 a.T "rows" (spRows K a.T) := prp_rows T
  obtain ⟨g, ⟨fdg, Fg⟩, hmg⟩ := M.d_said
  have hkg := Fg.kp
  have hbg : Binds K fdg ["_law_call"] [] := FunD.bindsN Fg (fun _ _ _ _ _ _ us hl => match us, hl with | [_], _ => rfl)
  obtain ⟨ocg, odg, dVg, kVg, docg, pmg, ang, cdvg, ctg, oslg, rfl, lkg, hcdg, hDg, _⟩ := Fg.ex
  obtain ⟨f, oc, od, kV, doc, pm, an, ct, osl, lk, hcd, hkp, hm⟩ := M.told
  have b : Binds K (PySem.W.fnOf "_law_told" "_law_told" (defArgs (topS 96)) (defBody (topS 96)) (defScope (topS 96)) .none kV doc pm an (.ref c) ct) ["_law_table"] [] := .all fun us hl => match us, hl with | [_], _ => rfl
  suffices G : FnOk P w K mg base CX0 13 f (PySem.W.fnOf "_law_told" "_law_told" (defArgs (topS 96)) (defBody (topS 96)) (defScope (topS 96)) .none kV doc pm an (.ref c) ct) ["_law_table"] (spTold K a.T tP) from
    ⟨f, FnR.imp (FnOk.raw G b .nil) fun vs H Q E h => by rw [List.append_nil]; exact h, hm, hkp⟩
  refine fn_of lk hcd sc96 (fun vs H Q E h => ?_) fun A outer s H vs Q E hr h => ?_
  · obtain ⟨t, R, rfl, _⟩ := h; rfl
  · obtain ⟨t, R, rfl, S, hT, kq⟩ := h
    have ok := S.ok
    refine ⟨_, PSs.nox (pss_cons (ps_set (i := 1) sc96.nd rfl (.inl rfl) (pe_lst (pa_cons (pe_f c1 hr (by decide) (E := E0) pass0 (by rfl) (pa_cons (pv 0) pa_nil)) (pa_cons (pe_f c2 hr (by decide) (E := E0) pass0 (by rfl) (pa_cons (pv 0) pa_nil))
        (pa_cons (pe_f c3 hr (by decide) (E := E0) pass0 (by rfl) (pa_cons (pv 0) pa_nil)) (pa_cons (pe_f c4 hr (by decide) (E := E0) pass0 (by rfl) (pa_cons (pv 0) pa_nil))
        (pa_cons (LamX.pe_lamcall (T := [(tP, lamQ)]) (k := 10) (a := "_law_call") (Ng := ["_law_call", "_law_e", "_law_word_here"]) (TT := TSaid CC CR) (t := fun E => tFn (spStages K a.T CC CR) E (tCons (tVar 0) tNil)) (by rfl) hmg hkg lkg hcdg hbg sc93 rfl (.inl rfl)
          (said_gives T Y hr) TB rfl (List.mem_cons_self) (fun p hp _ => by rw [List.mem_singleton.mp hp]; rfl) hr (show LamX.LamS (defScope (topS 96)) _ from LamX.lamS_by (by decide +kernel)) rfl (fun _ _ _ _ _ => rfl)
          (fun A outer s H E f c' hr2 => pe_f c5 hr2 (by decide) (E := E) (passes_call (takes_of rfl rfl rfl rfl) (fun _ _ _ _ h => h)) (by rfl) (pa_cons (pv 0) pa_nil))) pa_nil)))))))
      (pss_one (ps_ret (pe_callTy call_tuple_of (by rfl) T.tuple PyProof.Rows.boot_tuple (pa_cons (pe_op op_cat (pv 1) (pe_lst (pa_cons (pe_callTy call_tuple_of (by rfl) T.tuple PyProof.Rows.boot_tuple (pa_cons
          (pe_lc (own := [("_law_key", 2), ("_law_new", 3)]) (g := gTup K 2 (gCons (gName 2) (gCons (gName 3) gNil))) (tt := tYes) rfl sc96.nd (pi_tup (pe_pr cr T.insT.cl hr (by decide) (pv 0))) (blkOk_by (N := N96) (sc := defScope (topS 96)) (by decide +kernel))
            (fun _ _ _ _ _ => pg_tup rfl (pgs_cons (pg_name (i := 2) sc96.nd rfl (Or.inl rfl)) (pgs_cons (pg_name (i := 3) sc96.nd rfl (Or.inl rfl)) pgs_nil))) (fun _ _ _ _ _ => pts_nil)
            (fun _ _ _ _ _ => pe_f c6 hr (by decide) (E := E0) pass0 (by rfl) (pa_cons (pv 0) (pa_cons (pv 2) pa_nil)))) pa_nil)) pa_nil))) pa_nil))))), ?_⟩
    refine ⟨_, rfl, t, R, rfl, S, fun p1 H1 s1 d1 => ⟨_, rfl, t, R, rfl, S.same s1, fun p2 H2 s2 d2 => ⟨_, rfl, t, R, rfl, S.same (s1.trans s2), fun p3 H3 s3 d3 => ⟨_, rfl, t, R, rfl, S.same ((s1.trans s2).trans s3), fun p4 H4 s4 d4 => ?_⟩⟩⟩⟩
    have s14 := ((s1.trans s2).trans s3).trans s4
    refine ⟨hT.ext s14, fun H5 eN T5 => told_said rfl ((S.same s14).extN eN) fun p5 H6 s6 d5 => ⟨line_lit (n := 5) (by decide), fun l1 nl1 => ?_⟩⟩
    have s7 : Same H6 (upd H6 l1 (.lst [.ref p1, .ref p2, .ref p3, .ref p4, .ref p5])) := Same.new nl1
    have e07 : ExtN H (upd H6 l1 (.lst [.ref p1, .ref p2, .ref p3, .ref p4, .ref p5])) := ((ExtN.of s14).trans eN).trans (ExtN.of (s6.trans s7))
    have S7 := S.extN e07
    have T7 := T5.ext (s6.trans s7)
    have tsN := eN.tups
    have nl4 : ∀ {v : V} {d : PyData}, NoL d = true → Dp K H4 v d → Dp K (upd H6 l1 (.lst [.ref p1, .ref p2, .ref p3, .ref p4, .ref p5])) v d := fun n h => Dp.same (s6.trans s7) _ _ (Dp.ts tsN n h)
    have g1 := nl4 (show NoL (.tuple (ringsD R)) = true from NoL.map tup_noL _) (Dp.same ((s2.trans s3).trans s4) _ _ d1)
    have g2 := nl4 (show NoL (.tuple (groupsD R)) = true from NoL.map tup_noL _) (Dp.same (s3.trans s4) _ _ d2)
    have g3 := nl4 (show NoL (.tuple (treesD R)) = true from NoL.map tree_noL _) (Dp.same s4 _ _ d3)
    have g4 := nl4 (show NoL (verdD (RC.verdict R)) = true by show (true && (NoL (tupD _) && true)) = true; rw [tup_noL]; rfl) d4
    have g5 := Dp.same s7 _ _ d5
    have hl1 : (upd H6 l1 (.lst [.ref p1, .ref p2, .ref p3, .ref p4, .ref p5])) l1 = some (.lst [.ref p1, .ref p2, .ref p3, .ref p4, .ref p5]) := upd_same
    generalize upd H6 l1 (.lst [.ref p1, .ref p2, .ref p3, .ref p4, .ref p5]) = H7 at *
    obtain ⟨dx, dd, T', e1, _, _⟩ := S7.ex
    refine ⟨_, rfl, _, rfl, t, dx, _, rfl, e1, t, R, rfl, S7, fun rp rx H8 s8 nrp hrp hrd => ⟨rp, rfl, ⟨rx, .inl (.inl hrp)⟩, fun D hD => ?_⟩⟩
    have hrl : rx.length = R.length := by rw [dpAll_len hrd, List.length_map]
    refine lc_it (walk_tup (xs := rx)) (fun i H9 => Same H8 H9 ∧ ∃ ys, H9 D = some (.lst ys) ∧ DpAll K H9 ys (((RC.keys R).take i).map (pathD R))) ⟨Same.new hD, [], upd_same, .nil⟩ (fun i H9 _ h => seqT h.1 (.inl (.inl hrp))) ?_ ?_
    · rintro i x H9 H9' hi ⟨s9, ys, hy, hdy⟩ ⟨rfl, hxi⟩
      obtain ⟨u, k, n, hR, rfl, hu⟩ := pair_at (DpAll.same s9 _ _ hrd) hxi
      have hki : (RC.keys R)[i]? = some k := by unfold RC.keys; rw [List.getElem?_map, hR]; rfl
      have hyl : ys.length ≤ 30 := by
        have h1 := dpAll_len hdy
        rw [List.length_map, List.length_take] at h1
        have := ok.len
        omega
      refine ⟨u, _, rfl, hu, rfl, _, _, rfl, _, _, rfl, rfl, rfl, yes_if ⟨_, rfl, _, rfl, t, R, k, rfl, S7.same (s8.trans s9), List.mem_of_getElem? hki, fun q H10 s10 hq => ?_⟩⟩
      have hy10 := s10 _ _ hy
      refine ⟨ys, hy10, small1000 (by omega), (s9.trans s10).up hD, _, upd_same, ?_⟩
      rw [take_snoc hki, List.map_append]
      exact DpAll.lu hy10 (NoL_app (NoL.map (path_noL R) _) (NoL.map (path_noL R) [k])) (dpAll_snoc (DpAll.same s10 _ _ hdy) hq)
    · rintro H9 ⟨s9, ys, hy, hdy⟩
      rw [hrl, List.take_of_length_le (by rw [keys_len]; exact Nat.le_refl _)] at hdy
      refine ⟨D, ys, rfl, .inl ⟨SqL.of hy, fun p6 np6 => ⟨line_lit (n := 1) (by decide), fun l2 nl2 => ?_⟩⟩⟩
      have s10 : Same H9 (upd H9 p6 (.tup ys)) := Same.new np6
      have s11 : Same (upd H9 p6 (.tup ys)) (upd (upd H9 p6 (.tup ys)) l2 (.lst [.ref p6])) := Same.new nl2
      refine ⟨l1, l2, _, _, rfl, rfl, s11 _ _ (s10 _ _ (s9 _ _ (s8 _ _ hl1))), upd_same, line_lit (n := 6) (by decide), fun l3 nl3 => ?_⟩
      have s12 : Same (upd (upd H9 p6 (.tup ys)) l2 (.lst [.ref p6])) (upd (upd (upd H9 p6 (.tup ys)) l2 (.lst [.ref p6])) l3 (.lst ([.ref p1, .ref p2, .ref p3, .ref p4, .ref p5] ++ [.ref p6]))) := Same.new nl3
      refine ⟨l3, _, rfl, .inl ⟨SqL.of upd_same, fun r nr => ?_⟩⟩
      have s13 : Same (upd (upd (upd H9 p6 (.tup ys)) l2 (.lst [.ref p6])) l3 (.lst ([.ref p1, .ref p2, .ref p3, .ref p4, .ref p5] ++ [.ref p6]))) (upd (upd (upd (upd H9 p6 (.tup ys)) l2 (.lst [.ref p6])) l3 (.lst ([.ref p1, .ref p2, .ref p3, .ref p4, .ref p5] ++ [.ref p6]))) r (.tup ([.ref p1, .ref p2, .ref p3, .ref p4, .ref p5] ++ [.ref p6]))) := Same.new nr
      have sA := (s11.trans s12).trans s13
      have s7A := (s8.trans s9).trans (s10.trans sA)
      have g6 : Dp K (upd H9 p6 (.tup ys)) (.ref p6) (.tuple ((RC.keys R).map (pathD R))) := .tup (.inl (.inl upd_same)) (DpAll.same s10 _ _ hdy)
      exact kq r _ (e07.trans (ExtN.of s7A)) (T7.ext s7A) (.tup (.inl (.inl upd_same)) (.cons (Dp.same s7A _ _ g1) (.cons (Dp.same s7A _ _ g2) (.cons (Dp.same s7A _ _ g3) (.cons (Dp.same s7A _ _ g4) (.cons (Dp.same s7A _ _ g5) (.cons (Dp.same sA _ _ g6) .nil)))))))
end
end RcX
end
section
set_option Elab.async false
set_option linter.all false
set_option maxRecDepth 100000
set_option maxHeartbeats 4000000
/-! The plain law: what is told goes with the names. -/
namespace RcX
open PySem PySem.Spec PyProof.Rows L2
open RC (Emb gp gl go gr Rl)
def Sub (S : List Int) : Type := { x : Int // x ∈ S }
instance {S : List Int} : DecidableEq (Sub S) := inferInstanceAs (DecidableEq { x : Int // x ∈ S })
instance {S : List Int} : LT (Sub S) := ⟨fun a b => a.1 < b.1⟩
instance {S : List Int} : DecidableLT (Sub S) := fun a b => inferInstanceAs (Decidable (a.1 < b.1))
def vl {S : List Int} (x : Sub S) : Int := x.1
theorem emb_vl {S : List Int} : Emb (vl (S := S)) := ⟨fun h => Subtype.ext h, Iff.rfl⟩
theorem lift1 {S : List Int} : ∀ l : List Int, (∀ x ∈ l, x ∈ S) → ∃ la : List (Sub S), la.map vl = l
  | [], _ => ⟨[], rfl⟩
  | x :: l, h => by
    obtain ⟨la, e⟩ := lift1 l fun y hy => h y (List.mem_cons_of_mem _ hy)
    exact ⟨(⟨x, h x List.mem_cons_self⟩ : Sub S) :: la, congrArg (List.cons x) e⟩
theorem lift2 {S : List Int} : ∀ l : List (Int × Int), (∀ r ∈ l, r.1 ∈ S ∧ r.2 ∈ S) → ∃ la : List (Sub S × Sub S), la.map (gp vl) = l
  | [], _ => ⟨[], rfl⟩
  | x :: l, h => by
    obtain ⟨la, e⟩ := lift2 l fun y hy => h y (List.mem_cons_of_mem _ hy)
    have h1 := h x List.mem_cons_self
    exact ⟨((⟨x.1, h1.1⟩ : Sub S), (⟨x.2, h1.2⟩ : Sub S)) :: la, congrArg (List.cons x) e⟩
def nf (N : List (Int × Int)) (x : Int) : Int := (RC.look N x).getD 0
def gn {S : List Int} (N : List (Int × Int)) (x : Sub S) : Int := nf N x.1
/-- a rising list of names -/
theorem look_idx {N : List (Int × Int)} {k : Int} (hk : (N.map (·.1)).Pairwise (· < ·)) (h : k ∈ N.map (·.1)) : ∃ n, RC.look N k = some n ∧ (k, n) ∈ N := by
  obtain ⟨n, hn⟩ := RC.look_some (R := N) h
  exact ⟨n, hn, RC.look_mem hn⟩
theorem rise {N : List (Int × Int)} (hk : (N.map (·.1)).Pairwise (· < ·)) (hv : (N.map (·.2)).Pairwise (· < ·)) : ∀ x ∈ N, ∀ y ∈ N, x.1 < y.1 → x.2 < y.2 := by
  induction N with
  | nil => intro x hx; cases hx
  | cons z N ih =>
    rw [List.map_cons, List.pairwise_cons] at hk hv
    intro x hx y hy hlt
    rcases List.mem_cons.mp hx with ex | hx'
    · rcases List.mem_cons.mp hy with ey | hy'
      · rw [ex, ey] at hlt; exact absurd hlt (Int.lt_irrefl _)
      · rw [ex]; exact hv.1 _ (List.mem_map.mpr ⟨y, hy', rfl⟩)
    · rcases List.mem_cons.mp hy with ey | hy'
      · have := hk.1 _ (List.mem_map.mpr ⟨x, hx', rfl⟩)
        rw [ey] at hlt
        exact absurd (Int.lt_trans hlt this) (Int.lt_irrefl _)
      · exact ih hk.2 hv.2 x hx' y hy' hlt
theorem emb_gn {N : List (Int × Int)} {S : List Int} (hk : (N.map (·.1)).Pairwise (· < ·)) (hv : (N.map (·.2)).Pairwise (· < ·)) (hS : ∀ x ∈ S, x ∈ N.map (·.1)) : Emb (gn (S := S) N) := by
  have key : ∀ a b : Sub S, a.1 < b.1 → gn N a < gn N b := fun a b h => by
    obtain ⟨n, e1, m1⟩ := look_idx hk (hS a.1 a.2)
    obtain ⟨m, e2, m2⟩ := look_idx hk (hS b.1 b.2)
    unfold gn nf
    rw [e1, e2]
    exact rise hk hv _ m1 _ m2 h
  refine ⟨fun {a b} h => ?_, fun {a b} => ⟨fun h => ?_, fun h => key a b h⟩⟩
  · rcases Int.lt_trichotomy a.1 b.1 with z | z | z
    · exact absurd (h ▸ key a b z) (Int.lt_irrefl _)
    · exact Subtype.ext z
    · exact absurd (h ▸ key b a z) (Int.lt_irrefl _)
  · rcases Int.lt_trichotomy a.1 b.1 with z | z | z
    · exact z
    · have : a = b := Subtype.ext z
      rw [this] at h
      exact absurd h (Int.lt_irrefl _)
    · exact absurd (Int.lt_trans h (key b a z)) (Int.lt_irrefl _)
section
variable {N : List (Int × Int)} {S : List Int}
theorem nm_int (hS : ∀ x ∈ S, x ∈ N.map (·.1)) (x : Sub S) : nm N (.int (vl x)) = .int (gn N x) := by
  obtain ⟨n, e⟩ := RC.look_some (R := N) (hS x.1 x.2)
  unfold nm gn nf vl
  rw [e]; rfl
theorem nm_ints (hS : ∀ x ∈ S, x ∈ N.map (·.1)) : ∀ l : List (Sub S), nmA N ((l.map vl).map .int) = (l.map (gn N)).map .int
  | [] => by
    show nmA N [] = []
    unfold nmA; rfl
  | x :: l => by
    show nmA N (.int (vl x) :: (l.map vl).map .int) = .int (gn N x) :: (l.map (gn N)).map .int
    unfold nmA
    rw [nm_int hS x, nm_ints hS l]
theorem nm_tup (hS : ∀ x ∈ S, x ∈ N.map (·.1)) (l : List (Sub S)) : nm N (tupD (l.map vl)) = tupD (l.map (gn N)) := by
  unfold tupD nm
  rw [nm_ints hS]
theorem nm_str (s : Str) : nm N (.str s) = .str s := by unfold nm; rfl
theorem nm_tuple (ds : List PyData) : nm N (.tuple ds) = .tuple (nmA N ds) := by
  conv => lhs; unfold nm
theorem nmA_cons (d : PyData) (ds : List PyData) : nmA N (d :: ds) = nm N d :: nmA N ds := by
  conv => lhs; unfold nmA
theorem nmA_nil : nmA N [] = [] := by unfold nmA; rfl
theorem nmA_of {β : Type} (e1 e2 : β → PyData) (h : ∀ b, nm N (e1 b) = e2 b) (bs : List β) : nmA N (bs.map e1) = bs.map e2 := by
  rw [nmA_map, List.map_map]
  exact List.map_congr_left fun b _ => h b
theorem nm_pair (hS : ∀ x ∈ S, x ∈ N.map (·.1)) (r : Sub S × Sub S) : nm N (pairD (gp vl r)) = pairD (gp (gn N) r) := by
  unfold pairD
  rw [nm_tuple, nmA_cons, nmA_cons, nmA_nil]
  show PyData.tuple [nm N (.int (vl r.1)), nm N (.int (vl r.2))] = _
  rw [nm_int hS, nm_int hS]; rfl
/-! what is told -/
variable {Ra : List (Sub S × Sub S)}
theorem nm_tups (hS : ∀ x ∈ S, x ∈ N.map (·.1)) (L : List (List (Sub S))) : nmA N ((L.map (List.map vl)).map tupD) = (L.map (List.map (gn N))).map tupD := by
  rw [List.map_map, List.map_map]
  exact nmA_of _ _ (fun l => nm_tup hS l) L
theorem nm_verd (hS : ∀ x ∈ S, x ∈ N.map (·.1)) (v : RC.Verd (Sub S)) : nm N (verdD (v.map vl)) = verdD (v.map (gn N)) := by
  cases v <;>
  · unfold verdD
    rw [nm_tuple, nmA_cons, nmA_cons, nmA_nil, nm_str]
    exact congrArg (fun z => PyData.tuple [_, z]) (nm_tup hS _)
theorem nm_said (hS : ∀ x ∈ S, x ∈ N.map (·.1)) (v : RC.Stg (Sub S)) : nm N (saidD (v.map vl)) = saidD (v.map (gn N)) := by
  cases v with
  | compete p =>
    show nm N (.tuple [.str "competing", tupD (p.map vl)]) = .tuple [.str "competing", tupD (p.map (gn N))]
    rw [nm_tuple, nmA_cons, nmA_cons, nmA_nil, nm_str, nm_tup hS]
  | ring p =>
    show nm N (.tuple [.str "ringed", tupD (p.map vl)]) = .tuple [.str "ringed", tupD (p.map (gn N))]
    rw [nm_tuple, nmA_cons, nmA_cons, nmA_nil, nm_str, nm_tup hS]
  | ok l =>
    show nm N (.tuple [.str "returned", .tuple ((l.map (List.map vl)).map tupD)]) = .tuple [.str "returned", .tuple ((l.map (List.map (gn N))).map tupD)]
    rw [nm_tuple, nmA_cons, nmA_cons, nmA_nil, nm_str, nm_tuple, nm_tups hS]
theorem nm_told (hS : ∀ x ∈ S, x ∈ N.map (·.1)) (eg : Emb (gn (S := S) N)) : nm N (toldD (Ra.map (gp vl))) = toldD (Ra.map (gp (gn N))) := by
  have ev := emb_vl (S := S)
  unfold toldD ringsD groupsD treesD
  rw [RC.rings_map ev, RC.rings_map eg, RC.groups_map ev, RC.groups_map eg, RC.trees_map ev, RC.trees_map eg, RC.verdict_map ev, RC.verdict_map eg, RC.stages_map ev, RC.stages_map eg, RC.keys_map, RC.keys_map]
  rw [nm_tuple, nmA_cons, nmA_cons, nmA_cons, nmA_cons, nmA_cons, nmA_cons, nmA_nil, nm_tuple, nm_tuple, nm_tuple, nm_tuple, nm_tups hS, nm_tups hS, nm_verd hS, nm_said hS]
  have hT : nmA N (((RC.trees Ra).map (gl vl)).map treeD) = ((RC.trees Ra).map (gl (gn N))).map treeD := by
    rw [List.map_map, List.map_map]
    refine nmA_of _ _ (fun r => ?_) _
    show nm N (.tuple [.int (vl r.1), tupD (r.2.map vl)]) = .tuple [.int (gn N r.1), tupD (r.2.map (gn N))]
    rw [nm_tuple, nmA_cons, nmA_cons, nmA_nil, nm_int hS, nm_tup hS]
  have hP : nmA N (((RC.keys Ra).map vl).map (pathD (Ra.map (gp vl)))) = ((RC.keys Ra).map (gn N)).map (pathD (Ra.map (gp (gn N)))) := by
    rw [List.map_map, List.map_map]
    refine nmA_of _ _ (fun k => ?_) _
    show nm N (.tuple [tupD (RC.pathOf (Ra.map (gp vl)) (vl k)), .str (endS (RC.endOf (Ra.map (gp vl)) (RC.pathOf (Ra.map (gp vl)) (vl k))))]) = .tuple [tupD (RC.pathOf (Ra.map (gp (gn N))) (gn N k)), .str (endS (RC.endOf (Ra.map (gp (gn N))) (RC.pathOf (Ra.map (gp (gn N))) (gn N k))))]
    rw [RC.pathOf_map ev, RC.pathOf_map eg, RC.endOf_map ev, RC.endOf_map eg, nm_tuple, nmA_cons, nmA_cons, nmA_nil, nm_str, nm_tup hS]
  rw [hT, hP]
end
/-! ### the renamed table -/
theorem emb_rise {α β : Type} [DecidableEq α] [LT α] [DecidableLT α] [DecidableEq β] [LT β] [DecidableLT β] {g : α → β} (e : Emb g) {l : List α} (h : l.Pairwise (· < ·)) : (l.map g).Pairwise (· < ·) := by
  rw [List.pairwise_map]
  exact h.imp fun {a b} hab => e.lt.mpr hab
theorem emb_down {α β : Type} [DecidableEq α] [LT α] [DecidableLT α] [DecidableEq β] [LT β] [DecidableLT β] {g : α → β} (e : Emb g) {l : List α} (h : (l.map g).Pairwise (· < ·)) : l.Pairwise (· < ·) := by
  rw [List.pairwise_map] at h
  exact h.imp fun {a b} hab => e.lt.mp hab
/-- rows sorted by strictly rising keys: one list -/
theorem rows_eq {A B : List (Int × Int)} (hp : A.Perm B) (ha : (A.map (·.1)).Pairwise (· < ·)) (hb : (B.map (·.1)).Pairwise (· < ·)) : A = B := by
  have h1 := sort_rows (T := A) (R := A) (.refl _) ha
  have h2 := sort_rows hp hb
  rw [h1] at h2
  exact h2
/-- all that the law tells of the table made of T and the one made of the renamed rows -/
structure Twin (N T : List (Int × Int)) (cs : List (Int × Int)) : Prop where
  rows : RowsIn (cs.map fun r => (nf N r.1, nf N r.2))
  tell : nm N (toldD (mkR T)) = toldD (mkR (cs.map fun r => (nf N r.1, nf N r.2)))
  rws : nm N (.tuple ((mkR T).map pairD)) = .tuple ((mkR (cs.map fun r => (nf N r.1, nf N r.2))).map pairD)
  cnt : RC.countOf (mkR (cs.map fun r => (nf N r.1, nf N r.2))) = RC.countOf (mkR T)
  fits : (RC.groups (mkR (cs.map fun r => (nf N r.1, nf N r.2)))).isEmpty = (RC.groups (mkR T)).isEmpty
  nmT : nm N (.tuple (cs.map pairD)) = .tuple ((cs.map fun r => (nf N r.1, nf N r.2)).map pairD)
  ord : ∀ o : List Int, o.Perm (RC.keys (mkR T)) → nm N (tupD o) = tupD (o.map (nf N)) ∧ (o.map (nf N)).Perm (RC.keys (mkR (cs.map fun r => (nf N r.1, nf N r.2)))) ∧
    ∀ rl : Rl, let x := RC.runRl (mkR T) rl o; let y := RC.runRl (mkR (cs.map fun r => (nf N r.1, nf N r.2))) rl (o.map (nf N))
      nm N (stopD x.2) = stopD y.2 ∧ nm N (endsD (RC.endsOf x.1)) = endsD (RC.endsOf y.1) ∧ nm N (tupD (RC.heldOf (RC.endsOf x.1))) = tupD (RC.heldOf (RC.endsOf y.1)) ∧
        nm N (tupD (RC.movedOf (RC.endsOf x.1))) = tupD (RC.movedOf (RC.endsOf y.1)) ∧ nm N (tupD (RC.leftOf (RC.endsOf x.1))) = tupD (RC.leftOf (RC.endsOf y.1))
theorem twin {N T cs : List (Int × Int)} (ri : RowsIn T) (no : NamesOk N T) (pm : cs.Perm T) : Twin N T cs := by
  have hS : ∀ x ∈ N.map (·.1), x ∈ N.map (·.1) := fun x hx => hx
  have eg := emb_gn (S := N.map (·.1)) no.k no.v hS
  have ev := emb_vl (S := N.map (·.1))
  have okR := mkR_ok ri
  have hin : ∀ r ∈ T, r.1 ∈ N.map (·.1) ∧ r.2 ∈ N.map (·.1) := fun r hr => ⟨(no.all _).mpr (.inl (List.mem_map.mpr ⟨r, hr, rfl⟩)), (no.all _).mpr (.inr (List.mem_map.mpr ⟨r, hr, rfl⟩))⟩
  have hinR : ∀ r ∈ mkR T, r.1 ∈ N.map (·.1) ∧ r.2 ∈ N.map (·.1) := fun r hr => hin r ((mkR_perm T).mem_iff.mpr hr)
  obtain ⟨Ra, eRa⟩ := lift2 (S := N.map (·.1)) (mkR T) hinR
  -- the renamed rows
  have hgp : ∀ la : List (Sub (N.map (·.1)) × Sub (N.map (·.1))), (la.map (gp vl)).map (fun r => (nf N r.1, nf N r.2)) = la.map (gp (gn N)) := fun la => by
    rw [List.map_map]; rfl
  have hren : (mkR T).map (fun r => (nf N r.1, nf N r.2)) = Ra.map (gp (gn N)) := by rw [← eRa, hgp]
  have hsrt : ((Ra.map (gp (gn N))).map (·.1)).Pairwise (· < ·) := by
    have h1 := okR.srt
    rw [← eRa] at h1
    have h2 : (Ra.map (gp vl)).map (·.1) = (Ra.map (·.1)).map vl := by rw [List.map_map, List.map_map]; rfl
    have h3 : (Ra.map (gp (gn N))).map (·.1) = (Ra.map (·.1)).map (gn N) := by rw [List.map_map, List.map_map]; rfl
    rw [h2] at h1
    rw [h3]
    exact emb_rise eg (emb_down ev h1)
  have hpm : (cs.map fun r => (nf N r.1, nf N r.2)).Perm (Ra.map (gp (gn N))) := by
    rw [← hren]
    exact (pm.trans (mkR_perm T)).map _
  have hb : ∀ x ∈ N.map (·.1), -Big < nf N x ∧ nf N x < Big := fun x hx => by
    obtain ⟨n, e, m⟩ := look_idx no.k hx
    unfold nf
    rw [e]
    exact no.b _ m
  have rows : RowsIn (cs.map fun r => (nf N r.1, nf N r.2)) := by
    refine ⟨?_, by rw [List.length_map, pm.length_eq]; exact ri.len, fun r hr => ?_, fun r hr => ?_⟩
    · unfold RC.keys
      rw [(hpm.map (·.1)).nodup_iff]
      exact hsrt.imp fun {a b} h => by omega
    · obtain ⟨q, hq, rfl⟩ := List.mem_map.mp hr
      exact hb _ (hin q (pm.mem_iff.mp hq)).1
    · obtain ⟨q, hq, rfl⟩ := List.mem_map.mp hr
      exact hb _ (hin q (pm.mem_iff.mp hq)).2
  have okR' := mkR_ok rows
  have eR' : mkR (cs.map fun r => (nf N r.1, nf N r.2)) = Ra.map (gp (gn N)) := rows_eq ((mkR_perm _).symm.trans hpm) okR'.srt hsrt
  have tk : ∀ l : List (Sub (N.map (·.1))), (l.map vl).map (nf N) = l.map (gn N) := fun l => by rw [List.map_map]; rfl
  obtain ⟨ca, eca⟩ := lift2 (S := N.map (·.1)) cs (fun r hr => hin r (pm.mem_iff.mp hr))
  refine ⟨rows, ?_, ?_, ?_, ?_, ?_, ?_⟩
  · rw [eR', ← eRa]
    exact nm_told hS eg
  · rw [eR', ← eRa, nm_tuple, List.map_map, List.map_map]
    congr 1
    exact nmA_of _ _ (fun r => nm_pair hS r) Ra
  · rw [eR', ← eRa, RC.countOf_map eg, RC.countOf_map ev]
  · rw [eR', ← eRa, RC.groups_map eg, RC.groups_map ev, List.isEmpty_map, List.isEmpty_map]
  · rw [← eca, hgp, nm_tuple, List.map_map, List.map_map]
    congr 1
    exact nmA_of _ _ (fun r => nm_pair hS r) ca
  · intro o ho
    have hoS : ∀ x ∈ o, x ∈ N.map (·.1) := fun x hx => by
      obtain ⟨r, hr, e⟩ := List.mem_map.mp (ho.mem_iff.mp hx)
      rw [← e]
      exact (hinR r hr).1
    obtain ⟨oa, eo⟩ := lift1 (S := N.map (·.1)) o hoS
    have hk1 : RC.keys (mkR T) = (RC.keys Ra).map vl := by rw [← eRa, RC.keys_map]
    have hk2 : RC.keys (Ra.map (gp (gn N))) = (RC.keys Ra).map (gn N) := RC.keys_map Ra
    refine ⟨?_, ?_, fun rl => ?_⟩
    · rw [← eo, tk]
      exact nm_tup hS oa
    · rw [eR', hk2, ← tk, ← hk1]
      exact ho.map _
    · show nm N (stopD (RC.runRl (mkR T) rl o).2) = _ ∧ _
      rw [eR', ← eRa, ← eo, tk, RC.runRl_map ev, RC.runRl_map eg]
      show nm N (stopD ((RC.runRl Ra rl oa).2.map (gp vl))) = stopD ((RC.runRl Ra rl oa).2.map (gp (gn N))) ∧ nm N (endsD (RC.endsOf ((RC.runRl Ra rl oa).1.map (go vl)))) = endsD (RC.endsOf ((RC.runRl Ra rl oa).1.map (go (gn N)))) ∧ nm N (tupD (RC.heldOf (RC.endsOf ((RC.runRl Ra rl oa).1.map (go vl))))) = tupD (RC.heldOf (RC.endsOf ((RC.runRl Ra rl oa).1.map (go (gn N))))) ∧
        nm N (tupD (RC.movedOf (RC.endsOf ((RC.runRl Ra rl oa).1.map (go vl))))) = tupD (RC.movedOf (RC.endsOf ((RC.runRl Ra rl oa).1.map (go (gn N))))) ∧ nm N (tupD (RC.leftOf (RC.endsOf ((RC.runRl Ra rl oa).1.map (go vl))))) = tupD (RC.leftOf (RC.endsOf ((RC.runRl Ra rl oa).1.map (go (gn N)))))
      rw [RC.endsOf_map ev, RC.endsOf_map eg, RC.heldOf_map ev, RC.heldOf_map eg, RC.movedOf_map ev, RC.movedOf_map eg, RC.leftOf_map, RC.leftOf_map]
      refine ⟨?_, ?_, nm_tup hS _, nm_tup hS _, nm_tup hS _⟩
      · cases (RC.runRl Ra rl oa).2 with
        | none => show nm N (.tuple []) = .tuple []; rw [nm_tuple, nmA_nil]
        | some r => exact nm_pair hS r
      · show nm N (.tuple _) = .tuple _
        rw [nm_tuple, List.map_map, List.map_map]
        congr 1
        exact nmA_of _ _ (fun r => nm_pair hS r) _
end RcX
end
section
set_option Elab.async false
set_option linter.all false
set_option maxRecDepth 100000
set_option maxHeartbeats 8000000
namespace RcX
open PySem PySem.Spec PyProof.Rows L2
open LamX (Tabs ExtN TabB)
open RC (Rl)
/-! ### shapes of what is told -/
theorem tup_d1 (l : List Int) : (tupD l).depth ≤ 1 := by
  show PyData.depthAll (l.map .int) + 1 ≤ 1
  rw [PySem.W.depth_ints]
  exact Nat.le_refl _
theorem tup_sm (l : List Int) : Sm (tupD l) = true := by
  unfold tupD Sm
  exact smA_map (fun i => by unfold Sm; rfl) l
theorem sm_tuple {ds : List PyData} (h : SmA ds = true) : Sm (.tuple ds) = true := by unfold Sm; exact h
theorem sm_str (s : Str) : Sm (.str s) = true := by unfold Sm; rfl
theorem smA_cons {d : PyData} {ds : List PyData} (h1 : Sm d = true) (h2 : SmA ds = true) : SmA (d :: ds) = true := by unfold SmA; rw [h1, h2]; rfl
theorem smA_nil : SmA [] = true := by unfold SmA; rfl
theorem pair_sm (r : Int × Int) : Sm (pairD r) = true := sm_tuple (smA_cons (by unfold Sm; rfl) (smA_cons (by unfold Sm; rfl) smA_nil))
theorem lay_cons {d : PyData} {ds : List PyData} (h1 : d.canLay0 = true) (h2 : PyData.canLayAll0 ds = true) : PyData.canLayAll0 (d :: ds) = true := by
  show (d.canLay0 && PyData.canLayAll0 ds) = true
  rw [h1, h2]; rfl
theorem dep_cons {d : PyData} {ds : List PyData} {n : Nat} (h1 : d.depth ≤ n) (h2 : PyData.depthAll ds ≤ n) : PyData.depthAll (d :: ds) ≤ n := Nat.max_le.mpr ⟨h1, h2⟩
theorem dep_tuple {ds : List PyData} {n : Nat} (h : PyData.depthAll ds ≤ n) : (PyData.tuple ds).depth ≤ n + 1 := Nat.succ_le_succ h
theorem pair_d1 (r : Int × Int) : (pairD r).depth ≤ 1 := dep_tuple (n := 0) (Nat.le_refl _)
structure Shp (n : Nat) (d : PyData) : Prop where
  sm : Sm d = true
  lay : d.canLay0 = true
  dep : d.depth ≤ n
theorem Shp.mono {n m : Nat} {d : PyData} (s : Shp n d) (h : n ≤ m) : Shp m d := ⟨s.sm, s.lay, Nat.le_trans s.dep h⟩
structure ShA (n : Nat) (ds : List PyData) : Prop where
  sm : SmA ds = true
  lay : PyData.canLayAll0 ds = true
  dep : PyData.depthAll ds ≤ n
theorem ShA.nil {n : Nat} : ShA n [] := ⟨smA_nil, rfl, Nat.zero_le _⟩
theorem ShA.cons {n : Nat} {d : PyData} {ds : List PyData} (h1 : Shp n d) (h2 : ShA n ds) : ShA n (d :: ds) := ⟨smA_cons h1.sm h2.sm, lay_cons h1.lay h2.lay, dep_cons h1.dep h2.dep⟩
theorem ShA.tup {n : Nat} {ds : List PyData} (h : ShA n ds) : Shp (n + 1) (.tuple ds) := ⟨sm_tuple h.sm, h.lay, dep_tuple h.dep⟩
theorem ShA.map {β : Type} {n : Nat} {enc : β → PyData} (h : ∀ b, Shp n (enc b)) (bs : List β) : ShA n (bs.map enc) := ⟨smA_map (fun b => (h b).sm) bs, canLay_map (fun b => (h b).lay) bs, depth_map (fun b => (h b).dep) bs⟩
theorem Shp.int {n : Nat} (i : Int) : Shp n (.int i) := ⟨by unfold Sm; rfl, rfl, Nat.zero_le _⟩
theorem Shp.tupD' (l : List Int) : Shp 1 (tupD l) := ⟨tup_sm l, tup_lay l, tup_d1 l⟩
theorem Shp.pair (r : Int × Int) : Shp 1 (pairD r) := ⟨pair_sm r, rfl, pair_d1 r⟩
theorem Shp.str {n : Nat} {s : Str} (h : PyData.strOk s = true) : Shp n (.str s) := ⟨sm_str s, h, Nat.zero_le _⟩
theorem Shp.tree (r : Int × List Int) : Shp 2 (treeD r) := (ShA.cons (Shp.int _) (ShA.cons (Shp.tupD' _) ShA.nil)).tup
theorem Shp.path (R : List (Int × Int)) (k : Int) : Shp 2 (pathD R k) := (ShA.cons (Shp.tupD' _) (ShA.cons (Shp.str (by cases RC.endOf R (RC.pathOf R k) <;> decide +kernel)) ShA.nil)).tup
theorem Shp.verd (v : RC.Verd Int) : Shp 2 (verdD v) := by
  cases v with
  | compete p => exact (ShA.cons (Shp.str (show PyData.strOk ("compete" : Str) = true by decide +kernel)) (ShA.cons (Shp.tupD' _) ShA.nil)).tup
  | ring p => exact (ShA.cons (Shp.str (show PyData.strOk ("ring" : Str) = true by decide +kernel)) (ShA.cons (Shp.tupD' _) ShA.nil)).tup
  | order p => exact (ShA.cons (Shp.str (show PyData.strOk ("order" : Str) = true by decide +kernel)) (ShA.cons (Shp.tupD' _) ShA.nil)).tup
theorem Shp.said (v : RC.Stg Int) : Shp 3 (saidD v) := by
  cases v with
  | compete g => exact (ShA.cons (Shp.str (by decide +kernel)) (ShA.cons ((Shp.tupD' g).mono (by decide)) ShA.nil)).tup
  | ring g => exact (ShA.cons (Shp.str (by decide +kernel)) (ShA.cons ((Shp.tupD' g).mono (by decide)) ShA.nil)).tup
  | ok l => exact (ShA.cons (Shp.str (by decide +kernel)) (ShA.cons (ShA.map Shp.tupD' l).tup ShA.nil)).tup
theorem Shp.told (R : List (Int × Int)) : Shp 4 (toldD R) :=
  (ShA.cons ((ShA.map Shp.tupD' _).tup.mono (by decide)) (ShA.cons ((ShA.map Shp.tupD' _).tup.mono (by decide)) (ShA.cons ((ShA.map Shp.tree _).tup) (ShA.cons ((Shp.verd _).mono (by decide)) (ShA.cons (Shp.said _) (ShA.cons ((ShA.map (Shp.path R) _).tup) ShA.nil)))))).tup
theorem Shp.stop (s : Option (Int × Int)) : Shp 1 (stopD s) := by
  cases s with
  | none => exact (ShA.nil (n := 0)).tup
  | some r => exact Shp.pair r
theorem Shp.ends (E : List (Int × Int)) : Shp 2 (endsD E) := (ShA.map Shp.pair E).tup
theorem Shp.shaped {d : PyData} {n : Nat} (s : Shp n d) (h : n ≤ 60) : SeqAt.shaped d = true := by
  unfold SeqAt.shaped
  rw [s.lay, decide_eq_true (Nat.le_trans s.dep (Nat.le_trans h (by decide)))]
  rfl
theorem told_noL (R : List (Int × Int)) : NoL (toldD R) = true := by
  show (NoL (.tuple _) && (NoL (.tuple _) && (NoL (.tuple _) && (NoL (verdD _) && (NoL (saidD _) && (NoL (.tuple _) && true)))))) = true
  have h1 : NoL (.tuple (ringsD R)) = true := NoL.map tup_noL _
  have h2 : NoL (.tuple (groupsD R)) = true := NoL.map tup_noL _
  have h3 : NoL (.tuple (treesD R)) = true := NoL.map tree_noL _
  have h4 : NoL (verdD (RC.verdict R)) = true := by show (true && (NoL (tupD _) && true)) = true; rw [tup_noL]; rfl
  have h5 : NoL (saidD (RC.stages R)) = true := by
    cases RC.stages R with
    | compete g => show (true && (NoL (tupD _) && true)) = true; rw [tup_noL]; rfl
    | ring g => show (true && (NoL (tupD _) && true)) = true; rw [tup_noL]; rfl
    | ok l =>
      have : NoL (.tuple (l.map tupD)) = true := NoL.map tup_noL _
      show (true && (NoL (.tuple (l.map tupD)) && true)) = true
      rw [this]; rfl
  have h6 : NoL (.tuple ((RC.keys R).map (pathD R))) = true := NoL.map (path_noL R) _
  rw [h1, h2, h3, h4, h5, h6]; rfl
theorem ne_same {K : PySem.W.Frag} {H : Hp} {x y : V} {d : PyData} {n : Nat} {Q : VK} (s : Shp n d) (h : n ≤ 60) (hx : Dp K H x d) (hy : Dp K H y d) (q : Q (.bl false) H) : rNeD K x y H Q :=
  ⟨d, d, hx, hy, s.shaped h, s.shaped h, by rw [SeqAt.eqv_refl d s.lay]; exact q⟩
/-! ### an instance of one of the rules called -/
theorem pe_callR {X : Cx} {CX : CXT} {k j : Nat} {rc : Rl → Addr} {sp : Rl → Sp} {E : XK} {e fe : Expr} {es : List Expr} {tf : TE} {t : TA} {pos : Pos} (hf : PE X fe tf) (hc : ∀ rl, ∃ g, StX.CallO X.K (rc rl) g ∧ FnR X.prog X.w X.K X.mg X.base CX k g (sp rl)) (hr : Room j X.A) (hk : k ≤ j) (hx : Passes CX X E) (ha : PA X (e :: es) t)
    (ht : eval (.Call fe (e :: es) [] pos) X.env = (do callWith pos (← eval fe X.env) [] (backTo pos (starEach (e :: es) X.env)) (backToKw pos (keywordEach [] X.env))) := by rfl)
    (he : starEach (e :: es) X.env = (false, eval e X.env) :: starEach es X.env := by rfl) (hpl : (backTo pos (starEach es X.env)).any (·.1) = false := by rfl) :
    PE X (.Call fe (e :: es) [] pos) (fun σ H Q => tf σ H fun y H1 => ∃ (a : Addr) (rl : Rl) (dx : Addr), y = V.ref a ∧ t σ H1 fun vs H2 => H2 a = some (.ins (rc rl) dx []) ∧ sp rl (V.ref a :: vs) H2 Q E) := by
  refine ⟨fun pins s σ H Q I h => Call_ (thn (hf.run pins s σ H _ I h) fun u s1 ⟨y, H1, I1, ry, a, rl, dx, ey, q⟩ => ?_) ht⟩
  obtain ⟨g, c, F⟩ := hc rl
  subst ey
  obtain rfl : u = Value.ref a := ry
  refine StX.callO_with (thn (ha.run pos pins s1 σ H1 _ I1 q) fun us s2 ⟨vs, H2, I2, r, hi, q2⟩ => ?_) he hpl
  have hi' : StX.InsC X H2 a (rc rl) := .inr ⟨dx, [], hi⟩
  obtain ⟨ox, od, J, hd⟩ := StX.insC_at I2 hi'
  exact ⟨⟨rc rl, ox, od, J, hd⟩, StX.run_callO c F (hr.mono hk) hx I2 hi' r q2⟩
/-! ### the law's state -/
structure LW (K : PySem.W.Frag) (CT tP p L0 l d t o : Addr) (cells : List Int) (xs : List V) (T N R R' : List (Int × Int)) (H : Hp) : Prop where
  pen : PenAt H p
  tabs : Tabs [(tP, lamQ)] H
  c0 : H L0 = some (.lst (iv cells))
  np : L0 ≠ p
  l_ : H l = some (.lst xs)
  lp : l ≠ p
  dp : DpAll K H xs (T.map pairD)
  nd : H d = some (.dK (kvOf N))
  tt : TabAt CT H t R
  oo : TabAt CT H o R'
section
variable {K : PySem.W.Frag} {CT tP p L0 l d t o : Addr} {cells : List Int} {xs : List V} {T N R R' : List (Int × Int)} {H H' : Hp}
theorem LW.keep (g : LW K CT tP p L0 l d t o cells xs T N R R' H) (k : ∀ b u, H b = some u → b ≠ p → (∀ ps, u ≠ .tbl ps) → H' b = some u) (at_ : PenAt H' p) (tb : Tabs [(tP, lamQ)] H') : LW K CT tP p L0 l d t o cells xs T N R R' H' := by
  have ts : TupS H H' := ⟨fun b ys h => k b _ h (g.pen.ne h fun _ _ _ z => by cases z) (fun _ z => by cases z), fun b ob ys h => k b _ h (g.pen.ne h fun _ _ _ z => by cases z) (fun _ z => by cases z)⟩
  have tab : ∀ {q : Addr} {S : List (Int × Int)}, TabAt CT H q S → TabAt CT H' q S := fun {q S} h => by
    obtain ⟨⟨dx, dd, T', h1, h2, h3⟩, h4⟩ := h
    exact ⟨⟨dx, dd, T', k _ _ h1 (g.pen.ne h1 fun _ _ _ z => by cases z) (fun _ z => by cases z), k _ _ h2 (g.pen.ne h2 fun _ _ _ z => by cases z) (fun _ z => by cases z), h3⟩, h4⟩
  exact ⟨at_, tb, k _ _ g.c0 g.np (fun _ z => by cases z), g.np, k _ _ g.l_ g.lp (fun _ z => by cases z), g.lp, DpAll.ts ts (NoL.map pair_noL _) g.dp, k _ _ g.nd (g.pen.ne g.nd fun _ _ _ z => by cases z) (fun _ z => by cases z), tab g.tt, tab g.oo⟩
theorem LW.same (g : LW K CT tP p L0 l d t o cells xs T N R R' H) (e : Same H H') : LW K CT tP p L0 l d t o cells xs T N R R' H' :=
  g.keep (fun b u h _ _ => e b u h) (Pn.same g.pen e).at_ (g.tabs.ext e)
theorem tabs_pn (hp : PenAt H p) (e : Pn p H H') (tb : Tabs [(tP, lamQ)] H) : Tabs [(tP, lamQ)] H' := fun r hr => by
  obtain ⟨ps, h1, h2, h3⟩ := tb r hr
  refine ⟨ps, e.k _ _ h1 (hp.ne h1 fun _ _ _ z => by cases z), h2, fun pos cv hc => ?_⟩
  obtain ⟨c, e1, e2⟩ := h3 pos cv hc
  exact ⟨c, e1, e.k _ _ e2 (hp.ne e2 fun _ _ _ z => by unfold LamX.CodeO at z; cases z)⟩
theorem LW.pn (g : LW K CT tP p L0 l d t o cells xs T N R R' H) (e : Pn p H H') : LW K CT tP p L0 l d t o cells xs T N R R' H' :=
  g.keep (fun b u h hb _ => e.k b u h hb) e.at_ (tabs_pn g.pen e g.tabs)
theorem LW.ext (g : LW K CT tP p L0 l d t o cells xs T N R R' H) (e : ExtN H H') (tb : Tabs [(tP, lamQ)] H') : LW K CT tP p L0 l d t o cells xs T N R R' H' := by
  refine g.keep (fun b u h _ n => e b u h n) ?_ tb
  obtain ⟨⟨x, y, z, h, r⟩⟩ := g.pen
  exact ⟨⟨x, y, z, e _ _ h (fun _ z => by cases z), r⟩⟩
end
theorem sh3 (a : Option (Int × Int)) (b : List (Int × Int)) (c : List Int) : Shp 3 (.tuple [stopD a, endsD b, tupD c]) :=
  (ShA.cons ((Shp.stop a).mono (by decide)) (ShA.cons (Shp.ends b) (ShA.cons ((Shp.tupD' c).mono (by decide)) ShA.nil))).tup
theorem sh2 (a b : List Int) : Shp 2 (.tuple [tupD a, tupD b]) := (ShA.cons (Shp.tupD' a) (ShA.cons (Shp.tupD' b) ShA.nil)).tup
theorem rnil : RowsIn [] := ⟨List.nodup_nil, Nat.zero_le _, fun _ h => absurd h List.not_mem_nil, fun _ h => absurd h List.not_mem_nil⟩
theorem new_same {H H' : Hp} {x dx C : Addr} (nx : H x = none) (nd : H dx = none) (h1 : ∀ b u, (upd (upd H dx (.own x)) x (.ins C dx [])) b = some u → b ≠ x → H' b = some u) (hne : dx ≠ x) : Same H H' := fun b u hb => by
  have s1 : Same H (upd H dx (.own x)) := Same.new nd
  have nx2 : (upd H dx (.own x)) x = none := by
    unfold upd
    rw [if_neg (fun e => hne e.symm)]
    exact nx
  have s2 : Same (upd H dx (.own x)) (upd (upd H dx (.own x)) x (.ins C dx [])) := Same.new nx2
  exact h1 b u (s2 _ _ (s1 _ _ hb)) (ne_of_none hb nx)
theorem mkR_nil : mkR [] = [] := List.mergeSort_nil
/-! ### the law -/
abbrev N97 : List Str := ["_law_script", "_law_cell", "_law_pen_here", "_law_pairs_here", "_law_names_here", "_law_table", "_law_other", "_law_word_here", "_law_rule", "_law_order", "_law_one", "_law_its", "_law_key", "_law_new"]
theorem sc97 : FnScope N97 ["_law_script"] (defScope (topS 97)) := ⟨rfl, rfl, rfl, by decide +kernel, rfl, by decide +kernel, by decide +kernel⟩
def spLaw (K : PySem.W.Frag) (tP : Addr) : Sp := fun vs H Q _ => ∃ (s : Addr) (ns : List Int), vs = [.ref s] ∧ SqL K H s (iv ns) ∧ Tabs [(tP, lamQ)] H ∧ ∀ H', Q (.bl true) H'
section
variable {P : Program} {w : World} {K : PySem.W.Frag} {mg : Str → Option Value} {base : Heap} {a : Ads} {rc : Rl → Addr} {cn : Str → Addr} {CC CR RE c tP fa : Addr} {fd : FuncData}
theorem ok_law (T : Tr K mg a rc) (Z : Te P K mg CC CR) (Y : Xs K mg cn CC CR RE) (M : Tm K mg c) (L : Tl K mg) (TB : TabB base mg c tP) (F : FunD K "law" "law" (defArgs (topS 97)) (defBody (topS 97)) (defScope (topS 97)) [] [] fa fd) : FnOk P w K mg base CX0 16 fa fd ["_law_script"] (spLaw K tP) := by
  have tx := T.t.x
  have cca : Fnc P w K mg base CX0 1 "_law_cell_at" (spCellAt K) := ok_cell_at tx L
  have cpn : Fnc P w K mg base CX0 1 "_law_pen" spPen := ok_pen tx L
  have cpk : Fnc P w K mg base CX0 2 "_law_pick" spPick := ok_pick tx L
  have cmx : Fnc P w K mg base CX0 2 "_law_mixed" (spMixed K) := ok_mixed tx L
  have cpr : Fnc P w K mg base CX0 3 "_law_pairs" (spPairs K) := ok_pairs tx L
  have cnm : Fnc P w K mg base CX0 3 "_law_names" (spNames K) := ok_names tx L
  have cnd : Fnc P w K mg base CX0 7 "_law_named" (spNm K 6) := ok_lnamed 6 tx L
  have ctd : Fnc P w K mg base CX0 13 "_law_told" (spTold K a.T tP) := ok_told tx Z Y M TB
  have cpo : Fnc P w K mg base CX0 11 "passing_orders" (spIntT a.T RC.countOf) := ok_passing_orders tx
  have cfe : Fnc P w K mg base CX0 6 "fits_at_end" (spBoolT a.T fun R => (RC.groups R).isEmpty) := ok_fits_at_end tx
  have cT : Cls1 P w K mg base CX0 5 "Table" a.T (spTabNew K a.T) := ok_init T.t
  have cadd : Mth P w K mg base CX0 7 a.T "__add__" (spAdd K a.T) := ok_add T.t
  have cr : Prp P w K mg base 2 a.T "rows" (spRows K a.T) := prp_rows tx
  have ps1 : Prp P w K mg base 1 a.O "stop" (spStop K a.O) := prp_stop T
  have ps2 : Prp P w K mg base 1 a.O "ends" (spEnds K a.O) := prp_ends T
  have ps3 : Prp P w K mg base 1 a.O "held" (spOutL K a.O RC.heldOf) := prp_held T
  have ps4 : Prp P w K mg base 1 a.O "moved" (spOutL K a.O RC.movedOf) := prp_moved T
  have ps5 : Prp P w K mg base 1 a.O "left" (spOutL K a.O RC.leftOf) := prp_left T
  obtain ⟨gN, stN, FN⟩ := T.named
  have Fnm : FnR P w K mg base CX0 1 gN (spNamed rc) := ok_named T FN
  have ccall : ∀ rl, ∃ g, StX.CallO K (rc rl) g ∧ FnR P w K mg base CX0 7 g (spCall K a (rc rl) rl) := fun rl => by
    obtain ⟨g, h1, h2⟩ := (T.rl rl).call
    exact ⟨g, h1, ok_call T rl h2⟩
  refine FunD.ok F sc97 (fun vs H Q E h => ?_) fun cdv A outer s0 H0 vs Q E hr h => ?_
  · obtain ⟨s, ns, rfl, _⟩ := h; rfl
  · obtain ⟨sc, ns, rfl, hsc, hT0, kq⟩ := h
    have hu := hr.units
    refine ⟨_, PSs.nox (pss_cons (ps_for PassesOwn.never rfl (pi_list (pe_op op_cat (pe_lst (pa_cons (pe_f cca hr (by decide) (E := E0) pass0 (by rfl) (pa_cons (pv 0) (pa_cons pe_int pa_nil))) pa_nil)) (pe_slice sl_list (pv 0) (po_some pe_int) (po_some pe_int)))) (pg_name (i := 1) sc97.nd rfl (.inl rfl))
      (pss_cons (ps_set (i := 2) sc97.nd rfl (.inl rfl) (pe_f cpn hr (by decide) (E := E0) pass0 (by rfl) (pa_cons (pv 1) pa_nil)))
      (pss_cons (ps_set (i := 3) sc97.nd rfl (.inl rfl) (pe_f cpr hr (by decide) (E := E0) pass0 (by rfl) (pa_cons (pv 2) (pa_cons (pe_f cpk hr (by decide) (E := E0) pass0 (by rfl) (pa_cons (pv 2) (pa_cons (pe_lst (pa_cons pe_int (pa_cons pe_int (pa_cons pe_int pa_nil)))) pa_nil))) pa_nil))))
      (pss_cons (ps_set (i := 4) sc97.nd rfl (.inl rfl) (pe_f cnm hr (by decide) (E := E0) pass0 (by rfl) (pa_cons (pv 2) (pa_cons (pv 3) pa_nil))))
      (pss_cons (ps_set (i := 5) sc97.nd rfl (.inl rfl) (pe_op (op_addO cadd T.t.sfT hr (by decide) (E := E0) pass0) (pe_new0 cT hr (by decide) (E := E0) pass0 (by rfl)) (pe_callTy call_tuple_of (by rfl) tx.tuple PyProof.Rows.boot_tuple (pa_cons (pv 3) pa_nil))))
      (pss_cons (ps_set (i := 6) sc97.nd rfl (.inl rfl) (pe_op (op_addO cadd T.t.sfT hr (by decide) (E := E0) pass0) (pe_new0 cT hr (by decide) (E := E0) pass0 (by rfl))
          (pe_f cnd hr (by decide) (E := E0) pass0 (by rfl) (pa_cons (pv 4) (pa_cons (pe_callTy call_tuple_of (by rfl) tx.tuple PyProof.Rows.boot_tuple (pa_cons (pe_f cmx hr (by decide) (E := E0) pass0 (by rfl) (pa_cons (pv 2) (pa_cons (pv 3) pa_nil))) pa_nil)) pa_nil)))))
      (C8.pss_cut (ps_if (PW.pt (pw_or (pt_cmpR (op_neD hu) (pe_pr cr tx.insT.cl hr (by decide) (pv 6)) (pe_f cnd hr (by decide) (E := E0) pass0 (by rfl) (pa_cons (pv 4) (pa_cons (pe_pr cr tx.insT.cl hr (by decide) (pv 5)) pa_nil))) (nomark _))
          (pw_or1 (pt_cmpR (op_neD hu) (pe_f ctd hr (by decide) (E := E0) pass0 (by rfl) (pa_cons (pv 6) pa_nil)) (pe_f cnd hr (by decide) (E := E0) pass0 (by rfl) (pa_cons (pv 4) (pa_cons (pe_f ctd hr (by decide) (E := E0) pass0 (by rfl) (pa_cons (pv 5) pa_nil)) pa_nil))) (nomark _))))) (pss_one ps_never) pss_nil)
      (C8.pss_cut (ps_if (PW.pt (pw_or (pt_cmpR op_ne (pe_f cpo hr (by decide) (E := E0) pass0 (by rfl) (pa_cons (pv 6) pa_nil)) (pe_f cpo hr (by decide) (E := E0) pass0 (by rfl) (pa_cons (pv 5) pa_nil)) (nomark _))
          (pw_or1 (pt_cmpR op_ne (pe_f cfe hr (by decide) (E := E0) pass0 (by rfl) (pa_cons (pv 6) pa_nil)) (pe_f cfe hr (by decide) (E := E0) pass0 (by rfl) (pa_cons (pv 5) pa_nil)) (nomark _))))) (pss_one ps_never) pss_nil)
      (pss_one (ps_for PassesOwn.never rfl (pi_list (pe_lst (pa_cons pe_str (pa_cons pe_str (pa_cons pe_str (pa_cons pe_str pa_nil)))))) (pg_name (i := 7) sc97.nd rfl (.inl rfl))
        (pss_cons (ps_par (i := 8) (j := 9) rfl sc97.nd rfl rfl (by decide) rfl rfl (pa_cons (pe_stat stN Fnm hr (by decide) (E := E0) pass0 (by rfl) T.mgR (pa_cons (pv 7) pa_nil))
            (pa_cons (pe_callTy call_tuple_of (by rfl) tx.tuple PyProof.Rows.boot_tuple (pa_cons (pe_f cmx hr (by decide) (E := E0) pass0 (by rfl) (pa_cons (pv 2) (pa_cons
              (pe_lc (own := [("_law_key", 12), ("_law_new", 13)]) (g := gTup K 2 (gCons (gName 12) (gCons (gName 13) gNil))) (tt := tYes) (te := tVar 12) rfl sc97.nd (pi_list (pv 3)) (blkOk_by (N := N97) (sc := defScope (topS 97)) (by decide +kernel))
                (fun _ _ _ _ _ => pg_tup rfl (pgs_cons (pg_name (i := 12) sc97.nd rfl (Or.inl rfl)) (pgs_cons (pg_name (i := 13) sc97.nd rfl (Or.inl rfl)) pgs_nil))) (fun _ _ _ _ _ => pts_nil) (fun _ _ _ _ _ => pv 12)) pa_nil))) pa_nil)) pa_nil)) (by rfl))
        (pss_cons (ps_par (i := 10) (j := 11) rfl sc97.nd rfl rfl (by decide) rfl rfl (pa_cons (pe_callR (pv 8) ccall hr (by decide) (E := E0) pass0 (pa_cons (pv 5) (pa_cons (pv 9) pa_nil)))
            (pa_cons (pe_callR (pv 8) ccall hr (by decide) (E := E0) pass0 (pa_cons (pv 6) (pa_cons (pe_f cnd hr (by decide) (E := E0) pass0 (by rfl) (pa_cons (pv 4) (pa_cons (pv 9) pa_nil))) pa_nil))) pa_nil)) (by rfl))
        (pss_cons (ps_if (pt_cmpR (op_neD hu) (pe_tup (pa_cons (pe_pr ps1 T.clO hr (by decide) (pv 11)) (pa_cons (pe_pr ps2 T.clO hr (by decide) (pv 11)) (pa_cons (pe_pr ps3 T.clO hr (by decide) (pv 11)) pa_nil))))
            (pe_f cnd hr (by decide) (E := E0) pass0 (by rfl) (pa_cons (pv 4) (pa_cons (pe_tup (pa_cons (pe_pr ps1 T.clO hr (by decide) (pv 10)) (pa_cons (pe_pr ps2 T.clO hr (by decide) (pv 10)) (pa_cons (pe_pr ps3 T.clO hr (by decide) (pv 10)) pa_nil)))) pa_nil))) (nomark _)) (pss_one ps_never) pss_nil)
        (pss_one (ps_if (pt_cmpR (op_neD hu) (pe_tup (pa_cons (pe_pr ps4 T.clO hr (by decide) (pv 11)) (pa_cons (pe_pr ps5 T.clO hr (by decide) (pv 11)) pa_nil)))
            (pe_f cnd hr (by decide) (E := E0) pass0 (by rfl) (pa_cons (pv 4) (pa_cons (pe_tup (pa_cons (pe_pr ps4 T.clO hr (by decide) (pv 10)) (pa_cons (pe_pr ps5 T.clO hr (by decide) (pv 10)) pa_nil))) pa_nil))) (nomark _)) (pss_one ps_never) pss_nil)))))))))))))))
      (pss_one (ps_ret pe_bl))), ?_⟩
    have hcut : ∃ cs : List Int, cutV (iv ns) (some 1) (some 2) = iv cs ∧ cs.length ≤ 2 := by
      refine ⟨(ns.drop (HT.sIx (iv ns).length 0 (some 1))).take (HT.sIx (iv ns).length (iv ns).length (some 2) - HT.sIx (iv ns).length 0 (some 1)), ?_, ?_⟩
      · unfold cutV iv
        rw [List.map_take, List.map_drop]
      · rw [List.length_take]
        have := HT.sIx_nat (iv ns).length (iv ns).length 2
        have h2 : HT.sIx (iv ns).length (iv ns).length (some 2) ≤ 2 := by
          rw [show (some (2 : Int)) = some ((2 : Nat) : Int) from rfl, HT.sIx_nat]
          exact Nat.min_le_left _ _
        omega
    obtain ⟨cs0, ecut, hcl⟩ := hcut
    have seqL : ∀ {H1 H2 : Hp} {q : Addr} {xs : List V}, Same H1 H2 → SqL K H1 q xs → SqL K H2 q xs := fun e h => by
      rcases h with (h | ⟨o, h⟩) | h
      · exact .inl (.inl (e _ _ h))
      · exact .inl (.inr ⟨o, e _ _ h⟩)
      · exact .inr h
    refine ⟨_, rfl, sc, ns, rfl, hsc, line_lit (n := 1) (by decide), fun l1 nl1 => ?_⟩
    have s1 : Same H0 (upd H0 l1 (.lst [.int (ns.headD 0)])) := Same.new nl1
    refine ⟨_, rfl, _, rfl, _, rfl, sc, _, rfl, seqL s1 hsc, fun l2 nl2 => ?_⟩
    have s2 : Same (upd H0 l1 (.lst [.int (ns.headD 0)])) (upd (upd H0 l1 (.lst [.int (ns.headD 0)])) l2 (.lst (cutV (iv ns) (some 1) (some 2)))) := Same.new nl2
    refine ⟨l1, l2, _, _, rfl, rfl, s2 _ _ upd_same, upd_same, by rw [ecut, iv_len]; exact Nat.le_trans (Nat.add_le_add_left hcl 1) (line_lit (n := 3) (by decide)), fun L0 nL0 => ?_⟩
    have eL : (upd (upd (upd H0 l1 (.lst [.int (ns.headD 0)])) l2 (.lst (cutV (iv ns) (some 1) (some 2)))) L0 (.lst ([.int (ns.headD 0)] ++ cutV (iv ns) (some 1) (some 2)))) L0 = some (.lst (iv (ns.headD 0 :: cs0))) := by
      rw [upd_same, ecut]; rfl
    have s3 : Same (upd (upd H0 l1 (.lst [.int (ns.headD 0)])) l2 (.lst (cutV (iv ns) (some 1) (some 2)))) (upd (upd (upd H0 l1 (.lst [.int (ns.headD 0)])) l2 (.lst (cutV (iv ns) (some 1) (some 2)))) L0 (.lst ([.int (ns.headD 0)] ++ cutV (iv ns) (some 1) (some 2)))) := Same.new nL0
    have t0 := hT0.ext ((s1.trans s2).trans s3)
    generalize upd (upd (upd H0 l1 (.lst [.int (ns.headD 0)])) l2 (.lst (cutV (iv ns) (some 1) (some 2)))) L0 (.lst ([.int (ns.headD 0)] ++ cutV (iv ns) (some 1) (some 2))) = HL at *
    generalize ns.headD 0 :: cs0 = cells at *
    refine ⟨L0, rfl, ⟨_, SqL.of eL⟩, ?_⟩
    refine for_it (walk_list (xs := iv cells)) (fun i σ H => ∃ v1 v2 v3 v4 v5 v6 v7 v8 v9 v10 v11 v12 v13, σ = [some (.ref sc), v1, v2, v3, v4, v5, v6, v7, v8, v9, v10, v11, v12, v13] ∧ H L0 = some (.lst (iv cells)) ∧ Tabs [(tP, lamQ)] H) ⟨none, none, none, none, none, none, none, none, none, none, none, none, none, rfl, eL, t0⟩ (fun i σ H _ h => by
      obtain ⟨_, _, _, _, _, _, _, _, _, _, _, _, _, _, e, _⟩ := h
      exact SqL.of e) ?_ ?_
    rotate_left
    · rintro σ H ⟨v1, v2, v3, v4, v5, v6, v7, v8, v9, v10, v11, v12, v13, rfl, e, t⟩
      exact kq _
    rintro i x σ H H' hi ⟨v1, v2, v3, v4, v5, v6, v7, v8, v9, v10, v11, v12, v13, rfl, eC, tC⟩ ⟨rfl, hxi⟩
    obtain ⟨c0, rfl⟩ : ∃ c0 : Int, x = .int c0 := by
      unfold iv at hxi
      rw [List.getElem?_map] at hxi
      cases hz : cells[i]? with
      | none => rw [hz] at hxi; cases hxi
      | some z => rw [hz] at hxi; exact ⟨z, (Option.some.inj hxi).symm⟩
    -- the pen
    refine ⟨_, rfl, c0, rfl, fun p H1 q1 np hp => ?_⟩
    have c1 := q1 _ _ eC
    have c1p : L0 ≠ p := ne_of_none eC np
    have t1 := tC.ext q1
    -- the pairs
    refine ⟨_, rfl, _, rfl, line_lit (n := 3) (by decide), fun la nla => ?_⟩
    refine ⟨p, la, _, rfl, (Pn.same hp (Same.new nla)).at_, pen_ne hp nla, upd_same, (show 0 < 3 by decide), (show 3 ≤ 1000 by decide), fun i1 x1 H2 hx1 pn2 _ => ?_⟩
    have pn2' := (Pn.same hp (Same.new nla)).trans pn2
    obtain ⟨m, rfl, hm⟩ : ∃ m : Nat, x1 = .int m ∧ m ≤ 30 := by
      rcases i1 with _ | _ | _ | i1
      · exact ⟨30, (Option.some.inj hx1).symm, by decide⟩
      · exact ⟨8, (Option.some.inj hx1).symm, by decide⟩
      · exact ⟨8, (Option.some.inj hx1).symm, by decide⟩
      · cases hx1
    refine ⟨p, m, rfl, hm, pn2'.at_, fun l xs T0 H3 ri hl hd pn3 nl => ?_⟩
    have pn4 := pn2'.trans pn3
    have nl1 : H1 l = none := pn2'.free hp nl
    have lp := pen_ne hp nl1
    -- the names
    refine ⟨_, rfl, _, rfl, p, l, xs, T0, rfl, pn4.at_, lp, hl, hd, ri, fun d N H4 no hd4 pn5 nd => ?_⟩
    have pn6 := pn4.trans pn5
    have nd1 : H1 d = none := pn4.free hp nd
    have dp := pen_ne hp nd1
    have hl4 : H4 l = some (.lst xs) := pn5.k _ _ hl lp
    have hdp4 : DpAll K H4 xs (T0.map pairD) := DpAll.ts (pn5.tups pn4.at_) (NoL.map pair_noL _) hd
    have c4 : H4 L0 = some (.lst (iv cells)) := pn6.k _ _ c1 c1p
    have t4 := tabs_pn hp pn6 t1
    -- the table
    intro te dxt nte ndt hnt
    refine ⟨te, dxt, [], [], rfl, upd_same, .nil, rnil, fun H5 h5 te5 => ⟨rfl, ?_⟩⟩
    have q5 : Same H4 H5 := new_same nte ndt h5 hnt
    have hl5 := q5 _ _ hl4
    refine ⟨_, rfl, l, xs, rfl, .inl ⟨SqL.of hl5, fun tu ntu => ?_⟩⟩
    have q6 : Same H5 (upd H5 tu (.tup xs)) := Same.new ntu
    have hd6 := DpAll.same q6 _ _ (DpAll.same q5 _ _ hdp4)
    have te6 := te5.same q6
    obtain ⟨dxe, dde, TTe, ee6, _, _⟩ := id te6.ex
    refine ⟨te, dxe, _, tu, xs, rfl, ee6, rfl, .inl (.inl upd_same), te, tu, xs, T0, rfl, (by rw [mkR_nil] at te6; exact te6), .inl (.inl upd_same), hd6, ri, fun t H7 q7 tt => ⟨t, rfl, ?_⟩⟩
    have q47 := (q5.trans q6).trans q7
    -- the other table
    intro ue dxu nue ndu hnu
    refine ⟨ue, dxu, [], [], rfl, upd_same, .nil, rnil, fun H8 h8 ue8 => ⟨rfl, ?_⟩⟩
    have q8 : Same H7 H8 := new_same nue ndu h8 hnu
    have q48 := q47.trans q8
    have pn8 := pn6.then q48
    have hl8 := q48 _ _ hl4
    refine ⟨_, rfl, _, rfl, _, rfl, Int × Int, pairD, p, l, xs, T0, rfl, pn8.at_, lp, hl8, DpAll.same q48 _ _ hdp4, pair_noL, fun b => (Shp.pair b).lay, fun b => Nat.le_trans (Shp.pair b).dep (by decide), Nat.le_trans ri.len (by decide), fun qm ym cs H9 perm hd9 hqm pn9 fqm => ?_⟩
    have pn9' := pn8.trans pn9
    have tw := twin ri no perm
    refine ⟨qm, ym, rfl, .inl ⟨SqL.of hqm, fun tu2 ntu2 => ?_⟩⟩
    have q10 : Same H9 (upd H9 tu2 (.tup ym)) := Same.new ntu2
    have hnd9 : H9 d = some (.dK (kvOf N)) := pn9.k _ _ (q48 _ _ hd4) dp
    refine ⟨d, .ref tu2, N, .tuple (cs.map pairD), rfl, q10 _ _ hnd9, .tup (.inl (.inl upd_same)) (DpAll.same q10 _ _ hd9), (ShA.map Shp.pair _).tup.sm, Nat.le_trans (ShA.map Shp.pair _).tup.dep (by decide), fun v' H11 q11 dv => ?_⟩
    rw [tw.nmT] at dv
    have q911 := q10.trans q11
    have ue11 := (pn9.tab pn8.at_ ue8).same q911
    rw [mkR_nil] at ue11
    obtain ⟨dxu2, ddu2, TTu, eu, _, _⟩ := id ue11.ex
    cases dv with
    | @tup pw ys ds hv1 hv2 =>
    refine ⟨ue, dxu2, _, pw, ys, rfl, eu, rfl, hv1, ue, pw, ys, _, rfl, ue11, hv1, hv2, tw.rows, fun o H12 q12 oo => ⟨o, rfl, ?_⟩⟩
    have q912 := q911.trans q12
    have g : LW K a.T tP p L0 l d t o cells xs T0 N (mkR T0) (mkR (cs.map fun r => (nf N r.1, nf N r.2))) H12 :=
      ⟨(pn9'.then q912).at_, (tabs_pn pn8.at_ pn9 (t4.ext q48)).ext q912, q912 _ _ (pn9'.k _ _ c1 c1p), c1p, q912 _ _ (pn9.k _ _ hl8 lp), lp, DpAll.same q912 _ _ (DpAll.ts (pn9.tups pn8.at_) (NoL.map pair_noL _) (DpAll.same q48 _ _ hdp4)), q912 _ _ hnd9, (pn9.tab pn8.at_ (tt.same q8)).same q912, oo⟩
    clear hv1 hv2 eu ue11 q912 q911 q12 q11 q10 oo hd9 hqm tt ue8 te6 te5 ee6 hd6
    refine ⟨fun σ H => σ = [some (.ref sc), some (.int c0), some (.ref p), some (.ref l), some (.ref d), some (.ref t), some (.ref o), v7, v8, v9, v10, v11, v12, v13] ∧ LW K a.T tP p L0 l d t o cells xs T0 N (mkR T0) (mkR (cs.map fun r => (nf N r.1, nf N r.2))) H, ?_, ?_⟩
    · obtain ⟨dxo, ddo, TTo, eo, _, _⟩ := id g.oo.ex
      refine ⟨_, rfl, o, dxo, _, rfl, eo, o, _, rfl, g.oo, fun r1 rx1 G1 u1 nr1 hr1 hrd1 => ?_⟩
      have g1 := g.same u1
      obtain ⟨dxt, ddt, TTt, et, _, _⟩ := id g1.tt.ex
      refine ⟨_, rfl, _, rfl, t, dxt, _, rfl, et, t, _, rfl, g1.tt, fun r2 rx2 G2 u2 nr2 hr2 hrd2 => ?_⟩
      have g2 := g1.same u2
      refine ⟨d, .ref r2, N, .tuple ((mkR T0).map pairD), rfl, g2.nd, .tup (.inl (.inl hr2)) hrd2, (ShA.map Shp.pair _).tup.sm, Nat.le_trans (ShA.map Shp.pair _).tup.dep (by decide), fun v3 G3 u3 dv3 => ?_⟩
      rw [tw.rws] at dv3
      refine ne_same (ShA.map Shp.pair _).tup (by decide) (.tup (.inl (.inl ((u2.trans u3) _ _ hr1))) (DpAll.same (u2.trans u3) _ _ hrd1)) dv3 ⟨_, rfl, iteF ?_⟩
      have g3 := g2.same u3
      refine ⟨_, rfl, o, _, rfl, g3.oo, g3.tabs, fun q1 G4 e4 tb4 d4 => ?_⟩
      have g4 := g3.ext e4 tb4
      refine ⟨_, rfl, _, rfl, t, _, rfl, g4.tt, g4.tabs, fun q2 G5 e5 tb5 d5 => ?_⟩
      have g5 := g4.ext e5 tb5
      refine ⟨d, .ref q2, N, toldD (mkR T0), rfl, g5.nd, d5, (Shp.told _).sm, Nat.le_trans (Shp.told _).dep (by decide), fun v6 G6 u6 dv6 => ?_⟩
      rw [tw.tell] at dv6
      exact ne_same (Shp.told _) (by decide) (Dp.same u6 _ _ (Dp.ts e5.tups (told_noL _) d4)) dv6 ⟨_, rfl, iteF ⟨rfl, g5.same u6⟩⟩
    clear g
    rintro σ H13 ⟨rfl, g⟩
    refine ⟨fun σ H => σ = [some (.ref sc), some (.int c0), some (.ref p), some (.ref l), some (.ref d), some (.ref t), some (.ref o), v7, v8, v9, v10, v11, v12, v13] ∧ LW K a.T tP p L0 l d t o cells xs T0 N (mkR T0) (mkR (cs.map fun r => (nf N r.1, nf N r.2))) H, ?_, ?_⟩
    · refine ⟨_, rfl, o, _, rfl, g.oo, fun G1 u1 => ?_⟩
      have g1 := g.same u1
      refine ⟨_, rfl, t, _, rfl, g1.tt, fun G2 u2 => ⟨rfl, _, rfl, ?_⟩⟩
      have g2 := g1.same u2
      rw [tw.cnt, decide_eq_true rfl]
      refine iteF ⟨_, rfl, o, _, rfl, g2.oo, fun G3 u3 => ?_⟩
      have g3 := g2.same u3
      refine ⟨_, rfl, t, _, rfl, g3.tt, fun G4 u4 => ⟨rfl, _, rfl, ?_⟩⟩
      show if (!decide (V.bl (RC.groups (mkR (cs.map fun r => (nf N r.1, nf N r.2)))).isEmpty = V.bl (RC.groups (mkR T0)).isEmpty)) = true then _ else _
      rw [tw.fits, decide_eq_true rfl]
      exact iteF ⟨rfl, g3.same u4⟩
    clear g
    rintro σ H14 ⟨rfl, g⟩
    refine ⟨line_lit (n := 4) (by decide), fun L4 nL4 => ⟨L4, rfl, ⟨_, SqL.of upd_same⟩, ?_⟩⟩
    have eW : (upd H14 L4 (.lst [.str "abort", .str "fail", .str "ignore", .str "replace"])) L4 = some (.lst (rls.map fun r => V.str (rWord r))) := upd_same
    have g15 := g.same (Same.new (o := .lst [.str "abort", .str "fail", .str "ignore", .str "replace"]) nL4)
    have L4p : L4 ≠ p := pen_ne g.pen nL4
    generalize upd H14 L4 (.lst [.str "abort", .str "fail", .str "ignore", .str "replace"]) = H15 at *
    refine for_it (walk_list (xs := rls.map fun r => V.str (rWord r))) (fun i σ H => ∃ w7 w8 w9 w10 w11 w12 w13, σ = [some (.ref sc), some (.int c0), some (.ref p), some (.ref l), some (.ref d), some (.ref t), some (.ref o), w7, w8, w9, w10, w11, w12, w13] ∧ LW K a.T tP p L0 l d t o cells xs T0 N (mkR T0) (mkR (cs.map fun r => (nf N r.1, nf N r.2))) H ∧ H L4 = some (.lst (rls.map fun r => V.str (rWord r)))) ⟨v7, v8, v9, v10, v11, v12, v13, rfl, g15, eW⟩ (fun i σ H _ h => by
      obtain ⟨_, _, _, _, _, _, _, _, _, e⟩ := h
      exact SqL.of e) ?_ ?_
    rotate_left
    · rintro σ H ⟨w7, w8, w9, w10, w11, w12, w13, rfl, g, _⟩
      exact ⟨_, _, _, _, _, _, _, _, _, _, _, _, _, rfl, g.c0, g.tabs⟩
    clear g15 eW g
    rintro j x σ H Hj hj ⟨w7, w8, w9, w10, w11, w12, w13, rfl, g, eW⟩ ⟨rfl, hxj⟩
    obtain ⟨rl, rfl⟩ : ∃ rl : Rl, x = .str (rWord rl) := by
      rw [List.getElem?_map] at hxj
      cases hz : rls[j]? with
      | none => rw [hz] at hxj; cases hxj
      | some z => rw [hz] at hxj; exact ⟨z, (Option.some.inj hxj).symm⟩
    have hxl : xs.length = T0.length := by rw [dpAll_len g.dp, List.length_map]
    have hT30 := ri.len
    refine ⟨_, rfl, rl, rfl, fun b dxb G1 u1 hb => ?_⟩
    have g1 := g.same u1
    have bp : b ≠ p := g1.pen.ne hb fun _ _ _ z => by cases z
    refine ⟨_, rfl, _, rfl, l, rfl, ⟨_, SqL.of g1.l_⟩, fun D nD => ?_⟩
    refine lc_it (walk_list (xs := xs)) (fun i H2 => Same G1 H2 ∧ H2 D = some (.lst (iv ((T0.map (·.1)).take i)))) ⟨Same.new nD, upd_same⟩ (fun i H2 _ h => SqL.of (h.1 _ _ g1.l_)) ?_ ?_
    · rintro i x H2 H2' hi ⟨s2, hD2⟩ ⟨rfl, hxi⟩
      obtain ⟨u, k, n, hR, rfl, hu2⟩ := pair_at (DpAll.same s2 _ _ g1.dp) hxi
      refine ⟨u, _, rfl, hu2, rfl, _, _, rfl, _, _, rfl, rfl, rfl, yes_if ⟨_, rfl, _, hD2, ?_, s2.up nD, ?_⟩⟩
      · rw [iv_len, List.length_take, List.length_map]
        exact small1000 (by omega)
      · have hk2 : (T0.map (·.1))[i]? = some k := by rw [List.getElem?_map, hR]; rfl
        rw [upd_same, take_snoc hk2, ← iv_snoc]
    rintro G2 ⟨u2, hD⟩
    rw [hxl, List.take_of_length_le (by rw [List.length_map]; exact Nat.le_refl _)] at hD
    have g2 := g1.same u2
    refine ⟨Int, PyData.int, p, D, _, T0.map (·.1), rfl, g2.pen, pen_ne g1.pen nD, hD, dp_ints _, fun _ => rfl, fun _ => rfl, fun _ => by simp [PyData.depth], by rw [List.length_map]; omega, fun qo yo o' G3 permO hdO hqo pn3 fqo => ?_⟩
    obtain rfl := dp_ints_inv hdO
    have g3 := g2.pn pn3
    refine ⟨qo, _, rfl, .inl ⟨SqL.of hqo, fun ot not_ => ⟨_, _, rfl, ?_⟩⟩⟩
    have perm2 : o'.Perm (RC.keys (mkR T0)) := permO.trans ((mkR_perm T0).map _)
    obtain ⟨to1, to2, to3⟩ := tw.ord o' perm2
    obtain ⟨k1, k2, k3, k4, k5⟩ := to3 rl
    have u4 : Same G3 (upd G3 ot (.tup (iv o'))) := Same.new not_
    have hb4 := u4 _ _ (pn3.k _ _ (u2 _ _ hb) bp)
    have g4 := g3.same u4
    have eW4 := u4 _ _ (pn3.k _ _ (u2 _ _ (u1 _ _ eW)) L4p)
    have hot : (upd G3 ot (.tup (iv o'))) ot = some (.tup (iv o')) := upd_same
    generalize upd G3 ot (.tup (iv o')) = G4 at *
    refine ⟨_, rfl, b, rl, dxb, rfl, _, rfl, _, rfl, hb4, b, dxb, t, ot, mkR T0, o', rfl, hb4, g4.tt, .inl (.inl hot), perm2, fun q1 G5 u5 out1 => ?_⟩
    have g5 := g4.same u5
    refine ⟨_, rfl, b, rl, dxb, rfl, _, rfl, _, rfl, _, rfl, d, .ref ot, N, tupD o', rfl, g5.nd, .tup (.inl (.inl (u5 _ _ hot))) (dp_ints _), tup_sm _, Nat.le_trans (tup_d1 _) (by decide), fun v6 G6 u6 dv6 => ?_⟩
    rw [to1] at dv6
    have g6 := g5.same u6
    have hb6 := u6 _ _ (u5 _ _ hb4)
    cases dv6 with
    | @tup pw2 ys2 ds2 hw1 hw2 =>
    obtain rfl := dp_ints_inv hw2
    refine ⟨hb6, b, dxb, o, pw2, _, _, rfl, hb6, g6.oo, hw1, to2, fun q2 G7 u7 out2 => ⟨_, _, rfl, ?_⟩⟩
    have g7 := g6.same u7
    have o1 := out1.same (u6.trans u7)
    have eW7 := u7 _ _ (u6 _ _ (u5 _ _ eW4))
    clear hb6 hb4 hb u4 u5 u6 u7 out1 hw1 g g1 g2 g3 g4 g5 g6 eW eW4 hqo hdO
    obtain ⟨dx2, tp2, a1, a2, a3, e2, _⟩ := id out2.ex
    refine ⟨_, rfl, q2, dx2, _, rfl, e2, q2, _, _, rfl, out2, fun s2 ds2 => ⟨_, rfl, q2, dx2, _, rfl, e2, q2, _, _, rfl, out2, fun n2 dn2 => ⟨_, rfl, q2, dx2, _, rfl, e2, q2, _, _, rfl, out2, fun h2 G8 u8 dh2 => ⟨line_lit (n := 3) (by decide), fun z2 nz2 => ?_⟩⟩⟩⟩
    have u9 : Same G8 (upd G8 z2 (.tup [s2, n2, .ref h2])) := Same.new nz2
    have hz2 : (upd G8 z2 (.tup [s2, n2, .ref h2])) z2 = some (.tup [s2, n2, .ref h2]) := upd_same
    generalize upd G8 z2 (.tup [s2, n2, .ref h2]) = G9 at *
    have u79 := u8.trans u9
    have g9 := g7.same u79
    have o1' := o1.same u79
    obtain ⟨dx1, tp1, b1, b2, b3, e1, _⟩ := id o1'.ex
    refine ⟨_, rfl, _, rfl, q1, dx1, _, rfl, e1, q1, _, _, rfl, o1', fun s1 ds1 => ⟨_, rfl, q1, dx1, _, rfl, e1, q1, _, _, rfl, o1', fun n1 dn1 => ⟨_, rfl, q1, dx1, _, rfl, e1, q1, _, _, rfl, o1', fun h1 G10 u10 dh1 => ⟨line_lit (n := 3) (by decide), fun z1 nz1 => ?_⟩⟩⟩⟩
    have u11 : Same G10 (upd G10 z1 (.tup [s1, n1, .ref h1])) := Same.new nz1
    have hz1 : (upd G10 z1 (.tup [s1, n1, .ref h1])) z1 = some (.tup [s1, n1, .ref h1]) := upd_same
    generalize upd G10 z1 (.tup [s1, n1, .ref h1]) = G11 at *
    have u911 := u10.trans u11
    have g11 := g9.same u911
    refine ⟨d, .ref z1, N, .tuple [stopD _, endsD _, tupD _], rfl, g11.nd, .tup (.inl (.inl hz1)) (.cons (Dp.same u911 _ _ ds1) (.cons (Dp.same u911 _ _ dn1) (.cons (Dp.same u11 _ _ dh1) .nil))), (sh3 _ _ _).sm, Nat.le_trans (sh3 _ _ _).dep (by decide), fun v12 G12 u12 dv12 => ?_⟩
    rw [nm_tuple, nmA_cons, nmA_cons, nmA_cons, nmA_nil, k1, k2, k3] at dv12
    have u912 := u911.trans u12
    refine ne_same (sh3 _ _ _) (by decide) (.tup (.inl (.inl (u912 _ _ hz2))) (.cons (Dp.same (u79.trans u912) _ _ ds2) (.cons (Dp.same (u79.trans u912) _ _ dn2) (.cons (Dp.same (u9.trans u912) _ _ dh2) .nil)))) dv12 ⟨_, rfl, iteF ?_⟩
    have g12 := g11.same u12
    have out3 := out2.same (u79.trans u912)
    have o3 := o1'.same u912
    have eW12 := u912 _ _ (u79 _ _ eW7)
    clear eW7 g7 g9 g11 out2 o1 o1' e1 e2 ds2 dn2 dh2 ds1 dn1 dh1 dv12 hz1 hz2 u8 u9 u79 u10 u11 u911 u912 u12
    obtain ⟨dx3, tp3, a4, a5, a6, e3, _⟩ := id out3.ex
    refine ⟨_, rfl, q2, dx3, _, rfl, e3, q2, _, _, rfl, out3, fun m2 I1 u1 dm2 => ⟨_, rfl, q2, dx3, _, rfl, u1 _ _ e3, q2, _, _, rfl, out3.same u1, fun l2 I2 u2 dl2 => ⟨line_lit (n := 2) (by decide), fun z2 nz2 => ?_⟩⟩⟩
    have u3 : Same I2 (upd I2 z2 (.tup [.ref m2, .ref l2])) := Same.new nz2
    have hz2 : (upd I2 z2 (.tup [.ref m2, .ref l2])) z2 = some (.tup [.ref m2, .ref l2]) := upd_same
    generalize upd I2 z2 (.tup [.ref m2, .ref l2]) = I3 at *
    have u13 := (u1.trans u2).trans u3
    have g13 := g12.same u13
    have o4 := o3.same u13
    obtain ⟨dx4, tp4, b4, b5, b6, e4, _⟩ := id o4.ex
    refine ⟨_, rfl, _, rfl, q1, dx4, _, rfl, e4, q1, _, _, rfl, o4, fun m1 I4 u4 dm1 => ⟨_, rfl, q1, dx4, _, rfl, u4 _ _ e4, q1, _, _, rfl, o4.same u4, fun l1 I5 u5 dl1 => ⟨line_lit (n := 2) (by decide), fun z1 nz1 => ?_⟩⟩⟩
    have u6 : Same I5 (upd I5 z1 (.tup [.ref m1, .ref l1])) := Same.new nz1
    have hz1 : (upd I5 z1 (.tup [.ref m1, .ref l1])) z1 = some (.tup [.ref m1, .ref l1]) := upd_same
    generalize upd I5 z1 (.tup [.ref m1, .ref l1]) = I6 at *
    have u46 := (u4.trans u5).trans u6
    have g14 := g13.same u46
    refine ⟨d, .ref z1, N, .tuple [tupD _, tupD _], rfl, g14.nd, .tup (.inl (.inl hz1)) (.cons (Dp.same (u5.trans u6) _ _ dm1) (.cons (Dp.same u6 _ _ dl1) .nil)), (sh2 _ _).sm, Nat.le_trans (sh2 _ _).dep (by decide), fun v7 I7 u7 dv7 => ?_⟩
    rw [nm_tuple, nmA_cons, nmA_cons, nmA_nil, k4, k5] at dv7
    have u37 := u46.trans u7
    refine ne_same (sh2 _ _) (by decide) (.tup (.inl (.inl (u37 _ _ hz2))) (.cons (Dp.same ((u2.trans u3).trans u37) _ _ dm2) (.cons (Dp.same (u3.trans u37) _ _ dl2) .nil))) dv7 ⟨_, rfl, iteF ?_⟩
    exact ⟨_, _, _, _, _, _, _, rfl, g14.same u7, (u13.trans u37) _ _ eW12⟩
end
end RcX
end
section
set_option Elab.async false
set_option linter.all false
set_option maxRecDepth 100000
set_option maxHeartbeats 4000000
namespace RcX
open PySem PySem.Spec PyProof.Rows L2
open RC (Rl)
open He (ga ma eqO ba eqO_ok)
/-! ### the facts, from what the head says -/
theorem fn_of_see {K : PySem.W.Frag} {d : DefA} (hs : seeY K (d.at_ K) = d.said) (hg : d.good K = true) (hc : d.clo = []) : FnAt K d.name d.qual d.st (d.at_ K) := by
  obtain ⟨kp, h2⟩ := ba hg
  unfold seeY at hs
  unfold goodY at h2
  cases hl : K.lookup (d.at_ K) with
  | none => rw [hl] at h2; cases h2
  | some o =>
    obtain ⟨oc, od, dt, sl⟩ := o
    rw [hl] at hs h2
    cases dt with
    | func fd =>
      obtain ⟨x1, x2, x3, x4, x5, x6, x7, x8, x9, x10, x11, x12, x13, x14, x15⟩ := fd
      have hz : (some (x1, x2, x3, x4, x5, x6, x7.map (·.1), x15) : FnY) = some (d.name, d.qual, defArgs d.st, .stmts (defBody d.st), defScope d.st, mainGlobals, d.clo, builtinsNs) := hs
      simp only [Option.some.injEq, Prod.mk.injEq] at hz
      obtain ⟨y1, y2, y3, y4, y5, y6, y7, y8⟩ := hz
      rw [hc, List.map_eq_nil_iff] at y7
      subst y1 y2 y3 y4 y5 y6 y7 y8
      obtain ⟨z1, z2⟩ := ba (show (PySem.W.codeIn K x13 d.qual && isNone x8) = true from h2)
      have hx8 : x8 = .none := by cases x8 <;> first | rfl | cases z2
      exact ⟨_, ⟨⟨oc, od, x8, x9, x10, x11, x12, x13, x14, sl, rfl, hl, z1, .inl ⟨rfl, hx8⟩, .inl rfl⟩, kp⟩⟩
    | _ => cases h2
theorem at_ {α : Type} {l : List α} {x : α} (i : Nat) (h : l[i]? = some x) : x ∈ l := List.mem_of_getElem? h
def adsK (K : PySem.W.Frag) : Ads := ⟨ga K "Table", ga K "Outcome", ga K "Rule"⟩
def rcK (K : PySem.W.Frag) (r : Rl) : Addr := ga K (rName r)
section
variable {K : PySem.W.Frag} {h : Heap} {mg : Str → Option Value} {f : Fb}
theorem mGlo (hf : f ∈ fGlo) : f ∈ facts := List.mem_append_left _ (List.mem_append_left _ hf)
theorem mFree (hf : f ∈ fFree) : f ∈ facts := List.mem_append_left _ (List.mem_append_right _ (List.mem_append_left _ hf))
theorem mMeth (hf : f ∈ fMeth) : f ∈ facts := List.mem_append_left _ (List.mem_append_right _ (List.mem_append_right _ (List.mem_append_left _ hf)))
theorem mProp (hf : f ∈ fProp) : f ∈ facts := List.mem_append_left _ (List.mem_append_right _ (List.mem_append_right _ (List.mem_append_right _ hf)))
theorem mCls (hf : f ∈ fCls) : f ∈ facts := List.mem_append_right _ (List.mem_append_left _ hf)
theorem mGlC (hf : f ∈ fGlC) : f ∈ facts := List.mem_append_right _ (List.mem_append_right _ (List.mem_append_left _ hf))
theorem mBare (hf : f ∈ fBare) : f ∈ facts := List.mem_append_right _ (List.mem_append_right _ (List.mem_append_right _ (List.mem_append_left _ hf)))
theorem mWord (hf : f ∈ fWord) : f ∈ facts := List.mem_append_right _ (List.mem_append_right _ (List.mem_append_right _ (List.mem_append_right _ (List.mem_append_left _ hf))))
theorem mOne (hf : f ∈ fOne) : f ∈ facts := List.mem_append_right _ (List.mem_append_right _ (List.mem_append_right _ (List.mem_append_right _ (List.mem_append_right _ hf))))
theorem SaysY.one (c : SaysY h K) (i : Nat) {f : Fb} (hi : fOne[i]? = some f) : f K = true := c.fact f (mOne (at_ i hi))
theorem SaysY.wrd (c : SaysY h K) (i : Nat) {f : Fb} (hi : fWord[i]? = some f) : f K = true := c.fact f (mWord (at_ i hi))
theorem SaysY.glb (c : SaysY h K) (X : K.In h) (G : h.Ns mainGlobals mg) {r : Str × Nat} (hr : r ∈ hgl) : Glb K mg r.1 (topS r.2) := by
  have hm : (⟨fun K => ga K r.1, r.1, r.1, topS r.2, []⟩ : DefA) ∈ fnG := List.mem_map.mpr ⟨r, hr, rfl⟩
  have hm2 : (⟨fun K => ga K r.1, r.1, r.1, topS r.2, []⟩ : DefA) ∈ fnY := List.mem_append_left _ hm
  exact ⟨ga K r.1, fn_of_see (c.see _ (List.mem_append_left _ hm2)) (c.good _ hm2) rfl, He.glo_ok X G (c.fact _ (mGlo (List.mem_map.mpr ⟨r, hr, rfl⟩)))⟩
theorem SaysY.fre (c : SaysY h K) (X : K.In h) (G : h.Ns mainGlobals mg) {x : Str} (hx : x ∈ frees) : mg x = none := He.free_ok X G (c.fact _ (mFree (List.mem_map.mpr ⟨x, hx, rfl⟩)))
theorem SaysY.mtF (c : SaysY h K) {r : Str × Str × Str × Stmt} (hr : r ∈ ml) : FnAt K r.2.1 r.2.2.1 r.2.2.2 (ma K (ga K r.1) r.2.1) := by
  have hm : (⟨fun K => ma K (ga K r.1) r.2.1, r.2.1, r.2.2.1, r.2.2.2, []⟩ : DefA) ∈ fnY := List.mem_append_right _ (List.mem_append_left _ (List.mem_map.mpr ⟨r, hr, rfl⟩))
  exact fn_of_see (c.see _ (List.mem_append_left _ hm)) (c.good _ hm) rfl
theorem SaysY.own (c : SaysY h K) {r : Str × Str × Str × Stmt} (hr : r ∈ ml) : Own K (ga K r.1) r.2.1 (ma K (ga K r.1) r.2.1) := by
  obtain ⟨h1, h2⟩ := ba (c.fact _ (mMeth (List.mem_map.mpr ⟨r, hr, rfl⟩)))
  obtain ⟨h3, h4⟩ := ba h2
  exact ⟨eqO_ok h1, h3, h4⟩
theorem SaysY.mt (c : SaysY h K) {r : Str × Str × Str × Stmt} (hr : r ∈ ml) : MtA K (ga K r.1) r.2.1 r.2.2.1 r.2.2.2 := ⟨_, c.mtF hr, c.own hr⟩
theorem SaysY.callO (c : SaysY h K) {r : Str × Str × Str × Stmt} (hr : r ∈ ml) (e : r.2.1 = "__call__" := by rfl) : ∃ g, StX.CallO K (ga K r.1) g ∧ FnAt K r.2.1 r.2.2.1 r.2.2.2 g := by
  have o := c.own hr
  refine ⟨_, ⟨?_, o.hf, o.hi⟩, c.mtF hr⟩
  have := o.ha
  rwa [e] at this ⊢
theorem get_of {p : Addr} {t : String} (h : hasGet K p t = true) : ∃ rest, PySem.W.recIn K p t = some (.ref (getter K p t) :: rest) := by
  unfold hasGet at h
  unfold getter
  cases hr : PySem.W.recIn K p t with
  | none => rw [hr] at h; cases h
  | some l =>
    rw [hr] at h
    cases l with
    | nil => cases h
    | cons v vs =>
      cases v with
      | ref g => exact ⟨vs, rfl⟩
      | _ => cases h
theorem SaysY.pr (c : SaysY h K) {r : Str × Str × Str × Stmt} (hr : r ∈ pl) : ∃ p g, PropOf K (ga K r.1) r.2.1 p g ∧ FnAt K r.2.1 r.2.2.1 r.2.2.2 g := by
  have hm : (⟨fun K => getter K (ma K (ga K r.1) r.2.1) "property", r.2.1, r.2.2.1, r.2.2.2, []⟩ : DefA) ∈ fnY := List.mem_append_right _ (List.mem_append_right _ (List.mem_append_left _ (List.mem_map.mpr ⟨r, hr, rfl⟩)))
  obtain ⟨h1, h2⟩ := ba (c.fact _ (mProp (List.mem_map.mpr ⟨r, hr, rfl⟩)))
  obtain ⟨h3, h4⟩ := ba h2
  obtain ⟨h5, h6⟩ := ba h4
  exact ⟨_, _, ⟨eqO_ok h1, eqO_ok h3, of_decide_eq_true h5, get_of h6⟩, fn_of_see (c.see _ (List.mem_append_left _ hm)) (c.good _ hm) rfl⟩
theorem SaysY.cls (c : SaysY h K) {x : Str} (hx : x ∈ clNames ∨ x ∈ rlNames) : Cls K (ga K x) := He.cls_ok (c.fact _ (mCls (List.mem_map.mpr ⟨x, List.mem_append.mpr hx, rfl⟩)))
theorem SaysY.gc (c : SaysY h K) (X : K.In h) (G : h.Ns mainGlobals mg) {x : Str} (hx : x ∈ gcNames ∨ x ∈ rlNames ∨ x ∈ excNames) : mg x = some (.ref (ga K x)) :=
  He.glo_ok X G (c.fact _ (mGlC (List.mem_map.mpr ⟨x, List.mem_append.mpr (hx.imp id fun z => List.mem_append.mpr z), rfl⟩)))
theorem SaysY.bare (c : SaysY h K) {x : Str} (hx : x ∈ rlNames) : Bare K (ga K x) := by
  obtain ⟨h1, h2⟩ := ba (c.fact _ (mBare (List.mem_map.mpr ⟨x, hx, rfl⟩)))
  obtain ⟨h3, h4⟩ := ba h2
  exact ⟨h1, eqO_ok h3, h4⟩
theorem clsA_of {C : Addr} (z : clsAB K C = true) : PySem.W.findIn K (.ref C) "__class__" = some (some (.builtin "object.__class__")) ∧ PySem.W.specialIn K (.builtin "object.__class__") "__get__" = some (some (.builtin "getset_descriptor.__get__")) ∧
    PySem.W.takesIn K (.builtin "object.__class__") = some true ∧ PySem.W.mroIn K C (.type "object") = some true := by
  obtain ⟨h1, h2⟩ := ba z
  obtain ⟨h3, h4⟩ := ba h2
  obtain ⟨h5, h6⟩ := ba h4
  exact ⟨eqO_ok h1, eqO_ok h3, of_decide_eq_true h5, of_decide_eq_true h6⟩
theorem insT_of (c : SaysY h K) : C8.InsC K (ga K "Table") := by
  obtain ⟨h1, h2, h3, h4⟩ := clsA_of (c.one 2 rfl)
  exact ⟨c.cls (.inl (at_ 0 rfl)), h1, h2, h3, h4, of_decide_eq_true (c.one 3 rfl)⟩
theorem fnd_of {r : Option PySem.W.CFound} {q C : Addr} (z : fndB r q C = true) : r = some (.get (.builtin "staticmethod.__get__") (.ref q) .none (.ref C)) := by
  unfold fndB at z
  split at z
  · obtain ⟨h1, h2⟩ := ba z
    obtain ⟨h3, h4⟩ := ba h2
    rw [of_decide_eq_true h1, of_decide_eq_true h3, of_decide_eq_true h4]
  · cases z
theorem stat_of (c : SaysY h K) : ∃ g, Stat K (ga K "Rule") "named" g ∧ FnAt K "named" "Rule.named" (inC 75 1) g := by
  have hm : dNamed ∈ fnY := List.mem_append_right _ (List.mem_append_right _ (List.mem_append_right _ (List.mem_singleton.mpr rfl)))
  have hg := c.good _ hm
  obtain ⟨h1, h2⟩ := ba (show statB K (ga K "Rule") "named" = true from c.one 10 rfl)
  obtain ⟨h3, h4⟩ := ba h2
  obtain ⟨h5, h6⟩ := ba h4
  obtain ⟨h7, h8⟩ := ba h6
  obtain ⟨rest, hr⟩ := get_of h8
  exact ⟨_, ⟨eqO_ok h1, of_decide_eq_true h3, h5, ⟨_, rest, fnd_of h7, hr⟩, (ba hg).1⟩, fn_of_see (d := dNamed) (c.see _ (List.mem_append_left _ hm)) hg rfl⟩
theorem tx_of (c : SaysY h K) (X : K.In h) (G : h.Ns mainGlobals mg) : Tx K mg (adsK K) :=
  ⟨(c.fre X G (x := "isinstance") (at_ 0 rfl)),
    (c.fre X G (x := "int") (at_ 1 rfl)),
    (c.fre X G (x := "bool") (at_ 2 rfl)),
    (c.fre X G (x := "tuple") (at_ 3 rfl)),
    (c.fre X G (x := "list") (at_ 4 rfl)),
    (c.fre X G (x := "len") (at_ 5 rfl)),
    (c.fre X G (x := "all") (at_ 6 rfl)),
    (c.fre X G (x := "sorted") (at_ 7 rfl)),
    (c.fre X G (x := "min") (at_ 8 rfl)),
    (c.fre X G (x := "max") (at_ 9 rfl)),
    (c.fre X G (x := "range") (at_ 10 rfl)),
    (c.fre X G (x := "enumerate") (at_ 11 rfl)),
    (c.fre X G (x := "set") (at_ 12 rfl)),
    (He.int_ok X G (c.one 0 rfl)),
    (He.int_ok X G (c.one 1 rfl)),
    (insT_of c),
    (He.noat_ok (c.one 4 rfl)),
    (c.gc X G (x := "Table") (.inl (at_ 0 rfl))),
    (of_decide_eq_true (c.one 5 rfl)),
    (c.glb X G (r := ("is_integer", 31)) (at_ 0 rfl)),
    (c.glb X G (r := ("is_key", 32)) (at_ 1 rfl)),
    (c.mt (r := ("Table", "__contains__", "Table.__contains__", inC 37 4)) (at_ 0 rfl)),
    (c.mt (r := ("Table", "__getitem__", "Table.__getitem__", inC 37 2)) (at_ 1 rfl)),
    (c.mt (r := ("Table", "__len__", "Table.__len__", inC 37 6)) (at_ 2 rfl)),
    (c.glb X G (r := ("waited", 46)) (at_ 10 rfl)),
    (c.pr (r := ("Table", "rows", "Table.rows", inC 37 1)) (at_ 0 rfl)),
    (c.glb X G (r := ("keys_of", 38)) (at_ 5 rfl)),
    (c.glb X G (r := ("need_table", 39)) (at_ 6 rfl)),
    (c.glb X G (r := ("need_row", 40)) (at_ 7 rfl)),
    (c.glb X G (r := ("path_of", 47)) (at_ 11 rfl)),
    (c.glb X G (r := ("end_of", 48)) (at_ 12 rfl)),
    (c.glb X G (r := ("path", 49)) (at_ 13 rfl)),
    (c.glb X G (r := ("rings_of", 50)) (at_ 14 rfl)),
    (c.glb X G (r := ("rings", 51)) (at_ 15 rfl)),
    (c.glb X G (r := ("by_new", 52)) (at_ 16 rfl)),
    (c.glb X G (r := ("groups_of", 53)) (at_ 17 rfl)),
    (c.glb X G (r := ("groups", 54)) (at_ 18 rfl)),
    (c.glb X G (r := ("trees_of", 55)) (at_ 19 rfl)),
    (c.glb X G (r := ("trees", 56)) (at_ 20 rfl)),
    (c.glb X G (r := ("waiting_for", 57)) (at_ 21 rfl)),
    (c.glb X G (r := ("need_no_pair", 59)) (at_ 22 rfl)),
    (c.glb X G (r := ("need_no_ring", 60)) (at_ 23 rfl)),
    (c.glb X G (r := ("ready", 61)) (at_ 24 rfl)),
    (c.glb X G (r := ("first_order", 62)) (at_ 25 rfl)),
    (c.glb X G (r := ("verdict", 63)) (at_ 26 rfl)),
    (c.glb X G (r := ("is_free_of", 64)) (at_ 27 rfl)),
    (c.glb X G (r := ("factorial", 65)) (at_ 28 rfl)),
    (c.glb X G (r := ("chains_of", 66)) (at_ 29 rfl)),
    (c.glb X G (r := ("orders_of", 67)) (at_ 30 rfl)),
    (c.glb X G (r := ("passing_orders", 68)) (at_ 31 rfl)),
    (c.glb X G (r := ("fits_at_end", 69)) (at_ 32 rfl)),
    (c.glb X G (r := ("stages", 70)) (at_ 33 rfl)),
    (c.glb X G (r := ("is_row", 33)) (at_ 2 rfl))⟩
theorem tt_of (c : SaysY h K) (X : K.In h) (G : h.Ns mainGlobals mg) : Tt K mg (adsK K) :=
  ⟨tx_of c X G,
    (c.glb X G (r := ("checked_rows", 35)) (at_ 3 rfl)),
    (c.glb X G (r := ("more_rows", 36)) (at_ 4 rfl)),
    (c.glb X G (r := ("is_order", 43)) (at_ 8 rfl)),
    (c.glb X G (r := ("need_order", 44)) (at_ 9 rfl)),
    ⟨_, He.mkr_ok (c.one 6 rfl), (c.mtF (r := ("Table", "__init__", "Table.__init__", inC 37 0)) (at_ 4 rfl))⟩,
    (c.mt (r := ("Table", "__add__", "Table.__add__", inC 37 9)) (at_ 3 rfl)),
    (c.one 7 rfl)⟩
theorem rl_abort (c : SaysY h K) (X : K.In h) (G : h.Ns mainGlobals mg) : RlT K mg .abort (rcK K .abort) :=
  ⟨(c.mt (r := ("Abort", "halts", "Stops.halts", inC 76 0)) (at_ 6 rfl)),
    (c.mt (r := ("Abort", "settle", "Undoes.settle", inC 78 0)) (at_ 7 rfl)),
    (c.callO (r := ("Abort", "__call__", "Rule.__call__", inC 75 4)) (at_ 8 rfl)),
    (c.bare (x := "Abort") (at_ 0 rfl)),
    (c.cls (x := "Abort") (.inr (at_ 0 rfl))),
    (c.gc X G (x := "Abort") (.inr (.inl (at_ 0 rfl)))),
    (He.conB_ok (c.wrd 0 rfl))⟩
theorem rl_fail (c : SaysY h K) (X : K.In h) (G : h.Ns mainGlobals mg) : RlT K mg .fail (rcK K .fail) :=
  ⟨(c.mt (r := ("Fail", "halts", "Stops.halts", inC 76 0)) (at_ 9 rfl)),
    (c.mt (r := ("Fail", "settle", "Leaves.settle", inC 79 0)) (at_ 10 rfl)),
    (c.callO (r := ("Fail", "__call__", "Rule.__call__", inC 75 4)) (at_ 11 rfl)),
    (c.bare (x := "Fail") (at_ 1 rfl)),
    (c.cls (x := "Fail") (.inr (at_ 1 rfl))),
    (c.gc X G (x := "Fail") (.inr (.inl (at_ 1 rfl)))),
    (He.conB_ok (c.wrd 1 rfl))⟩
theorem rl_ignore (c : SaysY h K) (X : K.In h) (G : h.Ns mainGlobals mg) : RlT K mg .ignore (rcK K .ignore) :=
  ⟨(c.mt (r := ("Ignore", "halts", "Continues.halts", inC 77 0)) (at_ 12 rfl)),
    (c.mt (r := ("Ignore", "settle", "Leaves.settle", inC 79 0)) (at_ 13 rfl)),
    (c.callO (r := ("Ignore", "__call__", "Rule.__call__", inC 75 4)) (at_ 14 rfl)),
    (c.bare (x := "Ignore") (at_ 2 rfl)),
    (c.cls (x := "Ignore") (.inr (at_ 2 rfl))),
    (c.gc X G (x := "Ignore") (.inr (.inl (at_ 2 rfl)))),
    (He.conB_ok (c.wrd 2 rfl))⟩
theorem rl_replace (c : SaysY h K) (X : K.In h) (G : h.Ns mainGlobals mg) : RlT K mg .replace (rcK K .replace) :=
  ⟨(c.mt (r := ("Replace", "halts", "Continues.halts", inC 77 0)) (at_ 15 rfl)),
    (c.mt (r := ("Replace", "settle", "Removes.settle", inC 80 0)) (at_ 16 rfl)),
    (c.callO (r := ("Replace", "__call__", "Rule.__call__", inC 75 4)) (at_ 17 rfl)),
    (c.bare (x := "Replace") (at_ 3 rfl)),
    (c.cls (x := "Replace") (.inr (at_ 3 rfl))),
    (c.gc X G (x := "Replace") (.inr (.inl (at_ 3 rfl)))),
    (He.conB_ok (c.wrd 3 rfl))⟩
theorem tr_of (c : SaysY h K) (X : K.In h) (G : h.Ns mainGlobals mg) : Tr K mg (adsK K) (rcK K) :=
  ⟨tt_of c X G,
    (fun r => match r with | .abort => rl_abort c X G | .fail => rl_fail c X G | .ignore => rl_ignore c X G | .replace => rl_replace c X G),
    (c.fre X G (x := "str") (at_ 13 rfl)),
    (c.glb X G (r := ("holder_of", 74)) (at_ 34 rfl)),
    (c.gc X G (x := "Outcome") (.inl (at_ 1 rfl))),
    ⟨_, He.mkr_ok (c.one 8 rfl), (c.mtF (r := ("Outcome", "__init__", "Outcome.__init__", inC 72 0)) (at_ 5 rfl))⟩,
    (c.cls (x := "Outcome") (.inl (at_ 1 rfl))),
    (He.noat_ok (c.one 9 rfl)),
    (c.pr (r := ("Outcome", "stop", "Outcome.stop", inC 72 2)) (at_ 1 rfl)),
    (c.pr (r := ("Outcome", "ends", "Outcome.ends", inC 72 3)) (at_ 2 rfl)),
    (c.pr (r := ("Outcome", "moved", "Outcome.moved", inC 72 4)) (at_ 3 rfl)),
    (c.pr (r := ("Outcome", "left", "Outcome.left", inC 72 5)) (at_ 4 rfl)),
    (c.pr (r := ("Outcome", "held", "Outcome.held", inC 72 6)) (at_ 5 rfl)),
    (c.gc X G (x := "Rule") (.inl (at_ 2 rfl))),
    (stat_of c)⟩
theorem tl_of (c : SaysY h K) (X : K.In h) (G : h.Ns mainGlobals mg) : Tl K mg :=
  ⟨(c.glb X G (r := ("_law_cell_at", 86)) (at_ 35 rfl)),
    (c.glb X G (r := ("_law_pen", 87)) (at_ 36 rfl)),
    (c.glb X G (r := ("_law_draw", 88)) (at_ 37 rfl)),
    (c.glb X G (r := ("_law_pick", 89)) (at_ 38 rfl)),
    (c.glb X G (r := ("_law_mixed", 90)) (at_ 39 rfl)),
    (c.glb X G (r := ("_law_pairs", 91)) (at_ 40 rfl)),
    (c.glb X G (r := ("_law_named", 94)) (at_ 43 rfl)),
    (c.glb X G (r := ("_law_names", 95)) (at_ 44 rfl))⟩
theorem said_of (c : SaysY h K) (X : K.In h) (G : h.Ns mainGlobals mg) : Glb K mg "_law_said" (topS 93) := (c.glb X G (r := ("_law_said", 93)) (at_ 42 rfl))
theorem word_of (c : SaysY h K) (X : K.In h) (G : h.Ns mainGlobals mg) : Glb K mg "_law_word" (topS 92) := (c.glb X G (r := ("_law_word", 92)) (at_ 41 rfl))
theorem told_at (c : SaysY h K) (X : K.In h) (G : h.Ns mainGlobals mg) : Glb K mg "_law_told" (topS 96) := (c.glb X G (r := ("_law_told", 96)) (at_ 45 rfl))
theorem law_at (c : SaysY h K) (X : K.In h) (G : h.Ns mainGlobals mg) : Glb K mg "law" (topS 97) := (c.glb X G (r := ("law", 97)) (at_ 46 rfl))
theorem sup_of (c : SaysY h K) (X : K.In h) (G : h.Ns mainGlobals mg) : mg "super" = none := (c.fre X G (x := "super") (at_ 14 rfl))
theorem ve_of (c : SaysY h K) (X : K.In h) (G : h.Ns mainGlobals mg) : mg "ValueError" = none := (c.fre X G (x := "ValueError") (at_ 15 rfl))
/-! the own exceptions -/
theorem oex_of {C : Addr} (z : oexB K C = true) (z2 : oexB2 K C = true) : OexC K C := by
  obtain ⟨h1, h2⟩ := ba z2
  obtain ⟨h3, h4⟩ := ba h2
  obtain ⟨h5, h6⟩ := ba h4
  refine ⟨?_, eqO_ok h1, of_decide_eq_true h3, of_decide_eq_true h5, h6⟩
  unfold oexB at z
  split at z
  · rename_i t dd cd sl hl
    obtain ⟨e1, z⟩ := ba z
    split at z
    · rename_i C' bm k0 k1 k2 k3 n k5 hm hs
      obtain ⟨e2, z⟩ := ba z
      obtain ⟨e3, z⟩ := ba z
      obtain ⟨e4, z⟩ := ba z
      obtain ⟨e5, e6⟩ := ba z
      obtain ⟨y1, y2, y3, y4, y5, y6, y7, y8, y9, y10, y11⟩ := cd
      obtain ⟨ls⟩ := sl
      have e1' := of_decide_eq_true e1
      have e2' := of_decide_eq_true e2
      have e3' := of_decide_eq_true e3
      have e4' : y6 = true := e4
      have e5' : y11 = false := by
        cases y11 with
        | false => rfl
        | true => cases e5
      have hm' : y3 = Value.ref C' :: bm := hm
      have hs' : ls = [k0, k1, k2, k3, some (Value.builtin n), k5] := hs
      subst e1' e3' e4' e5' hm' hs'
      rw [e2'] at hl
      exact ⟨y1, y5, y4, y2, bm, y7, y8, y9, y10, dd, k0, k1, k2, k3, k5, hl, e6⟩
    · cases z
  · cases z
theorem excK_of {P : Program} {C : Addr} {q f : Str} {st : Stmt} (hs : seeY K (ma K C "__init__") = some (("__init__" : Str), q, defArgs st, FuncBody.stmts (defBody st), defScope st, mainGlobals, (["__class__"] : List Str), builtinsNs)) (z : excKB K C q f = true)
    (hP : P.main.file = fileP) (top : (P.main.scope.names.lookup ("super" : Str)).isSome = false) (mgS : mg "super" = none) : ∃ fI, ExcK P K mg C fI q st f := by
  obtain ⟨z1, z⟩ := ba z
  obtain ⟨z2, z⟩ := ba z
  obtain ⟨z3, z⟩ := ba z
  obtain ⟨z4, z⟩ := ba z
  obtain ⟨z5, z⟩ := ba z
  obtain ⟨z6, z⟩ := ba z
  obtain ⟨z7, z⟩ := ba z
  obtain ⟨z8, z⟩ := ba z
  obtain ⟨z9, z10⟩ := ba z
  refine ⟨ma K C "__init__", oex_of z1 z2, ?_, eqO_ok z4, of_decide_eq_true z5, eqO_ok z6, of_decide_eq_true z7, of_decide_eq_true z8, eqO_ok z9, eqO_ok z10, top, mgS⟩
  unfold cloB at z3
  unfold seeY at hs
  cases hl : K.lookup (ma K C "__init__") with
  | none => rw [hl] at hs; cases hs
  | some o =>
    obtain ⟨oc, od, dt, sl⟩ := o
    rw [hl] at hs z3
    cases dt with
    | func fd =>
      obtain ⟨x1, x2, x3, x4, x5, x6, x7, x8, x9, x10, x11, x12, x13, x14, x15⟩ := fd
      have hz : (some (x1, x2, x3, x4, x5, x6, x7.map (·.1), x15) : FnY) = some (("__init__" : Str), q, defArgs st, FuncBody.stmts (defBody st), defScope st, mainGlobals, (["__class__"] : List Str), builtinsNs) := hs
      simp only [Option.some.injEq, Prod.mk.injEq] at hz
      obtain ⟨y1, y2, y3, y4, y5, y6, y7, y8⟩ := hz
      subst y1 y2 y3 y4 y5 y6 y8
      obtain ⟨w1, w2⟩ := ba (show (isNone x8 && cloB2 K x13 x7 C x2) = true from z3)
      clear z3 hs
      have hx8 : x8 = .none := by cases x8 <;> first | rfl | cases w1
      unfold cloB2 at w2
      split at w2
      · rename_i cda nmm cc
        obtain ⟨v1, v2⟩ := ba w2
        obtain ⟨v3, v4⟩ := ba v2
        split at v3
        · rename_i ccl cdd vs ccs hcl
          split at v3
          · rename_i file tf hv
            split at v4
            · rename_i cl cld C' csl hcc
              have hC : C' = C := of_decide_eq_true v4
              have hn : nmm = "__class__" := by
                have : [nmm] = [("__class__" : Str)] := y7
                exact List.head_eq_of_cons_eq this
              subst hx8 hn
              rw [hC] at hcc
              exact ⟨oc, od, x9, x10, x11, x12, x14, sl, cc, cda, ccl, cdd, vs, ccs, file, tf, cl, cld, csl, rfl, v1, hcl, hv, by rw [hP]; exact v3, hcc⟩
            · cases v4
          · cases v3
        · cases v3
      · cases w2
    | _ => cases hs
theorem te_of {P : Program} (c : SaysY h K) (X : K.In h) (G : h.Ns mainGlobals mg) (hP : P.main.file = fileP) (top : (P.main.scope.names.lookup ("super" : Str)).isSome = false) : Te P K mg (ga K "Competing") (ga K "Ringed") :=
  ⟨excK_of (c.see dComp (List.mem_append_right _ (at_ 0 rfl))) (c.one 11 rfl) hP top (sup_of c X G), excK_of (c.see dRing (List.mem_append_right _ (at_ 1 rfl))) (c.one 12 rfl) hP top (sup_of c X G),
    c.gc X G (x := "Competing") (.inr (.inr (at_ 22 rfl))), c.gc X G (x := "Ringed") (.inr (.inr (at_ 23 rfl)))⟩
theorem exc_of {D : Addr} (z : excCB K D = true) : ExcC K D ∧ XfC K D := by
  obtain ⟨h1, h2⟩ := ba z
  have f := xfB_ok h1
  obtain ⟨h3, h4, h5, h6⟩ := clsA_of h2
  exact ⟨⟨f.ga, f.gg, f.exC, f.hdC, h3, h4, h5, h6⟩, f⟩
theorem xd_of {D : Addr} {nm : Str} (z : excCB K D = true) (z2 : kitB27 K D nm = true) : Xd K (fun x => ga K x) D nm := by
  obtain ⟨h1, h2⟩ := ba z2
  exact ⟨(exc_of z).1, fun x hx => of_decide_eq_true (List.all_eq_true.mp h1 x hx), of_decide_eq_true h2⟩
theorem xs_of (c : SaysY h K) (X : K.In h) (G : h.Ns mainGlobals mg) (nC : PySem.W.findIn K (.ref (ga K "Competing")) "pair" = some none) (nR : PySem.W.findIn K (.ref (ga K "Ringed")) "ring" = some none) : Xs K mg (fun x => ga K x) (ga K "Competing") (ga K "Ringed") (ga K "RowError") :=
  ⟨⟨fun x hx => c.gc X G (.inr (.inr hx)), ve_of c X G, word_of c X G⟩, xd_of (c.one 13 rfl) (c.one 15 rfl), xd_of (c.one 14 rfl) (c.one 16 rfl), (exc_of (c.one 13 rfl)).2, (exc_of (c.one 14 rfl)).2, nC, nR, He.exm_ok (c.one 17 rfl), He.exm_ok (c.one 18 rfl), c.gc X G (x := "RowError") (.inl (at_ 3 rfl))⟩
theorem tm_of (c : SaysY h K) (X : K.In h) (G : h.Ns mainGlobals mg) : Tm K mg (He.cT K ("_law_told", none)).1 := by
  refine ⟨said_of c X G, ?_⟩
  obtain ⟨f, ⟨fd, F⟩, hm⟩ := told_at c X G
  obtain ⟨oc, od, dV, kV, doc, pm, an, cdv, ct, osl, rfl, lk, hcd, hD, _⟩ := F.ex
  have hf : ga K "_law_told" = f := by
    unfold ga
    have h1 := c.fact _ (mGlo (List.mem_map.mpr ⟨("_law_told", 96), at_ 45 rfl, rfl⟩))
    have h2 := He.glo_ok X G h1
    have h3 := hm.symm.trans h2
    cases h3; rfl
  have hdV : dV = .none := by
    rcases hD with ⟨_, e⟩ | ⟨e, _⟩
    · exact e
    · exact absurd rfl e
  subst hdV
  obtain ⟨cc, rfl⟩ := He.codeIn_ref hcd
  have hc : He.codeOf K ("_law_told", none) = cc := He.codeOf_eq (p := ("_law_told", none)) (by show K.lookup (ga K "_law_told") = _; rw [hf]; exact lk) rfl
  refine ⟨f, oc, od, kV, doc, pm, an, ct, osl, ?_, ?_, F.kp, hm⟩
  · show K.lookup f = _
    rw [show (He.cT K ("_law_told", none)).1 = cc from hc]
    exact lk
  · rw [show (He.cT K ("_law_told", none)).1 = cc from hc]
    exact hcd
end
end RcX
end
section
set_option Elab.async false
set_option linter.all false
set_option maxRecDepth 100000
set_option maxHeartbeats 4000000
namespace RcX
open PySem PySem.Spec PyProof.Rows L2
open He (ga ma)
section
variable {w : World} {K : PySem.W.Frag} {h : Heap} {mg : Str → Option Value} {fa : Addr}
theorem law_facts (X : K.In h) (G : h.Ns mainGlobals mg) (hfa : mg ("law" : Str) = some (.ref fa)) (c : SaysY h K) : LamX.LawAtS PySem.Challenge.rw_rowclash_k15_whole_keys_renamed w K CX0 16 63 "_law_script" mg fa h := by
  obtain ⟨f, ⟨fd, F⟩, hm⟩ := law_at c X G
  have e := hfa.symm.trans hm
  cases e
  have b := FunD.bindsA (ps := ["_law_script"]) F fun _ _ _ _ _ _ us hl => match us, hl with | [_], _ => rfl
  have Z := te_of (P := PySem.Challenge.pw_rowclash_k15_whole_keys_renamed) c X G rfl (by decide +kernel)
  obtain ⟨_, eC⟩ := Z.c
  obtain ⟨_, eR⟩ := Z.r
  refine ⟨fd, [He.cT K ("_law_told", none)], spLaw K (He.cT K ("_law_told", none)).2, fun p hp => ?_, fun p hp => ?_, fun p hp => ?_, fun s v => b s [v] rfl, fun H a ns hl _ hH hS => ?_, fun base hK hns hT => ?_⟩
  · rw [List.mem_singleton.mp hp]; exact c.empty _ (at_ 0 rfl)
  · rw [List.mem_singleton.mp hp]; exact c.out _ (at_ 0 rfl)
  · rw [List.mem_singleton.mp hp]; exact PySem.W.codeHd_of_K X (c.hd _ (at_ 0 rfl))
  · refine ⟨a, ns, rfl, hS, fun r hr => ?_, fun _ => rfl⟩
    rw [List.mem_singleton.mp hr]
    exact LamX.TabS.nil (hH _ List.mem_cons_self)
  · exact ok_law (tr_of c X G) Z (xs_of c X G eC.noF eR.noF) (tm_of c X G) (tl_of c X G) (hT _ List.mem_cons_self) F
end
end RcX
end
set_option Elab.async false
set_option linter.all false
set_option maxRecDepth 100000
set_option maxHeartbeats 0
open PySem PySem.W PySem.Calls PyProof.Rows
theorem PySem.Challenge.cw_rowclash_k15_whole_keys_renamed_holds : PySem.Challenge.rw_rowclash_k15_whole_keys_renamed.Holds := by
  w_on; o_law
  refine HandSHeadRun.head_any (r := OpenLaw.row PySem.Challenge.rw_rowclash_k15_whole_keys_renamed) (q := view (OpenLaw.row PySem.Challenge.rw_rowclash_k15_whole_keys_renamed).prog [97]) (H := RcX.hookY) (ob := RcX.obY) (M := 20000) (loose := RcX.names)
    (d := HandSHeadRun.topDef (OpenLaw.row PySem.Challenge.rw_rowclash_k15_whole_keys_renamed).prog 97) (kwd := []) RcX.obY_eq
    (by kernel_rfl) (fun s => by kernel_rfl) RcX.run (by kernel_rfl) (by kernel_rfl) (by kernel_rfl) (by rfl) (by first | assumption | decide +kernel) (by decide +kernel) ⟨rfl, rfl, rfl, rfl, rfl, by decide +kernel⟩ ?hw ?hc
  case hw => w_witness2
  case hc =>
    refine LamX.walk_ofTsE (l := PySem.Challenge.rw_rowclash_k15_whole_keys_renamed) (n := 63) (k := 16) (x := "_law_script") (CX := fun _ => L2.CX0) rfl (by decide) (by kernel_rfl) ⟨rfl, by decide, by decide⟩ ?F (fun _ _ _ _ _ z => z)
    intro w mg fa h Y G hmg0
    obtain ⟨K, KX, c⟩ := Y
    have hmg : mg ("law" : PySem.Str) = some (.ref fa) := by
      have e : (HandSHeadRun.topDef (OpenLaw.row PySem.Challenge.rw_rowclash_k15_whole_keys_renamed).prog 97).name = ("law" : PySem.Str) := by kernel_rfl
      rw [← e]
      exact hmg0
    exact ⟨K, KX, RcX.law_facts KX G hmg c⟩
