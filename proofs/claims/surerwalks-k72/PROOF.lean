import PyProof.Rows.All
import Wide.All
import OpenK.AllK
import Wide.FinOn
import PySem.Challenge.RW_surerwalks_k72_whole_raw_and_given_table
import HandS.ForMost
import KE.KStateDown
import HandS.Property
import HandS.ClsMeth
import HandS.IsInst
import HandS.Defaults
import HandS.Head0
import HandS.Head1
import HandS.Head2
import HandS.Head3
import HandS.HeadEnd
import HandS.HeadHook1
import HandS.HeadHook2
import HandS.Wide
import HandS.Gcd
import HandS.OwnEq
import HandS.Zip
import HandS.Star
import KE.GoesEnum
import KE.GoesMore
import KE.KOpsOwn
import KE.KEqSeq
section
set_option maxHeartbeats 400000
set_option Elab.async false
set_option linter.all false
set_option maxRecDepth 100000
/-! The text: the top's statements. -/
namespace Hd
open PySem PySem.Spec PyProof.Rows L2
def top (i : Nat) : Stmt := PySem.Challenge.pw_surerwalks_k72_whole_raw_and_given_table.main.body.getD i (.Pass ⟨0, 0, 0, 0⟩)
end Hd

end
section
set_option maxHeartbeats 400000
set_option Elab.async false
set_option linter.all false
set_option maxRecDepth 100000
/-! The head: what the top has written, by facts of one run. -/
namespace Hd
open PySem PySem.Spec PyProof.Rows L2
/-! ### where a def stands -/
inductive At where
  | glo (x : Str)
  | met (x m : Str)
  | get (x f : Str)
  | cm (x m : Str)
def recHead (K : PySem.W.Frag) (p : Addr) (T : String) : Addr := match PySem.W.recIn K p T with
  | some (.ref g :: _) => g
  | _ => 0
def At.ad (K : PySem.W.Frag) : At → Addr
  | .glo x => He.ga K x
  | .met x m => He.ma K (He.ga K x) m
  | .get x f => recHead K (He.ma K (He.ga K x) f) "property"
  | .cm x m => recHead K (He.ma K (He.ga K x) m) "classmethod"
/-- a class: an own one, a built-in one -/
inductive Tc where
  | own (x : Str)
  | ty (n : String)
def Tc.u (K : PySem.W.Frag) : Tc → Value
  | .own x => .ref (He.ga K x)
  | .ty n => .type n
inductive Fb where
  | glo (x : Str)
  | free (x : Str)
  | int (x : Str) (i : Int)
  | bi (x : Str) (id : String)
  | cls (x : Str)
  | noat (x f : Str)
  | meth (x m : Str)
  | mkr (x : Str)
  | prop (x f : Str)
  | cmet (x m : Str)
  | kit (t c : Tc) (b : Bool)
  | isx (x : Str)
  | fst (x : Str)
  | neob (x : Str)
  | sub (n : String) (x : Str) (b : Bool)
def hdP (K : PySem.W.Frag) (p : Addr) (T : String) : Bool := match PySem.W.recIn K p T with
  | some (.ref _ :: _) => true
  | _ => false
def isGet : Option PySem.W.CFound → Addr → Addr → Bool
  | some (.get (.builtin i) (.ref p) .none (.ref C)), q, D => decide (i = "classmethod.__get__") && (decide (p = q) && decide (C = D))
  | _, _, _ => false
def Fb.ok (K : PySem.W.Frag) : Fb → Bool
  | .glo x => He.eqO (PySem.W.nsIn K mainGlobals x) (some (some (.ref (He.ga K x))))
  | .free x => He.eqO (PySem.W.nsIn K mainGlobals x) (some none)
  | .int x i => (match PySem.W.nsIn K mainGlobals x with
    | some (some (.int j _)) => decide (j = i)
    | _ => false)
  | .bi x id => He.eqO (PySem.W.nsIn K mainGlobals x) (some (some (.builtin id)))
  | .cls x => PySem.W.plainGet K (He.ga K x) Str.empty && (PySem.W.hasDictIn K (He.ga K x) && (PySem.W.plainOver K (He.ga K x) && He.eqO (PySem.W.findIn K (.ref (He.ga K x)) "__setattr__") (some (some (.builtin "object.__setattr__")))))
  | .noat x f => He.eqO (PySem.W.findIn K (.ref (He.ga K x)) f) (some none)
  | .meth x m => He.eqO (PySem.W.findIn K (.ref (He.ga K x)) m) (some (some (.ref (He.ma K (He.ga K x) m)))) && (PySem.W.isFn K (.ref (He.ma K (He.ga K x) m)) && PySem.W.keepIn K (.ref (He.ma K (He.ga K x) m)))
  | .mkr x => PySem.W.makesIn K (He.ga K x) && (He.eqO (PySem.W.findIn K (.ref (He.ga K x)) "__init__") (some (some (.ref (He.ma K (He.ga K x) "__init__")))) && (PySem.W.isFn K (.ref (He.ma K (He.ga K x) "__init__")) && PySem.W.keepIn K (.ref (He.ga K x))))
  | .prop x f => He.eqO (PySem.W.findIn K (.ref (He.ga K x)) f) (some (some (.ref (He.ma K (He.ga K x) f)))) && (He.eqO (PySem.W.specialIn K (.ref (He.ma K (He.ga K x) f)) "__get__") (some (some (.builtin "property.__get__"))) && (decide (PySem.W.takesIn K (.ref (He.ma K (He.ga K x) f)) = some true) && hdP K (He.ma K (He.ga K x) f) "property"))
  | .cmet x m => PySem.W.readsIn K (He.ga K x) (.type "type") && (He.eqO (PySem.W.specialIn K (.ref (He.ga K x)) "__getattribute__") (some (some (.builtin "type.__getattribute__"))) && (isGet (PySem.W.findCls K (.ref (He.ga K x)) (.type "type") m) (He.ma K (He.ga K x) m) (He.ga K x) && (hdP K (He.ma K (He.ga K x) m) "classmethod" && PySem.W.fnIn K (recHead K (He.ma K (He.ga K x) m) "classmethod"))))
  | .kit t c b => decide (PySem.W.kitOne K (t.u K) (c.u K) = some b)
  | .isx x => He.eqO (PySem.W.findIn K (.ref (He.ga K x)) "__class__") (some (some (.builtin "object.__class__"))) && (He.eqO (PySem.W.specialIn K (.builtin "object.__class__") "__get__") (some (some (.builtin "getset_descriptor.__get__"))) && (decide (PySem.W.takesIn K (.builtin "object.__class__") = some true) && decide (PySem.W.mroIn K (He.ga K x) (.type "object") = some true)))
  | .fst x => PySem.W.selfFirst K (He.ga K x)
  | .neob x => He.eqO (PySem.W.findIn K (.ref (He.ga K x)) "__ne__") (some (some (.builtin "object.__ne__")))
  | .sub n x b => decide (PySem.W.subIn K (.type n) (.ref (He.ga K x)) = some b)
/-! ### one def -/
def fnU (K : PySem.W.Frag) (f : Addr) : He.FnW := match K.lookup f with
  | some ⟨_, _, .func fd, _⟩ => some (fd.name, fd.qualname, fd.params, fd.body, fd.scope, fd.globals, fd.closure, fd.builtins)
  | _ => none
structure De where
  at_ : At
  name : Str
  qual : Str
  st : Stmt
  dfl : List He.Dv := []
def De.val (d : De) : He.FnW := some (d.name, d.qual, defArgs d.st, .stmts (defBody d.st), defScope d.st, mainGlobals, [], builtinsNs)
def De.dvs (K : PySem.W.Frag) (d : De) : List V := d.dfl.map (He.Dv.v K)
def De.ok (K : PySem.W.Frag) (d : De) : Bool := PySem.W.keepIn K (.ref (d.at_.ad K)) && (match K.lookup (d.at_.ad K) with
  | some ⟨_, _, .func fd, _⟩ => PySem.W.codeIn K fd.code d.qual && He.dflB K fd.defaults (d.dvs K)
  | _ => false)
abbrev FnS (K : PySem.W.Frag) (x qual : Str) (st : Stmt) (dvs : List V) (f : Addr) (fd : FuncData) : Prop := FunD K x qual (defArgs st) (defBody st) (defScope st) dvs [] f fd
theorem De.funD {K : PySem.W.Frag} {d : De} (e : fnU K (d.at_.ad K) = d.val) (c : d.ok K = true) : ∃ fd, FnS K d.name d.qual d.st (d.dvs K) (d.at_.ad K) fd := by
  obtain ⟨kp, c2⟩ := He.ba c
  unfold fnU at e
  cases q : K.lookup (d.at_.ad K) with
  | none =>
    rw [q] at c2
    cases c2
  | some o =>
    obtain ⟨oc, od, dt, osl⟩ := o
    rw [q] at c2 e
    cases dt with
    | func fd =>
      obtain ⟨n1, n2, n3, n4, n5, n6, n7, n8, n9, n10, n11, n12, n13, n14, n15⟩ := fd
      have e2 : (some (n1, n2, n3, n4, n5, n6, n7, n15) : He.FnW) = some (d.name, d.qual, defArgs d.st, .stmts (defBody d.st), defScope d.st, mainGlobals, [], builtinsNs) := e
      simp only [Option.some.injEq, Prod.mk.injEq] at e2
      obtain ⟨h1, h2, h3, h4, h5, h6, h7, h8⟩ := e2
      subst h1 h2 h3 h4 h5 h6 h7 h8
      have c3 : (PySem.W.codeIn K n13 d.qual && He.dflB K n8 (d.dvs K)) = true := c2
      obtain ⟨k1, k3⟩ := He.ba c3
      exact ⟨_, ⟨oc, od, n8, n9, n10, n11, n12, n13, n14, osl, rfl, q, k1, He.dflB_ok k3, .inl rfl⟩, kp⟩
    | _ => cases c2
/-! ### the hook -/
/-- the objects that are looked at -/
def addrs : List Addr := [2, 3, 219, 220, 226, 227, 240, 241, 249, 255, 256, 278, 279, 280, 290, 291, 292, 293, 294, 295, 296, 297, 298, 299, 300, 301, 302, 303, 304, 305, 306, 307, 308, 309, 310, 311, 312, 313, 314, 315, 316, 317, 318, 319, 320, 321, 322, 323, 324, 325, 326, 327, 328, 329, 330, 331, 332, 333, 334, 335, 336, 337, 338, 339, 340, 341, 342, 343, 344, 345, 346, 347, 348, 349, 350, 351, 352, 353, 354, 355, 356, 357, 358, 359, 360, 361, 362, 363, 364, 365, 366, 367, 368, 369, 370, 371, 372, 373, 374, 375, 376, 377, 378, 379, 380, 381, 382, 383, 384, 385, 386, 387, 388, 389, 390, 391, 392, 393, 394, 395, 396, 397, 398, 399, 400, 407, 408, 414, 415, 421, 422, 428, 429, 433, 434, 440, 441, 445, 446, 450, 451, 455, 456, 462, 463, 467, 468, 472, 473, 479, 480, 484, 485, 489, 490, 494, 495, 499, 500, 504, 505, 509, 510, 514, 515, 519, 520, 526, 527, 531, 532, 536, 537, 543, 544, 548, 549, 553, 554, 558, 559, 563, 564, 568, 569, 580, 581, 583, 584, 594, 595, 608, 609, 638, 639, 649, 650, 656, 657, 663, 664, 670, 671, 677, 678, 684, 685, 691, 692, 696, 697, 701, 702, 706, 707, 713, 714, 720, 721, 727, 728, 732, 733, 737, 738, 742, 743, 749, 750, 754, 755, 759, 760, 766, 767, 773, 774, 780, 781, 787, 788, 792, 793, 799, 800, 806, 807, 811, 812, 816, 817, 821, 822, 828, 829, 835, 836, 842, 843, 849, 850, 856, 857, 863, 864, 868, 869, 873, 874, 880, 881, 887, 888, 892, 893, 897, 898, 902, 903, 907, 908, 912, 913, 919, 920]
abbrev AlU : Type := Bool × List He.FnW
def obsU (fa : List Fb) (fn : List De) (K : PySem.W.Frag) : AlU := ((fa.all fun f => f.ok K) && fn.all fun d => d.ok K, fn.map fun d => fnU K (d.at_.ad K))
def valU (fn : List De) : AlU := (true, fn.map De.val)
def SaysU (fa : List Fb) (fn : List De) (K : PySem.W.Frag) : Prop := obsU fa fn K = valU fn
def obsUG (fa : List Fb) (fn : List De) (g : Addr → Option Obj) : AlU := obsU fa fn (He.frG g addrs)
def hookU (fa : List Fb) (fn : List De) : PySem.W.Hook where
  α := AlU
  obs := fun s => obsUG fa fn s.heap.get?
  val := fun _ => valU fn
  says := fun _ h => ∃ K : PySem.W.Frag, K.In h ∧ SaysU fa fn K
  of := fun _ _ e => ⟨_, He.frG_in, e⟩
  keeps := fun _ _ _ ⟨K, hK, c⟩ k => ⟨K, PySem.W.Frag.In.keeps hK k, c⟩
theorem obsUG_eq {fa : List Fb} {fn : List De} {g : Addr → Option Obj} {s : Shared} (h : ∀ a, g a = s.heap.get? a) : obsUG fa fn g = (hookU fa fn).obs s := by
  have e : g = s.heap.get? := funext h
  rw [e] <;> rfl
section
variable {fa : List Fb} {fn : List De} {K : PySem.W.Frag}
theorem SaysU.fact (c : SaysU fa fn K) (i : Nat) {f : Fb} (h : fa[i]? = some f := by rfl) : f.ok K = true := by
  have c1 := (He.ba (show ((fa.all fun f => f.ok K) && fn.all fun d => d.ok K) = true from congrArg (fun z : AlU => z.1) c)).1
  exact List.all_eq_true.mp c1 f (List.mem_of_getElem? h)
theorem SaysU.def_ (c : SaysU fa fn K) (i : Nat) {d : De} (h : fn[i]? = some d := by rfl) : ∃ fd, FnS K d.name d.qual d.st (d.dvs K) (d.at_.ad K) fd := by
  have c2 := (He.ba (show ((fa.all fun f => f.ok K) && fn.all fun d => d.ok K) = true from congrArg (fun z : AlU => z.1) c)).2
  have e : fn.map (fun d => fnU K (d.at_.ad K)) = fn.map De.val := congrArg (fun z : AlU => z.2) c
  have e2 : (fn.map fun d => fnU K (d.at_.ad K))[i]? = (fn.map De.val)[i]? := by rw [e]
  rw [List.getElem?_map, List.getElem?_map, h] at e2
  exact De.funD (Option.some.inj e2) (List.all_eq_true.mp c2 d (List.mem_of_getElem? h))
end
def lo0 : List Str := ["_wall", "WalkError", "StateError", "InvalidFunction", "InvalidNumber", "InvalidWalk", "DividedByZero", "InvalidGrid", "InvalidRows", "InvalidShares", "NotWhole", "is_integer", "is_list", "PART", "digits_of", "divisor_of", "Ratio", "told_pair", "is_number", "ratio_of", "want_number", "wholes", "total_of", "ints_of", "bare_row", "cleared", "first_at", "headed_row"]
def lo1 : List Str := ["int_steps", "head_of", "told_rows", "turned_of", "dot", "dot_tables", "table_led", "product_of", "unit_of", "inverse_of", "is_row", "worth_of", "LEAST_PLACES", "MOST_PLACES", "are_numbers", "told_numbers", "is_one", "are_chances", "are_rows", "told_rows_of", "led", "are_shares", "Known", "looked_at", "Walk", "walk_made", "want_walk", "want_whole", "want_function", "come_to"]
def lo2 : List Str := ["closed_in", "are_whole_rows", "dot_strays", "back_table", "error_rows", "error_made", "error", "MOST_PARTS", "MOST_PAIRS", "is_weight", "is_grid_row", "want_grid", "over_all", "shares_of", "sums_of", "second_by_first", "first_by_second", "redraw_rows", "scan_rows", "seen_walk", "given_of", "given_rows", "scan", "given_means", "raw_table", "given_table", "_law_pot", "_law_draw", "_law_pick", "_law_number"]
def lo3 : List Str := ["_law_function", "_law_dot", "_law_spread", "_law_ahead", "_law_error", "_law_grid", "_law_first_at", "_law_second_at", "_law_seen", "_law_worth", "_law_right"]
def loose : List Str := lo0 ++ lo1 ++ lo2 ++ lo3
def fa0 : List Fb := [
  .glo "is_integer",
  .glo "is_list",
  .glo "divisor_of",
  .glo "told_pair",
  .glo "is_number",
  .glo "ratio_of",
  .glo "want_number",
  .glo "wholes",
  .glo "total_of",
  .glo "ints_of",
  .glo "bare_row",
  .glo "cleared",
  .glo "first_at",
  .glo "headed_row",
  .glo "int_steps",
  .glo "head_of",
  .glo "told_rows",
  .glo "turned_of",
  .glo "dot_tables",
  .glo "table_led",
  .glo "product_of",
  .glo "unit_of",
  .glo "inverse_of",
  .glo "is_row",
  .glo "worth_of",
  .glo "are_numbers",
  .glo "told_numbers",
  .glo "is_one",
  .glo "are_chances",
  .glo "are_rows"]
def fa1 : List Fb := [
  .glo "told_rows_of",
  .glo "led",
  .glo "are_shares",
  .glo "looked_at",
  .glo "walk_made",
  .glo "want_walk",
  .glo "want_whole",
  .glo "want_function",
  .glo "come_to",
  .glo "closed_in",
  .glo "are_whole_rows",
  .glo "dot_strays",
  .glo "back_table",
  .glo "error_rows",
  .glo "error_made",
  .glo "error",
  .glo "is_weight",
  .glo "is_grid_row",
  .glo "want_grid",
  .glo "over_all",
  .glo "shares_of",
  .glo "sums_of",
  .glo "second_by_first",
  .glo "first_by_second",
  .glo "redraw_rows",
  .glo "scan_rows",
  .glo "seen_walk",
  .glo "given_of",
  .glo "given_rows",
  .glo "scan"]
def fa2 : List Fb := [
  .glo "given_means",
  .glo "raw_table",
  .glo "given_table",
  .glo "_law_pot",
  .glo "_law_draw",
  .glo "_law_pick",
  .glo "_law_number",
  .glo "_law_function",
  .glo "_law_dot",
  .glo "_law_spread",
  .glo "_law_ahead",
  .glo "_law_error",
  .glo "_law_grid",
  .glo "_law_first_at",
  .glo "_law_second_at",
  .glo "_law_seen",
  .glo "_law_worth",
  .glo "_law_right",
  .glo "law",
  .glo "Ratio",
  .glo "Known",
  .glo "Walk",
  .free "len",
  .free "range",
  .free "zip",
  .free "enumerate",
  .free "isinstance",
  .free "int",
  .free "bool",
  .free "list"]
def fa3 : List Fb := [
  .free "tuple",
  .free "sum",
  .free "all",
  .free "sorted",
  .free "abs",
  .free "max",
  .free "divmod",
  .int "LEAST_PLACES" 2,
  .int "MOST_PLACES" 6,
  .int "MOST_PARTS" 3,
  .int "MOST_PAIRS" 6,
  .bi "gcd" "math.gcd",
  .bi "lcm" "math.lcm",
  .cls "Ratio",
  .mkr "Ratio",
  .isx "Ratio",
  .cls "Known",
  .mkr "Known",
  .isx "Known",
  .cls "Walk",
  .mkr "Walk",
  .isx "Walk",
  .noat "Ratio" "own_top",
  .noat "Ratio" "own_bottom",
  .noat "Known" "own_rows",
  .noat "Known" "own_shares",
  .noat "Walk" "own_rows",
  .noat "Walk" "own_shares",
  .noat "Walk" "own_kept",
  .meth "Ratio" "__add__"]
def fa4 : List Fb := [
  .meth "Ratio" "__sub__",
  .meth "Ratio" "__mul__",
  .meth "Ratio" "over",
  .meth "Ratio" "__eq__",
  .meth "Ratio" "__neg__",
  .meth "Ratio" "__radd__",
  .meth "Ratio" "__rmul__",
  .prop "Ratio" "sign",
  .cmet "Ratio" "total",
  .fst "Ratio",
  .neob "Ratio",
  .sub "int" "Ratio" false,
  .meth "Ratio" "__rsub__",
  .kit (.ty "int") (.ty "int") true,
  .kit (.ty "int") (.ty "bool") false,
  .kit (.ty "int") (.ty "list") false,
  .kit (.ty "int") (.ty "tuple") false,
  .kit (.ty "int") (.own "Ratio") false,
  .kit (.ty "int") (.own "Walk") false,
  .kit (.ty "int") (.own "Known") false,
  .kit (.ty "bool") (.ty "int") true,
  .kit (.ty "bool") (.ty "bool") true,
  .kit (.ty "bool") (.ty "list") false,
  .kit (.ty "bool") (.ty "tuple") false,
  .kit (.ty "bool") (.own "Ratio") false,
  .kit (.ty "bool") (.own "Walk") false,
  .kit (.ty "bool") (.own "Known") false,
  .kit (.ty "list") (.ty "int") false,
  .kit (.ty "list") (.ty "bool") false,
  .kit (.ty "list") (.ty "list") true,
  .kit (.ty "list") (.ty "tuple") false,
  .kit (.ty "list") (.own "Ratio") false]
def fa5 : List Fb := [
  .kit (.ty "list") (.own "Walk") false,
  .kit (.ty "list") (.own "Known") false,
  .kit (.ty "tuple") (.ty "int") false,
  .kit (.ty "tuple") (.ty "bool") false,
  .kit (.ty "tuple") (.ty "list") false,
  .kit (.ty "tuple") (.ty "tuple") true,
  .kit (.ty "tuple") (.own "Ratio") false,
  .kit (.ty "tuple") (.own "Walk") false,
  .kit (.ty "tuple") (.own "Known") false,
  .kit (.own "Ratio") (.ty "int") false,
  .kit (.own "Ratio") (.ty "bool") false,
  .kit (.own "Ratio") (.ty "list") false,
  .kit (.own "Ratio") (.ty "tuple") false,
  .kit (.own "Ratio") (.own "Ratio") true,
  .kit (.own "Ratio") (.own "Walk") false,
  .kit (.own "Ratio") (.own "Known") false,
  .kit (.own "Walk") (.ty "int") false,
  .kit (.own "Walk") (.ty "bool") false,
  .kit (.own "Walk") (.ty "list") false,
  .kit (.own "Walk") (.ty "tuple") false,
  .kit (.own "Walk") (.own "Ratio") false,
  .kit (.own "Walk") (.own "Walk") true,
  .kit (.own "Walk") (.own "Known") false,
  .kit (.own "Known") (.ty "int") false,
  .kit (.own "Known") (.ty "bool") false,
  .kit (.own "Known") (.ty "list") false,
  .kit (.own "Known") (.ty "tuple") false,
  .kit (.own "Known") (.own "Ratio") false,
  .kit (.own "Known") (.own "Walk") false,
  .kit (.own "Known") (.own "Known") true]
def fa : List Fb := fa0 ++ fa1 ++ fa2 ++ fa3 ++ fa4 ++ fa5
def fn0 : List De := [
  ⟨.glo "is_integer", "is_integer", "is_integer", top 14, []⟩,
  ⟨.glo "is_list", "is_list", "is_list", top 15, []⟩,
  ⟨.glo "divisor_of", "divisor_of", "divisor_of", top 19, []⟩,
  ⟨.met "Ratio" "__init__", "__init__", "Ratio.__init__", inClass (top 20) 0, [.int 1]⟩,
  ⟨.get "Ratio" "sign", "sign", "Ratio.sign", inClass (top 20) 3, []⟩,
  ⟨.cm "Ratio" "total", "total", "Ratio.total", inClass (top 20) 5, []⟩,
  ⟨.met "Ratio" "__add__", "__add__", "Ratio.__add__", inClass (top 20) 6, []⟩,
  ⟨.met "Ratio" "__radd__", "__radd__", "Ratio.__radd__", inClass (top 20) 7, []⟩,
  ⟨.met "Ratio" "__sub__", "__sub__", "Ratio.__sub__", inClass (top 20) 8, []⟩,
  ⟨.met "Ratio" "__mul__", "__mul__", "Ratio.__mul__", inClass (top 20) 10, []⟩,
  ⟨.met "Ratio" "__rmul__", "__rmul__", "Ratio.__rmul__", inClass (top 20) 11, []⟩,
  ⟨.met "Ratio" "__neg__", "__neg__", "Ratio.__neg__", inClass (top 20) 12, []⟩,
  ⟨.met "Ratio" "over", "over", "Ratio.over", inClass (top 20) 13, []⟩,
  ⟨.met "Ratio" "__eq__", "__eq__", "Ratio.__eq__", inClass (top 20) 17, []⟩,
  ⟨.glo "told_pair", "told_pair", "told_pair", top 21, []⟩,
  ⟨.glo "is_number", "is_number", "is_number", top 22, []⟩,
  ⟨.glo "ratio_of", "ratio_of", "ratio_of", top 23, []⟩,
  ⟨.glo "want_number", "want_number", "want_number", top 24, []⟩,
  ⟨.glo "wholes", "wholes", "wholes", top 25, []⟩,
  ⟨.glo "total_of", "total_of", "total_of", top 26, []⟩,
  ⟨.glo "ints_of", "ints_of", "ints_of", top 28, []⟩,
  ⟨.glo "bare_row", "bare_row", "bare_row", top 29, []⟩,
  ⟨.glo "cleared", "cleared", "cleared", top 30, []⟩,
  ⟨.glo "first_at", "first_at", "first_at", top 31, []⟩,
  ⟨.glo "headed_row", "headed_row", "headed_row", top 32, []⟩,
  ⟨.glo "int_steps", "int_steps", "int_steps", top 33, []⟩,
  ⟨.glo "head_of", "head_of", "head_of", top 34, []⟩,
  ⟨.glo "told_rows", "told_rows", "told_rows", top 35, []⟩,
  ⟨.glo "turned_of", "turned_of", "turned_of", top 37, []⟩,
  ⟨.glo "dot_tables", "dot", "dot", top 38, []⟩]
def fn1 : List De := [
  ⟨.glo "table_led", "table_led", "table_led", top 40, []⟩,
  ⟨.glo "product_of", "product_of", "product_of", top 41, []⟩,
  ⟨.glo "unit_of", "unit_of", "unit_of", top 42, []⟩,
  ⟨.glo "inverse_of", "inverse_of", "inverse_of", top 43, []⟩,
  ⟨.glo "is_row", "is_row", "is_row", top 45, []⟩,
  ⟨.glo "worth_of", "worth_of", "worth_of", top 46, []⟩,
  ⟨.glo "are_numbers", "are_numbers", "are_numbers", top 50, []⟩,
  ⟨.glo "told_numbers", "told_numbers", "told_numbers", top 51, []⟩,
  ⟨.glo "is_one", "is_one", "is_one", top 52, []⟩,
  ⟨.glo "are_chances", "are_chances", "are_chances", top 53, []⟩,
  ⟨.glo "are_rows", "are_rows", "are_rows", top 54, []⟩,
  ⟨.glo "told_rows_of", "told_rows_of", "told_rows_of", top 55, []⟩,
  ⟨.glo "led", "led", "led", top 56, []⟩,
  ⟨.glo "are_shares", "are_shares", "are_shares", top 57, []⟩,
  ⟨.met "Known" "__init__", "__init__", "Known.__init__", inClass (top 58) 0, []⟩,
  ⟨.glo "looked_at", "looked_at", "looked_at", top 59, []⟩,
  ⟨.met "Walk" "__init__", "__init__", "Walk.__init__", inClass (top 60) 0, []⟩,
  ⟨.glo "walk_made", "walk_made", "walk_made", top 61, []⟩,
  ⟨.glo "want_walk", "want_walk", "want_walk", top 62, []⟩,
  ⟨.glo "want_whole", "want_whole", "want_whole", top 63, []⟩,
  ⟨.glo "want_function", "want_function", "want_function", top 64, []⟩,
  ⟨.glo "come_to", "come_to", "come_to", top 65, []⟩,
  ⟨.glo "closed_in", "closed_in", "closed_in", top 66, []⟩,
  ⟨.glo "are_whole_rows", "are_whole_rows", "are_whole_rows", top 67, []⟩,
  ⟨.glo "dot_strays", "dot", "dot", top 69, []⟩,
  ⟨.glo "back_table", "back_table", "back_table", top 71, []⟩,
  ⟨.glo "error_rows", "error_rows", "error_rows", top 72, []⟩,
  ⟨.glo "error_made", "error_made", "error_made", top 73, []⟩,
  ⟨.glo "error", "error", "error", top 74, []⟩,
  ⟨.glo "is_weight", "is_weight", "is_weight", top 78, []⟩]
def fn2 : List De := [
  ⟨.glo "is_grid_row", "is_grid_row", "is_grid_row", top 79, []⟩,
  ⟨.glo "want_grid", "want_grid", "want_grid", top 80, []⟩,
  ⟨.glo "over_all", "over_all", "over_all", top 81, []⟩,
  ⟨.glo "shares_of", "shares_of", "shares_of", top 82, []⟩,
  ⟨.glo "sums_of", "sums_of", "sums_of", top 83, []⟩,
  ⟨.glo "second_by_first", "second_by_first", "second_by_first", top 84, []⟩,
  ⟨.glo "first_by_second", "first_by_second", "first_by_second", top 85, []⟩,
  ⟨.glo "redraw_rows", "redraw_rows", "redraw_rows", top 86, []⟩,
  ⟨.glo "scan_rows", "scan_rows", "scan_rows", top 87, []⟩,
  ⟨.glo "seen_walk", "seen_walk", "seen_walk", top 88, []⟩,
  ⟨.glo "given_of", "given_of", "given_of", top 89, []⟩,
  ⟨.glo "given_rows", "given_rows", "given_rows", top 90, []⟩,
  ⟨.glo "scan", "scan", "scan", top 91, []⟩,
  ⟨.glo "given_means", "given_means", "given_means", top 92, []⟩,
  ⟨.glo "raw_table", "raw_table", "raw_table", top 93, []⟩,
  ⟨.glo "given_table", "given_table", "given_table", top 94, []⟩,
  ⟨.glo "_law_pot", "_law_pot", "_law_pot", top 96, []⟩,
  ⟨.glo "_law_draw", "_law_draw", "_law_draw", top 97, []⟩,
  ⟨.glo "_law_pick", "_law_pick", "_law_pick", top 98, []⟩,
  ⟨.glo "_law_number", "_law_number", "_law_number", top 99, []⟩,
  ⟨.glo "_law_function", "_law_function", "_law_function", top 100, []⟩,
  ⟨.glo "_law_dot", "_law_dot", "_law_dot", top 101, []⟩,
  ⟨.glo "_law_spread", "_law_spread", "_law_spread", top 102, []⟩,
  ⟨.glo "_law_ahead", "_law_ahead", "_law_ahead", top 103, []⟩,
  ⟨.glo "_law_error", "_law_error", "_law_error", top 104, []⟩,
  ⟨.glo "_law_grid", "_law_grid", "_law_grid", top 105, []⟩,
  ⟨.glo "_law_first_at", "_law_first_at", "_law_first_at", top 106, []⟩,
  ⟨.glo "_law_second_at", "_law_second_at", "_law_second_at", top 107, []⟩,
  ⟨.glo "_law_seen", "_law_seen", "_law_seen", top 108, []⟩,
  ⟨.glo "_law_worth", "_law_worth", "_law_worth", top 109, []⟩]
def fn3 : List De := [
  ⟨.glo "_law_right", "_law_right", "_law_right", top 110, []⟩,
  ⟨.glo "law", "law", "law", top 111, []⟩]
def fn : List De := fn0 ++ fn1 ++ fn2 ++ fn3
abbrev R : PySem.W.OpenRow := PySem.W.OpenLaw.row PySem.Challenge.rw_surerwalks_k72_whole_raw_and_given_table
/-! ### the run, in three parts (each alone takes less room) -/
abbrev fnA : List De := fn0 ++ fn1
abbrev fnB : List De := fn2 ++ fn3
theorem SaysU.join {K : PySem.W.Frag} (a : SaysU fa [] K) (b : SaysU [] fnA K) (c : SaysU [] fnB K) : SaysU fa fn K := by
  have a1 : ((fa.all fun f => f.ok K) && ([] : List De).all fun d => d.ok K) = true := congrArg (fun z : AlU => z.1) a
  have b1 : ((([] : List Fb).all fun f => f.ok K) && fnA.all fun d => d.ok K) = true := congrArg (fun z : AlU => z.1) b
  have c1 : ((([] : List Fb).all fun f => f.ok K) && fnB.all fun d => d.ok K) = true := congrArg (fun z : AlU => z.1) c
  have b2 : (fnA.map fun d => fnU K (d.at_.ad K)) = fnA.map De.val := congrArg (fun z : AlU => z.2) b
  have c2 : (fnB.map fun d => fnU K (d.at_.ad K)) = fnB.map De.val := congrArg (fun z : AlU => z.2) c
  have e : fn = fnA ++ fnB := List.append_assoc (fn0 ++ fn1) fn2 fn3
  have h1 : ((fa.all fun f => f.ok K) && fn.all fun d => d.ok K) = true := by
    rw [e, List.all_append, (He.ba a1).1, (He.ba b1).2, (He.ba c1).2]; rfl
  have h2 : (fn.map fun d => fnU K (d.at_.ad K)) = fn.map De.val := by
    rw [e, List.map_append (l₁ := fnA) (l₂ := fnB), List.map_append (l₁ := fnA) (l₂ := fnB), b2, c2]
  exact Prod.ext h1 h2
def hk : PySem.W.Hook where
  α := AlU × (AlU × AlU)
  obs := fun s => (obsUG fa [] s.heap.get?, (obsUG [] fnA s.heap.get?, obsUG [] fnB s.heap.get?))
  val := fun _ => (valU [], (valU fnA, valU fnB))
  says := fun _ h => ∃ K : PySem.W.Frag, K.In h ∧ SaysU fa fn K
  of := fun _ _ e => by
    obtain ⟨e1, e23⟩ := Prod.mk.inj e
    obtain ⟨e2, e3⟩ := Prod.mk.inj e23
    exact ⟨_, He.frG_in, SaysU.join e1 e2 e3⟩
  keeps := fun _ _ _ ⟨K, hK, c⟩ k => ⟨K, PySem.W.Frag.In.keeps hK k, c⟩
def ob1 (s : PySem.W.SharedT) : AlU := obsUG fa [] (HandSHeadRun.getT s)
def ob2 (s : PySem.W.SharedT) : AlU := obsUG [] fnA (HandSHeadRun.getT s)
def ob3 (s : PySem.W.SharedT) : AlU := obsUG [] fnB (HandSHeadRun.getT s)
def ob (s : PySem.W.SharedT) : AlU × (AlU × AlU) := (ob1 s, (ob2 s, ob3 s))
theorem ob_eq (s : PySem.W.SharedT) : ob s = hk.obs s.abs := by
  have e : HandSHeadRun.getT s = s.abs.heap.get? := funext fun a => HandSHeadRun.getT_eq s a
  unfold ob ob1 ob2 ob3
  rw [e]; rfl
set_option maxHeartbeats 0 in
theorem run1 (w : World) : (HandSHeadRun.wholeF (fun p => HandSHeadRun.stepQ (HandSHeadRun.denQ HandSHeadRun.tabQ) p w) HandSHeadRun.fenceQ 8000 R.prog).map (fun x => (HandSHeadRun.looksF R.prog x.1.heap x.2.abs, HandSHeadRun.seenQ (PySem.W.view R.prog [0, 111]) loose (importedModules R.prog.main.body) (fun s => PySem.W.xlAt (PySem.W.view R.prog [0, 111]) [] s && PySem.W.recOk R.toRowW.records s) x.2.abs, ob1 x.2)) = some (true, PySem.W.openGood (PySem.W.view R.prog [0, 111]) loose, valU []) := by
  kernel_rfl
set_option maxHeartbeats 0 in
theorem run2 (w : World) : (HandSHeadRun.wholeF (fun p => HandSHeadRun.stepQ (HandSHeadRun.denQ HandSHeadRun.tabQ) p w) HandSHeadRun.fenceQ 8000 R.prog).map (fun x => ob2 x.2) = some (valU fnA) := by
  kernel_rfl
set_option maxHeartbeats 0 in
theorem run3 (w : World) : (HandSHeadRun.wholeF (fun p => HandSHeadRun.stepQ (HandSHeadRun.denQ HandSHeadRun.tabQ) p w) HandSHeadRun.fenceQ 8000 R.prog).map (fun x => ob3 x.2) = some (valU fnB) := by
  kernel_rfl
theorem run (w : World) : HandSHeadRun.RunEqI R (PySem.W.view R.prog [0, 111]) hk ob 8000 loose w := by
  unfold HandSHeadRun.RunEqI
  obtain ⟨x, hx, h1⟩ := Option.map_eq_some_iff.mp (run1 w)
  have h2 := run2 w
  have h3 := run3 w
  rw [hx] at h2 h3
  have e2 : ob2 x.2 = valU fnA := Option.some.inj h2
  have e3 : ob3 x.2 = valU fnB := Option.some.inj h3
  rw [hx]
  obtain ⟨l1, l23⟩ := Prod.mk.inj h1
  obtain ⟨l2, l3⟩ := Prod.mk.inj l23
  show some (_, _, (ob1 x.2, (ob2 x.2, ob3 x.2))) = some (_, _, (valU [], (valU fnA, valU fnB)))
  rw [l1, l2, l3, e2, e3]
end Hd

end
section
set_option maxHeartbeats 400000
/-! Sums over the first n places, grids of weights, walks: plain mathematics over Rat. -/
set_option Elab.async false
set_option maxRecDepth 100000
namespace Ma

/-- f 0 + .. + f (n - 1) -/
def sm : Nat → (Nat → Rat) → Rat
  | 0, _ => 0
  | n + 1, f => sm n f + f n

theorem sm_congr {n : Nat} {f g : Nat → Rat} (h : ∀ i, i < n → f i = g i) : sm n f = sm n g := by
  induction n with
  | zero => rfl
  | succ n ih =>
    show sm n f + f n = sm n g + g n
    rw [ih fun i hi => h i (by omega), h n (by omega)]
theorem sm_add (n : Nat) (f g : Nat → Rat) : sm n (fun i => f i + g i) = sm n f + sm n g := by
  induction n with
  | zero => simp only [sm]; grind
  | succ n ih => simp only [sm]; rw [ih]; grind
theorem sm_sub (n : Nat) (f g : Nat → Rat) : sm n (fun i => f i - g i) = sm n f - sm n g := by
  induction n with
  | zero => simp [sm]; grind
  | succ n ih => simp only [sm]; rw [ih]; grind
theorem sm_mul (n : Nat) (c : Rat) (f : Nat → Rat) : sm n (fun i => c * f i) = c * sm n f := by
  induction n with
  | zero => simp [sm]
  | succ n ih => simp only [sm]; rw [ih]; grind
theorem sm_mulR (n : Nat) (c : Rat) (f : Nat → Rat) : sm n (fun i => f i * c) = sm n f * c := by
  induction n with
  | zero => simp [sm]
  | succ n ih => simp only [sm]; rw [ih]; grind
theorem sm_zero (n : Nat) : sm n (fun _ => 0) = 0 := by
  induction n with
  | zero => rfl
  | succ n ih => simp only [sm]; rw [ih]; grind
theorem sm_swap (n m : Nat) (f : Nat → Nat → Rat) : sm n (fun i => sm m (fun j => f i j)) = sm m (fun j => sm n (fun i => f i j)) := by
  induction n with
  | zero => simp only [sm]; rw [sm_zero]
  | succ n ih => simp only [sm]; rw [ih, ← sm_add]
theorem sm_nonneg {n : Nat} {f : Nat → Rat} (h : ∀ i, i < n → 0 ≤ f i) : 0 ≤ sm n f := by
  induction n with
  | zero => exact Rat.le_refl
  | succ n ih =>
    have h1 := ih fun i hi => h i (by omega)
    have h2 := h n (by omega)
    show 0 ≤ sm n f + f n
    grind
theorem sm_pos {n : Nat} {f : Nat → Rat} (hn : 0 < n) (h : ∀ i, i < n → 0 < f i) : 0 < sm n f := by
  cases n with
  | zero => omega
  | succ n =>
    have h1 := sm_nonneg (n := n) (f := f) fun i hi => Rat.le_of_lt (h i (by omega))
    have h2 := h n (by omega)
    show 0 < sm n f + f n
    grind
/-- a sum of things at least 0 that is 0: each is 0 -/
theorem sm_eq_zero {n : Nat} {f : Nat → Rat} (h : ∀ i, i < n → 0 ≤ f i) (h0 : sm n f = 0) : ∀ i, i < n → f i = 0 := by
  induction n with
  | zero => intro i hi; omega
  | succ n ih =>
    have h1 := sm_nonneg (n := n) (f := f) fun i hi => h i (by omega)
    have h2 := h n (by omega)
    have h3 : sm n f + f n = 0 := h0
    intro i hi
    by_cases e : i = n
    · subst e; grind
    · exact ih (fun i hi => h i (by omega)) (by grind) i (by omega)
/-- one place alone -/
theorem sm_delta {n k : Nat} (hk : k < n) (f : Nat → Rat) : sm n (fun i => if i = k then f i else 0) = f k := by
  induction n with
  | zero => omega
  | succ n ih =>
    show sm n (fun i => if i = k then f i else 0) + (if n = k then f n else 0) = f k
    by_cases e : n = k
    · subst e
      rw [if_pos rfl, sm_congr (g := fun _ => 0) (fun i hi => by rw [if_neg (by omega)]), sm_zero]
      grind
    · rw [if_neg e, ih (by omega)]
      grind
theorem sm_delta' {n k : Nat} (hk : k < n) (f : Nat → Rat) : sm n (fun i => (if k = i then 1 else 0) * f i) = f k := by
  rw [sm_congr (g := fun i => if i = k then f i else 0) (fun i _ => by
    by_cases e : i = k
    · rw [if_pos e, if_pos e.symm]; grind
    · rw [if_neg e, if_neg (fun h => e h.symm)]; grind)]
  exact sm_delta hk f

/-! ### walks: rows Q, shares s that are kept -/
structure Walk (n : Nat) (Q : Nat → Nat → Rat) (s : Nat → Rat) : Prop where
  row : ∀ i, i < n → sm n (fun k => Q i k) = 1
  one : sm n s = 1
  kept : ∀ k, k < n → sm n (fun i => s i * Q i k) = s k

section
variable {n : Nat} {Q : Nat → Nat → Rat} {s : Nat → Rat}
/-- the mean behind a step is the mean -/
theorem Walk.step (W : Walk n Q s) (f : Nat → Rat) : sm n (fun i => s i * sm n (fun k => Q i k * f k)) = sm n (fun k => s k * f k) := by
  rw [sm_congr (g := fun i => sm n (fun k => s i * Q i k * f k)) (fun i _ => by rw [← sm_mul]; exact sm_congr fun k _ => by grind)]
  rw [sm_swap]
  refine sm_congr fun k hk => ?_
  rw [sm_mulR, W.kept k hk]
/-- h is ahead of f: (1 - Q) h = f - m, its mean is 0 -/
structure Ahead (n : Nat) (Q : Nat → Nat → Rat) (s f h : Nat → Rat) : Prop where
  eq : ∀ i, i < n → h i - sm n (fun k => Q i k * h k) = f i - sm n (fun k => s k * f k)
  mean : sm n (fun i => s i * h i) = 0

/-- 2 <g, h> - <g, g>, g = f - m -/
def err (n : Nat) (s f h : Nat → Rat) : Rat :=
  2 * sm n (fun i => s i * ((f i - sm n (fun k => s k * f k)) * h i)) - sm n (fun i => s i * ((f i - sm n (fun k => s k * f k)) * (f i - sm n (fun k => s k * f k))))

/-- the own error: the mean of the squares of what each step brings beside the mean -/
theorem err_own (W : Walk n Q s) {f h : Nat → Rat} (A : Ahead n Q s f h) :
    sm n (fun x => sm n (fun y => s x * Q x y * (h y - sm n (fun k => Q x k * h k)) * (h y - sm n (fun k => Q x k * h k)))) = err n s f h := by
  -- inner sum: s x * (sum Q h^2 - mid^2)
  have inner : ∀ x, x < n → sm n (fun y => s x * Q x y * (h y - sm n (fun k => Q x k * h k)) * (h y - sm n (fun k => Q x k * h k))) =
      s x * sm n (fun y => Q x y * (h y * h y)) - s x * (sm n (fun k => Q x k * h k) * sm n (fun k => Q x k * h k)) := fun x hx => by
    generalize hm : sm n (fun k => Q x k * h k) = m
    rw [sm_congr (g := fun y => s x * (Q x y * (h y * h y)) + ((-2 * m * s x) * (Q x y * h y) + (m * m * s x) * Q x y)) (fun y _ => by grind)]
    rw [sm_add, sm_add, sm_mul, sm_mul, sm_mul, hm, W.row x hx]
    grind
  rw [sm_congr inner, sm_sub, W.step (fun y => h y * h y)]
  unfold err
  generalize hm : sm n (fun k => s k * f k) = m
  have e : ∀ x, x < n → sm n (fun k => Q x k * h k) = h x - (f x - m) := fun x hx => by
    have := A.eq x hx
    rw [hm] at this
    grind
  rw [sm_congr (f := fun i => s i * (sm n (fun k => Q i k * h k) * sm n (fun k => Q i k * h k))) (g := fun x => s x * (h x * h x) + ((-2) * (s x * ((f x - m) * h x)) + s x * ((f x - m) * (f x - m)))) (fun x hx => by rw [e x hx]; grind)]
  rw [sm_add, sm_add, sm_mul]
  grind

/-- G undoes A -/
def IsInv (n : Nat) (A G : Nat → Nat → Rat) : Prop :=
  ∀ x b : Nat → Rat, (∀ i, i < n → sm n (fun k => A i k * x k) = b i) ↔ (∀ i, i < n → x i = sm n (fun k => G i k * b k))

/-- 1 less the rows, with the shares' table added -/
def back (Q : Nat → Nat → Rat) (s : Nat → Rat) : Nat → Nat → Rat := fun i k => (s k - Q i k) + (if k = i then 1 else 0)
theorem back_mul {i : Nat} (hi : i < n) (x : Nat → Rat) : sm n (fun k => back Q s i k * x k) = sm n (fun k => s k * x k) - sm n (fun k => Q i k * x k) + x i := by
  unfold back
  rw [sm_congr (g := fun k => (s k * x k - Q i k * x k) + (if k = i then x k else 0)) (fun k _ => by by_cases e : k = i <;> simp [e] <;> grind)]
  rw [sm_add, sm_sub, sm_delta hi]

/-- the table's entry -/
def tab (s : Nat → Rat) (G : Nat → Nat → Rat) : Nat → Nat → Rat := fun x y =>
  if x = y then s x * G x y + s y * G y x - s x * s y - s x else s x * G x y + s y * G y x - s x * s y
theorem tab_sym (s : Nat → Rat) (G : Nat → Nat → Rat) (x y : Nat) : tab s G x y = tab s G y x := by
  unfold tab
  by_cases e : x = y
  · subst e; rfl
  · rw [if_neg e, if_neg (fun h => e h.symm)]
    grind
def worth (n : Nat) (E : Nat → Nat → Rat) (f : Nat → Rat) : Rat := sm n (fun x => f x * sm n (fun y => E x y * f y))

/-- G f = h + m -/
theorem inv_ahead (W : Walk n Q s) {G : Nat → Nat → Rat} (I : IsInv n (back Q s) G) {f h : Nat → Rat} (A : Ahead n Q s f h) :
    ∀ i, i < n → sm n (fun k => G i k * f k) = h i + sm n (fun k => s k * f k) := by
  generalize hm : sm n (fun k => s k * f k) = m
  have q := (I (fun i => h i + m) f).mp fun i hi => by
    rw [back_mul hi]
    have e1 : sm n (fun k => s k * (h k + m)) = m := by
      rw [sm_congr (g := fun k => s k * h k + m * s k) (fun k _ => by grind), sm_add, sm_mul, A.mean, W.one]
      grind
    have e2 : sm n (fun k => Q i k * (h k + m)) = sm n (fun k => Q i k * h k) + m := by
      rw [sm_congr (g := fun k => Q i k * h k + m * Q i k) (fun k _ => by grind), sm_add, sm_mul, W.row i hi]
      grind
    rw [e1, e2]
    have := A.eq i hi
    rw [hm] at this
    grind
  intro i hi
  exact (q i hi).symm
/-- the table's worth -/
theorem worth_tab (W : Walk n Q s) {G : Nat → Nat → Rat} (I : IsInv n (back Q s) G) {f h : Nat → Rat} (A : Ahead n Q s f h) : worth n (tab s G) f = err n s f h := by
  have g := inv_ahead W I A
  unfold worth
  have e : ∀ x, x < n → f x * sm n (fun y => tab s G x y * f y) = s x * f x * sm n (fun y => G x y * f y) + f x * sm n (fun y => s y * G y x * f y) - (s x * f x) * sm n (fun y => s y * f y) - s x * f x * f x := fun x hx => by
    rw [sm_congr (f := fun y => tab s G x y * f y) (g := fun y => (s x * (G x y * f y) + (s y * G y x * f y - s x * (s y * f y))) - (if y = x then s y * f y else 0)) (fun y _ => by
      unfold tab
      by_cases e : x = y
      · subst e; rw [if_pos rfl, if_pos rfl]; grind
      · rw [if_neg e, if_neg (fun h => e h.symm)]; grind)]
    rw [sm_sub, sm_add, sm_mul, sm_sub, sm_mul, sm_delta hx]
    grind
  rw [sm_congr e, sm_sub, sm_sub, sm_add]
  have e2 : sm n (fun x => f x * sm n (fun y => s y * G y x * f y)) = sm n (fun x => s x * f x * sm n (fun y => G x y * f y)) := by
    rw [sm_congr (g := fun x => sm n (fun y => s y * f y * (G y x * f x))) (fun x _ => by rw [← sm_mul]; exact sm_congr fun y _ => by grind)]
    rw [sm_swap]
    exact sm_congr fun y _ => by rw [sm_mul]
  rw [e2, sm_congr (f := fun x => s x * f x * sm n (fun y => G x y * f y)) (g := fun x => s x * f x * (h x + sm n (fun k => s k * f k))) (fun x hx => by rw [g x hx])]
  unfold err
  have hh := A.mean
  generalize hm : sm n (fun k => s k * f k) = m
  rw [sm_congr (f := fun i => s i * ((f i - m) * h i)) (g := fun i => s i * f i * h i + (-m) * (s i * h i)) (fun i _ => by grind), sm_add, sm_mul, hh]
  rw [sm_congr (f := fun i => s i * ((f i - m) * (f i - m))) (g := fun i => s i * f i * f i + ((-2 * m) * (s i * f i) + m * m * s i)) (fun i _ => by grind), sm_add, sm_add, sm_mul, sm_mul, W.one, hm]
  rw [sm_congr (f := fun x => s x * f x * (h x + m)) (g := fun x => s x * f x * h x + m * (s x * f x)) (fun x _ => by grind), sm_add, sm_mul, hm]
  rw [sm_mulR, hm]
  grind
end

/-! ### grids -/
section
variable {n m : Nat} {w : Nat → Nat → Rat}
/-- all weights above 0 -/
def Pos (n m : Nat) (w : Nat → Nat → Rat) : Prop := ∀ i j, i < n → j < m → 0 < w i j
def rs (m : Nat) (w : Nat → Nat → Rat) (i : Nat) : Rat := sm m (fun j => w i j)
def cs (n : Nat) (w : Nat → Nat → Rat) (j : Nat) : Rat := sm n (fun i => w i j)
def al (n m : Nat) (w : Nat → Nat → Rat) : Rat := sm n (rs m w)
/-- the shares of first parts, of second parts -/
def sF (n m : Nat) (w : Nat → Nat → Rat) (i : Nat) : Rat := rs m w i / al n m w
def sS (n m : Nat) (w : Nat → Nat → Rat) (j : Nat) : Rat := cs n w j / al n m w
/-- second by first, first by second -/
def fa (m : Nat) (w : Nat → Nat → Rat) (i j : Nat) : Rat := w i j / rs m w i
def ne (n : Nat) (w : Nat → Nat → Rat) (j i : Nat) : Rat := w i j / cs n w j
/-- the seen walk; the walk of second parts -/
def seen (n m : Nat) (w : Nat → Nat → Rat) (i k : Nat) : Rat := sm m (fun j => fa m w i j * ne n w j k)
def flip (w : Nat → Nat → Rat) : Nat → Nat → Rat := fun j i => w i j
theorem rs_pos (hm : 0 < m) (P : Pos n m w) {i : Nat} (hi : i < n) : 0 < rs m w i := sm_pos hm fun j hj => P i j hi hj
theorem cs_pos (hn : 0 < n) (P : Pos n m w) {j : Nat} (hj : j < m) : 0 < cs n w j := sm_pos hn fun i hi => P i j hi hj
theorem al_pos (hn : 0 < n) (hm : 0 < m) (P : Pos n m w) : 0 < al n m w := sm_pos hn fun _ hi => rs_pos hm P hi
theorem al_cs : al n m w = sm m (cs n w) := sm_swap n m w
theorem Pos.flip (P : Pos n m w) : Pos m n (flip w) := fun j i hj hi => P i j hi hj
theorem al_flip : al m n (flip w) = al n m w := al_cs.symm
theorem sF_flip : sF m n (flip w) = sS n m w := by
  funext j
  unfold sF sS
  rw [al_flip]
  rfl
theorem div_sum (n : Nat) (f : Nat → Rat) (c : Rat) : sm n (fun i => f i / c) = sm n f / c := by
  rw [Rat.div_def, ← sm_mulR]
  exact sm_congr fun i _ => Rat.div_def _ _
theorem fa_one (hm : 0 < m) (P : Pos n m w) {i : Nat} (hi : i < n) : sm m (fun j => fa m w i j) = 1 := by
  have h := rs_pos hm P hi
  unfold fa
  rw [div_sum]
  show rs m w i / rs m w i = 1
  grind
theorem ne_one (hn : 0 < n) (P : Pos n m w) {j : Nat} (hj : j < m) : sm n (fun i => ne n w j i) = 1 := fa_one hn P.flip hj
theorem sF_one (hn : 0 < n) (hm : 0 < m) (P : Pos n m w) : sm n (sF n m w) = 1 := by
  have h := al_pos hn hm P
  show sm n (fun i => rs m w i / al n m w) = 1
  rw [div_sum]
  show al n m w / al n m w = 1
  grind
theorem sS_one (hn : 0 < n) (hm : 0 < m) (P : Pos n m w) : sm m (sS n m w) = 1 := by
  rw [← sF_flip]
  exact sF_one hm hn P.flip
/-- the flow of a pair, both ways -/
theorem sF_fa (hm : 0 < m) (P : Pos n m w) {i j : Nat} (hi : i < n) : sF n m w i * fa m w i j = w i j / al n m w := by
  have h := rs_pos hm P hi
  unfold sF fa
  grind
theorem sS_ne (hn : 0 < n) (P : Pos n m w) {i j : Nat} (hj : j < m) : sS n m w j * ne n w j i = w i j / al n m w := by
  have h := cs_pos hn P hj
  unfold sS ne
  grind
/-- F u, N f -/
def Fu (m : Nat) (w : Nat → Nat → Rat) (u : Nat → Rat) (i : Nat) : Rat := sm m (fun j => fa m w i j * u j)
def Nf (n : Nat) (w : Nat → Nat → Rat) (f : Nat → Rat) (j : Nat) : Rat := sm n (fun i => ne n w j i * f i)
theorem seen_mul (f : Nat → Rat) (i : Nat) : sm n (fun k => seen n m w i k * f k) = Fu m w (Nf n w f) i := by
  unfold seen Fu Nf
  rw [sm_congr (g := fun k => sm m (fun j => fa m w i j * (ne n w j k * f k))) (fun k _ => by rw [← sm_mulR]; exact sm_congr fun j _ => by grind)]
  rw [sm_swap]
  exact sm_congr fun j _ => by rw [sm_mul]
theorem seen_flip_mul (u : Nat → Rat) (j : Nat) : sm m (fun k => seen m n (flip w) j k * u k) = Nf n w (Fu m w u) j := seen_mul (w := flip w) u j
/-- <F u, f> by the shares of first parts = <u, N f> by those of second parts -/
theorem adj (hn : 0 < n) (hm : 0 < m) (P : Pos n m w) (u f : Nat → Rat) : sm n (fun i => sF n m w i * (Fu m w u i * f i)) = sm m (fun j => sS n m w j * (u j * Nf n w f j)) := by
  unfold Fu Nf
  rw [sm_congr (g := fun i => sm m (fun j => w i j / al n m w * (u j * f i))) (fun i hi => by
    rw [← sm_mulR, ← sm_mul]
    exact sm_congr fun j _ => by rw [← sF_fa hm P hi]; grind)]
  rw [sm_swap]
  exact sm_congr fun j hj => by
    rw [← sm_mul, ← sm_mul]
    exact sm_congr fun i _ => by rw [← sS_ne hn P hj]; grind
theorem Fu_one (hm : 0 < m) (P : Pos n m w) {i : Nat} (hi : i < n) (c : Rat) : Fu m w (fun _ => c) i = c := by
  unfold Fu
  rw [sm_mulR, fa_one hm P hi]
  grind
theorem Nf_one (hn : 0 < n) (P : Pos n m w) {j : Nat} (hj : j < m) (c : Rat) : Nf n w (fun _ => c) j = c := by
  unfold Nf
  rw [sm_mulR, ne_one hn P hj]
  grind
theorem seen_walk (hn : 0 < n) (hm : 0 < m) (P : Pos n m w) : Walk n (seen n m w) (sF n m w) where
  row := fun i hi => by
    rw [sm_congr (g := fun k => seen n m w i k * 1) (fun k _ => by grind), seen_mul]
    rw [show Nf n w (fun _ => 1) = Nf n w (fun _ => 1) from rfl]
    unfold Fu
    rw [sm_congr (g := fun j => fa m w i j * 1) (fun j hj => by rw [Nf_one hn P hj]), sm_mulR, fa_one hm P hi]
    grind
  one := sF_one hn hm P
  kept := fun k hk => by
    unfold seen
    rw [sm_congr (g := fun i => sm m (fun j => w i j / al n m w * ne n w j k)) (fun i hi => by
      rw [← sm_mul]
      exact sm_congr fun j _ => by rw [← sF_fa hm P hi]; grind)]
    rw [sm_swap]
    rw [sm_congr (g := fun j => w k j / al n m w) (fun j hj => by
      rw [sm_mulR, div_sum]
      show cs n w j / al n m w * ne n w j k = _
      have h := cs_pos hn P hj
      unfold ne
      grind)]
    rw [div_sum]
    rfl
theorem Fu_sub (u v : Nat → Rat) (i : Nat) : Fu m w (fun j => u j - v j) i = Fu m w u i - Fu m w v i := by
  unfold Fu
  rw [← sm_sub]
  exact sm_congr fun j _ => by grind
theorem Nf_sub (u v : Nat → Rat) (j : Nat) : Nf n w (fun i => u i - v i) j = Nf n w u j - Nf n w v j := by
  unfold Nf
  rw [← sm_sub]
  exact sm_congr fun j _ => by grind
theorem Nf_congr {u v : Nat → Rat} (h : ∀ i, i < n → u i = v i) (j : Nat) : Nf n w u j = Nf n w v j := by
  unfold Nf
  exact sm_congr fun i hi => by rw [h i hi]
theorem Fu_congr {u v : Nat → Rat} (h : ∀ j, j < m → u j = v j) (i : Nat) : Fu m w u i = Fu m w v i := by
  unfold Fu
  exact sm_congr fun i hi => by rw [h i hi]
/-- the mean of given means is the mean -/
theorem mean_given (hn : 0 < n) (hm : 0 < m) (P : Pos n m w) (f : Nat → Rat) : sm m (fun j => sS n m w j * Nf n w f j) = sm n (fun i => sF n m w i * f i) := by
  have a := adj hn hm P (fun _ => 1) f
  rw [sm_congr (g := fun i => sF n m w i * f i) (fun i hi => by rw [Fu_one hm P hi]; grind)] at a
  rw [a]
  exact sm_congr fun j _ => by grind
/-- given means are ahead by the given means of what is ahead -/
theorem ahead_given (hn : 0 < n) (hm : 0 < m) (P : Pos n m w) {f h : Nat → Rat} (A : Ahead n (seen n m w) (sF n m w) f h) : Ahead m (seen m n (flip w)) (sS n m w) (Nf n w f) (Nf n w h) where
  eq := fun j hj => by
    rw [seen_flip_mul, mean_given hn hm P, ← Nf_sub]
    rw [Nf_congr (v := fun i => f i - sm n (fun k => sF n m w k * f k)) (fun i hi => by rw [← seen_mul]; exact A.eq i hi)]
    rw [Nf_sub, Nf_one hn P hj]
  mean := by rw [mean_given hn hm P]; exact A.mean
/-- raw less given: both spreads -/
theorem raw_given (hn : 0 < n) (hm : 0 < m) (P : Pos n m w) {f h : Nat → Rat} (A : Ahead n (seen n m w) (sF n m w) f h) :
    err n (sF n m w) f h - err m (sS n m w) (Nf n w f) (Nf n w h) =
      sm n (fun i => sF n m w i * ((f i - sm n (fun k => sF n m w k * f k)) * (f i - sm n (fun k => sF n m w k * f k)))) +
      sm m (fun j => sS n m w j * ((Nf n w f j - sm m (fun l => sS n m w l * Nf n w f l)) * (Nf n w f j - sm m (fun l => sS n m w l * Nf n w f l)))) := by
  have key : sm m (fun j => sS n m w j * ((Nf n w f j - sm m (fun l => sS n m w l * Nf n w f l)) * Nf n w h j)) =
      sm n (fun i => sF n m w i * ((f i - sm n (fun k => sF n m w k * f k)) * h i)) - sm n (fun i => sF n m w i * ((f i - sm n (fun k => sF n m w k * f k)) * (f i - sm n (fun k => sF n m w k * f k)))) := by
    rw [mean_given hn hm P]
    generalize hμ : sm n (fun k => sF n m w k * f k) = μ
    rw [sm_congr (g := fun j => sS n m w j * (Nf n w h j * Nf n w (fun i => f i - μ) j)) (fun j hj => by rw [Nf_sub, Nf_one hn P hj]; grind)]
    rw [← adj hn hm P, ← sm_sub]
    refine sm_congr fun i hi => ?_
    have e := A.eq i hi
    rw [seen_mul, hμ] at e
    have e' : Fu m w (Nf n w h) i = h i - (f i - μ) := by grind
    rw [e']
    grind
  unfold err
  rw [key]
  grind
end
end Ma

end
section
set_option maxHeartbeats 400000
set_option Elab.async false
set_option linter.all false
set_option maxRecDepth 100000
/-! The plain law: nothing but 0 is kept; the scan. -/
namespace Ma
section
variable {n : Nat} {Q : Nat → Nat → Rat} {s : Nat → Rat}
theorem sq_nonneg (a : Rat) : 0 ≤ a * a := by
  rcases (Rat.le_total : 0 ≤ a ∨ a ≤ 0) with h | h
  · exact Rat.mul_nonneg h h
  · have h' : 0 ≤ -a := by grind
    have := Rat.mul_nonneg h' h'
    grind
/-- what a step keeps is one number -/
theorem Walk.const (W : Walk n Q s) (ps : ∀ i, i < n → 0 < s i) (pQ : ∀ i k, i < n → k < n → 0 < Q i k) {x : Nat → Rat} (hx : ∀ i, i < n → sm n (fun k => Q i k * x k) = x i) : ∀ i k, i < n → k < n → x i = x k := by
  have inner : ∀ i, i < n → sm n (fun k => s i * Q i k * ((x i - x k) * (x i - x k))) = s i * sm n (fun k => Q i k * (x k * x k)) - s i * (x i * x i) := fun i hi => by
    rw [sm_congr (g := fun k => s i * (Q i k * (x k * x k)) + ((-2 * x i * s i) * (Q i k * x k) + (x i * x i * s i) * Q i k)) (fun k _ => by grind)]
    rw [sm_add, sm_add, sm_mul, sm_mul, sm_mul, W.row i hi, hx i hi]
    grind
  have tot : sm n (fun i => sm n (fun k => s i * Q i k * ((x i - x k) * (x i - x k)))) = 0 := by
    rw [sm_congr inner, sm_sub, W.step (fun k => x k * x k)]
    grind
  have nn : ∀ i k, i < n → k < n → 0 ≤ s i * Q i k * ((x i - x k) * (x i - x k)) := fun i k hi hk => Rat.mul_nonneg (Rat.le_of_lt (Rat.mul_pos (ps i hi) (pQ i k hi hk))) (sq_nonneg _)
  intro i k hi hk
  have z1 := sm_eq_zero (fun i hi => sm_nonneg fun k hk => nn i k hi hk) tot i hi
  have z2 := sm_eq_zero (fun k hk => nn i k hi hk) z1 k hk
  have p := Rat.mul_pos (ps i hi) (pQ i k hi hk)
  rcases Rat.mul_eq_zero.mp z2 with y | y
  · rw [y] at p; exact absurd p (by decide)
  · rcases Rat.mul_eq_zero.mp y with y | y <;> grind
theorem Walk.zero (W : Walk n Q s) (ps : ∀ i, i < n → 0 < s i) (pQ : ∀ i k, i < n → k < n → 0 < Q i k) {x : Nat → Rat} (hx : ∀ i, i < n → sm n (fun k => Q i k * x k) = x i) (h0 : sm n (fun i => s i * x i) = 0) : ∀ k, k < n → x k = 0 := fun k hk => by
  have c := W.const ps pQ hx
  rw [sm_congr (g := fun i => s i * x k) (fun i hi => by rw [c i k hi hk]), sm_mulR, W.one] at h0
  grind
/-- the mean of what a list is less its next means is 0 -/
theorem Walk.flow (W : Walk n Q s) (x : Nat → Rat) : sm n (fun i => s i * (x i - sm n (fun k => Q i k * x k))) = 0 := by
  rw [sm_congr (g := fun i => s i * x i - s i * sm n (fun k => Q i k * x k)) (fun i _ => by grind), sm_sub, W.step x]
  grind
theorem Walk.back_mean (W : Walk n Q s) (x : Nat → Rat) : sm n (fun i => s i * sm n (fun k => back Q s i k * x k)) = sm n (fun i => s i * x i) := by
  have f := W.flow x
  rw [sm_congr (g := fun i => s i * sm n (fun k => s k * x k) + s i * (x i - sm n (fun k => Q i k * x k))) (fun i hi => by rw [back_mul hi]; grind), sm_add, sm_mulR, f, W.one]
  grind
theorem Walk.back_ns (W : Walk n Q s) (ps : ∀ i, i < n → 0 < s i) (pQ : ∀ i k, i < n → k < n → 0 < Q i k) {x : Nat → Rat} (hx : ∀ i, i < n → sm n (fun k => back Q s i k * x k) = 0) : ∀ k, k < n → x k = 0 := by
  have m := W.back_mean x
  rw [sm_congr (g := fun _ => 0) (fun i hi => by rw [hx i hi]; grind), sm_zero] at m
  refine W.zero ps pQ (fun i hi => ?_) m.symm
  have := hx i hi
  rw [back_mul hi, ← m] at this
  grind
/-- the last row follows from the others -/
theorem Walk.last {n : Nat} {Q : Nat → Nat → Rat} {s : Nat → Rat} (W : Walk (n + 1) Q s) (ps : 0 < s n) {x f : Nat → Rat} (h : ∀ i, i < n → x i - sm (n + 1) (fun k => Q i k * x k) = f i) (hf : sm (n + 1) (fun i => s i * f i) = 0) : ∀ i, i < n + 1 → x i - sm (n + 1) (fun k => Q i k * x k) = f i := by
  have fl := W.flow x
  have e : sm (n + 1) (fun i => s i * (x i - sm (n + 1) (fun k => Q i k * x k)) - s i * f i) = 0 := by rw [sm_sub, fl, hf]; grind
  have e2 : sm n (fun i => s i * (x i - sm (n + 1) (fun k => Q i k * x k)) - s i * f i) + (s n * (x n - sm (n + 1) (fun k => Q n k * x k)) - s n * f n) = 0 := e
  rw [sm_congr (g := fun _ => 0) (fun i hi => by rw [h i hi]; grind), sm_zero] at e2
  intro i hi
  by_cases c : i = n
  · subst c
    have e3 : s i * ((x i - sm (i + 1) (fun k => Q i k * x k)) - f i) = 0 := by grind
    rcases Rat.mul_eq_zero.mp e3 with y | y
    · rw [y] at ps; exact absurd ps (by decide)
    · grind
  · exact h i (by omega)
/-- what is ahead, by the inverse -/
theorem inv_has (W : Walk n Q s) {G : Nat → Nat → Rat} (I : IsInv n (back Q s) G) (f : Nat → Rat) : Ahead n Q s f (fun i => sm n (fun k => G i k * f k) - sm n (fun k => s k * f k)) := by
  have q := (I (fun i => sm n (fun k => G i k * f k)) f).mpr fun i _ => rfl
  have m := W.back_mean fun i => sm n (fun k => G i k * f k)
  rw [sm_congr (g := fun i => s i * f i) (fun i hi => by rw [q i hi])] at m
  generalize hg : (fun i => sm n (fun k => G i k * f k)) = x at *
  have hx : ∀ i, sm n (fun k => G i k * f k) = x i := fun i => by rw [← hg]
  have q' : ∀ i, i < n → sm n (fun k => back Q s i k * x k) = f i := fun i hi => by rw [← q i hi]; exact sm_congr fun k _ => by rw [hx k]
  have m' : sm n (fun k => s k * f k) = sm n (fun i => s i * x i) := by rw [m]; exact sm_congr fun k _ => by rw [hx k]
  have e : (fun i => sm n (fun k => G i k * f k) - sm n (fun k => s k * f k)) = fun i => x i - sm n (fun k => s k * f k) := funext fun i => by rw [hx i]
  rw [e]
  refine ⟨fun i hi => ?_, ?_⟩
  · have := q' i hi
    rw [back_mul hi, ← m'] at this
    generalize sm n (fun k => s k * f k) = μ at *
    rw [sm_congr (f := fun k => Q i k * (x k - μ)) (g := fun k => Q i k * x k - μ * Q i k) (fun k _ => by grind), sm_sub, sm_mul, W.row i hi]
    grind
  · generalize sm n (fun k => s k * f k) = μ at *
    rw [sm_congr (g := fun i => s i * x i - μ * s i) (fun i _ => by grind), sm_sub, sm_mul, W.one, ← m']
    grind
end
/-! ### sums over pairs -/
theorem sm_app (n m : Nat) (f : Nat → Rat) : sm (n + m) f = sm n f + sm m fun k => f (n + k) := by
  induction m with
  | zero => show sm n f = _; simp only [sm]; grind
  | succ m ih =>
    show sm (n + m) f + f (n + m) = _
    rw [ih]
    simp only [sm]; grind
theorem sm_pair (n m : Nat) (f : Nat → Rat) : sm (n * m) f = sm n fun i => sm m fun j => f (i * m + j) := by
  induction n with
  | zero => rw [Nat.zero_mul]; rfl
  | succ n ih =>
    rw [Nat.succ_mul, sm_app, ih]; rfl
theorem pair_ix {m i j : Nat} (hj : j < m) : (i * m + j) / m = i ∧ (i * m + j) % m = j := by
  rw [Nat.mul_comm]
  exact ⟨by rw [Nat.mul_add_div (by omega), Nat.div_eq_of_lt hj]; rfl, by rw [Nat.mul_add_mod, Nat.mod_eq_of_lt hj]⟩
theorem pair_lt {n m p : Nat} (h : p < n * m) : p / m < n ∧ p % m < m := by
  have hm : 0 < m := Nat.pos_of_ne_zero fun z => by rw [z] at h; omega
  exact ⟨(Nat.div_lt_iff_lt_mul hm).mpr h, Nat.mod_lt _ hm⟩
section
variable {n m : Nat} {w : Nat → Nat → Rat}
/-- the scan: its rows, its shares -/
def sP (n m : Nat) (w : Nat → Nat → Rat) (p q : Nat) : Rat := ne n w (p % m) (q / m) * fa m w (q / m) (q % m)
def sU (n m : Nat) (w : Nat → Nat → Rat) (q : Nat) : Rat := w (q / m) (q % m) / al n m w
/-- means of a function of pairs by a first part -/
def F2 (m : Nat) (w : Nat → Nat → Rat) (x : Nat → Rat) (i : Nat) : Rat := sm m fun j => fa m w i j * x (i * m + j)
theorem sU_eq (hm : 0 < m) (P : Pos n m w) {q : Nat} (hq : q < n * m) : sU n m w q = sF n m w (q / m) * fa m w (q / m) (q % m) := (sF_fa hm P (pair_lt hq).1).symm
theorem sP_mul (x : Nat → Rat) (p : Nat) : sm (n * m) (fun q => sP n m w p q * x q) = Nf n w (F2 m w x) (p % m) := by
  rw [sm_pair]
  unfold Nf F2
  refine sm_congr fun i _ => ?_
  rw [← sm_mul]
  refine sm_congr fun j hj => ?_
  unfold sP
  rw [(pair_ix hj).1, (pair_ix hj).2]
  grind
theorem sU_mul (hm : 0 < m) (P : Pos n m w) (a x : Nat → Rat) : sm (n * m) (fun q => sU n m w q * (a (q / m) * x q)) = sm n (fun i => sF n m w i * (a i * F2 m w x i)) := by
  rw [sm_pair]
  refine sm_congr fun i hi => ?_
  unfold F2
  rw [← sm_mul, ← sm_mul]
  refine sm_congr fun j hj => ?_
  unfold sU
  rw [(pair_ix hj).1, (pair_ix hj).2, ← sF_fa hm P hi]
  grind
theorem sU_mul1 (hm : 0 < m) (P : Pos n m w) (x : Nat → Rat) : sm (n * m) (fun q => sU n m w q * x q) = sm n (fun i => sF n m w i * F2 m w x i) := by
  have := sU_mul hm P (fun _ => 1) x
  rw [sm_congr (g := fun q => sU n m w q * (1 * x q)) (fun q _ => by grind), this]
  exact sm_congr fun i _ => by grind
theorem F2_lift (hm : 0 < m) (P : Pos n m w) (f : Nat → Rat) {i : Nat} (hi : i < n) : F2 m w (fun q => f (q / m)) i = f i := by
  unfold F2
  rw [sm_congr (g := fun j => fa m w i j * f i) (fun j hj => by dsimp only; rw [(pair_ix hj).1]), sm_mulR, fa_one hm P hi]
  grind
theorem F2_next (u : Nat → Rat) (i : Nat) : F2 m w (fun q => u (q % m)) i = Fu m w u i := by
  unfold F2 Fu
  exact sm_congr fun j hj => by dsimp only; rw [(pair_ix hj).2]
theorem F2_add (x y : Nat → Rat) (i : Nat) : F2 m w (fun q => x q + y q) i = F2 m w x i + F2 m w y i := by
  unfold F2
  rw [← sm_add]
  exact sm_congr fun j _ => by grind
theorem F2_congr (h : ∀ q, q < n * m → x q = y q) {i : Nat} (hi : i < n) : F2 m w x i = F2 m w y i := by
  unfold F2
  refine sm_congr fun j hj => ?_
  rw [h]
  have h1 : i * m + m ≤ n * m := by rw [← Nat.succ_mul]; exact Nat.mul_le_mul_right _ hi
  omega
theorem scan_walk (hn : 0 < n) (hm : 0 < m) (P : Pos n m w) : Walk (n * m) (sP n m w) (sU n m w) where
  row := fun p hp => by
    rw [sm_congr (g := fun q => sP n m w p q * 1) (fun q _ => by grind), sP_mul (fun _ => 1)]
    rw [Nf_congr (v := fun _ => 1) fun i hi => F2_lift hm P (fun _ => 1) hi]
    exact Nf_one hn P (pair_lt hp).2 1
  one := by
    rw [sm_congr (g := fun q => sU n m w q * 1) (fun q _ => by grind), sU_mul1 hm P (fun _ => 1)]
    rw [sm_congr (g := sF n m w) (fun i hi => by rw [F2_lift hm P (fun _ => 1) hi]; grind)]
    exact sF_one hn hm P
  kept := fun q hq => by
    obtain ⟨h1, h2⟩ := pair_lt hq
    rw [sm_congr (g := fun p => sU n m w p * ((1 : Rat) * (fun p => sP n m w p q) p)) (fun q _ => by grind), sU_mul hm P (fun _ => 1)]
    have e : ∀ i, i < n → F2 m w (fun p => sP n m w p q) i = seen n m w i (q / m) * fa m w (q / m) (q % m) := fun i hi => by
      unfold F2 seen
      rw [← sm_mulR]
      exact sm_congr fun j hj => by unfold sP; dsimp only; rw [(pair_ix hj).2]; grind
    rw [sm_congr (g := fun i => sF n m w i * seen n m w i (q / m) * fa m w (q / m) (q % m)) (fun i hi => by rw [e i hi]; grind), sm_mulR, (seen_walk hn hm P).kept _ h1, sU_eq hm P hq]
/-- what is ahead along the scan -/
theorem scan_ahead (hn : 0 < n) (hm : 0 < m) (P : Pos n m w) {f h : Nat → Rat} (A : Ahead n (seen n m w) (sF n m w) f h) :
    Ahead (n * m) (sP n m w) (sU n m w) (fun q => f (q / m)) (fun q => (f (q / m) - sm n (fun k => sF n m w k * f k)) + Nf n w h (q % m)) ∧
    err (n * m) (sU n m w) (fun q => f (q / m)) (fun q => (f (q / m) - sm n (fun k => sF n m w k * f k)) + Nf n w h (q % m)) = err n (sF n m w) f h := by
  have hmean : sm (n * m) (fun q => sU n m w q * f (q / m)) = sm n (fun k => sF n m w k * f k) := by
    rw [sU_mul1 hm P (fun q => f (q / m))]
    exact sm_congr fun i hi => by rw [F2_lift hm P f hi]
  generalize hμ : sm n (fun k => sF n m w k * f k) = μ at *
  have hF : ∀ i, i < n → F2 m w (fun q => (f (q / m) - μ) + Nf n w h (q % m)) i = h i := fun i hi => by
    rw [F2_add, F2_lift hm P (fun i => f i - μ) hi, F2_next]
    have := A.eq i hi
    rw [hμ, seen_mul] at this
    grind
  refine ⟨⟨fun q hq => ?_, ?_⟩, ?_⟩
  · rw [hmean, sP_mul, Nf_congr hF]; grind
  · rw [sU_mul1 hm P, sm_congr (g := fun i => sF n m w i * h i) fun i hi => by rw [hF i hi]]
    exact A.mean
  · unfold err
    rw [hmean, hμ]
    rw [sU_mul hm P (fun i => f i - μ) (fun q => (f (q / m) - μ) + Nf n w h (q % m)), sU_mul hm P (fun i => f i - μ) (fun q => f (q / m) - μ)]
    rw [sm_congr (f := fun i => sF n m w i * ((f i - μ) * F2 m w (fun q => f (q / m) - μ + Nf n w h (q % m)) i)) (g := fun i => sF n m w i * ((f i - μ) * h i)) fun i hi => by rw [hF i hi]]
    rw [sm_congr (f := fun i => sF n m w i * ((f i - μ) * F2 m w (fun q => f (q / m) - μ) i)) (g := fun i => sF n m w i * ((f i - μ) * (f i - μ))) fun i hi => by rw [F2_lift hm P (fun i => f i - μ) hi]]
/-- the scan's inverse, by the seen walk's -/
theorem scan_inv (hn : 0 < n) (hm : 0 < m) (P : Pos n m w) {G GS : Nat → Nat → Rat} (I : IsInv n (back (seen n m w) (sF n m w)) G) (IS : IsInv (n * m) (back (sP n m w) (sU n m w)) GS) {p q : Nat} (hp : p < n * m) (hq : q < n * m) :
    GS p q = (if p = q then 1 else 0) + Nf n w (fun i => G i (q / m) * fa m w (q / m) (q % m)) (p % m) - sU n m w q := by
  obtain ⟨h1, h2⟩ := pair_lt hq
  generalize hu : (fun i => G i (q / m) * fa m w (q / m) (q % m)) = u
  let e : Nat → Rat := fun i => if i = q / m then fa m w (q / m) (q % m) else 0
  have bu := (I u e).mpr fun i hi => by
    rw [sm_congr (g := fun k => if k = q / m then u i else 0) (fun k _ => by
      show G i k * (ite _ _ _) = _
      by_cases c : k = q / m
      · rw [if_pos c, if_pos c, c, ← hu]
      · rw [if_neg c, if_neg c]; grind), sm_delta h1 fun _ => u i]
  have su : sm n (fun i => sF n m w i * u i) = sU n m w q := by
    rw [← (seen_walk hn hm P).back_mean u, sm_congr (g := fun i => if i = q / m then sF n m w i * fa m w (q / m) (q % m) else 0) (fun i hi => by
      rw [bu i hi]
      show _ * (ite _ _ _) = _
      by_cases c : i = q / m
      · rw [if_pos c, if_pos c]
      · rw [if_neg c, if_neg c]; grind), sm_delta h1 fun i => sF n m w i * fa m w (q / m) (q % m)]
    exact (sU_eq hm P hq).symm
  let x : Nat → Rat := fun p => (if p = q then 1 else 0) + Nf n w u (p % m) - sU n m w q
  have fx : ∀ i, i < n → F2 m w x i = u i := fun i hi => by
    have d : F2 m w (fun p => if p = q then 1 else 0) i = e i := by
      unfold F2
      show _ = ite _ _ _
      by_cases c : i = q / m
      · rw [if_pos c, sm_congr (g := fun j => if j = q % m then fa m w i j else 0) (fun j hj => ?_), sm_delta h2, c]
        dsimp only
        by_cases c2 : j = q % m
        · rw [if_pos c2, if_pos (by rw [c, c2, Nat.mul_comm]; exact Nat.div_add_mod q m)]; grind
        · rw [if_neg c2, if_neg (fun z => c2 (by rw [← z, (pair_ix hj).2]))]; grind
      · rw [if_neg c, sm_congr (g := fun _ => 0) (fun j hj => ?_), sm_zero]
        dsimp only
        rw [if_neg (fun z => c (by rw [← z, (pair_ix hj).1]))]; grind
    have ee := bu i hi
    rw [back_mul hi, su, seen_mul] at ee
    have e1 : F2 m w x i = F2 m w (fun p => if p = q then 1 else 0) i + (F2 m w (fun p => Nf n w u (p % m)) i + F2 m w (fun p => (fun _ => - sU n m w q) (p / m)) i) := by
      rw [← F2_add, ← F2_add]
      unfold F2
      exact sm_congr fun j _ => by show _ * (_ + _ - _) = _; grind
    rw [e1, d, F2_next, F2_lift hm P (fun _ => - sU n m w q) hi]
    grind
  have k := (IS x (fun k => if k = q then 1 else 0)).mp (fun p hp => by
    rw [back_mul hp, sU_mul1 hm P, sP_mul, Nf_congr fx, sm_congr (g := fun i => sF n m w i * u i) (fun i hi => by rw [fx i hi]), su]
    show _ - _ + (_ + _ - _) = _
    grind) p hp
  rw [sm_congr (g := fun k => if k = q then GS p k else 0) (fun k _ => by
    by_cases c : k = q
    · rw [if_pos c, if_pos c]; grind
    · rw [if_neg c, if_neg c]; grind), sm_delta hq] at k
  exact k.symm
end
end Ma

end
section
set_option Elab.async false
set_option linter.all false
set_option maxRecDepth 100000
set_option maxHeartbeats 2000000
set_option exponentiation.threshold 100000
/-! Rules that the layer lacks: lcm, enumerate over a tuple, own operators, != of own instances and of lists of them. -/
namespace Ru
open PySem PySem.Spec PyProof.Rows L2

/-! ### lcm -/
def rLcm : List V → Hp → VK → Prop := fun vs H Q => ∃ a b : Int, vs = [.int a, .int b] ∧ a.natAbs < 2 ^ 13000 ∧ b.natAbs < 2 ^ 13000 ∧ Q (.int ((Nat.lcm a.natAbs b.natAbs : Nat) : Int)) H
theorem log_lt {n k : Nat} (hk : 0 < k) (h : n < 2 ^ k) : n.log2 < k := by
  by_cases h0 : n = 0
  · subst h0
    rw [Nat.log2_zero]
    exact hk
  · exact (Nat.log2_lt h0).mpr h
theorem cr_lcm {X : Cx} : CallR X (.builtin "math.lcm") rLcm := by
  intro pins s σ H vs us Q I r h
  obtain ⟨a, b, rfl, ha, hb, q⟩ := h
  obtain ⟨t, u, rfl⟩ := Vals.int2 r
  have p1 : (1 : Nat) < 2 ^ 13000 := Nat.one_lt_two_pow (by decide)
  have l1 : (max 1 a.natAbs).log2 < 13000 := log_lt (by decide) (Nat.max_lt.mpr ⟨p1, ha⟩)
  have l2 : (max a.natAbs b.natAbs).log2 < 13000 := log_lt (by decide) (Nat.max_lt.mpr ⟨ha, hb⟩)
  have e1 : Nat.lcm 1 a.natAbs = a.natAbs := PySem.W.mc_lcm_one _
  have l3 : (a.natAbs.lcm b.natAbs) < 2 ^ 26000 := by
    refine Nat.lt_of_le_of_lt (PySem.W.mc_lcm_le _ _) ?_
    rw [show (26000 : Nat) = 13000 + 13000 from rfl, Nat.pow_add]
    exact Nat.mul_lt_mul'' ha hb
  have l4 : (a.natAbs.lcm b.natAbs).log2 < 26000 := log_lt (by decide) l3
  have e : bitsLine = 134217728 := by decide
  have g := PySem.W.mg_run_lcm a t b u (by omega) (by omega) (by rw [e1, e, Int.natAbs_natCast]; omega)
  rw [e1] at g
  exact call_function_meets PySem.W.MGF.kind_lcm PySem.W.MGF.plain_lcm PySem.W.MGF.entry_lcm (PySem.W.MGF.args_lcm _ _) g.meets ⟨.int _, H, I.tok _, ⟨_, rfl⟩, q⟩

/-! ### enumerate over a tuple -/
theorem meets_enumerate_newT (l : Addr) (items : Array Value) (n : Nat) (dct : Option Addr) (sl : Array (Option Value)) :
    Meets (Builtin.«enumerate.__new__» ⟨[.type "enumerate", .ref l], []⟩) (fun _ R s => s.heap.get? l = some { cls := .type "tuple", dict := dct, data := .seq items n, slots := sl } ∧
      R (.ok (.ret (.ref (s.heap.push { cls := .type "tuple_iterator", data := .fields #[.ref l, .int 0 0] }).objs.size)))
        { s with heap := (s.heap.push { cls := .type "tuple_iterator", data := .fields #[.ref l, .int 0 0] }).push { cls := .type "enumerate", data := .fields #[.none, .bool false, .ref s.heap.objs.size, rawInt 0, .none, .none] } }) :=
  .of_wp fun prog w A R s h => by
    obtain ⟨hp, g, d, tk, os⟩ := s; obtain ⟨hl, h⟩ := h
    have hsub := sub_enumerate
    have hL : Heap.IsTuple (Shared.heap ⟨hp, g, d, tk, os⟩) l items := ⟨_, hl, rfl, n, rfl⟩
    wp_walk using AutoSeq1.wpAny_loadPart' hl
    refine wpAny_stack_any fun st => wpAny_pure ?_
    split
    · rename_i c _ _ _ _ _
      cases (c == Value.type "enumerate")
      · wp_walk using AutoSeq1.wpAny_loadPart' hl, wpAny_pyIter_tuple hL
        exact ⟨_, rfl, h⟩
      · wp_walk using AutoSeq1.wpAny_loadPart' hl, wpAny_pyIter_tuple hL
        exact ⟨_, rfl, h⟩
    · wp_walk using AutoSeq1.wpAny_loadPart' hl, wpAny_pyIter_tuple hL
      exact ⟨_, rfl, h⟩
section
variable {prog : Program} {w : World} {A : Around} {E : Value → Shared → Prop} {s : Shared}
theorem call_enumerate_tuple {l : Addr} {items : Array Value} {Q : Value → Shared → Prop} (hL : s.heap.IsTuple l items)
    (h : ∀ h', IsEnum h' (s.heap.objs.size + 1) s.heap.objs.size 0 .none → h'.IsTupleIter s.heap.objs.size l 0 → h'.objs.size = s.heap.objs.size + 2 →
      (∀ b o, s.heap.get? b = some o → h'.get? b = some o) → Q (.ref (s.heap.objs.size + 1)) { s with heap := h' }) :
    wpAny (model prog w) A (call (.type "enumerate") [.ref l]) Q E s := by
  obtain ⟨⟨c, dct, dt, sl⟩, hl, hc, n, hd⟩ := hL
  replace hc : c = .type "tuple" := hc
  replace hd : dt = .seq items n := hd
  subst hc hd
  refine callType_new F.called_enumerate (by decide) (F.typeCall_enumerate_1 _) (F.newCall_enumerate_1 _) (fun obj => F.args_object_init_2 obj _) F.entry_enumerate_new
    (meets_enumerate_newT l items n dct sl) ⟨hl, ?_⟩
  have hz : (s.heap.push { cls := .type "tuple_iterator", data := .fields #[.ref l, .int 0 0] }).objs.size = s.heap.objs.size + 1 := Heap.size_push ..
  show _ ∧ _
  rw [hz]
  have he : IsEnum ((s.heap.push { cls := .type "tuple_iterator", data := .fields #[.ref l, .int 0 0] }).push
      { cls := .type "enumerate", data := .fields #[.none, .bool false, .ref s.heap.objs.size, rawInt 0, .none, .none] }) (s.heap.objs.size + 1) s.heap.objs.size 0 .none := by
    have := Heap.get?_push_size (s.heap.push { cls := .type "tuple_iterator", data := .fields #[.ref l, .int 0 0] })
      (o := { cls := .type "enumerate", data := .fields #[.none, .bool false, .ref s.heap.objs.size, rawInt 0, .none, .none] }) rfl
    rw [hz] at this; exact this
  refine ⟨⟨_, he, rfl⟩, h _ he ⟨_, Heap.get?_push_of_some _ (Heap.get?_push_size _ rfl), rfl, rfl⟩ (by rw [Heap.size_push, hz]) fun b o x => Heap.get?_push_of_some _ (Heap.get?_push_of_some _ x)⟩
end

section
variable {prog : Program} {w : World} {A : Around} {E : Value → Shared → Prop} {s : Shared}
theorem wpAny_pyNext_enum_endT {e it l : Addr} {i : Nat} {items : Array Value} {old : Value} {Q : Option Value → Shared → Prop} (hh : A.handled = none)
    (he : IsEnum s.heap e it i old) (hit : s.heap.IsTupleIter it l i) (hl : s.heap.IsTuple l items) (hx : items[i]? = none)
    (hQ : ∀ h', Heap.ExtBut it s.heap h' → Q none { s with heap := h' }) : wpAny (model prog w) A (pyNext (.ref e)) Q E s := by
  have hT : s.TypeIs (.ref e) "enumerate" := ⟨_, he, rfl⟩
  unfold pyNext
  refine wpAny_bind (wpAny_attempt (wpAny_callSpecial?_slot (name := Str.ofString "__next__") hT F.slot_enumerate_next
    (wpAny_call_entry F.slot_enumerate_next hT F.entry_enumerate_next ?_ (F.args_enumerate_next_1 _))))
  show wpAny _ _ (field (.ref e) 2 >>= _) _ _ _
  refine wpAny_bind (wpAny_field he rfl (x := .ref it) rfl ?_)
  refine wpAny_bind (RZ.nextOf_tuple_end hh hit hl hx fun h' x he' hx' => ?_)
  obtain ⟨o, ho, hc⟩ := hx'
  refine wpAny_bind (wpAny_isInstance (T := "StopIteration") (b := true) ⟨o, ho, hc⟩ isSubtype_stop ?_)
  exact wpAny_pure (hQ _ he')
end
/-- the tuple at a, each item in a new pair -/
def IteT (K : PySem.W.Frag) (a : Addr) : It :=
  ⟨fun i H => ∃ (xs : List V) (x : V), SqT K H a xs ∧ xs[i]? = some x, fun i H v H' => ∃ T x, v = .ref T ∧ H T = none ∧ H' = upd H T (.tup [.int (i : Nat), x]) ∧ ∀ xs, SqT K H a xs → xs[i]? = some x, fun i H => ∃ xs : List V, SqT K H a xs ∧ xs.length ≤ i⟩
theorem turn_enumT {P : Program} {w : World} {K : PySem.W.Frag} {elts : List Expr} {kk : Nat} {tpos : Pos} (a e it : Addr) :
    Turn P w K (.Tuple elts kk tpos) (IteT K a) [e, it] e (fun i h => (∃ old, IsEnum h e it ((i : Nat) : Int) old) ∧ h.IsTupleIter it a i ∧ e ≠ it ∧ a ≠ it ∧ a ≠ e) where
  mem := by simp
  obj := fun i h st b hb => by
    obtain ⟨⟨old, he⟩, ⟨o, ho, hc, hd⟩, _⟩ := st
    have e' : b = e ∨ b = it := by simpa using hb
    rcases e' with z | z
    · rw [z]; exact ⟨_, he, fun v q => nomatch q⟩
    · rw [z]; exact ⟨o, ho, fun v q => by rw [hd] at q; cases q⟩
  keep := fun i h h' st k => let ⟨⟨old, he⟩, hi, hne⟩ := st; ⟨⟨old, k e (by simp) _ he⟩, hi.at fun o q => k it (by simp) o q, hne⟩
  item := by
    intro X hP hw hK hc i pins s σ H E I hf st hg
    subst hP hw hK
    obtain ⟨⟨old, he⟩, hit, hne, hai, hae⟩ := st
    obtain ⟨xs, x, hq, hx⟩ := hg
    obtain ⟨its, rv, p, hz⟩ := I.tuple hq
    obtain ⟨u, hu, ru⟩ := rv.get hx
    have hel : e < s.heap.objs.size := Heap.lt_size he
    have hil : it < s.heap.objs.size := by obtain ⟨_, q, _⟩ := hit; exact Heap.lt_size q
    have hT0 : s.heap.IsTuple a its.toArray := p
    have D := Draws.tuple (prog := X.prog) (w := X.w) (A := X.A.in1) (I.ok.hd hc) it a hai its.toArray
    have hlt : i < its.toArray.size := by
      have := (List.getElem?_eq_some_iff.mp hu).1
      simpa using this
    refine wpAny_pyNext_enum_itemC D he ⟨hit, hT0⟩ hlt hne (by simp [hne, hae.symm]) fun x' h' tk hPx ho hst' hT hsz hk => ?_
    have hxu : x' = u := by
      have h1 : its.toArray[i]? = some u := by simpa using hu
      exact Option.some.inj (hPx.symm.trans h1)
    subst hxu
    refine ⟨_, rfl, wpAny_letOwnedTupleGo_enum (s := { s with heap := h', toks := tk + 1 }) ho fun h'' he' sb => ?_⟩
    have hT2 : h''.get? s.heap.objs.size = some { cls := .type "tuple", data := .seq #[.int i tk, x'] } := (sb.2 _ (Nat.ne_of_gt hel)).trans hT
    have new : ObjOk X.prog X.w (upd H s.heap.objs.size (.tup [.int (i : Nat), x])) h'' s.heap.objs.size (.tup [.int (i : Nat), x]) :=
      ⟨by show 2 ≤ sizeLine; decide, [.int i tk, x'], .cons ⟨_, rfl⟩ (.cons ru .nil), ⟨_, hT2, rfl, _, rfl⟩⟩
    have I1 : Inv X pins σ (upd H s.heap.objs.size (.tup [.int (i : Nat), x])) { s with heap := h'', toks := tk + 1 } :=
      I.turnedNew (ch := [e, it]) (fun b ob hb q => (sb.2 b (fun z => hb (by simp [z]))).trans (hk b ob (fun z => hb (by simp [z])) (fun z => hb (by simp [z])) q)) hf (Nat.le_refl _) new
    refine ⟨.ref s.heap.objs.size, _, I1, rfl, ⟨_, x, rfl, I.hok.fresh (Nat.le_refl _), rfl, fun ys hy => by rw [I.tuple_inj hy hq]; exact hx⟩, ⟨⟨x', ?_⟩, hst'.1.at fun o q => (sb.2 it (Ne.symm hne)).trans q, hne, hai, hae⟩, fun b hb => ?_⟩
    · have e1 : ((i + 1 : Nat) : Int) = (i : Int) + 1 := by omega
      rw [e1]; exact he'
    · have hb' : b < s.heap.objs.size := by
        have e' : b = e ∨ b = it := by simpa using hb
        rcases e' with z | z
        · rw [z]; exact hel
        · rw [z]; exact hil
      rw [upd_ne (Nat.ne_of_lt hb')]
      exact (hf b hb).1
  done := by
    intro X hP hw hK hc i pins s σ H E I hf st hg
    subst hP hw hK
    obtain ⟨⟨old, he⟩, hit, hne, hai, hae⟩ := st
    obtain ⟨xs, hq, hx⟩ := hg
    obtain ⟨its, rv, p, hz⟩ := I.tuple hq
    obtain ⟨f0, f1, f2, f3, f4, f5⟩ := hf it (by simp)
    have hl := rv.length
    have hT0 : s.heap.IsTuple a its.toArray := p
    exact wpAny_pyNext_enum_endT (I.ok.hd hc) he hit hT0 (by simp; omega) fun h' eb => ⟨rfl, I.turned (t' := s.toks) (fun b o hb q => eb b o hb q) f0 f1 f3 f4 f5⟩
  self := fun A i s Q E st h => let ⟨⟨_, he⟩, _⟩ := st; wpAny_pyIter_enum he h
/-- enumerate(x), x a list or a tuple -/
def iEnumS (K : PySem.W.Frag) (ta : TA) : TI := fun σ H R => ta σ H fun vs H1 => ∃ a xs, vs = [.ref a] ∧ ((SqL K H1 a xs ∧ R (Ite K a) H1) ∨ (SqT K H1 a xs ∧ R (IteT K a) H1))
theorem pi_enumS {X : Cx} {e : Expr} {ta : TA} {p pos tpos : Pos} {elts : List Expr} {kk : Nat} (hg : Gl X "enumerate") (hm : X.mg "enumerate" = none) (ha : PA X [e] ta) (hs : starEach [e] X.env = [(false, eval e X.env)] := by rfl) :
    PI X (.Tuple elts kk tpos) (.Call (.Name "enumerate" p) [e] [] pos) (iEnumS X.K ta) := by
  refine ⟨fun pins s σ H R I h => ?_⟩
  refine Call_ (ld_blt I hg hm boot_enumerate (PyProof.Rows.callWith_type1 (thn (ha.run pos pins s σ H _ I h) fun us s1 ⟨vs, H1, I1, r1, q1⟩ => ?_) hs rfl))
  obtain ⟨a, xs, ex, q1⟩ := q1
  subst ex
  cases r1 with
  | cons r rr =>
    cases rr
    cases r
    rcases q1 with ⟨hq, q⟩ | ⟨hq, q⟩
    · obtain ⟨its, rv, p', hz⟩ := I1.list hq
      refine call_enumerate_list p'.isList fun h' he hit hsz hk => wpAny_pyIter_enum he ?_
      have I2 : Inv X pins σ H1 { s1 with heap := h' } := I1.kept (t' := s1.toks) hk
      refine ⟨s1.heap.objs.size + 1, [s1.heap.objs.size + 1, s1.heap.objs.size], _, _, H1, rfl, I2, turn_enum a (s1.heap.objs.size + 1) s1.heap.objs.size, ⟨⟨.none, he⟩, hit, Nat.succ_ne_self _⟩, fun b hb => ?_, q⟩
      have e' : b = s1.heap.objs.size + 1 ∨ b = s1.heap.objs.size := by simpa using hb
      have hle : s1.heap.objs.size ≤ b := by
        rcases e' with z | z
        · rw [z]; exact Nat.le_add_right _ _
        · rw [z]; exact Nat.le_refl _
      exact I1.fpOk hle (I1.hok.fresh hle)
    · obtain ⟨its, rv, p', hz⟩ := I1.tuple hq
      have hal : a < s1.heap.objs.size := p'.lt
      refine call_enumerate_tuple (show s1.heap.IsTuple a its.toArray from p') fun h' he hit hsz hk => wpAny_pyIter_enum he ?_
      have I2 : Inv X pins σ H1 { s1 with heap := h' } := I1.kept (t' := s1.toks) hk
      refine ⟨s1.heap.objs.size + 1, [s1.heap.objs.size + 1, s1.heap.objs.size], _, _, H1, rfl, I2, turn_enumT a (s1.heap.objs.size + 1) s1.heap.objs.size, ⟨⟨.none, he⟩, hit, Nat.succ_ne_self _, Nat.ne_of_lt hal, Nat.ne_of_lt (Nat.lt_succ_of_lt hal)⟩, fun b hb => ?_, q⟩
      have e' : b = s1.heap.objs.size + 1 ∨ b = s1.heap.objs.size := by simpa using hb
      have hle : s1.heap.objs.size ≤ b := by
        rcases e' with z | z
        · rw [z]; exact Nat.le_add_right _ _
        · rw [z]; exact Nat.le_refl _
      exact I1.fpOk hle (I1.hok.fresh hle)
/-- what is walked: a list or a tuple -/
def iSeq (K : PySem.W.Frag) (tl : TE) : TI := fun σ H R => tl σ H fun x H1 => ∃ a, x = .ref a ∧ (((∃ xs, SqL K H1 a xs) ∧ R (Itl K a) H1) ∨ ((∃ xs, SqT K H1 a xs) ∧ R (Itt K a) H1))
theorem pi_seq {X : Cx} {tg l : Expr} {tl : TE} (hl : PE X l tl) : PI X tg l (iSeq X.K tl) := by
  refine ⟨fun pins s σ H R I h => ?_⟩
  refine thn (hl.run pins s σ H _ I h) fun v s1 ⟨x, H1, I1, r1, q1⟩ => ?_
  obtain ⟨a, e, q1⟩ := q1
  subst e
  cases r1
  rcases q1 with ⟨⟨xs, hq⟩, q⟩ | ⟨⟨xs, hq⟩, q⟩
  · obtain ⟨its, rv, p, hz⟩ := I1.list hq
    refine wpAny_pyIter_list p.isList ?_
    refine ⟨s1.heap.objs.size, [s1.heap.objs.size], _, _, H1, rfl, I1.kept (t' := s1.toks) fun b o e => Heap.get?_push_of_some _ e, turn_list a _, ⟨_, Heap.get?_push_size _ rfl, rfl, rfl⟩, fun b hb => ?_, q⟩
    have e : b = s1.heap.objs.size := by simpa using hb
    subst e
    exact I1.fpOk (Nat.le_refl _) (I1.hok.fresh (Nat.le_refl _))
  · obtain ⟨its, rv, p, hz⟩ := I1.tuple hq
    refine wpAny_pyIter_tuple (show s1.heap.IsTuple a its.toArray from p) ?_
    refine ⟨s1.heap.objs.size, [s1.heap.objs.size], _, _, H1, rfl, I1.kept (t' := s1.toks) fun b o e => Heap.get?_push_of_some _ e, turn_tuple a _, ⟨_, Heap.get?_push_size _ rfl, rfl, rfl⟩, fun b hb => ?_, q⟩
    have e : b = s1.heap.objs.size := by simpa using hb
    subst e
    exact I1.fpOk (Nat.le_refl _) (I1.hok.fresh (Nat.le_refl _))

/-! ### defs of the module, called -/
section
variable (P : Program) (w : World) (K : PySem.W.Frag) (mg : Str → Option Value) (base : Heap)
/-- the module's x is a def that keeps the promise sp (positional arguments) -/
def Ca (k : Nat) (x : Str) (sp : Sp) : Prop := ∃ f, mg x = some (.ref f) ∧ PySem.W.keepIn K (.ref f) = true ∧ FnR P w K mg base CX0 k f sp
end
section
variable {X : Cx} {k : Nat} {sp : Sp} {x : Str} {p pos : Pos} {e : Expr} {es : List Expr} {t : TA}
def tCa (sp : Sp) (t : TA) : TE := fun σ H Q => t σ H fun vs H1 => sp vs H1 Q E0
theorem pe_ca (c : Ca X.prog X.w X.K X.mg X.base k x sp) (hr : Room k X.A) (ha : PA X (e :: es) t) (hg : Gl X x := by rfl) (hdb : (x == ("__debug__" : Str)) = false := by decide)
    (he : starEach (e :: es) X.env = (false, eval e X.env) :: starEach es X.env := by rfl) (hpl : (backTo pos (starEach es X.env)).any (·.1) = false := by rfl) : PE X (.Call (.Name x p) (e :: es) [] pos) (tCa sp t) := by
  obtain ⟨f, hm, hk, F⟩ := c
  refine ⟨fun pins s σ H Q I h => ?_⟩
  refine wpAny_Call_Name_kw (ld_glob I hg hm ?_ hdb)
  refine PySem.W.callWith_K (h₀ := X.base) I.ok.mod.kin hk (thn (ha.run pos pins s σ H _ I h) fun us s1 ⟨vs, H1, I1, r, q⟩ => ⟨I1.kIn, ?_⟩) he hpl
  exact wpAny_call (run_fnR F hr pass0 I1 r q)
/-- the def of x, called with these keywords alone -/
def KwBind (K : PySem.W.Frag) (fd : FuncData) (ps ks : List Str) (g : List Value → List Value) (gV : List V → List V) : Prop :=
  (∀ (s : Shared) (ws : List Value), K.In s.heap → ws.length = ks.length → BindsTo s fd ⟨[], ks.zip ws⟩ (ps.zip (g ws))) ∧ ∀ {zs : List V} {ws : List Value}, Vals zs ws → Vals (gV zs) (g ws)
def tCaK (n : Nat) (sp : Sp) (gV : List V → List V) (tk : TA) : TE := fun σ H Q => tk σ H fun zs H1 => zs.length = n ∧ sp (gV zs) H1 Q E0
theorem pe_caK {f : Addr} {fd : FuncData} {ps ks : List Str} {kws : List Keyword} {tk : TA} {g : List Value → List Value} {gV : List V → List V}
    (F : FnOk X.prog X.w X.K X.mg X.base CX0 k f fd ps sp) (hr : Room k X.A) (hm : X.mg x = some (.ref f)) (hk : PySem.W.keepIn X.K (.ref f) = true) (hb : KwBind X.K fd ps ks g gV) (hkw : PK X kws tk) (hg : Gl X x := by rfl)
    (hall : (backToKw pos (keywordEach kws X.env)).all (·.1.isSome) = true := by rfl) (hks : (backToKw pos (keywordEach kws X.env)).filterMap (·.1) = ks := by rfl) (hdb : (x == ("__debug__" : Str)) = false := by decide)
    (hpl : ((backTo pos (starEach [] X.env)).any (·.1) || (backToKw pos (keywordEach kws X.env)).any (·.1.isNone)) = false := by rfl) :
    PE X (.Call (.Name x p) [] kws pos) (tCaK ks.length sp gV tk) := by
  refine ⟨fun pins s σ H Q I h => ?_⟩
  refine wpAny_Call_Name_kw (ld_glob I hg hm ?_ hdb)
  refine PySem.W.callWith_KW0 (h₀ := X.base) I.ok.mod.kin hk hall (thn (hkw.run pos pins s σ H _ I h) fun ws s2 ⟨zs, H2, I2, rz, l2, q2⟩ => ⟨I2.kIn, ?_⟩) hpl
  rw [hks]
  have r2 := hb.2 rz
  refine wpAny_call (codeAny_mono (F.run X.A X.stack s2 H2 ⟨[], ks.zip ws⟩ (g ws) (gV zs) Q E0 hr I2.env0 (hb.1 s2 ws I2.kIn (rz.length.symm.trans l2)) r2 q2) fun r s' hq => ?_)
  cases r with
  | error e => exact hq.elim
  | ok fl =>
    cases fl with
    | ret u => exact I2.after hq
    | next => exact False.elim hq
    | brk => exact False.elim hq
    | cont => exact False.elim hq
/-- C(e, ..), C an own class -/
theorem pe_mk {C f : Addr} (M : Mk X.K C f) (F : FnR X.prog X.w X.K X.mg X.base CX0 k f sp) (hr : Room (k + 1) X.A) (hm : X.mg x = some (.ref C)) (ha : PA X (e :: es) t) (hg : Gl X x := by rfl) (hdb : (x == ("__debug__" : Str)) = false := by decide)
    (he : starEach (e :: es) X.env = (false, eval e X.env) :: starEach es X.env := by rfl) (hpl : (backTo pos (starEach es X.env)).any (·.1) = false := by rfl) : PE X (.Call (.Name x p) (e :: es) [] pos) (StX.tMakeR C sp E0 t) :=
  StX.pe_makeR M F hr hg hm pass0 ha hdb he hpl
end
end Ru

end
section
set_option Elab.async false
set_option linter.all false
set_option maxRecDepth 100000
set_option maxHeartbeats 2000000
/-! Own operators, == and != of own instances and of lists of them. -/
namespace Ru
open PySem PySem.Spec PyProof.Rows L2
section
variable {prog : Program} {w : World} {A : Around} {E : Value → Shared → Prop} {s : Shared} {K : PySem.W.Frag} {x C L f : Addr} {h₀ : Heap} {m : Str → Option Value} {ox : Obj} {od : Option Obj} {b tb : Value}
open PySem.W in
theorem ne_K {Q : Value → Shared → Prop} (hu : A.units + 1 < cLine) (F : Fr h₀ L s.heap m) (X₀ : K.In h₀) (I : InstAt s.heap x ox C od) (hb : Looks (model prog w) s.heap (typeOf b) tb) (hn : notFirst K C tb = true)
    (hs : findIn K (.ref C) "__ne__" = some (some (.builtin "object.__ne__"))) (he : findIn K (.ref C) "__eq__" = some (some (.ref f))) (hf : isFn K (.ref f) = true) (hm : mroIn K C (.type "object") = some true)
    (h : wpAny (model prog w) A.in1 (call (.ref f) [.ref x, b]) (fun v s' => ∃ r, v = .bool r ∧ Q (.bool (!r)) s') E s) : wpAny (model prog w) A (richCompare .NotEq (.ref x) b) Q E s := by
  have X := X₀.keeps F.keep
  have body : wpAny (model prog w) A (call (.builtin "object.__ne__") [.ref x, b]) (fun v s' => v ≠ .notImplemented ∧ Q v s') E s := by
    refine wpAny_call (codeAny_call_builtin (show plainId "object.__ne__" = true by decide +kernel) PySem.F.cmpEntry_ne (check_slot (i := "object.__ne__") (owner := "object") (n := "__ne__") PySem.F.cmpKind_ne PySem.F.cmpSplit_ne (I.type.andThen (looks_mroIn X hm)) (PySem.F.cmpArgs_ne _ _) ?_))
    unfold Builtin.«object.__ne__»
    repeat (first
      | with_reducible refine wpAny_cRoomFor (A := A.in1) (show A.in1.units < cLine from hu) ?_
      | (refine wpAny_bind (m := callSpecialIfBound? (.ref x) (Str.ofString "__eq__") [b]) (ifBound_K X I he hf (wpAny_mono h (fun v s' hr => by
          obtain ⟨r, rfl, hq⟩ := hr
          repeat (first | exact ⟨fun z => (nomatch z), hq⟩ | exact wpAny_pure ⟨fun z => (nomatch z), hq⟩ | (refine wpAny_bind (m := truthy (.bool _)) (wpAny_truthy_bool ?_)) | wp_step)) fun _ _ e => e)))
      | wp_step)
  have one : wpAny (model prog w) A (tryCompare (.ref x) "__ne__" b) (fun r s' => ∃ v, r = some v ∧ Q v s') E s := by
    unfold tryCompare
    refine wpAny_bind ?_
    simp only [callSpecialIfBound?, bindSpecialIfBound?]
    refine wpAny_holding (wpAny_bind (wpAny_bind (wpAny_bind (I.type.here ((looks_findIn X hs).here ?_)))))
    refine wpAny_bind (wpAny_askSetting (wpAny_ite ?_))
    have hbs : Looks (model prog w) s.heap (bindSpecial (.builtin "object.__ne__") (.ref x)) (.builtin "object.__ne__", [.ref x]) := Looks.of_pure (by rfl)
    have fin : wpAny (model prog w) A (call (.builtin "object.__ne__") ([.ref x] ++ [b]) >>= fun v => pure (some v)) (fun r s' => ∃ v, r = some v ∧ v ≠ .notImplemented ∧ Q v s') E s := wpAny_bind (wpAny_mono body (fun v s' h' => wpAny_pure ⟨v, rfl, h'⟩) fun _ _ h' => h')
    have tail : wpAny (model prog w) A (call (.builtin "object.__ne__") ([.ref x] ++ [b]) >>= fun v => pure (some v)) (fun a s' => wpAny (model prog w) A (match a with
              | some Value.notImplemented => pure none
              | none => pure none
              | some __do_lift => pure (some __do_lift)) (fun r s' => ∃ v, r = some v ∧ Q v s') E s') E s := wpAny_mono fin (fun r s' z => by
      obtain ⟨v, rfl, hne, hq⟩ := z
      cases v <;> first | exact absurd rfl hne | exact wpAny_pure ⟨_, rfl, hq⟩) fun _ _ z => z
    split
    · exact wpAny_bind (hbs.here (wpAny_pure tail))
    · exact wpAny_tryCatch (wpAny_bind (hbs.here (wpAny_pure tail)))
  unfold richCompare
  simp only [oneThing_ref]
  refine wpAny_holding (wpAny_bind (wpAny_cRoomFor (Nat.lt_of_succ_lt hu) ?_))
  refine wpAny_bind (I.type.here (wpAny_bind (hb.here ?_)))
  split
  · rename_i q
    have e : subIn K tb (.ref C) = some false := by
      rcases Bool.or_eq_true_iff.mp hn with e | e
      · rw [beq_iff_eq.mp e] at q; simp at q
      · exact beq_iff_eq.mp e
    refine wpAny_bind ((looks_subIn X e).here ?_)
    simp only [Bool.false_eq_true, if_false]
    refine wpAny_bind (wpAny_mono one (fun r s' z => ?_) fun _ _ e => e)
    obtain ⟨v, rfl, hq⟩ := z
    exact wpAny_pure hq
  · refine wpAny_bind (wpAny_pure ?_)
    simp only [Bool.false_eq_true, if_false]
    refine wpAny_bind (wpAny_mono one (fun r s' z => ?_) fun _ _ e => e)
    obtain ⟨v, rfl, hq⟩ := z
    exact wpAny_pure hq
end

/-! ### operators of an own class -/
/-- an instance of the class at C -/
def InsV (C : Addr) (x : V) (H : Hp) : Prop := ∃ a dx fs, x = .ref a ∧ H a = some (.ins C dx fs)
/-- x op y: x an instance, y one too, or an int -/
def rOwn (C : Addr) (sp : Sp) : R2 := fun x y H Q => InsV C x H ∧ (InsV C y H ∨ ∃ i, y = .int i) ∧ sp [x, y] H Q E0
def rOwnNe (C : Addr) (sp : Sp) : R2 := fun x y H Q => InsV C x H ∧ InsV C y H ∧ sp [x, y] H (fun v H' => ∃ b, v = .bl b ∧ Q (.bl (!b)) H') E0
structure OwnOp (K : PySem.W.Frag) (C f : Addr) (op : Operator) : Prop where
  fst : PySem.W.selfFirst K C = true
  me : PySem.W.findIn K (.ref C) (PySem.dunder op.info.2) = some (some (.ref f))
  fn : PySem.W.isFn K (.ref f) = true
  re : ∃ g : Addr, PySem.W.findIn K (.ref C) (dunderR op.info.2) = some (some (.ref g))
  i1 : ∃ fo, PySem.W.findIn K (.type "int") (PySem.dunder op.info.2) = some fo
  i2 : ∃ ro, PySem.W.findIn K (.type "int") (dunderR op.info.2) = some ro
  sub : PySem.W.subIn K (.type "int") (.ref C) = some false
section
variable {X : Cx} {k : Nat} {C f : Addr} {sp : Sp}
theorem InsV.inst {pins : List (Addr × Obj)} {s : Shared} {σ : L2.St} {H : Hp} {x : V} {v : Value} (I : Inv X pins σ H s) (h : InsV C x H) (r : RelV x v) : ∃ a dx od, v = .ref a ∧ PySem.W.InstAt s.heap a (PySem.W.instObj C dx) C (some od) := by
  obtain ⟨a, dx, fs, rfl, ha⟩ := h
  cases r
  obtain ⟨mA, J, _⟩ := ins_get I.hok ha
  obtain ⟨od, J, _⟩ := J.look
  exact ⟨a, dx, od, rfl, J⟩
theorem back_ok {pins : List (Addr × Obj)} {σ : L2.St} {Q : VK} {u : Value} {s : Shared} (h : EP X pins σ Q u s) : PySem.W.CmpBack (EP X pins σ Q) u s := by
  obtain ⟨v, H, I, r, q⟩ := id h
  cases u <;> first | exact h | (cases v <;> first | (obtain ⟨_, z⟩ := r; cases z; done) | (cases r; done))
theorem op_own {op : Operator} (o : OwnOp X.K C f op) (F : FnR X.prog X.w X.K X.mg X.base CX0 k f sp) (hr : Room k X.A) : OpR X (binaryOp op) (rOwn C sp) := by
  intro pins s σ H x y v u Q I rx ry h
  obtain ⟨hx, hy, q⟩ := h
  obtain ⟨a, dx, od, rfl, J⟩ := hx.inst I rx
  obtain ⟨m, hF⟩ := I.fr
  have go : wpAny (model X.prog X.w) X.A (call (.ref f) [.ref a, u]) (PySem.W.CmpBack (EP X pins σ Q)) X.xe s :=
    thn (wpAny_call (run_fnR F hr pass0 I (.cons rx (.cons ry .nil)) q)) fun u' s' z => back_ok z
  rcases hy with hy | ⟨i, rfl⟩
  · obtain ⟨b, dy, od', rfl, J'⟩ := hy.inst I ry
    exact PySem.W.binop_K hF I.ok.mod.kin J J'.type o.fst o.me o.fn go
  · obtain ⟨t, rfl⟩ := ry
    obtain ⟨g, hg⟩ := o.re
    obtain ⟨fo, h1⟩ := o.i1
    obtain ⟨ro, h2⟩ := o.i2
    exact PySem.W.ksp_binT hF I.ok.mod.kin J rfl o.fst o.me o.fn hg (.inr ⟨g, rfl⟩) h1 h2 o.sub go
structure OwnEq (K : PySem.W.Frag) (C f : Addr) : Prop where
  me : PySem.W.findIn K (.ref C) "__eq__" = some (some (.ref f))
  fn : PySem.W.isFn K (.ref f) = true
  ne : PySem.W.findIn K (.ref C) "__ne__" = some (some (.builtin "object.__ne__"))
  ob : PySem.W.mroIn K C (.type "object") = some true
theorem op_ownEq (o : OwnEq X.K C f) (F : FnR X.prog X.w X.K X.mg X.base CX0 k f sp) (hr : Room k X.A) : OpR X (compareOp .Eq) (fun x y H Q => InsV C x H ∧ InsV C y H ∧ sp [x, y] H Q E0) := by
  intro pins s σ H x y v u Q I rx ry h
  obtain ⟨hx, hy, q⟩ := h
  obtain ⟨a, dx, od, rfl, J⟩ := hx.inst I rx
  obtain ⟨b, dy, od', rfl, J'⟩ := hy.inst I ry
  obtain ⟨m, hF⟩ := I.fr
  show wpAny (model X.prog X.w) X.A (richCompare .Eq (.ref a) (.ref b)) _ _ _
  exact PySem.W.cmp_K (op := .Eq) (tb := .ref C) hr.units0 hF I.ok.mod.kin J J'.type (by simp [PySem.W.notFirst]) o.me o.fn (thn (wpAny_call (run_fnR F hr pass0 I (.cons rx (.cons ry .nil)) q)) fun u' s' z => back_ok z)
theorem op_ownNe (o : OwnEq X.K C f) (F : FnR X.prog X.w X.K X.mg X.base CX0 k f sp) (hr : Room (k + 1) X.A) : OpR X (compareOp .NotEq) (rOwnNe C sp) := by
  intro pins s σ H x y v u Q I rx ry h
  obtain ⟨hx, hy, q⟩ := h
  obtain ⟨a, dx, od, rfl, J⟩ := hx.inst I rx
  obtain ⟨b, dy, od', rfl, J'⟩ := hy.inst I ry
  obtain ⟨m, hF⟩ := I.fr
  show wpAny (model X.prog X.w) X.A (richCompare .NotEq (.ref a) (.ref b)) _ _ _
  refine ne_K (tb := .ref C) (hu_of hr) hF I.ok.mod.kin J J'.type (by simp [PySem.W.notFirst]) o.ne o.me o.fn o.ob (wpAny_call (codeAny_mono (F X.A.in1 X.stack s H [.ref a, .ref b] [x, y] _ E0 hr.in1 I.env0.in1 (.cons rx (.cons ry .nil)) q) fun r s' hq => ?_))
  cases r with
  | error e => exact hq.elim
  | ok fl =>
    cases fl with
    | ret u =>
      obtain ⟨z, H', I', rz, b, ez, q2⟩ := I.after hq
      subst ez
      cases rz
      exact ⟨b, rfl, .bl (!b), H', I', rfl, q2⟩
    | next => exact False.elim hq
    | brk => exact False.elim hq
    | cont => exact False.elim hq
end
end Ru

/-! ### lists that are item by item equal: != is False -/
namespace Ru
open PySem PySem.SeqAt
open AutoSeq1 (wpAny_loadPart')
open MeetsSeq MeetsSeq2 MeetsSeq3 SeqRoads2
section
variable {prog : Program} {w : World} {A : Around} {R : Result → Shared → Prop}
theorem ne_loopG (l b : Addr) (N : Nat) (I : Nat → Shared → Prop) (hl : GQ.ListI prog w A (fun e s' => R (.error e) s') l b N I)
    (fin : ∀ s, I N s → R (.ok (.ret (.bool false))) s) (k : Nat) :
    ∀ i : Nat, N - i = k → i ≤ N → ∀ s, I i s →
      wpAny (model prog w) A.in1 (Builtin.«list.__eq__.loop» ⟨[.ref l, .ref b, rawInt i, rawInt 3], []⟩) (GQ.FinOf prog w A R) (fun e s' => R (.error e) s') s := by
  induction k with
  | zero =>
    intro i hk hi s h
    obtain ⟨items, items2, n, n2, hl1, hb1, hs1, hs2, _⟩ := hl _ _ h
    have hi' : i = N := by omega
    have hR : R (.ok (.ret (.bool false))) s := fin s (hi' ▸ h)
    obtain ⟨hp, g, d, tk, os⟩ := s
    wp_walk using wpAny_loadPart' hl1, wpAny_loadPart' hb1
    have hi1 : items[((i : Nat) : Int).toNat]? = none := by simp; omega
    have hi2 : items2[((i : Nat) : Int).toNat]? = none := by simp; omega
    rw [hi1, hi2]
    wp_walk using wpAny_loadPart' hl1, wpAny_loadPart' hb1
    show R (.ok (.ret (.bool (items.size != items2.size)))) _
    rw [hs1, hs2]
    simpa using hR
  | succ k ih =>
    intro i hk hi s h
    obtain ⟨items, items2, n, n2, hl1, hb1, hs1, hs2, turn⟩ := hl _ _ h
    have hlt : i < items.size := by omega
    have hlt2 : i < items2.size := by omega
    have ht := turn hlt hlt2
    obtain ⟨hp, g, d, tk, os⟩ := s
    wp_walk using wpAny_loadPart' hl1, wpAny_loadPart' hb1
    have hi1 : items[((i : Nat) : Int).toNat]? = some items[i] := by simp [hlt]
    have hi2 : items2[((i : Nat) : Int).toNat]? = some items2[i] := by simp [hlt2]
    have hc : ((i : Int) + 1) = ((i + 1 : Nat) : Int) := by omega
    rw [hi1, hi2]
    refine wpAny_bind (wpAny_mono ht (fun r s2 h2 => ?_) fun _ _ x => x)
    obtain ⟨hr, h2⟩ := h2
    subst hr
    have hrec := ih (i + 1) (by omega) (by omega) s2 h2
    obtain ⟨hp2, g2, d2, tk2, os2⟩ := s2
    wp_walk
    rw [hc]
    exact ⟨plainId_quiet plain_eq_loop _, codeAny_builtin entry_eq_loop (by
      rw [Around.under_plainId plain_eq_loop _]
      exact hrec)⟩
theorem list_neG (l b : Addr) (N : Nat) (I : Nat → Shared → Prop) (hl : GQ.ListI prog w A (fun e s' => R (.error e) s') l b N I)
    (fin : ∀ s, I N s → R (.ok (.ret (.bool false))) s) {s : Shared} (h : I 0 s) :
    wpAny (model prog w) A.in1 (Builtin.«list.__ne__» ⟨[.ref l, .ref b], []⟩) (GQ.FinOf prog w A R) (fun e s' => R (.error e) s') s := by
  obtain ⟨items, items2, n, n2, hl1, hb1, hs1, hs2, _⟩ := hl _ _ h
  have hrec := ne_loopG (A := A) (R := R) l b N I hl fin _ 0 rfl (Nat.zero_le _) s h
  obtain ⟨hp, g, d, tk, os⟩ := s
  have f3 := AutoSeq1.sub_list_list
  have hne : ¬ (items.size != items2.size) = true := by simp [hs1, hs2]
  wp_walk using wpAny_loadPart' hl1, wpAny_loadPart' hb1
  exact ⟨plainId_quiet plain_eq_loop _, codeAny_builtin entry_eq_loop (by
    rw [Around.under_plainId plain_eq_loop _]
    exact hrec)⟩
end
section
variable {prog : Program} {w : World} {A : Around} {E : Value → Shared → Prop} {s : Shared}
theorem rc_listNe {l b : Addr} {N : Nat} {Q : Value → Shared → Prop} (hu : A.units < cLine) (I : Nat → Shared → Prop) (hl : GQ.ListI prog w A E l b N I)
    (fin : ∀ s, I N s → Q (.bool false) s) (h : I 0 s) : wpAny (model prog w) A (richCompare .NotEq (.ref l) (.ref b)) Q E s := by
  obtain ⟨items, items2, n, n2, hl1, hb1, _, _, _⟩ := hl _ _ h
  refine wpAny_richCompare_same_room (op := .NotEq) ⟨_, hl1, rfl⟩ ⟨_, hb1, rfl⟩ F.slot_list_ne (GQ.call_here F.slot_list_ne ⟨_, hl1, rfl⟩ F.entry_list_ne (F.args_list_ne_2 _ _) ?_) hu
  exact list_neG (R := wants (fun v s' => v ≠ .notImplemented ∧ Q v s') E) l b N I hl (fun s' q => ⟨(fun x => nomatch x), fin s' q⟩) h
end
end Ru
namespace Ru
open PySem PySem.Spec PyProof.Rows L2
section
variable {X : Cx} {n : Nat} {D : Eqv}
def rNeL (D : Eqv) : R2 := fun x y H Q => DList D x y H ∧ ∀ H', Ext H H' → Q (.bl false) H'
theorem op_neL (hD : Mon D) (h : EqG X n D) (hr : Room (n + 1) X.A) : OpR X (compareOp .NotEq) (rNeL D) := by
  intro pins s σ H x y u v Q I rx ry hq
  obtain ⟨d, q⟩ := hq
  obtain ⟨a, b, xs, ys, rfl, rfl, ha, hb, p⟩ := d
  cases rx
  cases ry
  have sb : L2.Sub X (n + 1) X.A := ⟨hr, rfl⟩
  show wpAny (model X.prog X.w) X.A (richCompare .NotEq (.ref a) (.ref b)) (EP X pins σ Q) X.xe s
  refine rc_listNe (N := xs.length) hr.units0 (fun _ s' => LoopI X pins σ H s') (fun i s' q => ?_) (fun s' z => ?_) ⟨H, I, Ext.rfl'⟩
  · obtain ⟨H1, I1, e1⟩ := id q
    obtain ⟨z, its, k, r, e⟩ := I1.hok a _ (e1 _ _ ha)
    obtain ⟨z2, its2, k2, r2, e2⟩ := I1.hok b _ (e1 _ _ hb)
    refine ⟨its.toArray, its2.toArray, k, k2, e, e2, by rw [List.size_toArray, ← r.length], by rw [List.size_toArray, ← r2.length, ← p.1], fun h1 h2 => ?_⟩
    exact turnG hD h sb p r r2 i h1 h2 s' q
  · obtain ⟨H1, I1, e1⟩ := z
    exact ⟨.bl false, H1, I1, rfl, q H1 e1⟩
end
end Ru

end
section
set_option Elab.async false
set_option linter.all false
set_option maxRecDepth 100000
set_option maxHeartbeats 2000000
/-! Data told by the abstract heap: what stands for what; expressions that only make objects; a part B of the heap that is known, the rest framed. -/
namespace Rp
open PySem PySem.Spec PyProof.Rows L2 Ru

/-! ### what stands for what -/
structure Rep (α : Type) where
  r : Hp → V → α → Prop
  mono : ∀ {H H' : Hp} {v : V} {d : α}, Ext H H' → r H v d → r H' v d
abbrev Prd {α : Type} (e : Rep α) (H : Hp) : List V → List α → Prop := Paired (e.r H)
theorem Prd.mono {α : Type} {e : Rep α} {H H' : Hp} {xs : List V} {ds : List α} (x : Ext H H') (h : Prd e H xs ds) : Prd e H' xs ds := Paired.mapP h fun _ _ q => e.mono x q
theorem Prd.len {α : Type} {e : Rep α} {H : Hp} {xs : List V} {ds : List α} (h : Prd e H xs ds) : xs.length = ds.length := Paired.length h
theorem Prd.get {α : Type} {e : Rep α} {H : Hp} : ∀ {xs : List V} {ds : List α} {i : Nat} {d : α}, Prd e H xs ds → ds[i]? = some d → ∃ x, xs[i]? = some x ∧ e.r H x d
  | _, _, _, _, .nil, h => by simp at h
  | _, _, 0, _, .cons q _, h => by simp at h; subst h; exact ⟨_, rfl, q⟩
  | _, _, i + 1, d, .cons _ t, h => by
    obtain ⟨x, h1, h2⟩ := Prd.get (i := i) (d := d) t (by simpa using h)
    exact ⟨x, by simpa using h1, h2⟩
theorem Prd.getL {α : Type} {e : Rep α} {H : Hp} : ∀ {xs : List V} {ds : List α} {i : Nat} {x : V}, Prd e H xs ds → xs[i]? = some x → ∃ d, ds[i]? = some d ∧ e.r H x d
  | _, _, _, _, .nil, h => by simp at h
  | _, _, 0, _, .cons q _, h => by simp at h; subst h; exact ⟨_, rfl, q⟩
  | _, _, i + 1, d, .cons _ t, h => by
    obtain ⟨x, h1, h2⟩ := Prd.getL (i := i) (x := d) t (by simpa using h)
    exact ⟨x, by simpa using h1, h2⟩
theorem Prd.append {α : Type} {e : Rep α} {H : Hp} : ∀ {xs ys : List V} {ds es : List α}, Prd e H xs ds → Prd e H ys es → Prd e H (xs ++ ys) (ds ++ es)
  | _, _, _, _, .nil, s => s
  | _, _, _, _, .cons r t, s => .cons r (Prd.append t s)
theorem Prd.snoc {α : Type} {e : Rep α} {H : Hp} {xs : List V} {ds : List α} {x : V} {d : α} (h : Prd e H xs ds) (q : e.r H x d) : Prd e H (xs ++ [x]) (ds ++ [d]) := h.append (.cons q .nil)
theorem Prd.set {α : Type} {e : Rep α} {H : Hp} {x : V} {d : α} (q : e.r H x d) : ∀ {xs : List V} {ds : List α} (i : Nat), Prd e H xs ds → Prd e H (xs.set i x) (ds.set i d)
  | _, _, _, .nil => .nil
  | _, _, 0, .cons _ t => .cons q t
  | _, _, i + 1, .cons r t => .cons r (Prd.set q i t)
theorem Prd.take {α : Type} {e : Rep α} {H : Hp} : ∀ {xs : List V} {ds : List α} (n : Nat), Prd e H xs ds → Prd e H (xs.take n) (ds.take n)
  | _, _, 0, _ => .nil
  | _, _, _ + 1, .nil => .nil
  | _, _, n + 1, .cons r t => .cons r (Prd.take n t)
theorem Prd.drop {α : Type} {e : Rep α} {H : Hp} : ∀ {xs : List V} {ds : List α} (n : Nat), Prd e H xs ds → Prd e H (xs.drop n) (ds.drop n)
  | _, _, 0, r => r
  | _, _, _ + 1, .nil => .nil
  | _, _, n + 1, .cons _ t => Prd.drop n t
theorem Prd.rep {α : Type} {e : Rep α} {H : Hp} {x : V} {d : α} (q : e.r H x d) : ∀ n : Nat, Prd e H (List.replicate n x) (List.replicate n d)
  | 0 => .nil
  | n + 1 => .cons q (Prd.rep q n)

def oI : Rep Int := ⟨fun _ v i => v = .int i, fun _ h => h⟩
def oB : Rep Bool := ⟨fun _ v b => v = .bl b, fun _ h => h⟩
def oZ : Rep Unit := ⟨fun _ v _ => v = .non, fun _ h => h⟩
/-- any value, as it is -/
def oV : Rep V := ⟨fun _ v x => v = x, fun _ h => h⟩
def oL {α : Type} (e : Rep α) : Rep (List α) :=
  ⟨fun H v ds => ∃ a xs, v = .ref a ∧ H a = some (.lst xs) ∧ Prd e H xs ds ∧ ds.length ≤ 1000, fun x ⟨a, xs, h1, h2, h3, h4⟩ => ⟨a, xs, h1, x _ _ h2, h3.mono x, h4⟩⟩
def oT {α : Type} (e : Rep α) : Rep (List α) :=
  ⟨fun H v ds => ∃ a xs, v = .ref a ∧ H a = some (.tup xs) ∧ Prd e H xs ds ∧ ds.length ≤ 1000, fun x ⟨a, xs, h1, h2, h3, h4⟩ => ⟨a, xs, h1, x _ _ h2, h3.mono x, h4⟩⟩
/-- a list or a tuple -/
def oS {α : Type} (e : Rep α) : Rep (List α) := ⟨fun H v ds => (oL e).r H v ds ∨ (oT e).r H v ds, fun x h => h.imp ((oL e).mono x) ((oT e).mono x)⟩
def oP {α β : Type} (e : Rep α) (f : Rep β) : Rep (α × β) :=
  ⟨fun H v d => ∃ a x y, v = .ref a ∧ H a = some (.tup [x, y]) ∧ e.r H x d.1 ∧ f.r H y d.2, fun z ⟨a, x, y, h1, h2, h3, h4⟩ => ⟨a, x, y, h1, z _ _ h2, e.mono z h3, f.mono z h4⟩⟩
/-- the two fields of a Ratio -/
def qf (q : Rat) : List (Str × V) := [("own_top", .int q.num), ("own_bottom", .int (q.den : Int))]
def oQ (C : Addr) : Rep Rat := ⟨fun H v q => ∃ a dx, v = .ref a ∧ H a = some (.ins C dx (qf q)), fun x ⟨a, dx, h1, h2⟩ => ⟨a, dx, h1, x _ _ h2⟩⟩
/-- a NUMBER: an int or a Ratio -/
def oN (C : Addr) : Rep Rat := ⟨fun H v q => (oQ C).r H v q ∨ ∃ i : Int, v = .int i ∧ q = (i : Rat), fun x h => h.imp ((oQ C).mono x) id⟩

/-! ### growing: B is the known part of H; the object at m (if any) is a pot of two ints that turns -/
def Pot (H : Hp) (a : Addr) : Prop := ∃ x y : Int, 0 ≤ x ∧ (0 ≤ y ∧ y < 2 ^ 40) ∧ H a = some (.lst [.int x, .int y])
structure Grow (m : Option Addr) (B H B2 H2 : Hp) : Prop where
  hh : ∀ a o, m ≠ some a → H a = some o → H2 a = some o
  bb : Ext B B2
  bh : Ext B2 H2
  new : ∀ a o, B2 a = some o → B a = some o ∨ H a = none
  al : ∀ a, H2 a = none → H a = none
  pot : ∀ a, m = some a → Pot H a → Pot H2 a
section
variable {m : Option Addr} {B H B1 H1 B2 H2 : Hp}
theorem Grow.refl (e : Ext B H) : Grow m B H B H := ⟨fun _ _ _ h => h, Ext.rfl', e, fun _ _ h => .inl h, fun _ h => h, fun _ _ h => h⟩
theorem ext_none {H H1 : Hp} (e : Ext H H1) {a : Addr} (h : H1 a = none) : H a = none := by
  cases q : H a with
  | none => rfl
  | some o => rw [e a o q] at h; cases h
theorem Grow.trans (g : Grow m B H B1 H1) (g' : Grow m B1 H1 B2 H2) : Grow m B H B2 H2 :=
  ⟨fun a o z h => g'.hh a o z (g.hh a o z h), g.bb.trans g'.bb, g'.bh, fun a o h => (g'.new a o h).elim (fun h => g.new a o h) fun h => .inr (g.al a h), fun a h => g.al a (g'.al a h), fun a z h => g'.pot a z (g.pot a z h)⟩
theorem ext_upd {B H : Hp} (e : Ext B H) {p : Addr} {o : HO} : Ext (upd B p o) (upd H p o) := fun a u h => by
  by_cases ha : a = p
  · subst ha; rw [upd_same] at h ⊢; exact h
  · rw [upd_ne ha] at h ⊢; exact e a u h
theorem upd_al {H : Hp} {p : Addr} {o : HO} {a : Addr} (h : upd H p o a = none) : H a = none := by
  by_cases z : a = p
  · subst z; rw [upd_same] at h; cases h
  · rwa [upd_ne z] at h
theorem pot_upd {H : Hp} {p : Addr} {o : HO} (h : H p = none) {a : Addr} (q : Pot H a) : Pot (upd H p o) a := by
  obtain ⟨x, y, h1, h2, q⟩ := q
  exact ⟨x, y, h1, h2, Ext.upd h _ _ q⟩
theorem Grow.alloc (e : Ext B H) {p : Addr} {o : HO} (h : H p = none) : Grow m B H (upd B p o) (upd H p o) :=
  ⟨fun a u _ q => Ext.upd h a u q, Ext.upd (ext_none e h), ext_upd e, fun a u q => by
    by_cases ha : a = p
    · subst ha; exact .inr h
    · rw [upd_ne ha] at q; exact .inl q, fun a q => upd_al q, fun a _ q => pot_upd h q⟩
/-- something unknown is laid -/
theorem Grow.lay (e : Ext B H) {p : Addr} {o : HO} (h : H p = none) : Grow m B H B (upd H p o) :=
  ⟨fun a u _ q => Ext.upd h a u q, Ext.rfl', e.trans (Ext.upd h), fun a u q => .inl q, fun a q => upd_al q, fun a _ q => pot_upd h q⟩
/-- where nothing turns -/
theorem Grow.any (g : Grow none B H B2 H2) : Grow m B H B2 H2 :=
  ⟨fun a o _ h => g.hh a o (fun z => nomatch z) h, g.bb, g.bh, g.new, g.al, fun a _ ⟨x, y, h1, h2, q⟩ => ⟨x, y, h1, h2, g.hh a _ (fun z => nomatch z) q⟩⟩
theorem Grow.ext (g : Grow none B H B2 H2) : Ext H H2 := fun a o h => g.hh a o (fun z => nomatch z) h
end

/-! ### what a def's slots hold: something known, or an own list that it is making -/
inductive Sl : Type 1 where
  | kn {α : Type} (e : Rep α) (d : α)
  | ow {α : Type} (p : Addr) (e : Rep α) (ds : List α)
structure Fm where
  Γ : List (Option Sl)
  m : Option Addr
  B0 : Hp
  H0 : Hp
  Bs : Hp
abbrev Fm.wG (Φ : Fm) (G : List (Option Sl)) : Fm := ⟨G, Φ.m, Φ.B0, Φ.H0, Φ.Bs⟩
abbrev Fm.put (Φ : Fm) (i : Nat) (s : Sl) : Fm := Φ.wG (Φ.Γ.set i (some s))
abbrev Fm.wB (Φ : Fm) (B : Hp) : Fm := ⟨Φ.Γ, Φ.m, Φ.B0, Φ.H0, B⟩
def SlOk (m : Option Addr) (H0 B H : Hp) (x : Option V) : Sl → Prop
  | .kn e d => ∃ v, x = some v ∧ e.r B v d
  | .ow p e ds => x = some (.ref p) ∧ m ≠ some p ∧ H0 p = none ∧ B p = none ∧ ds.length ≤ 900 ∧ ∃ xs, H p = some (.lst xs) ∧ Prd e B xs ds
def Sl.ad : Sl → Option Addr
  | .kn _ _ => none
  | .ow p _ _ => some p
structure Stt (Φ : Fm) (σ : L2.St) (B H : Hp) : Prop where
  len : σ.length = Φ.Γ.length
  at_ : ∀ (i : Nat) (s : Sl), Φ.Γ[i]? = some (some s) → ∃ x : Option V, σ[i]? = some x ∧ SlOk Φ.m Φ.H0 B H x s
  ap : ∀ (i j : Nat) (s t : Sl) (p : Addr), Φ.Γ[i]? = some (some s) → Φ.Γ[j]? = some (some t) → s.ad = some p → t.ad = some p → i = j
  g : Grow Φ.m Φ.B0 Φ.H0 B H
  bs : Ext Φ.Bs B
  mm : ∀ a, Φ.m = some a → Φ.B0 a = none ∧ Φ.H0 a ≠ none
section
variable {Φ : Fm} {σ : L2.St} {B H B2 H2 : Hp}
theorem Stt.bh (h : Stt Φ σ B H) : Ext B H := h.g.bh
theorem SlOk.grow {m : Option Addr} {H0 : Hp} {x : Option V} {s : Sl} (h : SlOk m H0 B H x s) (g : Grow m B H B2 H2) : SlOk m H0 B2 H2 x s := by
  cases s with
  | kn e d => exact let ⟨v, h1, h2⟩ := h; ⟨v, h1, e.mono g.bb h2⟩
  | ow p e ds =>
    obtain ⟨h1, h2, h3, h4, h5, xs, h6, h7⟩ := h
    refine ⟨h1, h2, h3, ?_, h5, xs, g.hh p _ h2 h6, h7.mono g.bb⟩
    cases q : B2 p with
    | none => rfl
    | some o => rcases g.new p o q with z | z
                · rw [z] at h4; cases h4
                · rw [z] at h6; cases h6
theorem Stt.grow (h : Stt Φ σ B H) (g : Grow Φ.m B H B2 H2) : Stt Φ σ B2 H2 :=
  ⟨h.len, fun i s q => let ⟨x, h1, h2⟩ := h.at_ i s q; ⟨x, h1, h2.grow g⟩, h.ap, h.g.trans g, h.bs.trans g.bb, h.mm⟩
/-- a known thing is stored -/
theorem Stt.put {α : Type} {e : Rep α} {d : α} {v : V} {i : Nat} (h : Stt Φ σ B H) (q : e.r B v d) : Stt (Φ.put i (.kn e d)) (σ.set i (some v)) B H := by
  refine ⟨?_, fun j s hj => ?_, fun j k s t p hj hk es et => ?_, h.g, h.bs, h.mm⟩
  · show (σ.set i _).length = (Φ.Γ.set i _).length
    rw [List.length_set, List.length_set]; exact h.len
  · by_cases z : i = j
    · subst z
      have hj' : (Φ.Γ.set i (some (.kn e d)))[i]? = some (some s) := hj
      have hl : i < Φ.Γ.length := by
        have := (List.getElem?_eq_some_iff.mp hj').1
        rwa [List.length_set] at this
      rw [List.getElem?_set_self hl] at hj'
      cases hj'
      exact ⟨some v, by rw [List.getElem?_set_self (by rw [h.len]; exact hl)], v, rfl, q⟩
    · have hj' : (Φ.Γ.set i (some (.kn e d)))[j]? = some (some s) := hj
      rw [List.getElem?_set_ne z] at hj'
      obtain ⟨x, h1, h2⟩ := h.at_ j s hj'
      exact ⟨x, by rw [List.getElem?_set_ne z]; exact h1, h2⟩
  · have hj' : (Φ.Γ.set i (some (.kn e d)))[j]? = some (some s) := hj
    have hk' : (Φ.Γ.set i (some (.kn e d)))[k]? = some (some t) := hk
    have go : ∀ {j : Nat} {s : Sl}, (Φ.Γ.set i (some (.kn e d)))[j]? = some (some s) → s.ad = some p → Φ.Γ[j]? = some (some s) := fun {j s} hj es => by
      by_cases z : i = j
      · subst z
        have hl : i < Φ.Γ.length := by
          have := (List.getElem?_eq_some_iff.mp hj).1
          rwa [List.length_set] at this
        rw [List.getElem?_set_self hl] at hj
        cases hj
        cases es
      · rwa [List.getElem?_set_ne z] at hj
    exact h.ap j k s t p (go hj' es) (go hk' et) es et
/-- a new own list is stored -/
theorem Stt.putO {α : Type} {e : Rep α} {ds : List α} {xs : List V} {p i : Nat} (h : Stt Φ σ B H) (hp : H p = none) (q : Prd e B xs ds) (hl : ds.length ≤ 900) : Stt (Φ.put i (.ow p e ds)) (σ.set i (some (.ref p))) B (upd H p (.lst xs)) := by
  have h' := h.grow (.lay h.bh (p := p) (o := .lst xs) hp)
  have hB : B p = none := ext_none h.bh hp
  have hm : Φ.m ≠ some p := fun z => by
    exact (h.mm p z).2 (h.g.al p hp)
  refine ⟨?_, fun j s hj => ?_, fun j k s t p' hj hk es et => ?_, h'.g, h'.bs, h.mm⟩
  · show (σ.set i _).length = (Φ.Γ.set i _).length
    rw [List.length_set, List.length_set]; exact h.len
  · by_cases z : i = j
    · subst z
      have hj' : (Φ.Γ.set i (some (.ow p e ds)))[i]? = some (some s) := hj
      have hl' : i < Φ.Γ.length := by
        have := (List.getElem?_eq_some_iff.mp hj').1
        rwa [List.length_set] at this
      rw [List.getElem?_set_self hl'] at hj'
      cases hj'
      exact ⟨some (.ref p), by rw [List.getElem?_set_self (by rw [h.len]; exact hl')], rfl, hm, h.g.al p hp, hB, hl, xs, upd_same, q⟩
    · have hj' : (Φ.Γ.set i (some (.ow p e ds)))[j]? = some (some s) := hj
      rw [List.getElem?_set_ne z] at hj'
      obtain ⟨x, h1, h2⟩ := h'.at_ j s hj'
      exact ⟨x, by rw [List.getElem?_set_ne z]; exact h1, h2⟩
  · have hj' : (Φ.Γ.set i (some (.ow p e ds)))[j]? = some (some s) := hj
    have hk' : (Φ.Γ.set i (some (.ow p e ds)))[k]? = some (some t) := hk
    have go : ∀ {j : Nat} {s : Sl}, (Φ.Γ.set i (some (.ow p e ds)))[j]? = some (some s) → s.ad = some p' → (i = j ∧ p' = p) ∨ (i ≠ j ∧ Φ.Γ[j]? = some (some s)) := fun {j s} hj es => by
      by_cases z : i = j
      · subst z
        have hl : i < Φ.Γ.length := by
          have := (List.getElem?_eq_some_iff.mp hj).1
          rwa [List.length_set] at this
        rw [List.getElem?_set_self hl] at hj
        cases hj
        cases es
        exact .inl ⟨rfl, rfl⟩
      · rw [List.getElem?_set_ne z] at hj
        exact .inr ⟨z, hj⟩
    have no : ∀ {j : Nat} {s : Sl}, Φ.Γ[j]? = some (some s) → s.ad = some p → False := fun {j s} hj es => by
      obtain ⟨x, h1, h2⟩ := h.at_ j s hj
      cases s with
      | kn _ _ => cases es
      | ow p0 e0 ds0 =>
        cases es
        obtain ⟨_, _, _, _, _, xs, h6, _⟩ := h2
        rw [hp] at h6
        cases h6
    rcases go hj' es with ⟨z, w⟩ | ⟨z, w⟩
    · rcases go hk' et with ⟨z2, w2⟩ | ⟨z2, w2⟩
      · exact z.symm.trans z2
      · subst w; exact (no w2 et).elim
    · rcases go hk' et with ⟨z2, w2⟩ | ⟨z2, w2⟩
      · subst w2; exact (no w es).elim
      · exact h.ap j k s t p' w w2 es et
/-- an own list is changed -/
theorem Stt.chg {α : Type} {e : Rep α} {ds ds' : List α} {xs' : List V} {p i : Nat} (h : Stt Φ σ B H) (hi : Φ.Γ[i]? = some (some (.ow p e ds))) (q : Prd e B xs' ds') (hl : ds'.length ≤ 900) : Stt (Φ.put i (.ow p e ds')) σ B (upd H p (.lst xs')) := by
  obtain ⟨x, hx, h1, h2, h3, h4, h5, xs, h6, h7⟩ := h.at_ i _ hi
  have hn : ∀ a o, a ≠ p → H a = some o → upd H p (.lst xs') a = some o := fun a o z w => by rw [upd_ne z]; exact w
  have hil : i < Φ.Γ.length := (List.getElem?_eq_some_iff.mp hi).1
  refine ⟨?_, fun j s hj => ?_, fun j k s t p' hj hk es et => ?_, ?_, h.bs, h.mm⟩
  · show σ.length = (Φ.Γ.set i _).length
    rw [List.length_set]; exact h.len
  · by_cases z : i = j
    · subst z
      have hj' : (Φ.Γ.set i (some (.ow p e ds')))[i]? = some (some s) := hj
      rw [List.getElem?_set_self hil] at hj'
      cases hj'
      exact ⟨x, hx, h1, h2, h3, h4, hl, xs', upd_same, q⟩
    · have hj' : (Φ.Γ.set i (some (.ow p e ds')))[j]? = some (some s) := hj
      rw [List.getElem?_set_ne z] at hj'
      obtain ⟨x, g1, g2⟩ := h.at_ j s hj'
      refine ⟨x, g1, ?_⟩
      cases s with
      | kn e d => exact g2
      | ow p2 e2 ds2 =>
        obtain ⟨k1, k2, k3, k4, k5, ys, k6, k7⟩ := g2
        have np : p2 ≠ p := fun w => z (h.ap i j _ _ p hi hj' rfl (by rw [← w]; rfl))
        exact ⟨k1, k2, k3, k4, k5, ys, hn _ _ np k6, k7⟩
  · have go : ∀ {j : Nat} {s : Sl}, (Φ.Γ.set i (some (.ow p e ds')))[j]? = some (some s) → ∃ s', Φ.Γ[j]? = some (some s') ∧ s'.ad = s.ad := fun {j s} hj => by
      by_cases z : i = j
      · subst z
        rw [List.getElem?_set_self hil] at hj
        cases hj
        exact ⟨_, hi, rfl⟩
      · rw [List.getElem?_set_ne z] at hj
        exact ⟨s, hj, rfl⟩
    obtain ⟨s', a1, a2⟩ := go (show (Φ.Γ.set i (some (.ow p e ds')))[j]? = some (some s) from hj)
    obtain ⟨t', b1, b2⟩ := go (show (Φ.Γ.set i (some (.ow p e ds')))[k]? = some (some t) from hk)
    exact h.ap j k s' t' p' a1 b1 (a2.trans es) (b2.trans et)
  · refine ⟨fun a o z w => ?_, h.g.bb, fun a o w => ?_, h.g.new, fun a w => h.g.al a (upd_al w), fun a z w => ?_⟩
    · have np : a ≠ p := fun y => by subst y; rw [h3] at w; cases w
      exact hn a o np (h.g.hh a o z w)
    · have np : a ≠ p := fun y => by subst y; rw [h4] at w; cases w
      exact hn a o np (h.g.bh a o w)
    · obtain ⟨u, v, y1, y2, y3⟩ := h.g.pot a z w
      exact ⟨u, v, y1, y2, hn a _ (fun y => by subst y; exact h2 z) y3⟩
/-- an own list is done: it is known from here on -/
theorem Stt.freeze {α : Type} {e : Rep α} {ds : List α} {p i : Nat} (h : Stt Φ σ B H) (hi : Φ.Γ[i]? = some (some (.ow p e ds))) : ∃ B2, Stt (Φ.put i (.kn (oL e) ds)) σ B2 H ∧ Ext B B2 := by
  obtain ⟨x, hx, h1, h2, h3, h4, h5, xs, h6, h7⟩ := h.at_ i _ hi
  have hil : i < Φ.Γ.length := (List.getElem?_eq_some_iff.mp hi).1
  have xb : Ext B (upd B p (.lst xs)) := Ext.upd h4
  refine ⟨upd B p (.lst xs), ⟨?_, fun j s hj => ?_, fun j k s t p' hj hk es et => ?_, ?_, h.bs.trans xb, h.mm⟩, xb⟩
  · show σ.length = (Φ.Γ.set i _).length
    rw [List.length_set]; exact h.len
  · by_cases z : i = j
    · subst z
      have hj' : (Φ.Γ.set i (some (.kn (oL e) ds)))[i]? = some (some s) := hj
      rw [List.getElem?_set_self hil] at hj'
      cases hj'
      exact ⟨x, hx, .ref p, h1, p, xs, rfl, upd_same, h7.mono xb, by omega⟩
    · have hj' : (Φ.Γ.set i (some (.kn (oL e) ds)))[j]? = some (some s) := hj
      rw [List.getElem?_set_ne z] at hj'
      obtain ⟨x, g1, g2⟩ := h.at_ j s hj'
      refine ⟨x, g1, ?_⟩
      cases s with
      | kn e d => exact let ⟨v, y1, y2⟩ := g2; ⟨v, y1, e.mono xb y2⟩
      | ow p2 e2 ds2 =>
        obtain ⟨k1, k2, k3, k4, k5, ys, k6, k7⟩ := g2
        have np : p2 ≠ p := fun w => z (h.ap i j _ _ p hi hj' rfl (by rw [← w]; rfl))
        exact ⟨k1, k2, k3, by rw [upd_ne np]; exact k4, k5, ys, k6, k7.mono xb⟩
  · have go : ∀ {j : Nat} {s : Sl}, (Φ.Γ.set i (some (.kn (oL e) ds)))[j]? = some (some s) → s.ad = some p' → Φ.Γ[j]? = some (some s) := fun {j s} hj es => by
      by_cases z : i = j
      · subst z
        rw [List.getElem?_set_self hil] at hj
        cases hj
        cases es
      · rwa [List.getElem?_set_ne z] at hj
    exact h.ap j k s t p' (go (show (Φ.Γ.set i (some (.kn (oL e) ds)))[j]? = some (some s) from hj) es) (go (show (Φ.Γ.set i (some (.kn (oL e) ds)))[k]? = some (some t) from hk) et) es et
  · refine ⟨h.g.hh, h.g.bb.trans xb, fun a o w => ?_, fun a o w => ?_, h.g.al, h.g.pot⟩
    · by_cases z : a = p
      · subst z; rw [upd_same] at w; rw [← w]; exact h6
      · rw [upd_ne z] at w; exact h.g.bh a o w
    · by_cases z : a = p
      · subst z; exact .inr h3
      · rw [upd_ne z] at w; exact h.g.new a o w
/-- less is known of the slots -/
inductive Le : List (Option Sl) → List (Option Sl) → Prop
  | nil : Le [] []
  | skip {a b : List (Option Sl)} {x : Option Sl} : Le a b → Le (none :: a) (x :: b)
  | keep {a b : List (Option Sl)} {x : Option Sl} : Le a b → Le (x :: a) (x :: b)
theorem Le.len {a b : List (Option Sl)} (h : Le a b) : a.length = b.length := by
  induction h with
  | nil => rfl
  | skip _ ih => simp [ih]
  | keep _ ih => simp [ih]
theorem Le.get {a b : List (Option Sl)} (h : Le a b) : ∀ {i : Nat} {s : Sl}, a[i]? = some (some s) → b[i]? = some (some s) := by
  induction h with
  | nil => exact fun q => q
  | skip _ ih =>
    intro i s q
    cases i with
    | zero => simp at q
    | succ i => simpa using ih (by simpa using q)
  | keep _ ih =>
    intro i s q
    cases i with
    | zero => simpa using q
    | succ i => simpa using ih (by simpa using q)
theorem Le.rf : ∀ a : List (Option Sl), Le a a
  | [] => .nil
  | _ :: a => .keep (Le.rf a)
theorem Stt.le {G : List (Option Sl)} (h : Stt Φ σ B H) (l : Le G Φ.Γ) : Stt (Φ.wG G) σ B H :=
  ⟨h.len.trans l.len.symm, fun i s q => h.at_ i s (l.get q), fun i j s t p hi hj => h.ap i j s t p (l.get hi) (l.get hj), h.g, h.bs, h.mm⟩
/-- these slots are free -/
def Free (G : List (Option Sl)) (vs : List Nat) : Prop := ∀ j ∈ vs, G[j]? = some none
theorem Stt.set_free {x : Option V} {j : Nat} (h : Stt Φ σ B H) (hj : Φ.Γ[j]? = some none) : Stt Φ (σ.set j x) B H := by
  refine ⟨by rw [List.length_set]; exact h.len, fun i s q => ?_, h.ap, h.g, h.bs, h.mm⟩
  have ne : j ≠ i := fun z => by subst z; rw [hj] at q; cases q
  obtain ⟨u, h1, h2⟩ := h.at_ i s q
  exact ⟨u, by rw [List.getElem?_set_ne ne]; exact h1, h2⟩
theorem Stt.wipe {vs : List Nat} (h : Stt Φ σ B H) (hv : Free Φ.Γ vs) : Stt Φ (wipe σ vs) B H := by
  induction vs with
  | nil => exact h
  | cons j vs ih => exact (ih fun i hi => hv i (List.mem_cons_of_mem _ hi)).set_free (hv j (List.mem_cons_self ..))
theorem Stt.to {Φ' : Fm} (h : Stt Φ σ B H) (e : Φ = Φ') : Stt Φ' σ B H := e ▸ h
theorem Stt.wBs (h : Stt Φ σ B H) : Stt (Φ.wB B) σ B H := ⟨h.len, h.at_, h.ap, h.g, Ext.rfl', h.mm⟩
theorem Stt.oBs (h : Stt (Φ.wB B2) σ B H) (x : Ext Φ.Bs B2) : Stt Φ σ B H := ⟨h.len, h.at_, h.ap, h.g, x.trans h.bs, h.mm⟩
end

/-! ### expressions -/
/-- the expression gives a d with P d (as e tells), and only makes objects -/
def EvP {α : Type} (te : TE) (Φ : Fm) (e : Rep α) (P : α → Prop) : Prop :=
  ∀ σ B H, Stt Φ σ B H → ∀ Q : VK, (∀ v d B2 H2, Grow Φ.m B H B2 H2 → e.r B2 v d → P d → Q v H2) → te σ H Q
def EvT (tt : TT) (Φ : Fm) (P : Bool → Prop) : Prop :=
  ∀ σ B H, Stt Φ σ B H → ∀ Q : Bool → Hp → Prop, (∀ b B2 H2, Grow Φ.m B H B2 H2 → P b → Q b H2) → tt σ H Q
def EvA (ta : TA) (Φ : Fm) (P : Hp → List V → Prop) : Prop :=
  ∀ σ B H, Stt Φ σ B H → ∀ Q : List V → Hp → Prop, (∀ vs B2 H2, Grow Φ.m B H B2 H2 → P B2 vs → Q vs H2) → ta σ H Q
/-! the meaning of a piece of syntax itself -/
def semE (X : Cx) (e : Expr) : TE := fun σ H Q => ∀ pins s, Inv X pins σ H s → wpAny (model X.prog X.w) X.A (eval e X.env) (EP X pins σ Q) X.xe s
def semT (X : Cx) (e : Expr) : TT := fun σ H Q => ∀ pins s, Inv X pins σ H s → wpAny (model X.prog X.w) X.A (isTrue e X.env (eval e X.env)) (TP X pins σ Q) X.xe s
def semA (X : Cx) (es : List Expr) : TA := fun σ H Q => ∀ (pos : Pos) pins s, Inv X pins σ H s → wpAny (model X.prog X.w) X.A (spliced (backTo pos (starEach es X.env))) (AP X pins σ Q) X.xe s
def semS (X : Cx) (sts : List Stmt) : TS := fun D σ H => ∀ pins s, Inv X pins σ H s → wpAny (model X.prog X.w) X.A (execs sts X.env) (SP X pins D) X.xe s
section
variable {X : Cx}
theorem pe_sem {e : Expr} : PE X e (semE X e) := ⟨fun pins s σ H Q I h => h pins s I⟩
theorem pt_sem {e : Expr} : PT X e (semT X e) := ⟨fun pins s σ H Q I h => h pins s I⟩
theorem pa_sem {es : List Expr} : PA X es (semA X es) := ⟨fun pos pins s σ H Q I h => h pos pins s I⟩
theorem pss_sem {sts : List Stmt} : PSs X sts (semS X sts) := ⟨fun pins s σ H D I h => h pins s I⟩
end
/-- e gives a d with P d; e gives d -/
def PV (X : Cx) (Φ : Fm) {α : Type} (e : Expr) (r : Rep α) (P : α → Prop) : Prop := EvP (semE X e) Φ r P
abbrev PD (X : Cx) (Φ : Fm) {α : Type} (e : Expr) (r : Rep α) (d : α) : Prop := PV X Φ e r (fun x => x = d)
def PVT (X : Cx) (Φ : Fm) (e : Expr) (P : Bool → Prop) : Prop := EvT (semT X e) Φ P
abbrev PDT (X : Cx) (Φ : Fm) (e : Expr) (b : Bool) : Prop := PVT X Φ e (fun x => x = b)
def PVA (X : Cx) (Φ : Fm) (es : List Expr) (P : Hp → List V → Prop) : Prop := EvA (semA X es) Φ P
/-- the statements bring to D -/
def SV (X : Cx) (Φ : Fm) (D : Ends) (sts : List Stmt) : Prop := ∀ σ B H, Stt Φ σ B H → semS X sts D σ H
section
variable {X : Cx} {Φ : Fm} {α β γ : Type} {r : Rep α} {r2 : Rep β} {r3 : Rep γ} {P P1 : α → Prop} {P2 : β → Prop} {P3 : γ → Prop} {e a b c : Expr} {te ta tb : TE}
theorem pv_of (h : PE X e te) (k : EvP te Φ r P) : PV X Φ e r P := fun σ B H hs Q q pins s I => h.run pins s σ H Q I (k σ B H hs Q q)
theorem pvt_of {tt : TT} {P : Bool → Prop} (h : PT X e tt) (k : EvT tt Φ P) : PVT X Φ e P := fun σ B H hs Q q pins s I => h.run pins s σ H Q I (k σ B H hs Q q)
theorem pva_of {ta : TA} {es : List Expr} {P : Hp → List V → Prop} (h : PA X es ta) (k : EvA ta Φ P) : PVA X Φ es P := fun σ B H hs Q q pos pins s I => h.run pos pins s σ H Q I (k σ B H hs Q q)
theorem sv_of {t : TS} {D : Ends} {sts : List Stmt} (h : PSs X sts t) (k : ∀ σ B H, Stt Φ σ B H → t D σ H) : SV X Φ D sts := fun σ B H hs pins s I => h.run pins s σ H D I (k σ B H hs)
theorem PV.imp {P2 : α → Prop} (h : PV X Φ e r P) (q : ∀ d, P d → P2 d) : PV X Φ e r P2 := fun σ B H hs Q k => h σ B H hs Q fun v d B2 H2 g rr p => k v d B2 H2 g rr (q d p)
theorem PV.rep (h : PV X Φ e r P) (q : ∀ H v d, P d → r.r H v d → ∃ d', r2.r H v d' ∧ P2 d') : PV X Φ e r2 P2 := fun σ B H hs Q k => h σ B H hs Q fun v d B2 H2 g rr p => by
  obtain ⟨d', r', p'⟩ := q B2 v d p rr
  exact k v d' B2 H2 g r' p'
theorem PV.to {d d' : α} (h : PD X Φ e r d) (q : d = d') : PD X Φ e r d' := q ▸ h
theorem PVT.to {b b' : Bool} (h : PDT X Φ e b) (q : b = b') : PDT X Φ e b' := q ▸ h
/-- two in a row -/
theorem ev2 (ha : EvP ta Φ r P) (hb : EvP tb Φ r2 P2) {σ : L2.St} {B H : Hp} (hs : Stt Φ σ B H) {R : V → V → Hp → Prop}
    (k : ∀ v d w d' B2 H2, Grow Φ.m B H B2 H2 → r.r B2 v d → P d → r2.r B2 w d' → P2 d' → R v w H2) : ta σ H fun v H1 => tb σ H1 fun w H2 => R v w H2 :=
  ha σ B H hs _ fun v d B1 H1 g rr p => hb σ B1 H1 (hs.grow g) _ fun w d' B2 H2 g' r' p' => k v d w d' B2 H2 (g.trans g') (r.mono g'.bb rr) p r' p'
theorem ev_op {R2 : R2} {r3 : Rep γ} {P3 : γ → Prop} (ha : EvP ta Φ r P) (hb : EvP tb Φ r2 P2)
    (k : ∀ v d w d' B H, Ext B H → r.r B v d → P d → r2.r B w d' → P2 d' → ∀ Q : VK, (∀ u z B2 H2, Grow Φ.m B H B2 H2 → r3.r B2 u z → P3 z → Q u H2) → R2 v w H Q) : EvP (tOp R2 ta tb) Φ r3 P3 := fun σ B H hs Q q =>
  ev2 ha hb hs fun v d w d' B2 H2 g rr p r' p' => k v d w d' B2 H2 g.bh rr p r' p' Q fun u z B3 H3 g' => q u z B3 H3 (g.trans g')
/-! names, constants -/
theorem pv_var {i : Nat} {x : Str} {pos : Pos} {d : α} (h : Φ.Γ[i]? = some (some (.kn r d))) (hN : X.N[i]? = some x := by rfl) (hv : Vis X.env.scope x := by first | exact .inl rfl | exact .inr (.inl rfl) | exact .inr (.inr rfl))
    (hd : (x == ("__debug__" : Str)) = false := by decide) (hcd : (x == ("__classdict__" : Str)) = false := by decide) : PD X Φ (.Name x pos) r d :=
  pv_of (pe_var hN hv hd hcd) fun σ B H hs Q k => by
    obtain ⟨u, h1, v, h2, h3⟩ := hs.at_ i _ h
    subst h2
    exact ⟨v, h1, k v d B H (.refl hs.bh) h3 rfl⟩
end
end Rp

end
section
set_option Elab.async false
set_option linter.all false
set_option maxRecDepth 100000
set_option maxHeartbeats 2000000
/-! Expressions, judged with what they give. -/
namespace Rp
open PySem PySem.Spec PyProof.Rows L2 Ru
section
variable {X : Cx} {Φ : Fm} {α β γ δ : Type} {r : Rep α} {r2 : Rep β} {r3 : Rep γ} {P P1 : α → Prop} {P2 : β → Prop} {P3 : γ → Prop} {e a b c : Expr} {te ta tb : TE} {pos : Pos}
theorem PV.ev (h : PV X Φ e r P) : EvP (semE X e) Φ r P := h
theorem pv_int {i : Int} {j} : PD X Φ (.Constant (.int i) j pos) oI i := pv_of pe_int fun σ B H hs Q k => k _ i B H (.refl hs.bh) rfl rfl
theorem pv_bl {i : Bool} {j} : PD X Φ (.Constant (.bool i) j pos) oB i := pv_of pe_bl fun σ B H hs Q k => k _ i B H (.refl hs.bh) rfl rfl
theorem pv_non {j} : PD X Φ (.Constant .none j pos) oZ () := pv_of pe_non fun σ B H hs Q k => k _ () B H (.refl hs.bh) rfl rfl
theorem pv_glob {x : Str} {v : V} {u : Value} {d : α} (hm : X.mg x = some u) (rr : RelV v u) (q : ∀ B, r.r B v d) (hg : Gl X x := by rfl) (hd : (x == ("__debug__" : Str)) = false := by decide) : PD X Φ (.Name x pos) r d :=
  pv_of (pe_glob hg hm rr hd) fun σ B H hs Q k => k _ d B H (.refl hs.bh) (q B) rfl
theorem pv_globI {x : Str} {i : Int} {t : Tok} (hm : X.mg x = some (.int i t)) (hg : Gl X x := by rfl) (hd : (x == ("__debug__" : Str)) = false := by decide) : PD X Φ (.Name x pos) oI i :=
  pv_glob (v := .int i) hm ⟨t, rfl⟩ (fun _ => rfl) hg hd
/-! ints -/
theorem pv_I {op : Operator} {h : Int → Int → Int} {cc : Int → Int → Prop} {p1 p2 p3 : Int → Prop} (ho : OpR X (binaryOp op) (L2.rI cc fun i j => .int (h i j))) (ha : PV X Φ a oI p1) (hb : PV X Φ b oI p2) (hc : ∀ i j, p1 i → p2 j → cc i j ∧ p3 (h i j)) : PV X Φ (.BinOp a op b pos) oI p3 :=
  pv_of (pe_op ho pe_sem pe_sem) (ev_op ha.ev hb.ev fun v d w d' B H x q p q' p' Q k => ⟨d, d', q, q', (hc _ _ p p').1, k _ _ B H (.refl x) rfl (hc _ _ p p').2⟩)
theorem pv_I0 {op : Operator} {h : Int → Int → Int} {p1 p2 p3 : Int → Prop} (ho : OpR X (binaryOp op) (L2.rI0 fun i j => .int (h i j))) (ha : PV X Φ a oI p1) (hb : PV X Φ b oI p2) (hc : ∀ i j, p1 i → p2 j → p3 (h i j)) : PV X Φ (.BinOp a op b pos) oI p3 :=
  pv_of (pe_op ho pe_sem pe_sem) (ev_op ha.ev hb.ev fun v d w d' B H x q p q' p' Q k => ⟨d, d', q, q', k _ _ B H (.refl x) rfl (hc _ _ p p')⟩)
theorem pv_add {i j : Int} (ha : PD X Φ a oI i) (hb : PD X Φ b oI j) : PD X Φ (.BinOp a .Add b pos) oI (i + j) := pv_I0 op_add ha hb fun _ _ h h' => by rw [h, h']
theorem pv_sub {i j : Int} (ha : PD X Φ a oI i) (hb : PD X Φ b oI j) : PD X Φ (.BinOp a .Sub b pos) oI (i - j) := pv_I0 op_sub ha hb fun _ _ h h' => by rw [h, h']
theorem pv_mul {i j : Int} (ha : PD X Φ a oI i) (hb : PD X Φ b oI j) (h : CMulW i j) : PD X Φ (.BinOp a .Mult b pos) oI (i * j) := pv_I op_mulW ha hb fun _ _ p p' => by rw [p, p']; exact ⟨h, rfl⟩
theorem pv_div {i j : Int} (ha : PD X Φ a oI i) (hb : PD X Φ b oI j) (h : CDivW i j) : PD X Φ (.BinOp a .FloorDiv b pos) oI (i / j) := pv_I op_fdivW ha hb fun _ _ p p' => by rw [p, p']; exact ⟨h, rfl⟩
/-! comparisons -/
theorem ev_cmp {R2 : R2} {p1 : α → Prop} {p2 : β → Prop} {p3 : Bool → Prop} (ha : EvP ta Φ r p1) (hb : EvP tb Φ r2 p2)
    (k : ∀ v d w d' B H, Ext B H → r.r B v d → p1 d → r2.r B w d' → p2 d' → ∀ Q : VK, (∀ b B2 H2, Grow Φ.m B H B2 H2 → p3 b → Q (.bl b) H2) → R2 v w H Q) : EvP (tOp R2 ta tb) Φ oB p3 :=
  ev_op ha hb fun v d w d' B H x q p q' p' Q kk => k v d w d' B H x q p q' p' Q fun b B2 H2 g hb => kk _ b B2 H2 g rfl hb
theorem et_test {p : Bool → Prop} (h : EvP te Φ oB p) : EvT (tTest te) Φ p := fun σ B H hs Q k => h σ B H hs _ fun v d B2 H2 g rr hp => ⟨d, rr, k d B2 H2 g hp⟩
theorem et_B {p : Bool → Prop} (h : EvP te Φ oB p) : EvT (tB te) Φ p := fun σ B H hs Q k => h σ B H hs _ fun v d B2 H2 g rr hp => ⟨d, rr, k d B2 H2 g hp⟩
theorem evC {op : CmpOp} {h : Int → Int → Bool} {i j : Int} {ta tb : TE} (ha : EvP ta Φ oI (fun x => x = i)) (hb : EvP tb Φ oI (fun x => x = j)) : EvP (tOp (rI0 fun i j => .bl (h i j)) ta tb) Φ oB (fun x => x = h i j) :=
  ev_cmp ha hb fun v d w d' B H x q p q' p' Q k => ⟨d, d', q, q', k _ B H (.refl x) (by rw [p, p'])⟩
theorem pv_cmp {op : CmpOp} {h : Int → Int → Bool} {i j : Int} (ho : OpR X (compareOp op) (rI0 fun i j => .bl (h i j))) (ha : PD X Φ a oI i) (hb : PD X Φ b oI j) (hm : behindInMarks op b = false := by exact nomark _) : PD X Φ (.Compare a [op] [b] pos) oB (h i j) :=
  pv_of (pe_cmpR ho pe_sem pe_sem hm) (evC (op := op) ha.ev hb.ev)
theorem pt_cmpI {op : CmpOp} {h : Int → Int → Bool} {i j : Int} (ho : OpR X (compareOp op) (rI0 fun i j => .bl (h i j))) (ha : PD X Φ a oI i) (hb : PD X Φ b oI j) (hm : behindInMarks op b = false := by exact nomark _) : PDT X Φ (.Compare a [op] [b] pos) (h i j) :=
  pvt_of (pt_cmpR ho pe_sem pe_sem hm) (et_test (evC (op := op) ha.ev hb.ev))
theorem dint {i j : Int} : decide (V.int i = V.int j) = decide (i = j) := by
  by_cases z : i = j
  · subst z; simp
  · rw [decide_eq_false z, decide_eq_false (fun q => z (V.int.inj q))]
theorem evEq {i j : Int} (ha : EvP ta Φ oI (fun x => x = i)) (hb : EvP tb Φ oI (fun x => x = j)) : EvP (tOp rEq ta tb) Φ oB (fun x => x = decide (i = j)) :=
  ev_cmp ha hb fun v d w d' B H x q p q' p' Q k => by
    have r1 : v = .int d := q
    have r2 : w = .int d' := q'
    subst r1 r2 p p'
    exact ⟨rfl, k _ B H (.refl x) dint⟩
theorem evNe {i j : Int} (ha : EvP ta Φ oI (fun x => x = i)) (hb : EvP tb Φ oI (fun x => x = j)) : EvP (tOp rNe ta tb) Φ oB (fun x => x = !decide (i = j)) :=
  ev_cmp ha hb fun v d w d' B H x q p q' p' Q k => by
    have r1 : v = .int d := q
    have r2 : w = .int d' := q'
    subst r1 r2 p p'
    exact ⟨rfl, k _ B H (.refl x) (by rw [dint])⟩
theorem pv_eqI {i j : Int} (ha : PD X Φ a oI i) (hb : PD X Φ b oI j) : PD X Φ (.Compare a [.Eq] [b] pos) oB (decide (i = j)) := pv_of (pe_cmpR op_eq pe_sem pe_sem (nomark _)) (evEq ha.ev hb.ev)
theorem pv_neI {i j : Int} (ha : PD X Φ a oI i) (hb : PD X Φ b oI j) : PD X Φ (.Compare a [.NotEq] [b] pos) oB (!decide (i = j)) := pv_of (pe_cmpR op_ne pe_sem pe_sem (nomark _)) (evNe ha.ev hb.ev)
theorem pt_eqI {i j : Int} (ha : PD X Φ a oI i) (hb : PD X Φ b oI j) : PDT X Φ (.Compare a [.Eq] [b] pos) (decide (i = j)) := pvt_of (pt_cmpR op_eq pe_sem pe_sem (nomark _)) (et_test (evEq ha.ev hb.ev))
theorem pt_neI {i j : Int} (ha : PD X Φ a oI i) (hb : PD X Φ b oI j) : PDT X Φ (.Compare a [.NotEq] [b] pos) (!decide (i = j)) := pvt_of (pt_cmpR op_ne pe_sem pe_sem (nomark _)) (et_test (evNe ha.ev hb.ev))
/-- i <= j <= k -/
theorem pt_chainI {op op' : CmpOp} {h h' : Int → Int → Bool} {i j k : Int} (ho : OpR X (compareOp op) (rI0 fun i j => .bl (h i j))) (ho' : OpR X (compareOp op') (rI0 fun i j => .bl (h' i j))) (ha : PD X Φ a oI i) (hb : PD X Φ b oI j) (hc : PD X Φ c oI k)
    (hm : lastMarks [op, op'] [b, c] = false := by with_unfolding_all rfl) : PDT X Φ (.Compare a [op, op'] [b, c] pos) (h i j && h' j k) :=
  pvt_of (pt_chain ho ho' pe_sem pe_sem pe_sem hm) fun σ B H hs Q kk => ev2 ha.ev hb.ev hs fun v d w d' B2 H2 g q p q' p' => by
    subst p p'
    refine ⟨d, d', q, q', _, rfl, ?_⟩
    by_cases z : h d d' = true
    · rw [if_pos z]
      refine hc.ev σ B2 H2 (hs.grow g) _ fun u d2 B3 H3 g3 q3 p3 => ⟨d', d2, q', q3, _, rfl, kk _ B3 H3 (g.trans g3) ?_⟩
      subst p3
      rw [z, Bool.true_and]
    · rw [if_neg z]
      exact ⟨_, rfl, kk _ B2 H2 g (by rw [Bool.not_eq_true] at z; rw [z, Bool.false_and])⟩
/-- x is None -/
theorem pv_isN {q : Bool} {j pos'} (ha : PV X Φ a r P) (h : ∀ B v d, r.r B v d → P d → decide (v = .non) = q) : PD X Φ (.Compare a [.Is] [.Constant .none j pos'] pos) oB q := by
  refine pv_of (pe_cmpR op_isN pe_sem pe_non (nomark _)) fun σ B H hs Q k => ha.ev σ B H hs _ fun v d B2 H2 g rr p => ⟨rfl, k _ _ B2 H2 g ?_ rfl⟩
  rw [h _ _ _ rr p]
  rfl
/-! tests -/
theorem pt_val1 {p : Bool → Prop} (h : PV X Φ e oB p) (he : ∀ whole, isTrue e X.env whole = (do let v ← whole; standAt e.pos; holding [v] (truthy v)) := by intro _; rfl) : PVT X Φ e p := pvt_of (pt_val pe_sem he) (et_B h.ev)
theorem et_not {t : TT} {q : Bool} (h : EvT t Φ (fun x => x = q)) : EvT (tNot t) Φ (fun x => x = !q) := fun σ B H hs Q k => h σ B H hs _ fun b B2 H2 g p => k _ B2 H2 g (by rw [p])
theorem pt_notI {q : Bool} (h : PDT X Φ a q) : PDT X Φ (.UnaryOp .Not a pos) (!q) := pvt_of (pt_not pt_sem) (et_not h)
theorem et_or {t u : TT} {a b : Bool} (h1 : EvT t Φ (fun x => x = a)) (h2 : a = false → EvT u Φ (fun x => x = b)) : EvT (tOr t u) Φ (fun x => x = (a || b)) := fun σ B H hs Q k => h1 σ B H hs _ fun c B1 H1 g p => by
  subst p
  cases c with
  | true => exact k true B1 H1 g rfl
  | false => exact h2 rfl σ B1 H1 (hs.grow g) _ fun b' B2 H2 g' p' => k b' B2 H2 (g.trans g') p'
theorem et_and {t u : TT} {a b : Bool} (h1 : EvT t Φ (fun x => x = a)) (h2 : a = true → EvT u Φ (fun x => x = b)) : EvT (tAnd t u) Φ (fun x => x = (a && b)) := fun σ B H hs Q k => h1 σ B H hs _ fun c B1 H1 g p => by
  subst p
  cases c with
  | false => exact k false B1 H1 g rfl
  | true => exact h2 rfl σ B1 H1 (hs.grow g) _ fun b' B2 H2 g' p' => k b' B2 H2 (g.trans g') p'
theorem pt_or2 {p q : Bool} (h1 : PDT X Φ a p) (h2 : p = false → PDT X Φ b q) : PDT X Φ (.BoolOp .Or [a, b] pos) (p || q) := pvt_of (PW.pt (pw_or pt_sem (pw_or1 pt_sem))) (et_or h1 h2)
theorem pt_or3 {p q s : Bool} (h1 : PDT X Φ a p) (h2 : p = false → PDT X Φ b q) (h3 : p = false → q = false → PDT X Φ c s) : PDT X Φ (.BoolOp .Or [a, b, c] pos) (p || (q || s)) := pvt_of (PW.pt (pw_or pt_sem (pw_or pt_sem (pw_or1 pt_sem)))) (et_or h1 fun z => et_or (h2 z) (h3 z))
theorem pt_and2 {p q : Bool} (h1 : PDT X Φ a p) (h2 : p = true → PDT X Φ b q) : PDT X Φ (.BoolOp .And [a, b] pos) (p && q) := pvt_of (PW.pt (pw_and pt_sem (pw_and1 pt_sem))) (et_and h1 h2)
/-! and, or, not as values -/
theorem ev_andV {p q : Bool} {ta tb : TE} (h1 : EvP ta Φ oB (fun x => x = p)) (h2 : p = true → EvP tb Φ oB (fun x => x = q)) : EvP (tAndV ta tb) Φ oB (fun x => x = (p && q)) := fun σ B H hs Q k => h1 σ B H hs _ fun v c B1 H1 g rr hp => by
  subst hp
  refine ⟨c, rr, ?_⟩
  cases c with
  | false => exact k _ false B1 H1 g rfl rfl
  | true => exact h2 rfl σ B1 H1 (hs.grow g) _ fun v' b' B2 H2 g' r' p' => k v' b' B2 H2 (g.trans g') r' p'
theorem ev_orV {p q : Bool} {ta tb : TE} (h1 : EvP ta Φ oB (fun x => x = p)) (h2 : p = false → EvP tb Φ oB (fun x => x = q)) : EvP (tOrV ta tb) Φ oB (fun x => x = (p || q)) := fun σ B H hs Q k => h1 σ B H hs _ fun v c B1 H1 g rr hp => by
  subst hp
  refine ⟨c, rr, ?_⟩
  cases c with
  | true => exact k _ true B1 H1 g rfl rfl
  | false => exact h2 rfl σ B1 H1 (hs.grow g) _ fun v' b' B2 H2 g' r' p' => k v' b' B2 H2 (g.trans g') r' p'
theorem pv_and2 {p q : Bool} (h1 : PD X Φ a oB p) (h2 : p = true → PD X Φ b oB q) : PD X Φ (.BoolOp .And [a, b] pos) oB (p && q) := pv_of (pe_and pe_sem (pe_one pe_sem)) (ev_andV h1 h2)
theorem pv_and3 {p q s : Bool} (h1 : PD X Φ a oB p) (h2 : p = true → PD X Φ b oB q) (h3 : p = true → q = true → PD X Φ c oB s) : PD X Φ (.BoolOp .And [a, b, c] pos) oB (p && (q && s)) := pv_of (pe_and pe_sem (pe_and pe_sem (pe_one pe_sem))) (ev_andV h1 fun z => ev_andV (h2 z) (h3 z))
theorem pv_or2 {p q : Bool} (h1 : PD X Φ a oB p) (h2 : p = false → PD X Φ b oB q) : PD X Φ (.BoolOp .Or [a, b] pos) oB (p || q) := pv_of (pe_or pe_sem (pe_one pe_sem)) (ev_orV h1 h2)
theorem pv_not {p : Bool} (h : PD X Φ a oB p) : PD X Φ (.UnaryOp .Not a pos) oB (!p) := pv_of (pe_not pe_sem) fun σ B H hs Q k => h.ev σ B H hs _ fun v d B2 H2 g rr hp => ⟨d, rr, k _ _ B2 H2 g rfl (by rw [hp])⟩
theorem pv_if {q : Bool} (h : PDT X Φ c q) (h1 : q = true → PV X Φ a r P) (h2 : q = false → PV X Φ b r P) : PV X Φ (.IfExp c a b pos) r P := pv_of (pe_ifExp pt_sem pe_sem pe_sem) fun σ B H hs Q k => h σ B H hs _ fun z B1 H1 g hz => by
  subst hz
  cases z with
  | true => exact (h1 rfl).ev σ B1 H1 (hs.grow g) _ fun v d B2 H2 g' rr p => k v d B2 H2 (g.trans g') rr p
  | false => exact (h2 rfl).ev σ B1 H1 (hs.grow g) _ fun v d B2 H2 g' rr p => k v d B2 H2 (g.trans g') rr p
/-! ### arguments -/
/-- the arguments stand for these -/
inductive Ag : Type 1 where
  | mk {α : Type} (r : Rep α) (P : α → Prop)
def ags : Hp → List V → List Ag → Prop
  | _, vs, [] => vs = []
  | B, vs, .mk r P :: l => ∃ v d vs', vs = v :: vs' ∧ r.r B v d ∧ P d ∧ ags B vs' l
theorem pva_nil : PVA X Φ [] (fun B vs => ags B vs []) := pva_of pa_nil fun σ B H hs Q k => k [] B H (.refl hs.bh) rfl
theorem ags_mono {B B2 : Hp} (x : Ext B B2) : ∀ {l : List Ag} {vs : List V}, ags B vs l → ags B2 vs l
  | [], _, h => h
  | .mk r P :: l, _, ⟨v, d, vs', h1, h2, h3, h4⟩ => ⟨v, d, vs', h1, r.mono x h2, h3, ags_mono x h4⟩
theorem pva_cons {es : List Expr} {l : List Ag} (ha : PV X Φ e r P) (hr : PVA X Φ es (fun B vs => ags B vs l)) (hs : starEach (e :: es) X.env = (false, eval e X.env) :: starEach es X.env := by rfl) : PVA X Φ (e :: es) (fun B vs => ags B vs (.mk r P :: l)) :=
  pva_of (pa_cons pe_sem pa_sem hs) fun σ B H hs Q k => ha.ev σ B H hs _ fun v d B1 H1 g rr p => hr σ B1 H1 (hs.grow g) _ fun vs B2 H2 g' q => k _ B2 H2 (g.trans g') ⟨v, d, vs, rfl, r.mono g'.bb rr, p, q⟩
theorem pva_1 (ha : PV X Φ e r P) (hs : starEach [e] X.env = (false, eval e X.env) :: starEach [] X.env := by rfl) : PVA X Φ [e] (fun B vs => ags B vs [.mk r P]) := pva_cons ha pva_nil hs
theorem pva_2 (ha : PV X Φ a r P) (hb : PV X Φ b r2 P2) (hs : starEach [a, b] X.env = (false, eval a X.env) :: starEach [b] X.env := by rfl) (hs2 : starEach [b] X.env = (false, eval b X.env) :: starEach [] X.env := by rfl) : PVA X Φ [a, b] (fun B vs => ags B vs [.mk r P, .mk r2 P2]) := pva_cons ha (pva_1 hb hs2) hs
/-! ### promises -/
/-- from arguments that stand for these, something with Post (of the arguments' data) -/
def sp1 (r1 : Rep α) (r : Rep β) (P1 : α → Prop) (Po : α → β → Prop) : Sp := fun vs H Q _ => ∃ v d B, vs = [v] ∧ Ext B H ∧ r1.r B v d ∧ P1 d ∧ ∀ u z B' H', Grow none B H B' H' → r.r B' u z → Po d z → Q u H'
def sp2 (r1 : Rep α) (r2 : Rep β) (r : Rep γ) (P1 : α → β → Prop) (Po : α → β → γ → Prop) : Sp := fun vs H Q _ => ∃ v d v' d' B, vs = [v, v'] ∧ Ext B H ∧ r1.r B v d ∧ r2.r B v' d' ∧ P1 d d' ∧ ∀ u z B' H', Grow none B H B' H' → r.r B' u z → Po d d' z → Q u H'
def sp3 (r1 : Rep α) (r2 : Rep β) (r3 : Rep γ) (r : Rep δ) (P1 : α → β → γ → Prop) (Po : α → β → γ → δ → Prop) : Sp := fun vs H Q _ => ∃ v d v' d' v2 d2 B, vs = [v, v', v2] ∧ Ext B H ∧ r1.r B v d ∧ r2.r B v' d' ∧ r3.r B v2 d2 ∧ P1 d d' d2 ∧ ∀ u z B' H', Grow none B H B' H' → r.r B' u z → Po d d' d2 z → Q u H'
theorem ev_sp1 {R1 : Rep α} {R : Rep β} {Q1 : α → Prop} {Po : α → β → Prop} {sp : Sp} (hsp : sp = sp1 R1 R Q1 Po) {v : V} {d : α} {B H : Hp} (x : Ext B H) (h1 : R1.r B v d) (hp : Q1 d) {Q : VK} (k : ∀ u z B' H', Grow Φ.m B H B' H' → R.r B' u z → Po d z → Q u H') : sp [v] H Q E0 := by
  subst hsp
  exact ⟨v, d, B, rfl, x, h1, hp, fun u z B' H' g => k u z B' H' g.any⟩
variable {x : Str} {p : Pos} {k : Nat} {p1 : α → Prop} {p2 : β → Prop} {p3 : γ → Prop}
theorem pv_call1 {Q1 : α → Prop} {Po : α → β → Prop} {Pq : β → Prop} (c : Ca X.prog X.w X.K X.mg X.base k x (sp1 r r2 Q1 Po)) (hr : Room k X.A) (ha : PV X Φ a r p1) (hp : ∀ d, p1 d → Q1 d ∧ ∀ z, Po d z → Pq z) (hg : Gl X x := by rfl) (hdb : (x == ("__debug__" : Str)) = false := by decide)
    (he : starEach [a] X.env = (false, eval a X.env) :: starEach [] X.env := by rfl) (hpl : (backTo pos (starEach [] X.env)).any (·.1) = false := by rfl) : PV X Φ (.Call (.Name x p) [a] [] pos) r2 Pq :=
  pv_of (pe_ca c hr (pa_cons pe_sem pa_nil he) hg hdb he hpl) fun σ B H hs Q kk => ha.ev σ B H hs _ fun v d B1 H1 g rr q => ⟨v, d, B1, rfl, g.bh, rr, (hp d q).1, fun u z B' H' g' r' po => kk u z B' H' (g.trans g'.any) r' ((hp d q).2 z po)⟩
theorem pv_call2 {Q1 : α → β → Prop} {Po : α → β → γ → Prop} {Pq : γ → Prop} (c : Ca X.prog X.w X.K X.mg X.base k x (sp2 r r2 r3 Q1 Po)) (hr : Room k X.A) (ha : PV X Φ a r p1) (hb : PV X Φ b r2 p2) (hp : ∀ d d', p1 d → p2 d' → Q1 d d' ∧ ∀ z, Po d d' z → Pq z) (hg : Gl X x := by rfl) (hdb : (x == ("__debug__" : Str)) = false := by decide)
    (he : starEach [a, b] X.env = (false, eval a X.env) :: starEach [b] X.env := by rfl) (he2 : starEach [b] X.env = (false, eval b X.env) :: starEach [] X.env := by rfl) (hpl : (backTo pos (starEach [b] X.env)).any (·.1) = false := by rfl) : PV X Φ (.Call (.Name x p) [a, b] [] pos) r3 Pq :=
  pv_of (pe_ca c hr (pa_cons pe_sem (pa_cons pe_sem pa_nil he2) he) hg hdb he hpl) fun σ B H hs Q kk => ev2 ha.ev hb.ev hs fun v d w d' B2 H2 g q pp q' pp' => ⟨v, d, w, d', B2, rfl, g.bh, q, q', (hp d d' pp pp').1, fun u z B' H' g' r' po => kk u z B' H' (g.trans g'.any) r' ((hp d d' pp pp').2 z po)⟩
variable {δ : Type} {r4 : Rep δ}
theorem pv_call3 {Q1 : α → β → γ → Prop} {Po : α → β → γ → δ → Prop} {Pq : δ → Prop} (cc : Ca X.prog X.w X.K X.mg X.base k x (sp3 r r2 r3 r4 Q1 Po)) (hr : Room k X.A) (ha : PV X Φ a r p1) (hb : PV X Φ b r2 p2) (hc : PV X Φ c r3 p3) (hp : ∀ d d' d2, p1 d → p2 d' → p3 d2 → Q1 d d' d2 ∧ ∀ z, Po d d' d2 z → Pq z) (hg : Gl X x := by rfl) (hdb : (x == ("__debug__" : Str)) = false := by decide)
    (he : starEach [a, b, c] X.env = (false, eval a X.env) :: starEach [b, c] X.env := by rfl) (he2 : starEach [b, c] X.env = (false, eval b X.env) :: starEach [c] X.env := by rfl) (he3 : starEach [c] X.env = (false, eval c X.env) :: starEach [] X.env := by rfl) (hpl : (backTo pos (starEach [b, c] X.env)).any (·.1) = false := by rfl) : PV X Φ (.Call (.Name x p) [a, b, c] [] pos) r4 Pq :=
  pv_of (pe_ca cc hr (pa_cons pe_sem (pa_cons pe_sem (pa_cons pe_sem pa_nil he3) he2) he) hg hdb he hpl) fun σ B H hs Q kk => ha.ev σ B H hs _ fun v d B1 H1 g q pp => ev2 hb.ev hc.ev (hs.grow g) fun v' d' w d2 B2 H2 g2 q' pp' q2 pp2 =>
    ⟨v, d, v', d', w, d2, B2, rfl, g2.bh, r.mono g2.bb q, q', q2, (hp d d' d2 pp pp' pp2).1, fun u z B' H' g' r' po => kk u z B' H' ((g.trans g2).trans g'.any) r' ((hp d d' d2 pp pp' pp2).2 z po)⟩
/-! ### built-ins -/
/-- f(e) of a built-in: the reading asked of the value -/
theorem ev_cb1 {R : List V → Hp → VK → Prop} {p1 : α → Prop} {Pq : β → Prop} (ha : EvP ta Φ r p1) (hq : ∀ B H v d, Ext B H → r.r B v d → p1 d → ∀ Q : VK, (∀ u z B' H', Grow Φ.m B H B' H' → r2.r B' u z → Pq z → Q u H') → R [v] H Q) : EvP (tCB R (tCons ta tNil)) Φ r2 Pq :=
  fun σ B H hs Q kk => ha σ B H hs _ fun v d B1 H1 g rr q => hq B1 H1 v d g.bh rr q Q fun u z B' H' g' r' po => kk u z B' H' (g.trans g') r' po
theorem ev_cb2 {R : List V → Hp → VK → Prop} {p1 : α → Prop} {p2 : β → Prop} {Pq : γ → Prop} (ha : EvP ta Φ r p1) (hb : EvP tb Φ r2 p2) (hq : ∀ B H v d w d', Ext B H → r.r B v d → p1 d → r2.r B w d' → p2 d' → ∀ Q : VK, (∀ u z B' H', Grow Φ.m B H B' H' → r3.r B' u z → Pq z → Q u H') → R [v, w] H Q) : EvP (tCB R (tCons ta (tCons tb tNil))) Φ r3 Pq :=
  fun σ B H hs Q kk => ev2 ha hb hs fun v d w d' B1 H1 g rr q r' q' => hq B1 H1 v d w d' g.bh rr q r' q' Q fun u z B' H' g' r' po => kk u z B' H' (g.trans g') r' po
theorem lenOk {n : Nat} (h : n ≤ 1000) : n ≤ sizeLine := Nat.le_trans h (by decide)
theorem oS_seq {B H : Hp} {v : V} {ds : List α} (x : Ext B H) (h : (oS r).r B v ds) : ∃ p ys, v = .ref p ∧ (H p = some (.lst ys) ∨ H p = some (.tup ys)) ∧ Prd r B ys ds ∧ ds.length ≤ 1000 ∧ (B p = some (.lst ys) ∨ B p = some (.tup ys)) := by
  rcases h with ⟨a, xs, h1, h2, h3, h4⟩ | ⟨a, xs, h1, h2, h3, h4⟩
  · exact ⟨a, xs, h1, .inl (x _ _ h2), h3, h4, .inl h2⟩
  · exact ⟨a, xs, h1, .inr (x _ _ h2), h3, h4, .inr h2⟩
theorem pv_len {ds : List α} (ha : PD X Φ a (oS r) ds) (hm : X.mg "len" = none) (hg : Gl X "len" := by rfl) (he : starEach [a] X.env = (false, eval a X.env) :: starEach [] X.env := by rfl) (hpl : (backTo pos (starEach [] X.env)).any (·.1) = false := by rfl) : PD X Φ (.Call (.Name "len" p) [a] [] pos) oI (ds.length : Int) :=
  pv_of (pe_callB call_len_seq hg hm PySem.boot_len (pa_cons pe_sem pa_nil he) (by decide) (by decide) he hpl) (ev_cb1 ha.ev fun B H v d x rr q Q k => by
    subst q
    obtain ⟨pp, ys, rfl, h1, h2, h3, _⟩ := oS_seq x rr
    refine ⟨pp, ys, rfl, h1.imp SqL.of SqT.of, k _ _ B H (.refl x) rfl ?_⟩
    rw [h2.len])
end
end Rp

end
section
set_option Elab.async false
set_option linter.all false
set_option maxRecDepth 100000
set_option maxHeartbeats 2000000
/-! Lists, comprehensions, statements, defs. -/
namespace Rp
open PySem PySem.Spec PyProof.Rows L2 Ru RZ
section
variable {X : Cx} {Φ : Fm} {α β γ δ : Type} {r : Rep α} {r2 : Rep β} {r3 : Rep γ} {P P1 : α → Prop} {P2 : β → Prop} {P3 : γ → Prop} {e a b c : Expr} {te ta tb : TE} {pos p : Pos}
/-! ### other readings of the same -/
theorem pvS {ds : List α} (h : PD X Φ e (oL r) ds) : PD X Φ e (oS r) ds := h.rep fun H v d q h => ⟨d, .inl h, q⟩
theorem pvST {ds : List α} (h : PD X Φ e (oT r) ds) : PD X Φ e (oS r) ds := h.rep fun H v d q h => ⟨d, .inr h, q⟩
theorem pvN {C : Addr} {q : Rat} (h : PD X Φ e (oQ C) q) : PD X Φ e (oN C) q := h.rep fun H v d q h => ⟨d, .inl h, q⟩
theorem pvNI {C : Addr} {i : Int} (h : PD X Φ e oI i) : PD X Φ e (oN C) (i : Rat) := h.rep fun H v d q h => ⟨(d : Rat), .inr ⟨d, h, rfl⟩, by rw [q]⟩
/-! ### displays -/
def PVL (X : Cx) (Φ : Fm) (es : List Expr) (r : Rep α) (ds : List α) : Prop := PVA X Φ es (fun B vs => Prd r B vs ds)
theorem pvl_nil : PVL X Φ [] r [] := pva_of pa_nil fun σ B H hs Q k => k [] B H (.refl hs.bh) .nil
theorem pvl_cons {es : List Expr} {d : α} {ds : List α} (ha : PD X Φ e r d) (hr : PVL X Φ es r ds) (hs : starEach (e :: es) X.env = (false, eval e X.env) :: starEach es X.env := by rfl) : PVL X Φ (e :: es) r (d :: ds) :=
  pva_of (pa_cons pe_sem pa_sem hs) fun σ B H hs Q k => ha.ev σ B H hs _ fun v d B1 H1 g rr p => hr σ B1 H1 (hs.grow g) _ fun vs B2 H2 g' q => by
    subst p
    exact k _ B2 H2 (g.trans g') (.cons (r.mono g'.bb rr) q)
theorem oL_new {B : Hp} {l : Addr} {xs : List V} {ds : List α} (q : Prd r B xs ds) (hB : B l = none) (hl : ds.length ≤ 1000) : (oL r).r (upd B l (.lst xs)) (.ref l) ds := ⟨l, xs, rfl, upd_same, q.mono (Ext.upd hB), hl⟩
theorem oT_new {B : Hp} {l : Addr} {xs : List V} {ds : List α} (q : Prd r B xs ds) (hB : B l = none) (hl : ds.length ≤ 1000) : (oT r).r (upd B l (.tup xs)) (.ref l) ds := ⟨l, xs, rfl, upd_same, q.mono (Ext.upd hB), hl⟩
theorem ev_lst {t : TA} {ds : List α} (h : EvA t Φ (fun B vs => Prd r B vs ds)) (hl : ds.length ≤ 1000) : EvP (tLst t) Φ (oL r) (fun x => x = ds) := fun σ B H hs Q k => h σ B H hs _ fun vs B2 H2 g q =>
  ⟨lenOk (by rw [q.len]; exact hl), fun l hn => k _ ds _ _ (g.trans (.alloc g.bh hn)) (oL_new q (ext_none g.bh hn) hl) rfl⟩
theorem pv_list {es : List Expr} {ds : List α} (h : PVL X Φ es r ds) (hl : ds.length ≤ 1000 := by exact Nat.le_of_ble_eq_true rfl) : PD X Φ (.List es pos) (oL r) ds := pv_of (pe_lst pa_sem) (ev_lst h hl)
theorem pv_tupS {es : List Expr} {ds : List α} {kk : Nat} (h : PVL X Φ es r ds) (hl : ds.length ≤ 1000 := by exact Nat.le_of_ble_eq_true rfl) : PD X Φ (.Tuple es kk pos) (oT r) ds := pv_of (pe_tup pa_sem) fun σ B H hs Q k => h σ B H hs _ fun vs B2 H2 g q =>
  ⟨lenOk (by rw [q.len]; exact hl), fun l hn => k _ ds _ _ (g.trans (.alloc g.bh hn)) (oT_new q (ext_none g.bh hn) hl) rfl⟩
theorem pv_pair {d : α} {d' : β} {kk : Nat} (ha : PD X Φ a r d) (hb : PD X Φ b r2 d') (he : starEach [a, b] X.env = (false, eval a X.env) :: starEach [b] X.env := by rfl) (he2 : starEach [b] X.env = (false, eval b X.env) :: starEach [] X.env := by rfl) : PD X Φ (.Tuple [a, b] kk pos) (oP r r2) (d, d') :=
  pv_of (pe_tup (pa_cons pe_sem (pa_cons pe_sem pa_nil he2) he)) fun σ B H hs Q k => ev2 ha.ev hb.ev hs fun v d w d' B2 H2 g q p q' p' =>
    ⟨by show 2 ≤ sizeLine; decide, fun l hn => by
      subst p p'
      have hB := ext_none g.bh hn
      exact k _ (d, d') _ _ (g.trans (.alloc g.bh hn)) ⟨l, v, w, rfl, upd_same, r.mono (Ext.upd hB) q, r2.mono (Ext.upd hB) q'⟩ rfl⟩
/-! ### subscripts, slices, sums of lists -/
theorem pv_ix {ds : List α} {i : Int} {d : α} (n : Nat) (ha : PD X Φ a (oS r) ds) (hb : PD X Φ b oI i) (hi : i = (n : Int)) (hd : ds[n]? = some d) (hs : PlainIx b := by exact fun _ _ => rfl) : PD X Φ (.Subscript a b pos) r d :=
  pv_of (pe_ix ix_seq pe_sem pe_sem hs) (ev_op ha.ev hb.ev fun v ds' w i' B H x q p q' p' Q k => by
    subst p p'
    have r2 : w = .int i' := q'
    subst r2
    obtain ⟨pp, ys, rfl, h1, h2, h3, _⟩ := oS_seq x q
    obtain ⟨u, hu, ru⟩ := h2.get hd
    have hat : atI ys i' = some u := by rw [hi]; exact atI_nat hu
    rcases h1 with h1 | h1
    · exact .inl ⟨pp, ys, i', u, rfl, rfl, SqL.of h1, hat, k _ _ B H (.refl x) ru rfl⟩
    · exact .inr (.inl ⟨pp, ys, i', u, rfl, rfl, SqT.of h1, hat, k _ _ B H (.refl x) ru rfl⟩))
theorem oL_at {B H : Hp} {v : V} {ds : List α} (x : Ext B H) (h : (oL r).r B v ds) : ∃ p ys, v = .ref p ∧ H p = some (.lst ys) ∧ Prd r B ys ds ∧ ds.length ≤ 1000 := by
  obtain ⟨a, xs, h1, h2, h3, h4⟩ := h
  exact ⟨a, xs, h1, x _ _ h2, h3, h4⟩
theorem pv_cat {xs ys : List α} (ha : PD X Φ a (oL r) xs) (hb : PD X Φ b (oL r) ys) (hl : xs.length + ys.length ≤ 1000) : PD X Φ (.BinOp a .Add b pos) (oL r) (xs ++ ys) :=
  pv_of (pe_op op_cat pe_sem pe_sem) (ev_op ha.ev hb.ev fun v d w d' B H x q p q' p' Q k => by
    subst p p'
    obtain ⟨l1, y1, rfl, a1, a2, _⟩ := oL_at x q
    obtain ⟨l2, y2, rfl, b1, b2, _⟩ := oL_at x q'
    refine ⟨l1, l2, y1, y2, rfl, rfl, a1, b1, lenOk (by rw [a2.len, b2.len]; exact hl), fun l hn => ?_⟩
    exact k _ _ _ _ (.alloc x hn) (oL_new (a2.append b2) (ext_none x hn) (by rw [List.length_append]; exact hl)) rfl)
theorem flat_rep {x : V} : ∀ n : Nat, (List.replicate n [x]).flatten = List.replicate n x
  | 0 => rfl
  | n + 1 => by
    rw [List.replicate_succ, List.flatten_cons, flat_rep n, List.replicate_succ]
    rfl
/-- [x] * n -/
theorem pv_rep {d : α} {i : Int} (n : Nat) (ha : PD X Φ a (oL r) [d]) (hb : PD X Φ b oI i) (hi : i = (n : Int)) (hl : n ≤ 1000) : PD X Φ (.BinOp a .Mult b pos) (oL r) (List.replicate n d) :=
  pv_of (pe_op op_rep pe_sem pe_sem) (ev_op ha.ev hb.ev fun v ds w i' B H x q p q' p' Q k => by
    subst p p'
    have r2 : w = .int i' := q'
    subst r2
    obtain ⟨l1, y1, rfl, a1, a2, _⟩ := oL_at x q
    cases a2 with
    | cons q1 q2 =>
      cases q2
      rename_i v1
      refine ⟨l1, i', [v1], rfl, rfl, a1, by omega, by omega, ?_, fun l hn => ?_⟩
      · rw [hi]; show 1 * _ ≤ _; rw [Nat.one_mul]; exact lenOk (by simpa using hl)
      · have e : i'.toNat = n := by omega
        rw [e, flat_rep]
        exact k _ _ _ _ (.alloc x hn) (oL_new (Prd.rep q1 n) (ext_none x hn) (by rw [List.length_replicate]; exact hl)) rfl)
/-- xs[lo:hi] -/
def cutD (ds : List α) (lo hi : Option Int) : List α := (ds.drop (HT.sIx ds.length 0 lo)).take (HT.sIx ds.length ds.length hi - HT.sIx ds.length 0 lo)
theorem prd_cut {B : Hp} {ys : List V} {ds : List α} (h : Prd r B ys ds) (lo hi : Option Int) : Prd r B (cutV ys lo hi) (cutD ds lo hi) := by
  unfold cutV cutD
  rw [h.len]
  exact (h.drop _).take _
theorem cut_len (ds : List α) (lo hi : Option Int) : (cutD ds lo hi).length ≤ ds.length := by
  unfold cutD
  rw [List.length_take, List.length_drop]
  omega
theorem cut_to (ds : List α) (n : Nat) (h : n ≤ ds.length) : cutD ds none (some (n : Int)) = ds.take n := by
  unfold cutD
  rw [HT.sIx_nat, HT.sIx_none, List.drop_zero, Nat.sub_zero, Nat.min_eq_left h]
theorem cut_from (ds : List α) (n : Nat) (h : n ≤ ds.length) : cutD ds (some (n : Int)) none = ds.drop n := by
  unfold cutD
  rw [HT.sIx_nat, HT.sIx_none, Nat.min_eq_left h]
  exact List.take_of_length_le (by rw [List.length_drop]; omega)
theorem pv_cutTo {ds : List α} {i : Int} {lo : Option Expr} {p2 : Pos} (n : Nat) (ha : PD X Φ a (oL r) ds) (hb : PD X Φ b oI i) (hi : i = (n : Int)) (hn : n ≤ ds.length) : PD X Φ (.Subscript a (.Slice none (some b) none p2) pos) (oL r) (ds.take n) :=
  pv_of (pe_slice sl_list pe_sem po_none (po_some pe_sem)) fun σ B H hs Q k => ha.ev σ B H hs _ fun v d B1 H1 g q pp => hb.ev σ B1 H1 (hs.grow g) _ fun w i' B2 H2 g2 q' pp' => by
    subst pp pp'
    refine ⟨i', q', ?_⟩
    obtain ⟨l1, y1, rfl, a1, a2, hl⟩ := oL_at g2.bh ((oL r).mono g2.bb q)
    refine ⟨l1, y1, rfl, SqL.of a1, fun l hn' => ?_⟩
    have := prd_cut a2 none (some i')
    rw [hi, cut_to _ _ hn] at this
    rw [hi]
    exact k _ _ _ _ ((g.trans g2).trans (.alloc g2.bh hn')) (oL_new this (ext_none g2.bh hn') (by rw [List.length_take]; omega)) rfl
theorem pv_cutFrom {ds : List α} {i : Int} {lo : Option Expr} {p2 : Pos} (n : Nat) (ha : PD X Φ a (oL r) ds) (hb : PD X Φ b oI i) (hi : i = (n : Int)) (hn : n ≤ ds.length) : PD X Φ (.Subscript a (.Slice (some b) none none p2) pos) (oL r) (ds.drop n) :=
  pv_of (pe_slice sl_list pe_sem (po_some pe_sem) po_none) fun σ B H hs Q k => ha.ev σ B H hs _ fun v d B1 H1 g q pp => hb.ev σ B1 H1 (hs.grow g) _ fun w i' B2 H2 g2 q' pp' => by
    subst pp pp'
    refine ⟨i', q', ?_⟩
    obtain ⟨l1, y1, rfl, a1, a2, hl⟩ := oL_at g2.bh ((oL r).mono g2.bb q)
    refine ⟨l1, y1, rfl, SqL.of a1, fun l hn' => ?_⟩
    have := prd_cut a2 (some i') none
    rw [hi, cut_from _ _ hn] at this
    rw [hi]
    exact k _ _ _ _ ((g.trans g2).trans (.alloc g2.bh hn')) (oL_new this (ext_none g2.bh hn') (by rw [List.length_drop]; omega)) rfl
/-! ### built-ins over lists -/
theorem prd_bl {B : Hp} {ys : List V} {bs : List Bool} (h : Prd oB B ys bs) : ys = bs.map V.bl := by
  induction h with
  | nil => rfl
  | cons q _ ih => rw [List.map_cons, ih, show _ = V.bl _ from q]
theorem prd_int {B : Hp} {ys : List V} {bs : List Int} (h : Prd oI B ys bs) : ys = bs.map V.int := by
  induction h with
  | nil => rfl
  | cons q _ ih => rw [List.map_cons, ih, show _ = V.int _ from q]
theorem int_prd {B : Hp} : ∀ {bs : List Int}, Prd oI B (bs.map V.int) bs
  | [] => .nil
  | _ :: _ => .cons rfl int_prd
theorem pv_all {bs : List Bool} (hc : X.calm = true) (ha : PD X Φ a (oL oB) bs) (hm : X.mg "all" = none) (hg : Gl X "all" := by rfl) (he : starEach [a] X.env = (false, eval a X.env) :: starEach [] X.env := by rfl) (hpl : (backTo pos (starEach [] X.env)).any (·.1) = false := by rfl) : PD X Φ (.Call (.Name "all" p) [a] [] pos) oB (bs.all id) :=
  pv_of (pe_callB (cr_all hc) hg hm (by decide +kernel) (pa_cons pe_sem pa_nil he) (by decide) (by decide) he hpl) (ev_cb1 ha.ev fun B H v d x rr q Q k => by
    subst q
    obtain ⟨l1, y1, rfl, a1, a2, _⟩ := oL_at x rr
    exact ⟨l1, d, rfl, by rw [← prd_bl a2]; exact SqL.of a1, k _ _ B H (.refl x) rfl rfl⟩)
theorem pv_sum {bs : List Int} (hc : X.calm = true) (ha : PD X Φ a (oL oI) bs) (hm : X.mg "sum" = none) (hg : Gl X "sum" := by rfl) (he : starEach [a] X.env = (false, eval a X.env) :: starEach [] X.env := by rfl) (hpl : (backTo pos (starEach [] X.env)).any (·.1) = false := by rfl) : PD X Φ (.Call (.Name "sum" p) [a] [] pos) oI bs.sum :=
  pv_of (pe_callB (cr_sum hc) hg hm (by decide +kernel) (pa_cons pe_sem pa_nil he) (by decide) (by decide) he hpl) (ev_cb1 ha.ev fun B H v d x rr q Q k => by
    subst q
    obtain ⟨l1, y1, rfl, a1, a2, _⟩ := oL_at x rr
    exact ⟨l1, d, rfl, by rw [← prd_int a2]; exact SqL.of a1, k _ _ B H (.refl x) rfl rfl⟩)
theorem pv_sorted {bs : List Int} (ha : PD X Φ a (oL oI) bs) (hl : bs.length < 64) (hm : X.mg "sorted" = none) (hg : Gl X "sorted" := by rfl) (he : starEach [a] X.env = (false, eval a X.env) :: starEach [] X.env := by rfl) (hpl : (backTo pos (starEach [] X.env)).any (·.1) = false := by rfl) : PV X Φ (.Call (.Name "sorted" p) [a] [] pos) (oL oI) (fun ds => ds.length = bs.length) :=
  pv_of (pe_callB cr_sorted hg hm (by decide +kernel) (pa_cons pe_sem pa_nil he) (by decide) (by decide) he hpl) (ev_cb1 ha.ev fun B H v d x rr q Q k => by
    subst q
    obtain ⟨l1, y1, rfl, a1, a2, h3⟩ := oL_at x rr
    refine ⟨l1, d, rfl, by rw [← prd_int a2]; exact SqL.of a1, hl, fun ns' l hp _ hn => ?_⟩
    exact k _ ns' _ _ (.alloc x hn) (oL_new int_prd (ext_none x hn) (by rw [hp.length_eq]; exact h3)) hp.length_eq)
theorem pv_listOf {ds : List α} (ha : PD X Φ a (oS r) ds) (hm : X.mg "list" = none) (hg : Gl X "list" := by rfl) (he : starEach [a] X.env = (false, eval a X.env) :: starEach [] X.env := by rfl) (hpl : (backTo pos (starEach [] X.env)).any (·.1) = false := by rfl) : PD X Φ (.Call (.Name "list" p) [a] [] pos) (oL r) ds :=
  pv_of (pe_callTy call_list_of hg hm (by decide +kernel) (pa_cons pe_sem pa_nil he) (by decide) (by decide) he hpl) (ev_cb1 ha.ev fun B H v d x rr q Q k => by
    subst q
    obtain ⟨pp, ys, rfl, h1, h2, h3, _⟩ := oS_seq x rr
    exact ⟨pp, ys, rfl, h1.imp SqL.of SqT.of, fun l hn => k _ _ _ _ (.alloc x hn) (oL_new h2 (ext_none x hn) h3) rfl⟩)
theorem pv_tupleOf {ds : List α} (ha : PD X Φ a (oS r) ds) (hm : X.mg "tuple" = none) (hg : Gl X "tuple" := by rfl) (he : starEach [a] X.env = (false, eval a X.env) :: starEach [] X.env := by rfl) (hpl : (backTo pos (starEach [] X.env)).any (·.1) = false := by rfl) : PD X Φ (.Call (.Name "tuple" p) [a] [] pos) (oT r) ds :=
  pv_of (pe_callTy call_tuple_of hg hm (by decide +kernel) (pa_cons pe_sem pa_nil he) (by decide) (by decide) he hpl) (ev_cb1 ha.ev fun B H v d x rr q Q k => by
    subst q
    rcases rr with ⟨a, xs, h1, h2, h3, h4⟩ | ⟨a, xs, h1, h2, h3, h4⟩
    · exact ⟨a, xs, by rw [h1], .inl ⟨SqL.of (x _ _ h2), fun l hn => k _ _ _ _ (.alloc x hn) (oT_new h3 (ext_none x hn) h4) rfl⟩⟩
    · exact ⟨a, xs, by rw [h1], .inr ⟨SqT.of (x _ _ h2), k _ _ B H (.refl x) ⟨a, xs, rfl, h2, h3, h4⟩ rfl⟩⟩)
theorem pv_abs {i : Int} (ha : PD X Φ a oI i) (hm : X.mg "abs" = none) (hg : Gl X "abs" := by rfl) (he : starEach [a] X.env = (false, eval a X.env) :: starEach [] X.env := by rfl) (hpl : (backTo pos (starEach [] X.env)).any (·.1) = false := by rfl) : PD X Φ (.Call (.Name "abs" p) [a] [] pos) oI (i.natAbs : Int) :=
  pv_of (pe_callB call_abs hg hm (by decide +kernel) (pa_cons pe_sem pa_nil he) (by decide) (by decide) he hpl) (ev_cb1 ha.ev fun B H v d x rr q Q k => by
    subst q
    exact ⟨d, by rw [show v = V.int d from rr], k _ _ B H (.refl x) rfl (by split <;> omega)⟩)
theorem pv_intB {q : Bool} (ha : PD X Φ a oB q) (hm : X.mg "int" = none) (hg : Gl X "int" := by rfl) (he : starEach [a] X.env = (false, eval a X.env) :: starEach [] X.env := by rfl) (hpl : (backTo pos (starEach [] X.env)).any (·.1) = false := by rfl) : PD X Φ (.Call (.Name "int" p) [a] [] pos) oI (if q then 1 else 0) :=
  pv_of (pe_callTy call_int1 hg hm (by decide +kernel) (pa_cons pe_sem pa_nil he) (by decide) (by decide) he hpl) (ev_cb1 ha.ev fun B H v d x rr q Q k => by
    subst q
    exact .inr ⟨d, by rw [show v = V.bl d from rr], k _ _ B H (.refl x) rfl rfl⟩)
theorem pv_intI {p1 : Int → Prop} (ha : PV X Φ a oI p1) (hm : X.mg "int" = none) (hg : Gl X "int" := by rfl) (he : starEach [a] X.env = (false, eval a X.env) :: starEach [] X.env := by rfl) (hpl : (backTo pos (starEach [] X.env)).any (·.1) = false := by rfl) : PV X Φ (.Call (.Name "int" p) [a] [] pos) oI p1 :=
  pv_of (pe_callTy call_int1 hg hm (by decide +kernel) (pa_cons pe_sem pa_nil he) (by decide) (by decide) he hpl) (ev_cb1 ha.ev fun B H v d x rr q Q k => .inl ⟨d, by rw [show v = V.int d from rr], k _ _ B H (.refl x) rfl q⟩)
theorem pv_gcd {x : Str} {i j : Int} (ha : PD X Φ a oI i) (hb : PD X Φ b oI j) (hm : X.mg x = some (.builtin "math.gcd")) (hg : Gl X x := by rfl) (hd : (x == ("__debug__" : Str)) = false := by decide) (he : starEach [a, b] X.env = (false, eval a X.env) :: starEach [b] X.env := by rfl) (he2 : starEach [b] X.env = (false, eval b X.env) :: starEach [] X.env := by rfl) (hpl : (backTo pos (starEach [b] X.env)).any (·.1) = false := by rfl) :
    PD X Φ (.Call (.Name x p) [a, b] [] pos) oI ((Nat.gcd i.natAbs j.natAbs : Nat) : Int) :=
  pv_of (pe_callBfun cr_gcd hg hm (pa_cons pe_sem (pa_cons pe_sem pa_nil he2) he) hd he hpl) (ev_cb2 ha.ev hb.ev fun B H v d w d' x q p q' p' Q k => by
    subst p p'
    exact ⟨d, d', by rw [show v = V.int d from q, show w = V.int d' from q'], k _ _ B H (.refl x) rfl rfl⟩)
theorem pv_lcm {x : Str} {i j : Int} (ha : PD X Φ a oI i) (hb : PD X Φ b oI j) (h1 : i.natAbs < 2 ^ 13000) (h2 : j.natAbs < 2 ^ 13000) (hm : X.mg x = some (.builtin "math.lcm")) (hg : Gl X x := by rfl) (hd : (x == ("__debug__" : Str)) = false := by decide) (he : starEach [a, b] X.env = (false, eval a X.env) :: starEach [b] X.env := by rfl) (he2 : starEach [b] X.env = (false, eval b X.env) :: starEach [] X.env := by rfl) (hpl : (backTo pos (starEach [b] X.env)).any (·.1) = false := by rfl) :
    PD X Φ (.Call (.Name x p) [a, b] [] pos) oI ((Nat.lcm i.natAbs j.natAbs : Nat) : Int) :=
  pv_of (pe_callBfun cr_lcm hg hm (pa_cons pe_sem (pa_cons pe_sem pa_nil he2) he) hd he hpl) (ev_cb2 ha.ev hb.ev fun B H v d w d' x q p q' p' Q k => by
    subst p p'
    exact ⟨d, d', by rw [show v = V.int d from q, show w = V.int d' from q'], h1, h2, k _ _ B H (.refl x) rfl rfl⟩)
/-! ### walked things -/
/-- a walk of n turns; the turn i gives a d (as r tells) with it i d -/
structure Turns (m : Option Addr) (B1 : Hp) (J : It) (n : Nat) (r : Rep α) (it : Nat → α → Prop) : Prop where
  go : ∀ i, i < n → ∀ B H, Ext B1 B → Ext B H → J.go i H
  stop : ∀ B H, Ext B1 B → Ext B H → J.stop n H
  yld : ∀ i, i < n → ∀ B H v H', Ext B1 B → Ext B H → J.yld i H v H' → ∃ B' d, Grow m B H B' H' ∧ r.r B' v d ∧ it i d
def PIV (X : Cx) (Φ : Fm) (tg iter : Expr) (n : Nat) (r : Rep α) (it : Nat → α → Prop) : Prop :=
  ∃ wi, PI X tg iter wi ∧ ∀ σ B H, Stt Φ σ B H → ∀ R : It → Hp → Prop, (∀ J B1 H1, Grow Φ.m B H B1 H1 → Turns Φ.m B1 J n r it → R J H1) → wi σ H R
theorem sqT_of {K : PySem.W.Frag} {H : Hp} {a : Addr} {xs : List V} (h : H a = some (.tup xs)) : SqT K H a xs := SqT.of h
theorem turns_list {m : Option Addr} {K : PySem.W.Frag} {B1 : Hp} {a : Addr} {xs : List V} {ds : List α} (h : B1 a = some (.lst xs)) (q : Prd r B1 xs ds) : Turns m B1 (Itl K a) ds.length r (fun i d => ds[i]? = some d) where
  go := fun i hi B H x y => by
    have hl := q.len
    exact ⟨xs, xs[i]'(by omega), SqL.of (y _ _ (x _ _ h)), List.getElem?_eq_getElem (by omega)⟩
  stop := fun B H x y => ⟨xs, SqL.of (y _ _ (x _ _ h)), by rw [q.len]; exact Nat.le_refl _⟩
  yld := fun i hi B H v H' x y ⟨e, k⟩ => by
    subst e
    have hv := k xs (SqL.of (y _ _ (x _ _ h)))
    obtain ⟨d, h1, h2⟩ := q.getL hv
    exact ⟨B, d, .refl y, r.mono x h2, h1⟩
theorem turns_tup {m : Option Addr} {K : PySem.W.Frag} {B1 : Hp} {a : Addr} {xs : List V} {ds : List α} (h : B1 a = some (.tup xs)) (q : Prd r B1 xs ds) : Turns m B1 (Itt K a) ds.length r (fun i d => ds[i]? = some d) where
  go := fun i hi B H x y => by
    have hl := q.len
    exact ⟨xs, xs[i]'(by omega), SqT.of (y _ _ (x _ _ h)), List.getElem?_eq_getElem (by omega)⟩
  stop := fun B H x y => ⟨xs, SqT.of (y _ _ (x _ _ h)), by rw [q.len]; exact Nat.le_refl _⟩
  yld := fun i hi B H v H' x y ⟨e, k⟩ => by
    subst e
    have hv := k xs (SqT.of (y _ _ (x _ _ h)))
    obtain ⟨d, h1, h2⟩ := q.getL hv
    exact ⟨B, d, .refl y, r.mono x h2, h1⟩
/-- for x in a list or tuple -/
theorem piv_seq {tg : Expr} {ds : List α} (ha : PD X Φ a (oS r) ds) : PIV X Φ tg a ds.length r (fun i d => ds[i]? = some d) :=
  ⟨_, pi_seq pe_sem, fun σ B H hs R k => ha.ev σ B H hs _ fun v d B1 H1 g rr q => by
    subst q
    rcases rr with ⟨a, xs, h1, h2, h3, h4⟩ | ⟨a, xs, h1, h2, h3, h4⟩
    · exact ⟨a, h1, .inl ⟨⟨xs, SqL.of (g.bh _ _ h2)⟩, k _ _ _ g (turns_list h2 h3)⟩⟩
    · exact ⟨a, h1, .inr ⟨⟨xs, SqT.of (g.bh _ _ h2)⟩, k _ _ _ g (turns_tup h2 h3)⟩⟩⟩
theorem turns_range {m : Option Addr} {B1 : Hp} {lo : Int} {n : Nat} : Turns m B1 (Itr lo n) n oI (fun i d => d = lo + (i : Int)) where
  go := fun i hi B H x y => hi
  stop := fun B H x y => Nat.le_refl n
  yld := fun i hi B H v H' x y ⟨e, k⟩ => by
    subst e
    exact ⟨B, _, .refl y, k, rfl⟩
theorem piv_range {tg : Expr} {j : Int} (n : Nat) (ha : PD X Φ a oI j) (hj : j = (n : Int)) (hn : n ≤ 1000) (hm : X.mg "range" = none) (hg : Gl X "range" := by rfl) (he : starEach [a] X.env = [(false, eval a X.env)] := by rfl) : PIV X Φ tg (.Call (.Name "range" p) [a] [] pos) n oI (fun i d => d = (i : Int)) := by
  refine ⟨_, pi_range1 hg hm (pa_cons pe_sem pa_nil he) he, fun σ B H hs R k => ha.ev σ B H hs _ fun v d B1 H1 g rr q => ?_⟩
  subst q
  have e : d.toNat = n := by omega
  refine ⟨d, by rw [show v = V.int d from rr], by omega, by omega, ?_⟩
  rw [e]
  refine k _ _ _ g ?_
  have t : Turns Φ.m B1 (Itr 0 n) n oI (fun i d => d = 0 + (i : Int)) := turns_range
  exact ⟨t.go, t.stop, fun i hi B H v H' x y z => let ⟨B', d, h1, h2, h3⟩ := t.yld i hi B H v H' x y z; ⟨B', d, h1, h2, by omega⟩⟩
theorem piv_range2 {tg : Expr} {i j : Int} (l n : Nat) (ha : PD X Φ a oI i) (hb : PD X Φ b oI j) (hi : i = (l : Int)) (hj : j = (l + n : Nat)) (hn : l + n ≤ 1000) (hm : X.mg "range" = none) (hg : Gl X "range" := by rfl) (he : starEach [a, b] X.env = [(false, eval a X.env), (false, eval b X.env)] := by rfl) (he2 : starEach [b] X.env = [(false, eval b X.env)] := by rfl) : PIV X Φ tg (.Call (.Name "range" p) [a, b] [] pos) n oI (fun i d => d = ((l + i : Nat) : Int)) := by
  refine ⟨_, pi_range2 hg hm (pa_cons pe_sem (pa_cons pe_sem pa_nil (by rw [he2]; rfl)) (by rw [he, he2])) he he2, fun σ B H hs R k => ev2 ha.ev hb.ev hs fun v d w d' B1 H1 g rr q rr' q' => ?_⟩
  subst q q'
  have e : (d' - d).toNat = n := by omega
  refine ⟨d, d', by rw [show v = V.int d from rr, show w = V.int d' from rr'], by omega, ?_⟩
  rw [e]
  refine k _ _ _ g ?_
  have t : Turns Φ.m B1 (Itr d n) n oI (fun i z => z = d + (i : Int)) := turns_range
  exact ⟨t.go, t.stop, fun i hi B H v H' x y z => let ⟨B', d, h1, h2, h3⟩ := t.yld i hi B H v H' x y z; ⟨B', d, h1, h2, by omega⟩⟩
theorem getmin {ds : List α} {es : List β} {i : Nat} (hi : i < min ds.length es.length) : i < ds.length ∧ i < es.length := by omega
theorem turns_zip {m : Option Addr} {K : PySem.W.Frag} {B1 : Hp} {a b : Addr} {xs ys : List V} {ds : List α} {es : List β} (h : B1 a = some (.lst xs)) (q : Prd r B1 xs ds) (h' : B1 b = some (.lst ys)) (q' : Prd r2 B1 ys es) :
    Turns m B1 (Itz K a b) (min ds.length es.length) (oP r r2) (fun i d => ds[i]? = some d.1 ∧ es[i]? = some d.2) where
  go := fun i hi B H x y => by
    have hl := q.len
    have hl' := q'.len
    obtain ⟨i1, i2⟩ := getmin hi
    exact ⟨xs, ys, xs[i]'(by omega), ys[i]'(by omega), SqL.of (y _ _ (x _ _ h)), SqL.of (y _ _ (x _ _ h')), List.getElem?_eq_getElem (by omega), List.getElem?_eq_getElem (by omega)⟩
  stop := fun B H x y => ⟨xs, ys, SqL.of (y _ _ (x _ _ h)), SqL.of (y _ _ (x _ _ h')), by rw [q.len, q'.len]; omega⟩
  yld := fun i hi B H v H' x y ⟨T, u, w, e1, e2, e3, k, k'⟩ => by
    subst e1 e3
    obtain ⟨d, h1, h2⟩ := q.getL (k xs (SqL.of (y _ _ (x _ _ h))))
    obtain ⟨d', h1', h2'⟩ := q'.getL (k' ys (SqL.of (y _ _ (x _ _ h'))))
    have z := ext_none y e2
    have x2 : Ext B1 (upd B T (.tup [u, w])) := x.trans (Ext.upd z)
    exact ⟨_, (d, d'), .alloc y e2, ⟨T, u, w, rfl, upd_same, r.mono x2 h2, r2.mono x2 h2'⟩, h1, h1'⟩
theorem turns_zipT {m : Option Addr} {K : PySem.W.Frag} {B1 : Hp} {a b : Addr} {xs ys : List V} {ds : List α} {es : List β} (h : B1 a = some (.tup xs)) (q : Prd r B1 xs ds) (h' : B1 b = some (.tup ys)) (q' : Prd r2 B1 ys es) :
    Turns m B1 (ItzT K a b) (min ds.length es.length) (oP r r2) (fun i d => ds[i]? = some d.1 ∧ es[i]? = some d.2) where
  go := fun i hi B H x y => by
    have hl := q.len
    have hl' := q'.len
    obtain ⟨i1, i2⟩ := getmin hi
    exact ⟨xs, ys, xs[i]'(by omega), ys[i]'(by omega), SqT.of (y _ _ (x _ _ h)), SqT.of (y _ _ (x _ _ h')), List.getElem?_eq_getElem (by omega), List.getElem?_eq_getElem (by omega)⟩
  stop := fun B H x y => ⟨xs, ys, SqT.of (y _ _ (x _ _ h)), SqT.of (y _ _ (x _ _ h')), by rw [q.len, q'.len]; omega⟩
  yld := fun i hi B H v H' x y ⟨T, u, w, e1, e2, e3, k, k'⟩ => by
    subst e1 e3
    obtain ⟨d, h1, h2⟩ := q.getL (k xs (SqT.of (y _ _ (x _ _ h))))
    obtain ⟨d', h1', h2'⟩ := q'.getL (k' ys (SqT.of (y _ _ (x _ _ h'))))
    have z := ext_none y e2
    have x2 : Ext B1 (upd B T (.tup [u, w])) := x.trans (Ext.upd z)
    exact ⟨_, (d, d'), .alloc y e2, ⟨T, u, w, rfl, upd_same, r.mono x2 h2, r2.mono x2 h2'⟩, h1, h1'⟩
theorem piv_zip {elts : List Expr} {kk : Nat} {tpos : Pos} {ds : List α} {es : List β} (ha : PD X Φ a (oL r) ds) (hb : PD X Φ b (oL r2) es) (hm : X.mg "zip" = none) (hg : Gl X "zip" := by rfl) (he : starEach [a, b] X.env = (false, eval a X.env) :: starEach [b] X.env := by rfl) (he2 : starEach [b] X.env = (false, eval b X.env) :: starEach [] X.env := by rfl) (hpl : (backTo pos (starEach [b] X.env)).any (·.1) = false := by rfl) :
    PIV X Φ (.Tuple elts kk tpos) (.Call (.Name "zip" p) [a, b] [] pos) (min ds.length es.length) (oP r r2) (fun i d => ds[i]? = some d.1 ∧ es[i]? = some d.2) :=
  ⟨_, pi_zip hg hm (pa_cons pe_sem (pa_cons pe_sem pa_nil he2) he) he hpl, fun σ B H hs R k => ev2 ha.ev hb.ev hs fun v d w d' B1 H1 g rr q rr' q' => by
    subst q q'
    obtain ⟨a1, x1, rfl, h2, h3, h4⟩ := rr
    obtain ⟨a2, x2, rfl, h2', h3', h4'⟩ := rr'
    exact ⟨a1, a2, x1, x2, rfl, SqL.of (g.bh _ _ h2), SqL.of (g.bh _ _ h2'), k _ _ _ g (turns_zip h2 h3 h2' h3')⟩⟩
theorem piv_zipT {elts : List Expr} {kk : Nat} {tpos : Pos} {ds : List α} {es : List β} (ha : PD X Φ a (oT r) ds) (hb : PD X Φ b (oT r2) es) (hm : X.mg "zip" = none) (hg : Gl X "zip" := by rfl) (he : starEach [a, b] X.env = (false, eval a X.env) :: starEach [b] X.env := by rfl) (he2 : starEach [b] X.env = (false, eval b X.env) :: starEach [] X.env := by rfl) (hpl : (backTo pos (starEach [b] X.env)).any (·.1) = false := by rfl) :
    PIV X Φ (.Tuple elts kk tpos) (.Call (.Name "zip" p) [a, b] [] pos) (min ds.length es.length) (oP r r2) (fun i d => ds[i]? = some d.1 ∧ es[i]? = some d.2) :=
  ⟨_, pi_zipA hg hm (pa_cons pe_sem (pa_cons pe_sem pa_nil he2) he) he hpl, fun σ B H hs R k => ev2 ha.ev hb.ev hs fun v d w d' B1 H1 g rr q rr' q' => by
    subst q q'
    obtain ⟨a1, x1, rfl, h2, h3, h4⟩ := rr
    obtain ⟨a2, x2, rfl, h2', h3', h4'⟩ := rr'
    exact ⟨a1, a2, x1, x2, rfl, .inr ⟨SqT.of (g.bh _ _ h2), SqT.of (g.bh _ _ h2'), k _ _ _ g (turns_zipT h2 h3 h2' h3')⟩⟩⟩
theorem turns_enum {m : Option Addr} {K : PySem.W.Frag} {B1 : Hp} {a : Addr} {xs : List V} {ds : List α} (h : B1 a = some (.lst xs)) (q : Prd r B1 xs ds) : Turns m B1 (Ite K a) ds.length (oP oI r) (fun i d => d.1 = (i : Int) ∧ ds[i]? = some d.2) where
  go := fun i hi B H x y => by
    have hl := q.len
    exact ⟨xs, xs[i]'(by omega), SqL.of (y _ _ (x _ _ h)), List.getElem?_eq_getElem (by omega)⟩
  stop := fun B H x y => ⟨xs, SqL.of (y _ _ (x _ _ h)), by rw [q.len]; exact Nat.le_refl _⟩
  yld := fun i hi B H v H' x y ⟨T, u, e1, e2, e3, k⟩ => by
    subst e1 e3
    obtain ⟨d, h1, h2⟩ := q.getL (k xs (SqL.of (y _ _ (x _ _ h))))
    have z := ext_none y e2
    exact ⟨_, ((i : Int), d), .alloc y e2, ⟨T, _, _, rfl, upd_same, rfl, r.mono (x.trans (Ext.upd z)) h2⟩, rfl, h1⟩
theorem turns_enumT {m : Option Addr} {K : PySem.W.Frag} {B1 : Hp} {a : Addr} {xs : List V} {ds : List α} (h : B1 a = some (.tup xs)) (q : Prd r B1 xs ds) : Turns m B1 (IteT K a) ds.length (oP oI r) (fun i d => d.1 = (i : Int) ∧ ds[i]? = some d.2) where
  go := fun i hi B H x y => by
    have hl := q.len
    exact ⟨xs, xs[i]'(by omega), SqT.of (y _ _ (x _ _ h)), List.getElem?_eq_getElem (by omega)⟩
  stop := fun B H x y => ⟨xs, SqT.of (y _ _ (x _ _ h)), by rw [q.len]; exact Nat.le_refl _⟩
  yld := fun i hi B H v H' x y ⟨T, u, e1, e2, e3, k⟩ => by
    subst e1 e3
    obtain ⟨d, h1, h2⟩ := q.getL (k xs (SqT.of (y _ _ (x _ _ h))))
    have z := ext_none y e2
    exact ⟨_, ((i : Int), d), .alloc y e2, ⟨T, _, _, rfl, upd_same, rfl, r.mono (x.trans (Ext.upd z)) h2⟩, rfl, h1⟩
theorem piv_enum {elts : List Expr} {kk : Nat} {tpos : Pos} {ds : List α} (ha : PD X Φ a (oS r) ds) (hm : X.mg "enumerate" = none) (hg : Gl X "enumerate" := by rfl) (he : starEach [a] X.env = [(false, eval a X.env)] := by rfl) :
    PIV X Φ (.Tuple elts kk tpos) (.Call (.Name "enumerate" p) [a] [] pos) ds.length (oP oI r) (fun i d => d.1 = (i : Int) ∧ ds[i]? = some d.2) :=
  ⟨_, pi_enumS hg hm (pa_cons pe_sem pa_nil he) he, fun σ B H hs R k => ha.ev σ B H hs _ fun v d B1 H1 g rr q => by
    subst q
    rcases rr with ⟨a, xs, h1, h2, h3, h4⟩ | ⟨a, xs, h1, h2, h3, h4⟩
    · exact ⟨a, xs, by rw [h1], .inl ⟨SqL.of (g.bh _ _ h2), k _ _ _ g (turns_enum h2 h3)⟩⟩
    · exact ⟨a, xs, by rw [h1], .inr ⟨SqT.of (g.bh _ _ h2), k _ _ _ g (turns_enumT h2 h3)⟩⟩⟩
/-! ### targets -/
/-- the target g stores at vs; G2 d tells the slots behind it -/
structure Tg (K : PySem.W.Frag) (g : TG) (r : Rep α) (vs : List Nat) (pt : List (Option Sl) → α → List (Option Sl)) : Prop where
  run : ∀ (Φ : Fm) (σ : L2.St) (B H : Hp) (v : V) (d : α) (Q : L2.St → Hp → Prop), Stt Φ σ B H → r.r B v d → (∀ σ', Stt (Φ.wG (pt Φ.Γ d)) σ' B H → wipe σ' vs = wipe σ vs → Q σ' H) → g v σ H Q
theorem wipe_set {x : Option V} : ∀ {vs : List Nat} {σ : L2.St} {i : Nat}, i ∈ vs → wipe (σ.set i x) vs = wipe σ vs
  | v :: vs, σ, i, h => by
    unfold wipe
    by_cases e : i ∈ vs
    · rw [wipe_set e]
    · have ev : i = v := by
        rcases List.mem_cons.mp h with z | z
        · exact z
        · exact absurd z e
      subst ev
      have go : ∀ {us : List Nat}, i ∉ us → wipe (σ.set i x) us = (wipe σ us).set i x := by
        intro us hu
        induction us with
        | nil => rfl
        | cons u us ih =>
          have hu1 : u ≠ i := fun z => hu (by simp [z])
          unfold wipe
          rw [ih fun z => hu (List.mem_cons_of_mem _ z), List.set_comm _ _ hu1.symm]
      rw [go e, List.set_set]
theorem tg_name {K : PySem.W.Frag} {i : Nat} : Tg K (gName i) r [i] (fun G d => G.set i (some (.kn r d))) where
  run := fun Φ σ B H v d Q hs q k => k _ (hs.put q) (wipe_set (by simp))
theorem tg_pair {K : PySem.W.Frag} {i j : Nat} : Tg K (gTup K 2 (gCons (gName i) (gCons (gName j) gNil))) (oP r r2) [i, j] (fun G d => (G.set i (some (.kn r d.1))).set j (some (.kn r2 d.2))) where
  run := fun Φ σ B H v d Q hs ⟨a, x, y, h1, h2, h3, h4⟩ k => by
    refine ⟨a, [x, y], h1, SqT.of (hs.bh _ _ h2), rfl, x, [y], rfl, y, [], rfl, rfl, ?_⟩
    exact k _ ((hs.put h3).put h4) (by rw [wipe_set (by simp), wipe_set (by simp)])
/-! ### comprehensions -/
/-- the meaning of an element in the comprehension's block, whatever that block is -/
def semEC (X : Cx) (scope : Scope) (e : Expr) : TE := fun σ H Q => ∀ (s : Shared) (H' : Hp) (C : Addr) (cl : List (Str × Addr)) (fp : List Addr), semE (X.blk s H' scope (compEnvC scope cl C X.env) fp) e σ H Q
theorem lc_genO {J : It} {n : Nat} {B0 H00 : Hp} {g : TG} {te : TE} {tt : TT} {vs : List Nat} {σ : L2.St} {it : Nat → α → Prop} {pt : List (Option Sl) → α → List (Option Sl)} {Qd : V → Hp → Prop} {K : PySem.W.Frag}
    (hs : Stt Φ σ B0 H00) (T : Turns Φ.m B0 J n r it) (hg : Tg K g r vs pt) (hv : Free Φ.Γ vs) (acc : Nat → List β) (a0 : acc 0 = []) (al : ∀ i, i ≤ n → (acc i).length ≤ 900)
    (turn : ∀ i, i < n → ∀ d, it i d → (∃ y, acc (i + 1) = acc i ++ [y] ∧ EvT tt (Φ.wG (pt Φ.Γ d)) (fun x => x = true) ∧ EvP te (Φ.wG (pt Φ.Γ d)) r2 (fun x => x = y)) ∨ (acc (i + 1) = acc i ∧ EvT tt (Φ.wG (pt Φ.Γ d)) (fun x => x = false)))
    (D : Addr) (hD : H00 D = none) (fin : ∀ xs B' H', Grow Φ.m B0 H00 B' H' → H' D = some (.lst xs) → B' D = none → Prd r2 B' xs (acc n) → Qd (.ref D) H') :
    ∃ W : Nat → Nat → Hp → Prop, (∃ m, W 0 m (upd H00 D (.lst []))) ∧ ∀ i m H, W i m H →
      (J.stop i H ∧ Qd (.ref D) H) ∨ (J.go i H ∧ ∃ Nx : Hp → Prop, (∀ H', Nx H' → ∃ m', m' < m ∧ W (i + 1) m' H') ∧ ∀ x H', J.yld i H x H' → g x (wipe σ vs) H' fun σ2 H2 => wipe σ2 vs = wipe σ vs ∧ tt σ2 H2 fun b H3 =>
        if b = true then te σ2 H3 fun y H4 => ∃ acc, H4 D = some (.lst acc) ∧ acc.length < sizeLine ∧ Nx (upd H4 D (.lst (acc ++ [y]))) else Nx H3) := by
  have hDm : Φ.m ≠ some D := fun z => by
    exact (hs.mm D z).2 (hs.g.al D hD)
  have ww : wipe (wipe σ vs) vs = wipe σ vs := by
    have go : ∀ (us ws : List Nat), (∀ u ∈ us, u ∈ ws) → wipe (wipe σ us) ws = wipe σ ws := by
      intro us
      induction us with
      | nil => intro ws _; rfl
      | cons u us ih =>
        intro ws hh
        show wipe ((wipe σ us).set u none) ws = _
        rw [wipe_set (hh u (by simp)), ih ws fun z hz => hh z (List.mem_cons_of_mem _ hz)]
    exact go vs vs fun _ h => h
  let Pv : Nat → Hp → Prop := fun i H => ∃ B xs, Grow Φ.m B0 H00 B H ∧ H D = some (.lst xs) ∧ B D = none ∧ Prd r2 B xs (acc i)
  have step : ∀ {i : Nat} {B H B4 H4 : Hp} {xs : List V}, H D = some (.lst xs) → B D = none → Prd r2 B xs (acc i) → Grow Φ.m B H B4 H4 → H4 D = some (.lst xs) ∧ B4 D = none ∧ Prd r2 B4 xs (acc i) := fun {i B H B4 H4 xs} e b q g4 => by
    refine ⟨g4.hh _ _ hDm e, ?_, q.mono g4.bb⟩
    cases z : B4 D with
    | none => rfl
    | some o =>
      rcases g4.new D o z with w | w
      · rw [b] at w; cases w
      · rw [w] at e; cases e
  refine ⟨fun i m H => m = n - i ∧ i ≤ n ∧ Pv i H, ⟨n, by simp, Nat.zero_le _, B0, [], .lay hs.bh hD, upd_same, ext_none hs.bh hD, by rw [a0]; exact .nil⟩, ?_⟩
  rintro i m H ⟨rfl, hi, B, xs, gB, hx, hBD, hp⟩
  by_cases hlt : i < n
  · refine .inr ⟨T.go i hlt B H gB.bb gB.bh, Pv (i + 1), fun H' p' => ⟨n - (i + 1), by omega, rfl, hlt, p'⟩, fun x H' y => ?_⟩
    obtain ⟨B', d, g1, r1, hd⟩ := T.yld i hlt B H x H' gB.bb gB.bh y
    have s1 : Stt Φ (wipe σ vs) B' H' := ((hs.grow gB).grow g1).wipe hv
    refine hg.run Φ _ B' H' x d _ s1 r1 fun σ' s2 hw => ⟨hw.trans ww, ?_⟩
    rcases turn i hlt d hd with ⟨y, ea, ht, he⟩ | ⟨ea, ht⟩
    · refine ht σ' B' H' s2 _ fun b B3 H3 g3 hb => ?_
      subst hb
      rw [if_pos rfl]
      refine he σ' B3 H3 (s2.grow g3) _ fun v z B4 H4 g4 r4 hz => ?_
      subst hz
      have gt : Grow Φ.m B H B4 H4 := (g1.trans g3).trans g4
      obtain ⟨e4, b4, q4⟩ := step hx hBD hp gt
      have hl := al (i + 1) hlt
      rw [ea, List.length_append, List.length_singleton] at hl
      refine ⟨xs, e4, Nat.lt_of_lt_of_le (m := 1000) (by rw [q4.len]; omega) (by decide), B4, xs ++ [v], ?_, upd_same, b4, by rw [ea]; exact q4.snoc r4⟩
      have gg := gB.trans gt
      have nD : ∀ a o, a ≠ D → H4 a = some o → upd H4 D (.lst (xs ++ [v])) a = some o := fun a o z w => by rw [upd_ne z]; exact w
      refine ⟨fun a o z w => ?_, gg.bb, fun a o w => ?_, gg.new, fun a w => gg.al a (upd_al w), fun a z w => ?_⟩
      · have na : a ≠ D := fun z => by subst z; rw [hD] at w; cases w
        exact nD a o na (gg.hh a o z w)
      · have na : a ≠ D := fun z => by subst z; rw [b4] at w; cases w
        exact nD a o na (gg.bh a o w)
      · obtain ⟨u1, u2, y1, y2, y3⟩ := gg.pot a z w
        exact ⟨u1, u2, y1, y2, nD a _ (fun q => by subst q; exact hDm z) y3⟩
    · refine ht σ' B' H' s2 _ fun b B3 H3 g3 hb => ?_
      subst hb
      rw [if_neg Bool.false_ne_true]
      obtain ⟨e4, b4, q4⟩ := step hx hBD hp (g1.trans g3)
      exact ⟨B3, xs, gB.trans (g1.trans g3), e4, b4, by rw [ea]; exact q4⟩
  · have e : i = n := by omega
    subst e
    exact .inl ⟨T.stop B H gB.bb gB.bh, fin xs B H gB hx hBD hp⟩
theorem lc_gen {J : It} {n : Nat} {B0 H00 : Hp} {g : TG} {te : TE} {tt : TT} {vs : List Nat} {σ : L2.St} {it : Nat → α → Prop} {pt : List (Option Sl) → α → List (Option Sl)} {Qd : V → Hp → Prop} {K : PySem.W.Frag}
    (hs : Stt Φ σ B0 H00) (T : Turns Φ.m B0 J n r it) (hg : Tg K g r vs pt) (hv : Free Φ.Γ vs) (acc : Nat → List β) (a0 : acc 0 = []) (al : ∀ i, i ≤ n → (acc i).length ≤ 900)
    (turn : ∀ i, i < n → ∀ d, it i d → (∃ y, acc (i + 1) = acc i ++ [y] ∧ EvT tt (Φ.wG (pt Φ.Γ d)) (fun x => x = true) ∧ EvP te (Φ.wG (pt Φ.Γ d)) r2 (fun x => x = y)) ∨ (acc (i + 1) = acc i ∧ EvT tt (Φ.wG (pt Φ.Γ d)) (fun x => x = false)))
    (fin : ∀ v B' H', Grow Φ.m B0 H00 B' H' → (oL r2).r B' v (acc n) → Qd v H') (D : Addr) (hD : H00 D = none) :
    ∃ W : Nat → Nat → Hp → Prop, (∃ m, W 0 m (upd H00 D (.lst []))) ∧ ∀ i m H, W i m H →
      (J.stop i H ∧ Qd (.ref D) H) ∨ (J.go i H ∧ ∃ Nx : Hp → Prop, (∀ H', Nx H' → ∃ m', m' < m ∧ W (i + 1) m' H') ∧ ∀ x H', J.yld i H x H' → g x (wipe σ vs) H' fun σ2 H2 => wipe σ2 vs = wipe σ vs ∧ tt σ2 H2 fun b H3 =>
        if b = true then te σ2 H3 fun y H4 => ∃ acc, H4 D = some (.lst acc) ∧ acc.length < sizeLine ∧ Nx (upd H4 D (.lst (acc ++ [y]))) else Nx H3) := by
  refine lc_genO hs T hg hv acc a0 al turn D hD fun xs B H gB hx hBD hp => ?_
  have xb : Ext B (upd B D (.lst xs)) := Ext.upd hBD
  refine fin _ (upd B D (.lst xs)) H ⟨gB.hh, gB.bb.trans xb, fun a o w => ?_, fun a o w => ?_, gB.al, gB.pot⟩ ⟨D, xs, rfl, upd_same, hp.mono xb, by have := al n (Nat.le_refl _); omega⟩
  · by_cases z : a = D
    · subst z; rw [upd_same] at w; rw [← w]; exact hx
    · rw [upd_ne z] at w; exact gB.bh a o w
  · by_cases z : a = D
    · subst z; exact .inr hD
    · rw [upd_ne z] at w; exact gB.new a o w
theorem et_yes : EvT tYes Φ (fun x => x = true) := fun σ B H hs Q k => k true B H (.refl hs.bh) rfl
/-- [e for tg in it] -/
theorem ev_lc {elt : Expr} {scope : Scope} {own : List (Str × Nat)} {g : TG} {n : Nat} {it : Nat → α → Prop} {pt : List (Option Sl) → α → List (Option Sl)} {ds : List β} {wi : TI}
    (hw : ∀ σ B H, Stt Φ σ B H → ∀ R : It → Hp → Prop, (∀ J B1 H1, Grow Φ.m B H B1 H1 → Turns Φ.m B1 J n r it → R J H1) → wi σ H R)
    (tg_ : Tg X.K g r (own.map (·.2)) pt) (hv : Free Φ.Γ (own.map (·.2))) (hl : ds.length = n) (hb : n ≤ 900)
    (he : ∀ i, i < n → ∀ d, it i d → ∀ y, ds[i]? = some y → ∀ (s : Shared) (H : Hp) (C : Addr) (cl : List (Str × Addr)) (fp : List Addr), PD (X.blk s H scope (compEnvC scope cl C X.env) fp) (Φ.wG (pt Φ.Γ d)) elt r2 y) :
    EvP (tLc wi g tYes (semEC X scope elt) (own.map (·.2))) Φ (oL r2) (fun x => x = ds) := fun σ B H hst Q k => by
  refine hw σ B H hst _ fun J B1 H1 g1 T D hD => ?_
  refine lc_gen (K := X.K) (hst.grow g1) T tg_ hv (fun i => ds.take i) rfl (fun i hi => by rw [List.length_take]; omega) (fun i hi d hd => .inl ?_) (fun v B' H' g2 rr => k v ds B' H' (g1.trans g2) (by rw [show ds.take n = ds by rw [← hl]; exact List.take_length] at rr; exact rr) rfl) D hD
  have hdi : ds[i]? = some (ds[i]'(by omega)) := List.getElem?_eq_getElem (by omega)
  refine ⟨ds[i]'(by omega), by rw [List.take_add_one, hdi]; rfl, et_yes, fun σ B H hs Q q => ?_⟩
  intro s H' C cl fp pins s' I
  exact he i hi d hd _ hdi s H' C cl fp σ B H hs Q q pins s' I
/-- the same, the new list still one's own -/
theorem ev_lcO {elt : Expr} {scope : Scope} {own : List (Str × Nat)} {g : TG} {n : Nat} {it : Nat → α → Prop} {pt : List (Option Sl) → α → List (Option Sl)} {ds : List β} {wi : TI}
    (hw : ∀ σ B H, Stt Φ σ B H → ∀ R : It → Hp → Prop, (∀ J B1 H1, Grow Φ.m B H B1 H1 → Turns Φ.m B1 J n r it → R J H1) → wi σ H R)
    (tg_ : Tg X.K g r (own.map (·.2)) pt) (hv : Free Φ.Γ (own.map (·.2))) (hl : ds.length = n) (hb : n ≤ 900)
    (he : ∀ i, i < n → ∀ d, it i d → ∀ y, ds[i]? = some y → ∀ (s : Shared) (H : Hp) (C : Addr) (cl : List (Str × Addr)) (fp : List Addr), PD (X.blk s H scope (compEnvC scope cl C X.env) fp) (Φ.wG (pt Φ.Γ d)) elt r2 y)
    {σ : L2.St} {B H : Hp} (hst : Stt Φ σ B H) {Q : VK} (k : ∀ l xs B' H', Grow Φ.m B H B' H' → H l = none → H' l = some (.lst xs) → B' l = none → Prd r2 B' xs ds → Q (.ref l) H') : tLc wi g tYes (semEC X scope elt) (own.map (·.2)) σ H Q := by
  refine hw σ B H hst _ fun J B1 H1 g1 T D hD => ?_
  refine lc_genO (K := X.K) (hst.grow g1) T tg_ hv (fun i => ds.take i) rfl (fun i hi => by rw [List.length_take]; omega) (fun i hi d hd => .inl ?_) D hD (fun xs B' H' g2 h1 h2 h3 => k D xs B' H' (g1.trans g2) (g1.al D hD) h1 h2 (by rw [show ds.take n = ds by rw [← hl]; exact List.take_length] at h3; exact h3))
  have hdi : ds[i]? = some (ds[i]'(by omega)) := List.getElem?_eq_getElem (by omega)
  refine ⟨ds[i]'(by omega), by rw [List.take_add_one, hdi]; rfl, et_yes, fun σ B H hs Q q => ?_⟩
  intro s H' C cl fp pins s' I
  exact he i hi d hd _ hdi s H' C cl fp σ B H hs Q q pins s' I
theorem pv_lc {elt tg iter : Expr} {scope : Scope} (own : List (Str × Nat)) {g : TG} {n : Nat} {it : Nat → α → Prop} {pt : List (Option Sl) → α → List (Option Sl)} (ds : List β) (hc : X.calm = true) (hN : X.N.Nodup)
    (hi : PIV X Φ tg iter n r it) (ok : BlkOk X.N X.env.scope scope own) (hg : ∀ (s : Shared) (H : Hp) (C : Addr) (cl : List (Str × Addr)) (fp : List Addr), PG (X.blk s H scope (compEnvC scope cl C X.env) fp) tg g)
    (tg_ : Tg X.K g r (own.map (·.2)) pt) (hv : Free Φ.Γ (own.map (·.2))) (hl : ds.length = n) (hb : n ≤ 900)
    (he : ∀ i, i < n → ∀ d, it i d → ∀ y, ds[i]? = some y → ∀ (s : Shared) (H : Hp) (C : Addr) (cl : List (Str × Addr)) (fp : List Addr), PD (X.blk s H scope (compEnvC scope cl C X.env) fp) (Φ.wG (pt Φ.Γ d)) elt r2 y)
    (hs : ∀ x, foldedSetIterable iter X.env x = pure x := by intro _; rfl) : PD X Φ (.ListComp elt [⟨tg, iter, [], 0⟩] scope pos) (oL r2) ds := by
  obtain ⟨wi, hpi, hw⟩ := hi
  exact pv_of (pe_lc (te := semEC X scope elt) hc hN hpi ok hg (fun _ _ _ _ _ => pts_nil) (fun s H C cl fp => ⟨fun pins s' σ H' Q I h => h s H C cl fp pins s' I⟩) hs) (ev_lc hw tg_ hv hl hb he)
def semTC (X : Cx) (scope : Scope) (e : Expr) : TT := fun σ H Q => ∀ (s : Shared) (H' : Hp) (C : Addr) (cl : List (Str × Addr)) (fp : List Addr), semT (X.blk s H' scope (compEnvC scope cl C X.env) fp) e σ H Q
/-- [e for tg in it if c]: F i is what the turn i adds -/
theorem pv_lcIf {elt tg iter cnd : Expr} {scope : Scope} (own : List (Str × Nat)) {g : TG} {n : Nat} {it : Nat → α → Prop} {pt : List (Option Sl) → α → List (Option Sl)} (F : Nat → Option β) (hc : X.calm = true) (hN : X.N.Nodup)
    (hi : PIV X Φ tg iter n r it) (ok : BlkOk X.N X.env.scope scope own) (hg : ∀ (s : Shared) (H : Hp) (C : Addr) (cl : List (Str × Addr)) (fp : List Addr), PG (X.blk s H scope (compEnvC scope cl C X.env) fp) tg g)
    (tg_ : Tg X.K g r (own.map (·.2)) pt) (hv : Free Φ.Γ (own.map (·.2))) (hb : n ≤ 900)
    (ht : ∀ i, i < n → ∀ d, it i d → ∀ (s : Shared) (H : Hp) (C : Addr) (cl : List (Str × Addr)) (fp : List Addr), PDT (X.blk s H scope (compEnvC scope cl C X.env) fp) (Φ.wG (pt Φ.Γ d)) cnd (F i).isSome)
    (he : ∀ i, i < n → ∀ d, it i d → ∀ y, F i = some y → ∀ (s : Shared) (H : Hp) (C : Addr) (cl : List (Str × Addr)) (fp : List Addr), PD (X.blk s H scope (compEnvC scope cl C X.env) fp) (Φ.wG (pt Φ.Γ d)) elt r2 y)
    (hs : ∀ x, foldedSetIterable iter X.env x = pure x := by intro _; rfl) : PD X Φ (.ListComp elt [⟨tg, iter, [cnd], 0⟩] scope pos) (oL r2) ((List.range n).filterMap F) := by
  obtain ⟨wi, hpi, hw⟩ := hi
  refine pv_of (pe_lc (te := semEC X scope elt) (tt := semTC X scope cnd) hc hN hpi ok hg (fun s H C cl fp => pts_one ⟨fun pins s' σ H' Q I h => h s H C cl fp pins s' I⟩) (fun s H C cl fp => ⟨fun pins s' σ H' Q I h => h s H C cl fp pins s' I⟩) hs) fun σ B H hst Q k => ?_
  refine hw σ B H hst _ fun J B1 H1 g1 T D hD => ?_
  have fl : ∀ i, ((List.range i).filterMap F).length ≤ i := fun i => by
    have := List.length_filterMap_le F (List.range i)
    rwa [List.length_range] at this
  refine lc_gen (K := X.K) (hst.grow g1) T tg_ hv (fun i => (List.range i).filterMap F) rfl (fun i hi => by have := fl i; omega) (fun i hi d hd => ?_) (fun v B' H' g2 rr => k v _ B' H' (g1.trans g2) rr rfl) D hD
  have e1 : (List.range (i + 1)).filterMap F = (List.range i).filterMap F ++ (match F i with | some y => [y] | none => []) := by
    rw [List.range_succ, List.filterMap_append]
    cases h : F i <;> simp [h]
  cases h : F i with
  | some y =>
    refine .inl ⟨y, by show (List.range (i + 1)).filterMap F = _; rw [e1, h], fun σ B H hs Q q s H' C cl fp pins s' I => ?_, fun σ B H hs Q q s H' C cl fp pins s' I => he i hi d hd y h s H' C cl fp σ B H hs Q q pins s' I⟩
    have := ht i hi d hd s H' C cl fp
    rw [h] at this
    exact this σ B H hs Q q pins s' I
  | none =>
    refine .inr ⟨by show (List.range (i + 1)).filterMap F = _; rw [e1, h, List.append_nil], fun σ B H hs Q q s H' C cl fp pins s' I => ?_⟩
    have := ht i hi d hd s H' C cl fp
    rw [h] at this
    exact this σ B H hs Q q pins s' I
end
end Rp

end
section
set_option Elab.async false
set_option linter.all false
set_option maxRecDepth 100000
set_option maxHeartbeats 2000000
/-! Statements, defs. -/
namespace Rp
open PySem PySem.Spec PyProof.Rows L2 Ru RZ
/-- what is wanted of a def's end: something for v as r tells, with Po -/
def endR {α : Type} (m : Option Addr) (B0 H0 : Hp) (r : Rep α) (Po : α → Prop) : Ends :=
  { nx := fun _ H' => ∃ z B', Grow m B0 H0 B' H' ∧ r.r B' .non z ∧ Po z, rt := fun v H' => ∃ z B', Grow m B0 H0 B' H' ∧ r.r B' v z ∧ Po z }
/-- the same, the block to come to Φ -/
def toF (D : Ends) (Φ : Fm) : Ends := { nx := fun σ H => ∃ B, Stt Φ σ B H, rt := D.rt }
def noN (D : Ends) : Ends := { nx := fun _ _ => False, rt := D.rt }
section
variable {X : Cx} {Φ Φ' : Fm} {α β γ δ : Type} {r : Rep α} {r2 : Rep β} {r3 : Rep γ} {P P1 : α → Prop} {P2 : β → Prop} {P3 : γ → Prop} {e a b c : Expr} {te ta tb : TE} {pos p pos' : Pos} {D D' : Ends} {sts rest t u : List Stmt} {st : Stmt}
theorem sp_mono {pins : List (Addr × Obj)} {f : Flow} {s : Shared} (h1 : ∀ σ H, D.nx σ H → D'.nx σ H) (h2 : ∀ v H, D.rt v H → D'.rt v H) (h3 : ∀ σ H, D.bk σ H → D'.bk σ H) (h4 : ∀ σ H, D.ct σ H → D'.ct σ H) (h : SP X pins D f s) : SP X pins D' f s := by
  cases f with
  | next => obtain ⟨σ, H, I, q⟩ := h; exact ⟨σ, H, I, h1 _ _ q⟩
  | brk => obtain ⟨σ, H, I, q⟩ := h; exact ⟨σ, H, I, h3 _ _ q⟩
  | cont => obtain ⟨σ, H, I, q⟩ := h; exact ⟨σ, H, I, h4 _ _ q⟩
  | ret u => obtain ⟨v, σ, H, I, rr, q⟩ := h; exact ⟨v, σ, H, I, rr, h2 _ _ q⟩
theorem semS_mono {σ : L2.St} {H : Hp} (h : semS X sts D σ H) (h1 : ∀ σ H, D.nx σ H → D'.nx σ H) (h2 : ∀ v H, D.rt v H → D'.rt v H) (h3 : ∀ σ H, D.bk σ H → D'.bk σ H := by intro _ _ h; exact h.elim) (h4 : ∀ σ H, D.ct σ H → D'.ct σ H := by intro _ _ h; exact h.elim) : semS X sts D' σ H :=
  fun pins s I => thn (h pins s I) fun f s' q => sp_mono h1 h2 h3 h4 q
theorem SV.le {G : List (Option Sl)} (h : SV X (Φ.wG G) D sts) (l : Le G Φ.Γ) : SV X Φ D sts := fun σ B H hs => h σ B H (hs.le l)
theorem SV.to (h : SV X Φ D sts) (e : Φ = Φ') : SV X Φ' D sts := e ▸ h
theorem sv_nil (h : ∀ σ B H, Stt Φ σ B H → D.nx σ H) : SV X Φ D [] := sv_of pss_nil fun σ B H hs => h σ B H hs
/-- the block's end is the state wanted -/
theorem sv_end {G : List (Option Sl)} (h : Le G Φ.Γ) : SV X Φ (toF D (Φ.wG G)) [] := sv_nil fun σ B H hs => ⟨B, hs.le h⟩
theorem sv_step {ts : TS} (h : PS X st ts) (k : ∀ σ B H, Stt Φ σ B H → ts { D with nx := fun σ' H' => semS X rest D σ' H' } σ H) : SV X Φ D (st :: rest) := sv_of (pss_cons h pss_sem) fun σ B H hs => k σ B H hs
theorem sv_one {ts : TS} (h : PS X st ts) (k : ∀ σ B H, Stt Φ σ B H → ts D σ H) : SV X Φ D [st] := sv_of (pss_one h) k
/-! if -/
/-- if c: .. (and out), then the rest -/
theorem sv_ifret {q : Bool} (hc : PDT X Φ c q) (h1 : q = true → SV X Φ (noN D) t) (h2 : q = false → SV X Φ D rest) : SV X Φ D (.If c t [] pos :: rest) :=
  sv_step (ps_if pt_sem pss_sem pss_nil) fun σ B H hs => hc σ B H hs _ fun b B1 H1 g hb => by
    subst hb
    cases b with
    | true => rw [if_pos rfl]; exact semS_mono (h1 rfl σ B1 H1 (hs.grow g)) (fun _ _ h => h.elim) (fun _ _ h => h)
    | false => rw [if_neg Bool.false_ne_true]; exact h2 rfl σ B1 H1 (hs.grow g)
/-- if c: .. else: .., both come to Φ' -/
theorem sv_if {q : Bool} (hc : PDT X Φ c q) (h1 : q = true → SV X Φ (toF D Φ') t) (h2 : q = false → SV X Φ (toF D Φ') u) (hr : SV X Φ' D rest) : SV X Φ D (.If c t u pos :: rest) :=
  sv_step (ps_if pt_sem pss_sem pss_sem) fun σ B H hs => hc σ B H hs _ fun b B1 H1 g hb => by
    subst hb
    cases b with
    | true => rw [if_pos rfl]; exact semS_mono (h1 rfl σ B1 H1 (hs.grow g)) (fun σ' H' ⟨B', q⟩ => hr σ' B' H' q) (fun _ _ h => h)
    | false => rw [if_neg Bool.false_ne_true]; exact semS_mono (h2 rfl σ B1 H1 (hs.grow g)) (fun σ' H' ⟨B', q⟩ => hr σ' B' H' q) (fun _ _ h => h)
/-! x = e -/
theorem sv_set {i : Nat} {x : Str} (he : PV X Φ e r P) (hr : ∀ d, P d → SV X (Φ.put i (.kn r d)) D rest) (hN : X.N.Nodup) (hi : X.N[i]? = some x := by rfl) (hx : L2.Loc X.env.scope x := by first | exact .inl rfl | exact .inr rfl) (hs : swapsWith e (some (.Name x pos')) pos.line X.env = pure false := by rfl) (hf : X.fn x = true ∨ X.env.scope.names.lookup x = some .local := by first | exact .inl rfl | exact .inr rfl) :
    SV X Φ D (.Assign [.Name x pos'] e pos :: rest) :=
  sv_step (ps_set hN hi hx pe_sem hs hf) fun σ B H hst => he.ev σ B H hst _ fun v d B1 H1 g rr p => hr d p _ B1 H1 ((hst.grow g).put rr)
theorem sv_setD {i : Nat} {x : Str} {d : α} (he : PD X Φ e r d) (hr : SV X (Φ.put i (.kn r d)) D rest) (hN : X.N.Nodup) (hi : X.N[i]? = some x := by rfl) (hx : L2.Loc X.env.scope x := by first | exact .inl rfl | exact .inr rfl) (hs : swapsWith e (some (.Name x pos')) pos.line X.env = pure false := by rfl) (hf : X.fn x = true ∨ X.env.scope.names.lookup x = some .local := by first | exact .inl rfl | exact .inr rfl) :
    SV X Φ D (.Assign [.Name x pos'] e pos :: rest) := sv_set he (fun d' h => h ▸ hr) hN hi hx hs hf
/-- x = [.. for ..] on one line -/
theorem sv_setLc {i : Nat} {x : Str} {elt tg iter : Expr} {scope : Scope} (own : List (Str × Nat)) {g : TG} {n : Nat} {it : Nat → α → Prop} {pt : List (Option Sl) → α → List (Option Sl)} (ds : List β) (hN : X.N.Nodup)
    (hi : PIV X Φ tg iter n r it) (ok : BlkOk X.N X.env.scope scope own) (hg : ∀ (s : Shared) (H : Hp) (C : Addr) (cl : List (Str × Addr)) (fp : List Addr), PG (X.blk s H scope (compEnvC scope cl C X.env) fp) tg g)
    (tg_ : Tg X.K g r (own.map (·.2)) pt) (hv : Free Φ.Γ (own.map (·.2))) (hl : ds.length = n) (hb : n ≤ 900)
    (he : ∀ i, i < n → ∀ d, it i d → ∀ y, ds[i]? = some y → ∀ (s : Shared) (H : Hp) (C : Addr) (cl : List (Str × Addr)) (fp : List Addr), PD (X.blk s H scope (compEnvC scope cl C X.env) fp) (Φ.wG (pt Φ.Γ d)) elt r2 y)
    (hr : SV X (Φ.put i (.kn (oL r2) ds)) D rest) (hc : X.calm = true := by rfl) (hx : X.N[i]? = some x := by rfl) (hxl : X.env.scope.names.lookup x = some .local := by rfl)
    (hsw : swapsWith (.ListComp elt [⟨tg, iter, [], 0⟩] scope p) (some (.Name x pos')) pos.line X.env = pure true := by exact sw_true rfl rfl rfl (by decide +kernel))
    (hs : ∀ x, foldedSetIterable iter X.env x = pure x := by intro _; rfl) : SV X Φ D (.Assign [.Name x pos'] (.ListComp elt [⟨tg, iter, [], 0⟩] scope p) pos :: rest) := by
  obtain ⟨wi, hpi, hw⟩ := hi
  refine sv_step (ps_setLc (te := semEC X scope elt) hc hN hx hxl hsw hpi ok hg (fun _ _ _ _ _ => pts_nil) (fun s H C cl fp => ⟨fun pins s' σ H' Q I h => h s H C cl fp pins s' I⟩) hs) fun σ B H hst => ?_
  exact ev_lc hw tg_ hv hl hb he σ B H hst _ fun v d B1 H1 g rr hd => by subst hd; exact hr _ B1 H1 ((hst.grow g).put rr)
/-- x = [] (an own list) -/
theorem sv_new {i : Nat} {x : Str} (r : Rep α) (hr : ∀ q, SV X (Φ.put i (.ow q r [])) D rest) (hN : X.N.Nodup) (hi : X.N[i]? = some x := by rfl) (hx : L2.Loc X.env.scope x := by first | exact .inl rfl | exact .inr rfl) (hs : swapsWith (.List [] p) (some (.Name x pos')) pos.line X.env = pure false := by rfl) (hf : X.fn x = true ∨ X.env.scope.names.lookup x = some .local := by first | exact .inl rfl | exact .inr rfl) :
    SV X Φ D (.Assign [.Name x pos'] (.List [] p) pos :: rest) :=
  sv_step (ps_set hN hi hx (pe_lst pa_nil) hs hf) fun σ B H hst => ⟨Nat.zero_le _, fun l hl => hr l _ B _ (hst.putO hl .nil (Nat.zero_le _))⟩
/-! return -/
theorem sv_ret {Po : α → Prop} {nx : L2.St → Hp → Prop} (he : PV X Φ e r Po) : SV X Φ { nx := nx, rt := (endR Φ.m Φ.B0 Φ.H0 r Po).rt } [.Return (some e) pos] :=
  sv_one (ps_ret pe_sem) fun σ B H hst => he.ev σ B H hst _ fun v d B1 H1 g rr p => ⟨d, B1, hst.g.trans g, rr, p⟩
/-- with what the ends are told by -/
theorem SV.ends {nx : L2.St → Hp → Prop} (h : SV X Φ { nx := nx, rt := D.rt } sts) (hn : ∀ σ H, nx σ H → D.nx σ H) : SV X Φ D sts := fun σ B H hs => semS_mono (h σ B H hs) hn (fun _ _ q => q)
theorem sv_retE {Po : α → Prop} {m B0 H0} (he : PV X Φ e r Po) (hm : Φ.m = m) (hB : Φ.B0 = B0) (hH : Φ.H0 = H0) (hD : D.rt = (endR m B0 H0 r Po).rt) : SV X Φ D [.Return (some e) pos] := by
  subst hm hB hH
  refine SV.ends (nx := fun _ _ => False) ?_ fun _ _ h => h.elim
  rw [hD]
  exact sv_ret he
/-! own lists -/
theorem sv_freeze {i : Nat} {q : Addr} {ds : List α} (h : Φ.Γ[i]? = some (some (.ow q r ds))) (hr : SV X (Φ.put i (.kn (oL r) ds)) D sts) : SV X Φ D sts := fun σ B H hs => by
  obtain ⟨B2, h2, _⟩ := hs.freeze h
  exact hr σ B2 H h2
theorem own_at {σ : L2.St} {B H : Hp} {i : Nat} {q : Addr} {ds : List α} (hs : Stt Φ σ B H) (h : Φ.Γ[i]? = some (some (.ow q r ds))) : σ[i]? = some (some (.ref q)) ∧ Φ.m ≠ some q ∧ B q = none ∧ ds.length ≤ 900 ∧ ∃ xs, H q = some (.lst xs) ∧ Prd r B xs ds := by
  obtain ⟨x, hx, h1, h2, h3, h4, h5, xs, h6, h7⟩ := hs.at_ i _ h
  exact ⟨by rw [hx, h1], h2, h4, h5, xs, h6, h7⟩
/-- xs.append(e) -/
theorem sv_append {i : Nat} {x : Str} {q : Addr} {ds : List α} {d : α} {px apos : Pos} (h : Φ.Γ[i]? = some (some (.ow q r ds))) (he : PD X Φ e r d) (hl : ds.length < 900) (hr : SV X (Φ.put i (.ow q r (ds ++ [d]))) D rest)
    (hN : X.N[i]? = some x := by rfl) (hv : Vis X.env.scope x := by first | exact .inl rfl | exact .inr (.inl rfl) | exact .inr (.inr rfl)) (hd : (x == ("__debug__" : Str)) = false := by decide) (hcd : (x == ("__classdict__" : Str)) = false := by decide)
    (hbase : attributeBase (.Name x px) "append" X.env (eval (.Name x px) X.env) = eval (.Name x px) X.env := by rfl) (hline : (apos.endLine == p.line) = true := by rfl) (hst : starEach [e] X.env = (false, eval e X.env) :: starEach [] X.env := by rfl)
    (hfew : ((backTo p (starEach [e] X.env)).all (fun x => !x.1) && (backToKw p (keywordEach [] X.env)).all (fun x => x.1.isSome) && decide (([e] : List Expr).length + ([] : List Keyword).length + (if ([] : List Keyword).isEmpty then 0 else 1) < 30)) = true := by rfl)
    (hplain : (backTo p (starEach [] X.env)).any (·.1) = false := by rfl) (hsw : swapsWith (.Call (.Attribute (.Name x px) "append" apos) [e] [] p) none pos.line X.env = pure false := by rfl) :
    SV X Φ D (.Expr (.Call (.Attribute (.Name x px) "append" apos) [e] [] p) pos :: rest) :=
  sv_step (ps_expr (pe_bm PySem.F.plainAttrs_list PySem.F.slot_list_append PySem.F.type_list_append mt_append (pe_var hN hv hd hcd) (pa_cons pe_sem pa_nil hst) hbase hfew hline hst hplain) hsw) fun σ B H hs => by
    obtain ⟨h1, h2, h3, h4, xs, h5, h6⟩ := own_at hs h
    refine ⟨.ref q, h1, .inl ⟨rfl, xs, SqL.of h5⟩, he.ev σ B H hs _ fun v d' B1 H1 g rr hd' => ?_⟩
    subst hd'
    have hs1 := hs.grow g
    refine ⟨q, xs, v, rfl, rfl, g.hh _ _ h2 h5, Nat.lt_of_lt_of_le (m := 1000) (by rw [h6.len]; omega) (by decide), ?_⟩
    exact hr σ B1 _ (hs1.chg h ((h6.mono g.bb).snoc rr) (by rw [List.length_append]; exact hl))
/-! for -/
theorem sv_for {tg iter : Expr} {body : List Stmt} {g : TG} {n : Nat} {it : Nat → α → Prop} {vs : List Nat} {pt : List (Option Sl) → α → List (Option Sl)} (G : Nat → List (Option Sl))
    (hi : PIV X Φ tg iter n r it) (hg : PG X tg g) (tg_ : Tg X.K g r vs pt) (h0 : Le (G 0) Φ.Γ)
    (hb : ∀ Bs i, i < n → ∀ d, it i d → SV X ((Φ.wB Bs).wG (pt (G i) d)) (toF D ((Φ.wB Bs).wG (G (i + 1)))) body)
    (hr : SV X (Φ.wG (G n)) D rest) (hp : PassesOwn (model X.prog X.w) X.A X.env X.xe := by exact PassesOwn.never) (hc : X.calm = true := by rfl)
    (hs : ∀ x, foldedSetIterable iter X.env x = pure x := by intro _; rfl) : SV X Φ D (.For tg iter body [] pos :: rest) := by
  obtain ⟨wi, hpi, hw⟩ := hi
  refine sv_step (ps_for hp hc hpi hg (pss_sem (sts := body)) hs) fun σ B H hst => hw σ B H hst _ fun J B1 H1 g1 T => ?_
  have st1 : Stt ((Φ.wB B1).wG (G 0)) σ B1 H1 := ((hst.grow g1).le h0).wBs
  have hbs : Ext Φ.Bs B1 := (hst.grow g1).bs
  refine ⟨fun i m σ H => m = n - i ∧ i ≤ n ∧ ∃ B, Stt ((Φ.wB B1).wG (G i)) σ B H, ⟨n, by simp, Nat.zero_le _, B1, st1⟩, ?_⟩
  rintro i m σ2 H2 ⟨rfl, hi, B2, s2⟩
  by_cases hlt : i < n
  · refine .inr ⟨T.go i hlt B2 H2 s2.bs s2.bh, fun σ' H' => ∃ B, Stt ((Φ.wB B1).wG (G (i + 1))) σ' B H', fun σ' H' p' => ⟨n - (i + 1), by omega, rfl, hlt, p'⟩, fun x H' y => ?_⟩
    obtain ⟨B3, d, g3, r3, hd⟩ := T.yld i hlt B2 H2 x H' s2.bs s2.bh y
    refine tg_.run _ σ2 B3 H' x d _ (s2.grow g3) r3 fun σ' s4 _ => ?_
    exact semS_mono (hb B1 i hlt d hd σ' B3 H' s4) (fun _ _ h => h) (fun _ _ h => h)
  · have e : i = n := by omega
    subst e
    exact .inl ⟨T.stop B2 H2 s2.bs s2.bh, hr σ2 B2 H2 (s2.oBs hbs)⟩
end

/-! ### defs -/
section
variable {P : Program} {w : World} {K : PySem.W.Frag} {mg : Str → Option Value} {base : Heap}
/-- the def at f keeps sp, by at most k levels -/
structure Me (P : Program) (w : World) (K : PySem.W.Frag) (mg : Str → Option Value) (base : Heap) (k : Nat) (f : Addr) (sp : Sp) : Prop where
  ok : ∃ fd ps, FnOk P w K mg base CX0 k f fd ps sp ∧ Binds K fd ps []
theorem Me.fnR {k : Nat} {f : Addr} {sp : Sp} (M : Me P w K mg base k f sp) : FnR P w K mg base CX0 k f sp := by
  obtain ⟨fd, ps, F, hb⟩ := M.ok
  exact (F.raw hb .nil).imp fun vs H Q E h => by rw [List.append_nil]; exact h
theorem Me.imp {k : Nat} {f : Addr} {sp sp' : Sp} (M : Me P w K mg base k f sp) (h : ∀ vs H Q E, sp' vs H Q E → sp vs H Q E) : Me P w K mg base k f sp' := by
  obtain ⟨fd, ps, F, hb⟩ := M.ok
  exact ⟨fd, ps, F.imp h, hb⟩
theorem Me.mono {j k : Nat} {f : Addr} {sp : Sp} (M : Me P w K mg base j f sp) (h : j ≤ k) : Me P w K mg base k f sp := by
  obtain ⟨fd, ps, F, hb⟩ := M.ok
  exact ⟨fd, ps, F.mono h, hb⟩
/-- a def of the text at f -/
abbrev Df (K : PySem.W.Frag) (x qual : Str) (st : Stmt) (f : Addr) : Prop := PySem.W.keepIn K (.ref f) = true ∧ ∃ fd, FunD K x qual (defArgs st) (defBody st) (defScope st) [] [] f fd
abbrev xof (P : Program) (w : World) (K : PySem.W.Frag) (mg : Str → Option Value) (base : Heap) (N : List Str) (qual : Str) (st : Stmt) (f : Addr) (cdv : Value) (A : Around) (outer : List Env) (s : Shared) (H : Hp) (E : XK) : Cx := (cxOf CX0 P w K mg base N qual (defScope st) f cdv A outer s H E).nox
/-- what is to be shown of a def's body: from the slots Γ0 of what is given -/
def BodyOk (P : Program) (w : World) (K : PySem.W.Frag) (mg : Str → Option Value) (base : Heap) (k : Nat) (f : Addr) (N : List Str) (qual : Str) (st : Stmt) (go : Cx → Hp → Prop) : Prop :=
  ∀ (cdv : Value) (A : Around) (outer : List Env) (s : Shared) (H : Hp) (E : XK), Room k (A.deeper (envOfC qual (defScope st) s.heap.objs.size f cdv)) → go (xof P w K mg base N qual st f cdv A outer s H E) H
variable {α β γ δ : Type} {r1 : Rep α} {r2 : Rep β} {r3 : Rep γ} {r4 : Rep δ} {k : Nat} {f : Addr} {x qual : Str} {st : Stmt} {N : List Str} {sp : Sp}
theorem me_of {ps : List Str} (F : Df K x qual st f) (S : FnScope N ps (defScope st)) (hb : ∀ (kV doc pm : Value) (an : Option Addr) (cdv ct : Value) (us : List Value), us.length = ps.length → bindArgs (PySem.W.fnOf x qual (defArgs st) (defBody st) (defScope st) .none kV doc pm an cdv ct) ⟨us, []⟩ = pure (ps.zip us))
    (len : ∀ vs H Q E, sp vs H Q E → vs.length = ps.length)
    (body : ∀ (cdv : Value) (A : Around) (outer : List Env) (s : Shared) (H : Hp) (vs : List V) (Q : VK) (E : XK), Room k (A.deeper (envOfC qual (defScope st) s.heap.objs.size f cdv)) → sp vs H Q E → semS (xof P w K mg base N qual st f cdv A outer s H E) (defBody st) { nx := fun _ H' => Q .non H', rt := Q } (start N vs) H) : Me P w K mg base (k + 1) f sp := by
  obtain ⟨kp, fd, F⟩ := F
  exact ⟨fd, ps, F.ok S len fun cdv A outer s H vs Q E hr h => ⟨_, pss_sem.nox, body cdv A outer s H vs Q E hr h⟩, F.bindsN hb⟩
theorem stt_start {Γ0 : List (Option Sl)} {m : Option Addr} {B H : Hp} {vs : List V} (hx : Ext B H) (hm : ∀ a, m = some a → B a = none ∧ H a ≠ none) (hlen : vs.length = Γ0.length) (hN : Γ0.length ≤ N.length)
    (h : ∀ (i : Nat) (s : Sl), Γ0[i]? = some (some s) → ∃ v, vs[i]? = some v ∧ s.ad = none ∧ SlOk m H B H (some v) s) : Stt ⟨Γ0 ++ List.replicate (N.length - Γ0.length) none, m, B, H, B⟩ (start N vs) B H := by
  have out : ∀ {i : Nat} {s : Sl}, (Γ0 ++ List.replicate (N.length - Γ0.length) none)[i]? = some (some s) → Γ0[i]? = some (some s) := fun {i s} hi => by
    by_cases z : i < Γ0.length
    · rwa [List.getElem?_append_left z] at hi
    · rw [List.getElem?_append_right (by omega)] at hi
      have := List.getElem?_eq_some_iff.mp hi
      obtain ⟨_, h2⟩ := this
      rw [List.getElem_replicate] at h2
      cases h2
  refine ⟨?_, fun i s hi => ?_, fun i j s t p hi hj es et => ?_, .refl hx, Ext.rfl', hm⟩
  · show (L2.start N vs).length = _
    unfold L2.start
    simp only [List.length_append, List.length_map, List.length_replicate]
    omega
  · obtain ⟨v, h1, h2, h3⟩ := h i s (out hi)
    refine ⟨some v, ?_, h3⟩
    unfold L2.start
    have hi' : i < (vs.map some).length := by rw [List.length_map]; exact (List.getElem?_eq_some_iff.mp h1).1
    rw [List.getElem?_append_left hi', List.getElem?_map, h1]
    rfl
  · obtain ⟨_, _, h2, _⟩ := h i s (out hi)
    rw [h2] at es
    cases es
theorem me1 {p0 : Str} {Q1 : α → Prop} {Po : α → β → Prop} (F : Df K x qual st f) (S : FnScope N [p0] (defScope st)) (hb : ∀ (kV doc pm : Value) (an : Option Addr) (cdv ct : Value) (us : List Value), us.length = 1 → bindArgs (PySem.W.fnOf x qual (defArgs st) (defBody st) (defScope st) .none kV doc pm an cdv ct) ⟨us, []⟩ = pure ([p0].zip us))
    (hN : 1 ≤ N.length) (body : ∀ d, Q1 d → ∀ B, BodyOk P w K mg base k f N qual st fun X H => X.K = K → SV X ⟨some (.kn r1 d) :: List.replicate (N.length - 1) none, none, B, H, B⟩ (endR none B H r2 (Po d)) (defBody st)) : Me P w K mg base (k + 1) f (sp1 r1 r2 Q1 Po) := by
  refine me_of F S hb (fun vs H Q E ⟨v, d, B, h, _⟩ => by subst h; rfl) fun cdv A outer s H vs Q E hr ⟨v, d, B, e, hx, h1, hp, k⟩ => ?_
  subst e
  refine semS_mono (body d hp B cdv A outer s H E hr rfl _ B H (stt_start (Γ0 := [some (.kn r1 d)]) hx (fun a z => nomatch z) rfl hN fun i s' hi => ?_)) (fun σ' H' ⟨z, B', g, hz, po⟩ => k _ z B' H' g hz po) (fun v' H' ⟨z, B', g, hz, po⟩ => k _ z B' H' g hz po)
  match i, hi with
  | 0, hi => cases hi; exact ⟨v, rfl, rfl, v, rfl, h1⟩
theorem me2 {p0 p1 : Str} {Q1 : α → β → Prop} {Po : α → β → γ → Prop} (F : Df K x qual st f) (S : FnScope N [p0, p1] (defScope st)) (hb : ∀ (kV doc pm : Value) (an : Option Addr) (cdv ct : Value) (us : List Value), us.length = 2 → bindArgs (PySem.W.fnOf x qual (defArgs st) (defBody st) (defScope st) .none kV doc pm an cdv ct) ⟨us, []⟩ = pure ([p0, p1].zip us))
    (hN : 2 ≤ N.length) (body : ∀ d d', Q1 d d' → ∀ B, BodyOk P w K mg base k f N qual st fun X H => X.K = K → SV X ⟨some (.kn r1 d) :: some (.kn r2 d') :: List.replicate (N.length - 2) none, none, B, H, B⟩ (endR none B H r3 (Po d d')) (defBody st)) : Me P w K mg base (k + 1) f (sp2 r1 r2 r3 Q1 Po) := by
  refine me_of F S hb (fun vs H Q E ⟨v, d, v', d', B, h, _⟩ => by subst h; rfl) fun cdv A outer s H vs Q E hr ⟨v, d, v', d', B, e, hx, h1, h2, hp, k⟩ => ?_
  subst e
  refine semS_mono (body d d' hp B cdv A outer s H E hr rfl _ B H (stt_start (Γ0 := [some (.kn r1 d), some (.kn r2 d')]) hx (fun a z => nomatch z) rfl hN fun i s' hi => ?_)) (fun σ' H' ⟨z, B', g, hz, po⟩ => k _ z B' H' g hz po) (fun v' H' ⟨z, B', g, hz, po⟩ => k _ z B' H' g hz po)
  match i, hi with
  | 0, hi => cases hi; exact ⟨v, rfl, rfl, v, rfl, h1⟩
  | 1, hi => cases hi; exact ⟨v', rfl, rfl, v', rfl, h2⟩
theorem me3 {p0 p1 p2 : Str} {Q1 : α → β → γ → Prop} {Po : α → β → γ → δ → Prop} (F : Df K x qual st f) (S : FnScope N [p0, p1, p2] (defScope st)) (hb : ∀ (kV doc pm : Value) (an : Option Addr) (cdv ct : Value) (us : List Value), us.length = 3 → bindArgs (PySem.W.fnOf x qual (defArgs st) (defBody st) (defScope st) .none kV doc pm an cdv ct) ⟨us, []⟩ = pure ([p0, p1, p2].zip us))
    (hN : 3 ≤ N.length) (body : ∀ d d' d2, Q1 d d' d2 → ∀ B, BodyOk P w K mg base k f N qual st fun X H => X.K = K → SV X ⟨some (.kn r1 d) :: some (.kn r2 d') :: some (.kn r3 d2) :: List.replicate (N.length - 3) none, none, B, H, B⟩ (endR none B H r4 (Po d d' d2)) (defBody st)) : Me P w K mg base (k + 1) f (sp3 r1 r2 r3 r4 Q1 Po) := by
  refine me_of F S hb (fun vs H Q E ⟨v, d, v', d', v2, d2, B, h, _⟩ => by subst h; rfl) fun cdv A outer s H vs Q E hr ⟨v, d, v', d', v2, d2, B, e, hx, h1, h2, h3, hp, k⟩ => ?_
  subst e
  refine semS_mono (body d d' d2 hp B cdv A outer s H E hr rfl _ B H (stt_start (Γ0 := [some (.kn r1 d), some (.kn r2 d'), some (.kn r3 d2)]) hx (fun a z => nomatch z) rfl hN fun i s' hi => ?_)) (fun σ' H' ⟨z, B', g, hz, po⟩ => k _ z B' H' g hz po) (fun v' H' ⟨z, B', g, hz, po⟩ => k _ z B' H' g hz po)
  match i, hi with
  | 0, hi => cases hi; exact ⟨v, rfl, rfl, v, rfl, h1⟩
  | 1, hi => cases hi; exact ⟨v', rfl, rfl, v', rfl, h2⟩
  | 2, hi => cases hi; exact ⟨v2, rfl, rfl, v2, rfl, h3⟩
theorem ca_of {y : Str} (M : Me P w K mg base k f sp) (hm : mg y = some (.ref f)) (hk : PySem.W.keepIn K (.ref f) = true) : Ca P w K mg base k y sp := ⟨f, hm, hk, M.fnR⟩
end
end Rp

end
section
set_option Elab.async false
set_option linter.all false
set_option maxRecDepth 100000
set_option maxHeartbeats 2000000
/-! More statements. -/
namespace Rp
open PySem PySem.Spec PyProof.Rows L2 Ru RZ
theorem free1 {G : List (Option Sl)} {j : Nat} (h : G[j]? = some none) : Free G [j] := fun i hi => by
  have e : i = j := by simpa using hi
  subst e
  exact h
theorem free2 {G : List (Option Sl)} {j k : Nat} (h : G[j]? = some none) (h' : G[k]? = some none) : Free G [j, k] := fun i hi => by
  have e : i = j ∨ i = k := by simpa using hi
  rcases e with e | e
  · subst e
    exact h
  · subst e
    exact h'
/-- to Φ, with j -/
def toJ (D : Ends) (j : Prop) (Φ : Fm) : Ends := { nx := fun σ H => j ∧ ∃ B, Stt Φ σ B H, rt := D.rt }
section
variable {X : Cx} {Φ Φ' : Fm} {α β γ δ : Type} {r : Rep α} {r2 : Rep β} {r3 : Rep γ} {P P1 : α → Prop} {P2 : β → Prop} {P3 : γ → Prop} {e a b c : Expr} {te ta tb : TE} {pos p pos' : Pos} {D D' : Ends} {sts rest t u : List Stmt} {st : Stmt}
theorem sv_endJ {G : List (Option Sl)} {j : Prop} (hj : j) (h : Le G Φ.Γ) : SV X Φ (toJ D j (Φ.wG G)) [] := sv_nil fun σ B H hs => ⟨hj, B, hs.le h⟩
theorem sv_forJ {tg iter : Expr} {body : List Stmt} {g : TG} {n : Nat} {it : Nat → α → Prop} {vs : List Nat} {pt : List (Option Sl) → α → List (Option Sl)} (G : Nat → List (Option Sl)) (J : Nat → Prop)
    (hi : PIV X Φ tg iter n r it) (hg : PG X tg g) (tg_ : Tg X.K g r vs pt) (h0 : Le (G 0) Φ.Γ) (j0 : J 0)
    (hb : ∀ Bs i, i < n → J i → ∀ d, it i d → SV X ((Φ.wB Bs).wG (pt (G i) d)) (toJ D (J (i + 1)) ((Φ.wB Bs).wG (G (i + 1)))) body)
    (hr : J n → SV X (Φ.wG (G n)) D rest) (hp : PassesOwn (model X.prog X.w) X.A X.env X.xe := by exact PassesOwn.never) (hc : X.calm = true := by rfl)
    (hs : ∀ x, foldedSetIterable iter X.env x = pure x := by intro _; rfl) : SV X Φ D (.For tg iter body [] pos :: rest) := by
  obtain ⟨wi, hpi, hw⟩ := hi
  refine sv_step (ps_for hp hc hpi hg (pss_sem (sts := body)) hs) fun σ B H hst => hw σ B H hst _ fun J1 B1 H1 g1 T => ?_
  have st1 : Stt ((Φ.wB B1).wG (G 0)) σ B1 H1 := ((hst.grow g1).le h0).wBs
  have hbs : Ext Φ.Bs B1 := (hst.grow g1).bs
  refine ⟨fun i m σ H => m = n - i ∧ i ≤ n ∧ J i ∧ ∃ B, Stt ((Φ.wB B1).wG (G i)) σ B H, ⟨n, by simp, Nat.zero_le _, j0, B1, st1⟩, ?_⟩
  rintro i m σ2 H2 ⟨rfl, hi, ji, B2, s2⟩
  by_cases hlt : i < n
  · refine .inr ⟨T.go i hlt B2 H2 s2.bs s2.bh, fun σ' H' => J (i + 1) ∧ ∃ B, Stt ((Φ.wB B1).wG (G (i + 1))) σ' B H', fun σ' H' p' => ⟨n - (i + 1), by omega, rfl, hlt, p'⟩, fun x H' y => ?_⟩
    obtain ⟨B3, d, g3, r3, hd⟩ := T.yld i hlt B2 H2 x H' s2.bs s2.bh y
    refine tg_.run _ σ2 B3 H' x d _ (s2.grow g3) r3 fun σ' s4 _ => ?_
    exact semS_mono (hb B1 i hlt ji d hd σ' B3 H' s4) (fun _ _ h => h) (fun _ _ h => h)
  · have e : i = n := by omega
    subst e
    exact .inl ⟨T.stop B2 H2 s2.bs s2.bh, hr ji σ2 B2 H2 (s2.oBs hbs)⟩
/-- while c: by a measured family (i: the turn; the test's answer is q i) -/
theorem sv_while {body : List Stmt} (G : Nat → List (Option Sl)) (q : Nat → Bool) (n : Nat) (hq : ∀ i, i < n → q i = true) (hqn : q n = false) (h0 : Le (G 0) Φ.Γ)
    (hc : ∀ i, i ≤ n → PDT X (Φ.wG (G i)) c (q i)) (hb : ∀ i, i < n → SV X (Φ.wG (G i)) (toF D (Φ.wG (G (i + 1)))) body) (hr : SV X (Φ.wG (G n)) D rest)
    (hp : PassesOwn (model X.prog X.w) X.A X.env X.xe := by exact PassesOwn.never) : SV X Φ D (.While c body [] pos :: rest) := by
  refine sv_step (ps_while hp pt_sem (pss_sem (sts := body))) fun σ B H hst => ?_
  refine ⟨fun m σ H => ∃ i, m = n - i ∧ i ≤ n ∧ ∃ B, Stt (Φ.wG (G i)) σ B H, ⟨n, 0, by simp, Nat.zero_le _, B, hst.le h0⟩, ?_⟩
  rintro m σ2 H2 ⟨i, rfl, hi, B2, s2⟩
  refine hc i hi σ2 B2 H2 s2 _ fun b B3 H3 g3 hb3 => ?_
  subst hb3
  by_cases hlt : i < n
  · rw [hq i hlt, if_pos rfl]
    exact ⟨fun σ' H' => ∃ B, Stt (Φ.wG (G (i + 1))) σ' B H', fun σ' H' p' => ⟨n - (i + 1), by omega, i + 1, rfl, hlt, p'⟩, semS_mono (hb i hlt σ2 B3 H3 (s2.grow g3)) (fun _ _ h => h) (fun _ _ h => h)⟩
  · have e : i = n := by omega
    subst e
    rw [hqn, if_neg Bool.false_ne_true]
    exact hr σ2 B3 H3 (s2.grow g3)
/-- a, b = e1, e2 (plain locals) -/
theorem sv_par {i j : Nat} {x y : Str} {px py pt : Pos} {kt k2 : Nat} {pt2 : Pos} {d : α} {d' : β} (ha : PD X Φ a r d) (hb : PD X Φ b r2 d') (hr : SV X ((Φ.put i (.kn r d)).put j (.kn r2 d')) D rest) (hN : X.N.Nodup)
    (hi : X.N[i]? = some x := by rfl) (hj : X.N[j]? = some y := by rfl) (hij : i ≠ j := by decide) (hx : X.env.scope.names.lookup x = some .local := by rfl) (hy : X.env.scope.names.lookup y = some .local := by rfl) (hc : X.calm = true := by rfl)
    (hw : swappedStores [.Tuple [.Name x px, .Name y py] kt pt] (.Tuple [a, b] k2 pt2) X.env = pure (some [x, y]) := by rfl)
    (hs : swapsWithSole [.Tuple [.Name x px, .Name y py] kt pt] (.Tuple [a, b] k2 pt2) pos.line X.env = pure false := by rfl)
    (he : starEach [a, b] X.env = (false, eval a X.env) :: starEach [b] X.env := by rfl) (he2 : starEach [b] X.env = (false, eval b X.env) :: starEach [] X.env := by rfl) :
    SV X Φ D (.Assign [.Tuple [.Name x px, .Name y py] kt pt] (.Tuple [a, b] k2 pt2) pos :: rest) :=
  sv_step (ps_par hc hN hi hj hij hx hy (pa_cons pe_sem (pa_cons pe_sem pa_nil he2) he) hw hs) fun σ B H hst => ev2 ha.ev hb.ev hst fun v d1 w d2 B2 H2 g q p q' p' => by
    subst p p'
    exact ⟨v, w, rfl, hr _ B2 H2 (((hst.grow g).put q).put q')⟩
/-- the parts of a pair -/
theorem pv_fst {d : α × β} (ha : PD X Φ a (oP r r2) d) {j} (hs : PlainIx (.Constant (.int 0) j p) := by exact fun _ _ => rfl) : PD X Φ (.Subscript a (.Constant (.int 0) j p) pos) r d.1 :=
  pv_of (pe_ix ix_tup pe_sem pe_int hs) fun σ B H hst Q k => ha.ev σ B H hst _ fun v d' B2 H2 g rr pp => by
    subst pp
    obtain ⟨a, x, y, h1, h2, h3, h4⟩ := rr
    exact ⟨a, [x, y], 0, x, h1, rfl, SqT.of (g.bh _ _ h2), rfl, k _ _ B2 H2 g h3 rfl⟩
theorem pv_snd {d : α × β} (ha : PD X Φ a (oP r r2) d) {j} (hs : PlainIx (.Constant (.int 1) j p) := by exact fun _ _ => rfl) : PD X Φ (.Subscript a (.Constant (.int 1) j p) pos) r2 d.2 :=
  pv_of (pe_ix ix_tup pe_sem pe_int hs) fun σ B H hst Q k => ha.ev σ B H hst _ fun v d' B2 H2 g rr pp => by
    subst pp
    obtain ⟨a, x, y, h1, h2, h3, h4⟩ := rr
    exact ⟨a, [x, y], 1, y, h1, rfl, SqT.of (g.bh _ _ h2), rfl, k _ _ B2 H2 g h4 rfl⟩
end
/-! three at once -/
section
variable {X : Cx}
def tPar3 (i j k : Nat) (ta : TA) : TS := fun D σ H => ta σ H fun vs H1 => ∃ v w z, vs = [v, w, z] ∧ D.nx (((σ.set i (some v)).set j (some w)).set k (some z)) H1
theorem ps_par3 {pos : Pos} {i j k : Nat} {x y z : Str} {a b c : Expr} {ta : TA} {px py pz pt : Pos} {kt k2 : Nat} {pt2 : Pos} (hc : X.calm = true) (hN : X.N.Nodup) (hi : X.N[i]? = some x) (hj : X.N[j]? = some y) (hk : X.N[k]? = some z) (hij : i ≠ j) (hik : i ≠ k) (hjk : j ≠ k)
    (hx : X.env.scope.names.lookup x = some .local) (hy : X.env.scope.names.lookup y = some .local) (hz : X.env.scope.names.lookup z = some .local) (ha : PA X [a, b, c] ta)
    (hw : swappedStores [.Tuple [.Name x px, .Name y py, .Name z pz] kt pt] (.Tuple [a, b, c] k2 pt2) X.env = pure (some [x, y, z]))
    (hs : swapsWithSole [.Tuple [.Name x px, .Name y py, .Name z pz] kt pt] (.Tuple [a, b, c] k2 pt2) pos.line X.env = pure false) :
    PS X (.Assign [.Tuple [.Name x px, .Name y py, .Name z pz] kt pt] (.Tuple [a, b, c] k2 pt2) pos) (tPar3 i j k ta) := by
  refine ⟨fun pins s σ H D I h => ?_⟩
  rw [exec_Assign_arm]
  refine wpAny_bind (wpAny_standAt ?_)
  rw [hs]
  refine wpAny_bind (wpAny_pure ?_)
  rw [if_neg (by decide)]
  refine wpAny_bind (Tuple_ (thn (ha.run _ pins s σ H _ I h) fun us s1 ⟨vs, H1, I1, r1, q1⟩ => ?_))
  obtain ⟨v, w, t, e1, q1⟩ := q1
  subst e1
  obtain ⟨u1, u2, u3, rfl, rv, rw', rt⟩ : ∃ u1 u2 u3, us = [u1, u2, u3] ∧ RelV v u1 ∧ RelV w u2 ∧ RelV t u3 := by
    cases r1 with
    | cons p q =>
      cases q with
      | cons p' q' =>
        cases q' with
        | cons p2 q2 =>
          cases q2
          exact ⟨_, _, _, rfl, p, p', p2⟩
  refine wpAny_newObj_type ?_ (by show 3 ≤ sizeLine; decide)
  have I2 : L2.Inv X pins σ H1 { s1 with heap := s1.heap.push { cls := .type "tuple", data := .seq [u1, u2, u3].toArray } } := I1.kept (t' := s1.toks) fun b o e => Heap.get?_push_of_some _ e
  rw [hw]
  refine wpAny_bind (wpAny_pure ?_)
  show wpAny (model X.prog X.w) X.A (do rule "assign.swapped-stores"; let items ← unpackItems (.ref s1.heap.objs.size) 3 none; assignInOrder [fun v => bindName X.env z v, fun v => bindName X.env y v, fun v => bindName X.env x v] items.reverse; pure Flow.next) _ _ _
  refine wpAny_bind (wpAny_rule (wpAny_bind (unpackItems_tuple (items := #[u1, u2, u3]) (I.ok.hd hc) (IsTup.new s1.heap _) fun h' hx' => ?_)))
  have I3 := I2.kept (h' := h') (t' := s1.toks) fun b o e => hx' b o (Nat.ne_of_lt (Heap.lt_size e)) e
  show wpAny _ _ (assignInOrder [fun v => bindName X.env z v, fun v => bindName X.env y v, fun v => bindName X.env x v] [u3, u2, u1] >>= fun _ => pure Flow.next) _ _ _
  refine wpAny_bind (assignInOrder_cons (wpAny_bindName (store_ok I3 hN hk (.inl hz) rt (fun s2 I4 => ?_) (.inr hz))))
  refine assignInOrder_cons (wpAny_bindName (store_ok I4 hN hj (.inl hy) rw' (fun s3 I5 => ?_) (.inr hy)))
  refine assignInOrder_cons (wpAny_bindName (store_ok I5 hN hi (.inl hx) rv (fun s4 I6 => assignInOrder_nil (wpAny_pure ?_)) (.inr hx)))
  rw [List.set_comm (l := σ) _ _ (Ne.symm hjk), List.set_comm _ _ (Ne.symm hik), List.set_comm (l := σ) _ _ (Ne.symm hij)] at I6
  exact ⟨_, H1, I6, q1⟩
end
section
variable {X : Cx} {Φ : Fm} {α β γ : Type} {r : Rep α} {r2 : Rep β} {a b : Expr} {pos : Pos} {D : Ends} {rest : List Stmt}
/-- a, b, c = e1, e2, [] (plain locals), c one's own -/
theorem sv_par3 {i j k : Nat} {x y z : Str} {px py pz pt : Pos} {kt k2 : Nat} {pt2 pl : Pos} {d : α} {d' : β} (r3 : Rep γ) (ha : PD X Φ a r d) (hb : PD X Φ b r2 d') (hr : ∀ q, SV X (((Φ.put i (.kn r d)).put j (.kn r2 d')).put k (.ow q r3 [])) D rest) (hN : X.N.Nodup) (hij : i ≠ j) (hik : i ≠ k) (hjk : j ≠ k)
    (hi : X.N[i]? = some x := by rfl) (hj : X.N[j]? = some y := by rfl) (hk : X.N[k]? = some z := by rfl) (hx : X.env.scope.names.lookup x = some .local := by rfl) (hy : X.env.scope.names.lookup y = some .local := by rfl) (hz : X.env.scope.names.lookup z = some .local := by rfl) (hc : X.calm = true := by rfl)
    (hw : swappedStores [.Tuple [.Name x px, .Name y py, .Name z pz] kt pt] (.Tuple [a, b, .List [] pl] k2 pt2) X.env = pure (some [x, y, z]) := by rfl)
    (hs : swapsWithSole [.Tuple [.Name x px, .Name y py, .Name z pz] kt pt] (.Tuple [a, b, .List [] pl] k2 pt2) pos.line X.env = pure false := by rfl)
    (he : starEach [a, b, .List [] pl] X.env = (false, eval a X.env) :: starEach [b, .List [] pl] X.env := by rfl) (he2 : starEach [b, .List [] pl] X.env = (false, eval b X.env) :: starEach [.List [] pl] X.env := by rfl) (he3 : starEach [.List [] pl] X.env = (false, eval (.List [] pl) X.env) :: starEach [] X.env := by rfl) :
    SV X Φ D (.Assign [.Tuple [.Name x px, .Name y py, .Name z pz] kt pt] (.Tuple [a, b, .List [] pl] k2 pt2) pos :: rest) :=
  sv_step (ps_par3 hc hN hi hj hk hij hik hjk hx hy hz (pa_cons pe_sem (pa_cons pe_sem (pa_cons (pe_lst pa_nil) pa_nil he3) he2) he) hw hs) fun σ B H hst => ev2 ha.ev hb.ev hst fun v d1 w d2 B2 H2 g q p q' p' => by
    subst p p'
    refine ⟨Nat.zero_le _, fun l hl => ⟨v, w, .ref l, rfl, ?_⟩⟩
    exact hr l _ B2 _ ((((hst.grow g).put q).put q').putO (i := k) (e := r3) (ds := []) hl .nil (Nat.zero_le _))
end
end Rp

end
section
set_option Elab.async false
set_option linter.all false
set_option maxRecDepth 100000
set_option maxHeartbeats 2000000
set_option exponentiation.threshold 100000
/-! What of the text the walks lean on. -/
namespace Wk
open PySem PySem.Spec PyProof.Rows L2 Ru RZ Rp
open Hd (top)
structure Tx (K : PySem.W.Frag) (mg : Str → Option Value) where
  C : Addr
  mkf : Addr
  mgC : mg "Ratio" = some (.ref C)
  cls : Cls K C
  n1 : NoAttr K C "own_top"
  n2 : NoAttr K C "own_bottom"
  mkk : Mk K C mkf
  tx1 : PySem.W.findIn K (.ref C) "__class__" = some (some (.builtin "object.__class__"))
  tx2 : PySem.W.specialIn K (.builtin "object.__class__") "__get__" = some (some (.builtin "getset_descriptor.__get__"))
  tx3 : PySem.W.takesIn K (.builtin "object.__class__") = some true
  tx4 : PySem.W.mroIn K C (.type "object") = some true
  kQI : PySem.W.kitOne K (.ref C) (.type "int") = some false
  kIQ : PySem.W.kitOne K (.type "int") (.ref C) = some false
  kQQ : PySem.W.kitOne K (.ref C) (.ref C) = some true
  b_len : mg "len" = none
  b_range : mg "range" = none
  b_zip : mg "zip" = none
  b_enumerate : mg "enumerate" = none
  b_isinstance : mg "isinstance" = none
  b_int : mg "int" = none
  b_bool : mg "bool" = none
  b_list : mg "list" = none
  b_tuple : mg "tuple" = none
  b_sum : mg "sum" = none
  b_all : mg "all" = none
  b_sorted : mg "sorted" = none
  b_abs : mg "abs" = none
  b_max : mg "max" = none
  b_divmod : mg "divmod" = none
  gcd : mg "gcd" = some (.builtin "math.gcd")
  lcm : mg "lcm" = some (.builtin "math.lcm")
/-- an int, or a Ratio -/
def oU (C : Addr) : Rep (Int ⊕ Rat) := ⟨fun H v d => match d with
  | .inl i => v = .int i
  | .inr q => (oQ C).r H v q, fun {H H' v d} x h => by
    cases d with
    | inl i => exact h
    | inr q => exact (oQ C).mono x h⟩
def uval : Int ⊕ Rat → Rat
  | .inl i => (i : Rat)
  | .inr q => q
section
variable {P : Program} {w : World} {K : PySem.W.Frag} {mg : Str → Option Value} {base : Heap} {X : Cx} {Φ : Fm} {α β : Type} {r : Rep α} {r2 : Rep β} {e a b c : Expr} {pos p : Pos}
theorem pvNU {C : Addr} {q : Rat} (h : PD X Φ e (oN C) q) : PV X Φ e (oU C) (fun u => uval u = q) := h.rep fun H v d q h => by
  rcases h with h | ⟨i, h1, h2⟩
  · exact ⟨.inr d, h, q⟩
  · exact ⟨.inl i, h1, by rw [← q, h2]; rfl⟩
theorem pvQU {C : Addr} {q : Rat} (h : PD X Φ e (oQ C) q) : PD X Φ e (oU C) (.inr q) := h.rep fun H v d q h => ⟨.inr d, h, by rw [q]⟩
theorem pvIU {C : Addr} {i : Int} (h : PD X Φ e oI i) : PD X Φ e (oU C) (.inl i) := h.rep fun H v d q h => ⟨.inl d, h, by rw [q]⟩
theorem pvUI {C : Addr} {i : Int} (hh : PD X Φ e (oU C) (.inl i)) : PD X Φ e oI i := hh.rep fun H v d q h => by subst q; exact ⟨i, h, rfl⟩
theorem pvUQ {C : Addr} {i : Rat} (hh : PD X Φ e (oU C) (.inr i)) : PD X Φ e (oQ C) i := hh.rep fun H v d q h => by subst q; exact ⟨i, h, rfl⟩
theorem pvUN {C : Addr} {u : Int ⊕ Rat} (hh : PD X Φ e (oU C) u) : PD X Φ e (oN C) (uval u) := hh.rep fun H v d q h => by
  subst q
  cases d with
  | inl i => exact ⟨_, .inr ⟨i, h, rfl⟩, rfl⟩
  | inr q => exact ⟨_, .inl h, rfl⟩
/-- a list of whatever -/
theorem oV_prd {B : Hp} : ∀ {xs : List V}, Prd oV B xs xs
  | [] => .nil
  | _ :: _ => .cons rfl oV_prd
theorem pvV {ds : List α} (hh : PD X Φ e (oS r) ds) : PV X Φ e (oS oV) (fun vs => vs.length = ds.length) := hh.rep fun H v d q h => by
  subst q
  rcases h with ⟨a, xs, h1, h2, h3, h4⟩ | ⟨a, xs, h1, h2, h3, h4⟩
  · exact ⟨xs, .inl ⟨a, xs, h1, h2, oV_prd, by rw [h3.len]; exact h4⟩, h3.len⟩
  · exact ⟨xs, .inr ⟨a, xs, h1, h2, oV_prd, by rw [h3.len]; exact h4⟩, h3.len⟩
/-! isinstance -/
theorem Tx.tyQ (T : Tx K mg) {B : Hp} {v : V} {q : Rat} (h : (oQ T.C).r B v q) {H : Hp} (x : Ext B H) : TyX K H v (.ref T.C) := by
  obtain ⟨a, dx, h1, h2⟩ := h
  subst h1
  exact .base (.ins (x _ _ h2) T.cls T.tx1 T.tx2 T.tx3 T.tx4)
/-- isinstance(e, C) -/
theorem pv_isi {u : Value} {cv : V} {P1 : α → Prop} {q : Bool} (hc : PE X b (tC cv)) (hk : ClsV cv u) (ha : PV X Φ a r P1) (ht : ∀ B H v d, Ext B H → r.r B v d → P1 d → ∃ t, TyX X.K H v t ∧ PySem.W.kitOne X.K t u = some q)
    (hm : X.mg "isinstance" = none) (hg : Gl X "isinstance" := by rfl) (he : starEach [a, b] X.env = (false, eval a X.env) :: starEach [b] X.env := by rfl) (he2 : starEach [b] X.env = (false, eval b X.env) :: starEach [] X.env := by rfl) (hpl : (backTo pos (starEach [b] X.env)).any (·.1) = false := by rfl) :
    PD X Φ (.Call (.Name "isinstance" p) [a, b] [] pos) oB q :=
  pv_of (pe_callB call_isi hg hm (by decide +kernel) (pa_cons pe_sem (pa_cons hc pa_nil he2) he) (by decide) (by decide) he hpl) fun σ B H hs Q k => ha.ev σ B H hs _ fun v d B1 H1 g rr pp => by
    obtain ⟨t, h1, h2⟩ := ht B1 H1 v d g.bh rr pp
    exact ⟨v, cv, t, u, q, rfl, hk, h1, h2, k _ _ B1 H1 g rfl rfl⟩
theorem pe_tyname {n : String} {x : Str} (hm : X.mg x = none) (hv : bootBuiltins x = some (.type n)) (hg : Gl X x := by rfl) (hn : x ≠ "__name__" := by decide) (hd : (x == ("__debug__" : Str)) = false := by decide) : PE X (.Name x pos) (tC (.ty n)) :=
  pe_bltn hg hm hv rfl hn hd
theorem pe_clname {C : Addr} {x : Str} (hm : X.mg x = some (.ref C)) (hg : Gl X x := by rfl) (hd : (x == ("__debug__" : Str)) = false := by decide) : PE X (.Name x pos) (tC (.ref C)) := pe_glob hg hm rfl hd
end
end Wk

end
section
set_option Elab.async false
set_option linter.all false
set_option maxRecDepth 100000
set_option maxHeartbeats 2000000
set_option exponentiation.threshold 100000
/-! basics, ratios. -/
namespace Wk
open PySem PySem.Spec PyProof.Rows L2 Ru RZ Rp
open Hd (top)
/-! ### numbers -/
def Fit (q : Rat) : Prop := q.num.natAbs < 2 ^ 4500 ∧ q.den < 2 ^ 4500
theorem Fit.int {i : Int} (h : i.natAbs < 2 ^ 4500) : Fit (i : Rat) := ⟨h, Nat.one_lt_two_pow (by decide)⟩
theorem wmul {i j : Int} (h : i.natAbs < 2 ^ 4500) (h' : j.natAbs < 2 ^ 4500) : CMulW i j := wide_mul h h' (by decide) (by decide) (by decide)
theorem dlt {n : Nat} (h : n < 2 ^ 4500) : ((n : Nat) : Int).natAbs < 2 ^ 4500 := by rw [Int.natAbs_natCast]; exact h
theorem p9000 {i j : Int} (h : i.natAbs < 2 ^ 4500) (h' : j.natAbs < 2 ^ 4500) : (i * j).natAbs < 2 ^ 9000 := by
  rw [Int.natAbs_mul, show (9000 : Nat) = 4500 + 4500 from rfl, Nat.pow_add]
  exact Nat.mul_lt_mul'' h h'
theorem den_ne (q : Rat) : ((q.den : Nat) : Int) ≠ 0 := by have := q.den_pos; omega
/-- the two fields by the gcd -/
theorem gcd_fields {t b : Int} (hb : b ≠ 0) {c : Int} (hc : c = if b < 0 then 0 - ((Nat.gcd t.natAbs b.natAbs : Nat) : Int) else ((Nat.gcd t.natAbs b.natAbs : Nat) : Int)) :
    c ≠ 0 ∧ c.natAbs ≤ b.natAbs ∧ t.fdiv c = ((t : Rat) / b).num ∧ b.fdiv c = ((((t : Rat) / b).den : Nat) : Int) := by
  have hbp : 0 < b.natAbs := Int.natAbs_pos.mpr hb
  have hg : 0 < Nat.gcd t.natAbs b.natAbs := Nat.gcd_pos_of_pos_right _ hbp
  have hle : Nat.gcd t.natAbs b.natAbs ≤ b.natAbs := Nat.gcd_le_right _ hbp
  have d1 : ((Nat.gcd t.natAbs b.natAbs : Nat) : Int) ∣ t := Int.ofNat_dvd_left.mpr (Nat.gcd_dvd_left _ _)
  have d2 : ((Nat.gcd t.natAbs b.natAbs : Nat) : Int) ∣ b := Int.ofNat_dvd_left.mpr (Nat.gcd_dvd_right _ _)
  have eg : b.gcd t = Nat.gcd t.natAbs b.natAbs := by
    show Nat.gcd b.natAbs t.natAbs = _
    exact Nat.gcd_comm _ _
  have en := Rat.num_divInt t b
  have ed := Rat.den_divInt t b
  rw [Rat.divInt_eq_div, eg] at en ed
  rw [if_neg hb] at ed
  generalize hG : Nat.gcd t.natAbs b.natAbs = g at *
  have edI : ((((t : Rat) / b).den : Nat) : Int) = ((b.natAbs : Nat) : Int) / (g : Int) := by rw [ed]; exact Int.natCast_ediv _ _
  by_cases hneg : b < 0
  · rw [if_pos hneg] at hc
    have hc' : c = -(g : Int) := by omega
    subst hc'
    have dd1 : (-(g : Int)) ∣ t := Int.neg_dvd.mpr d1
    have dd2 : (-(g : Int)) ∣ b := Int.neg_dvd.mpr d2
    refine ⟨by omega, by omega, ?_, ?_⟩
    · rw [Int.fdiv_eq_ediv_of_dvd dd1, Int.ediv_neg, en, Int.sign_eq_neg_one_of_neg hneg, Int.neg_one_mul, Int.neg_ediv_of_dvd d1]
    · rw [Int.fdiv_eq_ediv_of_dvd dd2, Int.ediv_neg, edI, show ((b.natAbs : Nat) : Int) = -b by omega, Int.neg_ediv_of_dvd d2]
  · rw [if_neg hneg] at hc
    subst hc
    refine ⟨by omega, by omega, ?_, ?_⟩
    · rw [Int.fdiv_eq_ediv_of_dvd d1, en, Int.sign_eq_one_of_pos (by omega), Int.one_mul]
    · rw [Int.fdiv_eq_ediv_of_dvd d2, edI, show ((b.natAbs : Nat) : Int) = b by omega]
/-! ### promises -/
abbrev S_isint (C : Addr) : Sp := sp1 (oU C) oB (fun _ => True) (fun d z => z = d.isLeft)
abbrev S_islist : Sp := sp1 (oS oV) oB (fun _ => True) (fun _ z => z = true)
abbrev S_div : Sp := sp2 oI oI oI (fun _ _ => True) (fun i j z => z = ((Nat.gcd i.natAbs j.natAbs : Nat) : Int))
abbrev S_told (C : Addr) : Sp := sp1 (oN C) (oP oI oI) (fun _ => True) (fun q z => z = (q.num, ((q.den : Nat) : Int)))
/-- __init__ -/
def S_init (C : Addr) : Sp := fun vs H Q _ => ∃ a dx t b B, vs = [.ref a, .int t, .int b] ∧ Ext B H ∧ H a = some (.ins C dx []) ∧ b ≠ 0 ∧ b.natAbs < 2 ^ 9000 ∧
  ∀ B' H1, Grow none B H B' H1 → Q .non (upd H1 a (.ins C dx (qf ((t : Rat) / b))))
abbrev S_op (C : Addr) (g : Rat → Rat → Rat) : Sp := sp2 (oQ C) (oN C) (oQ C) (fun q q' => Fit q ∧ Fit q') (fun q q' z => z = g q q')
abbrev S_over (C : Addr) : Sp := sp2 (oQ C) (oN C) (oQ C) (fun q q' => Fit q ∧ Fit q' ∧ q' ≠ 0) (fun q q' z => z = q / q')
abbrev S_eq (C : Addr) : Sp := sp2 (oQ C) (oQ C) oB (fun _ _ => True) (fun q q' z => z = decide (q = q'))
def sg (q : Rat) : Int := (if (0 : Int) < q.num then 1 else 0) - (if q.num < 0 then 1 else 0)
abbrev S_sign (C : Addr) : Sp := sp1 (oQ C) oI (fun _ => True) (fun q z => z = sg q)
/-- floor by any divisor below the line -/
theorem op_fdivZ {X : Cx} : OpR X (binaryOp .FloorDiv) (L2.rI (fun _ j => j ≠ 0 ∧ j.natAbs.log2 < 9000) fun i j => .int (i.fdiv j)) := opI fun _ _ _ _ _ _ _ hc q => floordiv_int hc.1 q (.inl (PyProof.noPylong_of_log2 hc.2))
section
variable {P : Program} {w : World} {K : PySem.W.Frag} {mg : Str → Option Value} {base : Heap} {f : Addr} {k : Nat}
theorem sc14 : FnScope ["value"] ["value"] (defScope (top 14)) := ⟨rfl, rfl, rfl, by decide +kernel, rfl, by decide +kernel, by decide +kernel⟩
theorem m_is_integer (T : Tx K mg) (F : Df K "is_integer" "is_integer" (top 14) f) : Me P w K mg base 1 f (S_isint T.C) := by
  refine me1 (k := 0) F sc14 (fun _ _ _ _ _ _ us hl => match us, hl with | [_], _ => rfl) (by decide) fun d _ B cdv A outer s H E hr _ => ?_
  cases d with
  | inl i =>
    refine sv_retE (r := oB) ((pv_and2 (p := true) (q := true) (pv_isi (pe_tyname T.b_int (by decide +kernel)) (.ty "int") (pv_var (i := 0) rfl) (fun B H v d x h1 h2 => ?_) T.b_isinstance) fun _ => pv_not (p := false) (pv_isi (pe_tyname T.b_bool (by decide +kernel)) (.ty "bool") (pv_var (i := 0) rfl) (fun B H v d x h1 h2 => ?_) T.b_isinstance)).imp fun z h => h) rfl rfl rfl rfl
    · subst h2
      rw [show v = V.int i from h1]
      exact ⟨_, .base (.int i), kit_ty (by decide +kernel)⟩
    · subst h2
      rw [show v = V.int i from h1]
      exact ⟨_, .base (.int i), kit_ty (by decide +kernel)⟩
  | inr q =>
    refine sv_retE (r := oB) ((pv_and2 (p := false) (q := true) (pv_isi (pe_tyname T.b_int (by decide +kernel)) (.ty "int") (pv_var (i := 0) rfl) (fun B H v d x h1 h2 => ?_) T.b_isinstance) fun z => nomatch z).imp fun z h => h) rfl rfl rfl rfl
    subst h2
    exact ⟨_, T.tyQ h1 x, T.kQI⟩
theorem sc15 : FnScope ["value"] ["value"] (defScope (top 15)) := ⟨rfl, rfl, rfl, by decide +kernel, rfl, by decide +kernel, by decide +kernel⟩
theorem m_is_list (T : Tx K mg) (F : Df K "is_list" "is_list" (top 15) f) : Me P w K mg base 1 f S_islist := by
  refine me1 (k := 0) F sc15 (fun _ _ _ _ _ _ us hl => match us, hl with | [_], _ => rfl) (by decide) fun d _ B cdv A outer s H E hr _ => ?_
  refine sv_retE (r := oB) (Po := fun z => z = true) ?_ rfl rfl rfl rfl
  refine pv_of (pe_callB call_isiT (by rfl) T.b_isinstance (by decide +kernel) (pa_cons pe_sem (pa_cons (pe_tup (pa_cons (pe_tyname (n := "list") T.b_list (by decide +kernel)) (pa_cons (pe_tyname (n := "tuple") T.b_tuple (by decide +kernel)) pa_nil))) pa_nil))) fun σ B1 H1 hs Q kk => ?_
  refine (pv_var (i := 0) (r := oS oV) (d := d) rfl).ev σ B1 H1 hs _ fun v d' B2 H2 g rr pp => ?_
  refine ⟨by show 2 ≤ sizeLine; decide, fun t ht => ?_⟩
  have g2 : Grow none B1 H1 B2 (upd H2 t (.tup [.ty "list", .ty "tuple"])) := g.trans (.lay g.bh ht)
  subst pp
  rcases rr with ⟨a, xs, h1, h2, h3, h4⟩ | ⟨a, xs, h1, h2, h3, h4⟩
  · refine ⟨v, t, _, .type "list", [.type "list", .type "tuple"], true, rfl, upd_same, .cons (.ty _) (.cons (.ty _) .nil), ?_, kitAny_cons (kit_ty (b := "list") (r := true) (by decide +kernel)) (fun q => nomatch q) (fun _ => rfl), kk _ true B2 _ g2 rfl rfl⟩
    rw [h1]
    exact .base (.lst (g2.bh _ _ h2))
  · refine ⟨v, t, _, .type "tuple", [.type "list", .type "tuple"], true, rfl, upd_same, .cons (.ty _) (.cons (.ty _) .nil), ?_, kitAny_cons (kit_ty (b := "list") (r := false) (by decide +kernel)) (fun _ => kitAny_cons (kit_ty (b := "tuple") (r := true) (by decide +kernel)) (fun q => nomatch q) (fun _ => rfl)) (fun q => nomatch q), kk _ true B2 _ g2 rfl rfl⟩
    rw [h1]
    exact .base (.tup (g2.bh _ _ h2))
theorem sc19 : FnScope ["one", "other"] ["one", "other"] (defScope (top 19)) := ⟨rfl, rfl, rfl, by decide +kernel, rfl, by decide +kernel, by decide +kernel⟩
theorem m_divisor_of (T : Tx K mg) (F : Df K "divisor_of" "divisor_of" (top 19) f) : Me P w K mg base 1 f S_div := by
  refine me2 (k := 0) F sc19 (fun _ _ _ _ _ _ us hl => match us, hl with | [_, _], _ => rfl) (by decide) fun d d' _ B cdv A outer s H E hr _ => ?_
  exact sv_retE (r := oI) (pv_gcd (pv_var (i := 0) (r := oI) (d := d) rfl) (pv_var (i := 1) (r := oI) (d := d') rfl) T.gcd) rfl rfl rfl rfl
theorem sc21 : FnScope ["value"] ["value"] (defScope (top 21)) := ⟨rfl, rfl, rfl, by decide +kernel, rfl, by decide +kernel, by decide +kernel⟩
section
variable {X : Cx} {Φ : Fm} {e a b : Expr} {pos : Pos} {C : Addr} {q : Rat}
theorem ev_fld {g : Rat → Int} {x : Str} {te : TE} (hc : Cls K C) (hn : NoAttr K C x) (hl : ∀ q, (qf q).lookup x = some (.int (g q))) (ha : EvP te Φ (oQ C) (fun z => z = q)) : EvP (tFld K te x) Φ oI (fun z => z = g q) := fun σ B H hs Q k => ha σ B H hs _ fun v d B2 H2 gr rr p => by
  subst p
  obtain ⟨a, dx, h1, h2⟩ := rr
  exact ⟨a, C, dx, qf d, .int (g d), h1, gr.bh _ _ h2, hc, hn, hl d, k _ _ B2 H2 gr rfl rfl⟩
theorem pv_top (T : Tx X.K mg) (ha : PD X Φ a (oQ T.C) q) (hb : attributeBase a "own_top" X.env (eval a X.env) = eval a X.env := by rfl) : PD X Φ (.Attribute a "own_top" pos) oI q.num :=
  pv_of (pe_fld pe_sem hb) (ev_fld T.cls T.n1 (fun _ => rfl) ha.ev)
theorem pv_bot (T : Tx X.K mg) (ha : PD X Φ a (oQ T.C) q) (hb : attributeBase a "own_bottom" X.env (eval a X.env) = eval a X.env := by rfl) : PD X Φ (.Attribute a "own_bottom" pos) oI ((q.den : Nat) : Int) :=
  pv_of (pe_fld pe_sem hb) (ev_fld (g := fun q => ((q.den : Nat) : Int)) T.cls T.n2 (fun _ => rfl) ha.ev)
/-- isinstance(a, Ratio) -/
theorem pv_isQ {x : Str} {p : Pos} {u : Int ⊕ Rat} {p2 : Pos} (T : Tx X.K X.mg) (ha : PD X Φ a (oU T.C) u) (hg : Gl X "isinstance" := by rfl) (hg2 : Gl X "Ratio" := by rfl) (he : starEach [a, .Name "Ratio" p2] X.env = (false, eval a X.env) :: starEach [.Name "Ratio" p2] X.env := by rfl) (he2 : starEach [.Name "Ratio" p2] X.env = (false, eval (.Name "Ratio" p2) X.env) :: starEach [] X.env := by rfl) (hpl : (backTo pos (starEach [.Name "Ratio" p2] X.env)).any (·.1) = false := by rfl) :
    PD X Φ (.Call (.Name "isinstance" p) [a, .Name "Ratio" p2] [] pos) oB (!u.isLeft) := by
  refine pv_isi (pe_clname T.mgC hg2) (.own T.C) ha (fun B H v d xx h1 h2 => ?_) T.b_isinstance hg he he2 hpl
  subst h2
  cases d with
  | inl i =>
    rw [show v = V.int i from h1]
    exact ⟨_, .base (.int i), T.kIQ⟩
  | inr q => exact ⟨_, T.tyQ h1 xx, T.kQQ⟩
end
theorem m_told_pair (T : Tx K mg) (F : Df K "told_pair" "told_pair" (top 21) f) (c1 : Ca P w K mg base 1 "is_integer" (S_isint T.C)) : Me P w K mg base 2 f (S_told T.C) := by
  refine Me.imp (sp := sp1 (oU T.C) (oP oI oI) (fun _ => True) (fun u z => z = ((uval u).num, (((uval u).den : Nat) : Int)))) ?_ (fun vs H Q E ⟨v, d, B, h1, h2, h3, _, h5⟩ => ?_)
  · refine me1 (k := 1) F sc21 (fun _ _ _ _ _ _ us hl => match us, hl with | [_], _ => rfl) (by decide) fun d _ B cdv A outer s H E hr _ => ?_
    refine sv_ifret (q := !d.isLeft) (pt_val1 (pv_isQ (x := "") T (pv_var (i := 0) (r := oU T.C) (d := d) rfl))) (fun h => ?_) fun h => ?_
    · cases d with
      | inl i => cases h
      | inr q => exact sv_retE (r := oP oI oI) (pv_pair (pv_top T (pvUQ (pv_var (i := 0) (r := oU T.C) (d := .inr q) rfl))) (pv_bot T (pvUQ (pv_var (i := 0) (r := oU T.C) (d := .inr q) rfl)))) rfl rfl rfl rfl
    · cases d with
      | inr i => cases h
      | inl i =>
        refine sv_ifret (q := false) ((pt_notI (q := true) (pt_val1 (pv_call1 c1 hr (pv_var (i := 0) (r := oU T.C) (d := .inl i) rfl) fun d hd => ⟨trivial, fun z hz => by rw [hz, hd]; rfl⟩))).to rfl) (fun h => nomatch h) fun _ => ?_
        exact sv_retE (r := oP oI oI) (pv_pair (pvUI (pv_var (i := 0) (r := oU T.C) (d := .inl i) rfl)) pv_int) rfl rfl rfl rfl
  · rcases h3 with h3 | ⟨i, h3, h4⟩
    · exact ⟨v, .inr d, B, h1, h2, h3, trivial, h5⟩
    · subst h4
      exact ⟨v, .inl i, B, h1, h2, h3, trivial, h5⟩
end
end Wk

end
section
set_option Elab.async false
set_option linter.all false
set_option maxRecDepth 100000
set_option maxHeartbeats 2000000
set_option exponentiation.threshold 100000
/-! Ratio's methods. -/
namespace Wk
open PySem PySem.Spec PyProof.Rows L2 Ru RZ Rp
open Hd (top)
section
variable {P : Program} {w : World} {K : PySem.W.Frag} {mg : Str → Option Value} {base : Heap} {f : Addr} {k : Nat}
abbrev sInit : Stmt := inClass (top 20) 0
theorem scInit : FnScope ["self", "top", "bottom", "common"] ["self", "top", "bottom"] (defScope sInit) := ⟨rfl, rfl, rfl, by decide +kernel, rfl, by decide +kernel, by decide +kernel⟩
abbrev gI (a : Addr) (t b : Int) : List (Option Sl) := [some (.kn oV (.ref a)), some (.kn oI t), some (.kn oI b), none]
abbrev gI2 (a : Addr) (t b c : Int) : List (Option Sl) := [some (.kn oV (.ref a)), some (.kn oI t), some (.kn oI b), some (.kn oI c)]
theorem f_init (T : Tx K mg) {fd : FuncData} (F : FunD K "__init__" "Ratio.__init__" (defArgs sInit) (defBody sInit) (defScope sInit) [.int 1] [] f fd) (c1 : Ca P w K mg base 1 "is_integer" (S_isint T.C)) (c2 : Ca P w K mg base 1 "divisor_of" S_div) :
    FnOk P w K mg base CX0 2 f fd ["self", "top", "bottom"] (S_init T.C) := by
  refine F.ok scInit (fun vs H Q E ⟨a, dx, t, b, B, h, _⟩ => by subst h; rfl) fun cdv A outer s H vs Q E hr ⟨a, dx, t, b, B, h, hx, ha, hb, hz, kk⟩ => ⟨_, pss_sem.nox, ?_⟩
  subst h
  obtain ⟨c, hc⟩ : ∃ c : Int, c = if b < 0 then 0 - ((Nat.gcd t.natAbs b.natAbs : Nat) : Int) else ((Nat.gcd t.natAbs b.natAbs : Nat) : Int) := ⟨_, rfl⟩
  obtain ⟨g1, g2, g3, g4⟩ := gcd_fields (t := t) hb hc
  have hlog : c.natAbs.log2 < 9000 := PySem.Flt.log2_lt_of (by decide) (Nat.lt_of_le_of_lt g2 hz)
  have go : SV (xof P w K mg base ["self", "top", "bottom", "common"] "Ratio.__init__" sInit f cdv A outer s H E) ⟨gI a t b, none, B, H, B⟩ { nx := fun _ H' => Q .non H', rt := Q } (defBody sInit) := by
    refine sv_ifret (q := false) ((pt_notI (q := true) (pt_val1 (pv_call1 c1 hr (pvIU (pv_var (i := 1) (r := oI) (d := t) rfl)) fun d hd => ⟨trivial, fun z hz => by rw [hz, hd]; rfl⟩))).to rfl) (fun h => nomatch h) fun _ => ?_
    refine sv_ifret (q := false) ((pt_or2 (p := false) (q := false) ((pt_notI (q := true) (pt_val1 (pv_call1 c1 hr (pvIU (pv_var (i := 2) (r := oI) (d := b) rfl)) fun d hd => ⟨trivial, fun z hz => by rw [hz, hd]; rfl⟩))).to rfl) fun _ => (pt_eqI (pv_var (i := 2) (r := oI) (d := b) rfl) pv_int).to (by simpa using hb)).to rfl) (fun h => nomatch h) fun _ => ?_
    refine sv_setD (i := 3) (d := ((Nat.gcd t.natAbs b.natAbs : Nat) : Int)) (pv_call2 c2 hr (pv_var (i := 1) (r := oI) (d := t) rfl) (pv_var (i := 2) (r := oI) (d := b) rfl) fun d d' hd hd' => ⟨trivial, fun z hz => by rw [hz, hd, hd']⟩) ?_ scInit.nd
    refine sv_if (q := decide (b < 0)) (Φ' := ⟨gI2 a t b c, none, B, H, B⟩) (pt_cmpI op_lt (pv_var (i := 2) (r := oI) (d := b) rfl) pv_int) (fun h => ?_) (fun h => ?_) ?_
    · have hb2 : b < 0 := by simpa using h
      refine sv_setD (i := 3) (d := c) ((pv_sub pv_int (pv_var (i := 3) (r := oI) (d := ((Nat.gcd t.natAbs b.natAbs : Nat) : Int)) rfl)).to (by rw [hc, if_pos hb2])) ?_ scInit.nd
      exact sv_end (Φ := ⟨gI2 a t b c, none, B, H, B⟩) (Le.rf (gI2 a t b c))
    · have hb2 : ¬ b < 0 := by simpa using h
      have ec : c = ((Nat.gcd t.natAbs b.natAbs : Nat) : Int) := by rw [hc, if_neg hb2]
      refine sv_nil fun σ B2 H2 hs => ⟨B2, hs.to ?_⟩
      show (⟨_, none, B, H, B⟩ : Fm) = ⟨[some (.kn oV (.ref a)), some (.kn oI t), some (.kn oI b), some (.kn oI c)], none, B, H, B⟩
      rw [ec]
      rfl
    · refine sv_of (pss_cons (ps_fld (pe_var (i := 0) rfl (.inl rfl)) pe_sem rfl) (pss_one (ps_fld (pe_var (i := 0) rfl (.inl rfl)) pe_sem rfl))) fun σ B1 H1 hs => ?_
      refine (pv_I op_fdivZ (p3 := fun z => z = t.fdiv c) (pv_var (i := 1) (r := oI) (d := t) rfl) (pv_var (i := 3) (r := oI) (d := c) rfl) fun i j hi hj => by rw [hi, hj]; exact ⟨⟨g1, hlog⟩, rfl⟩).ev σ B1 H1 hs _ fun v d B2 H2 gr rr pp => ?_
      subst pp
      rw [show v = V.int (t.fdiv c) from rr, g3]
      have hs2 := hs.grow gr
      obtain ⟨x0, y0, v0, y1, y2⟩ := hs2.at_ 0 (.kn oV (.ref a)) rfl
      have ev0 : v0 = .ref a := y2
      subst y1 ev0
      have ha2 : H2 a = some (.ins T.C dx []) := hs2.g.hh a _ (fun z => nomatch z) ha
      refine ⟨_, y0, a, T.C, dx, [], rfl, ha2, T.cls, T.n1, by decide, ?_⟩
      -- the second field: its parts are ints only
      let H3 : Hp := upd H2 a (.ins T.C dx [("own_top", .int ((t : Rat) / b).num)])
      let Φ2 : Fm := ⟨gI2 a t b c, none, fun _ => none, H3, fun _ => none⟩
      have hs3 : Stt Φ2 σ (fun _ => none) H3 := by
        refine ⟨hs2.len, fun i s' hi => ?_, fun i j s' t' p hi hj es et => ?_, .refl (fun _ _ h => nomatch h), Ext.rfl', fun _ z => nomatch z⟩
        · match i, hi with
          | 0, hi => cases hi; exact ⟨_, y0, _, rfl, rfl⟩
          | 1, hi => cases hi; obtain ⟨x1, z0, v1, z1, z2⟩ := hs2.at_ 1 (.kn oI t) rfl; exact ⟨_, z0, v1, z1, z2⟩
          | 2, hi => cases hi; obtain ⟨x1, z0, v1, z1, z2⟩ := hs2.at_ 2 (.kn oI b) rfl; exact ⟨_, z0, v1, z1, z2⟩
          | 3, hi => cases hi; obtain ⟨x1, z0, v1, z1, z2⟩ := hs2.at_ 3 (.kn oI c) rfl; exact ⟨_, z0, v1, z1, z2⟩
        · match i, hi with
          | 0, hi => cases hi; cases es
          | 1, hi => cases hi; cases es
          | 2, hi => cases hi; cases es
          | 3, hi => cases hi; cases es
      refine (pv_I (Φ := Φ2) op_fdivZ (p3 := fun z => z = b.fdiv c) (pv_var (i := 2) (r := oI) (d := b) rfl) (pv_var (i := 3) (r := oI) (d := c) rfl) fun i j hi hj => by rw [hi, hj]; exact ⟨⟨g1, hlog⟩, rfl⟩).ev σ _ H3 hs3 _ fun v2 d2 B4 H4 gr4 rr4 pp4 => ?_
      subst pp4
      rw [show v2 = V.int (b.fdiv c) from rr4, g4]
      have ha4 : H4 a = some (.ins T.C dx [("own_top", .int ((t : Rat) / b).num)]) := gr4.hh a _ (fun z => nomatch z) upd_same
      refine ⟨_, y0, a, T.C, dx, _, rfl, ha4, T.cls, T.n2, (by decide : (1 : Nat) < 1000), ?_⟩
      have hx1 : ∀ b o, H b = some o → (upd H4 a (.ins T.C dx [])) b = some o := fun b o hb => by
        by_cases z : b = a
        · subst z; rw [upd_same, ← hb, ha]
        · rw [upd_ne z]
          refine gr4.hh b o (fun z => nomatch z) ?_
          show upd H2 a _ b = some o
          rw [upd_ne z]
          exact hs2.g.hh b o (fun z => nomatch z) hb
      have := kk B (upd H4 a (.ins T.C dx [])) ⟨fun b o _ hb => hx1 b o hb, Ext.rfl', fun b o hb => hx1 b o (hx b o hb), fun _ _ h => .inl h, fun b hb => ext_none hx1 hb, fun _ z => nomatch z⟩
      rw [upd_upd] at this
      exact this
  exact go _ B H (stt_start (N := ["self", "top", "bottom", "common"]) (vs := [.ref a, .int t, .int b]) (m := none) (Γ0 := [some (.kn oV (.ref a)), some (.kn oI t), some (.kn oI b)]) hx (fun a z => nomatch z) rfl (Nat.le_of_ble_eq_true rfl) fun i s' hi => by
    match i, hi with
    | 0, hi => cases hi; exact ⟨_, rfl, rfl, _, rfl, rfl⟩
    | 1, hi => cases hi; exact ⟨_, rfl, rfl, _, rfl, rfl⟩
    | 2, hi => cases hi; exact ⟨_, rfl, rfl, _, rfl, rfl⟩)
end
end Wk

end
section
set_option Elab.async false
set_option linter.all false
set_option maxRecDepth 100000
set_option maxHeartbeats 2000000
set_option exponentiation.threshold 100000
/-! Ratio: making, operators. -/
namespace Wk
open PySem PySem.Spec PyProof.Rows L2 Ru RZ Rp
open Hd (top)
/-- Ratio(..) -/
structure Rm (P : Program) (w : World) (K : PySem.W.Frag) (mg : Str → Option Value) (base : Heap) (C f : Addr) : Prop where
  mgc : mg "Ratio" = some (.ref C)
  mk_ : Mk K C f
  two : FnR P w K mg base CX0 2 f (S_init C)
  one : FnR P w K mg base CX0 2 f (fun vs H Q E => S_init C (vs ++ [.int 1]) H Q E)
theorem grow_made {m : Option Addr} {B1 H1 B' H2 : Hp} {C x dx : Addr} {fs : List (Str × V)} {o : HO} (hx : H1 x = none) (hd : H1 dx = none) (hne : dx ≠ x) (xb : Ext B1 H1) (g : Grow none B1 (upd (upd H1 dx (.own x)) x (.ins C dx fs)) B' H2) (hB : B' x = none) : Grow m B1 H1 (upd B' x o) (upd H2 x o) := by
  have h1 : Ext H1 (upd (upd H1 dx (.own x)) x (.ins C dx fs)) := (Ext.upd hd).trans (Ext.upd (by rw [upd_ne hne.symm]; exact hx))
  have hh : ∀ a u, H1 a = some u → upd H2 x o a = some u := fun a u h => by
    have na : a ≠ x := fun z => by subst z; rw [hx] at h; cases h
    rw [upd_ne na]
    exact g.ext a u (h1 a u h)
  refine ⟨fun a u _ h => hh a u h, fun a u h => ?_, ext_upd g.bh, fun a u h => ?_, fun a h => ext_none hh h, fun a _ ⟨y, z, h1, h2, q⟩ => ⟨y, z, h1, h2, hh a _ q⟩⟩
  · have na : a ≠ x := fun z => by subst z; have := xb _ _ h; rw [hx] at this; cases this
    rw [upd_ne na]
    exact g.bb a u h
  · by_cases z : a = x
    · subst z; exact .inr hx
    · rw [upd_ne z] at h
      rcases g.new a u h with q | q
      · exact .inl q
      · exact .inr (ext_none h1 q)
theorem ev_made {Φ : Fm} {C : Addr} {ta : TA} {t b : Int} {tl : List V} (hb : b ≠ 0) (hz : b.natAbs < 2 ^ 9000) {Pr : Hp → List V → Prop} (ha : EvA ta Φ Pr) (hp : ∀ B vs, Pr B vs → vs ++ tl = [.int t, .int b]) :
    EvP (StX.tMakeR C (fun vs H Q E => S_init C (vs ++ tl) H Q E) E0 ta) Φ (oQ C) (fun z => z = (t : Rat) / b) := fun σ B H hs Q k => ha σ B H hs _ fun vs B1 H1 g q x dx hx hd hne => by
  have e := hp _ _ q
  have h1 : Ext H1 (upd (upd H1 dx (.own x)) x (.ins C dx [])) := (Ext.upd hd).trans (Ext.upd (by rw [upd_ne hne.symm]; exact hx))
  refine ⟨x, dx, t, b, B1, by rw [List.cons_append, e], g.bh.trans h1, upd_same, hb, hz, fun B' H2 g2 => ⟨rfl, ?_⟩⟩
  have hB : B' x = none := by
    cases z : B' x with
    | none => rfl
    | some o =>
      rcases g2.new x o z with w | w
      · have := g.bh _ _ w; rw [hx] at this; cases this
      · rw [upd_same] at w; cases w
  exact k (.ref x) _ _ _ (g.trans (grow_made hx hd hne g.bh g2 hB)) ⟨x, dx, rfl, upd_same⟩ rfl
section
variable {X : Cx} {Φ : Fm} {e a b : Expr} {pos p : Pos} {C f : Addr}
theorem pv_mk2 (R : Rm X.prog X.w X.K X.mg X.base C f) (hr : Room 3 X.A) {t d : Int} (ha : PD X Φ a oI t) (hb : PD X Φ b oI d) (hd : d ≠ 0) (hz : d.natAbs < 2 ^ 9000) (hg : Gl X "Ratio" := by rfl)
    (he : starEach [a, b] X.env = (false, eval a X.env) :: starEach [b] X.env := by rfl) (he2 : starEach [b] X.env = (false, eval b X.env) :: starEach [] X.env := by rfl) (hpl : (backTo pos (starEach [b] X.env)).any (·.1) = false := by rfl) : PD X Φ (.Call (.Name "Ratio" p) [a, b] [] pos) (oQ C) ((t : Rat) / d) :=
  pv_of (pe_mk R.mk_ (R.two.imp (sp' := fun vs H Q E => S_init C (vs ++ []) H Q E) fun vs H Q E h => (by rw [List.append_nil] at h; exact h)) hr R.mgc pa_sem hg (by decide) he hpl) (ev_made (tl := []) hd hz (pva_2 ha hb he he2) fun B vs h => by
    obtain ⟨v, d1, vs', rfl, h2, h3, v2, d2, vs2, rfl, h5, h6, rfl⟩ := h
    subst h3 h6
    rw [show v = V.int d1 from h2, show v2 = V.int d2 from h5]
    rfl)
theorem pv_mk1 (R : Rm X.prog X.w X.K X.mg X.base C f) (hr : Room 3 X.A) {t : Int} (ha : PD X Φ a oI t) (hg : Gl X "Ratio" := by rfl)
    (he : starEach [a] X.env = (false, eval a X.env) :: starEach [] X.env := by rfl) (hpl : (backTo pos (starEach [] X.env)).any (·.1) = false := by rfl) : PD X Φ (.Call (.Name "Ratio" p) [a] [] pos) (oQ C) (t : Rat) :=
  PV.to (pv_of (pe_mk R.mk_ R.one hr R.mgc pa_sem hg (by decide) he hpl) (ev_made (t := t) (b := 1) (tl := [.int 1]) (by decide) (by decide) (pva_1 ha he) fun B vs h => by
    obtain ⟨v, d1, vs', rfl, h2, h3, rfl⟩ := h
    subst h3
    rw [show v = V.int d1 from h2]
    rfl)) (by rw [show (((1 : Int) : Int) : Rat) = 1 from rfl]; grind)
/-- a, b = (a call) -/
theorem sv_tup2 {α β : Type} {r : Rep α} {r2 : Rep β} {P2 : α × β → Prop} {D : Ends} {rest : List Stmt} {i j : Nat} {x y : Str} {pt px py : Pos} {kt : Nat} (he : PV X Φ e (oP r r2) P2) (hr : ∀ d, P2 d → SV X ((Φ.put i (.kn r d.1)).put j (.kn r2 d.2)) D rest) (hN : X.N.Nodup)
    (hsw : swapsWithSole [.Tuple [.Name x px, .Name y py] kt pt] e pos.line X.env = pure false := by rfl) (hsw2 : swappedStores [.Tuple [.Name x px, .Name y py] kt pt] e X.env = pure none := by rfl) (hi : X.N[i]? = some x := by rfl) (hj : X.N[j]? = some y := by rfl)
    (hx : L2.Loc X.env.scope x := by first | exact .inl rfl | exact .inr rfl) (hy : L2.Loc X.env.scope y := by first | exact .inl rfl | exact .inr rfl) (hfx : X.fn x = true ∨ X.env.scope.names.lookup x = some .local := by first | exact .inl rfl | exact .inr rfl) (hfy : X.fn y = true ∨ X.env.scope.names.lookup y = some .local := by first | exact .inl rfl | exact .inr rfl)
    (hc : X.calm = true := by rfl)
    (h1 : (assignEach [.Tuple [.Name x px, .Name y py] kt pt] X.env).map (·.2) = [assign (.Tuple [.Name x px, .Name y py] kt pt) X.env] := by rfl) : SV X Φ D (.Assign [.Tuple [.Name x px, .Name y py] kt pt] e pos :: rest) :=
  have ht : PG X (.Tuple [.Name x px, .Name y py] kt pt) (gTup X.K 2 (gCons (gName i) (gCons (gName j) gNil))) := pg_tup hc (pgs_cons (pg_name hN hi hx hfx) (pgs_cons (pg_name hN hj hy hfy) pgs_nil))
  sv_step (ps_asg pe_sem ht hsw hsw2 h1) fun σ B H hs => he.ev σ B H hs _ fun v d B1 H1 g rr pd => by
    obtain ⟨a, x, y, h1, h2, h3, h4⟩ := rr
    refine ⟨a, [x, y], h1, SqT.of (g.bh _ _ h2), rfl, x, [y], rfl, y, [], rfl, rfl, ?_⟩
    exact hr d pd _ B1 H1 (((hs.grow g).put h3).put h4)
end
section
variable {P : Program} {w : World} {K : PySem.W.Frag} {mg : Str → Option Value} {base : Heap} {f fi : Addr} {k : Nat}
theorem sc20_6 : FnScope ["self", "other", "top", "bottom"] ["self", "other"] (defScope (inClass (top 20) 6)) := ⟨rfl, rfl, rfl, by decide +kernel, rfl, by decide +kernel, by decide +kernel⟩
theorem mulD {q q' : Rat} (h : Fit q) (h' : Fit q') : CMulW q.num ((q'.den : Nat) : Int) := wmul h.1 (dlt h'.2)
theorem dd_ne (q q' : Rat) : ((q.den : Nat) : Int) * ((q'.den : Nat) : Int) ≠ 0 := Int.mul_ne_zero (den_ne q) (den_ne q')
theorem rat_nd (q : Rat) : q = (q.num : Rat) / (((q.den : Nat) : Int) : Rat) := by
  rw [← Rat.divInt_eq_div]
  exact (Rat.num_divInt_den q).symm
theorem den_q (q : Rat) : (((q.den : Nat) : Int) : Rat) ≠ 0 := by
  intro h
  have := den_ne q
  exact this (by exact_mod_cast h)
theorem m_add (T : Tx K mg) (R : Rm P w K mg base T.C fi) (F : Df K "__add__" "Ratio.__add__" (inClass (top 20) 6) f) (c1 : Ca P w K mg base 2 "told_pair" (S_told T.C)) : Me P w K mg base 4 f (S_op T.C (· + ·)) := by
  refine me2 (k := 3) F sc20_6 (fun _ _ _ _ _ _ us hl => match us, hl with | [_, _], _ => rfl) (by decide) fun q q' ⟨hq, hq'⟩ B cdv A outer s H E hr _ => ?_
  refine sv_tup2 (i := 2) (j := 3) (P2 := fun d => d = (q'.num, ((q'.den : Nat) : Int))) (pv_call1 c1 (hr.mono (by decide)) (pv_var (i := 1) (r := oN T.C) (d := q') rfl) fun d hd => ⟨trivial, fun z hz => by rw [hz, hd]⟩) (fun d hd => ?_) sc20_6.nd
  subst hd
  refine sv_retE (r := oQ T.C) (PV.to (pv_mk2 R hr (pv_add (pv_mul (pv_top T (pv_var (i := 0) (r := oQ T.C) (d := q) rfl)) (pv_var (i := 3) (r := oI) (d := ((q'.den : Nat) : Int)) rfl) (mulD hq hq')) (pv_mul (pv_var (i := 2) (r := oI) (d := q'.num) rfl) (pv_bot T (pv_var (i := 0) (r := oQ T.C) (d := q) rfl)) (mulD hq' hq))) (pv_mul (pv_bot T (pv_var (i := 0) (r := oQ T.C) (d := q) rfl)) (pv_var (i := 3) (r := oI) (d := ((q'.den : Nat) : Int)) rfl) (wmul (dlt hq.2) (dlt hq'.2))) (dd_ne q q') (p9000 (dlt hq.2) (dlt hq'.2))) ?_) rfl rfl rfl rfl
  have h1 := den_q q
  have h2 := den_q q'
  have e1 := rat_nd q
  have e2 := rat_nd q'
  simp only [Rat.intCast_add, Rat.intCast_mul]
  generalize (q.num : Rat) = x1 at *
  generalize (q'.num : Rat) = x2 at *
  generalize (((q.den : Nat) : Int) : Rat) = x3 at *
  generalize (((q'.den : Nat) : Int) : Rat) = x4 at *
  subst e1 e2
  grind
end
end Wk

end
section
set_option Elab.async false
set_option linter.all false
set_option maxRecDepth 100000
set_option maxHeartbeats 2000000
set_option exponentiation.threshold 100000
/-! Ratio: the other methods; what they give at operators. -/
namespace Wk
open PySem PySem.Spec PyProof.Rows L2 Ru RZ Rp
open Hd (top)
section
variable {P : Program} {w : World} {K : PySem.W.Frag} {mg : Str → Option Value} {base : Heap} {f fi : Addr} {k : Nat}
theorem sc20_8 : FnScope ["self", "other", "top", "bottom"] ["self", "other"] (defScope (inClass (top 20) 8)) := ⟨rfl, rfl, rfl, by decide +kernel, rfl, by decide +kernel, by decide +kernel⟩
theorem sc20_10 : FnScope ["self", "other", "top", "bottom"] ["self", "other"] (defScope (inClass (top 20) 10)) := ⟨rfl, rfl, rfl, by decide +kernel, rfl, by decide +kernel, by decide +kernel⟩
theorem sc20_13 : FnScope ["self", "other", "top", "bottom"] ["self", "other"] (defScope (inClass (top 20) 13)) := ⟨rfl, rfl, rfl, by decide +kernel, rfl, by decide +kernel, by decide +kernel⟩
theorem sc20_17 : FnScope ["self", "other"] ["self", "other"] (defScope (inClass (top 20) 17)) := ⟨rfl, rfl, rfl, by decide +kernel, rfl, by decide +kernel, by decide +kernel⟩
theorem sc20_3 : FnScope ["self"] ["self"] (defScope (inClass (top 20) 3)) := ⟨rfl, rfl, rfl, by decide +kernel, rfl, by decide +kernel, by decide +kernel⟩
theorem m_sub (T : Tx K mg) (R : Rm P w K mg base T.C fi) (F : Df K "__sub__" "Ratio.__sub__" (inClass (top 20) 8) f) (c1 : Ca P w K mg base 2 "told_pair" (S_told T.C)) : Me P w K mg base 4 f (S_op T.C (· - ·)) := by
  refine me2 (k := 3) F sc20_8 (fun _ _ _ _ _ _ us hl => match us, hl with | [_, _], _ => rfl) (by decide) fun q q' ⟨hq, hq'⟩ B cdv A outer s H E hr _ => ?_
  refine sv_tup2 (i := 2) (j := 3) (P2 := fun d => d = (q'.num, ((q'.den : Nat) : Int))) (pv_call1 c1 (hr.mono (by decide)) (pv_var (i := 1) (r := oN T.C) (d := q') rfl) fun d hd => ⟨trivial, fun z hz => by rw [hz, hd]⟩) (fun d hd => ?_) sc20_8.nd
  subst hd
  refine sv_retE (r := oQ T.C) (PV.to (pv_mk2 R hr (pv_sub (pv_mul (pv_top T (pv_var (i := 0) (r := oQ T.C) (d := q) rfl)) (pv_var (i := 3) (r := oI) (d := ((q'.den : Nat) : Int)) rfl) (mulD hq hq')) (pv_mul (pv_var (i := 2) (r := oI) (d := q'.num) rfl) (pv_bot T (pv_var (i := 0) (r := oQ T.C) (d := q) rfl)) (mulD hq' hq))) (pv_mul (pv_bot T (pv_var (i := 0) (r := oQ T.C) (d := q) rfl)) (pv_var (i := 3) (r := oI) (d := ((q'.den : Nat) : Int)) rfl) (wmul (dlt hq.2) (dlt hq'.2))) (dd_ne q q') (p9000 (dlt hq.2) (dlt hq'.2))) ?_) rfl rfl rfl rfl
  have h1 := den_q q
  have h2 := den_q q'
  have e1 := rat_nd q
  have e2 := rat_nd q'
  simp only [Rat.intCast_sub, Rat.intCast_mul]
  generalize (q.num : Rat) = x1 at *
  generalize (q'.num : Rat) = x2 at *
  generalize (((q.den : Nat) : Int) : Rat) = x3 at *
  generalize (((q'.den : Nat) : Int) : Rat) = x4 at *
  subst e1 e2
  grind
theorem m_mul (T : Tx K mg) (R : Rm P w K mg base T.C fi) (F : Df K "__mul__" "Ratio.__mul__" (inClass (top 20) 10) f) (c1 : Ca P w K mg base 2 "told_pair" (S_told T.C)) : Me P w K mg base 4 f (S_op T.C (· * ·)) := by
  refine me2 (k := 3) F sc20_10 (fun _ _ _ _ _ _ us hl => match us, hl with | [_, _], _ => rfl) (by decide) fun q q' ⟨hq, hq'⟩ B cdv A outer s H E hr _ => ?_
  refine sv_tup2 (i := 2) (j := 3) (P2 := fun d => d = (q'.num, ((q'.den : Nat) : Int))) (pv_call1 c1 (hr.mono (by decide)) (pv_var (i := 1) (r := oN T.C) (d := q') rfl) fun d hd => ⟨trivial, fun z hz => by rw [hz, hd]⟩) (fun d hd => ?_) sc20_10.nd
  subst hd
  refine sv_retE (r := oQ T.C) (PV.to (pv_mk2 R hr (pv_mul (pv_top T (pv_var (i := 0) (r := oQ T.C) (d := q) rfl)) (pv_var (i := 2) (r := oI) (d := q'.num) rfl) (wmul hq.1 hq'.1)) (pv_mul (pv_bot T (pv_var (i := 0) (r := oQ T.C) (d := q) rfl)) (pv_var (i := 3) (r := oI) (d := ((q'.den : Nat) : Int)) rfl) (wmul (dlt hq.2) (dlt hq'.2))) (dd_ne q q') (p9000 (dlt hq.2) (dlt hq'.2))) ?_) rfl rfl rfl rfl
  have h1 := den_q q
  have h2 := den_q q'
  have e1 := rat_nd q
  have e2 := rat_nd q'
  simp only [Rat.intCast_mul]
  generalize (q.num : Rat) = x1 at *
  generalize (q'.num : Rat) = x2 at *
  generalize (((q.den : Nat) : Int) : Rat) = x3 at *
  generalize (((q'.den : Nat) : Int) : Rat) = x4 at *
  subst e1 e2
  grind
theorem num_ne {q : Rat} (h : q ≠ 0) : q.num ≠ 0 := fun z => h (Rat.num_eq_zero.mp z)
theorem m_over (T : Tx K mg) (R : Rm P w K mg base T.C fi) (F : Df K "over" "Ratio.over" (inClass (top 20) 13) f) (c1 : Ca P w K mg base 2 "told_pair" (S_told T.C)) : Me P w K mg base 4 f (S_over T.C) := by
  refine me2 (k := 3) F sc20_13 (fun _ _ _ _ _ _ us hl => match us, hl with | [_, _], _ => rfl) (by decide) fun q q' ⟨hq, hq', hn⟩ B cdv A outer s H E hr _ => ?_
  refine sv_tup2 (i := 2) (j := 3) (P2 := fun d => d = (q'.num, ((q'.den : Nat) : Int))) (pv_call1 c1 (hr.mono (by decide)) (pv_var (i := 1) (r := oN T.C) (d := q') rfl) fun d hd => ⟨trivial, fun z hz => by rw [hz, hd]⟩) (fun d hd => ?_) sc20_13.nd
  subst hd
  have hq0 := num_ne hn
  refine sv_ifret (q := false) ((pt_eqI (pv_var (i := 2) (r := oI) (d := q'.num) rfl) pv_int).to (by simpa using hq0)) (fun h => nomatch h) fun _ => ?_
  refine sv_retE (r := oQ T.C) (PV.to (pv_mk2 R hr (pv_mul (pv_top T (pv_var (i := 0) (r := oQ T.C) (d := q) rfl)) (pv_var (i := 3) (r := oI) (d := ((q'.den : Nat) : Int)) rfl) (mulD hq hq')) (pv_mul (pv_bot T (pv_var (i := 0) (r := oQ T.C) (d := q) rfl)) (pv_var (i := 2) (r := oI) (d := q'.num) rfl) (wmul (dlt hq.2) hq'.1)) (Int.mul_ne_zero (den_ne q) hq0) (p9000 (dlt hq.2) hq'.1)) ?_) rfl rfl rfl rfl
  have h1 := den_q q
  have h2 := den_q q'
  have h3 : (q'.num : Rat) ≠ 0 := fun h => hq0 (by exact_mod_cast h)
  have e1 := rat_nd q
  have e2 := rat_nd q'
  simp only [Rat.intCast_mul]
  generalize (q.num : Rat) = x1 at *
  generalize (q'.num : Rat) = x2 at *
  generalize (((q.den : Nat) : Int) : Rat) = x3 at *
  generalize (((q'.den : Nat) : Int) : Rat) = x4 at *
  subst e1 e2
  grind
theorem m_eq (T : Tx K mg) (F : Df K "__eq__" "Ratio.__eq__" (inClass (top 20) 17) f) : Me P w K mg base 1 f (S_eq T.C) := by
  refine me2 (k := 0) F sc20_17 (fun _ _ _ _ _ _ us hl => match us, hl with | [_, _], _ => rfl) (by decide) fun q q' _ B cdv A outer s H E hr _ => ?_
  refine sv_ifret (q := false) ((pt_notI (q := true) (pt_val1 (pv_isQ (x := "") T (pvQU (pv_var (i := 1) (r := oQ T.C) (d := q') rfl))))).to rfl) (fun h => nomatch h) fun _ => ?_
  refine sv_retE (r := oB) (PV.to (pv_and2 (pv_eqI (pv_top T (pv_var (i := 0) (r := oQ T.C) (d := q) rfl)) (pv_top T (pv_var (i := 1) (r := oQ T.C) (d := q') rfl))) fun _ => pv_eqI (pv_bot T (pv_var (i := 0) (r := oQ T.C) (d := q) rfl)) (pv_bot T (pv_var (i := 1) (r := oQ T.C) (d := q') rfl))) ?_) rfl rfl rfl rfl
  by_cases h : q = q'
  · subst h; simp
  · rw [decide_eq_false h]
    rw [Bool.and_eq_false_iff]
    by_cases h1 : q.num = q'.num
    · refine .inr (decide_eq_false fun h2 => h (Rat.ext h1 (by exact_mod_cast h2)))
    · exact .inl (decide_eq_false h1)
theorem m_sign (T : Tx K mg) (F : Df K "sign" "Ratio.sign" (inClass (top 20) 3) f) : Me P w K mg base 1 f (S_sign T.C) := by
  refine me1 (k := 0) F sc20_3 (fun _ _ _ _ _ _ us hl => match us, hl with | [_], _ => rfl) (by decide) fun q _ B cdv A outer s H E hr _ => ?_
  exact sv_retE (r := oI) (PV.to (pv_sub (pv_intB (pv_cmp op_gt (pv_top T (pv_var (i := 0) (r := oQ T.C) (d := q) rfl)) pv_int) T.b_int) (pv_intB (pv_cmp op_lt (pv_top T (pv_var (i := 0) (r := oQ T.C) (d := q) rfl)) pv_int) T.b_int)) (by unfold sg; simp)) rfl rfl rfl rfl
end
/-! ### what is known of Ratio -/
structure Rq (P : Program) (w : World) (K : PySem.W.Frag) (mg : Str → Option Value) (base : Heap) (C : Addr) : Prop where
  cls : Cls K C
  mk_ : ∃ f, Rm P w K mg base C f
  add : ∃ f, OwnOp K C f .Add ∧ FnR P w K mg base CX0 4 f (S_op C (· + ·))
  sub : ∃ f, OwnOp K C f .Sub ∧ FnR P w K mg base CX0 4 f (S_op C (· - ·))
  mul : ∃ f, OwnOp K C f .Mult ∧ FnR P w K mg base CX0 4 f (S_op C (· * ·))
  eq : ∃ f, OwnEq K C f ∧ FnR P w K mg base CX0 1 f (S_eq C)
  over : ∃ f, Meth K C "over" f ∧ Me P w K mg base 4 f (S_over C)
  sign : ∃ p f, PropOf K C "sign" p f ∧ Me P w K mg base 1 f (S_sign C)
section
variable {X : Cx} {Φ : Fm} {e a b : Expr} {pos p : Pos} {q q' : Rat} {C : Addr}
theorem oN_ins {C : Addr} {B H : Hp} {v : V} (x : Ext B H) (h : (oN C).r B v q) : InsV C v H ∨ ∃ i, v = .int i := by
  rcases h with ⟨a, dx, h1, h2⟩ | ⟨i, h1, _⟩
  · exact .inl ⟨a, dx, _, h1, x _ _ h2⟩
  · exact .inr ⟨i, h1⟩
theorem oQ_ins {C : Addr} {B H : Hp} {v : V} (x : Ext B H) (h : (oQ C).r B v q) : InsV C v H := let ⟨a, dx, h1, h2⟩ := h; ⟨a, dx, _, h1, x _ _ h2⟩
theorem ev_own {C : Addr} {g : Rat → Rat → Rat} {ta tb : TE} (ha : EvP ta Φ (oQ C) (fun z => z = q)) (hb : EvP tb Φ (oN C) (fun z => z = q')) (h : Fit q) (h' : Fit q') : EvP (tOp (rOwn C (S_op C g)) ta tb) Φ (oQ C) (fun z => z = g q q') :=
  ev_op ha hb fun v d w d' B H x r1 p1 r2 p2 Q k => by
    subst p1 p2
    exact ⟨oQ_ins x r1, oN_ins x r2, v, d, w, d', B, rfl, x, r1, r2, ⟨h, h'⟩, fun u z B' H' g' r' po => k u z B' H' g'.any r' po⟩
theorem pv_addQ (R : Rq X.prog X.w X.K X.mg X.base C) (hr : Room 4 X.A) (ha : PD X Φ a (oQ C) q) (hb : PD X Φ b (oN C) q') (h : Fit q) (h' : Fit q') : PD X Φ (.BinOp a .Add b pos) (oQ C) (q + q') := by
  obtain ⟨f, o, F⟩ := R.add
  exact pv_of (pe_op (op_own o F hr) pe_sem pe_sem) (ev_own ha.ev hb.ev h h')
theorem pv_subQ (R : Rq X.prog X.w X.K X.mg X.base C) (hr : Room 4 X.A) (ha : PD X Φ a (oQ C) q) (hb : PD X Φ b (oN C) q') (h : Fit q) (h' : Fit q') : PD X Φ (.BinOp a .Sub b pos) (oQ C) (q - q') := by
  obtain ⟨f, o, F⟩ := R.sub
  exact pv_of (pe_op (op_own o F hr) pe_sem pe_sem) (ev_own ha.ev hb.ev h h')
theorem pv_mulQ (R : Rq X.prog X.w X.K X.mg X.base C) (hr : Room 4 X.A) (ha : PD X Φ a (oQ C) q) (hb : PD X Φ b (oN C) q') (h : Fit q) (h' : Fit q') : PD X Φ (.BinOp a .Mult b pos) (oQ C) (q * q') := by
  obtain ⟨f, o, F⟩ := R.mul
  exact pv_of (pe_op (op_own o F hr) pe_sem pe_sem) (ev_own ha.ev hb.ev h h')
theorem evQeq {C : Addr} {ta tb : TE} (ha : EvP ta Φ (oQ C) (fun z => z = q)) (hb : EvP tb Φ (oQ C) (fun z => z = q')) : EvP (tOp (fun x y H Q => InsV C x H ∧ InsV C y H ∧ S_eq C [x, y] H Q E0) ta tb) Φ oB (fun z => z = decide (q = q')) :=
  ev_op ha hb fun v d w d' B H x r1 p1 r2 p2 Q k => by
    subst p1 p2
    exact ⟨oQ_ins x r1, oQ_ins x r2, v, d, w, d', B, rfl, x, r1, r2, trivial, fun u z B' H' g' r' po => k u z B' H' g'.any r' po⟩
theorem evQne {C : Addr} {ta tb : TE} (ha : EvP ta Φ (oQ C) (fun z => z = q)) (hb : EvP tb Φ (oQ C) (fun z => z = q')) : EvP (tOp (rOwnNe C (S_eq C)) ta tb) Φ oB (fun z => z = !decide (q = q')) :=
  ev_op ha hb fun v d w d' B H x r1 p1 r2 p2 Q k => by
    subst p1 p2
    exact ⟨oQ_ins x r1, oQ_ins x r2, v, d, w, d', B, rfl, x, r1, r2, trivial, fun u z B' H' g' r' po => ⟨z, r', k _ _ B' H' g'.any rfl (by rw [po])⟩⟩
theorem pv_eqQ (R : Rq X.prog X.w X.K X.mg X.base C) (hr : Room 1 X.A) (ha : PD X Φ a (oQ C) q) (hb : PD X Φ b (oQ C) q') : PD X Φ (.Compare a [.Eq] [b] pos) oB (decide (q = q')) := by
  obtain ⟨f, o, F⟩ := R.eq
  exact pv_of (pe_cmpR (op_ownEq o F hr) pe_sem pe_sem (nomark _)) (evQeq ha.ev hb.ev)
theorem pt_neQ (R : Rq X.prog X.w X.K X.mg X.base C) (hr : Room 2 X.A) (ha : PD X Φ a (oQ C) q) (hb : PD X Φ b (oQ C) q') : PDT X Φ (.Compare a [.NotEq] [b] pos) (!decide (q = q')) := by
  obtain ⟨f, o, F⟩ := R.eq
  exact pvt_of (pt_cmpR (op_ownNe o F hr) pe_sem pe_sem (nomark _)) (et_test (evQne ha.ev hb.ev))
theorem pv_sign (R : Rq X.prog X.w X.K X.mg X.base C) (hr : Room 2 X.A) (ha : PD X Φ a (oQ C) q) (hx : Passes CX0 X.nox E0 := by exact pass0) (hb : attributeBase a "sign" X.env (eval a X.env) = eval a X.env := by rfl) : PD X Φ (.Attribute a "sign" pos) oI (sg q) := by
  obtain ⟨pp, f, hp, M⟩ := R.sign
  obtain ⟨fd, ps, F, hbi⟩ := M.ok
  exact pv_of (pe_prop (dvs := []) (E := E0) pe_sem R.cls hp F hr hbi .nil hx hb) fun σ B H hs Q k => ha.ev σ B H hs _ fun v d B2 H2 g rr pp => by
    subst pp
    obtain ⟨a, dx, h1, h2⟩ := id rr
    exact ⟨a, dx, _, h1, g.bh _ _ h2, v, d, B2, by rw [h1], g.bh, rr, trivial, fun u z B' H' g' r' po => k u z B' H' (g.trans g'.any) r' po⟩
/-- a.over(b) -/
theorem pv_over (R : Rq X.prog X.w X.K X.mg X.base C) (hr : Room 4 X.A) {apos : Pos} {pl : Sem Bool} (ha : PD X Φ a (oQ C) q) (hb : PD X Φ b (oN C) q') (h : Fit q) (h' : Fit q') (hn : q' ≠ 0) (hst : starEach [b] X.env = (false, eval b X.env) :: starEach [] X.env := by rfl) (hpl : (backTo pos (starEach [] X.env)).any (·.1) = false := by rfl)
    (ht : eval (.Call (.Attribute a "over" apos) [b] [] pos) X.env = (do
      let ov ← eval a X.env
      standAt apos.atName
      let (f, first) ← holding [ov] (getMethod ov "over" pl)
      callWith pos f first (backTo pos (starEach [b] X.env)) (backToKw pos (keywordEach [] X.env))) := by rfl) : PD X Φ (.Call (.Attribute a "over" apos) [b] [] pos) (oQ C) (q / q') := by
  obtain ⟨f, hm, M⟩ := R.over
  obtain ⟨fd, ps, F, hbi⟩ := M.ok
  exact pv_of (pe_meth (dvs := []) (E := E0) pe_sem R.cls hm F hr hbi .nil pass0 (pa_cons pe_sem pa_nil hst) hst hpl ht) fun σ B H hs Q k => ha.ev σ B H hs _ fun v d B1 H1 g r1 p1 => by
    subst p1
    obtain ⟨a, dx, h1, h2⟩ := id r1
    exact ⟨a, dx, _, h1, g.bh _ _ h2, rfl, hb.ev σ B1 H1 (hs.grow g) _ fun w d' B2 H2 g2 r2 p2 => by
      subst p2
      exact ⟨v, d, w, d', B2, rfl, g2.bh, (oQ C).mono g2.bb r1, r2, ⟨h, h', hn⟩, fun u z B' H' g' r' po => k u z B' H' ((g.trans g2).trans g'.any) r' po⟩⟩
end
end Wk

end
section
set_option Elab.async false
set_option linter.all false
set_option maxRecDepth 100000
set_option maxHeartbeats 2000000
set_option exponentiation.threshold 100000
/-! ratios: defs over numbers. -/
namespace Wk
open PySem PySem.Spec PyProof.Rows L2 Ru RZ Rp
open Hd (top)
def sumQ (ds : List Rat) : Rat := ds.foldl (· + ·) 0
theorem sumQ_snoc (ds : List Rat) (d : Rat) : sumQ (ds ++ [d]) = sumQ ds + d := by unfold sumQ; rw [List.foldl_append]; rfl
def FitL (ds : List Rat) : Prop := (∀ d ∈ ds, Fit d) ∧ ∀ i, i ≤ ds.length → Fit (sumQ (ds.take i))
theorem take_snoc {α : Type} {ds : List α} {i : Nat} {d : α} (h : ds[i]? = some d) : ds.take (i + 1) = ds.take i ++ [d] := by rw [List.take_add_one, h]; rfl
theorem mem_at {α : Type} {ds : List α} {i : Nat} {d : α} (h : ds[i]? = some d) : d ∈ ds := List.mem_of_getElem? h
def lcmD (ds : List Rat) : Nat := ds.foldl (fun a q => Nat.lcm a q.den) 1
theorem lcmD_snoc (ds : List Rat) (d : Rat) : lcmD (ds ++ [d]) = Nat.lcm (lcmD ds) d.den := by unfold lcmD; rw [List.foldl_append]; rfl
def whI (ds : List Rat) : List Int := ds.map fun q => q.num * ((lcmD ds : Int) / ((q.den : Nat) : Int))
structure WhOk (ds : List Rat) : Prop where
  fit : ∀ d ∈ ds, Fit d
  len : ds.length ≤ 900
  lcm : ∀ i, i ≤ ds.length → lcmD (ds.take i) < 2 ^ 13000
abbrev S_ratio_of (C : Addr) : Sp := sp1 (oN C) (oQ C) (fun _ => True) (fun q z => z = q)
abbrev S_is_number (C : Addr) : Sp := sp1 (oN C) oB (fun _ => True) (fun q z => z = true)
abbrev S_total_of (C : Addr) : Sp := sp1 (oS (oQ C)) (oQ C) FitL (fun ds z => z = sumQ ds)
abbrev S_wholes (C : Addr) : Sp := sp1 (oS (oQ C)) (oP oI (oL oI)) WhOk (fun ds z => z = ((lcmD ds : Int), whI ds))
abbrev S_total (C : Addr) : Sp := sp2 oV (oS (oN C)) (oQ C) (fun _ ds => FitL ds ∧ ds.length ≤ 900) (fun _ ds z => z = sumQ ds)
section
variable {P : Program} {w : World} {K : PySem.W.Frag} {mg : Str → Option Value} {base : Heap} {f fi : Addr} {k : Nat}
theorem sc22 : FnScope ["value"] ["value"] (defScope (top 22)) := ⟨rfl, rfl, rfl, by decide +kernel, rfl, by decide +kernel, by decide +kernel⟩
theorem sc23 : FnScope ["number"] ["number"] (defScope (top 23)) := ⟨rfl, rfl, rfl, by decide +kernel, rfl, by decide +kernel, by decide +kernel⟩
theorem sc24 : FnScope ["value"] ["value"] (defScope (top 24)) := ⟨rfl, rfl, rfl, by decide +kernel, rfl, by decide +kernel, by decide +kernel⟩
theorem sc25 : FnScope ["ratios", "bottom", "ratio"] ["ratios"] (defScope (top 25)) := ⟨rfl, rfl, rfl, by decide +kernel, rfl, by decide +kernel, by decide +kernel⟩
theorem sc26 : FnScope ["ratios", "found", "ratio"] ["ratios"] (defScope (top 26)) := ⟨rfl, rfl, rfl, by decide +kernel, rfl, by decide +kernel, by decide +kernel⟩
theorem num_of {C : Addr} {r : Rep Rat} {Po : Rat → Rat → Prop} {sp : Sp} {β : Type} {rb : Rep β} {Q : Int ⊕ Rat → β → Prop} {Q' : Rat → β → Prop} (h : ∀ u z, Q u z → Q' (uval u) z) (M : Me P w K mg base k f (sp1 (oU C) rb (fun _ => True) Q)) : Me P w K mg base k f (sp1 (oN C) rb (fun _ => True) Q') :=
  M.imp fun vs H Q E ⟨v, d, B, h1, h2, h3, _, h5⟩ => by
    rcases h3 with h3 | ⟨i, h3, h4⟩
    · exact ⟨v, .inr d, B, h1, h2, h3, trivial, fun u z B' H' g r po => h5 u z B' H' g r (h _ _ po)⟩
    · subst h4
      exact ⟨v, .inl i, B, h1, h2, h3, trivial, fun u z B' H' g r po => h5 u z B' H' g r (h _ _ po)⟩
theorem m_is_number (T : Tx K mg) (F : Df K "is_number" "is_number" (top 22) f) (c1 : Ca P w K mg base 1 "is_integer" (S_isint T.C)) : Me P w K mg base 2 f (S_is_number T.C) := by
  refine num_of (r := oQ T.C) (Po := fun _ _ => True) (sp := fun _ _ _ _ => True) (Q := fun u z => z = true) (fun _ _ h => h) ?_
  refine me1 (k := 1) F sc22 (fun _ _ _ _ _ _ us hl => match us, hl with | [_], _ => rfl) (by decide) fun d _ B cdv A outer s H E hr _ => ?_
  refine sv_retE (r := oB) (PV.to (pv_or2 (p := d.isLeft) (q := !d.isLeft) (pv_call1 c1 hr (pv_var (i := 0) (r := oU T.C) (d := d) rfl) fun d hd => ⟨trivial, fun z hz => by rw [hz, hd]⟩) fun _ => pv_isQ (x := "") T (pv_var (i := 0) (r := oU T.C) (d := d) rfl)) (by cases d <;> rfl)) rfl rfl rfl rfl
theorem m_ratio_of (T : Tx K mg) (R : Rm P w K mg base T.C fi) (F : Df K "ratio_of" "ratio_of" (top 23) f) : Me P w K mg base 4 f (S_ratio_of T.C) := by
  refine num_of (r := oQ T.C) (Po := fun _ _ => True) (sp := fun _ _ _ _ => True) (Q := fun u z => z = uval u) (fun _ _ h => h) ?_
  refine me1 (k := 3) F sc23 (fun _ _ _ _ _ _ us hl => match us, hl with | [_], _ => rfl) (by decide) fun d _ B cdv A outer s H E hr _ => ?_
  refine sv_retE (r := oQ T.C) (pv_if (q := !d.isLeft) (pt_val1 (pv_isQ (x := "") T (pv_var (i := 0) (r := oU T.C) (d := d) rfl))) (fun h => ?_) fun h => ?_) rfl rfl rfl rfl
  · cases d with
    | inl i => cases h
    | inr q => exact pvUQ (pv_var (i := 0) (r := oU T.C) (d := .inr q) rfl)
  · cases d with
    | inr i => cases h
    | inl i => exact pv_mk1 R hr (pvUI (pv_var (i := 0) (r := oU T.C) (d := .inl i) rfl))
theorem m_want_number (T : Tx K mg) (F : Df K "want_number" "want_number" (top 24) f) (c1 : Ca P w K mg base 2 "is_number" (S_is_number T.C)) (c2 : Ca P w K mg base 4 "ratio_of" (S_ratio_of T.C)) : Me P w K mg base 5 f (S_ratio_of T.C) := by
  refine me1 (k := 4) F sc24 (fun _ _ _ _ _ _ us hl => match us, hl with | [_], _ => rfl) (by decide) fun d _ B cdv A outer s H E hr _ => ?_
  refine sv_ifret (q := false) ((pt_notI (q := true) (pt_val1 (pv_call1 c1 (hr.mono (by decide)) (pv_var (i := 0) (r := oN T.C) (d := d) rfl) fun d hd => ⟨trivial, fun z hz => hz⟩))).to rfl) (fun h => nomatch h) fun _ => ?_
  exact sv_retE (r := oQ T.C) (pv_call1 c2 hr (pv_var (i := 0) (r := oN T.C) (d := d) rfl) fun d' hd => ⟨trivial, fun z hz => by rw [hz, hd]⟩) rfl rfl rfl rfl
theorem m_total_of (T : Tx K mg) (R : Rq P w K mg base T.C) (F : Df K "total_of" "total_of" (top 26) f) : Me P w K mg base 5 f (S_total_of T.C) := by
  refine me1 (k := 4) F sc26 (fun _ _ _ _ _ _ us hl => match us, hl with | [_], _ => rfl) (by decide) fun ds hds B cdv A outer s H E hr _ => ?_
  obtain ⟨fi, Rm⟩ := R.mk_
  refine sv_setD (i := 1) (r := oQ T.C) (d := sumQ []) ((pv_mk1 Rm (hr.mono (by decide)) pv_int).to rfl) ?_ sc26.nd
  refine sv_for (fun i => [some (.kn (oS (oQ T.C)) ds), some (.kn (oQ T.C) (sumQ (ds.take i))), none]) (piv_seq (pv_var (i := 0) rfl)) (pg_name (i := 2) sc26.nd rfl (.inl rfl)) tg_name (Le.rf _) (fun Bs i hi d hd => ?_) ?_
  · refine sv_setD (i := 1) (r := oQ T.C) (d := sumQ (ds.take (i + 1))) (PV.to (pv_addQ R hr (pv_var (i := 1) (r := oQ T.C) (d := sumQ (ds.take i)) rfl) (pvN (pv_var (i := 2) (r := oQ T.C) (d := d) rfl)) (hds.2 i (by omega)) (hds.1 d (mem_at hd))) (by rw [take_snoc hd, sumQ_snoc])) ?_ sc26.nd
    exact sv_end (.keep (.keep (.skip .nil)))
  · exact sv_retE (r := oQ T.C) ((pv_var (i := 1) (r := oQ T.C) (d := sumQ (ds.take ds.length)) rfl).to (by rw [List.take_length])) rfl rfl rfl rfl
theorem m_wholes (T : Tx K mg) (F : Df K "wholes" "wholes" (top 25) f) : Me P w K mg base 1 f (S_wholes T.C) := by
  refine me1 (k := 0) F sc25 (fun _ _ _ _ _ _ us hl => match us, hl with | [_], _ => rfl) (by decide) fun ds hds B cdv A outer s H E hr _ => ?_
  refine sv_setD (i := 1) (r := oI) (d := ((lcmD [] : Nat) : Int)) pv_int ?_ sc25.nd
  refine sv_for (fun i => [some (.kn (oS (oQ T.C)) ds), some (.kn oI ((lcmD (ds.take i) : Nat) : Int)), none]) (piv_seq (pv_var (i := 0) rfl)) (pg_name (i := 2) sc25.nd rfl (.inl rfl)) tg_name (Le.rf _) (fun Bs i hi d hd => ?_) ?_
  · have hf := hds.fit d (mem_at hd)
    refine sv_setD (i := 1) (r := oI) (d := ((lcmD (ds.take (i + 1)) : Nat) : Int)) ((pv_lcm (pv_var (i := 1) (r := oI) (d := ((lcmD (ds.take i) : Nat) : Int)) rfl) (pv_bot T (pv_var (i := 2) (r := oQ T.C) (d := d) rfl)) (by rw [Int.natAbs_natCast]; exact hds.lcm i (by omega)) (Nat.lt_trans (dlt hf.2) (Nat.pow_lt_pow_right (by decide) (by decide))) T.lcm).to (by rw [take_snoc hd, lcmD_snoc, Int.natAbs_natCast, Int.natAbs_natCast])) ?_ sc25.nd
    exact sv_end (.keep (.keep (.skip .nil)))
  · rw [List.take_length]
    have hl := hds.lcm ds.length (Nat.le_refl _)
    rw [List.take_length] at hl
    refine sv_retE (r := oP oI (oL oI)) (pv_pair (pv_var (i := 1) (r := oI) (d := ((lcmD ds : Nat) : Int)) rfl) ?_) rfl rfl rfl rfl
    refine pv_lc (own := [("ratio", 2)]) (whI ds) rfl sc25.nd (piv_seq (pv_var (i := 0) (r := oS (oQ T.C)) (d := ds) rfl)) (blkOk_by (N := ["ratios", "bottom", "ratio"]) (sc := defScope (top 25)) (by decide +kernel)) (fun _ _ _ _ _ => pg_name (i := 2) sc25.nd rfl (Or.inl rfl)) tg_name (free1 rfl) (by unfold whI; rw [List.length_map]) hds.len fun i hi d hd y hy _ _ _ _ _ => ?_
    have ey : y = d.num * ((lcmD ds : Int) / ((d.den : Nat) : Int)) := by
      unfold whI at hy
      rw [List.getElem?_map, hd] at hy
      exact (Option.some.inj hy).symm
    have hf := hds.fit d (mem_at hd)
    refine (pv_mul (pv_top T (pv_var (i := 2) (r := oQ T.C) (d := d) rfl)) (pv_div (pv_var (i := 1) (r := oI) (d := ((lcmD ds : Nat) : Int)) rfl) (pv_bot T (pv_var (i := 2) (r := oQ T.C) (d := d) rfl)) ?_) ?_).to ey.symm
    · exact wide_div (by have := d.den_pos; omega) (dlt hf.2) (by decide) (by decide)
    · refine wide_mul (a := 4500) (b := 13000) hf.1 ?_ (by decide) (by decide) (by decide)
      rw [show ((lcmD ds : Nat) : Int) / ((d.den : Nat) : Int) = ((lcmD ds / d.den : Nat) : Int) from (Int.natCast_ediv _ _).symm, Int.natAbs_natCast]
      exact Nat.lt_of_le_of_lt (Nat.div_le_self _ _) hl
end
end Wk

end
section
set_option Elab.async false
set_option linter.all false
set_option maxRecDepth 100000
set_option maxHeartbeats 2000000
set_option exponentiation.threshold 100000
/-! solved: the elimination over ints. -/
namespace Wk
open PySem PySem.Spec PyProof.Rows L2 Ru RZ Rp
open Hd (top)
theorem getD_at {α : Type} {l : List α} {n : Nat} {d : α} (h : n < l.length) : l[n]? = some (l.getD n d) := by
  rw [List.getD_eq_getElem?_getD, List.getElem?_eq_getElem h]; rfl
theorem getD_of {α : Type} {l : List α} {n : Nat} {d x : α} (h : l[n]? = some x) : l.getD n d = x := by
  rw [List.getD_eq_getElem?_getD, h]; rfl
def gcdL (row : List Int) : Nat := row.foldl (fun c n => Nat.gcd c n.natAbs) 0
theorem gcdL_snoc (row : List Int) (n : Int) : gcdL (row ++ [n]) = Nat.gcd (gcdL row) n.natAbs := by unfold gcdL; rw [List.foldl_append]; rfl
def bareM (row : List Int) : List Int := if 1 < gcdL row then row.map (fun n => n / (gcdL row : Int)) else row
def Bd (b : Nat) (row : List Int) : Prop := ∀ n ∈ row, n.natAbs < 2 ^ b
theorem gcdL_lt {b : Nat} (hb : 0 < b) {row : List Int} (h : Bd b row) : gcdL row < 2 ^ b := by
  have go : ∀ (l : List Int) (c : Nat), c < 2 ^ b → Bd b l → l.foldl (fun c n => Nat.gcd c n.natAbs) c < 2 ^ b := by
    intro l
    induction l with
    | nil => exact fun c hc _ => hc
    | cons n l ih =>
      intro c hc hl
      refine ih _ ?_ fun x hx => hl x (List.mem_cons_of_mem _ hx)
      show Nat.gcd c n.natAbs < 2 ^ b
      by_cases z : n.natAbs = 0
      · rw [z, Nat.gcd_zero_right]; exact hc
      · exact Nat.lt_of_le_of_lt (Nat.gcd_le_right _ (by omega)) (hl n (List.mem_cons_self ..))
  exact go row 0 (Nat.two_pow_pos b) h
def clearedM (row head : List Int) (n : Nat) : List Int :=
  if row.getD n 0 = 0 then row else bareM (List.zipWith (fun near far => head.getD n 0 * near - row.getD n 0 * far) row head)
def nz (n : Nat) (row : List Int) : Bool := !decide (row.getD n 0 = 0)
def firstM (rows : List (List Int)) (n : Nat) : Int := match rows.findIdx? (nz n) with
  | some i => (i : Int)
  | none => -1
def headM (row : List Int) (n : Nat) : List Int := if 0 < (bareM row).getD n 0 then bareM row else (bareM row).map fun x => 0 - x
abbrev S_ints (C : Addr) : Sp := sp1 (oL (oL (oQ C))) (oL (oL oI)) (fun rows => rows.length ≤ 900 ∧ ∀ r ∈ rows, WhOk r) (fun rows z => z = rows.map whI)
abbrev S_bare : Sp := sp1 (oL oI) (oL oI) (fun row => Bd 9000 row ∧ row.length ≤ 900) (fun row z => z = bareM row)
abbrev S_cleared : Sp := sp3 (oL oI) (oL oI) oI (oL oI) (fun row head p => ∃ n : Nat, p = n ∧ n < row.length ∧ n < head.length ∧ Bd 4400 row ∧ Bd 4400 head ∧ row.length ≤ 900) (fun row head p z => z = clearedM row head p.toNat)
abbrev S_first : Sp := sp2 (oL (oL oI)) oI oI (fun rows p => ∃ n : Nat, p = n ∧ rows.length ≤ 900 ∧ ∀ r ∈ rows, n < r.length) (fun rows p z => z = firstM rows p.toNat)
abbrev S_headed : Sp := sp2 (oL oI) oI (oL oI) (fun row p => ∃ n : Nat, p = n ∧ n < row.length ∧ Bd 9000 row ∧ row.length ≤ 900) (fun row p z => z = headM row p.toNat)
theorem bareM_len (row : List Int) : (bareM row).length = row.length := by unfold bareM; split <;> simp
section
variable {P : Program} {w : World} {K : PySem.W.Frag} {mg : Str → Option Value} {base : Heap} {f fi : Addr} {k : Nat}
theorem sc28 : FnScope ["rows", "row"] ["rows"] (defScope (top 28)) := ⟨rfl, rfl, rfl, by decide +kernel, rfl, by decide +kernel, by decide +kernel⟩
theorem sc29 : FnScope ["row", "common", "number"] ["row"] (defScope (top 29)) := ⟨rfl, rfl, rfl, by decide +kernel, rfl, by decide +kernel, by decide +kernel⟩
theorem sc30 : FnScope ["row", "head", "place", "near", "far"] ["row", "head", "place"] (defScope (top 30)) := ⟨rfl, rfl, rfl, by decide +kernel, rfl, by decide +kernel, by decide +kernel⟩
theorem sc31 : FnScope ["rows", "place", "at", "row"] ["rows", "place"] (defScope (top 31)) := ⟨rfl, rfl, rfl, by decide +kernel, rfl, by decide +kernel, by decide +kernel⟩
theorem sc32 : FnScope ["row", "place", "found", "number"] ["row", "place"] (defScope (top 32)) := ⟨rfl, rfl, rfl, by decide +kernel, rfl, by decide +kernel, by decide +kernel⟩
theorem m_ints_of (T : Tx K mg) (F : Df K "ints_of" "ints_of" (top 28) f) (c1 : Ca P w K mg base 1 "wholes" (S_wholes T.C)) : Me P w K mg base 2 f (S_ints T.C) := by
  refine me1 (k := 1) F sc28 (fun _ _ _ _ _ _ us hl => match us, hl with | [_], _ => rfl) (by decide) fun rows hds B cdv A outer s H E hr _ => ?_
  refine sv_retE (r := oL (oL oI)) ?_ rfl rfl rfl rfl
  refine pv_lc (own := [("row", 1)]) (rows.map whI) rfl sc28.nd (piv_seq (pvS (pv_var (i := 0) (r := oL (oL (oQ T.C))) (d := rows) rfl))) (blkOk_by (N := ["rows", "row"]) (sc := defScope (top 28)) (by decide +kernel)) (fun _ _ _ _ _ => pg_name (i := 1) sc28.nd rfl (Or.inl rfl)) tg_name (free1 rfl) (by rw [List.length_map]) hds.1 fun i hi d hd y hy _ _ _ _ _ => ?_
  rw [List.getElem?_map, hd] at hy
  refine PV.to (pv_snd (r := oI) (d := ((lcmD d : Int), whI d)) (pv_call1 c1 hr (pvS (pv_var (i := 1) (r := oL (oQ T.C)) (d := d) rfl)) fun d' hd' => ⟨by rw [hd']; exact hds.2 d (mem_at hd), fun z hz => by rw [hz, hd']⟩)) (Option.some.inj hy)
theorem m_bare_row (T : Tx K mg) (F : Df K "bare_row" "bare_row" (top 29) f) (c1 : Ca P w K mg base 1 "divisor_of" S_div) : Me P w K mg base 2 f S_bare := by
  refine me1 (k := 1) F sc29 (fun _ _ _ _ _ _ us hl => match us, hl with | [_], _ => rfl) (by decide) fun row hrow B cdv A outer s H E hr _ => ?_
  refine sv_setD (i := 1) (r := oI) (d := ((gcdL [] : Nat) : Int)) pv_int ?_ sc29.nd
  refine sv_for (fun i => [some (.kn (oL oI) row), some (.kn oI ((gcdL (row.take i) : Nat) : Int)), none]) (piv_seq (pvS (pv_var (i := 0) rfl))) (pg_name (i := 2) sc29.nd rfl (.inl rfl)) tg_name (Le.rf _) (fun Bs i hi d hd => ?_) ?_
  · refine sv_if (Φ' := (⟨[some (.kn (oL oI) row), some (.kn oI ((gcdL (row.take (i + 1)) : Nat) : Int)), none], none, B, H, Bs⟩ : Fm)) (q := !decide (d = 0)) (pt_neI (pv_var (i := 2) (r := oI) (d := d) rfl) pv_int) (fun h => ?_) (fun h => ?_) (sv_end (Le.rf _))
    · refine sv_setD (i := 1) (r := oI) (d := ((gcdL (row.take (i + 1)) : Nat) : Int)) (pv_call2 c1 hr (pv_var (i := 1) (r := oI) (d := ((gcdL (row.take i) : Nat) : Int)) rfl) (pv_var (i := 2) (r := oI) (d := d) rfl) fun a b ha hb => ⟨trivial, fun z hz => by rw [hz, ha, hb, take_snoc hd, gcdL_snoc, Int.natAbs_natCast]⟩) ?_ sc29.nd
      exact sv_end (.keep (.keep (.skip .nil)))
    · have hd0 : d = 0 := by simpa using h
      have e : gcdL (row.take (i + 1)) = gcdL (row.take i) := by rw [take_snoc hd, gcdL_snoc, hd0]; exact Nat.gcd_zero_right _
      rw [e]
      exact sv_end (.keep (.keep (.skip .nil)))
  · rw [List.take_length]
    refine sv_retE (r := oL oI) (pv_if (q := decide ((1 : Int) < ((gcdL row : Nat) : Int))) (pt_cmpI op_gt (pv_var (i := 1) (r := oI) (d := ((gcdL row : Nat) : Int)) rfl) pv_int) (fun h => ?_) fun h => ?_) rfl rfl rfl rfl
    · have h1 : 1 < gcdL row := by have : (1 : Int) < ((gcdL row : Nat) : Int) := by simpa using h
                                   omega
      refine pv_lc (own := [("number", 2)]) (bareM row) rfl sc29.nd (piv_seq (pvS (pv_var (i := 0) (r := oL oI) (d := row) rfl))) (blkOk_by (N := ["row", "common", "number"]) (sc := defScope (top 29)) (by decide +kernel)) (fun _ _ _ _ _ => pg_name (i := 2) sc29.nd rfl (Or.inl rfl)) tg_name (free1 rfl) (bareM_len row) hrow.2 fun i hi d hd y hy _ _ _ _ _ => ?_
      unfold bareM at hy
      rw [if_pos h1, List.getElem?_map, hd] at hy
      exact PV.to (pv_div (pv_var (i := 2) (r := oI) (d := d) rfl) (pv_var (i := 1) (r := oI) (d := ((gcdL row : Nat) : Int)) rfl) (wide_div (by omega) (by rw [Int.natAbs_natCast]; exact gcdL_lt (by decide) hrow.1) (by decide) (by decide))) (Option.some.inj hy)
    · have h1 : ¬ 1 < gcdL row := fun z => by
        have : ¬ (1 : Int) < ((gcdL row : Nat) : Int) := by simpa using h
        omega
      exact PV.to (pv_var (i := 0) (r := oL oI) (d := row) rfl) (by unfold bareM; rw [if_neg h1])
theorem bd_at {b : Nat} {row : List Int} (h : Bd b row) {n : Nat} (hn : n < row.length) : (row.getD n 0).natAbs < 2 ^ b := by
  refine h _ ?_
  exact mem_at (getD_at hn)
theorem bd_zip {row head : List Int} {x y : Int} (hx : x.natAbs < 2 ^ 4400) (hy : y.natAbs < 2 ^ 4400) (h1 : Bd 4400 row) (h2 : Bd 4400 head) : Bd 9000 (List.zipWith (fun near far => x * near - y * far) row head) := by
  intro n hn
  obtain ⟨i, hi⟩ := List.getElem?_of_mem hn
  rw [List.getElem?_zipWith] at hi
  cases ha : row[i]? with
  | none => rw [ha] at hi; simp at hi
  | some a =>
    cases hb : head[i]? with
    | none => rw [ha, hb] at hi; simp at hi
    | some b =>
      rw [ha, hb] at hi
      have e : x * a - y * b = n := Option.some.inj hi
      have z1 := wide_lt hx (h1 a (mem_at ha))
      have z2 := wide_lt hy (h2 b (mem_at hb))
      have p : (2 : Nat) ^ 9000 = 2 ^ (4400 + 4400) * 2 ^ 200 := by rw [← Nat.pow_add]
      have p2 : 2 ≤ (2 : Nat) ^ 200 := by decide +kernel
      have p3 : 2 ^ (4400 + 4400) * 2 ≤ (2 : Nat) ^ 9000 := by rw [p]; exact Nat.mul_le_mul_left _ p2
      generalize (2 : Nat) ^ (4400 + 4400) = M at *
      generalize (2 : Nat) ^ 9000 = M2 at *
      omega
theorem m_cleared (T : Tx K mg) (F : Df K "cleared" "cleared" (top 30) f) (c1 : Ca P w K mg base 2 "bare_row" S_bare) : Me P w K mg base 3 f S_cleared := by
  refine me3 (k := 2) F sc30 (fun _ _ _ _ _ _ us hl => match us, hl with | [_, _, _], _ => rfl) (by decide) fun row head p ⟨n, hp, hn1, hn2, hb1, hb2, hlen⟩ B cdv A outer s H E hr _ => ?_
  subst hp
  refine sv_ifret (q := decide (row.getD n 0 = 0)) (pt_eqI (pv_ix n (pvS (pv_var (i := 0) (r := oL oI) (d := row) rfl)) (pv_var (i := 2) (r := oI) (d := (n : Int)) rfl) rfl (getD_at hn1)) pv_int) (fun h => ?_) fun h => ?_
  · exact sv_retE (r := oL oI) (PV.to (pv_var (i := 0) (r := oL oI) (d := row) rfl) (by unfold clearedM; rw [Int.toNat_natCast, if_pos (by simpa using h)])) rfl rfl rfl rfl
  · have h0 : ¬ row.getD n 0 = 0 := by simpa using h
    let z := List.zipWith (fun near far => head.getD n 0 * near - row.getD n 0 * far) row head
    refine sv_retE (r := oL oI) (pv_call1 c1 hr (p1 := fun x => x = z) ?_ fun d hd => ⟨by subst hd; exact ⟨bd_zip (bd_at hb2 hn2) (bd_at hb1 hn1) hb1 hb2, by rw [List.length_zipWith]; omega⟩, fun y hy => by subst hd; rw [hy]; unfold clearedM; rw [Int.toNat_natCast, if_neg h0]⟩) rfl rfl rfl rfl
    refine pv_lc (own := [("near", 3), ("far", 4)]) z rfl sc30.nd (piv_zip (pv_var (i := 0) (r := oL oI) (d := row) rfl) (pv_var (i := 1) (r := oL oI) (d := head) rfl) T.b_zip) (blkOk_by (N := ["row", "head", "place", "near", "far"]) (sc := defScope (top 30)) (by decide +kernel)) (fun _ _ _ _ _ => pg_tup rfl (pgs_cons (pg_name (i := 3) sc30.nd rfl (Or.inl rfl)) (pgs_cons (pg_name (i := 4) sc30.nd rfl (Or.inl rfl)) pgs_nil))) tg_pair (free2 rfl rfl) (by show (List.zipWith _ _ _).length = _; rw [List.length_zipWith]) (by omega) fun i hi d hd y hy _ _ _ _ _ => ?_
    have hy' : (List.zipWith (fun near far => head.getD n 0 * near - row.getD n 0 * far) row head)[i]? = some y := hy
    rw [List.getElem?_zipWith, hd.1, hd.2] at hy'
    exact PV.to (pv_sub (pv_mul (pv_ix n (pvS (pv_var (i := 1) (r := oL oI) (d := head) rfl)) (pv_var (i := 2) (r := oI) (d := (n : Int)) rfl) rfl (getD_at hn2)) (pv_var (i := 3) (r := oI) (d := d.1) rfl) (wide_mul (bd_at hb2 hn2) (hb1 _ (mem_at hd.1)) (by decide) (by decide) (by decide))) (pv_mul (pv_ix n (pvS (pv_var (i := 0) (r := oL oI) (d := row) rfl)) (pv_var (i := 2) (r := oI) (d := (n : Int)) rfl) rfl (getD_at hn1)) (pv_var (i := 4) (r := oI) (d := d.2) rfl) (wide_mul (bd_at hb1 hn1) (hb2 _ (mem_at hd.2)) (by decide) (by decide) (by decide)))) (Option.some.inj hy')
theorem m_first_at (T : Tx K mg) (F : Df K "first_at" "first_at" (top 31) f) : Me P w K mg base 1 f S_first := by
  refine me2 (k := 0) F sc31 (fun _ _ _ _ _ _ us hl => match us, hl with | [_, _], _ => rfl) (by decide) fun rows p ⟨n, hp, hlen, hn⟩ B cdv A outer s H E hr _ => ?_
  subst hp
  refine sv_forJ (fun i => [some (.kn (oL (oL oI)) rows), some (.kn oI (n : Int)), none, none]) (fun i => ∀ j r, j < i → rows[j]? = some r → nz n r = false) (piv_enum (pvS (pv_var (i := 0) (r := oL (oL oI)) (d := rows) rfl)) T.b_enumerate) (pg_tup rfl (pgs_cons (pg_name (i := 2) sc31.nd rfl (Or.inl rfl)) (pgs_cons (pg_name (i := 3) sc31.nd rfl (Or.inl rfl)) pgs_nil))) tg_pair (Le.rf _) (fun j r h => by omega) (fun Bs i hi hj d hd => ?_) fun hj => ?_
  · refine sv_ifret (q := nz n d.2) (pt_neI (pv_ix n (pvS (pv_var (i := 3) (r := oL oI) (d := d.2) rfl)) (pv_var (i := 1) (r := oI) (d := (n : Int)) rfl) rfl (getD_at (hn _ (mem_at hd.2)))) pv_int) (fun h => ?_) fun h => ?_
    · refine sv_retE (r := oI) (PV.to (pv_var (i := 2) (r := oI) (d := d.1) rfl) ?_) rfl rfl rfl rfl
      unfold firstM
      rw [Int.toNat_natCast]
      have : rows.findIdx? (nz n) = some i := by
        rw [List.findIdx?_eq_some_iff_getElem]
        refine ⟨hi, ?_, fun j hji => ?_⟩
        · have e := List.getElem?_eq_getElem hi
          rw [hd.2] at e
          rw [← Option.some.inj e]
          exact h
        · have hjl : j < rows.length := by omega
          have := hj j rows[j] hji (List.getElem?_eq_getElem hjl)
          rw [this]
          decide
      rw [this]
      exact hd.1
    · refine sv_endJ (fun j r hji hjr => ?_) (.keep (.keep (.skip (.skip .nil))))
      by_cases e : j = i
      · subst e
        rw [hd.2] at hjr
        rw [← Option.some.inj hjr]
        exact h
      · exact hj j r (by omega) hjr
  · refine sv_retE (r := oI) (PV.to (pv_of (pe_un un_neg pe_int) (P := fun z => z = (-1 : Int)) fun σ B H hs Q kk => ⟨1, rfl, kk _ (-1) B H (.refl hs.bh) rfl rfl⟩) ?_) rfl rfl rfl rfl
    unfold firstM
    rw [Int.toNat_natCast]
    have : rows.findIdx? (nz n) = none := by
      rw [List.findIdx?_eq_none_iff]
      intro r hr
      obtain ⟨j, hj2⟩ := List.getElem?_of_mem hr
      exact hj j r (List.getElem?_eq_some_iff.mp hj2).1 hj2
    rw [this]
theorem m_headed_row (T : Tx K mg) (F : Df K "headed_row" "headed_row" (top 32) f) (c1 : Ca P w K mg base 2 "bare_row" S_bare) : Me P w K mg base 3 f S_headed := by
  refine me2 (k := 2) F sc32 (fun _ _ _ _ _ _ us hl => match us, hl with | [_, _], _ => rfl) (by decide) fun row p ⟨n, hp, hn, hb, hlen⟩ B cdv A outer s H E hr _ => ?_
  subst hp
  refine sv_setD (i := 2) (r := oL oI) (d := bareM row) (pv_call1 c1 hr (pv_var (i := 0) (r := oL oI) (d := row) rfl) fun d hd => ⟨by subst hd; exact ⟨hb, hlen⟩, fun y hy => by subst hd; exact hy⟩) ?_ sc32.nd
  refine sv_retE (r := oL oI) (pv_if (q := decide (0 < (bareM row).getD n 0)) (pt_cmpI op_gt (pv_ix n (pvS (pv_var (i := 2) (r := oL oI) (d := bareM row) rfl)) (pv_var (i := 1) (r := oI) (d := (n : Int)) rfl) rfl (getD_at (by rw [bareM_len]; exact hn))) pv_int) (fun h => ?_) fun h => ?_) rfl rfl rfl rfl
  · exact PV.to (pv_var (i := 2) (r := oL oI) (d := bareM row) rfl) (by unfold headM; rw [Int.toNat_natCast, if_pos (by simpa using h)])
  · have h0 : ¬ 0 < (bareM row).getD n 0 := by simpa using h
    refine PV.to (pv_lc (own := [("number", 3)]) ((bareM row).map fun x => 0 - x) rfl sc32.nd (piv_seq (pvS (pv_var (i := 2) (r := oL oI) (d := bareM row) rfl))) (blkOk_by (N := ["row", "place", "found", "number"]) (sc := defScope (top 32)) (by decide +kernel)) (fun _ _ _ _ _ => pg_name (i := 3) sc32.nd rfl (Or.inl rfl)) tg_name (free1 rfl) (by rw [List.length_map]) (by rw [bareM_len]; exact hlen) fun i hi d hd y hy _ _ _ _ _ => ?_) (by unfold headM; rw [Int.toNat_natCast, if_neg h0])
    rw [List.getElem?_map, hd] at hy
    exact PV.to (pv_sub pv_int (pv_var (i := 3) (r := oI) (d := d) rfl)) (Option.some.inj hy)
end
end Wk

end
section
set_option Elab.async false
set_option linter.all false
set_option maxRecDepth 100000
set_option maxHeartbeats 2000000
set_option exponentiation.threshold 100000
/-! solved: the steps; told rows. -/
namespace Wk
open PySem PySem.Spec PyProof.Rows L2 Ru RZ Rp
open Hd (top)
abbrev Mi := List (List Int)
def stepM (lf : Mi × Mi) (n : Nat) : Mi × Mi := match lf.1.findIdx? (nz n) with
  | some a => ((lf.1.take a ++ lf.1.drop (a + 1)).map fun r => clearedM r (headM (lf.1.getD a []) n) n, (lf.2.map fun r => clearedM r (headM (lf.1.getD a []) n) n) ++ [headM (lf.1.getD a []) n])
  | none => lf
def stM (rows : Mi) (i : Nat) : Mi × Mi := (List.range i).foldl stepM (rows, [])
theorem stM_succ (rows : Mi) (i : Nat) : stM rows (i + 1) = stepM (stM rows i) i := by unfold stM; rw [List.range_succ, List.foldl_append]; rfl
/-- the elimination's numbers stay below the line -/
structure StOk (rows : Mi) (m : Nat) : Prop where
  ne : rows ≠ []
  wide : m ≤ 900
  len : ∀ i, i ≤ m → (stM rows i).1.length + (stM rows i).2.length ≤ 900
  ok : ∀ i, i ≤ m → ∀ r, r ∈ (stM rows i).1 ∨ r ∈ (stM rows i).2 → r.length = m ∧ Bd 4400 r
  hd : ∀ i, i < m → ∀ r, r ∈ (stM rows i).1 → Bd 4400 (headM r i)
abbrev S_steps : Sp := sp1 (oL (oL oI)) (oL (oL oI)) (fun rows => ∃ m, StOk rows m) (fun rows z => ∀ m, StOk rows m → z = (stM rows m).2)
def hdIx (row : List Int) : Nat := row.findIdx fun x => !decide (x = 0)
abbrev S_head : Sp := sp1 (oL oI) oI (fun row => hdIx row < row.length) (fun row z => z = ((hdIx row : Nat) : Int))
def toldM (row : List Int) : List Rat := row.map fun x : Int => (x : Rat) / ((row.getD (hdIx row) 0 : Int) : Rat)
abbrev S_toldrows (C : Addr) : Sp := sp1 (oL (oL oI)) (oL (oL (oQ C))) (fun rows => rows.length ≤ 800 ∧ ∀ r ∈ rows, hdIx r < r.length ∧ r.length ≤ 900 ∧ Bd 9000 r) (fun rows z => z = rows.map toldM)
theorem headM_len (row : List Int) (n : Nat) : (headM row n).length = row.length := by unfold headM; split <;> simp [bareM_len]
section
variable {P : Program} {w : World} {K : PySem.W.Frag} {mg : Str → Option Value} {base : Heap} {f fi : Addr} {k : Nat}
theorem sc33 : FnScope ["rows", "left", "found", "place", "at", "head", "others", "row"] ["rows"] (defScope (top 33)) := ⟨rfl, rfl, rfl, by decide +kernel, rfl, by decide +kernel, by decide +kernel⟩
theorem sc34 : FnScope ["row", "place"] ["row"] (defScope (top 34)) := ⟨rfl, rfl, rfl, by decide +kernel, rfl, by decide +kernel, by decide +kernel⟩
theorem sc35 : FnScope ["steps_now", "found", "row", "head", "number"] ["steps_now"] (defScope (top 35)) := ⟨rfl, rfl, rfl, by decide +kernel, rfl, by decide +kernel, by decide +kernel⟩
theorem m_head_of (T : Tx K mg) (F : Df K "head_of" "head_of" (top 34) f) : Me P w K mg base 1 f S_head := by
  refine me1 (k := 0) F sc34 (fun _ _ _ _ _ _ us hl => match us, hl with | [_], _ => rfl) (by decide) fun row hrow B cdv A outer s H E hr _ => ?_
  refine sv_setD (i := 1) (r := oI) (d := ((0 : Nat) : Int)) pv_int ?_ sc34.nd
  have at0 : ∀ i, i ≤ hdIx row → row[i]? = some (row.getD i 0) := fun i hi => getD_at (by omega)
  refine sv_while (fun i => [some (.kn (oL oI) row), some (.kn oI (i : Int))]) (fun i => decide (row.getD i 0 = 0)) (hdIx row) (fun i hi => ?_) ?_ (Le.rf _) (fun i hi => ?_) (fun i hi => ?_) ?_
  · have := List.not_of_lt_findIdx hi
    have hl : i < row.length := by omega
    have e : row.getD i 0 = row[i] := getD_of (List.getElem?_eq_getElem hl)
    rw [e]
    simpa using this
  · have this : (fun x : Int => !decide (x = 0)) row[hdIx row] = true := List.findIdx_getElem (xs := row) (p := fun x => !decide (x = 0)) (w := hrow)
    have e : row.getD (hdIx row) 0 = row[hdIx row] := getD_of (List.getElem?_eq_getElem hrow)
    rw [e]
    simpa using this
  · exact pt_eqI (pv_ix i (pvS (pv_var (i := 0) (r := oL oI) (d := row) rfl)) (pv_var (i := 1) (r := oI) (d := (i : Int)) rfl) rfl (at0 i hi)) pv_int
  · refine sv_setD (i := 1) (r := oI) (d := ((i + 1 : Nat) : Int)) (PV.to (pv_add (pv_var (i := 1) (r := oI) (d := (i : Int)) rfl) pv_int) (by omega)) ?_ sc34.nd
    exact sv_end (Le.rf _)
  · exact sv_retE (r := oI) (pv_var (i := 1) (r := oI) (d := ((hdIx row : Nat) : Int)) rfl) rfl rfl rfl rfl
theorem m_told_rows (T : Tx K mg) (R : Rm P w K mg base T.C fi) (F : Df K "told_rows" "told_rows" (top 35) f) (c1 : Ca P w K mg base 1 "head_of" S_head) : Me P w K mg base 4 f (S_toldrows T.C) := by
  refine me1 (k := 3) F sc35 (fun _ _ _ _ _ _ us hl => match us, hl with | [_], _ => rfl) (by decide) fun rows ⟨hlen, hrows⟩ B cdv A outer s H E hr _ => ?_
  refine sv_new (i := 1) (oL (oQ T.C)) (fun q => ?_) sc35.nd
  refine sv_for (fun i => [some (.kn (oL (oL oI)) rows), some (.ow q (oL (oQ T.C)) ((rows.take i).map toldM)), none, none, none]) (piv_seq (pvS (pv_var (i := 0) (r := oL (oL oI)) (d := rows) rfl))) (pg_name (i := 2) sc35.nd rfl (.inl rfl)) tg_name (Le.rf _) (fun Bs i hi d hd => ?_) ?_
  · obtain ⟨hh, hl, hb⟩ := hrows d (mem_at hd)
    have h9 := hb _ (mem_at (getD_at (d := 0) hh))
    have hne : d.getD (hdIx d) 0 ≠ 0 := by
      have this : (fun x : Int => !decide (x = 0)) d[hdIx d] = true := List.findIdx_getElem (xs := d) (p := fun x => !decide (x = 0)) (w := hh)
      have e : d.getD (hdIx d) 0 = d[hdIx d] := getD_of (List.getElem?_eq_getElem hh)
      rw [e]
      simpa using this
    refine sv_setD (i := 3) (r := oI) (d := d.getD (hdIx d) 0) (pv_ix (hdIx d) (pvS (pv_var (i := 2) (r := oL oI) (d := d) rfl)) (pv_call1 c1 (hr.mono (by decide)) (Pq := fun z => z = ((hdIx d : Nat) : Int)) (pv_var (i := 2) (r := oL oI) (d := d) rfl) fun d' hd' => ⟨by subst hd'; exact hh, fun z hz => by subst hd'; exact hz⟩) rfl (getD_at hh)) ?_ sc35.nd
    refine sv_append (i := 1) (r := oL (oQ T.C)) (d := toldM d) rfl ?_ (by rw [List.length_map, List.length_take]; omega) ?_
    · refine pv_lc (own := [("number", 4)]) (toldM d) rfl sc35.nd (piv_seq (pvS (pv_var (i := 2) (r := oL oI) (d := d) rfl))) (blkOk_by (N := ["steps_now", "found", "row", "head", "number"]) (sc := defScope (top 35)) (by decide +kernel)) (fun _ _ _ _ _ => pg_name (i := 4) sc35.nd rfl (Or.inl rfl)) tg_name (free1 rfl) (by unfold toldM; rw [List.length_map]) hl fun j hj x hx y hy _ _ _ _ _ => ?_
      unfold toldM at hy
      rw [List.getElem?_map, hx] at hy
      exact PV.to (pv_mk2 R hr (pv_var (i := 4) (r := oI) (d := x) rfl) (pv_var (i := 3) (r := oI) (d := d.getD (hdIx d) 0) rfl) hne h9) (Option.some.inj hy)
    · rw [take_snoc hd, List.map_append]
      exact sv_end (.keep (.keep (.skip (.skip (.skip .nil)))))
  · rw [List.take_length]
    exact sv_freeze (i := 1) (q := q) (r := oL (oQ T.C)) (ds := rows.map toldM) rfl (sv_retE (r := oL (oL (oQ T.C))) (pv_var (i := 1) (r := oL (oL (oQ T.C))) (d := rows.map toldM) rfl) rfl rfl rfl rfl)
theorem m_int_steps (T : Tx K mg) (F : Df K "int_steps" "int_steps" (top 33) f) (c1 : Ca P w K mg base 1 "first_at" S_first) (c2 : Ca P w K mg base 3 "headed_row" S_headed) (c3 : Ca P w K mg base 3 "cleared" S_cleared) : Me P w K mg base 4 f S_steps := by
  refine me1 (k := 3) F sc33 (fun _ _ _ _ _ _ us hl => match us, hl with | [_], _ => rfl) (by decide) fun rows ⟨m, hok⟩ B cdv A outer s H E hr _ => ?_
  have hne := hok.ne
  have hr0 : 0 < rows.length := List.length_pos_iff.mpr hne
  have hl0 := hok.len 0 (Nat.zero_le _)
  have hlen0 : rows.length ≤ 900 := hl0
  have m0 : (rows.getD 0 []).length = m := (hok.ok 0 (Nat.zero_le _) _ (.inl (mem_at (getD_at hr0)))).1
  refine sv_par (i := 1) (j := 2) (r := oL (oL oI)) (r2 := oL (oL oI)) (d := rows) (d' := []) (pv_var (i := 0) (r := oL (oL oI)) (d := rows) rfl) (pv_list pvl_nil) ?_ sc33.nd
  let G : Nat → List (Option Sl) := fun i => [some (.kn (oL (oL oI)) rows), some (.kn (oL (oL oI)) (stM rows i).1), some (.kn (oL (oL oI)) (stM rows i).2), none, none, none, none, none]
  refine sv_for G (piv_range m (PV.to (pv_if (q := decide ((0 : Int) < (rows.length : Int))) (r := oI) (P := fun z => z = (m : Int)) (pt_cmpI op_gt (pv_len (pvS (pv_var (i := 0) (r := oL (oL oI)) (d := rows) rfl)) T.b_len) pv_int) (fun _ => PV.to (pv_len (pvS (pv_ix 0 (pvS (pv_var (i := 0) (r := oL (oL oI)) (d := rows) rfl)) pv_int rfl (getD_at hr0))) T.b_len) (by rw [m0])) fun h => absurd hr0 (by have := of_decide_eq_false h; omega)) rfl) rfl (by have := hok.wide; omega) T.b_range) (pg_name (i := 3) sc33.nd rfl (.inr rfl)) tg_name (Le.rf _) (fun Bs i hi d hd => ?_) ?_
  · subst hd
    have okl : ∀ r ∈ (stM rows i).1, r.length = m ∧ Bd 4400 r := fun r h => hok.ok i (by omega) r (.inl h)
    have okf : ∀ r ∈ (stM rows i).2, r.length = m ∧ Bd 4400 r := fun r h => hok.ok i (by omega) r (.inr h)
    have lens := hok.len i (by omega)
    have lens1 := hok.len (i + 1) (by omega)
    generalize hL : (stM rows i).1 = L at okl lens
    generalize hF : (stM rows i).2 = Fd at okf lens
    refine sv_setD (i := 4) (r := oI) (d := firstM L i) (pv_call2 c1 (hr.mono (by decide)) (p1 := fun z => z = L) (p2 := fun z => z = (i : Int)) (pv_var (i := 1) (r := oL (oL oI)) (d := L) (by rw [← hL]; rfl)) (pv_var (i := 3) (r := oI) (d := (i : Int)) rfl) fun a b ha hb => ⟨by subst ha hb; exact ⟨i, rfl, by omega, fun r hr => by rw [(okl r hr).1]; exact hi⟩, fun z hz => by subst ha hb; rw [hz, Int.toNat_natCast]⟩) ?_ sc33.nd
    have hst : stM rows (i + 1) = stepM (L, Fd) i := by rw [stM_succ, ← hL, ← hF]
    refine sv_if (Φ' := (⟨G (i + 1), none, B, H, Bs⟩ : Fm)) (q := decide (0 ≤ firstM L i)) (pt_cmpI op_ge (pv_var (i := 4) (r := oI) (d := firstM L i) rfl) pv_int) (fun h => ?_) (fun h => ?_) (sv_end (Le.rf _))
    · have h0 : 0 ≤ firstM L i := by simpa using h
      cases hfi : L.findIdx? (nz i) with
      | none => unfold firstM at h0; rw [hfi] at h0; exact absurd h0 (by decide)
      | some a =>
        have ha : firstM L i = (a : Int) := by unfold firstM; rw [hfi]
        have hal : a < L.length := (List.findIdx?_eq_some_iff_getElem.mp hfi).1
        have hmem : L.getD a [] ∈ L := mem_at (getD_at hal)
        obtain ⟨ra1, ra2⟩ := okl _ hmem
        have hbh : Bd 4400 (headM (L.getD a []) i) := hok.hd i hi _ (by rw [hL]; exact hmem)
        generalize hhd : headM (L.getD a []) i = hdr at hbh
        have hhl : hdr.length = m := by rw [← hhd, headM_len, ra1]
        have e9 : ∀ r : List Int, Bd 4400 r → Bd 9000 r := fun r h n hn => Nat.lt_trans (h n hn) (Nat.pow_lt_pow_right (by decide) (by decide))
        refine sv_setD (i := 5) (r := oL oI) (d := hdr) (pv_call2 c2 hr (p1 := fun z => z = L.getD a []) (p2 := fun z => z = (i : Int)) (pv_ix a (pvS (pv_var (i := 1) (r := oL (oL oI)) (d := L) (by rw [← hL]; rfl))) (pv_var (i := 4) (r := oI) (d := firstM L i) rfl) ha (getD_at hal)) (pv_var (i := 3) (r := oI) (d := (i : Int)) rfl) fun x y hx hy => ⟨by subst hx hy; exact ⟨i, rfl, by rw [ra1]; exact hi, e9 _ ra2, by rw [ra1]; exact hok.wide⟩, fun z hz => by subst hx hy; rw [hz, Int.toNat_natCast, hhd]⟩) ?_ sc33.nd
        have hot : (L.take a ++ L.drop (a + 1)).length ≤ 900 := by rw [List.length_append, List.length_take, List.length_drop]; omega
        refine sv_setD (i := 6) (r := oL (oL oI)) (d := L.take a ++ L.drop (a + 1)) (pv_cat (pv_cutTo (lo := none) a (pv_var (i := 1) (r := oL (oL oI)) (d := L) (by rw [← hL]; rfl)) (pv_var (i := 4) (r := oI) (d := firstM L i) rfl) ha (by omega)) (pv_cutFrom (lo := none) (a + 1) (pv_var (i := 1) (r := oL (oL oI)) (d := L) (by rw [← hL]; rfl)) (pv_add (pv_var (i := 4) (r := oI) (d := firstM L i) rfl) pv_int) (by omega) (by omega)) (by rw [List.length_append] at hot; omega)) ?_ sc33.nd
        have lens' : Fd.length ≤ 899 := by omega
        refine sv_setD (i := 2) (r := oL (oL oI)) (d := (Fd.map fun r => clearedM r hdr i) ++ [hdr]) (pv_cat (pv_lc (own := [("row", 7)]) (Fd.map fun r => clearedM r hdr i) rfl sc33.nd (piv_seq (pvS (pv_var (i := 2) (r := oL (oL oI)) (d := Fd) (by rw [← hF]; rfl)))) (blkOk_by (N := ["rows", "left", "found", "place", "at", "head", "others", "row"]) (sc := defScope (top 33)) (by decide +kernel)) (fun _ _ _ _ _ => pg_name (i := 7) sc33.nd rfl (Or.inl rfl)) tg_name (free1 rfl) (by rw [List.length_map]) (by omega) fun j hj x hx y hy _ _ _ _ _ => ?_) (pv_list (pvl_cons (pv_var (i := 5) (r := oL oI) (d := hdr) rfl) pvl_nil)) (by rw [List.length_map, List.length_singleton]; omega)) ?_ sc33.nd
        · rw [List.getElem?_map, hx] at hy
          obtain ⟨x1, x2⟩ := okf x (mem_at hx)
          exact pv_call3 c3 hr (p1 := fun z => z = x) (p2 := fun z => z = hdr) (p3 := fun z => z = (i : Int)) (pv_var (i := 7) (r := oL oI) (d := x) rfl) (pv_var (i := 5) (r := oL oI) (d := hdr) rfl) (pv_var (i := 3) (r := oI) (d := (i : Int)) rfl) fun u v t hu hv ht => ⟨by subst hu hv ht; exact ⟨i, rfl, by omega, by omega, x2, hbh, by have := hok.wide; omega⟩, fun z hz => by subst hu hv ht; rw [hz, Int.toNat_natCast]; exact Option.some.inj hy⟩
        · refine sv_setLc (i := 1) (r2 := oL oI) (own := [("row", 7)]) ((L.take a ++ L.drop (a + 1)).map fun r => clearedM r hdr i) sc33.nd (piv_seq (pvS (pv_var (i := 6) (r := oL (oL oI)) (d := L.take a ++ L.drop (a + 1)) rfl))) (blkOk_by (N := ["rows", "left", "found", "place", "at", "head", "others", "row"]) (sc := defScope (top 33)) (by decide +kernel)) (fun _ _ _ _ _ => pg_name (i := 7) sc33.nd rfl (Or.inl rfl)) tg_name (free1 rfl) (by rw [List.length_map]) hot (fun j hj x hx y hy _ _ _ _ _ => ?_) ?_
          · rw [List.getElem?_map, hx] at hy
            have xm : x ∈ L := by
              rcases List.mem_append.mp (mem_at hx) with z | z
              · exact List.mem_of_mem_take z
              · exact List.mem_of_mem_drop z
            obtain ⟨x1, x2⟩ := okl x xm
            exact pv_call3 c3 hr (p1 := fun z => z = x) (p2 := fun z => z = hdr) (p3 := fun z => z = (i : Int)) (pv_var (i := 7) (r := oL oI) (d := x) rfl) (pv_var (i := 5) (r := oL oI) (d := hdr) rfl) (pv_var (i := 3) (r := oI) (d := (i : Int)) rfl) fun u v t hu hv ht => ⟨by subst hu hv ht; exact ⟨i, rfl, by omega, by omega, x2, hbh, by have := hok.wide; omega⟩, fun z hz => by subst hu hv ht; rw [hz, Int.toNat_natCast]; exact Option.some.inj hy⟩
          · have e1 : stM rows (i + 1) = ((L.take a ++ L.drop (a + 1)).map fun r => clearedM r hdr i, (Fd.map fun r => clearedM r hdr i) ++ [hdr]) := by
              rw [hst]
              unfold stepM
              simp only [hfi, hhd]
            refine sv_end ?_
            show Le [some (.kn (oL (oL oI)) rows), some (.kn (oL (oL oI)) (stM rows (i + 1)).1), some (.kn (oL (oL oI)) (stM rows (i + 1)).2), none, none, none, none, none] _
            rw [e1]
            exact .keep (.keep (.keep (.skip (.skip (.skip (.skip (.skip .nil)))))))
    · have h0 : ¬ 0 ≤ firstM L i := by simpa using h
      have hfi : L.findIdx? (nz i) = none := by
        cases q : L.findIdx? (nz i) with
        | none => rfl
        | some a => exact absurd (by unfold firstM; rw [q]; exact Int.natCast_nonneg a) h0
      have e1 : stM rows (i + 1) = stM rows i := by
        rw [hst]
        unfold stepM
        simp only [hfi]
        rw [← hL, ← hF]
      refine sv_end ?_
      show Le [some (.kn (oL (oL oI)) rows), some (.kn (oL (oL oI)) (stM rows (i + 1)).1), some (.kn (oL (oL oI)) (stM rows (i + 1)).2), none, none, none, none, none] _
      rw [e1]
      exact .keep (.keep (.keep (.skip (.skip (.skip (.skip (.skip .nil)))))))
  · refine sv_retE (r := oL (oL oI)) (PV.imp (pv_var (i := 2) (r := oL (oL oI)) (d := (stM rows m).2) rfl) fun z hz m' hm' => ?_) rfl rfl rfl rfl
    have : (rows.getD 0 []).length = m' := (hm'.ok 0 (Nat.zero_le _) _ (.inl (mem_at (getD_at hr0)))).1
    rw [hz, ← m0, this]
end
end Wk

end
section
set_option Elab.async false
set_option linter.all false
set_option maxRecDepth 100000
set_option maxHeartbeats 2000000
set_option exponentiation.threshold 100000
/-! tables. -/
namespace Wk
open PySem PySem.Spec PyProof.Rows L2 Ru RZ Rp
open Hd (top)
abbrev Mq := List (List Rat)
def trM (m : Nat) (rows : Mq) : Mq := (List.range m).map fun j => rows.map fun r => r.getD j 0
def prods (near far : List Rat) : List Rat := List.zipWith (· * ·) near far
def dotM (near far : List Rat) : Rat := sumQ (prods near far)
structure DotOk (near far : List Rat) : Prop where
  f1 : ∀ d ∈ near, Fit d
  f2 : ∀ d ∈ far, Fit d
  l1 : near.length ≤ 900
  sum : FitL (prods near far)
abbrev S_turned (C : Addr) : Sp := sp1 (oL (oL (oQ C))) (oL (oL (oQ C))) (fun rows => rows ≠ [] ∧ rows.length ≤ 900 ∧ ∃ m, m ≤ 900 ∧ ∀ r ∈ rows, r.length = m) (fun rows z => z = trM (rows.getD 0 []).length rows)
abbrev S_dot (C : Addr) : Sp := sp2 (oL (oQ C)) (oL (oQ C)) (oQ C) DotOk (fun near far z => z = dotM near far)
abbrev S_led (C : Addr) : Sp := sp2 (oL (oL (oQ C))) (oL (oQ C)) (oL (oQ C)) (fun rows row => rows.length ≤ 900 ∧ ∀ r ∈ rows, DotOk r row) (fun rows row z => z = rows.map fun r => dotM r row)
def prodM (near far : Mq) : Mq := near.map fun r => (trM (far.getD 0 []).length far).map fun c => dotM r c
structure ProdOk (near far : Mq) : Prop where
  ne : far ≠ []
  l1 : near.length ≤ 900
  l2 : far.length ≤ 900
  wide : ∃ m, m ≤ 900 ∧ ∀ r ∈ far, r.length = m
  dots : ∀ r ∈ near, ∀ c ∈ trM (far.getD 0 []).length far, DotOk r c
abbrev S_prod (C : Addr) : Sp := sp2 (oL (oL (oQ C))) (oL (oL (oQ C))) (oL (oL (oQ C))) ProdOk (fun near far z => z = prodM near far)
def unitM (n : Nat) : Mq := (List.range n).map fun i => (List.range n).map fun j => if i = j then 1 else 0
abbrev S_unit (C : Addr) : Sp := sp1 oI (oL (oL (oQ C))) (fun p => ∃ n : Nat, p = n ∧ n ≤ 900) (fun p z => z = unitM p.toNat)
def augM (rows : Mq) : Mq := List.zipWith (· ++ ·) rows (unitM rows.length)
def solvedM (rows : Mq) : Mi := (stM ((augM rows).map whI) (2 * rows.length)).2
def invM (rows : Mq) : Mq := (solvedM rows).map fun r => (toldM r).drop rows.length
structure InvOk (rows : Mq) : Prop where
  small : rows.length ≤ 400
  sq : ∀ r ∈ rows, r.length = rows.length
  wh : ∀ r ∈ augM rows, WhOk r
  st : StOk ((augM rows).map whI) (2 * rows.length)
  len : (solvedM rows).length = rows.length
  diag : ∀ i, i < rows.length → ((solvedM rows).getD i []).getD i 0 ≠ 0
  told : ∀ r ∈ solvedM rows, hdIx r < r.length ∧ r.length = 2 * rows.length ∧ Bd 9000 r
abbrev S_inv (C : Addr) : Sp := sp1 (oL (oL (oQ C))) (oL (oL (oQ C))) InvOk (fun rows z => z = invM rows)
abbrev S_worth (C : Addr) : Sp := sp2 (oL (oL (oQ C))) (oL (oQ C)) (oQ C) (fun form row => form.length ≤ 900 ∧ (∀ r ∈ form, DotOk r row) ∧ DotOk row (form.map fun r => dotM r row)) (fun form row z => z = dotM row (form.map fun r => dotM r row))
theorem mul_zero_of {q q' : Rat} (h : sg q = 0) : q * q' = 0 := by
  have : q.num = 0 := by unfold sg at h; split at h <;> split at h <;> omega
  have : q = 0 := Rat.num_eq_zero.mp this
  rw [this]; grind
theorem fitL_nil : FitL [] := ⟨(fun d h => nomatch h), fun i hi => by
  have : i = 0 := by simpa using hi
  subst this
  exact Fit.int (i := 0) (by decide)⟩
theorem fitL_snoc {ds : List Rat} {d : Rat} (h : FitL ds) (h1 : Fit d) (h2 : Fit (sumQ (ds ++ [d]))) : FitL (ds ++ [d]) := ⟨fun x hx => by
  rcases List.mem_append.mp hx with z | z
  · exact h.1 x z
  · rw [List.mem_singleton.mp z]; exact h1, fun i hi => by
  rw [List.length_append, List.length_singleton] at hi
  by_cases e : i ≤ ds.length
  · rw [List.take_append_of_le_length e]; exact h.2 i e
  · rw [List.take_of_length_le (by rw [List.length_append, List.length_singleton]; omega)]; exact h2⟩
/-- what is left of the products -/
def keptF (near far : List Rat) (i : Nat) : Option Rat := if sg (near.getD i 0) = 0 then none else some (near.getD i 0 * far.getD i 0)
theorem kept_sum {near far : List Rat} (h : FitL (prods near far)) : ∀ i, i ≤ (prods near far).length → FitL ((List.range i).filterMap (keptF near far)) ∧ sumQ ((List.range i).filterMap (keptF near far)) = sumQ ((prods near far).take i)
  | 0, _ => ⟨fitL_nil, rfl⟩
  | i + 1, hi => by
    obtain ⟨h1, h2⟩ := kept_sum h i (by omega)
    have hl : i < near.length ∧ i < far.length := by unfold prods at hi; rw [List.length_zipWith] at hi; omega
    have ha := getD_at (d := 0) hl.1
    have hb := getD_at (d := 0) hl.2
    have hp : (prods near far)[i]? = some (near.getD i 0 * far.getD i 0) := by unfold prods; rw [List.getElem?_zipWith, ha, hb]
    rw [List.range_succ, List.filterMap_append, take_snoc hp, sumQ_snoc, ← h2]
    by_cases z : sg (near.getD i 0) = 0
    · have e : keptF near far i = none := by unfold keptF; rw [if_pos z]
      have e2 : List.filterMap (keptF near far) [i] = [] := by simp [e]
      rw [e2, List.append_nil, mul_zero_of z]
      exact ⟨h1, by grind⟩
    · have e : keptF near far i = some (near.getD i 0 * far.getD i 0) := by unfold keptF; rw [if_neg z]
      have e2 : List.filterMap (keptF near far) [i] = [near.getD i 0 * far.getD i 0] := by simp [e]
      rw [e2]
      refine ⟨fitL_snoc h1 (h.1 _ (mem_at hp)) ?_, sumQ_snoc _ _⟩
      rw [sumQ_snoc, h2, ← sumQ_snoc, ← take_snoc hp]
      exact h.2 (i + 1) hi
section
variable {P : Program} {w : World} {K : PySem.W.Frag} {mg : Str → Option Value} {base : Heap} {f fi : Addr} {k : Nat}
theorem sc20_5 : FnScope ["cls", "numbers", "number"] ["cls", "numbers"] (defScope (inClass (top 20) 5)) := ⟨rfl, rfl, rfl, by decide +kernel, rfl, by decide +kernel, by decide +kernel⟩
theorem sc37 : FnScope ["rows", "place", "row"] ["rows"] (defScope (top 37)) := ⟨rfl, rfl, rfl, by decide +kernel, rfl, by decide +kernel, by decide +kernel⟩
theorem sc38 : FnScope ["near", "far", "one", "other"] ["near", "far"] (defScope (top 38)) := ⟨rfl, rfl, rfl, by decide +kernel, rfl, by decide +kernel, by decide +kernel⟩
theorem sc40 : FnScope ["rows", "row", "one"] ["rows", "row"] (defScope (top 40)) := ⟨rfl, rfl, rfl, by decide +kernel, rfl, by decide +kernel, by decide +kernel⟩
theorem sc41 : FnScope ["near", "far", "columns", "row", "column"] ["near", "far"] (defScope (top 41)) := ⟨rfl, rfl, rfl, by decide +kernel, rfl, by decide +kernel, by decide +kernel⟩
theorem sc42 : FnScope ["size", "at", "place"] ["size"] (defScope (top 42)) := ⟨rfl, rfl, rfl, by decide +kernel, rfl, by decide +kernel, by decide +kernel⟩
theorem sc43 : FnScope ["rows", "size", "solved", "row", "unit", "place"] ["rows"] (defScope (top 43)) := ⟨rfl, rfl, rfl, by decide +kernel, rfl, by decide +kernel, by decide +kernel⟩
theorem sc46 : FnScope ["form", "row"] ["form", "row"] (defScope (top 46)) := ⟨rfl, rfl, rfl, by decide +kernel, rfl, by decide +kernel, by decide +kernel⟩
theorem m_total (T : Tx K mg) (F : Df K "total" "Ratio.total" (inClass (top 20) 5) f) (c1 : Ca P w K mg base 1 "is_list" S_islist) (c2 : Ca P w K mg base 5 "want_number" (S_ratio_of T.C)) (c3 : Ca P w K mg base 5 "total_of" (S_total_of T.C)) : Me P w K mg base 6 f (S_total T.C) := by
  refine me2 (k := 5) F sc20_5 (fun _ _ _ _ _ _ us hl => match us, hl with | [_, _], _ => rfl) (by decide) fun _ ds ⟨hds, hlen⟩ B cdv A outer s H E hr _ => ?_
  refine sv_ifret (q := false) ((pt_notI (q := true) (pt_val1 (pv_call1 c1 (hr.mono (by decide)) (pvV (pv_var (i := 1) (r := oS (oN T.C)) (d := ds) rfl)) fun d hd => ⟨trivial, fun z hz => hz⟩))).to rfl) (fun h => nomatch h) fun _ => ?_
  refine sv_retE (r := oQ T.C) (pv_call1 c3 hr (p1 := fun z => z = ds) (pvS ?_) fun d hd => ⟨by subst hd; exact hds, fun z hz => by subst hd; exact hz⟩) rfl rfl rfl rfl
  refine pv_lc (own := [("number", 2)]) ds rfl sc20_5.nd (piv_seq (pv_var (i := 1) (r := oS (oN T.C)) (d := ds) rfl)) (blkOk_by (N := ["cls", "numbers", "number"]) (sc := defScope (inClass (top 20) 5)) (by decide +kernel)) (fun _ _ _ _ _ => pg_name (i := 2) sc20_5.nd rfl (Or.inl rfl)) tg_name (free1 rfl) rfl hlen fun i hi d hd y hy _ _ _ _ _ => ?_
  rw [hd] at hy
  exact pv_call1 c2 hr (p1 := fun z => z = d) (pv_var (i := 2) (r := oN T.C) (d := d) rfl) fun d' hd' => ⟨trivial, fun z hz => by rw [hz, hd']; exact Option.some.inj hy⟩
theorem m_turned (T : Tx K mg) (F : Df K "turned_of" "turned_of" (top 37) f) : Me P w K mg base 1 f (S_turned T.C) := by
  refine me1 (k := 0) F sc37 (fun _ _ _ _ _ _ us hl => match us, hl with | [_], _ => rfl) (by decide) fun rows ⟨hne, hlen, m, hm, hrow⟩ B cdv A outer s H E hr _ => ?_
  have hr0 : 0 < rows.length := List.length_pos_iff.mpr hne
  have m0 : (rows.getD 0 []).length = m := hrow _ (mem_at (getD_at hr0))
  rw [m0]
  refine sv_retE (r := oL (oL (oQ T.C))) ?_ rfl rfl rfl rfl
  refine pv_lc (own := [("place", 1)]) (trM m rows) rfl sc37.nd (piv_range m (pv_len (pvS (pv_ix 0 (pvS (pv_var (i := 0) (r := oL (oL (oQ T.C))) (d := rows) rfl)) pv_int rfl (getD_at hr0))) T.b_len) (by rw [m0]) (by omega) T.b_range) (blkOk_by (N := ["rows", "place", "row"]) (sc := defScope (top 37)) (by decide +kernel)) (fun _ _ _ _ _ => pg_name (i := 1) sc37.nd rfl (Or.inr rfl)) tg_name (free1 rfl) (by unfold trM; rw [List.length_map, List.length_range]) hm fun i hi d hd y hy _ _ _ _ _ => ?_
  subst hd
  have ey : y = rows.map fun r => r.getD i 0 := by
    unfold trM at hy
    rw [List.getElem?_map, List.getElem?_range hi] at hy
    exact (Option.some.inj hy).symm
  subst ey
  refine PV.to (pv_lc (own := [("row", 2)]) (rows.map fun r => r.getD i 0) rfl sc37.nd (piv_seq (pvS (pv_var (i := 0) (r := oL (oL (oQ T.C))) (d := rows) rfl))) (blkOk_by (N := ["rows", "place", "row"]) (by rfl)) (fun _ _ _ _ _ => pg_name (i := 2) sc37.nd rfl (Or.inl rfl)) tg_name (free1 rfl) (by rw [List.length_map]) hlen fun j hj d hd y hy _ _ _ _ _ => ?_) rfl
  rw [List.getElem?_map, hd] at hy
  exact PV.to (pv_ix i (pvS (pv_var (i := 2) (r := oL (oQ T.C)) (d := d) rfl)) (pv_var (i := 1) (r := oI) (d := (i : Int)) rfl) rfl (getD_at (by rw [hrow d (mem_at hd)]; exact hi))) (Option.some.inj hy)
end
end Wk

end
section
set_option Elab.async false
set_option linter.all false
set_option maxRecDepth 100000
set_option maxHeartbeats 2000000
set_option exponentiation.threshold 100000
/-! tables, the rest. -/
namespace Wk
open PySem PySem.Spec PyProof.Rows L2 Ru RZ Rp
open Hd (top)
section
variable {P : Program} {w : World} {K : PySem.W.Frag} {mg : Str → Option Value} {base : Heap} {f fi : Addr} {k : Nat}
theorem prods_len (near far : List Rat) : (prods near far).length = min near.length far.length := by unfold prods; rw [List.length_zipWith]
theorem m_dot (T : Tx K mg) (R : Rq P w K mg base T.C) (F : Df K "dot" "dot" (top 38) f) (c1 : Ca P w K mg base 5 "total_of" (S_total_of T.C)) : Me P w K mg base 6 f (S_dot T.C) := by
  refine me2 (k := 5) F sc38 (fun _ _ _ _ _ _ us hl => match us, hl with | [_, _], _ => rfl) (by decide) fun near far h B cdv A outer s H E hr _ => ?_
  obtain ⟨k1, k2⟩ := kept_sum h.sum (prods near far).length (Nat.le_refl _)
  rw [List.take_length] at k2
  have hl : (prods near far).length = min near.length far.length := prods_len _ _
  refine sv_retE (r := oQ T.C) (pv_call1 c1 hr (p1 := fun z => z = (List.range (min near.length far.length)).filterMap (keptF near far)) (pvS ?_) fun d hd => ⟨by subst hd; rw [← hl]; exact k1, fun z hz => by subst hd; rw [hz, ← hl, k2]; rfl⟩) rfl rfl rfl rfl
  refine PV.to (pv_lcIf (own := [("one", 2), ("other", 3)]) (r2 := oQ T.C) (keptF near far) rfl sc38.nd (piv_zip (pv_var (i := 0) (r := oL (oQ T.C)) (d := near) rfl) (pv_var (i := 1) (r := oL (oQ T.C)) (d := far) rfl) T.b_zip) (blkOk_by (N := ["near", "far", "one", "other"]) (sc := defScope (top 38)) (by decide +kernel)) (fun _ _ _ _ _ => pg_tup rfl (pgs_cons (pg_name (i := 2) sc38.nd rfl (Or.inl rfl)) (pgs_cons (pg_name (i := 3) sc38.nd rfl (Or.inl rfl)) pgs_nil))) tg_pair (free2 rfl rfl) (by have := h.l1; omega) (fun i hi d hd _ _ _ _ _ => ?_) fun i hi d hd y hy _ _ _ _ _ => ?_) rfl
  · refine PVT.to (pt_neI (pv_sign R (hr.mono (by decide)) (pv_var (i := 2) (r := oQ T.C) (d := d.1) rfl)) pv_int) ?_
    unfold keptF
    rw [getD_of hd.1]
    by_cases z : sg d.1 = 0
    · simp [z]
    · simp [z]
  · unfold keptF at hy
    rw [getD_of hd.1, getD_of hd.2] at hy
    by_cases z : sg d.1 = 0
    · rw [if_pos z] at hy; cases hy
    · rw [if_neg z] at hy
      exact PV.to (pv_mulQ R (hr.mono (by decide)) (pv_var (i := 2) (r := oQ T.C) (d := d.1) rfl) (pvN (pv_var (i := 3) (r := oQ T.C) (d := d.2) rfl)) (h.f1 _ (mem_at hd.1)) (h.f2 _ (mem_at hd.2))) (Option.some.inj hy)
theorem m_table_led (T : Tx K mg) (F : Df K "table_led" "table_led" (top 40) f) (c1 : Ca P w K mg base 6 "dot_tables" (S_dot T.C)) : Me P w K mg base 7 f (S_led T.C) := by
  refine me2 (k := 6) F sc40 (fun _ _ _ _ _ _ us hl => match us, hl with | [_, _], _ => rfl) (by decide) fun rows row ⟨hlen, h⟩ B cdv A outer s H E hr _ => ?_
  refine sv_retE (r := oL (oQ T.C)) ?_ rfl rfl rfl rfl
  refine PV.to (pv_lc (own := [("one", 2)]) (rows.map fun r => dotM r row) rfl sc40.nd (piv_seq (pvS (pv_var (i := 0) (r := oL (oL (oQ T.C))) (d := rows) rfl))) (blkOk_by (N := ["rows", "row", "one"]) (sc := defScope (top 40)) (by decide +kernel)) (fun _ _ _ _ _ => pg_name (i := 2) sc40.nd rfl (Or.inl rfl)) tg_name (free1 rfl) (by rw [List.length_map]) hlen fun i hi d hd y hy _ _ _ _ _ => ?_) rfl
  rw [List.getElem?_map, hd] at hy
  exact pv_call2 c1 hr (p1 := fun z => z = d) (p2 := fun z => z = row) (pv_var (i := 2) (r := oL (oQ T.C)) (d := d) rfl) (pv_var (i := 1) (r := oL (oQ T.C)) (d := row) rfl) fun x y hx hy' => ⟨by subst hx hy'; exact h _ (mem_at hd), fun z hz => by subst hx hy'; rw [hz]; exact Option.some.inj hy⟩
theorem trM_len (m : Nat) (rows : Mq) : (trM m rows).length = m := by unfold trM; rw [List.length_map, List.length_range]
theorem m_product_of (T : Tx K mg) (F : Df K "product_of" "product_of" (top 41) f) (c1 : Ca P w K mg base 1 "turned_of" (S_turned T.C)) (c2 : Ca P w K mg base 6 "dot_tables" (S_dot T.C)) : Me P w K mg base 7 f (S_prod T.C) := by
  refine me2 (k := 6) F sc41 (fun _ _ _ _ _ _ us hl => match us, hl with | [_, _], _ => rfl) (by decide) fun near far h B cdv A outer s H E hr _ => ?_
  obtain ⟨m, hm, hw⟩ := h.wide
  have hr0 : 0 < far.length := List.length_pos_iff.mpr h.ne
  have m0 : (far.getD 0 []).length = m := hw _ (mem_at (getD_at hr0))
  have hdots := h.dots
  rw [m0] at hdots
  refine sv_setD (i := 2) (r := oL (oL (oQ T.C))) (d := trM m far) (pv_call1 c1 (hr.mono (by decide)) (p1 := fun z => z = far) (pv_var (i := 1) (r := oL (oL (oQ T.C))) (d := far) rfl) fun d hd => ⟨by subst hd; exact ⟨h.ne, h.l2, m, hm, hw⟩, fun z hz => by subst hd; rw [hz, m0]⟩) ?_ sc41.nd
  refine sv_retE (r := oL (oL (oQ T.C))) ?_ rfl rfl rfl rfl
  refine PV.to (pv_lc (own := [("row", 3)]) (near.map fun r => (trM m far).map fun c => dotM r c) rfl sc41.nd (piv_seq (pvS (pv_var (i := 0) (r := oL (oL (oQ T.C))) (d := near) rfl))) (blkOk_by (N := ["near", "far", "columns", "row", "column"]) (sc := defScope (top 41)) (by decide +kernel)) (fun _ _ _ _ _ => pg_name (i := 3) sc41.nd rfl (Or.inr rfl)) tg_name (free1 rfl) (by rw [List.length_map]) h.l1 fun i hi d hd y hy _ _ _ _ _ => ?_) (by unfold prodM; rw [m0])
  rw [List.getElem?_map, hd] at hy
  refine PV.to (pv_lc (own := [("column", 4)]) ((trM m far).map fun c => dotM d c) rfl sc41.nd (piv_seq (pvS (pv_var (i := 2) (r := oL (oL (oQ T.C))) (d := trM m far) rfl))) (blkOk_by (N := ["near", "far", "columns", "row", "column"]) (by rfl)) (fun _ _ _ _ _ => pg_name (i := 4) sc41.nd rfl (Or.inl rfl)) tg_name (free1 rfl) (by rw [List.length_map]) (by rw [trM_len]; exact hm) fun j hj c hc y hy _ _ _ _ _ => ?_) (Option.some.inj hy)
  rw [List.getElem?_map, hc] at hy
  exact pv_call2 c2 hr (p1 := fun z => z = d) (p2 := fun z => z = c) (pv_var (i := 3) (r := oL (oQ T.C)) (d := d) rfl) (pv_var (i := 4) (r := oL (oQ T.C)) (d := c) rfl) fun x y hx hy' => ⟨by subst hx hy'; exact hdots _ (mem_at hd) _ (mem_at hc), fun z hz => by subst hx hy'; rw [hz]; exact Option.some.inj hy⟩
theorem m_unit_of (T : Tx K mg) (R : Rm P w K mg base T.C fi) (F : Df K "unit_of" "unit_of" (top 42) f) : Me P w K mg base 4 f (S_unit T.C) := by
  refine me1 (k := 3) F sc42 (fun _ _ _ _ _ _ us hl => match us, hl with | [_], _ => rfl) (by decide) fun p ⟨n, hp, hn⟩ B cdv A outer s H E hr _ => ?_
  subst hp
  refine sv_retE (r := oL (oL (oQ T.C))) ?_ rfl rfl rfl rfl
  refine PV.to (pv_lc (own := [("at", 1)]) (unitM n) rfl sc42.nd (piv_range n (pv_var (i := 0) (r := oI) (d := (n : Int)) rfl) rfl (by omega) T.b_range) (blkOk_by (N := ["size", "at", "place"]) (sc := defScope (top 42)) (by decide +kernel)) (fun _ _ _ _ _ => pg_name (i := 1) sc42.nd rfl (Or.inr rfl)) tg_name (free1 rfl) (by unfold unitM; rw [List.length_map, List.length_range]) hn fun i hi d hd y hy _ _ _ _ _ => ?_) (by rw [Int.toNat_natCast])
  subst hd
  unfold unitM at hy
  rw [List.getElem?_map, List.getElem?_range hi] at hy
  refine PV.to (pv_lc (own := [("place", 2)]) ((List.range n).map fun j => if i = j then 1 else 0) rfl sc42.nd (piv_range n (pv_var (i := 0) (r := oI) (d := (n : Int)) rfl) rfl (by omega) T.b_range) (blkOk_by (N := ["size", "at", "place"]) (by rfl)) (fun _ _ _ _ _ => pg_name (i := 2) sc42.nd rfl (Or.inl rfl)) tg_name (free1 rfl) (by rw [List.length_map, List.length_range]) hn fun j hj c hc y hy _ _ _ _ _ => ?_) (Option.some.inj hy)
  subst hc
  rw [List.getElem?_map, List.getElem?_range hj] at hy
  refine PV.to (pv_mk1 R hr (pv_intB (pv_eqI (pv_var (i := 1) (r := oI) (d := (i : Int)) rfl) (pv_var (i := 2) (r := oI) (d := (j : Int)) rfl)) T.b_int)) ?_
  rw [← Option.some.inj hy]
  by_cases z : i = j
  · subst z; simp
  · have z2 : ¬ ((i : Int) = (j : Int)) := by omega
    rw [decide_eq_false z2]
    show _ = if i = j then (1 : Rat) else 0
    rw [if_neg z]
    rfl
theorem m_worth_of (T : Tx K mg) (F : Df K "worth_of" "worth_of" (top 46) f) (c1 : Ca P w K mg base 7 "table_led" (S_led T.C)) (c2 : Ca P w K mg base 6 "dot_tables" (S_dot T.C)) : Me P w K mg base 8 f (S_worth T.C) := by
  refine me2 (k := 7) F sc46 (fun _ _ _ _ _ _ us hl => match us, hl with | [_, _], _ => rfl) (by decide) fun form row ⟨hlen, h1, h2⟩ B cdv A outer s H E hr _ => ?_
  exact sv_retE (r := oQ T.C) (pv_call2 c2 (hr.mono (by decide)) (p1 := fun z => z = row) (p2 := fun z => z = form.map fun r => dotM r row) (pv_var (i := 1) (r := oL (oQ T.C)) (d := row) rfl) (pv_call2 c1 hr (p1 := fun z => z = form) (p2 := fun z => z = row) (pv_var (i := 0) (r := oL (oL (oQ T.C))) (d := form) rfl) (pv_var (i := 1) (r := oL (oQ T.C)) (d := row) rfl) fun x y hx hy => ⟨by subst hx hy; exact ⟨hlen, h1⟩, fun z hz => by subst hx hy; exact hz⟩) fun x y hx hy => ⟨by subst hx hy; exact h2, fun z hz => by subst hx hy; exact hz⟩) rfl rfl rfl rfl
end
end Wk

end
section
set_option Elab.async false
set_option linter.all false
set_option maxRecDepth 100000
set_option maxHeartbeats 2000000
set_option exponentiation.threshold 100000
/-! the inverse. -/
namespace Wk
open PySem PySem.Spec PyProof.Rows L2 Ru RZ Rp
open Hd (top)
theorem grow_ext {m : Option Addr} {B H H' : Hp} (e : Ext B H) (x : Ext H H') : Grow m B H B H' := ⟨fun a o _ h => x a o h, Ext.rfl', e.trans x, fun _ _ h => .inl h, fun a h => ext_none x h, fun a _ ⟨y, z, h1, h2, q⟩ => ⟨y, z, h1, h2, x a _ q⟩⟩
section
variable {X : Cx} {Φ : Fm} {e a b : Expr} {pos p : Pos} {α : Type} {r : Rep α}
theorem pt_neNil (hr : Room 1 X.A) (ha : PD X Φ a (oL r) []) : PDT X Φ (.Compare a [.NotEq] [.List [] p] pos) false :=
  pvt_of (pt_cmpR (op_neL mon_flat eqG_flat hr) pe_sem (pe_lst pa_nil) (nomark _)) (et_test (p := fun x => x = false) fun σ B H hs Q k => ha.ev σ B H hs _ fun v d B1 H1 g rr hd => by
    subst hd
    obtain ⟨l, xs, h1, h2, h3, _⟩ := rr
    cases h3
    refine ⟨Nat.zero_le _, fun l2 hn => ⟨⟨l, l2, [], [], h1, rfl, ?_, upd_same, Prs.nil⟩, fun H' x => ?_⟩⟩
    · exact Ext.upd hn _ _ (g.bh _ _ h2)
    · exact k _ false B1 H' ((g.trans (.lay g.bh hn)).trans (grow_ext (g.bh.trans (Ext.upd hn)) x)) rfl rfl)
end
theorem augM_len (rows : Mq) : (augM rows).length = rows.length := by unfold augM unitM; rw [List.length_zipWith, List.length_map, List.length_range, Nat.min_self]
theorem unit_row {n i : Nat} {r : List Rat} (h : (unitM n)[i]? = some r) : r.length = n := by
  unfold unitM at h
  rw [List.getElem?_map] at h
  cases q : (List.range n)[i]? with
  | none => rw [q] at h; cases h
  | some j => rw [q] at h; rw [← Option.some.inj h]; simp
theorem stM_ne {rows : Mi} {m : Nat} (h : StOk rows m) : True := trivial
section
variable {P : Program} {w : World} {K : PySem.W.Frag} {mg : Str → Option Value} {base : Heap} {f fi : Addr} {k : Nat}
theorem toldM_len (r : List Int) : (toldM r).length = r.length := by unfold toldM; rw [List.length_map]
theorem m_inverse_of (T : Tx K mg) (F : Df K "inverse_of" "inverse_of" (top 43) f) (c1 : Ca P w K mg base 2 "ints_of" (S_ints T.C)) (c2 : Ca P w K mg base 4 "unit_of" (S_unit T.C)) (c3 : Ca P w K mg base 4 "int_steps" S_steps) (c4 : Ca P w K mg base 4 "told_rows" (S_toldrows T.C)) : Me P w K mg base 5 f (S_inv T.C) := by
  refine me1 (k := 4) F sc43 (fun _ _ _ _ _ _ us hl => match us, hl with | [_], _ => rfl) (by decide) fun rows h B cdv A outer s H E hr _ => ?_
  have hs4 := h.small
  refine sv_setD (i := 1) (r := oI) (d := (rows.length : Int)) (pv_len (pvS (pv_var (i := 0) (r := oL (oL (oQ T.C))) (d := rows) rfl)) T.b_len) ?_ sc43.nd
  refine sv_setD (i := 2) (r := oL (oL oI)) (d := solvedM rows) (pv_call1 c3 hr (p1 := fun z => z = (augM rows).map whI) (pv_call1 c1 (hr.mono (by decide)) (p1 := fun z => z = augM rows) (PV.to (pv_lc (own := [("row", 3), ("unit", 4)]) (augM rows) rfl sc43.nd (piv_zip (pv_var (i := 0) (r := oL (oL (oQ T.C))) (d := rows) rfl) (pv_call1 c2 hr (p1 := fun z => z = (rows.length : Int)) (Pq := fun z => z = unitM rows.length) (pv_var (i := 1) (r := oI) (d := (rows.length : Int)) rfl) fun d hd => ⟨by subst hd; exact ⟨rows.length, rfl, by omega⟩, fun z hz => by subst hd; rw [hz, Int.toNat_natCast]⟩) T.b_zip) (blkOk_by (N := ["rows", "size", "solved", "row", "unit", "place"]) (sc := defScope (top 43)) (by decide +kernel)) (fun _ _ _ _ _ => pg_tup rfl (pgs_cons (pg_name (i := 3) sc43.nd rfl (Or.inl rfl)) (pgs_cons (pg_name (i := 4) sc43.nd rfl (Or.inl rfl)) pgs_nil))) tg_pair (free2 rfl rfl) (by rw [augM_len]; unfold unitM; rw [List.length_map, List.length_range, Nat.min_self]) (by omega) fun i hi d hd y hy _ _ _ _ _ => ?_) rfl) fun d hd => ⟨by subst hd; exact ⟨by rw [augM_len]; omega, h.wh⟩, fun z hz => by subst hd; exact hz⟩) fun d hd => ⟨by subst hd; exact ⟨_, h.st⟩, fun z hz => by subst hd; exact hz _ h.st⟩) ?_ sc43.nd
  · unfold augM at hy
    rw [List.getElem?_zipWith, hd.1, hd.2] at hy
    refine PV.to (pv_cat (pv_var (i := 3) (r := oL (oQ T.C)) (d := d.1) rfl) (pv_var (i := 4) (r := oL (oQ T.C)) (d := d.2) rfl) ?_) (Option.some.inj hy)
    have := h.sq d.1 (mem_at hd.1)
    have := unit_row hd.2
    omega
  · refine sv_ifret (q := false) (pt_neNil (r := oI) (hr.mono (by decide)) (PV.to (pv_lcIf (own := [("place", 5)]) (r2 := oI) (fun _ => none) rfl sc43.nd (piv_range rows.length (pv_var (i := 1) (r := oI) (d := (rows.length : Int)) rfl) rfl (by omega) T.b_range) (blkOk_by (N := ["rows", "size", "solved", "row", "unit", "place"]) (sc := defScope (top 43)) (by decide +kernel)) (fun _ _ _ _ _ => pg_name (i := 5) sc43.nd rfl (Or.inl rfl)) tg_name (free1 rfl) (by omega) (fun i hi d hd _ _ _ _ _ => ?_) fun i hi d hd y hy _ _ _ _ _ => nomatch hy) (by simp))) (fun z => nomatch z) fun _ => ?_
    · subst hd
      have hi2 : i < (solvedM rows).length := by rw [h.len]; exact hi
      have hm := mem_at (getD_at (d := []) hi2)
      have hl := (h.told _ hm).2.1
      refine PVT.to (pt_eqI (pv_ix i (pvS (pv_ix i (pvS (pv_var (i := 2) (r := oL (oL oI)) (d := solvedM rows) rfl)) (pv_var (i := 5) (r := oI) (d := (i : Int)) rfl) rfl (getD_at (d := []) hi2))) (pv_var (i := 5) (r := oI) (d := (i : Int)) rfl) rfl (getD_at (d := 0) (by rw [hl]; omega))) pv_int) ?_
      rw [decide_eq_false (h.diag i hi)]
      rfl
    · refine sv_retE (r := oL (oL (oQ T.C))) ?_ rfl rfl rfl rfl
      refine PV.to (pv_lc (own := [("row", 3)]) (invM rows) rfl sc43.nd (piv_seq (pvS (pv_call1 c4 hr (p1 := fun z => z = solvedM rows) (Pq := fun z => z = (solvedM rows).map toldM) (pv_var (i := 2) (r := oL (oL oI)) (d := solvedM rows) rfl) fun d hd => ⟨by subst hd; exact ⟨by rw [h.len]; omega, fun r hr => by obtain ⟨a, b, c⟩ := h.told r hr; exact ⟨a, by omega, c⟩⟩, fun z hz => by subst hd; exact hz⟩))) (blkOk_by (N := ["rows", "size", "solved", "row", "unit", "place"]) (sc := defScope (top 43)) (by decide +kernel)) (fun _ _ _ _ _ => pg_name (i := 3) sc43.nd rfl (Or.inl rfl)) tg_name (free1 rfl) (by unfold invM; rw [List.length_map, List.length_map]) (by rw [List.length_map, h.len]; omega) fun i hi d hd y hy _ _ _ _ _ => ?_) rfl
      rw [List.getElem?_map] at hd
      cases q : (solvedM rows)[i]? with
      | none => rw [q] at hd; cases hd
      | some r =>
        rw [q] at hd
        unfold invM at hy
        rw [List.getElem?_map, q] at hy
        have ed : toldM r = d := Option.some.inj hd
        subst ed
        have hl := (h.told r (mem_at q)).2.1
        exact PV.to (pv_cutFrom (lo := none) rows.length (pv_var (i := 3) (r := oL (oQ T.C)) (d := toldM r) rfl) (pv_var (i := 1) (r := oI) (d := (rows.length : Int)) rfl) rfl (by rw [toldM_len, hl]; omega)) (Option.some.inj hy)
end
end Wk

end
section
set_option Elab.async false
set_option linter.all false
set_option maxRecDepth 100000
set_option maxHeartbeats 2000000
set_option exponentiation.threshold 100000
/-! Known, Walk: instances made. -/
namespace Wk
open PySem PySem.Spec PyProof.Rows L2 Ru RZ Rp
open Hd (top)
/-- own classes beside Ratio -/
structure Oc (K : PySem.W.Frag) (mg : Str → Option Value) (x : Str) (C f : Addr) : Prop where
  mgc : mg x = some (.ref C)
  cls : Cls K C
  mk_ : Mk K C f
  tx1 : PySem.W.findIn K (.ref C) "__class__" = some (some (.builtin "object.__class__"))
  tx4 : PySem.W.mroIn K C (.type "object") = some true
  self_ : PySem.W.kitOne K (.ref C) (.ref C) = some true
/-- a new instance's __init__: Ar what is given, Fl what the fields are behind it -/
def S_inst {δ : Type} (C : Addr) (Ar : Hp → List V → δ → Prop) (Fl : δ → Hp → Hp → Hp → List (Str × V) → Prop) : Sp := fun vs H Q _ => ∃ a dx B d vs', vs = .ref a :: vs' ∧ Ext B H ∧ B a = none ∧ H a = some (.ins C dx []) ∧ Ar B vs' d ∧
  ∀ B' H' fs, Grow (some a) B H B' H' → H' a = some (.ins C dx fs) → B' a = none → Fl d H B' H' fs → Q .non H'
theorem grow_inst {m : Option Addr} {B1 H1 B' H' : Hp} {C x dx : Addr} {fs : List (Str × V)} (hx : H1 x = none) (hd : H1 dx = none) (hne : dx ≠ x) (xb : Ext B1 H1) (g : Grow (some x) B1 (upd (upd H1 dx (.own x)) x (.ins C dx [])) B' H') (hf : H' x = some (.ins C dx fs)) : Grow m B1 H1 (upd B' x (.ins C dx fs)) H' := by
  have h1 : Ext H1 (upd (upd H1 dx (.own x)) x (.ins C dx [])) := (Ext.upd hd).trans (Ext.upd (by rw [upd_ne hne.symm]; exact hx))
  have hh : ∀ a u, H1 a = some u → H' a = some u := fun a u h => by
    have na : a ≠ x := fun z => by subst z; rw [hx] at h; cases h
    exact g.hh a u (fun z => na (Option.some.inj z).symm) (h1 a u h)
  refine ⟨fun a u _ h => hh a u h, fun a u h => ?_, fun a u h => ?_, fun a u h => ?_, fun a h => ext_none hh h, fun a _ ⟨y, z, h1, h2, q⟩ => ⟨y, z, h1, h2, hh a _ q⟩⟩
  · have na : a ≠ x := fun z => by subst z; have := xb _ _ h; rw [hx] at this; cases this
    rw [upd_ne na]
    exact g.bb a u h
  · by_cases z : a = x
    · subst z; rw [upd_same] at h; rw [← h]; exact hf
    · rw [upd_ne z] at h; exact g.bh a u h
  · by_cases z : a = x
    · subst z; exact .inr hx
    · rw [upd_ne z] at h
      rcases g.new a u h with q | q
      · exact .inl q
      · exact .inr (ext_none h1 q)
/-- C(..): Fl as it stands behind the making -/
theorem ev_inst {δ : Type} {Φ : Fm} {C : Addr} {ta : TA} {Ar : Hp → List V → δ → Prop} {Fl : δ → Hp → Hp → Hp → List (Str × V) → Prop} {d : δ} (ha : EvA ta Φ (fun B vs => Ar B vs d)) {σ : L2.St} {B H : Hp} (hs : Stt Φ σ B H) (Q : VK)
    (k : ∀ a dx fs B1 H1 B' H', Grow Φ.m B H B1 H1 → H1 a = none → B' a = none → (∀ b, H1 b = none → b ≠ a → b ≠ dx → (upd (upd H1 dx (.own a)) a (.ins C dx [])) b = none) → (∀ b, (upd (upd H1 dx (.own a)) a (.ins C dx [])) b = none → H1 b = none) → Grow Φ.m B H (upd B' a (.ins C dx fs)) H' → Ext B' (upd B' a (.ins C dx fs)) → Fl d (upd (upd H1 dx (.own a)) a (.ins C dx [])) B' H' fs → Q (.ref a) H') :
    StX.tMakeR C (S_inst C Ar Fl) E0 ta σ H Q := ha σ B H hs _ fun vs B1 H1 g q x dx hx hd hne => by
  have h1 : Ext H1 (upd (upd H1 dx (.own x)) x (.ins C dx [])) := (Ext.upd hd).trans (Ext.upd (by rw [upd_ne hne.symm]; exact hx))
  refine ⟨x, dx, B1, d, vs, rfl, g.bh.trans h1, ext_none g.bh hx, upd_same, q, fun B' H' fs g2 hf hB hfl => ⟨rfl, ?_⟩⟩
  refine k x dx fs B1 H1 B' H' g hx hB (fun b hb n1 n2 => by rw [upd_ne n1, upd_ne n2]; exact hb) (fun b hb => ext_none h1 hb) (g.trans (grow_inst hx hd hne g.bh g2 hf)) (Ext.upd hB) hfl
section
variable {X : Cx} {Φ : Fm} {e a b : Expr} {pos p : Pos} {α : Type} {r : Rep α} {P : α → Prop} {D : Ends} {rest : List Stmt}
/-- self.f = e, self being made at a -/
theorem sv_fldI {C dx : Addr} {fs : List (Str × V)} {s0 : Addr} {fl : Str} {ps : Pos} {apos : Pos} (he : PV X Φ e r P) (hm : Φ.m = none) (hkn : ∀ (i : Nat) (s : Sl), Φ.Γ[i]? = some (some s) → s.ad = none) (h0 : Φ.H0 s0 = some (.ins C dx fs)) (hb : Φ.B0 s0 = none)
    (hself : Φ.Γ[0]? = some (some (.kn oV (.ref s0)))) (hcls : Cls X.K C) (hna : NoAttr X.K C fl) (hfs : fs.length < 1000)
    (k : ∀ d, P d → ∀ v B H, Grow none Φ.B0 Φ.H0 B H → r.r B v d → B s0 = none → SV X ⟨Φ.Γ, none, B, upd H s0 (.ins C dx (putF fl v fs)), B⟩ D rest)
    (hN : X.N[0]? = some ("self" : Str) := by rfl) (hv : Vis X.env.scope "self" := by first | exact .inl rfl | exact .inr (.inl rfl)) (hs : swapsWith e (some (.Attribute (.Name "self" ps) fl apos)) pos.line X.env = pure false := by rfl) : SV X Φ D (.Assign [.Attribute (.Name "self" ps) fl apos] e pos :: rest) :=
  sv_step (ps_fld (pe_var hN hv) pe_sem hs) fun σ B H hst => he.ev σ B H hst _ fun v d B1 H1 g rr pd => by
    have h1 := hst.grow g
    obtain ⟨x0, y0, v0, y1, y2⟩ := h1.at_ 0 _ hself
    have ev0 : v0 = .ref s0 := y2
    subst y1 ev0
    have gg : Grow none Φ.B0 Φ.H0 B1 H1 := by have := h1.g; rw [hm] at this; exact this
    have ha : H1 s0 = some (.ins C dx fs) := gg.ext _ _ h0
    have hB1 : B1 s0 = none := by
      cases q : B1 s0 with
      | none => rfl
      | some o =>
        rcases gg.new _ _ q with w | w
        · rw [hb] at w; cases w
        · rw [h0] at w; cases w
    refine ⟨_, y0, s0, C, dx, fs, rfl, ha, hcls, hna, hfs, ?_⟩
    refine k d pd v B1 H1 gg rr hB1 σ B1 _ ⟨h1.len, fun i s hi => ?_, (fun i j s t p hi hj es et => by rw [hkn i s hi] at es; cases es), .refl ?_, Ext.rfl', fun _ z => nomatch z⟩
    · obtain ⟨x, z1, z2⟩ := h1.at_ i s hi
      refine ⟨x, z1, ?_⟩
      cases s with
      | kn e d => exact z2
      | ow p e ds => cases hkn i _ hi
    · exact fun c o hc => by
        have hc' : B1 c = some o := hc
        have nc : c ≠ s0 := fun z => by rw [z, hB1] at hc'; cases hc'
        show upd H1 s0 _ c = some o
        rw [upd_ne nc]
        exact h1.bh c o hc'
end
/-- a store into the instance that is being made -/
theorem grow_fld {B0 H0 B H : Hp} {a C dx C2 dx2 : Addr} {fs fs2 : List (Str × V)} (g : Grow (some a) B0 H0 B H) (h0 : H0 a = some (.ins C dx fs)) (hB : B a = none) : Grow (some a) B0 H0 B (upd H a (.ins C2 dx2 fs2)) :=
  ⟨fun b o z h => by rw [upd_ne (fun q => z (by rw [q]))]; exact g.hh b o z h, g.bb, fun b o h => by
    have nb : b ≠ a := fun z => by subst z; rw [hB] at h; cases h
    rw [upd_ne nb]
    exact g.bh b o h, g.new, fun b h => g.al b (upd_al h), fun b z ⟨x, y, _, _, q⟩ => by
    have : b = a := (Option.some.inj z).symm
    subst this
    rw [h0] at q
    cases q⟩
theorem grow_one {B0 H0 B H : Hp} {a C dx : Addr} {fs : List (Str × V)} (g : Grow none B0 H0 B H) (h0 : H0 a = some (.ins C dx fs)) : Grow (some a) B0 H0 B H :=
  ⟨fun b o _ h => g.ext b o h, g.bb, g.bh, g.new, g.al, fun b z ⟨x, y, _, _, q⟩ => by
    have : b = a := (Option.some.inj z).symm
    subst this
    rw [h0] at q
    cases q⟩
abbrev Wd := Mq × List Rat
/-- a Known -/
def oKn (CK C : Addr) : Rep Wd := ⟨fun H v d => ∃ a dx v1 v2, v = .ref a ∧ H a = some (.ins CK dx [("own_rows", v1), ("own_shares", v2)]) ∧ (oT (oT (oQ C))).r H v1 d.1 ∧ (oT (oQ C)).r H v2 d.2,
  fun x ⟨a, dx, v1, v2, h1, h2, h3, h4⟩ => ⟨a, dx, v1, v2, h1, x _ _ h2, (oT (oT (oQ _))).mono x h3, (oT (oQ _)).mono x h4⟩⟩
/-- a Walk, kept its list of what is kept -/
def oWk (CW C : Addr) : Rep (Wd × Addr) := ⟨fun H v d => ∃ a dx v1 v2, v = .ref a ∧ H a = some (.ins CW dx [("own_rows", v1), ("own_shares", v2), ("own_kept", .ref d.2)]) ∧ (oT (oT (oQ C))).r H v1 d.1.1 ∧ (oT (oQ C)).r H v2 d.1.2,
  fun x ⟨a, dx, v1, v2, h1, h2, h3, h4⟩ => ⟨a, dx, v1, v2, h1, x _ _ h2, (oT (oT (oQ _))).mono x h3, (oT (oQ _)).mono x h4⟩⟩
def S_kninit (CK C : Addr) : Sp := S_inst (δ := Wd) CK (fun B vs d => ∃ v1 v2, vs = [v1, v2] ∧ (oL (oL (oQ C))).r B v1 d.1 ∧ (oL (oQ C)).r B v2 d.2 ∧ d.1.length ≤ 900)
  (fun d H B' H' fs => ∃ v1 v2, fs = ([("own_rows", v1), ("own_shares", v2)] : List (Str × V)) ∧ (oT (oT (oQ C))).r B' v1 d.1 ∧ (oT (oQ C)).r B' v2 d.2)
def S_wkinit (CW CK C : Addr) : Sp := S_inst (δ := Wd) CW (fun B vs d => ∃ v1 v2, vs = [v1, v2] ∧ (oKn CK C).r B v1 d)
  (fun d H B' H' fs => ∃ v1 v2 kp, fs = ([("own_rows", v1), ("own_shares", v2), ("own_kept", .ref kp)] : List (Str × V)) ∧ (oT (oT (oQ C))).r B' v1 d.1 ∧ (oT (oQ C)).r B' v2 d.2 ∧ H' kp = some (.lst []) ∧ B' kp = none ∧ H kp = none)
section
variable {P : Program} {w : World} {K : PySem.W.Frag} {mg : Str → Option Value} {base : Heap} {f fi CK CW fK fW : Addr} {k : Nat}
abbrev sKn : Stmt := inClass (top 58) 0
abbrev sWk : Stmt := inClass (top 60) 0
theorem scKn : FnScope ["self", "rows", "shares", "row"] ["self", "rows", "shares"] (defScope sKn) := ⟨rfl, rfl, rfl, by decide +kernel, rfl, by decide +kernel, by decide +kernel⟩
theorem scWk : FnScope ["self", "rows", "shares", "known"] ["self", "rows", "shares"] (defScope sWk) := ⟨rfl, rfl, rfl, by decide +kernel, rfl, by decide +kernel, by decide +kernel⟩
theorem kn3 {s1 s2 s3 : Sl} (h1 : s1.ad = none) (h2 : s2.ad = none) (h3 : s3.ad = none) : ∀ (i : Nat) (s : Sl), ([some s1, some s2, some s3, none] : List (Option Sl))[i]? = some (some s) → s.ad = none := fun i s hi => by
  match i, hi with
  | 0, hi => cases hi; exact h1
  | 1, hi => cases hi; exact h2
  | 2, hi => cases hi; exact h3
  | 3, hi => cases hi
  | i + 4, hi => cases hi
theorem m_knInit (T : Tx K mg) (n1 : NoAttr K CK "own_rows") (n2 : NoAttr K CK "own_shares") (hc : Cls K CK) (F : Df K "__init__" "Known.__init__" sKn f) : Me P w K mg base 1 f (S_kninit CK T.C) := by
  refine me_of (ps := ["self", "rows", "shares"]) F scKn (fun _ _ _ _ _ _ us hl => match us, hl with | [_, _, _], _ => rfl) (fun vs H Q E ⟨a, dx, B, d, vs', h, _, _, _, ⟨v1, v2, h2, _⟩, _⟩ => by subst h h2; rfl) fun cdv A outer s H vs Q E hr ⟨a, dx, B, d, vs', h, hx, hB, ha, ⟨v1, v2, hv, h1, h2, h3⟩, kk⟩ => ?_
  subst h hv
  let Γ : List (Option Sl) := [some (.kn oV (.ref a)), some (.kn (oL (oL (oQ T.C))) d.1), some (.kn (oL (oQ T.C)) d.2), none]
  have go : SV (xof P w K mg base ["self", "rows", "shares", "row"] "Known.__init__" sKn f cdv A outer s H E) ⟨[some (.kn oV (.ref a)), some (.kn (oL (oL (oQ T.C))) d.1), some (.kn (oL (oQ T.C)) d.2), none], none, B, H, B⟩ { nx := fun _ H' => Q .non H', rt := Q } (defBody sKn) := by
    refine sv_fldI (r := oT (oT (oQ T.C))) (P := fun z => z = d.1) (pv_tupleOf (pvS (PV.to (pv_lc (own := [("row", 3)]) (r2 := oT (oQ T.C)) d.1 rfl scKn.nd (piv_seq (pvS (pv_var (i := 1) (r := oL (oL (oQ T.C))) (d := d.1) rfl))) (blkOk_by (N := ["self", "rows", "shares", "row"]) (sc := defScope sKn) (by decide +kernel)) (fun _ _ _ _ _ => pg_name (i := 3) scKn.nd rfl (Or.inl rfl)) tg_name (free1 rfl) rfl h3 fun i hi y hy z hz _ _ _ _ _ => ?_) rfl)) T.b_tuple) rfl (kn3 rfl rfl rfl) ha hB rfl hc n1 (by decide) fun z hz u1 B1 H1 g1 r1 hB1 => ?_
    · rw [hy] at hz
      exact PV.to (pv_tupleOf (pvS (pv_var (i := 3) (r := oL (oQ T.C)) (d := y) rfl)) T.b_tuple) (Option.some.inj hz)
    · subst hz
      refine sv_fldI (r := oT (oQ T.C)) (P := fun z => z = d.2) (fs := [("own_rows", u1)]) (pv_tupleOf (pvS (pv_var (i := 2) (r := oL (oQ T.C)) (d := d.2) rfl)) T.b_tuple) rfl (kn3 rfl rfl rfl) upd_same hB1 rfl hc n2 (by show 1 < 1000; decide) fun z2 hz2 u2 B2 H2 g2 r2 hB2 => ?_
      subst hz2
      refine sv_nil fun σ B3 H3 hs3 => ?_
      have hg3 : Grow none B2 (upd H2 a (.ins CK dx [("own_rows", u1), ("own_shares", u2)])) B3 H3 := hs3.g
      have e3 : H3 a = some (.ins CK dx [("own_rows", u1), ("own_shares", u2)]) := hg3.ext _ _ upd_same
      have hB3 : B3 a = none := by
        cases q : B3 a with
        | none => rfl
        | some o =>
          rcases hg3.new _ _ q with w | w
          · rw [hB2] at w; cases w
          · rw [upd_same] at w; cases w
      have k1 : Grow (some a) B H B1 (upd H1 a (.ins CK dx [("own_rows", u1)])) := grow_fld (grow_one g1 ha) ha hB1
      have k2 : Grow (some a) B H B2 (upd H2 a (.ins CK dx [("own_rows", u1), ("own_shares", u2)])) := grow_fld (k1.trans (grow_one g2 upd_same)) ha hB2
      have k3 : Grow (some a) B H B3 H3 := k2.trans (grow_one hg3 upd_same)
      exact kk B3 H3 _ k3 e3 hB3 ⟨u1, u2, rfl, (oT (oT (oQ _))).mono (g2.bb.trans hg3.bb) r1, (oT (oQ _)).mono hg3.bb r2⟩
  exact go _ B H (stt_start (N := ["self", "rows", "shares", "row"]) (vs := [.ref a, v1, v2]) (m := none) (Γ0 := [some (.kn oV (.ref a)), some (.kn (oL (oL (oQ T.C))) d.1), some (.kn (oL (oQ T.C)) d.2)]) hx (fun a z => nomatch z) rfl (Nat.le_of_ble_eq_true rfl) fun i s' hi => by
    match i, hi with
    | 0, hi => cases hi; exact ⟨_, rfl, rfl, _, rfl, rfl⟩
    | 1, hi => cases hi; exact ⟨_, rfl, rfl, _, rfl, h1⟩
    | 2, hi => cases hi; exact ⟨_, rfl, rfl, _, rfl, h2⟩)
/-- a field of a Known -/
theorem pv_knRows {X : Cx} {Φ : Fm} {e : Expr} {pos : Pos} {C : Addr} {d : Wd} (n1 : NoAttr X.K CK "own_rows") (hc : Cls X.K CK) (he : PD X Φ e (oKn CK C) d) (hb : attributeBase e "own_rows" X.env (eval e X.env) = eval e X.env := by rfl) : PD X Φ (.Attribute e "own_rows" pos) (oT (oT (oQ C))) d.1 :=
  pv_of (pe_fld pe_sem hb) fun σ B H hs Q k => he.ev σ B H hs _ fun v d' B1 H1 g rr hd => by
    subst hd
    obtain ⟨a, dx, v1, v2, h1, h2, h3, h4⟩ := rr
    exact ⟨a, CK, dx, _, v1, h1, g.bh _ _ h2, hc, n1, rfl, k _ _ B1 H1 g h3 rfl⟩
theorem pv_knShares {X : Cx} {Φ : Fm} {e : Expr} {pos : Pos} {C : Addr} {d : Wd} (n1 : NoAttr X.K CK "own_shares") (hc : Cls X.K CK) (he : PD X Φ e (oKn CK C) d) (hb : attributeBase e "own_shares" X.env (eval e X.env) = eval e X.env := by rfl) : PD X Φ (.Attribute e "own_shares" pos) (oT (oQ C)) d.2 :=
  pv_of (pe_fld pe_sem hb) fun σ B H hs Q k => he.ev σ B H hs _ fun v d' B1 H1 g rr hd => by
    subst hd
    obtain ⟨a, dx, v1, v2, h1, h2, h3, h4⟩ := rr
    exact ⟨a, CK, dx, _, v2, h1, g.bh _ _ h2, hc, n1, rfl, k _ _ B1 H1 g h4 rfl⟩
theorem kn4 {s1 s2 s3 s4 : Sl} (h1 : s1.ad = none) (h2 : s2.ad = none) (h3 : s3.ad = none) (h4 : s4.ad = none) : ∀ (i : Nat) (s : Sl), ([some s1, some s2, some s3, some s4] : List (Option Sl))[i]? = some (some s) → s.ad = none := fun i s hi => by
  match i, hi with
  | 0, hi => cases hi; exact h1
  | 1, hi => cases hi; exact h2
  | 2, hi => cases hi; exact h3
  | 3, hi => cases hi; exact h4
  | i + 4, hi => cases hi
theorem m_wkInit (T : Tx K mg) (O : Oc K mg "Known" CK fK) (n1 : NoAttr K CK "own_rows") (n2 : NoAttr K CK "own_shares") (w1 : NoAttr K CW "own_rows") (w2 : NoAttr K CW "own_shares") (w3 : NoAttr K CW "own_kept") (hc : Cls K CW) (F : Df K "__init__" "Walk.__init__" sWk f) : Me P w K mg base 1 f (S_wkinit CW CK T.C) := by
  refine me_of (ps := ["self", "rows", "shares"]) F scWk (fun _ _ _ _ _ _ us hl => match us, hl with | [_, _, _], _ => rfl) (fun vs H Q E ⟨a, dx, B, d, vs', h, _, _, _, ⟨v1, v2, h2, _⟩, _⟩ => by subst h h2; rfl) fun cdv A outer s H vs Q E hr ⟨a, dx, B, d, vs', h, hx, hB, ha, ⟨v1, v2, hv, h1⟩, kk⟩ => ?_
  subst h hv
  have go : SV (xof P w K mg base ["self", "rows", "shares", "known"] "Walk.__init__" sWk f cdv A outer s H E) ⟨[some (.kn oV (.ref a)), some (.kn (oKn CK T.C) d), some (.kn oV v2), none], none, B, H, B⟩ { nx := fun _ H' => Q .non H', rt := Q } (defBody sWk) := by
    refine sv_setD (i := 3) (r := oKn CK T.C) (d := d) (pv_if (q := true) (pt_val1 (pv_isi (pe_clname O.mgc) (.own CK) (pv_var (i := 1) (r := oKn CK T.C) (d := d) rfl) (fun B H v d x r1 _ => ?_) T.b_isinstance)) (fun _ => pv_var (i := 1) (r := oKn CK T.C) (d := d) rfl) fun z => nomatch z) ?_ scWk.nd
    · obtain ⟨a2, dx2, u1, u2, e1, e2, _, _⟩ := r1
      rw [e1]
      exact ⟨_, .base (.ins (x _ _ e2) O.cls O.tx1 T.tx2 T.tx3 O.tx4), O.self_⟩
    refine sv_fldI (r := oT (oT (oQ T.C))) (P := fun z => z = d.1) (pv_knRows n1 O.cls (pv_var (i := 3) (r := oKn CK T.C) (d := d) rfl)) rfl (kn4 rfl rfl rfl rfl) ha hB rfl hc w1 (by decide) fun z hz u1 B1 H1 g1 r1 hB1 => ?_
    subst hz
    refine sv_fldI (r := oT (oQ T.C)) (P := fun z => z = d.2) (fs := [("own_rows", u1)]) (pv_knShares n2 O.cls (pv_var (i := 3) (r := oKn CK T.C) (d := d) rfl)) rfl (kn4 rfl rfl rfl rfl) upd_same hB1 rfl hc w2 (by show 1 < 1000; decide) fun z2 hz2 u2 B2 H2 g2 r2 hB2 => ?_
    subst hz2
    refine sv_one (ps_fld (pe_var (i := 0) rfl (.inl rfl)) (pe_lst pa_nil) rfl) fun σ B3 H3 hs3 => ⟨Nat.zero_le _, fun kp hkp => ?_⟩
    have hg3 : Grow none B2 (upd H2 a (.ins CW dx [("own_rows", u1), ("own_shares", u2)])) B3 H3 := hs3.g
    have e3 : H3 a = some (.ins CW dx [("own_rows", u1), ("own_shares", u2)]) := hg3.ext _ _ upd_same
    have hB3 : B3 a = none := by
      cases q : B3 a with
      | none => rfl
      | some o =>
        rcases hg3.new _ _ q with w | w
        · rw [hB2] at w; cases w
        · rw [upd_same] at w; cases w
    have nk : a ≠ kp := fun z => by subst z; rw [hkp] at e3; cases e3
    obtain ⟨x0, y0, v0, y1, y2⟩ := hs3.at_ 0 (.kn oV (.ref a)) rfl
    have ev0 : v0 = .ref a := y2
    subst y1 ev0
    have e4 : upd H3 kp (.lst []) a = some (.ins CW dx [("own_rows", u1), ("own_shares", u2)]) := by rw [upd_ne nk]; exact e3
    refine ⟨_, y0, a, CW, dx, _, rfl, e4, hc, w3, by show 2 < 1000; decide, ?_⟩
    have k1 : Grow (some a) B H B1 (upd H1 a (.ins CW dx [("own_rows", u1)])) := grow_fld (grow_one g1 ha) ha hB1
    have k2 : Grow (some a) B H B2 (upd H2 a (.ins CW dx [("own_rows", u1), ("own_shares", u2)])) := grow_fld (k1.trans (grow_one g2 upd_same)) ha hB2
    have k3 : Grow (some a) B H B3 H3 := k2.trans (grow_one hg3 upd_same)
    have k4 : Grow (some a) B H B3 (upd H3 kp (.lst [])) := k3.trans (.lay k3.bh hkp)
    have k5 : Grow (some a) B H B3 (upd (upd H3 kp (.lst [])) a (.ins CW dx [("own_rows", u1), ("own_shares", u2), ("own_kept", .ref kp)])) := grow_fld k4 ha hB3
    exact kk B3 _ _ k5 upd_same hB3 ⟨u1, u2, kp, rfl, (oT (oT (oQ _))).mono (g2.bb.trans hg3.bb) r1, (oT (oQ _)).mono hg3.bb r2, by rw [upd_ne nk.symm, upd_same], ext_none k3.bh hkp, k3.al _ hkp⟩
  exact go _ B H (stt_start (N := ["self", "rows", "shares", "known"]) (vs := [.ref a, v1, v2]) (m := none) (Γ0 := [some (.kn oV (.ref a)), some (.kn (oKn CK T.C) d), some (.kn oV v2)]) hx (fun a z => nomatch z) rfl (Nat.le_of_ble_eq_true rfl) fun i s' hi => by
    match i, hi with
    | 0, hi => cases hi; exact ⟨_, rfl, rfl, _, rfl, rfl⟩
    | 1, hi => cases hi; exact ⟨_, rfl, rfl, _, rfl, h1⟩
    | 2, hi => cases hi; exact ⟨_, rfl, rfl, _, rfl, rfl⟩)
end
end Wk

end
section
set_option Elab.async false
set_option linter.all false
set_option maxRecDepth 100000
set_option maxHeartbeats 2000000
set_option exponentiation.threshold 100000
/-! walks: making, wanting. -/
namespace Wk
open PySem PySem.Spec PyProof.Rows L2 Ru RZ Rp
open Hd (top)
/-- a walk comes, its list of what is kept new and empty -/
def WkQ (CW C : Addr) (d : Wd) (H : Hp) (B' H' : Hp) (u : V) (kp : Addr) : Prop := (oWk CW C).r B' u (d, kp) ∧ H' kp = some (.lst []) ∧ B' kp = none ∧ H kp = none
def EvW (te : TE) (Φ : Fm) (CW C : Addr) (d : Wd) : Prop := ∀ σ B H, Stt Φ σ B H → ∀ Q : VK, (∀ u kp B2 H2, Grow Φ.m B H B2 H2 → WkQ CW C d H B2 H2 u kp → Q u H2) → te σ H Q
def PVW (X : Cx) (Φ : Fm) (CW C : Addr) (e : Expr) (d : Wd) : Prop := EvW (semE X e) Φ CW C d
def spW1 {α : Type} (CW C : Addr) (r1 : Rep α) (P1 : α → Prop) (g : α → Wd) : Sp := fun vs H Q _ => ∃ v d B, vs = [v] ∧ Ext B H ∧ r1.r B v d ∧ P1 d ∧ ∀ u kp B' H', Grow none B H B' H' → WkQ CW C (g d) H B' H' u kp → Q u H'
def spW2 {α β : Type} (CW C : Addr) (r1 : Rep α) (r2 : Rep β) (P1 : α → β → Prop) (g : α → β → Wd) : Sp := fun vs H Q _ => ∃ v d v' d' B, vs = [v, v'] ∧ Ext B H ∧ r1.r B v d ∧ r2.r B v' d' ∧ P1 d d' ∧ ∀ u kp B' H', Grow none B H B' H' → WkQ CW C (g d d') H B' H' u kp → Q u H'
theorem WkQ.back {CW C : Addr} {d : Wd} {m : Option Addr} {B H B1 H1 B' H' : Hp} {u : V} {kp : Addr} (g : Grow m B H B1 H1) (q : WkQ CW C d H1 B' H' u kp) : WkQ CW C d H B' H' u kp := ⟨q.1, q.2.1, q.2.2.1, g.al _ q.2.2.2⟩
section
variable {X : Cx} {Φ : Fm} {e a b : Expr} {pos p : Pos} {CW C CK : Addr} {d : Wd} {α β : Type} {r : Rep α} {r2 : Rep β} {x : Str} {k : Nat}
theorem pvw_of {te : TE} (h : PE X e te) (k : EvW te Φ CW C d) : PVW X Φ CW C e d := fun σ B H hs Q q pins s I => h.run pins s σ H Q I (k σ B H hs Q q)
theorem pvw_call1 {Q1 : α → Prop} {p1 : α → Prop} {g : α → Wd} (c : Ca X.prog X.w X.K X.mg X.base k x (spW1 CW C r Q1 g)) (hr : Room k X.A) (ha : PV X Φ a r p1) (hp : ∀ d', p1 d' → Q1 d' ∧ g d' = d) (hg : Gl X x := by rfl) (hdb : (x == ("__debug__" : Str)) = false := by decide)
    (he : starEach [a] X.env = (false, eval a X.env) :: starEach [] X.env := by rfl) (hpl : (backTo pos (starEach [] X.env)).any (·.1) = false := by rfl) : PVW X Φ CW C (.Call (.Name x p) [a] [] pos) d :=
  pvw_of (pe_ca c hr (pa_cons pe_sem pa_nil he) hg hdb he hpl) fun σ B H hs Q kk => ha.ev σ B H hs _ fun v d' B1 H1 gr rr q => ⟨v, d', B1, rfl, gr.bh, rr, (hp d' q).1, fun u kp B' H' g' w => kk u kp B' H' (gr.trans g'.any) (by rw [(hp d' q).2] at w; exact w.back gr)⟩
theorem pvw_call2 {Q1 : α → β → Prop} {p1 : α → Prop} {p2 : β → Prop} {g : α → β → Wd} (c : Ca X.prog X.w X.K X.mg X.base k x (spW2 CW C r r2 Q1 g)) (hr : Room k X.A) (ha : PV X Φ a r p1) (hb : PV X Φ b r2 p2) (hp : ∀ d' d2, p1 d' → p2 d2 → Q1 d' d2 ∧ g d' d2 = d) (hg : Gl X x := by rfl) (hdb : (x == ("__debug__" : Str)) = false := by decide)
    (he : starEach [a, b] X.env = (false, eval a X.env) :: starEach [b] X.env := by rfl) (he2 : starEach [b] X.env = (false, eval b X.env) :: starEach [] X.env := by rfl) (hpl : (backTo pos (starEach [b] X.env)).any (·.1) = false := by rfl) : PVW X Φ CW C (.Call (.Name x p) [a, b] [] pos) d :=
  pvw_of (pe_ca c hr (pa_cons pe_sem (pa_cons pe_sem pa_nil he2) he) hg hdb he hpl) fun σ B H hs Q kk => ev2 ha.ev hb.ev hs fun v d' w d2 B1 H1 gr q pp q' pp' => ⟨v, d', w, d2, B1, rfl, gr.bh, q, q', (hp d' d2 pp pp').1, fun u kp B' H' g' w => kk u kp B' H' (gr.trans g'.any) (by rw [(hp d' d2 pp pp').2] at w; exact w.back gr)⟩
end
/-- return of a walk -/
def endW (CW C : Addr) (B0 H0 : Hp) (d : Wd) : Ends := { nx := fun _ _ => False, rt := fun v H' => ∃ kp B', Grow none B0 H0 B' H' ∧ WkQ CW C d H0 B' H' v kp }
section
variable {X : Cx} {Φ : Fm} {e : Expr} {pos : Pos} {CW C : Addr} {d : Wd} {D : Ends}
theorem sv_retW {B0 H0 : Hp} (he : PVW X Φ CW C e d) (hm : Φ.m = none) (hB : Φ.B0 = B0) (hH : Φ.H0 = H0) (hD : D.rt = (endW CW C B0 H0 d).rt) : SV X Φ D [.Return (some e) pos] := by
  subst hB hH
  refine sv_one (ps_ret pe_sem) fun σ B H hst => ?_
  show semE X e σ H D.rt
  rw [hD]
  refine he σ B H hst _ fun u kp B2 H2 g w => ?_
  have g0 := hst.g
  rw [hm] at g0 g
  exact ⟨kp, B2, g0.trans g, w.back g0⟩
end
section
variable {P : Program} {w : World} {K : PySem.W.Frag} {mg : Str → Option Value} {base : Heap} {f fi CK CW fK fW : Addr} {k : Nat}
abbrev S_walk_made (CW C : Addr) : Sp := spW2 CW C (oL (oL (oQ C))) (oL (oQ C)) (fun rows _ => rows.length ≤ 900) (fun rows shares => (rows, shares))
theorem sc61 : FnScope ["rows", "shares"] ["rows", "shares"] (defScope (top 61)) := ⟨rfl, rfl, rfl, by decide +kernel, rfl, by decide +kernel, by decide +kernel⟩
theorem m_walk_made (T : Tx K mg) (O : Oc K mg "Known" CK fK) (OW : Oc K mg "Walk" CW fW) (i1 : FnR P w K mg base CX0 1 fK (S_kninit CK T.C)) (i2 : FnR P w K mg base CX0 1 fW (S_wkinit CW CK T.C)) (F : Df K "walk_made" "walk_made" (top 61) f) : Me P w K mg base 3 f (S_walk_made CW T.C) := by
  refine me_of (k := 2) (ps := ["rows", "shares"]) F sc61 (fun _ _ _ _ _ _ us hl => match us, hl with | [_, _], _ => rfl) (fun vs H Q E ⟨v, d, v', d', B, h, _⟩ => by subst h; rfl) fun cdv A outer s H vs Q E hr ⟨v1, d1, v2, d2, B, h, hx, h1, h2, hl, kk⟩ => ?_
  subst h
  let X := xof P w K mg base ["rows", "shares"] "walk_made" (top 61) f cdv A outer s H E
  have kn : ∀ {a b : Expr} {p pos : Pos} {Φ : Fm} (ha : PD X Φ a (oL (oL (oQ T.C))) d1) (hb : PD X Φ b (oL (oQ T.C)) d2) (he : starEach [a, b] X.env = (false, eval a X.env) :: starEach [b] X.env) (he2 : starEach [b] X.env = (false, eval b X.env) :: starEach [] X.env) (hpl : (backTo pos (starEach [b] X.env)).any (·.1) = false), PD X Φ (.Call (.Name "Known" p) [a, b] [] pos) (oKn CK T.C) (d1, d2) := fun {a b p pos Φ} ha hb he he2 hpl => by
    refine pv_of (pe_mk O.mk_ i1 hr O.mgc pa_sem rfl (by decide) he hpl) fun σ B H hs Q q => ?_
    refine ev_inst (Ar := fun B vs d => ∃ v1 v2, vs = [v1, v2] ∧ (oL (oL (oQ T.C))).r B v1 d.1 ∧ (oL (oQ T.C)).r B v2 d.2 ∧ d.1.length ≤ 900) (d := (d1, d2)) (fun σ B H hs Q q => pva_2 ha hb he he2 σ B H hs Q fun vs B2 H2 g ⟨u1, e1, vs', h1, h2, h3, u2, e2, vs2, h4, h5, h6, h7⟩ => q vs B2 H2 g ⟨u1, u2, by rw [h1, h4, h7], by rw [h3] at h2; exact h2, by rw [h6] at h5; exact h5, hl⟩) hs _ fun a dx fs B1 H1 B' H' g hn hB' _ _ gg xb hfl => ?_
    obtain ⟨u1, u2, hf, r1, r2⟩ := hfl
    subst hf
    exact q _ (d1, d2) _ H' gg ⟨a, dx, u1, u2, rfl, upd_same, (oT (oT (oQ _))).mono xb r1, (oT (oQ _)).mono xb r2⟩ rfl
  have go : SV X ⟨[some (.kn (oL (oL (oQ T.C))) d1), some (.kn (oL (oQ T.C)) d2)], none, B, H, B⟩ { nx := fun _ H' => False, rt := (endW CW T.C B H (d1, d2)).rt } (defBody (top 61)) := by
    refine sv_retW (CW := CW) (C := T.C) (d := (d1, d2)) (B0 := B) (H0 := H) ?_ rfl rfl rfl rfl
    refine pvw_of (pe_mk OW.mk_ i2 hr OW.mgc pa_sem) fun σ B H hs Q q => ?_
    refine ev_inst (Ar := fun B vs d => ∃ v1 v2, vs = [v1, v2] ∧ (oKn CK T.C).r B v1 d) (d := (d1, d2)) (fun σ B H hs Q q => pva_2 (r := oKn CK T.C) (P := fun z => z = (d1, d2)) (kn (pv_var (i := 0) (r := oL (oL (oQ T.C))) (d := d1) rfl) (pv_var (i := 1) (r := oL (oQ T.C)) (d := d2) rfl) rfl rfl rfl) (pv_var (i := 1) (r := oL (oQ T.C)) (d := d2) rfl) rfl rfl σ B H hs Q fun vs B2 H2 g ⟨u1, e1, vs', h1, h2, h3, u2, e2, vs2, h4, h5, h6, h7⟩ => q vs B2 H2 g ⟨u1, u2, by rw [h1, h4, h7], by rw [h3] at h2; exact h2⟩) hs _ fun a dx fs B1 H1 B' H' g hn hB' _ hback gg xb hfl => ?_
    obtain ⟨u1, u2, kp, hf, r1, r2, k1, k2, k3⟩ := hfl
    subst hf
    have nk : kp ≠ a := fun z => by subst z; rw [upd_same] at k3; cases k3
    exact q _ kp _ H' gg ⟨⟨a, dx, u1, u2, rfl, upd_same, (oT (oT (oQ _))).mono xb r1, (oT (oQ _)).mono xb r2⟩, k1, by rw [upd_ne nk]; exact k2, g.al _ (hback _ k3)⟩
  exact semS_mono (go _ B H (stt_start (N := ["rows", "shares"]) (vs := [v1, v2]) (m := none) (Γ0 := [some (.kn (oL (oL (oQ T.C))) d1), some (.kn (oL (oQ T.C)) d2)]) hx (fun a z => nomatch z) rfl (Nat.le_of_ble_eq_true rfl) fun i s' hi => by
    match i, hi with
    | 0, hi => cases hi; exact ⟨_, rfl, rfl, _, rfl, h1⟩
    | 1, hi => cases hi; exact ⟨_, rfl, rfl, _, rfl, h2⟩)) (fun _ _ z => z.elim) (fun v' H' ⟨kp, B', g, wq⟩ => kk v' kp B' H' g wq)
end
end Wk

end
section
set_option Elab.async false
set_option linter.all false
set_option maxRecDepth 100000
set_option maxHeartbeats 2000000
set_option exponentiation.threshold 100000
/-! walks: wanting; what is come to. -/
namespace Wk
open PySem PySem.Spec PyProof.Rows L2 Ru RZ Rp
open Hd (top)
section
variable {X : Cx} {Φ : Fm} {e a b : Expr} {pos p pos' : Pos} {CW C : Addr} {α : Type} {r : Rep α} {D : Ends} {rest : List Stmt}
theorem pv_wkRows {d : Wd × Addr} (n1 : NoAttr X.K CW "own_rows") (hc : Cls X.K CW) (he : PD X Φ e (oWk CW C) d) (hb : attributeBase e "own_rows" X.env (eval e X.env) = eval e X.env := by rfl) : PD X Φ (.Attribute e "own_rows" pos) (oT (oT (oQ C))) d.1.1 :=
  pv_of (pe_fld pe_sem hb) fun σ B H hs Q k => he.ev σ B H hs _ fun v d' B1 H1 g rr hd => by
    subst hd
    obtain ⟨a, dx, v1, v2, h1, h2, h3, h4⟩ := rr
    exact ⟨a, CW, dx, _, v1, h1, g.bh _ _ h2, hc, n1, rfl, k _ _ B1 H1 g h3 rfl⟩
theorem pv_wkShares {d : Wd × Addr} (n1 : NoAttr X.K CW "own_shares") (hc : Cls X.K CW) (he : PD X Φ e (oWk CW C) d) (hb : attributeBase e "own_shares" X.env (eval e X.env) = eval e X.env := by rfl) : PD X Φ (.Attribute e "own_shares" pos) (oT (oQ C)) d.1.2 :=
  pv_of (pe_fld pe_sem hb) fun σ B H hs Q k => he.ev σ B H hs _ fun v d' B1 H1 g rr hd => by
    subst hd
    obtain ⟨a, dx, v1, v2, h1, h2, h3, h4⟩ := rr
    exact ⟨a, CW, dx, _, v2, h1, g.bh _ _ h2, hc, n1, rfl, k _ _ B1 H1 g h4 rfl⟩
/-- own lists of ints -/
theorem dpAll_int {K : PySem.W.Frag} {H : Hp} : ∀ ds : List Int, DpAll K H (ds.map V.int) (ds.map PyData.int)
  | [] => .nil
  | d :: ds => .cons (.int d) (dpAll_int ds)
theorem pt_neNilO {i : Nat} {x : Str} {q : Addr} {ds : List Int} {px pl : Pos} (hr : Room 1 X.A) (h : Φ.Γ[i]? = some (some (.ow q oI ds))) (hN : X.N[i]? = some x := by rfl) (hv : Vis X.env.scope x := by first | exact .inl rfl | exact .inr (.inl rfl)) (hd : (x == ("__debug__" : Str)) = false := by decide) (hcd : (x == ("__classdict__" : Str)) = false := by decide) :
    PDT X Φ (.Compare (.Name x px) [.NotEq] [.List [] pl] pos) (!ds.isEmpty) :=
  pvt_of (pt_cmpR (op_neD hr.units) (pe_var hN hv hd hcd) (pe_lst pa_nil) (nomark _)) (et_test (p := fun z => z = !ds.isEmpty) fun σ B H hs Q k => by
    obtain ⟨h1, h2, h3, h4, xs, h5, h6⟩ := own_at hs h
    refine ⟨.ref q, h1, Nat.zero_le _, fun l hn => ⟨.list (ds.map PyData.int), .list [], .lst (SqL.of (Ext.upd hn _ _ h5)) ?_, .lst (SqL.of upd_same) .nil, PySem.W.ke_shaped_ints ds, PySem.W.ke_shaped_ints [], k _ _ B _ (.lay hs.bh hn) rfl ?_⟩⟩
    · rw [prd_int h6]; exact dpAll_int ds
    · cases ds with
      | nil => rfl
      | cons d ds => rfl)
theorem inV_int {i : Int} : ∀ {ds : List Int}, inV (.int i) (ds.map V.int) = ds.contains i
  | [] => rfl
  | d :: ds => by
    show (eqV (.int d) (.int i) || inV (.int i) (ds.map V.int)) = (d :: ds).contains i
    rw [inV_int]
    show ((d == i) || ds.contains i) = _
    rw [List.contains_cons, Bool.beq_comm]
theorem flat_int : ∀ ds : List Int, (ds.map V.int).all flatV = true
  | [] => rfl
  | d :: ds => by rw [List.map_cons, List.all_cons, flat_int ds]; rfl
/-- x not in own -/
theorem pt_notinO {i : Nat} {x : Str} {q : Addr} {ds : List Int} {n : Int} {px : Pos} (he : PD X Φ e oI n) (h : Φ.Γ[i]? = some (some (.ow q oI ds))) (hN : X.N[i]? = some x := by rfl) (hv : Vis X.env.scope x := by first | exact .inl rfl | exact .inr (.inl rfl)) (hd : (x == ("__debug__" : Str)) = false := by decide) (hcd : (x == ("__classdict__" : Str)) = false := by decide) (hm : behindInMarks .NotIn (.Name x px) = false := by rfl) :
    PDT X Φ (.Compare e [.NotIn] [.Name x px] pos) (!ds.contains n) :=
  pvt_of (pt_cmpR op_notIn_seq pe_sem (pe_var hN hv hd hcd) hm) (et_test (p := fun z => z = !ds.contains n) fun σ B H hs Q k => he.ev σ B H hs _ fun v d B1 H1 g rr hd => by
    subst hd
    rw [show v = V.int d from rr]
    obtain ⟨h1, h2, h3, h4, xs, h5, h6⟩ := own_at (hs.grow g) h
    refine ⟨.ref q, h1, q, xs, rfl, .inl (SqL.of h5), rfl, by rw [prd_int h6]; exact flat_int ds, k _ _ B1 H1 g rfl ?_⟩
    rw [prd_int h6, inV_int]
    rfl)
/-- x = own.pop() -/
theorem sv_pop {i j : Nat} {x y : Str} {q : Addr} {ds : List Int} {n : Int} {px apos py : Pos} (h : Φ.Γ[i]? = some (some (.ow q oI (ds ++ [n])))) (hij : i ≠ j) (hr : SV X ((Φ.put i (.ow q oI ds)).put j (.kn oI n)) D rest) (hNd : X.N.Nodup)
    (hN : X.N[i]? = some x := by rfl) (hv : Vis X.env.scope x := by first | exact .inl rfl | exact .inr (.inl rfl)) (hd : (x == ("__debug__" : Str)) = false := by decide) (hcd : (x == ("__classdict__" : Str)) = false := by decide)
    (hbase : attributeBase (.Name x px) "pop" X.env (eval (.Name x px) X.env) = eval (.Name x px) X.env := by rfl) (hline : (apos.endLine == p.line) = true := by rfl)
    (hj : X.N[j]? = some y := by rfl) (hy : L2.Loc X.env.scope y := by first | exact .inl rfl | exact .inr rfl) (hsw : swapsWith (.Call (.Attribute (.Name x px) "pop" apos) [] [] p) (some (.Name y py)) pos.line X.env = pure false := by rfl) (hf : X.fn y = true ∨ X.env.scope.names.lookup y = some .local := by first | exact .inl rfl | exact .inr rfl) :
    SV X Φ D (.Assign [.Name y py] (.Call (.Attribute (.Name x px) "pop" apos) [] [] p) pos :: rest) :=
  sv_step (ps_set hNd hj hy (pe_bm0 PySem.F.plainAttrs_list PySem.F.slot_list_pop PySem.F.type_list_pop mt_pop (pe_var hN hv hd hcd) hbase hline) hsw hf) fun σ B H hs => by
    obtain ⟨h1, h2, h3, h4, xs, h5, h6⟩ := own_at hs h
    have ex : xs = ds.map V.int ++ [V.int n] := by rw [prd_int h6, List.map_append]; rfl
    refine ⟨.ref q, h1, .inl ⟨rfl, xs, SqL.of h5⟩, q, xs, .int n, rfl, rfl, h5, ?_, ?_⟩
    · rw [ex, List.length_append, List.length_singleton, Nat.add_sub_cancel, List.getElem?_append_right (Nat.le_refl _), Nat.sub_self]; rfl
    · have ed : xs.dropLast = ds.map V.int := by rw [ex, List.dropLast_concat]
      rw [ed]
      exact hr _ B _ ((hs.chg h (ds' := ds) int_prd (by rw [List.length_append] at h4; omega)).put (v := .int n) (e := oI) (d := n) rfl)
/-- x, y = [e], [e2]: both own -/
theorem sv_parO {i j : Nat} {x y : Str} {px py pt : Pos} {kt k2 : Nat} {pt2 p1 p2 : Pos} {n n' : Int} (ha : PD X Φ a oI n) (hb : PD X Φ b oI n') (hij : i ≠ j) (hil : i < Φ.Γ.length) (hr : ∀ q q', SV X ((Φ.put i (.ow q oI [n])).put j (.ow q' oI [n'])) D rest) (hN : X.N.Nodup)
    (hi : X.N[i]? = some x := by rfl) (hj : X.N[j]? = some y := by rfl) (hx : X.env.scope.names.lookup x = some .local := by rfl) (hy : X.env.scope.names.lookup y = some .local := by rfl) (hc : X.calm = true := by rfl)
    (hw : swappedStores [.Tuple [.Name x px, .Name y py] kt pt] (.Tuple [.List [a] p1, .List [b] p2] k2 pt2) X.env = pure (some [x, y]) := by rfl)
    (hs : swapsWithSole [.Tuple [.Name x px, .Name y py] kt pt] (.Tuple [.List [a] p1, .List [b] p2] k2 pt2) pos.line X.env = pure false := by rfl)
    (he : starEach [.List [a] p1, .List [b] p2] X.env = (false, eval (.List [a] p1) X.env) :: starEach [.List [b] p2] X.env := by rfl) (he2 : starEach [.List [b] p2] X.env = (false, eval (.List [b] p2) X.env) :: starEach [] X.env := by rfl) (ea : starEach [a] X.env = (false, eval a X.env) :: starEach [] X.env := by rfl) (eb : starEach [b] X.env = (false, eval b X.env) :: starEach [] X.env := by rfl) :
    SV X Φ D (.Assign [.Tuple [.Name x px, .Name y py] kt pt] (.Tuple [.List [a] p1, .List [b] p2] k2 pt2) pos :: rest) :=
  sv_step (ps_par hc hN hi hj hij hx hy (pa_cons (pe_lst (pa_cons pe_sem pa_nil ea)) (pa_cons (pe_lst (pa_cons pe_sem pa_nil eb)) pa_nil he2) he) hw hs) fun σ B H hst => ha.ev σ B H hst _ fun v d1 B1 H1 g rr hd => by
    subst hd
    refine ⟨by show 1 ≤ sizeLine; decide, fun l hl => ?_⟩
    have s1 := hst.grow g
    have s2 := s1.putO (i := i) (e := oI) (ds := [d1]) hl (.cons rr .nil) (Nat.le_of_ble_eq_true rfl)
    have ss : Stt Φ σ B1 (upd H1 l (.lst [v])) := s1.grow (.lay g.bh hl)
    refine hb.ev σ B1 _ ss _ fun w d2 B2 H2 g2 rr2 hd2 => ?_
    subst hd2
    refine ⟨by show 1 ≤ sizeLine; decide, fun l2 hl2 => ⟨.ref l, .ref l2, rfl, ?_⟩⟩
    exact hr l l2 _ B2 _ ((s2.grow g2).putO (i := j) (e := oI) (ds := [d2]) hl2 (.cons rr2 .nil) (Nat.le_of_ble_eq_true rfl))
end
section
variable {P : Program} {w : World} {K : PySem.W.Frag} {mg : Str → Option Value} {base : Heap} {f fi CK CW fK fW : Addr} {k : Nat}
abbrev S_want_walk (CW C : Addr) : Sp := sp1 (oWk CW C) (oWk CW C) (fun _ => True) (fun d z => z = d)
abbrev S_arenum (C : Addr) : Sp := sp2 oI (oS (oN C)) oB (fun i ds => i = (ds.length : Int) ∧ ds.length ≤ 900) (fun _ _ z => z = true)
abbrev S_toldnum (C : Addr) : Sp := sp1 (oS (oN C)) (oT (oQ C)) (fun ds => ds.length ≤ 900) (fun ds z => z = ds)
abbrev S_wantf (CW C : Addr) : Sp := sp2 (oWk CW C) (oS (oN C)) (oL (oQ C)) (fun d ds => d.1.1.length = ds.length ∧ ds.length ≤ 900) (fun _ ds z => z = ds)
theorem sc50 : FnScope ["many", "value", "number"] ["many", "value"] (defScope (top 50)) := ⟨rfl, rfl, rfl, by decide +kernel, rfl, by decide +kernel, by decide +kernel⟩
theorem sc51 : FnScope ["value", "number"] ["value"] (defScope (top 51)) := ⟨rfl, rfl, rfl, by decide +kernel, rfl, by decide +kernel, by decide +kernel⟩
theorem sc62 : FnScope ["value"] ["value"] (defScope (top 62)) := ⟨rfl, rfl, rfl, by decide +kernel, rfl, by decide +kernel, by decide +kernel⟩
theorem sc64 : FnScope ["walk", "value"] ["walk", "value"] (defScope (top 64)) := ⟨rfl, rfl, rfl, by decide +kernel, rfl, by decide +kernel, by decide +kernel⟩
theorem m_want_walk (T : Tx K mg) (O : Oc K mg "Walk" CW fW) (F : Df K "want_walk" "want_walk" (top 62) f) : Me P w K mg base 1 f (S_want_walk CW T.C) := by
  refine me1 (k := 0) F sc62 (fun _ _ _ _ _ _ us hl => match us, hl with | [_], _ => rfl) (by decide) fun d _ B cdv A outer s H E hr _ => ?_
  refine sv_ifret (q := false) (PVT.to (pt_notI (q := true) (pt_val1 (pv_isi (pe_clname O.mgc) (.own CW) (pv_var (i := 0) (r := oWk CW T.C) (d := d) rfl) (fun B H v d x r1 _ => ?_) T.b_isinstance))) rfl) (fun h => nomatch h) fun _ => sv_retE (r := oWk CW T.C) (pv_var (i := 0) (r := oWk CW T.C) (d := d) rfl) rfl rfl rfl rfl
  obtain ⟨a2, dx2, u1, u2, e1, e2, _, _⟩ := r1
  rw [e1]
  exact ⟨_, .base (.ins (x _ _ e2) O.cls O.tx1 T.tx2 T.tx3 O.tx4), O.self_⟩
theorem m_are_numbers (T : Tx K mg) (F : Df K "are_numbers" "are_numbers" (top 50) f) (c1 : Ca P w K mg base 1 "is_list" S_islist) (c2 : Ca P w K mg base 2 "is_number" (S_is_number T.C)) : Me P w K mg base 3 f (S_arenum T.C) := by
  refine me2 (k := 2) F sc50 (fun _ _ _ _ _ _ us hl => match us, hl with | [_, _], _ => rfl) (by decide) fun i ds ⟨hi, hlen⟩ B cdv A outer s H E hr _ => ?_
  subst hi
  refine sv_retE (r := oB) (PV.to (pv_and3 (p := true) (q := decide ((ds.length : Int) = (ds.length : Int))) (s := (ds.map fun _ => true).all id) (pv_call1 c1 (hr.mono (by decide)) (pvV (pv_var (i := 1) (r := oS (oN T.C)) (d := ds) rfl)) fun d hd => ⟨trivial, fun z hz => hz⟩) (fun _ => pv_eqI (pv_len (pv_var (i := 1) (r := oS (oN T.C)) (d := ds) rfl) T.b_len) (pv_var (i := 0) (r := oI) (d := (ds.length : Int)) rfl)) fun _ _ => pv_all rfl (PV.to (pv_lc (own := [("number", 2)]) (r2 := oB) (ds.map fun _ => true) rfl sc50.nd (piv_seq (pv_var (i := 1) (r := oS (oN T.C)) (d := ds) rfl)) (blkOk_by (N := ["many", "value", "number"]) (sc := defScope (top 50)) (by decide +kernel)) (fun _ _ _ _ _ => pg_name (i := 2) sc50.nd rfl (Or.inl rfl)) tg_name (free1 rfl) (by rw [List.length_map]) hlen fun i hi d hd y hy _ _ _ _ _ => ?_) rfl) T.b_all) (by simp)) rfl rfl rfl rfl
  rw [List.getElem?_map, hd] at hy
  exact pv_call1 c2 hr (p1 := fun z => z = d) (pv_var (i := 2) (r := oN T.C) (d := d) rfl) fun d' hd' => ⟨trivial, fun z hz => by rw [hz]; exact Option.some.inj hy⟩
theorem m_told_numbers (T : Tx K mg) (F : Df K "told_numbers" "told_numbers" (top 51) f) (c1 : Ca P w K mg base 4 "ratio_of" (S_ratio_of T.C)) : Me P w K mg base 5 f (S_toldnum T.C) := by
  refine me1 (k := 4) F sc51 (fun _ _ _ _ _ _ us hl => match us, hl with | [_], _ => rfl) (by decide) fun ds hlen B cdv A outer s H E hr _ => ?_
  refine sv_retE (r := oT (oQ T.C)) (pv_tupleOf (pvS (PV.to (pv_lc (own := [("number", 1)]) (r2 := oQ T.C) ds rfl sc51.nd (piv_seq (pv_var (i := 0) (r := oS (oN T.C)) (d := ds) rfl)) (blkOk_by (N := ["value", "number"]) (sc := defScope (top 51)) (by decide +kernel)) (fun _ _ _ _ _ => pg_name (i := 1) sc51.nd rfl (Or.inl rfl)) tg_name (free1 rfl) rfl hlen fun i hi d hd y hy _ _ _ _ _ => ?_) rfl)) T.b_tuple) rfl rfl rfl rfl
  rw [hd] at hy
  exact pv_call1 c1 hr (p1 := fun z => z = d) (pv_var (i := 1) (r := oN T.C) (d := d) rfl) fun d' hd' => ⟨trivial, fun z hz => by rw [hz, hd']; exact Option.some.inj hy⟩
theorem m_want_function (T : Tx K mg) (O : Oc K mg "Walk" CW fW) (w1 : NoAttr K CW "own_rows") (F : Df K "want_function" "want_function" (top 64) f) (c1 : Ca P w K mg base 3 "are_numbers" (S_arenum T.C)) (c2 : Ca P w K mg base 5 "told_numbers" (S_toldnum T.C)) : Me P w K mg base 6 f (S_wantf CW T.C) := by
  refine me2 (k := 5) F sc64 (fun _ _ _ _ _ _ us hl => match us, hl with | [_, _], _ => rfl) (by decide) fun d ds ⟨hl, hlen⟩ B cdv A outer s H E hr _ => ?_
  refine sv_ifret (q := false) (PVT.to (pt_notI (q := true) (pt_val1 (pv_call2 c1 (hr.mono (by decide)) (p1 := fun z => z = (ds.length : Int)) (p2 := fun z => z = ds) (PV.to (pv_len (pvST (pv_wkRows w1 O.cls (pv_var (i := 0) (r := oWk CW T.C) (d := d) rfl))) T.b_len) (by rw [hl])) (pv_var (i := 1) (r := oS (oN T.C)) (d := ds) rfl) fun x y hx hy => ⟨by subst hx hy; exact ⟨rfl, hlen⟩, fun z hz => hz⟩))) rfl) (fun h => nomatch h) fun _ => ?_
  exact sv_retE (r := oL (oQ T.C)) (pv_listOf (pvST (pv_call1 c2 hr (p1 := fun z => z = ds) (Pq := fun z => z = ds) (pv_var (i := 1) (r := oS (oN T.C)) (d := ds) rfl) fun d hd => ⟨by subst hd; exact hlen, fun z hz => by subst hd; exact hz⟩)) T.b_list) rfl rfl rfl rfl
end
end Wk

end
section
set_option Elab.async false
set_option linter.all false
set_option maxRecDepth 100000
set_option maxHeartbeats 2000000
set_option exponentiation.threshold 100000
/-! walks: whole rows. -/
namespace Wk
open PySem PySem.Spec PyProof.Rows L2 Ru RZ Rp
open Hd (top)
/-- the places but p, of the first j -/
def oth (p j : Nat) : List Int := ((List.range j).filter fun i => i != p).map fun i => ((i : Nat) : Int)
theorem oth_succ (p j : Nat) : oth p (j + 1) = if j = p then oth p j else oth p j ++ [(j : Int)] := by
  unfold oth
  rw [List.range_succ, List.filter_append, List.map_append]
  by_cases h : j = p
  · rw [if_pos h]; simp [h]
  · rw [if_neg h]; simp [h]
theorem oth_mem {p j : Nat} {x : Int} : x ∈ oth p j ↔ ∃ i : Nat, x = i ∧ i < j ∧ i ≠ p := by
  unfold oth
  rw [List.mem_map]
  constructor
  · rintro ⟨i, hi, rfl⟩
    rw [List.mem_filter, List.mem_range] at hi
    exact ⟨i, rfl, hi.1, by simpa using hi.2⟩
  · rintro ⟨i, rfl, h1, h2⟩
    exact ⟨i, List.mem_filter.mpr ⟨List.mem_range.mpr h1, by simpa using h2⟩, rfl⟩
theorem oth_len {p : Nat} : ∀ j, (oth p j).length = if p < j then j - 1 else j
  | 0 => by simp [oth]
  | j + 1 => by
    rw [oth_succ]
    have ih := oth_len (p := p) j
    by_cases h : j = p
    · subst h
      rw [if_pos rfl, ih]
      rw [if_neg (Nat.lt_irrefl _), if_pos (Nat.lt_succ_self _)]
      rfl
    · rw [if_neg h, List.length_append, ih, List.length_singleton]
      by_cases h2 : p < j
      · rw [if_pos h2, if_pos (by omega)]; omega
      · rw [if_neg h2, if_neg (by omega)]
def AllPos (rows : Mq) (n : Nat) : Prop := rows.length = n ∧ n < 60 ∧ ∀ r ∈ rows, r.length = n ∧ ∀ q ∈ r, 0 < q
abbrev S_come (C : Addr) : Sp := sp2 (oT (oT (oQ C))) oI (oL oI) (fun rows p => ∃ n pl : Nat, p = pl ∧ pl < n ∧ AllPos rows n) (fun rows _ z => z.length = rows.length)
abbrev S_closed (C : Addr) : Sp := sp1 (oT (oT (oQ C))) oZ (fun rows => ∃ n, AllPos rows n) (fun _ _ => True)
abbrev S_arewhole (C : Addr) : Sp := sp1 (oT (oT (oQ C))) oB (fun rows => ∃ n, AllPos rows n) (fun _ z => z = true)
abbrev S_wantwhole (CW C : Addr) : Sp := sp1 (oWk CW C) oZ (fun d => ∃ n, AllPos d.1.1 n) (fun _ _ => True)
theorem sg_pos {q : Rat} (h : 0 < q) : 0 < sg q := by
  have : 0 < q.num := by
    rcases Int.lt_trichotomy 0 q.num with z | z | z
    · exact z
    · have := Rat.num_eq_zero.mp z.symm
      rw [this] at h
      exact absurd h (by decide)
    · have := Rat.num_nonneg.mpr (Rat.le_of_lt h)
      omega
  unfold sg
  rw [if_pos this, if_neg (by omega)]
  decide
section
variable {P : Program} {w : World} {K : PySem.W.Frag} {mg : Str → Option Value} {base : Heap} {f fi CK CW fK fW : Addr} {k : Nat}
theorem sc63 : FnScope ["walk"] ["walk"] (defScope (top 63)) := ⟨rfl, rfl, rfl, by decide +kernel, rfl, by decide +kernel, by decide +kernel⟩
theorem sc65 : FnScope ["rows", "place", "found", "left", "here", "further", "chance"] ["rows", "place"] (defScope (top 65)) := ⟨rfl, rfl, rfl, by decide +kernel, rfl, by decide +kernel, by decide +kernel⟩
theorem sc66 : FnScope ["rows", "place", "found"] ["rows"] (defScope (top 66)) := ⟨rfl, rfl, rfl, by decide +kernel, rfl, by decide +kernel, by decide +kernel⟩
theorem sc67 : FnScope ["rows"] ["rows"] (defScope (top 67)) := ⟨rfl, rfl, rfl, by decide +kernel, rfl, by decide +kernel, by decide +kernel⟩
/-- found, left at the turn i of the while -/
def fnd (p n : Nat) : Nat → List Int
  | 0 => [(p : Int)]
  | _ + 1 => (p : Int) :: oth p n
def lft (p n : Nat) : Nat → List Int
  | 0 => [(p : Int)]
  | i + 1 => (oth p n).take (n - (i + 1))
theorem m_come_to (T : Tx K mg) (R : Rq P w K mg base T.C) (F : Df K "come_to" "come_to" (top 65) f) : Me P w K mg base 3 f (S_come T.C) := by
  refine me2 (k := 2) F sc65 (fun _ _ _ _ _ _ us hl => match us, hl with | [_, _], _ => rfl) (by decide) fun rows p0 ⟨n, p, hp0, hpn, hlen, hn, hrow⟩ B cdv A outer s H E hr _ => ?_
  subst hp0
  have on : (oth p n).length = n - 1 := by rw [oth_len, if_pos hpn]
  refine sv_parO (i := 2) (j := 3) (n := (p : Int)) (n' := (p : Int)) (pv_var (i := 1) (r := oI) (d := (p : Int)) rfl) (pv_var (i := 1) (r := oI) (d := (p : Int)) rfl) (by decide) (Nat.le_of_ble_eq_true rfl) (fun q q' => ?_) sc65.nd
  let G : Nat → List (Option Sl) := fun i => [some (.kn (oT (oT (oQ T.C))) rows), some (.kn oI (p : Int)), some (.ow q oI (fnd p n i)), some (.ow q' oI (lft p n i)), none, none, none]
  have ln : ∀ i, 1 ≤ i → i ≤ n → (lft p n i).length = n - i := fun i h1 h2 => by
    match i, h1 with
    | i + 1, _ => show ((oth p n).take _).length = _; rw [List.length_take, on]; omega
  refine sv_while G (fun i => !(lft p n i).isEmpty) n (fun i hi => ?_) ?_ (Le.rf _) (fun i hi => pt_neNilO (i := 3) (q := q') (hr.mono (by decide)) rfl) (fun i hi => ?_) ?_
  · match i with
    | 0 => rfl
    | i + 1 =>
      have := ln (i + 1) (by omega) (by omega)
      cases h : lft p n (i + 1) with
      | nil => rw [h] at this; simp at this; omega
      | cons x y => rfl
  · match n, ln, hpn with
    | n + 1, ln, _ =>
      have := ln (n + 1) (by omega) (Nat.le_refl _)
      rw [Nat.sub_self] at this
      rw [List.length_eq_zero_iff.mp this]
      rfl
  · -- the row at here
    have mid : ∀ (L : List Int) (hv : Int) (hn' : ∃ h : Nat, hv = h ∧ h < n) (hL : lft p n i = L ++ [hv]) (Fd Lf : Nat → List Int) (f0 : Fd 0 = fnd p n i) (l0 : Lf 0 = L) (fe : Fd n = fnd p n (i + 1)) (le : Lf n = lft p n (i + 1)) (lens : ∀ j, j ≤ n → (Fd j).length < 900 ∧ (Lf j).length < 900)
        (step : ∀ j, j < n → ((Fd j).contains (j : Int) = true ∧ Fd (j + 1) = Fd j ∧ Lf (j + 1) = Lf j) ∨ ((Fd j).contains (j : Int) = false ∧ Fd (j + 1) = Fd j ++ [(j : Int)] ∧ Lf (j + 1) = Lf j ++ [(j : Int)])),
        SV (xof P w K mg base ["rows", "place", "found", "left", "here", "further", "chance"] "come_to" (top 65) f cdv A outer s H E) ⟨G i, none, B, H, B⟩ (toF (endR none B H (oL oI) (fun z => z.length = rows.length)) ⟨G (i + 1), none, B, H, B⟩) (match (defBody (top 65)) with | _ :: .While _ b _ _ :: _ => b | _ => []) := by
      intro L hv ⟨h, hh, hhn⟩ hL Fd Lf f0 l0 fe le lens step
      subst hh
      refine sv_pop (i := 3) (j := 4) (q := q') (ds := L) (n := (h : Int)) (by rw [← hL]; rfl) (by decide) ?_ sc65.nd
      have hrl : h < rows.length := by omega
      obtain ⟨rl, rp⟩ := hrow _ (mem_at (getD_at (d := []) hrl))
      refine sv_for (fun j => [some (.kn (oT (oT (oQ T.C))) rows), some (.kn oI (p : Int)), some (.ow q oI (Fd j)), some (.ow q' oI (Lf j)), none, none, none]) (piv_enum (pvST (pv_ix h (pvST (pv_var (i := 0) (r := oT (oT (oQ T.C))) (d := rows) rfl)) (pv_var (i := 4) (r := oI) (d := (h : Int)) rfl) rfl (getD_at (d := []) hrl))) T.b_enumerate) (pg_tup rfl (pgs_cons (pg_name (i := 5) sc65.nd rfl (Or.inl rfl)) (pgs_cons (pg_name (i := 6) sc65.nd rfl (Or.inl rfl)) pgs_nil))) tg_pair (by rw [f0, l0]; exact .keep (.keep (.keep (.keep (.skip (.skip (.skip .nil))))))) (fun Bs j hj d hd => ?_) ?_
      · rw [rl] at hj
        obtain ⟨l1, l2⟩ := lens j (by omega)
        have hpos := rp d.2 (mem_at hd.2)
        have hd1 : d.1 = (j : Int) := hd.1
        refine sv_if (q := (decide ((0 : Int) < sg d.2) && !(Fd j).contains d.1)) (Φ' := (⟨[some (.kn (oT (oT (oQ T.C))) rows), some (.kn oI (p : Int)), some (.ow q oI (Fd (j + 1))), some (.ow q' oI (Lf (j + 1))), none, none, none], none, B, H, Bs⟩ : Fm)) (pt_and2 (pt_cmpI op_gt (pv_sign R hr (pv_var (i := 6) (r := oQ T.C) (d := d.2) rfl)) pv_int) fun _ => pt_notinO (i := 2) (q := q) (ds := Fd j) (pv_var (i := 5) (r := oI) (d := d.1) rfl) rfl) (fun hq => ?_) (fun hq => ?_) (sv_end (Le.rf _))
        · rw [hd1] at hq
          rcases step j hj with ⟨s1, s2, s3⟩ | ⟨s1, s2, s3⟩
          · rw [s1] at hq; simp at hq
          · refine sv_append (i := 2) (q := q) (r := oI) (ds := Fd j) (d := d.1) rfl (pv_var (i := 5) (r := oI) (d := d.1) rfl) l1 (sv_append (i := 3) (q := q') (r := oI) (ds := Lf j) (d := d.1) rfl (pv_var (i := 5) (r := oI) (d := d.1) rfl) l2 ?_)
            rw [s2, s3, hd1]
            exact sv_end (.keep (.keep (.keep (.keep (.keep (.skip (.skip .nil)))))))
        · rw [hd1] at hq
          rcases step j hj with ⟨s1, s2, s3⟩ | ⟨s1, s2, s3⟩
          · rw [s2, s3]
            exact sv_end (.keep (.keep (.keep (.keep (.keep (.skip (.skip .nil)))))))
          · rw [s1, decide_eq_true (sg_pos hpos)] at hq
            cases hq
      · rw [rl]
        refine sv_end ?_
        show Le [_, _, some (.ow q oI (fnd p n (i + 1))), some (.ow q' oI (lft p n (i + 1))), none, none, none] [_, _, some (.ow q oI (Fd n)), some (.ow q' oI (Lf n)), none, none, none]
        rw [fe, le]
        exact Le.rf _
    have key : ∃ (L : List Int) (hv : Int), (∃ h : Nat, hv = h ∧ h < n) ∧ lft p n i = L ++ [hv] ∧ ∃ (Fd Lf : Nat → List Int), Fd 0 = fnd p n i ∧ Lf 0 = L ∧ Fd n = fnd p n (i + 1) ∧ Lf n = lft p n (i + 1) ∧ (∀ j, j ≤ n → (Fd j).length < 900 ∧ (Lf j).length < 900) ∧
        (∀ j, j < n → ((Fd j).contains (j : Int) = true ∧ Fd (j + 1) = Fd j ∧ Lf (j + 1) = Lf j) ∨ ((Fd j).contains (j : Int) = false ∧ Fd (j + 1) = Fd j ++ [(j : Int)] ∧ Lf (j + 1) = Lf j ++ [(j : Int)])) := by
      match i, hi with
      | 0, hi =>
        refine ⟨[], (p : Int), ⟨p, rfl, hpn⟩, rfl, fun j => (p : Int) :: oth p j, fun j => oth p j, rfl, rfl, rfl, ?_, fun j hj => ?_, fun j hj => ?_⟩
        · show oth p n = (oth p n).take (n - 1)
          rw [← on, List.take_length]
        · have := oth_len (p := p) j
          show ((p : Int) :: oth p j).length < 900 ∧ (oth p j).length < 900
          rw [List.length_cons]
          split at this <;> omega
        · show (((p : Int) :: oth p j).contains (j : Int) = true ∧ (p : Int) :: oth p (j + 1) = (p : Int) :: oth p j ∧ oth p (j + 1) = oth p j) ∨ (((p : Int) :: oth p j).contains (j : Int) = false ∧ (p : Int) :: oth p (j + 1) = (p : Int) :: oth p j ++ [(j : Int)] ∧ oth p (j + 1) = oth p j ++ [(j : Int)])
          rw [oth_succ]
          by_cases z : j = p
          · left
            rw [if_pos z, z]
            simp
          · right
            rw [if_neg z]
            refine ⟨?_, rfl, rfl⟩
            rw [Bool.eq_false_iff]
            intro hc
            have hm := List.contains_iff_mem.mp hc
            rcases List.mem_cons.mp hm with w | w
            · exact z (by exact_mod_cast w)
            · obtain ⟨i2, w1, w2, w3⟩ := oth_mem.mp w
              omega
      | i + 1, hi =>
        have hl := ln (i + 1) (by omega) (by omega)
        obtain ⟨m, hm⟩ : ∃ m, n - (i + 1) = m + 1 := ⟨n - (i + 1) - 1, by omega⟩
        have hlt : m < (oth p n).length := by omega
        have e0 : lft p n (i + 1) = (oth p n).take m ++ [(oth p n)[m]] := by
          show (oth p n).take (n - (i + 1)) = _
          rw [hm, take_snoc (List.getElem?_eq_getElem hlt)]
        obtain ⟨h, w1, w2, w3⟩ := oth_mem.mp (List.getElem_mem hlt)
        refine ⟨_, _, ⟨h, w1, w2⟩, e0, fun _ => (p : Int) :: oth p n, fun _ => (oth p n).take m, rfl, rfl, rfl, ?_, fun j hj => ?_, fun j hj => .inl ⟨?_, rfl, rfl⟩⟩
        · show (oth p n).take _ = (oth p n).take (n - (i + 1 + 1))
          rw [show n - (i + 1 + 1) = m by omega]
        · show ((p : Int) :: oth p n).length < 900 ∧ ((oth p n).take m).length < 900
          rw [List.length_cons, List.length_take]; omega
        · rw [List.contains_iff_mem]
          by_cases z : j = p
          · rw [z]; exact List.mem_cons_self ..
          · exact List.mem_cons_of_mem _ (oth_mem.mpr ⟨j, rfl, hj, z⟩)
    obtain ⟨L, hv, hn', hL, Fd, Lf, f0, l0, fe, le, lens, step⟩ := key
    exact mid L hv hn' hL Fd Lf f0 l0 fe le lens step
  · have fn : fnd p n n = (p : Int) :: oth p n := by
      match n, hpn with
      | n + 1, _ => rfl
    have fl : (fnd p n n).length = n := by rw [fn, List.length_cons, on]; omega
    refine sv_freeze (i := 2) (q := q) (r := oI) (ds := fnd p n n) rfl (sv_retE (r := oL oI) (PV.imp (pv_sorted (pv_var (i := 2) (r := oL oI) (d := fnd p n n) rfl) (by rw [fl]; omega) T.b_sorted) fun z hz => by rw [hz, fl, hlen]) rfl rfl rfl rfl)
theorem m_closed_in (T : Tx K mg) (F : Df K "closed_in" "closed_in" (top 66) f) (c1 : Ca P w K mg base 3 "come_to" (S_come T.C)) : Me P w K mg base 4 f (S_closed T.C) := by
  refine me1 (k := 3) F sc66 (fun _ _ _ _ _ _ us hl => match us, hl with | [_], _ => rfl) (by decide) fun rows ⟨n, hp⟩ B cdv A outer s H E hr _ => ?_
  have hlen := hp.1
  have hn := hp.2.1
  refine sv_for (fun _ => [some (.kn (oT (oT (oQ T.C))) rows), none, none]) (piv_range n (PV.to (pv_len (pvST (pv_var (i := 0) (r := oT (oT (oQ T.C))) (d := rows) rfl)) T.b_len) (by rw [hlen])) rfl (by omega) T.b_range) (pg_name (i := 1) sc66.nd rfl (.inl rfl)) tg_name (Le.rf _) (fun Bs i hi d hd => ?_) ?_
  · subst hd
    refine sv_set (i := 2) (r := oL oI) (P := fun z => z.length = rows.length) (pv_call2 c1 hr (p1 := fun z => z = rows) (p2 := fun z => z = (i : Int)) (pv_var (i := 0) (r := oT (oT (oQ T.C))) (d := rows) rfl) (pv_var (i := 1) (r := oI) (d := (i : Int)) rfl) fun x y hx hy => ⟨by subst hx hy; exact ⟨n, i, rfl, hi, hp⟩, fun z hz => by subst hx; exact hz⟩) (fun fd hfd => ?_) sc66.nd
    refine sv_ifret (q := false) (PVT.to (pt_cmpI op_lt (pv_len (pvS (pv_var (i := 2) (r := oL oI) (d := fd) rfl)) T.b_len) (pv_len (pvST (pv_var (i := 0) (r := oT (oT (oQ T.C))) (d := rows) rfl)) T.b_len)) (by rw [hfd]; simp)) (fun h => nomatch h) fun _ => ?_
    exact sv_end (.keep (.skip (.skip .nil)))
  · exact sv_retE (r := oZ) (PV.imp pv_non fun _ _ => trivial) rfl rfl rfl rfl
theorem m_are_whole (T : Tx K mg) (F : Df K "are_whole_rows" "are_whole_rows" (top 67) f) (c1 : Ca P w K mg base 4 "closed_in" (S_closed T.C)) : Me P w K mg base 5 f (S_arewhole T.C) := by
  refine me1 (k := 4) F sc67 (fun _ _ _ _ _ _ us hl => match us, hl with | [_], _ => rfl) (by decide) fun rows hp B cdv A outer s H E hr _ => ?_
  exact sv_retE (r := oB) (pv_isN (q := true) (r := oZ) (P := fun _ => True) (pv_call1 c1 hr (p1 := fun z => z = rows) (pv_var (i := 0) (r := oT (oT (oQ T.C))) (d := rows) rfl) fun x hx => ⟨by subst hx; exact hp, fun z _ => trivial⟩) fun B v d rr _ => by rw [show v = V.non from rr]; rfl) rfl rfl rfl rfl
theorem m_want_whole (T : Tx K mg) (O : Oc K mg "Walk" CW fW) (w1 : NoAttr K CW "own_rows") (F : Df K "want_whole" "want_whole" (top 63) f) (c1 : Ca P w K mg base 5 "are_whole_rows" (S_arewhole T.C)) : Me P w K mg base 6 f (S_wantwhole CW T.C) := by
  refine me1 (k := 5) F sc63 (fun _ _ _ _ _ _ us hl => match us, hl with | [_], _ => rfl) (by decide) fun d hp B cdv A outer s H E hr _ => ?_
  refine sv_ifret (q := false) (PVT.to (pt_notI (q := true) (pt_val1 (pv_call1 c1 hr (p1 := fun z => z = d.1.1) (pv_wkRows w1 O.cls (pv_var (i := 0) (r := oWk CW T.C) (d := d) rfl)) fun x hx => ⟨by subst hx; exact hp, fun z hz => hz⟩))) rfl) (fun h => nomatch h) fun _ => ?_
  exact sv_nil fun σ B' H' hs => ⟨(), B', hs.g, rfl, trivial⟩
end
end Wk

end
section
set_option Elab.async false
set_option linter.all false
set_option maxRecDepth 100000
set_option maxHeartbeats 2000000
set_option exponentiation.threshold 100000
/-! strays. -/
namespace Wk
open PySem PySem.Spec PyProof.Rows L2 Ru RZ Rp
open Hd (top)
def prodI (a b : List Int) : List Int := List.zipWith (· * ·) a b
def dsM (row other : List Rat) : Rat := (((prodI (whI row) (whI other)).sum : Int) : Rat) / (((lcmD row : Int) * (lcmD other : Int) : Int) : Rat)
structure DsOk (row other : List Rat) : Prop where
  w1 : WhOk row
  w2 : WhOk other
  p1 : 0 < lcmD row
  p2 : 0 < lcmD other
  l1 : lcmD row < 2 ^ 4500
  l2 : lcmD other < 2 ^ 4500
  b1 : Bd 4500 (whI row)
  b2 : Bd 4500 (whI other)
abbrev S_ds (C : Addr) : Sp := sp2 (oL (oQ C)) (oL (oQ C)) (oQ C) DsOk (fun row other z => z = dsM row other)
/-- 1 less the rows, the shares added -/
def backR (shares : List Rat) (i : Nat) (row : List Rat) : List Rat := (List.zipWith (· - ·) shares row).set i ((List.zipWith (· - ·) shares row).getD i 0 + 1)
def backM (d : Wd) : Mq := (List.range d.1.length).map fun i => backR d.2 i (d.1.getD i [])
structure BackOk (d : Wd) : Prop where
  n : d.1.length ≤ 400
  sh : d.2.length = d.1.length
  sq : ∀ r ∈ d.1, r.length = d.1.length
  f1 : ∀ q ∈ d.2, Fit q
  f2 : ∀ r ∈ d.1, ∀ q ∈ r, Fit q
  f3 : ∀ i, i < d.1.length → Fit ((List.zipWith (· - ·) d.2 (d.1.getD i [])).getD i 0)
  inv : InvOk (backM d)
abbrev S_back (CW C : Addr) : Sp := sp1 (oWk CW C) (oL (oL (oQ C))) (fun d => BackOk d.1) (fun d z => z = invM (backM d.1))
theorem pe_semEC {X : Cx} {scope : Scope} {e : Expr} (s : Shared) (H : Hp) (C : Addr) (cl : List (Str × Addr)) (fp : List Addr) : PE (X.blk s H scope (compEnvC scope cl C X.env) fp) e (semEC X scope e) := ⟨fun pins s' σ H' Q I h => h s H C cl fp pins s' I⟩
section
variable {X : Cx} {Φ : Fm} {α : Type} {r : Rep α} {C q : Addr} {D : Ends} {rest : List Stmt}
/-- rows.append([..]); rows[place][place] = rows[place][place] + 1 -/
theorem sv_appLcSet {i j place : Nat} {x y : Str} {px apos lpos p pos1 : Pos} {pa1 pa2 pa3 pa4 pa5 pb1 pb2 pb3 pb4 pb5 pb6 pc pos2 : Pos} {jj} {elt tg iter : Expr} {scope : Scope} {own : List (Str × Nat)} {g : TG} {n : Nat} {it : Nat → α → Prop} {pt : List (Option Sl) → α → List (Option Sl)} {ds : Mq} (zs : List Rat)
    (hi : PIV X Φ tg iter n r it) (ok : BlkOk X.N X.env.scope scope own) (hg : ∀ (s : Shared) (H : Hp) (C : Addr) (cl : List (Str × Addr)) (fp : List Addr), PG (X.blk s H scope (compEnvC scope cl C X.env) fp) tg g)
    (tg_ : Tg X.K g r (own.map (·.2)) pt) (hv : Free Φ.Γ (own.map (·.2))) (hl : zs.length = n) (hb : n ≤ 900)
    (he : ∀ i, i < n → ∀ d, it i d → ∀ y, zs[i]? = some y → ∀ (s : Shared) (H : Hp) (C' : Addr) (cl : List (Str × Addr)) (fp : List Addr), PD (X.blk s H scope (compEnvC scope cl C' X.env) fp) (Φ.wG (pt Φ.Γ d)) elt (oQ C) y)
    (ho : Φ.Γ[i]? = some (some (.ow q (oL (oQ C)) ds))) (hpj : Φ.Γ[j]? = some (some (.kn oI (place : Int)))) (hdl : ds.length = place) (hpz : place < zs.length) (hm : Φ.m = none) (R : Rq X.prog X.w X.K X.mg X.base C) (hr : Room 4 X.A) (hfit : Fit (zs.getD place 0)) (hds : place < 900) (hNd : X.N.Nodup)
    (k : SV X (Φ.put i (.ow q (oL (oQ C)) (ds ++ [zs.set place (zs.getD place 0 + 1)]))) D rest)
    (hNi : X.N[i]? = some x := by rfl) (hNj : X.N[j]? = some y := by rfl) (hvi : Vis X.env.scope x := by first | exact .inl rfl | exact .inr (.inl rfl)) (hvj : Vis X.env.scope y := by first | exact .inl rfl | exact .inr (.inl rfl)) (hd1 : (x == ("__debug__" : Str)) = false := by decide) (hc1 : (x == ("__classdict__" : Str)) = false := by decide) (hd2 : (y == ("__debug__" : Str)) = false := by decide) (hc2 : (y == ("__classdict__" : Str)) = false := by decide) (hcalm : X.calm = true := by rfl)
    (hbase : attributeBase (.Name x px) "append" X.env (eval (.Name x px) X.env) = eval (.Name x px) X.env := by rfl) (hline : (apos.endLine == p.line) = true := by rfl) (hst : starEach [.ListComp elt [⟨tg, iter, [], 0⟩] scope lpos] X.env = (false, eval (.ListComp elt [⟨tg, iter, [], 0⟩] scope lpos) X.env) :: starEach [] X.env := by rfl)
    (hfew : ((backTo p (starEach [.ListComp elt [⟨tg, iter, [], 0⟩] scope lpos] X.env)).all (fun x => !x.1) && (backToKw p (keywordEach [] X.env)).all (fun x => x.1.isSome) && decide (([.ListComp elt [⟨tg, iter, [], 0⟩] scope lpos] : List Expr).length + ([] : List Keyword).length + (if ([] : List Keyword).isEmpty then 0 else 1) < 30)) = true := by rfl)
    (hplain : (backTo p (starEach [] X.env)).any (·.1) = false := by rfl) (hsw : swapsWith (.Call (.Attribute (.Name x px) "append" apos) [.ListComp elt [⟨tg, iter, [], 0⟩] scope lpos] [] p) none pos1.line X.env = pure false := by rfl)
    (hfs : ∀ x, foldedSetIterable iter X.env x = pure x := by intro _; rfl)
    (hs2 : swapsWithSole [.Subscript (.Subscript (.Name x pa1) (.Name y pa2) pa3) (.Name y pa4) pa5] (.BinOp (.Subscript (.Subscript (.Name x pb1) (.Name y pb2) pb3) (.Name y pb4) pb5) .Add (.Constant (.int 1) jj pc) pb6) pos2.line X.env = pure false := by rfl)
    (hw2 : swappedStores [.Subscript (.Subscript (.Name x pa1) (.Name y pa2) pa3) (.Name y pa4) pa5] (.BinOp (.Subscript (.Subscript (.Name x pb1) (.Name y pb2) pb3) (.Name y pb4) pb5) .Add (.Constant (.int 1) jj pc) pb6) X.env = pure none := by rfl)
    (h12 : (assignEach [.Subscript (.Subscript (.Name x pa1) (.Name y pa2) pa3) (.Name y pa4) pa5] X.env).map (·.2) = [assign (.Subscript (.Subscript (.Name x pa1) (.Name y pa2) pa3) (.Name y pa4) pa5) X.env] := by rfl) :
    SV X Φ D (.Expr (.Call (.Attribute (.Name x px) "append" apos) [.ListComp elt [⟨tg, iter, [], 0⟩] scope lpos] [] p) pos1 :: .Assign [.Subscript (.Subscript (.Name x pa1) (.Name y pa2) pa3) (.Name y pa4) pa5] (.BinOp (.Subscript (.Subscript (.Name x pb1) (.Name y pb2) pb3) (.Name y pb4) pb5) .Add (.Constant (.int 1) jj pc) pb6) pos2 :: rest) := by
  obtain ⟨fadd, oadd, Fadd⟩ := R.add
  obtain ⟨wi, hpi, hw⟩ := hi
  have hvar : PE X (.Name x px) (tVar i) := pe_var hNi hvi hd1 hc1
  have P1 := ps_expr (pos := pos1) (pe_bm PySem.F.plainAttrs_list PySem.F.slot_list_append PySem.F.type_list_append mt_append hvar (pa_cons (pe_lc (pos := lpos) (te := semEC X scope elt) hcalm hNd hpi ok hg (fun _ _ _ _ _ => pts_nil) pe_semEC hfs) pa_nil hst) hbase hfew hline hst hplain) hsw
  have I1 : ∀ {p1 p2 p3 : Pos}, PE X (.Subscript (.Name x p1) (.Name y p2) p3) (tOp (rIx X.K) (tVar i) (tVar j)) := pe_ix ix_seq (pe_var hNi hvi hd1 hc1) (pe_var hNj hvj hd2 hc2) (fun _ _ => rfl)
  have I2 : ∀ {p1 p2 p3 p4 p5 : Pos}, PE X (.Subscript (.Subscript (.Name x p1) (.Name y p2) p3) (.Name y p4) p5) (tOp (rIx X.K) (tOp (rIx X.K) (tVar i) (tVar j)) (tVar j)) := pe_ix ix_seq I1 (pe_var hNj hvj hd2 hc2) (fun _ _ => rfl)
  have P2 := ps_asg (pos := pos2) (pe_op (pos := pb6) (op_own oadd Fadd hr) (I2 (p1 := pb1) (p2 := pb2) (p3 := pb3) (p4 := pb4) (p5 := pb5)) (pe_int (i := 1) (j := jj) (pos := pc))) (pg_sub (pos := pa5) (I1 (p1 := pa1) (p2 := pa2) (p3 := pa3)) (pe_var (pos := pa4) hNj hvj hd2 hc2) set_list) hs2 hw2 h12
  refine sv_of (pss_cons P1 (pss_cons P2 (pss_sem (sts := rest)))) fun σ B1 H1 hs => ?_
  obtain ⟨o1, o2, o3, o4, xs0, o5, o6⟩ := own_at hs ho
  obtain ⟨x3, y3, v3, y31, y32⟩ := hs.at_ j (.kn oI (place : Int)) hpj
  have ev3 : v3 = .int (place : Int) := y32
  subst y31 ev3
  refine ⟨.ref q, o1, .inl ⟨rfl, xs0, SqL.of o5⟩, ?_⟩
  refine ev_lcO hw tg_ hv hl hb he hs fun l xs B2 H2 g2 hl2 hx hB2 hp => ?_
  · rw [hm] at g2
    have q2 : H2 q = some (.lst xs0) := g2.ext _ _ o5
    have hlen0 : xs0.length = place := by rw [o6.len, hdl]
    refine ⟨q, xs0, .ref l, rfl, rfl, q2, Nat.lt_of_lt_of_le (m := 1000) (by omega) (by decide), ?_⟩
    have nlq : l ≠ q := fun z => by subst z; rw [hl2] at o5; cases o5
    have hB2q : B2 q = none := by
      cases z : B2 q with
      | none => rfl
      | some o =>
        rcases g2.new _ _ z with w | w
        · rw [o3] at w; cases w
        · rw [w] at o5; cases o5
    obtain ⟨H3, eH3⟩ : ∃ H3 : Hp, H3 = upd H2 q (.lst (xs0 ++ [.ref l])) := ⟨_, rfl⟩
    rw [← eH3]
    have h3q : H3 q = some (.lst (xs0 ++ [.ref l])) := by rw [eH3]; exact upd_same
    have h3l : H3 l = some (.lst xs) := by rw [eH3, upd_ne nlq]; exact hx
    have x23 : Ext B2 H3 := fun a o ha => by
      have na : a ≠ q := fun z => by subst z; rw [hB2q] at ha; cases ha
      rw [eH3, upd_ne na]
      exact g2.bh a o ha
    have at1 : atI (xs0 ++ [V.ref l]) ((place : Nat) : Int) = some (.ref l) := atI_nat (by rw [← hlen0, List.getElem?_append_right (Nat.le_refl _), Nat.sub_self]; rfl)
    have hiz : zs[place]? = some (zs.getD place 0) := getD_at hpz
    obtain ⟨u, hu, ru⟩ := hp.get hiz
    refine ⟨.ref q, o1, .int place, y3, .inl ⟨q, _, _, _, rfl, rfl, SqL.of h3q, at1, .int place, y3, .inl ⟨l, xs, _, u, rfl, rfl, SqL.of h3l, atI_nat hu, ?_⟩⟩⟩
    refine ⟨oQ_ins x23 ru, .inr ⟨1, rfl⟩, u, zs.getD place 0, .int 1, 1, B2, rfl, x23, ru, .inr ⟨1, rfl, rfl⟩, ⟨hfit, Fit.int (i := 1) (by decide)⟩, fun v z B4 H4 g4 r4 po => ?_⟩
    subst po
    have h4q : H4 q = some (.lst (xs0 ++ [.ref l])) := g4.ext _ _ h3q
    have h4l : H4 l = some (.lst xs) := g4.ext _ _ h3l
    have hxl : xs.length = zs.length := hp.len
    refine ⟨.ref q, o1, .int place, y3, .inl ⟨q, _, _, _, rfl, rfl, SqL.of h4q, at1, .int place, y3, l, xs, _, place, rfl, rfl, h4l, ?_, ?_⟩⟩
    · unfold ixN; rw [if_pos (Int.natCast_nonneg place), if_pos (by omega), Int.toNat_natCast]
    · -- the row is done
      have hB4q : B4 q = none := by
        cases w : B4 q with
        | none => rfl
        | some o =>
          rcases g4.new _ _ w with w | w
          · rw [hB2q] at w; cases w
          · rw [h3q] at w; cases w
      have hB4l : B4 l = none := by
        cases w : B4 l with
        | none => rfl
        | some o =>
          rcases g4.new _ _ w with w | w
          · rw [hB2] at w; cases w
          · rw [h3l] at w; cases w
      let ys := xs.set place v
      let Bf : Hp := upd B4 l (.lst ys)
      let Hf : Hp := upd H4 l (.lst ys)
      let Hx : Hp := upd Hf q (.lst xs0)
      have b14 : Ext B1 B4 := g2.bb.trans g4.bb
      have xbf : Ext B4 Bf := Ext.upd hB4l
      have g : Grow none B1 H1 Bf Hx := by
        have hh : ∀ a o, H1 a = some o → Hx a = some o := fun a o ha => by
          by_cases z : a = q
          · subst z; show upd Hf a _ a = _; rw [upd_same, ← o5, ha]
          · have nl : a ≠ l := fun z => by subst z; rw [hl2] at ha; cases ha
            show upd Hf q _ a = _
            rw [upd_ne z]
            show upd H4 l _ a = _
            rw [upd_ne nl]
            refine g4.ext a o ?_
            rw [eH3, upd_ne z]
            exact g2.ext a o ha
        refine ⟨fun a o _ ha => hh a o ha, b14.trans xbf, fun a o ha => ?_, fun a o ha => ?_, fun a ha => ext_none hh ha, fun _ z => nomatch z⟩
        · by_cases z : a = l
          · subst z
            have e1 : Bf a = some (.lst ys) := upd_same
            rw [e1] at ha
            show upd Hf q _ a = _
            rw [upd_ne nlq]
            show upd H4 a _ a = _
            rw [upd_same, ← ha]
          · have ha' : B4 a = some o := by rw [← upd_ne (H := B4) (o := .lst ys) z]; exact ha
            have nq : a ≠ q := fun z => by subst z; rw [hB4q] at ha'; cases ha'
            show upd Hf q _ a = _
            rw [upd_ne nq]
            show upd H4 l _ a = _
            rw [upd_ne z]
            exact g4.bh a o ha'
        · by_cases z : a = l
          · subst z; exact .inr hl2
          · have ha' : B4 a = some o := by rw [← upd_ne (H := B4) (o := .lst ys) z]; exact ha
            rcases g4.new a o ha' with w | w
            · exact g2.new a o w
            · right
              refine g2.al a ?_
              cases w2 : H2 a with
              | none => rfl
              | some o2 =>
                by_cases zq : a = q
                · subst zq; rw [h3q] at w; cases w
                · have : H3 a = some o2 := by rw [eH3, upd_ne zq]; exact w2
                  rw [this] at w; cases w
      have s1 : Stt Φ σ Bf Hx := hs.grow (by rw [hm]; exact g)
      have rowrep : (oL (oQ C)).r Bf (.ref l) (zs.set place (zs.getD place 0 + 1)) := by
        refine ⟨l, ys, rfl, upd_same, Prd.set ((oQ C).mono xbf r4) place (hp.mono (g4.bb.trans xbf)), ?_⟩
        rw [List.length_set, hl]; omega
      have s2 := s1.chg (xs' := xs0 ++ [.ref l]) (ds' := ds ++ [zs.set place (zs.getD place 0 + 1)]) ho ((o6.mono (b14.trans xbf)).snoc rowrep) (by rw [List.length_append, List.length_singleton, hdl]; omega)
      have eH : upd Hx q (.lst (xs0 ++ [.ref l])) = Hf := by
        show upd (upd Hf q _) q _ = _
        rw [upd_upd]
        funext a
        by_cases z : a = q
        · subst z; rw [upd_same]; show _ = upd H4 l _ a; rw [upd_ne nlq.symm]; exact h4q.symm
        · rw [upd_ne z]
      rw [eH] at s2
      exact k σ Bf Hf s2
end
section
variable {P : Program} {w : World} {K : PySem.W.Frag} {mg : Str → Option Value} {base : Heap} {f fi CK CW fK fW : Addr} {k : Nat}
theorem sc69 : FnScope ["row", "other", "bottom", "near", "further", "far", "one", "two"] ["row", "other"] (defScope (top 69)) := ⟨rfl, rfl, rfl, by decide +kernel, rfl, by decide +kernel, by decide +kernel⟩
theorem sc71 : FnScope ["walk", "shares", "rows", "place", "row", "share", "chance"] ["walk"] (defScope (top 71)) := ⟨rfl, rfl, rfl, by decide +kernel, rfl, by decide +kernel, by decide +kernel⟩
theorem hw_zipT {Φ : Fm} {K : PySem.W.Frag} {α β : Type} {r : Rep α} {r2 : Rep β} {ta tb : TE} {ds : List α} {es : List β} (ha : EvP ta Φ (oT r) (fun x => x = ds)) (hb : EvP tb Φ (oT r2) (fun x => x = es)) :
    ∀ σ B H, Stt Φ σ B H → ∀ R : It → Hp → Prop, (∀ J B1 H1, Grow Φ.m B H B1 H1 → Turns Φ.m B1 J (min ds.length es.length) (oP r r2) (fun i d => ds[i]? = some d.1 ∧ es[i]? = some d.2) → R J H1) → iZipA K (tCons ta (tCons tb tNil)) σ H R := fun σ B H hs R k => ev2 ha hb hs fun v d w d' B1 H1 g rr q rr' q' => by
  subst q q'
  obtain ⟨a1, x1, rfl, h2, h3, h4⟩ := rr
  obtain ⟨a2, x2, rfl, h2', h3', h4'⟩ := rr'
  exact ⟨a1, a2, x1, x2, rfl, .inr ⟨SqT.of (g.bh _ _ h2), SqT.of (g.bh _ _ h2'), k _ _ _ g (turns_zipT h2 h3 h2' h3')⟩⟩
theorem whI_len (ds : List Rat) : (whI ds).length = ds.length := by unfold whI; rw [List.length_map]
theorem m_ds (T : Tx K mg) (R : Rm P w K mg base T.C fi) (F : Df K "dot" "dot" (top 69) f) (c1 : Ca P w K mg base 1 "wholes" (S_wholes T.C)) : Me P w K mg base 4 f (S_ds T.C) := by
  refine me2 (k := 3) F sc69 (fun _ _ _ _ _ _ us hl => match us, hl with | [_, _], _ => rfl) (by decide) fun row other h B cdv A outer s H E hr _ => ?_
  refine sv_tup2 (i := 2) (j := 3) (r := oI) (r2 := oL oI) (P2 := fun d => d = ((lcmD row : Int), whI row)) (pv_call1 c1 (hr.mono (by decide)) (p1 := fun z => z = row) (pvS (pv_var (i := 0) (r := oL (oQ T.C)) (d := row) rfl)) fun d hd => ⟨by subst hd; exact h.w1, fun z hz => by subst hd; exact hz⟩) (fun d hd => ?_) sc69.nd
  subst hd
  refine sv_tup2 (i := 4) (j := 5) (r := oI) (r2 := oL oI) (P2 := fun d => d = ((lcmD other : Int), whI other)) (pv_call1 c1 (hr.mono (by decide)) (p1 := fun z => z = other) (pvS (pv_var (i := 1) (r := oL (oQ T.C)) (d := other) rfl)) fun d hd => ⟨by subst hd; exact h.w2, fun z hz => by subst hd; exact hz⟩) (fun d hd => ?_) sc69.nd
  subst hd
  have hl1 := h.w1.len
  refine sv_retE (r := oQ T.C) (PV.to (pv_mk2 R hr (pv_sum rfl (PV.to (pv_lc (own := [("one", 6), ("two", 7)]) (r2 := oI) (prodI (whI row) (whI other)) rfl sc69.nd (piv_zip (pv_var (i := 3) (r := oL oI) (d := whI row) rfl) (pv_var (i := 5) (r := oL oI) (d := whI other) rfl) T.b_zip) (blkOk_by (N := ["row", "other", "bottom", "near", "further", "far", "one", "two"]) (sc := defScope (top 69)) (by decide +kernel)) (fun _ _ _ _ _ => pg_tup rfl (pgs_cons (pg_name (i := 6) sc69.nd rfl (Or.inl rfl)) (pgs_cons (pg_name (i := 7) sc69.nd rfl (Or.inl rfl)) pgs_nil))) tg_pair (free2 rfl rfl) (by unfold prodI; rw [List.length_zipWith]) (by rw [whI_len, whI_len]; omega) fun i hi d hd y hy _ _ _ _ _ => ?_) rfl) T.b_sum) (pv_mul (pv_var (i := 2) (r := oI) (d := (lcmD row : Int)) rfl) (pv_var (i := 4) (r := oI) (d := (lcmD other : Int)) rfl) (wmul (dlt h.l1) (dlt h.l2))) (Int.mul_ne_zero (by have := h.p1; omega) (by have := h.p2; omega)) (p9000 (dlt h.l1) (dlt h.l2))) rfl) rfl rfl rfl rfl
  unfold prodI at hy
  rw [List.getElem?_zipWith, hd.1, hd.2] at hy
  exact PV.to (pv_mul (pv_var (i := 6) (r := oI) (d := d.1) rfl) (pv_var (i := 7) (r := oI) (d := d.2) rfl) (wmul (h.b1 _ (mem_at hd.1)) (h.b2 _ (mem_at hd.2)))) (Option.some.inj hy)
theorem m_back_table (T : Tx K mg) (R : Rq P w K mg base T.C) (O : Oc K mg "Walk" CW fW) (w1 : NoAttr K CW "own_rows") (w2 : NoAttr K CW "own_shares") (F : Df K "back_table" "back_table" (top 71) f) (c1 : Ca P w K mg base 5 "inverse_of" (S_inv T.C)) : Me P w K mg base 6 f (S_back CW T.C) := by
  refine me1 (k := 5) F sc71 (fun _ _ _ _ _ _ us hl => match us, hl with | [_], _ => rfl) (by decide) fun d h B cdv A outer s H E hr _ => ?_
  obtain ⟨⟨rows, shares⟩, kp⟩ := d
  have hn := h.n
  have hsh := h.sh
  let X := xof P w K mg base ["walk", "shares", "rows", "place", "row", "share", "chance"] "back_table" (top 71) f cdv A outer s H E
  have start : ∀ (rest : List Stmt) (D : Ends) (px py pt pt2 pos pl p2 : Pos) (kt k2 : Nat) (a : Expr) (ha : PD X ⟨[some (.kn (oWk CW T.C) ((rows, shares), kp)), none, none, none, none, none, none], none, B, H, B⟩ a (oT (oQ T.C)) shares)
      (hw : swappedStores [.Tuple [.Name "shares" px, .Name "rows" py] kt pt] (.Tuple [a, .List [] pl] k2 pt2) X.env = pure (some [("shares" : Str), "rows"])) (hs : swapsWithSole [.Tuple [.Name "shares" px, .Name "rows" py] kt pt] (.Tuple [a, .List [] pl] k2 pt2) pos.line X.env = pure false) (he : starEach [a, .List [] pl] X.env = (false, eval a X.env) :: starEach [.List [] pl] X.env)
      (hr : ∀ q, SV X ⟨[some (.kn (oWk CW T.C) ((rows, shares), kp)), some (.kn (oT (oQ T.C)) shares), some (.ow q (oL (oQ T.C)) []), none, none, none, none], none, B, H, B⟩ D rest),
      SV X ⟨[some (.kn (oWk CW T.C) ((rows, shares), kp)), none, none, none, none, none, none], none, B, H, B⟩ D (.Assign [.Tuple [.Name "shares" px, .Name "rows" py] kt pt] (.Tuple [a, .List [] pl] k2 pt2) pos :: rest) := by
    intro rest D px py pt pt2 pos pl p2 kt k2 a ha hw hs he hr'
    refine sv_step (ps_par (i := 1) (j := 2) rfl sc71.nd rfl rfl (by decide) rfl rfl (pa_cons pe_sem (pa_cons (pe_lst pa_nil) pa_nil rfl) he) hw hs) fun σ B1 H1 hst => ha.ev σ B1 H1 hst _ fun v d1 B2 H2 g rr hd => ?_
    subst hd
    refine ⟨Nat.zero_le _, fun l hl => ⟨v, .ref l, rfl, ?_⟩⟩
    exact hr' l _ B2 _ (((hst.grow g).put (i := 1) rr).putO (i := 2) (e := oL (oQ T.C)) (ds := []) hl .nil (Nat.zero_le _))
  refine start _ _ _ _ _ _ _ _ ⟨0, 0, 0, 0⟩ _ _ _ (pv_wkShares w2 O.cls (pv_var (i := 0) (r := oWk CW T.C) (d := ((rows, shares), kp)) rfl)) rfl rfl rfl fun q => ?_
  let ds : Nat → Mq := fun i => (List.range i).map fun i => backR shares i (rows.getD i [])
  refine sv_for (fun i => [some (.kn (oWk CW T.C) ((rows, shares), kp)), some (.kn (oT (oQ T.C)) shares), some (.ow q (oL (oQ T.C)) (ds i)), none, none, none, none]) (piv_enum (pvST (pv_wkRows w1 O.cls (pv_var (i := 0) (r := oWk CW T.C) (d := ((rows, shares), kp)) rfl))) T.b_enumerate) (pg_tup rfl (pgs_cons (pg_name (i := 3) sc71.nd rfl (Or.inl rfl)) (pgs_cons (pg_name (i := 4) sc71.nd rfl (Or.inl rfl)) pgs_nil))) tg_pair (Le.rf _) (fun Bs i hi d hd => ?_) ?_
  · have hd1 : d.1 = (i : Int) := hd.1
    have hrd : rows.getD i [] = d.2 := getD_of hd.2
    have hi' : i < rows.length := hi
    have hrl : d.2.length = rows.length := h.sq _ (mem_at hd.2)
    let zs := List.zipWith (· - ·) shares d.2
    have hzl : zs.length = rows.length := by show (List.zipWith _ _ _).length = _; rw [List.length_zipWith, hrl]; have : shares.length = rows.length := hsh; omega
    refine sv_appLcSet (C := T.C) (i := 2) (j := 3) (q := q) (ds := ds i) (place := i) (own := [("share", 5), ("chance", 6)]) zs (piv_zipT (pv_var (i := 1) (r := oT (oQ T.C)) (d := shares) rfl) (pv_var (i := 4) (r := oT (oQ T.C)) (d := d.2) rfl) T.b_zip) (blkOk_by (N := ["walk", "shares", "rows", "place", "row", "share", "chance"]) (sc := defScope (top 71)) (by decide +kernel)) (fun _ _ _ _ _ => pg_tup rfl (pgs_cons (pg_name (i := 5) sc71.nd rfl (Or.inl rfl)) (pgs_cons (pg_name (i := 6) sc71.nd rfl (Or.inl rfl)) pgs_nil))) tg_pair (free2 rfl rfl) (by show (List.zipWith _ _ _).length = _; rw [List.length_zipWith]) (by have h1 : shares.length = rows.length := hsh; have h2 : rows.length ≤ 400 := hn; omega) (fun j hj e he y hy _ _ _ _ _ => ?_) rfl (by show some (some (Sl.kn oI d.1)) = _; rw [hd1]) (by show (List.map _ (List.range i)).length = i; rw [List.length_map, List.length_range]) (by omega) rfl R (hr.mono (by decide)) (by have := h.f3 i hi'; rw [hrd] at this; exact this) (by have h2 : rows.length ≤ 400 := hn; omega) sc71.nd ?_
    · have hy' : (List.zipWith (· - ·) shares d.2)[j]? = some y := hy
      rw [List.getElem?_zipWith, he.1, he.2] at hy'
      exact PV.to (pv_subQ R (hr.mono (by decide)) (pv_var (i := 5) (r := oQ T.C) (d := e.1) rfl) (pvN (pv_var (i := 6) (r := oQ T.C) (d := e.2) rfl)) (h.f1 _ (mem_at he.1)) (h.f2 _ (mem_at hd.2) _ (mem_at he.2))) (Option.some.inj hy')
    · refine sv_end ?_
      have e1 : ds (i + 1) = ds i ++ [zs.set i (zs.getD i 0 + 1)] := by
        show List.map _ (List.range (i + 1)) = _
        rw [List.range_succ, List.map_append]
        show _ ++ [backR shares i (rows.getD i [])] = _
        rw [hrd]
        rfl
      rw [e1]
      exact .keep (.keep (.keep (.skip (.skip (.skip (.skip .nil))))))
  · have e : ds rows.length = backM (rows, shares) := rfl
    refine sv_freeze (i := 2) (q := q) (r := oL (oQ T.C)) (ds := ds rows.length) rfl (sv_retE (r := oL (oL (oQ T.C))) (pv_call1 c1 hr (p1 := fun z => z = backM (rows, shares)) (pv_var (i := 2) (r := oL (oL (oQ T.C))) (d := ds rows.length) rfl) fun x hx => ⟨by subst hx; exact h.inv, fun z hz => by subst hx; exact hz⟩) rfl rfl rfl rfl)
end
end Wk

end
section
set_option Elab.async false
set_option linter.all false
set_option maxRecDepth 100000
set_option maxHeartbeats 2000000
set_option exponentiation.threshold 100000
/-! strays: the error's rows. -/
namespace Wk
open PySem PySem.Spec PyProof.Rows L2 Ru RZ Rp
open Hd (top)
def at2 (t : Mq) (i j : Nat) : Rat := (t.getD i []).getD j 0
def entM (s : List Rat) (t : Mq) (i j : Nat) : Rat := s.getD i 0 * at2 t i j + s.getD j 0 * at2 t j i - s.getD i 0 * s.getD j 0
def tabE (s : List Rat) (t : Mq) (i j : Nat) : Rat := if i = j then entM s t i j - s.getD i 0 else entM s t i j
def errT (s : List Rat) (t : Mq) : Mq := (List.range s.length).map fun i => (List.range s.length).map fun j => tabE s t i j
def errM (d : Wd) : Mq := errT d.2 (invM (backM d))
structure ErrOk (d : Wd) : Prop where
  back : BackOk d
  len : (invM (backM d)).length = d.2.length
  wide : ∀ r ∈ invM (backM d), r.length = d.2.length
  f1 : ∀ i j, i < d.2.length → j < d.2.length → Fit (at2 (invM (backM d)) i j)
  f2 : ∀ i j, i < d.2.length → j < d.2.length → Fit (d.2.getD i 0 * at2 (invM (backM d)) i j)
  f3 : ∀ i j, i < d.2.length → j < d.2.length → Fit (d.2.getD j 0 * at2 (invM (backM d)) j i)
  f4 : ∀ i j, i < d.2.length → j < d.2.length → Fit (d.2.getD i 0 * at2 (invM (backM d)) i j + d.2.getD j 0 * at2 (invM (backM d)) j i)
  f5 : ∀ i j, i < d.2.length → j < d.2.length → Fit (d.2.getD i 0 * d.2.getD j 0)
  f6 : ∀ i j, i < d.2.length → j < d.2.length → Fit (entM d.2 (invM (backM d)) i j)
abbrev S_errmade (CW C : Addr) : Sp := sp1 (oWk CW C) (oL (oL (oQ C))) (fun d => ErrOk d.1) (fun d z => z = errM d.1)
section
variable {P : Program} {w : World} {K : PySem.W.Frag} {mg : Str → Option Value} {base : Heap} {f fi CK CW fK fW : Addr} {k : Nat}
theorem sc73 : FnScope ["walk", "shares", "table", "found", "place", "share", "row", "other", "further", "entry"] ["walk"] (defScope (top 73)) := ⟨rfl, rfl, rfl, by decide +kernel, rfl, by decide +kernel, by decide +kernel⟩
theorem m_error_made (T : Tx K mg) (R : Rq P w K mg base T.C) (O : Oc K mg "Walk" CW fW) (w2 : NoAttr K CW "own_shares") (F : Df K "error_made" "error_made" (top 73) f) (c1 : Ca P w K mg base 6 "back_table" (S_back CW T.C)) : Me P w K mg base 7 f (S_errmade CW T.C) := by
  refine me1 (k := 6) F sc73 (fun _ _ _ _ _ _ us hl => match us, hl with | [_], _ => rfl) (by decide) fun d h B cdv A outer s H E hr _ => ?_
  obtain ⟨d, kp⟩ := d
  have h : ErrOk d := h
  have hb := h.back
  have hsl : d.2.length ≤ 400 := by have := hb.n; have := hb.sh; omega
  have h1 := h.len; have h2 := h.wide; have f1 := h.f1; have f2 := h.f2; have f3 := h.f3; have f4 := h.f4; have f5 := h.f5; have f6 := h.f6
  refine sv_par3 (i := 1) (j := 2) (k := 3) (oL (oQ T.C)) (d := d.2) (d' := invM (backM d)) (pv_wkShares w2 O.cls (pv_var (i := 0) (r := oWk CW T.C) (d := (d, kp)) rfl)) (pv_call1 c1 hr (p1 := fun z => z = (d, kp)) (pv_var (i := 0) (r := oWk CW T.C) (d := (d, kp)) rfl) fun x hx => ⟨by subst hx; exact hb, fun z hz => by subst hx; exact hz⟩) (fun q => ?_) sc73.nd (by decide) (by decide) (by decide)
  show SV _ ⟨[some (.kn (oWk CW T.C) (d, kp)), some (.kn (oT (oQ T.C)) d.2), some (.kn (oL (oL (oQ T.C))) (invM (backM d))), some (.ow q (oL (oQ T.C)) []), none, none, none, none, none, none], none, B, H, B⟩ _ _
  unfold errM errT
  dsimp only at *
  generalize invM (backM d) = t at h1 h2 f1 f2 f3 f4 f5 f6 ⊢
  have fs : ∀ i x, d.2[i]? = some x → Fit x := fun i x hx => hb.f1 x (mem_at hx)
  let G : Nat → List (Option Sl) := fun i => [some (.kn (oWk CW T.C) (d, kp)), some (.kn (oT (oQ T.C)) d.2), some (.kn (oL (oL (oQ T.C))) t), some (.ow q (oL (oQ T.C)) ((List.range i).map fun i => (List.range d.2.length).map fun j => tabE d.2 t i j)), none, none, none, none, none, none]
  refine sv_for G (piv_enum (pvST (pv_var (i := 1) (r := oT (oQ T.C)) (d := d.2) rfl)) T.b_enumerate) (pg_tup rfl (pgs_cons (pg_name (i := 4) sc73.nd rfl (Or.inl rfl)) (pgs_cons (pg_name (i := 5) sc73.nd rfl (Or.inl rfl)) pgs_nil))) tg_pair (Le.rf _) (fun Bs i hi e he => ?_) ?_
  · obtain ⟨ei, es⟩ := e
    obtain ⟨he1, he2⟩ := he
    dsimp only at he1 he2
    subst he1
    have gi : d.2.getD i 0 = es := getD_of he2
    refine sv_new (i := 6) (oQ T.C) (fun q2 => ?_) sc73.nd
    let G2 : Nat → List (Option Sl) := fun j => [some (.kn (oWk CW T.C) (d, kp)), some (.kn (oT (oQ T.C)) d.2), some (.kn (oL (oL (oQ T.C))) t), some (.ow q (oL (oQ T.C)) ((List.range i).map fun i => (List.range d.2.length).map fun j => tabE d.2 t i j)), some (.kn oI (i : Int)), some (.kn (oQ T.C) es), some (.ow q2 (oQ T.C) ((List.range j).map fun j => tabE d.2 t i j)), none, none, none]
    refine sv_for G2 (piv_enum (pvST (pv_var (i := 1) (r := oT (oQ T.C)) (d := d.2) rfl)) T.b_enumerate) (pg_tup rfl (pgs_cons (pg_name (i := 7) sc73.nd rfl (Or.inl rfl)) (pgs_cons (pg_name (i := 8) sc73.nd rfl (Or.inl rfl)) pgs_nil))) tg_pair (Le.rf _) (fun Bs2 j hj e he => ?_) ?_
    · obtain ⟨ej, es2⟩ := e
      obtain ⟨he3, he4⟩ := he
      dsimp only at he3 he4
      subst he3
      have gj : d.2.getD j 0 = es2 := getD_of he4
      have hti : i < t.length := by omega
      have htj : j < t.length := by omega
      have wi := h2 _ (mem_at (getD_at (d := []) hti))
      have wj := h2 _ (mem_at (getD_at (d := []) htj))
      have F2 := f2 i j hi hj; have F3 := f3 i j hi hj; have F4 := f4 i j hi hj; have F5 := f5 i j hi hj; have F6 := f6 i j hi hj
      have e0 : entM d.2 t i j = es * at2 t i j + es2 * at2 t j i - es * es2 := by unfold entM; rw [gi, gj]
      rw [gi] at F2 F5; rw [gj] at F3 F5; rw [gi, gj] at F4
      refine sv_setD (i := 9) (r := oQ T.C) (d := entM d.2 t i j) (PV.to (pv_subQ R (hr.mono (by decide)) (pv_addQ R (hr.mono (by decide)) (pv_mulQ R (hr.mono (by decide)) (pv_var (i := 5) (r := oQ T.C) (d := es) rfl) (pvN (pv_ix j (pvS (pv_ix i (pvS (pv_var (i := 2) (r := oL (oL (oQ T.C))) (d := t) rfl)) (pv_var (i := 4) (r := oI) (d := (i : Int)) rfl) rfl (getD_at (d := []) hti))) (pv_var (i := 7) (r := oI) (d := (j : Int)) rfl) rfl (getD_at (d := 0) (by omega)))) (fs i es he2) (f1 i j hi hj)) (pvN (pv_mulQ R (hr.mono (by decide)) (pv_var (i := 8) (r := oQ T.C) (d := es2) rfl) (pvN (pv_ix i (pvS (pv_ix j (pvS (pv_var (i := 2) (r := oL (oL (oQ T.C))) (d := t) rfl)) (pv_var (i := 7) (r := oI) (d := (j : Int)) rfl) rfl (getD_at (d := []) htj))) (pv_var (i := 4) (r := oI) (d := (i : Int)) rfl) rfl (getD_at (d := 0) (by omega)))) (fs j es2 he4) (f1 j i hj hi))) F2 F3) (pvN (pv_mulQ R (hr.mono (by decide)) (pv_var (i := 5) (r := oQ T.C) (d := es) rfl) (pvN (pv_var (i := 8) (r := oQ T.C) (d := es2) rfl)) (fs i es he2) (fs j es2 he4))) F4 F5) e0.symm) ?_ sc73.nd
      refine sv_append (i := 6) (q := q2) (r := oQ T.C) (ds := (List.range j).map fun j => tabE d.2 t i j) (d := tabE d.2 t i j) rfl (pv_if (q := decide ((i : Int) = (j : Int))) (pt_eqI (pv_var (i := 4) (r := oI) (d := (i : Int)) rfl) (pv_var (i := 7) (r := oI) (d := (j : Int)) rfl)) (fun hq => ?_) fun hq => ?_) (by rw [List.length_map, List.length_range]; omega) ?_
      · have : i = j := by have : (i : Int) = j := by simpa using hq
                           omega
        exact PV.to (pv_subQ R (hr.mono (by decide)) (pv_var (i := 9) (r := oQ T.C) (d := entM d.2 t i j) rfl) (pvN (pv_var (i := 5) (r := oQ T.C) (d := es) rfl)) F6 (fs i es he2)) (by unfold tabE; rw [if_pos this, gi])
      · have : ¬ i = j := fun z => by subst z; simp at hq
        exact PV.to (pv_var (i := 9) (r := oQ T.C) (d := entM d.2 t i j) rfl) (by unfold tabE; rw [if_neg this])
      · refine sv_end ?_
        show Le [_, _, _, _, _, _, some (.ow q2 (oQ T.C) ((List.range (j + 1)).map fun j => tabE d.2 t i j)), none, none, none] _
        rw [List.range_succ, List.map_append]
        exact .keep (.keep (.keep (.keep (.keep (.keep (.keep (.skip (.skip (.skip .nil)))))))))
    · refine sv_freeze (i := 6) (q := q2) (r := oQ T.C) (ds := (List.range d.2.length).map fun j => tabE d.2 t i j) rfl ?_
      refine sv_append (i := 3) (q := q) (r := oL (oQ T.C)) (ds := (List.range i).map fun i => (List.range d.2.length).map fun j => tabE d.2 t i j) (d := (List.range d.2.length).map fun j => tabE d.2 t i j) rfl (pv_var (i := 6) (r := oL (oQ T.C)) (d := (List.range d.2.length).map fun j => tabE d.2 t i j) rfl) (by rw [List.length_map, List.length_range]; omega) ?_
      refine sv_end ?_
      show Le [_, _, _, some (.ow q (oL (oQ T.C)) ((List.range (i + 1)).map fun i => (List.range d.2.length).map fun j => tabE d.2 t i j)), none, none, none, none, none, none] _
      rw [List.range_succ, List.map_append]
      exact .keep (.keep (.keep (.keep (.skip (.skip (.skip (.skip (.skip (.skip .nil)))))))))
  · exact sv_freeze (i := 3) (q := q) (r := oL (oQ T.C)) (ds := (List.range d.2.length).map fun i => (List.range d.2.length).map fun j => tabE d.2 t i j) rfl (sv_retE (r := oL (oL (oQ T.C))) (pv_var (i := 3) (r := oL (oL (oQ T.C))) (d := (List.range d.2.length).map fun i => (List.range d.2.length).map fun j => tabE d.2 t i j) rfl) rfl rfl rfl rfl)
end
end Wk

end
section
set_option Elab.async false
set_option linter.all false
set_option maxRecDepth 100000
set_option maxHeartbeats 2000000
set_option exponentiation.threshold 100000
/-! strays: the error's rows, kept; the error. -/
namespace Wk
open PySem PySem.Spec PyProof.Rows L2 Ru RZ Rp
open Hd (top)
/-- growing while the list at kp turns -/
structure GrowK (kp : Addr) (B H B2 H2 : Hp) : Prop where
  hh : ∀ a o, a ≠ kp → H a = some o → H2 a = some o
  bb : Ext B B2
  bh : Ext B2 H2
  new : ∀ a o, B2 a = some o → B a = some o ∨ H a = none ∨ a = kp
  al : ∀ a, H2 a = none → H a = none
theorem GrowK.of {kp : Addr} {B H B2 H2 : Hp} (g : Grow none B H B2 H2) : GrowK kp B H B2 H2 := ⟨fun a o _ h => g.ext a o h, g.bb, g.bh, fun a o h => (g.new a o h).elim .inl fun h => .inr (.inl h), g.al⟩
theorem GrowK.trans {kp : Addr} {B H B1 H1 B2 H2 : Hp} (g : GrowK kp B H B1 H1) (g' : GrowK kp B1 H1 B2 H2) : GrowK kp B H B2 H2 :=
  ⟨fun a o z h => g'.hh a o z (g.hh a o z h), g.bb.trans g'.bb, g'.bh, fun a o h => (g'.new a o h).elim (fun h => g.new a o h) fun h => h.elim (fun h => .inr (.inl (g.al a h))) fun h => .inr (.inr h), fun a h => g.al a (g'.al a h)⟩
/-- the turning list is new to who asked -/
theorem GrowK.fresh {m : Option Addr} {kp : Addr} {B0 H0 B H B2 H2 : Hp} (g0 : Grow m B0 H0 B H) (g : GrowK kp B H B2 H2) (hk : H0 kp = none) : Grow m B0 H0 B2 H2 := by
  have nk : ∀ {a : Addr} {o : HO}, H0 a = some o → a ≠ kp := fun {a o} h z => by subst z; rw [hk] at h; cases h
  refine ⟨fun a o z h => g.hh a o (nk h) (g0.hh a o z h), g0.bb.trans g.bb, g.bh, fun a o h => ?_, fun a h => g0.al a (g.al a h), fun a z ⟨x, y, h1, h2, q⟩ => ?_⟩
  · rcases g.new a o h with w | w | w
    · exact g0.new a o w
    · exact .inr (g0.al a w)
    · rw [w]; exact .inr hk
  · obtain ⟨x', y', h1', h2', q'⟩ := g0.pot a z ⟨x, y, h1, h2, q⟩
    exact ⟨x', y', h1', h2', g.hh a _ (nk q) q'⟩
def S_errrows (CW C : Addr) : Sp := fun vs H Q _ => ∃ v d kp B, vs = [v] ∧ Ext B H ∧ (oWk CW C).r B v (d, kp) ∧ H kp = some (.lst []) ∧ B kp = none ∧ ErrOk d ∧ ∀ u B' H', GrowK kp B H B' H' → (oL (oL (oQ C))).r B' u (errM d) → Q u H'
/-- a walk and what it keeps -/
def oW2 (CW C : Addr) : Rep ((Wd × Addr) × Mq) := ⟨fun H v d => (oWk CW C).r H v d.1 ∧ (oL (oL (oL (oQ C)))).r H (.ref d.1.2) [d.2], fun x h => ⟨(oWk CW C).mono x h.1, (oL (oL (oL (oQ C)))).mono x h.2⟩⟩
section
variable {X : Cx} {Φ : Fm} {e a b : Expr} {pos p pos' : Pos} {CW C : Addr}
theorem pv_wkKept {d : (Wd × Addr) × Mq} (n1 : NoAttr X.K CW "own_kept") (hc : Cls X.K CW) (he : PD X Φ e (oW2 CW C) d) (hb : attributeBase e "own_kept" X.env (eval e X.env) = eval e X.env := by rfl) : PD X Φ (.Attribute e "own_kept" pos) (oL (oL (oL (oQ C)))) [d.2] :=
  pv_of (pe_fld pe_sem hb) fun σ B H hs Q k => he.ev σ B H hs _ fun v d' B1 H1 g rr hd => by
    subst hd
    obtain ⟨⟨a, dx, v1, v2, h1, h2, h3, h4⟩, h5⟩ := rr
    exact ⟨a, CW, dx, _, .ref d'.1.2, h1, g.bh _ _ h2, hc, n1, rfl, k _ _ B1 H1 g h5 rfl⟩
end
section
variable {P : Program} {w : World} {K : PySem.W.Frag} {mg : Str → Option Value} {base : Heap} {f fi CK CW fK fW : Addr} {k : Nat}
theorem sc72 : FnScope ["walk", "row"] ["walk"] (defScope (top 72)) := ⟨rfl, rfl, rfl, by decide +kernel, rfl, by decide +kernel, by decide +kernel⟩
theorem sc74 : FnScope ["walk", "function", "told", "worths"] ["walk", "function"] (defScope (top 74)) := ⟨rfl, rfl, rfl, by decide +kernel, rfl, by decide +kernel, by decide +kernel⟩
theorem ite_go {p q : Prop} (h : p) : if true = true then p else q := h
theorem errM_len (d : Wd) : (errM d).length = d.2.length := by unfold errM errT; rw [List.length_map, List.length_range]
theorem m_error_rows (T : Tx K mg) (O : Oc K mg "Walk" CW fW) (w3 : NoAttr K CW "own_kept") (F : Df K "error_rows" "error_rows" (top 72) f) (c1 : Ca P w K mg base 7 "error_made" (S_errmade CW T.C)) : Me P w K mg base 8 f (S_errrows CW T.C) := by
  refine me_of (k := 7) (ps := ["walk"]) F sc72 (fun _ _ _ _ _ _ us hl => match us, hl with | [_], _ => rfl) (fun vs H Q E ⟨v, d, kp, B, h, _⟩ => by subst h; rfl) fun cdv A outer s H vs Q E hr ⟨v0, d, kp, B, h, hx, hw, hk, hkB, hok, kk⟩ => ?_
  subst h
  have hsl : d.2.length ≤ 400 := by have := hok.back.n; have := hok.back.sh; omega
  have go : SV (xof P w K mg base ["walk", "row"] "error_rows" (top 72) f cdv A outer s H E) ⟨[some (.kn (oWk CW T.C) (d, kp)), none], none, B, H, B⟩ { nx := fun _ H' => Q .non H', rt := Q } (defBody (top 72)) := by
    refine sv_of (pss_cons (ps_if (pt_cmpR (op_eqD hr.units) (pe_fld (pe_var (i := 0) rfl (.inl rfl)) rfl) (pe_lst pa_nil) (nomark _)) (pss_one (ps_expr (pe_bm PySem.F.plainAttrs_list PySem.F.slot_list_append PySem.F.type_list_append mt_append (pe_fld (pe_var (i := 0) rfl (.inl rfl)) rfl) (pa_cons (pe_ca c1 hr (pa_cons (pe_var (i := 0) rfl (.inl rfl)) pa_nil)) pa_nil)))) pss_nil) pss_sem) fun σ B1 H1 hs => ?_
    obtain ⟨x0, y0, v1, y1, y2⟩ := hs.at_ 0 (.kn (oWk CW T.C) (d, kp)) rfl
    subst y1
    have g1 : Grow none B H B1 H1 := hs.g
    have hk1 : H1 kp = some (.lst []) := g1.ext _ _ hk
    have hkB1 : B1 kp = none := by
      cases q : B1 kp with
      | none => rfl
      | some o =>
        rcases g1.new _ _ q with z | z
        · rw [hkB] at z; cases z
        · rw [hk] at z; cases z
    obtain ⟨a, dx, u1, u2, e1, e2, e3, e4⟩ := id y2
    refine ⟨v1, y0, a, CW, dx, _, .ref kp, e1, g1.bh _ _ e2, O.cls, w3, rfl, Nat.zero_le _, fun l hl => ?_⟩
    have nkl : kp ≠ l := fun z => by subst z; rw [hk1] at hl; cases hl
    refine ⟨.list [], .list [], .lst (SqL.of (by rw [upd_ne nkl]; exact hk1)) .nil, .lst (SqL.of upd_same) .nil, PySem.W.ke_shaped_ints [], PySem.W.ke_shaped_ints [], true, rfl, ?_⟩
    refine ite_go ?_
    have gl : Grow none B1 H1 B1 (upd H1 l (.lst [])) := .lay g1.bh hl
    have e2' : upd H1 l (.lst []) a = some (.ins CW dx [("own_rows", u1), ("own_shares", u2), ("own_kept", .ref kp)]) := gl.bh _ _ e2
    have hk2 : upd H1 l (.lst []) kp = some (.lst []) := by rw [upd_ne nkl]; exact hk1
    refine ⟨v1, y0, a, CW, dx, _, .ref kp, e1, e2', O.cls, w3, rfl, .inl ⟨rfl, [], SqL.of hk2⟩, v1, y0, v1, (d, kp), B1, rfl, gl.bh, y2, hok, fun u z B2 H2 g2 r2 hz => ?_⟩
    subst hz
    have hk3 : H2 kp = some (.lst []) := g2.ext _ _ hk2
    have hkB2 : B2 kp = none := by
      cases q : B2 kp with
      | none => rfl
      | some o =>
        rcases g2.new _ _ q with z | z
        · rw [hkB1] at z; cases z
        · rw [hk2] at z; cases z
    refine ⟨kp, [], u, rfl, rfl, hk3, by decide, ?_⟩
    obtain ⟨H3, eH3⟩ : ∃ H3 : Hp, H3 = upd H2 kp (.lst [u]) := ⟨_, rfl⟩
    show semS _ _ _ σ (upd H2 kp (.lst [u]))
    rw [← eH3]
    obtain ⟨B3, eB3⟩ : ∃ B3 : Hp, B3 = upd B2 kp (.lst [u]) := ⟨_, rfl⟩
    have x23 : Ext B2 B3 := by rw [eB3]; exact Ext.upd hkB2
    have x3 : Ext B3 H3 := by rw [eB3, eH3]; exact ext_upd g2.bh
    have gk : GrowK kp B H B3 H3 := by
      have ga : GrowK kp B H B2 H2 := .of ((g1.trans gl).trans g2)
      refine ⟨fun b o z h => by rw [eH3, upd_ne z]; exact ga.hh b o z h, ga.bb.trans x23, x3, fun b o h => ?_, fun b h => ga.al b (by rw [eH3] at h; exact upd_al h)⟩
      by_cases z : b = kp
      · exact .inr (.inr z)
      · rw [eB3, upd_ne z] at h; exact ga.new b o h
    have s3 : Stt ⟨[some (.kn (oW2 CW T.C) ((d, kp), errM d)), none], none, B3, H3, B3⟩ σ B3 H3 := by
      refine ⟨hs.len, fun i s' hi => ?_, fun i j s' t p hi hj es et => ?_, .refl x3, Ext.rfl', fun _ z => nomatch z⟩
      · match i, hi with
        | 0, hi =>
          cases hi
          refine ⟨_, y0, v1, rfl, (oWk CW T.C).mono (g2.bb.trans x23) y2, kp, [u], rfl, by rw [eB3]; exact upd_same, .cons ((oL (oL (oQ _))).mono x23 r2) .nil, by show 1 ≤ 1000; decide⟩
        | 1, hi => cases hi
        | i + 2, hi => cases hi
      · match i, hi with
        | 0, hi => cases hi; cases es
        | 1, hi => cases hi
        | i + 2, hi => cases hi
    refine semS_mono ((sv_retE (Φ := ⟨[some (.kn (oW2 CW T.C) ((d, kp), errM d)), none], none, B3, H3, B3⟩) (D := endR none B3 H3 (oL (oL (oQ T.C))) (fun z => z = errM d)) (r := oL (oL (oQ T.C))) ?_ rfl rfl rfl rfl) σ B3 H3 s3) (fun σ' H' ⟨z, B', g, hz, po⟩ => by subst po; exact kk _ B' H' (gk.trans (.of g)) hz) (fun v' H' ⟨z, B', g, hz, po⟩ => by subst po; exact kk _ B' H' (gk.trans (.of g)) hz)
    refine PV.to (pv_lc (own := [("row", 1)]) (r2 := oL (oQ T.C)) (errM d) rfl sc72.nd (piv_seq (pvS (pv_ix 0 (pvS (pv_wkKept w3 O.cls (pv_var (i := 0) (r := oW2 CW T.C) (d := ((d, kp), errM d)) rfl))) pv_int rfl rfl))) (blkOk_by (N := ["walk", "row"]) (sc := defScope (top 72)) (by decide +kernel)) (fun _ _ _ _ _ => pg_name (i := 1) sc72.nd rfl (Or.inl rfl)) tg_name (free1 rfl) rfl (by rw [errM_len]; omega) fun i hi r hr y hy _ _ _ _ _ => ?_) rfl
    rw [hr] at hy
    exact PV.to (pv_listOf (pvS (pv_var (i := 1) (r := oL (oQ T.C)) (d := r) rfl)) T.b_list) (Option.some.inj hy)
  exact go _ B H (stt_start (N := ["walk", "row"]) (vs := [v0]) (m := none) (Γ0 := [some (.kn (oWk CW T.C) (d, kp))]) hx (fun a z => nomatch z) rfl (Nat.le_of_ble_eq_true rfl) fun i s' hi => by
    match i, hi with
    | 0, hi => cases hi; exact ⟨_, rfl, rfl, _, rfl, hw⟩)
theorem sv_expr {X : Cx} {Φ : Fm} {D : Ends} {rest : List Stmt} {e : Expr} {pos : Pos} {α : Type} {r : Rep α} {P : α → Prop} (he : PV X Φ e r P) (hr : SV X Φ D rest) (hs : swapsWith e none pos.line X.env = pure false := by rfl) : SV X Φ D (.Expr e pos :: rest) :=
  sv_step (ps_expr pe_sem hs) fun σ B H hst => he.ev σ B H hst _ fun v d B1 H1 g rr p => hr σ B1 H1 (hst.grow g)
structure ErOk (d : Wd) (ds : List Rat) : Prop where
  err : ErrOk d
  len : d.1.length = ds.length
  pos : ∃ n, AllPos d.1 n
  dots : ∀ r ∈ errM d, DotOk r ds
  dot : DotOk ds ((errM d).map fun r => dotM r ds)
def worthM (form : Mq) (ds : List Rat) : Rat := dotM ds (form.map fun r => dotM r ds)
def S_error (CW C : Addr) : Sp := fun vs H Q _ => ∃ v d kp v2 ds B, vs = [v, v2] ∧ Ext B H ∧ (oWk CW C).r B v (d, kp) ∧ H kp = some (.lst []) ∧ B kp = none ∧ (oS (oN C)).r B v2 ds ∧ ErOk d ds ∧ ∀ u B' H', GrowK kp B H B' H' → (oQ C).r B' u (worthM (errM d) ds) → Q u H'
theorem m_error (T : Tx K mg) (F : Df K "error" "error" (top 74) f) (c1 : Ca P w K mg base 1 "want_walk" (S_want_walk CW T.C)) (c2 : Ca P w K mg base 6 "want_function" (S_wantf CW T.C)) (c3 : Ca P w K mg base 6 "want_whole" (S_wantwhole CW T.C)) (c4 : Ca P w K mg base 8 "error_rows" (S_errrows CW T.C)) (c5 : Ca P w K mg base 8 "worth_of" (S_worth T.C)) : Me P w K mg base 9 f (S_error CW T.C) := by
  refine me_of (k := 8) (ps := ["walk", "function"]) F sc74 (fun _ _ _ _ _ _ us hl => match us, hl with | [_, _], _ => rfl) (fun vs H Q E ⟨v, d, kp, v2, ds, B, h, _⟩ => by subst h; rfl) fun cdv A outer s H vs Q E hr ⟨v0, d, kp, v2, ds, B, h, hx, hw, hk, hkB, hd, hok, kk⟩ => ?_
  subst h
  have hsl : d.2.length ≤ 400 := by have := hok.err.back.n; have := hok.err.back.sh; omega
  have hdl : ds.length ≤ 400 := by have := hok.err.back.n; have := hok.len; omega
  have go : SV (xof P w K mg base ["walk", "function", "told", "worths"] "error" (top 74) f cdv A outer s H E) ⟨[some (.kn (oWk CW T.C) (d, kp)), some (.kn (oS (oN T.C)) ds), none, none], none, B, H, B⟩ { nx := fun _ H' => Q .non H', rt := Q } (defBody (top 74)) := by
    refine sv_setD (i := 2) (r := oWk CW T.C) (d := (d, kp)) (pv_call1 c1 (hr.mono (by decide)) (p1 := fun z => z = (d, kp)) (pv_var (i := 0) (r := oWk CW T.C) (d := (d, kp)) rfl) fun x hx => ⟨trivial, fun z hz => by rw [hz, hx]⟩) ?_ sc74.nd
    refine sv_setD (i := 3) (r := oL (oQ T.C)) (d := ds) (pv_call2 c2 (hr.mono (by decide)) (p1 := fun z => z = (d, kp)) (p2 := fun z => z = ds) (pv_var (i := 2) (r := oWk CW T.C) (d := (d, kp)) rfl) (pv_var (i := 1) (r := oS (oN T.C)) (d := ds) rfl) fun x y hx hy => ⟨by subst hx hy; exact ⟨hok.len, by omega⟩, fun z hz => by rw [hz, hy]⟩) ?_ sc74.nd
    refine sv_expr (r := oZ) (P := fun _ => True) (pv_call1 c3 (hr.mono (by decide)) (p1 := fun z => z = (d, kp)) (pv_var (i := 2) (r := oWk CW T.C) (d := (d, kp)) rfl) fun x hx => ⟨by subst hx; exact hok.pos, fun z _ => trivial⟩) ?_
    refine sv_of (pss_one (ps_ret (pe_ca c5 hr (pa_cons (pe_ca c4 hr (pa_cons (pe_var (i := 2) rfl (.inl rfl)) pa_nil)) (pa_cons (pe_var (i := 3) rfl (.inl rfl)) pa_nil))))) fun σ B1 H1 hs => ?_
    obtain ⟨x0, y0, v1, y1, y2⟩ := hs.at_ 2 (.kn (oWk CW T.C) (d, kp)) rfl
    obtain ⟨x3, z0, v3, z1, z2⟩ := hs.at_ 3 (.kn (oL (oQ T.C)) ds) rfl
    subst y1 z1
    have g1 : Grow none B H B1 H1 := hs.g
    have hkB1 : B1 kp = none := by
      cases q : B1 kp with
      | none => rfl
      | some o =>
        rcases g1.new _ _ q with z | z
        · rw [hkB] at z; cases z
        · rw [hk] at z; cases z
    refine ⟨v1, y0, v1, d, kp, B1, rfl, g1.bh, y2, g1.ext _ _ hk, hkB1, hok.err, fun u B2 H2 g2 r2 => ?_⟩
    refine ⟨v3, z0, u, errM d, v3, ds, B2, rfl, g2.bh, r2, (oL (oQ T.C)).mono g2.bb z2, ⟨by rw [errM_len]; omega, hok.dots, hok.dot⟩, fun u2 z B3 H3 g3 r3 hz => ?_⟩
    subst hz
    exact kk u2 B3 H3 (((GrowK.of g1).trans g2).trans (.of g3)) r3
  exact go _ B H (stt_start (N := ["walk", "function", "told", "worths"]) (vs := [v0, v2]) (m := none) (Γ0 := [some (.kn (oWk CW T.C) (d, kp)), some (.kn (oS (oN T.C)) ds)]) hx (fun a z => nomatch z) rfl (Nat.le_of_ble_eq_true rfl) fun i s' hi => by
    match i, hi with
    | 0, hi => cases hi; exact ⟨_, rfl, rfl, _, rfl, hw⟩
    | 1, hi => cases hi; exact ⟨_, rfl, rfl, _, rfl, hd⟩)
end
end Wk

end
section
set_option Elab.async false
set_option linter.all false
set_option maxRecDepth 100000
set_option maxHeartbeats 2000000
set_option exponentiation.threshold 100000
/-! parts: grids. -/
namespace Wk
open PySem PySem.Spec PyProof.Rows L2 Ru RZ Rp
open Hd (top)
structure GridOk (g : Mq) (n m : Nat) : Prop where
  n1 : 2 ≤ n
  n2 : n ≤ 3
  m1 : 2 ≤ m
  m2 : m ≤ 3
  nm : m * n ≤ 6
  len : g.length = n
  wide : ∀ r ∈ g, r.length = m
  pos : ∀ r ∈ g, ∀ q ∈ r, 0 < q
def ovM (ds : List Rat) : List Rat := ds.map fun q => q / sumQ ds
structure OvOk (ds : List Rat) : Prop where
  fit : FitL ds
  ne : sumQ ds ≠ 0
  len : ds.length ≤ 900
def sbf (g : Mq) : Mq := g.map ovM
def tr (g : Mq) : Mq := trM (g.getD 0 []).length g
def fbs (g : Mq) : Mq := sbf (tr g)
structure TrOk (g : Mq) : Prop where
  ne : g ≠ []
  len : g.length ≤ 900
  wide : ∃ m, m ≤ 900 ∧ ∀ r ∈ g, r.length = m
structure SbfOk (g : Mq) : Prop where
  len : g.length ≤ 900
  rows : ∀ r ∈ g, OvOk r
def sumsM (g : Mq) : List Rat := ovM (g.map sumQ)
def seenM (g : Mq) : Wd := (prodM (sbf g) (fbs g), sumsM g)
structure SeenOk (g : Mq) : Prop where
  s1 : SbfOk g
  t1 : TrOk g
  s2 : SbfOk (tr g)
  p1 : ProdOk (sbf g) (fbs g)
  fits : ∀ r ∈ g, FitL r
  ov : OvOk (g.map sumQ)
abbrev S_isweight (C : Addr) : Sp := sp1 (oN C) oB (fun q => 0 < q) (fun _ z => z = true)
abbrev S_isgridrow (C : Addr) : Sp := sp2 oI (oS (oN C)) oB (fun i ds => i = (ds.length : Int) ∧ ds.length ≤ 900 ∧ ∀ q ∈ ds, 0 < q) (fun _ _ z => z = true)
abbrev S_wantgrid (C : Addr) : Sp := sp1 (oS (oS (oN C))) (oL (oL (oQ C))) (fun g => ∃ n m, GridOk g n m) (fun g z => z = g)
abbrev S_overall (C : Addr) : Sp := sp1 (oL (oQ C)) (oL (oQ C)) OvOk (fun ds z => z = ovM ds)
abbrev S_sharesof (C : Addr) : Sp := sp1 (oL (oL (oQ C))) (oL (oQ C)) (fun g => OvOk g.flatten) (fun g z => z = ovM g.flatten)
abbrev S_sumsof (C : Addr) : Sp := sp1 (oL (oL (oQ C))) (oL (oQ C)) (fun g => g.length ≤ 900 ∧ (∀ r ∈ g, FitL r) ∧ OvOk (g.map sumQ)) (fun g z => z = sumsM g)
abbrev S_sbf (C : Addr) : Sp := sp1 (oL (oL (oQ C))) (oL (oL (oQ C))) SbfOk (fun g z => z = sbf g)
abbrev S_fbs (C : Addr) : Sp := sp1 (oL (oL (oQ C))) (oL (oL (oQ C))) (fun g => TrOk g ∧ SbfOk (tr g)) (fun g z => z = fbs g)
abbrev S_seenwalk (CW C : Addr) : Sp := spW1 CW C (oL (oL (oQ C))) SeenOk seenM
abbrev S_givenof (C : Addr) : Sp := sp2 (oL (oL (oQ C))) (oL (oQ C)) (oL (oQ C)) (fun g ds => TrOk g ∧ SbfOk (tr g) ∧ (fbs g).length ≤ 900 ∧ ∀ r ∈ fbs g, DsOk r ds) (fun g ds z => z = (fbs g).map fun r => dsM r ds)
section
variable {P : Program} {w : World} {K : PySem.W.Frag} {mg : Str → Option Value} {base : Heap} {f fi CK CW fK fW : Addr} {k : Nat}
theorem sc78 : FnScope ["value"] ["value"] (defScope (top 78)) := ⟨rfl, rfl, rfl, by decide +kernel, rfl, by decide +kernel, by decide +kernel⟩
theorem sc79 : FnScope ["wide", "value", "number"] ["wide", "value"] (defScope (top 79)) := ⟨rfl, rfl, rfl, by decide +kernel, rfl, by decide +kernel, by decide +kernel⟩
theorem sc80 : FnScope ["value", "wide", "row", "number"] ["value"] (defScope (top 80)) := ⟨rfl, rfl, rfl, by decide +kernel, rfl, by decide +kernel, by decide +kernel⟩
theorem sc81 : FnScope ["numbers", "total", "number"] ["numbers"] (defScope (top 81)) := ⟨rfl, rfl, rfl, by decide +kernel, rfl, by decide +kernel, by decide +kernel⟩
theorem sc82 : FnScope ["grid", "found", "row"] ["grid"] (defScope (top 82)) := ⟨rfl, rfl, rfl, by decide +kernel, rfl, by decide +kernel, by decide +kernel⟩
theorem sc83 : FnScope ["grid", "row"] ["grid"] (defScope (top 83)) := ⟨rfl, rfl, rfl, by decide +kernel, rfl, by decide +kernel, by decide +kernel⟩
theorem sc84 : FnScope ["grid", "row"] ["grid"] (defScope (top 84)) := ⟨rfl, rfl, rfl, by decide +kernel, rfl, by decide +kernel, by decide +kernel⟩
theorem sc85 : FnScope ["grid"] ["grid"] (defScope (top 85)) := ⟨rfl, rfl, rfl, by decide +kernel, rfl, by decide +kernel, by decide +kernel⟩
theorem sc88 : FnScope ["grid"] ["grid"] (defScope (top 88)) := ⟨rfl, rfl, rfl, by decide +kernel, rfl, by decide +kernel, by decide +kernel⟩
theorem sc89 : FnScope ["grid", "function", "row"] ["grid", "function"] (defScope (top 89)) := ⟨rfl, rfl, rfl, by decide +kernel, rfl, by decide +kernel, by decide +kernel⟩
theorem m_is_weight (T : Tx K mg) (R : Rq P w K mg base T.C) (F : Df K "is_weight" "is_weight" (top 78) f) (c1 : Ca P w K mg base 2 "is_number" (S_is_number T.C)) (c2 : Ca P w K mg base 4 "ratio_of" (S_ratio_of T.C)) : Me P w K mg base 5 f (S_isweight T.C) := by
  refine me1 (k := 4) F sc78 (fun _ _ _ _ _ _ us hl => match us, hl with | [_], _ => rfl) (by decide) fun q hq B cdv A outer s H E hr _ => ?_
  exact sv_retE (r := oB) (PV.to (pv_and2 (p := true) (q := decide ((0 : Int) < sg q)) (pv_call1 c1 (hr.mono (by decide)) (p1 := fun z => z = q) (pv_var (i := 0) (r := oN T.C) (d := q) rfl) fun d hd => ⟨trivial, fun z hz => hz⟩) fun _ => pv_cmp op_gt (pv_sign R (hr.mono (by decide)) (pv_call1 c2 hr (p1 := fun z => z = q) (Pq := fun z => z = q) (pv_var (i := 0) (r := oN T.C) (d := q) rfl) fun d hd => ⟨trivial, fun z hz => by rw [hz, hd]⟩)) pv_int) (by rw [decide_eq_true (sg_pos hq)]; rfl)) rfl rfl rfl rfl
theorem m_is_grid_row (T : Tx K mg) (F : Df K "is_grid_row" "is_grid_row" (top 79) f) (c1 : Ca P w K mg base 1 "is_list" S_islist) (c2 : Ca P w K mg base 5 "is_weight" (S_isweight T.C)) : Me P w K mg base 6 f (S_isgridrow T.C) := by
  refine me2 (k := 5) F sc79 (fun _ _ _ _ _ _ us hl => match us, hl with | [_, _], _ => rfl) (by decide) fun i ds ⟨hi, hlen, hpos⟩ B cdv A outer s H E hr _ => ?_
  subst hi
  refine sv_retE (r := oB) (PV.to (pv_and3 (p := true) (q := decide ((ds.length : Int) = (ds.length : Int))) (s := (ds.map fun _ => true).all id) (pv_call1 c1 (hr.mono (by decide)) (pvV (pv_var (i := 1) (r := oS (oN T.C)) (d := ds) rfl)) fun d hd => ⟨trivial, fun z hz => hz⟩) (fun _ => pv_eqI (pv_len (pv_var (i := 1) (r := oS (oN T.C)) (d := ds) rfl) T.b_len) (pv_var (i := 0) (r := oI) (d := (ds.length : Int)) rfl)) fun _ _ => pv_all rfl (PV.to (pv_lc (own := [("number", 2)]) (r2 := oB) (ds.map fun _ => true) rfl sc79.nd (piv_seq (pv_var (i := 1) (r := oS (oN T.C)) (d := ds) rfl)) (blkOk_by (N := ["wide", "value", "number"]) (sc := defScope (top 79)) (by decide +kernel)) (fun _ _ _ _ _ => pg_name (i := 2) sc79.nd rfl (Or.inl rfl)) tg_name (free1 rfl) (by rw [List.length_map]) hlen fun i hi d hd y hy _ _ _ _ _ => ?_) rfl) T.b_all) (by simp)) rfl rfl rfl rfl
  rw [List.getElem?_map, hd] at hy
  exact pv_call1 c2 hr (p1 := fun z => z = d) (pv_var (i := 2) (r := oN T.C) (d := d) rfl) fun d' hd' => ⟨by subst hd'; exact hpos _ (mem_at hd), fun z hz => by rw [hz]; exact Option.some.inj hy⟩
theorem m_want_grid (T : Tx K mg) {t3 t6 : Tok} (g3 : mg "MOST_PARTS" = some (.int 3 t3)) (g6 : mg "MOST_PAIRS" = some (.int 6 t6)) (F : Df K "want_grid" "want_grid" (top 80) f) (c1 : Ca P w K mg base 1 "is_list" S_islist) (c2 : Ca P w K mg base 6 "is_grid_row" (S_isgridrow T.C)) (c3 : Ca P w K mg base 4 "ratio_of" (S_ratio_of T.C)) : Me P w K mg base 7 f (S_wantgrid T.C) := by
  refine me1 (k := 6) F sc80 (fun _ _ _ _ _ _ us hl => match us, hl with | [_], _ => rfl) (by decide) fun g ⟨n, m, h⟩ B cdv A outer s H E hr _ => ?_
  have n1 := h.n1; have n2 := h.n2; have m1 := h.m1; have m2 := h.m2; have nm := h.nm; have hl := h.len
  have hg0 : 0 < g.length := by omega
  have w0 : (g.getD 0 []).length = m := h.wide _ (mem_at (getD_at hg0))
  have hmn : decide ((6 : Int) < (m : Int) * (g.length : Int)) = false := decide_eq_false (by
    rw [hl]
    rcases (show m = 2 ∨ m = 3 by omega) with e | e
    · subst e; omega
    · subst e; omega)
  refine sv_ifret (q := false) (PVT.to (pt_or3 (p := false) (q := false) (s := false) (PVT.to (pt_notI (q := true) (pt_val1 (pv_call1 c1 (hr.mono (by decide)) (pvV (pv_var (i := 0) (r := oS (oS (oN T.C))) (d := g) rfl)) fun d hd => ⟨trivial, fun z hz => hz⟩))) rfl) (fun _ => PVT.to (pt_notI (pt_chainI op_le op_le pv_int (pv_len (pv_var (i := 0) (r := oS (oS (oN T.C))) (d := g) rfl) T.b_len) (pv_globI g3))) (by rw [decide_eq_true (by omega), decide_eq_true (by omega)]; rfl)) fun _ _ => PVT.to (pt_notI (q := true) (pt_val1 (pv_call1 c1 (hr.mono (by decide)) (pvV (pv_ix 0 (pv_var (i := 0) (r := oS (oS (oN T.C))) (d := g) rfl) pv_int rfl (getD_at (d := []) hg0))) fun d hd => ⟨trivial, fun z hz => hz⟩))) rfl) rfl) (fun h => nomatch h) fun _ => ?_
  refine sv_setD (i := 1) (r := oI) (d := (m : Int)) (PV.to (pv_len (pv_ix 0 (pv_var (i := 0) (r := oS (oS (oN T.C))) (d := g) rfl) pv_int rfl (getD_at (d := []) hg0)) T.b_len) (by rw [w0])) ?_ sc80.nd
  refine sv_ifret (q := false) (PVT.to (pt_or2 (p := false) (q := false) (PVT.to (pt_notI (pt_chainI op_le op_le pv_int (pv_var (i := 1) (r := oI) (d := (m : Int)) rfl) (pv_globI g3))) (by rw [decide_eq_true (by omega), decide_eq_true (by omega)]; rfl)) fun _ => PVT.to (pt_cmpI op_gt (pv_mul (pv_var (i := 1) (r := oI) (d := (m : Int)) rfl) (pv_len (pv_var (i := 0) (r := oS (oS (oN T.C))) (d := g) rfl) T.b_len) (wide_mul (a := 64) (b := 64) (by omega) (by omega) (by decide) (by decide) (by decide))) (pv_globI g6)) hmn) rfl) (fun h => nomatch h) fun _ => ?_
  refine sv_ifret (q := false) (PVT.to (pt_notI (q := true) (pt_val1 (PV.to (pv_all rfl (PV.to (pv_lc (own := [("row", 2)]) (r2 := oB) (g.map fun _ => true) rfl sc80.nd (piv_seq (pv_var (i := 0) (r := oS (oS (oN T.C))) (d := g) rfl)) (blkOk_by (N := ["value", "wide", "row", "number"]) (sc := defScope (top 80)) (by decide +kernel)) (fun _ _ _ _ _ => pg_name (i := 2) sc80.nd rfl (Or.inl rfl)) tg_name (free1 rfl) (by rw [List.length_map]) (by omega) fun i hi d hd y hy _ _ _ _ _ => ?_) rfl) T.b_all) (by simp)))) rfl) (fun h => nomatch h) fun _ => ?_
  · rw [List.getElem?_map, hd] at hy
    have hw := h.wide _ (mem_at hd)
    exact pv_call2 c2 hr (p1 := fun z => z = (m : Int)) (p2 := fun z => z = d) (pv_var (i := 1) (r := oI) (d := (m : Int)) rfl) (pv_var (i := 2) (r := oS (oN T.C)) (d := d) rfl) fun x y hx hy' => ⟨by subst hx hy'; exact ⟨by rw [hw], by omega, h.pos _ (mem_at hd)⟩, fun z hz => by rw [hz]; exact Option.some.inj hy⟩
  · refine sv_retE (r := oL (oL (oQ T.C))) ?_ rfl rfl rfl rfl
    refine PV.to (pv_lc (own := [("row", 2)]) (r2 := oL (oQ T.C)) g rfl sc80.nd (piv_seq (pv_var (i := 0) (r := oS (oS (oN T.C))) (d := g) rfl)) (blkOk_by (N := ["value", "wide", "row", "number"]) (sc := defScope (top 80)) (by decide +kernel)) (fun _ _ _ _ _ => pg_name (i := 2) sc80.nd rfl (Or.inl rfl)) tg_name (free1 rfl) rfl (by omega) fun i hi d hd y hy _ _ _ _ _ => ?_) rfl
    rw [hd] at hy
    have hw := h.wide _ (mem_at hd)
    refine PV.to (pv_lc (own := [("number", 3)]) (r2 := oQ T.C) d rfl sc80.nd (piv_seq (pv_var (i := 2) (r := oS (oN T.C)) (d := d) rfl)) (blkOk_by (N := ["value", "wide", "row", "number"]) (by rfl)) (fun _ _ _ _ _ => pg_name (i := 3) sc80.nd rfl (Or.inl rfl)) tg_name (free1 rfl) rfl (by omega) fun j hj e he y hy _ _ _ _ _ => ?_) (Option.some.inj hy)
    rw [he] at hy
    exact pv_call1 c3 (hr.mono (by decide)) (p1 := fun z => z = e) (pv_var (i := 3) (r := oN T.C) (d := e) rfl) fun d' hd' => ⟨trivial, fun z hz => by rw [hz, hd']; exact Option.some.inj hy⟩
theorem m_over_all (T : Tx K mg) (R : Rq P w K mg base T.C) (F : Df K "over_all" "over_all" (top 81) f) (c1 : Ca P w K mg base 5 "total_of" (S_total_of T.C)) : Me P w K mg base 6 f (S_overall T.C) := by
  refine me1 (k := 5) F sc81 (fun _ _ _ _ _ _ us hl => match us, hl with | [_], _ => rfl) (by decide) fun ds h B cdv A outer s H E hr _ => ?_
  have hs : Fit (sumQ ds) := by have := h.fit.2 ds.length (Nat.le_refl _); rwa [List.take_length] at this
  refine sv_setD (i := 1) (r := oQ T.C) (d := sumQ ds) (pv_call1 c1 hr (p1 := fun z => z = ds) (pvS (pv_var (i := 0) (r := oL (oQ T.C)) (d := ds) rfl)) fun d hd => ⟨by subst hd; exact h.fit, fun z hz => by subst hd; exact hz⟩) ?_ sc81.nd
  refine sv_retE (r := oL (oQ T.C)) (PV.to (pv_lc (own := [("number", 2)]) (r2 := oQ T.C) (ovM ds) rfl sc81.nd (piv_seq (pvS (pv_var (i := 0) (r := oL (oQ T.C)) (d := ds) rfl))) (blkOk_by (N := ["numbers", "total", "number"]) (sc := defScope (top 81)) (by decide +kernel)) (fun _ _ _ _ _ => pg_name (i := 2) sc81.nd rfl (Or.inl rfl)) tg_name (free1 rfl) (by unfold ovM; rw [List.length_map]) h.len fun i hi d hd y hy _ _ _ _ _ => ?_) rfl) rfl rfl rfl rfl
  unfold ovM at hy
  rw [List.getElem?_map, hd] at hy
  exact PV.to (pv_over R (hr.mono (by decide)) (pv_var (i := 2) (r := oQ T.C) (d := d) rfl) (pvN (pv_var (i := 1) (r := oQ T.C) (d := sumQ ds) rfl)) (h.fit.1 _ (mem_at hd)) hs h.ne) (Option.some.inj hy)
theorem m_sums_of (T : Tx K mg) (F : Df K "sums_of" "sums_of" (top 83) f) (c1 : Ca P w K mg base 5 "total_of" (S_total_of T.C)) (c2 : Ca P w K mg base 6 "over_all" (S_overall T.C)) : Me P w K mg base 7 f (S_sumsof T.C) := by
  refine me1 (k := 6) F sc83 (fun _ _ _ _ _ _ us hl => match us, hl with | [_], _ => rfl) (by decide) fun g ⟨hl, hf, ho⟩ B cdv A outer s H E hr _ => ?_
  refine sv_retE (r := oL (oQ T.C)) (pv_call1 c2 hr (p1 := fun z => z = g.map sumQ) (PV.to (pv_lc (own := [("row", 1)]) (r2 := oQ T.C) (g.map sumQ) rfl sc83.nd (piv_seq (pvS (pv_var (i := 0) (r := oL (oL (oQ T.C))) (d := g) rfl))) (blkOk_by (N := ["grid", "row"]) (sc := defScope (top 83)) (by decide +kernel)) (fun _ _ _ _ _ => pg_name (i := 1) sc83.nd rfl (Or.inl rfl)) tg_name (free1 rfl) (by rw [List.length_map]) hl fun i hi d hd y hy _ _ _ _ _ => ?_) rfl) fun d hd => ⟨by subst hd; exact ho, fun z hz => by subst hd; exact hz⟩) rfl rfl rfl rfl
  rw [List.getElem?_map, hd] at hy
  exact pv_call1 c1 (hr.mono (by decide)) (p1 := fun z => z = d) (pvS (pv_var (i := 1) (r := oL (oQ T.C)) (d := d) rfl)) fun d' hd' => ⟨by subst hd'; exact hf _ (mem_at hd), fun z hz => by subst hd'; rw [hz]; exact Option.some.inj hy⟩
theorem m_sbf (T : Tx K mg) (F : Df K "second_by_first" "second_by_first" (top 84) f) (c1 : Ca P w K mg base 6 "over_all" (S_overall T.C)) : Me P w K mg base 7 f (S_sbf T.C) := by
  refine me1 (k := 6) F sc84 (fun _ _ _ _ _ _ us hl => match us, hl with | [_], _ => rfl) (by decide) fun g h B cdv A outer s H E hr _ => ?_
  refine sv_retE (r := oL (oL (oQ T.C))) (PV.to (pv_lc (own := [("row", 1)]) (r2 := oL (oQ T.C)) (sbf g) rfl sc84.nd (piv_seq (pvS (pv_var (i := 0) (r := oL (oL (oQ T.C))) (d := g) rfl))) (blkOk_by (N := ["grid", "row"]) (sc := defScope (top 84)) (by decide +kernel)) (fun _ _ _ _ _ => pg_name (i := 1) sc84.nd rfl (Or.inl rfl)) tg_name (free1 rfl) (by unfold sbf; rw [List.length_map]) h.len fun i hi d hd y hy _ _ _ _ _ => ?_) rfl) rfl rfl rfl rfl
  unfold sbf at hy
  rw [List.getElem?_map, hd] at hy
  exact pv_call1 c1 hr (p1 := fun z => z = d) (pv_var (i := 1) (r := oL (oQ T.C)) (d := d) rfl) fun d' hd' => ⟨by subst hd'; exact h.rows _ (mem_at hd), fun z hz => by subst hd'; rw [hz]; exact Option.some.inj hy⟩
theorem m_fbs (T : Tx K mg) (F : Df K "first_by_second" "first_by_second" (top 85) f) (c1 : Ca P w K mg base 1 "turned_of" (S_turned T.C)) (c2 : Ca P w K mg base 7 "second_by_first" (S_sbf T.C)) : Me P w K mg base 8 f (S_fbs T.C) := by
  refine me1 (k := 7) F sc85 (fun _ _ _ _ _ _ us hl => match us, hl with | [_], _ => rfl) (by decide) fun g ⟨h1, h2⟩ B cdv A outer s H E hr _ => ?_
  exact sv_retE (r := oL (oL (oQ T.C))) (pv_call1 c2 hr (p1 := fun z => z = tr g) (pv_call1 c1 (hr.mono (by decide)) (p1 := fun z => z = g) (pv_var (i := 0) (r := oL (oL (oQ T.C))) (d := g) rfl) fun d hd => ⟨by subst hd; exact ⟨h1.ne, h1.len, h1.wide⟩, fun z hz => by subst hd; exact hz⟩) fun d hd => ⟨by subst hd; exact h2, fun z hz => by subst hd; exact hz⟩) rfl rfl rfl rfl
theorem m_seen_walk (T : Tx K mg) (F : Df K "seen_walk" "seen_walk" (top 88) f) (c1 : Ca P w K mg base 7 "second_by_first" (S_sbf T.C)) (c2 : Ca P w K mg base 8 "first_by_second" (S_fbs T.C)) (c3 : Ca P w K mg base 7 "product_of" (S_prod T.C)) (c4 : Ca P w K mg base 7 "sums_of" (S_sumsof T.C)) (c5 : Ca P w K mg base 3 "walk_made" (S_walk_made CW T.C)) : Me P w K mg base 9 f (S_seenwalk CW T.C) := by
  refine me_of (k := 8) (ps := ["grid"]) F sc88 (fun _ _ _ _ _ _ us hl => match us, hl with | [_], _ => rfl) (fun vs H Q E ⟨v, d, B, h, _⟩ => by subst h; rfl) fun cdv A outer s H vs Q E hr ⟨v1, g, B, h, hx, h1, hok, kk⟩ => ?_
  subst h
  have go : SV (xof P w K mg base ["grid"] "seen_walk" (top 88) f cdv A outer s H E) ⟨[some (.kn (oL (oL (oQ T.C))) g)], none, B, H, B⟩ { nx := fun _ H' => False, rt := (endW CW T.C B H (seenM g)).rt } (defBody (top 88)) := by
    refine sv_retW (CW := CW) (C := T.C) (d := seenM g) (B0 := B) (H0 := H) ?_ rfl rfl rfl rfl
    exact pvw_call2 c5 (hr.mono (by decide)) (p1 := fun z => z = prodM (sbf g) (fbs g)) (p2 := fun z => z = sumsM g) (pv_call2 c3 (hr.mono (by decide)) (p1 := fun z => z = sbf g) (p2 := fun z => z = fbs g) (pv_call1 c1 (hr.mono (by decide)) (p1 := fun z => z = g) (pv_var (i := 0) (r := oL (oL (oQ T.C))) (d := g) rfl) fun d hd => ⟨by subst hd; exact hok.s1, fun z hz => by subst hd; exact hz⟩) (pv_call1 c2 hr (p1 := fun z => z = g) (pv_var (i := 0) (r := oL (oL (oQ T.C))) (d := g) rfl) fun d hd => ⟨by subst hd; exact ⟨hok.t1, hok.s2⟩, fun z hz => by subst hd; exact hz⟩) fun x y hx hy => ⟨by subst hx hy; exact hok.p1, fun z hz => by subst hx hy; exact hz⟩) (pv_call1 c4 (hr.mono (by decide)) (p1 := fun z => z = g) (pv_var (i := 0) (r := oL (oL (oQ T.C))) (d := g) rfl) fun d hd => ⟨by subst hd; exact ⟨hok.s1.len, hok.fits, hok.ov⟩, fun z hz => by subst hd; exact hz⟩) fun x y hx hy => ⟨by subst hx; show (prodM (sbf g) (fbs g)).length ≤ 900; unfold prodM sbf; rw [List.length_map, List.length_map]; exact hok.s1.len, by subst hx hy; rfl⟩
  exact semS_mono (go _ B H (stt_start (N := ["grid"]) (vs := [v1]) (m := none) (Γ0 := [some (.kn (oL (oL (oQ T.C))) g)]) hx (fun a z => nomatch z) rfl (Nat.le_of_ble_eq_true rfl) fun i s' hi => by
    match i, hi with
    | 0, hi => cases hi; exact ⟨_, rfl, rfl, _, rfl, h1⟩)) (fun _ _ z => z.elim) (fun v' H' ⟨kp, B', g, wq⟩ => kk v' kp B' H' g wq)
theorem m_given_of (T : Tx K mg) (F : Df K "given_of" "given_of" (top 89) f) (c1 : Ca P w K mg base 8 "first_by_second" (S_fbs T.C)) (c2 : Ca P w K mg base 4 "dot_strays" (S_ds T.C)) : Me P w K mg base 9 f (S_givenof T.C) := by
  refine me2 (k := 8) F sc89 (fun _ _ _ _ _ _ us hl => match us, hl with | [_, _], _ => rfl) (by decide) fun g ds ⟨h1, h2, h3, h4⟩ B cdv A outer s H E hr _ => ?_
  refine sv_retE (r := oL (oQ T.C)) (PV.to (pv_lc (own := [("row", 2)]) (r2 := oQ T.C) ((fbs g).map fun r => dsM r ds) rfl sc89.nd (piv_seq (pvS (pv_call1 c1 hr (p1 := fun z => z = g) (Pq := fun z => z = fbs g) (pv_var (i := 0) (r := oL (oL (oQ T.C))) (d := g) rfl) fun d hd => ⟨by subst hd; exact ⟨h1, h2⟩, fun z hz => by subst hd; exact hz⟩))) (blkOk_by (N := ["grid", "function", "row"]) (sc := defScope (top 89)) (by decide +kernel)) (fun _ _ _ _ _ => pg_name (i := 2) sc89.nd rfl (Or.inl rfl)) tg_name (free1 rfl) (by rw [List.length_map]) h3 fun i hi d hd y hy _ _ _ _ _ => ?_) rfl) rfl rfl rfl rfl
  rw [List.getElem?_map, hd] at hy
  exact pv_call2 c2 (hr.mono (by decide)) (p1 := fun z => z = d) (p2 := fun z => z = ds) (pv_var (i := 2) (r := oL (oQ T.C)) (d := d) rfl) (pv_var (i := 1) (r := oL (oQ T.C)) (d := ds) rfl) fun x y hx hy' => ⟨by subst hx hy'; exact h4 _ (mem_at hd), fun z hz => by subst hx hy'; rw [hz]; exact Option.some.inj hy⟩
end
end Wk

end
section
set_option Elab.async false
set_option linter.all false
set_option maxRecDepth 100000
set_option maxHeartbeats 2000000
set_option exponentiation.threshold 100000
/-! parts: the rest. -/
namespace Wk
open PySem PySem.Spec PyProof.Rows L2 Ru RZ Rp
open Hd (top)
section
variable {X : Cx} {Φ : Fm} {e a b : Expr} {pos p pos' : Pos} {CW C : Addr} {α : Type} {r : Rep α} {D : Ends} {rest : List Stmt}
/-- xs.extend(e) -/
theorem sv_extend {i : Nat} {x : Str} {q : Addr} {ds zs : List α} {px apos : Pos} (h : Φ.Γ[i]? = some (some (.ow q r ds))) (he : PD X Φ e (oL r) zs) (hl : ds.length + zs.length ≤ 900) (hr : SV X (Φ.put i (.ow q r (ds ++ zs))) D rest)
    (hN : X.N[i]? = some x := by rfl) (hv : Vis X.env.scope x := by first | exact .inl rfl | exact .inr (.inl rfl) | exact .inr (.inr rfl)) (hd : (x == ("__debug__" : Str)) = false := by decide) (hcd : (x == ("__classdict__" : Str)) = false := by decide)
    (hbase : attributeBase (.Name x px) "extend" X.env (eval (.Name x px) X.env) = eval (.Name x px) X.env := by rfl) (hline : (apos.endLine == p.line) = true := by rfl) (hst : starEach [e] X.env = (false, eval e X.env) :: starEach [] X.env := by rfl)
    (hfew : ((backTo p (starEach [e] X.env)).all (fun x => !x.1) && (backToKw p (keywordEach [] X.env)).all (fun x => x.1.isSome) && decide (([e] : List Expr).length + ([] : List Keyword).length + (if ([] : List Keyword).isEmpty then 0 else 1) < 30)) = true := by rfl)
    (hplain : (backTo p (starEach [] X.env)).any (·.1) = false := by rfl) (hsw : swapsWith (.Call (.Attribute (.Name x px) "extend" apos) [e] [] p) none pos.line X.env = pure false := by rfl) :
    SV X Φ D (.Expr (.Call (.Attribute (.Name x px) "extend" apos) [e] [] p) pos :: rest) :=
  sv_step (ps_expr (pe_bm PySem.F.plainAttrs_list PySem.F.slot_list_extend PySem.F.type_list_extend mt_extend (pe_var hN hv hd hcd) (pa_cons pe_sem pa_nil hst) hbase hfew hline hst hplain) hsw) fun σ B H hs => by
    obtain ⟨h1, h2, h3, h4, xs, h5, h6⟩ := own_at hs h
    refine ⟨.ref q, h1, .inl ⟨rfl, xs, SqL.of h5⟩, he.ev σ B H hs _ fun v d' B1 H1 g rr hd' => ?_⟩
    subst hd'
    have hs1 := hs.grow g
    obtain ⟨l, ys, e1, e2, e3, e4⟩ := rr
    subst e1
    refine ⟨q, l, xs, ys, rfl, rfl, g.hh _ _ h2 h5, g.bh _ _ e2, lenOk (by rw [h6.len, e3.len]; omega), ?_⟩
    exact hr σ B1 _ (hs1.chg h ((h6.mono g.bb).append e3) (by rw [List.length_append]; exact hl))
/-- x = [e] * n (an own list) -/
theorem sv_newRep {i : Nat} {x : Str} {d : α} {k : Int} {p1 p2 : Pos} (n : Nat) (he : PD X Φ e r d) (hb : PD X Φ b oI k) (hk : k = (n : Int)) (hn : n ≤ 900) (hr : ∀ q, SV X (Φ.put i (.ow q r (List.replicate n d))) D rest) (hN : X.N.Nodup) (hi : X.N[i]? = some x := by rfl) (hx : L2.Loc X.env.scope x := by first | exact .inl rfl | exact .inr rfl) (hs : swapsWith (.BinOp (.List [e] p1) .Mult b p2) (some (.Name x pos')) pos.line X.env = pure false := by rfl) (hf : X.fn x = true ∨ X.env.scope.names.lookup x = some .local := by first | exact .inl rfl | exact .inr rfl) (hst : starEach [e] X.env = (false, eval e X.env) :: starEach [] X.env := by rfl) :
    SV X Φ D (.Assign [.Name x pos'] (.BinOp (.List [e] p1) .Mult b p2) pos :: rest) :=
  sv_step (ps_set hN hi hx (pe_op op_rep (pe_lst (pa_cons pe_sem pa_nil hst)) pe_sem) hs hf) fun σ B H hst => he.ev σ B H hst _ fun v d1 B1 H1 g rr hd => by
    subst hd
    refine ⟨by show 1 ≤ sizeLine; decide, fun l hl => ?_⟩
    have s1 := hst.grow (g.trans (.lay (o := .lst [v]) g.bh hl))
    refine hb.ev σ B1 _ s1 _ fun w k1 B2 H2 g2 rr2 hk1 => ?_
    subst hk1
    have hlm : Φ.m ≠ some l := fun z => (hst.mm l z).2 (hst.g.al l (g.al l hl))
    refine ⟨l, k1, [v], rfl, rr2, g2.hh _ _ hlm upd_same, by omega, by omega, ?_, fun l2 hl2 => ?_⟩
    · show 1 * _ ≤ _; rw [Nat.one_mul]; exact lenOk (by omega)
    · have ek : k1.toNat = n := by omega
      rw [ek, flat_rep]
      exact hr l2 _ B2 _ ((s1.grow g2).putO (i := i) (e := r) (ds := List.replicate n d1) hl2 (Prd.rep (r.mono g2.bb rr) n) (by rw [List.length_replicate]; exact hn))
/-- own[i] = e -/
theorem sv_setO {i j : Nat} {x : Str} {q : Addr} {ds : List α} {d : α} {k : Int} {px ps : Pos} (h : Φ.Γ[i]? = some (some (.ow q r ds))) (he : PD X Φ e r d) (hb : PD X Φ b oI k) (hk : k = (j : Int)) (hj : j < ds.length) (hr : SV X (Φ.put i (.ow q r (ds.set j d))) D rest)
    (hN : X.N[i]? = some x := by rfl) (hv : Vis X.env.scope x := by first | exact .inl rfl | exact .inr (.inl rfl) | exact .inr (.inr rfl)) (hd : (x == ("__debug__" : Str)) = false := by decide) (hcd : (x == ("__classdict__" : Str)) = false := by decide)
    (hs : swapsWithSole [.Subscript (.Name x px) b ps] e pos.line X.env = pure false := by rfl) (hw : swappedStores [.Subscript (.Name x px) b ps] e X.env = pure none := by rfl) (h1 : (assignEach [.Subscript (.Name x px) b ps] X.env).map (·.2) = [assign (.Subscript (.Name x px) b ps) X.env] := by rfl)
    (ha : ∀ v, assign (.Subscript (.Name x px) b ps) X.env v = (do
      let ov ← holding [v] (eval (.Name x px) X.env)
      let iv ← holding [v, ov] (eval b X.env)
      standAt ps
      holding [v, ov, iv] (setItem ov iv v)
      release [v, ov, iv] []) := by intro _; rfl) :
    SV X Φ D (.Assign [.Subscript (.Name x px) b ps] e pos :: rest) :=
  sv_step (ps_asg pe_sem (pg_sub (pe_var hN hv hd hcd) pe_sem set_list ha) hs hw h1) fun σ B H hs => he.ev σ B H hs _ fun v d1 B1 H1 g rr hd1 => by
    subst hd1
    have s1 := hs.grow g
    obtain ⟨o1, o2, o3, o4, xs, o5, o6⟩ := own_at s1 h
    refine ⟨.ref q, o1, hb.ev σ B1 H1 s1 _ fun w k1 B2 H2 g2 rr2 hk1 => ?_⟩
    subst hk1
    refine ⟨q, xs, k1, j, rfl, rr2, g2.hh _ _ o2 o5, ?_, ?_⟩
    · unfold ixN; rw [if_pos (by omega), if_pos (by rw [o6.len]; omega)]; congr 1; omega
    · exact hr σ B2 _ ((s1.grow g2).chg h (Prd.set (r.mono g2.bb rr) j (o6.mono g2.bb)) (by rw [List.length_set]; exact o4))
/-- error_rows of a new walk -/
theorem pv_errrows {k : Nat} {d : Wd} (c : Ca X.prog X.w X.K X.mg X.base k "error_rows" (S_errrows CW C)) (hr : Room k X.A) (ha : PVW X Φ CW C a d) (hok : ErrOk d) (hg : Gl X "error_rows" := by rfl)
    (he : starEach [a] X.env = (false, eval a X.env) :: starEach [] X.env := by rfl) (hpl : (backTo pos (starEach [] X.env)).any (·.1) = false := by rfl) : PD X Φ (.Call (.Name "error_rows" p) [a] [] pos) (oL (oL (oQ C))) (errM d) :=
  pv_of (pe_ca c hr (pa_cons pe_sem pa_nil he) hg (by decide) he hpl) fun σ B H hs Q k => ha σ B H hs _ fun u kp B2 H2 g w => by
    obtain ⟨w1, w2, w3, w4⟩ := w
    exact ⟨u, d, kp, B2, rfl, g.bh, w1, w2, w3, hok, fun u' B' H' gk r' => k u' _ B' H' (gk.fresh g w4) r' rfl⟩
end
/-- a row of the scan's redraw -/
def rowR (N k : Nat) (idx : Nat → Nat) (val : Nat → Rat) : List Rat := (List.range k).foldl (fun r a => r.set (idx a) (val a)) (List.replicate N 0)
theorem rowR_succ (N k : Nat) (idx : Nat → Nat) (val : Nat → Rat) : rowR N (k + 1) idx val = (rowR N k idx val).set (idx k) (val k) := by unfold rowR; rw [List.range_succ, List.foldl_append]; rfl
theorem rowR_len (N : Nat) (idx : Nat → Nat) (val : Nat → Rat) : ∀ k, (rowR N k idx val).length = N
  | 0 => by unfold rowR; simp
  | k + 1 => by rw [rowR_succ, List.length_set, rowR_len N idx val k]
def redRow (g : Mq) (which h w f s : Nat) : List Rat :=
  if which = 0 then rowR (h * w) h (fun a => a * w + s) (fun a => at2 (fbs g) s a) else rowR (h * w) w (fun a => f * w + a) (fun a => at2 (sbf g) f a)
def redM (which h w : Nat) (g : Mq) : Mq := (List.range h).flatMap fun f => (List.range w).map fun s => redRow g which h w f s
structure RedOk (g : Mq) (n m : Nat) : Prop where
  grid : GridOk g n m
  s1 : SbfOk g
  s2 : SbfOk (tr g)
abbrev S_redraw (C : Addr) : Sp := sp2 (oL (oL (oQ C))) oI (oL (oL (oQ C))) (fun g i => ∃ n m wh : Nat, i = wh ∧ RedOk g n m) (fun g i z => z = redM i.toNat g.length (g.getD 0 []).length g)
def scanM (g : Mq) : Mq := prodM (redM 0 g.length (g.getD 0 []).length g) (redM 1 g.length (g.getD 0 []).length g)
structure ScanOk (g : Mq) (n m : Nat) : Prop where
  red : RedOk g n m
  prod : ProdOk (redM 0 g.length (g.getD 0 []).length g) (redM 1 g.length (g.getD 0 []).length g)
  fl : OvOk g.flatten
abbrev S_scanrows (C : Addr) : Sp := sp1 (oL (oL (oQ C))) (oL (oL (oQ C))) (fun g => ∃ n m, ScanOk g n m) (fun g z => z = scanM g)
def scanW (g : Mq) : Wd := (scanM g, ovM g.flatten)
abbrev S_scan (CW C : Addr) : Sp := spW1 CW C (oS (oS (oN C))) (fun g => ∃ n m, ScanOk g n m) scanW
def givenM (g : Mq) : Mq := prodM (tr (fbs g)) (prodM (errM (seenM (tr g))) (fbs g))
structure GivenOk (g : Mq) (n m : Nat) : Prop where
  grid : GridOk g n m
  t1 : TrOk g
  s2 : SbfOk (tr g)
  seen : SeenOk (tr g)
  err : ErrOk (seenM (tr g))
  t2 : TrOk (fbs g)
  p1 : ProdOk (errM (seenM (tr g))) (fbs g)
  p2 : ProdOk (tr (fbs g)) (prodM (errM (seenM (tr g))) (fbs g))
  small : (givenM g).length ≤ 900
abbrev S_givenrows (C : Addr) : Sp := sp1 (oL (oL (oQ C))) (oL (oL (oQ C))) (fun g => ∃ n m, GivenOk g n m) (fun g z => z = givenM g)
abbrev S_giventable (C : Addr) : Sp := sp1 (oS (oS (oN C))) (oL (oL (oQ C))) (fun g => ∃ n m, GivenOk g n m) (fun g z => z = givenM g)
structure RawOk (g : Mq) (n m : Nat) : Prop where
  grid : GridOk g n m
  seen : SeenOk g
  err : ErrOk (seenM g)
abbrev S_rawtable (C : Addr) : Sp := sp1 (oS (oS (oN C))) (oL (oL (oQ C))) (fun g => ∃ n m, RawOk g n m) (fun g z => z = errM (seenM g))
structure MeansOk (g : Mq) (ds : List Rat) (n m : Nat) : Prop where
  grid : GridOk g n m
  len : ds.length = n
  t1 : TrOk g
  s2 : SbfOk (tr g)
  small : (fbs g).length ≤ 900
  dots : ∀ r ∈ fbs g, DsOk r ds
def meansM (g : Mq) (ds : List Rat) : List Rat := (fbs g).map fun r => dsM r ds
abbrev S_means (C : Addr) : Sp := sp2 (oS (oS (oN C))) (oS (oN C)) (oL (oQ C)) (fun g ds => ∃ n m, MeansOk g ds n m) (fun g ds z => z = meansM g ds)
section
variable {P : Program} {w : World} {K : PySem.W.Frag} {mg : Str → Option Value} {base : Heap} {f fi CK CW fK fW : Addr} {k : Nat}
theorem sc45 : FnScope ["size", "value", "number"] ["size", "value"] (defScope (top 45)) := ⟨rfl, rfl, rfl, by decide +kernel, rfl, by decide +kernel, by decide +kernel⟩
theorem sc86 : FnScope ["grid", "which", "high", "wide", "found", "near", "far", "first", "second", "row", "at"] ["grid", "which"] (defScope (top 86)) := ⟨rfl, rfl, rfl, by decide +kernel, rfl, by decide +kernel, by decide +kernel⟩
theorem sc87 : FnScope ["grid"] ["grid"] (defScope (top 87)) := ⟨rfl, rfl, rfl, by decide +kernel, rfl, by decide +kernel, by decide +kernel⟩
theorem sc90 : FnScope ["grid", "chances", "table"] ["grid"] (defScope (top 90)) := ⟨rfl, rfl, rfl, by decide +kernel, rfl, by decide +kernel, by decide +kernel⟩
theorem sc91 : FnScope ["grid", "told"] ["grid"] (defScope (top 91)) := ⟨rfl, rfl, rfl, by decide +kernel, rfl, by decide +kernel, by decide +kernel⟩
theorem sc92 : FnScope ["grid", "function", "told", "number"] ["grid", "function"] (defScope (top 92)) := ⟨rfl, rfl, rfl, by decide +kernel, rfl, by decide +kernel, by decide +kernel⟩
theorem sc93 : FnScope ["grid", "row"] ["grid"] (defScope (top 93)) := ⟨rfl, rfl, rfl, by decide +kernel, rfl, by decide +kernel, by decide +kernel⟩
theorem sc94 : FnScope ["grid", "row"] ["grid"] (defScope (top 94)) := ⟨rfl, rfl, rfl, by decide +kernel, rfl, by decide +kernel, by decide +kernel⟩
theorem m_shares_of (T : Tx K mg) (F : Df K "shares_of" "shares_of" (top 82) f) (c1 : Ca P w K mg base 6 "over_all" (S_overall T.C)) : Me P w K mg base 7 f (S_sharesof T.C) := by
  refine me1 (k := 6) F sc82 (fun _ _ _ _ _ _ us hl => match us, hl with | [_], _ => rfl) (by decide) fun g h B cdv A outer s H E hr _ => ?_
  have hfl : ∀ i, i ≤ g.length → ((g.take i).flatten).length ≤ 900 := fun i hi => by
    have h1 := h.len
    have h2 : g.flatten = (g.take i).flatten ++ (g.drop i).flatten := by rw [← List.flatten_append, List.take_append_drop]
    rw [h2, List.length_append] at h1
    omega
  have hstep : ∀ i d, g[i]? = some d → (g.take (i + 1)).flatten = (g.take i).flatten ++ d := fun i d hd => by rw [take_snoc hd, List.flatten_append]; simp
  refine sv_new (i := 1) (oQ T.C) (fun q => ?_) sc82.nd
  refine sv_for (fun i => [some (.kn (oL (oL (oQ T.C))) g), some (.ow q (oQ T.C) (g.take i).flatten), none]) (piv_seq (pvS (pv_var (i := 0) (r := oL (oL (oQ T.C))) (d := g) rfl))) (pg_name (i := 2) sc82.nd rfl (.inl rfl)) tg_name (Le.rf _) (fun Bs i hi d hd => ?_) ?_
  · have hs := hstep i d hd
    have hl := hfl (i + 1) (by omega)
    rw [hs, List.length_append] at hl
    refine sv_extend (i := 1) (q := q) (r := oQ T.C) (ds := (g.take i).flatten) (zs := d) rfl (pv_var (i := 2) (r := oL (oQ T.C)) (d := d) rfl) hl ?_
    rw [hs]
    exact sv_end (.keep (.keep (.skip .nil)))
  · rw [List.take_length]
    exact sv_freeze (i := 1) (q := q) (r := oQ T.C) (ds := g.flatten) rfl (sv_retE (r := oL (oQ T.C)) (pv_call1 c1 hr (p1 := fun z => z = g.flatten) (pv_var (i := 1) (r := oL (oQ T.C)) (d := g.flatten) rfl) fun d hd => ⟨by subst hd; exact h, fun z hz => by subst hd; exact hz⟩) rfl rfl rfl rfl)
theorem m_is_row (T : Tx K mg) (F : Df K "is_row" "is_row" (top 45) f) (c1 : Ca P w K mg base 1 "is_list" S_islist) (c2 : Ca P w K mg base 2 "is_number" (S_is_number T.C)) : Me P w K mg base 3 f (S_arenum T.C) := by
  refine me2 (k := 2) F sc45 (fun _ _ _ _ _ _ us hl => match us, hl with | [_, _], _ => rfl) (by decide) fun i ds ⟨hi, hlen⟩ B cdv A outer s H E hr _ => ?_
  subst hi
  refine sv_retE (r := oB) (PV.to (pv_and3 (p := true) (q := decide ((ds.length : Int) = (ds.length : Int))) (s := (ds.map fun _ => true).all id) (pv_call1 c1 (hr.mono (by decide)) (pvV (pv_var (i := 1) (r := oS (oN T.C)) (d := ds) rfl)) fun d hd => ⟨trivial, fun z hz => hz⟩) (fun _ => pv_eqI (pv_len (pv_var (i := 1) (r := oS (oN T.C)) (d := ds) rfl) T.b_len) (pv_var (i := 0) (r := oI) (d := (ds.length : Int)) rfl)) fun _ _ => pv_all rfl (PV.to (pv_lc (own := [("number", 2)]) (r2 := oB) (ds.map fun _ => true) rfl sc45.nd (piv_seq (pv_var (i := 1) (r := oS (oN T.C)) (d := ds) rfl)) (blkOk_by (N := ["size", "value", "number"]) (sc := defScope (top 45)) (by decide +kernel)) (fun _ _ _ _ _ => pg_name (i := 2) sc45.nd rfl (Or.inl rfl)) tg_name (free1 rfl) (by rw [List.length_map]) hlen fun i hi d hd y hy _ _ _ _ _ => ?_) rfl) T.b_all) (by simp)) rfl rfl rfl rfl
  rw [List.getElem?_map, hd] at hy
  exact pv_call1 c2 hr (p1 := fun z => z = d) (pv_var (i := 2) (r := oN T.C) (d := d) rfl) fun d' hd' => ⟨trivial, fun z hz => by rw [hz]; exact Option.some.inj hy⟩
theorem m_scan_rows (T : Tx K mg) (F : Df K "scan_rows" "scan_rows" (top 87) f) (c1 : Ca P w K mg base 9 "redraw_rows" (S_redraw T.C)) (c2 : Ca P w K mg base 7 "product_of" (S_prod T.C)) : Me P w K mg base 10 f (S_scanrows T.C) := by
  refine me1 (k := 9) F sc87 (fun _ _ _ _ _ _ us hl => match us, hl with | [_], _ => rfl) (by decide) fun g ⟨n, m, h⟩ B cdv A outer s H E hr _ => ?_
  exact sv_retE (r := oL (oL (oQ T.C))) (pv_call2 c2 (hr.mono (by decide)) (p1 := fun z => z = redM 0 g.length (g.getD 0 []).length g) (p2 := fun z => z = redM 1 g.length (g.getD 0 []).length g) (pv_call2 c1 hr (p1 := fun z => z = g) (p2 := fun z => z = ((0 : Nat) : Int)) (pv_var (i := 0) (r := oL (oL (oQ T.C))) (d := g) rfl) pv_int fun x y hx hy => ⟨by subst hx hy; exact ⟨n, m, 0, rfl, h.red⟩, fun z hz => by subst hx hy; exact hz⟩) (pv_call2 c1 hr (p1 := fun z => z = g) (p2 := fun z => z = ((1 : Nat) : Int)) (pv_var (i := 0) (r := oL (oL (oQ T.C))) (d := g) rfl) pv_int fun x y hx hy => ⟨by subst hx hy; exact ⟨n, m, 1, rfl, h.red⟩, fun z hz => by subst hx hy; exact hz⟩) fun x y hx hy => ⟨by subst hx hy; exact h.prod, fun z hz => by subst hx hy; exact hz⟩) rfl rfl rfl rfl
theorem m_given_rows (T : Tx K mg) (F : Df K "given_rows" "given_rows" (top 90) f) (c1 : Ca P w K mg base 8 "first_by_second" (S_fbs T.C)) (c2 : Ca P w K mg base 8 "error_rows" (S_errrows CW T.C)) (c3 : Ca P w K mg base 9 "seen_walk" (S_seenwalk CW T.C)) (c4 : Ca P w K mg base 1 "turned_of" (S_turned T.C)) (c5 : Ca P w K mg base 7 "product_of" (S_prod T.C)) : Me P w K mg base 10 f (S_givenrows T.C) := by
  refine me1 (k := 9) F sc90 (fun _ _ _ _ _ _ us hl => match us, hl with | [_], _ => rfl) (by decide) fun g ⟨n, m, h⟩ B cdv A outer s H E hr _ => ?_
  refine sv_setD (i := 1) (r := oL (oL (oQ T.C))) (d := fbs g) (pv_call1 c1 (hr.mono (by decide)) (p1 := fun z => z = g) (pv_var (i := 0) (r := oL (oL (oQ T.C))) (d := g) rfl) fun d hd => ⟨by subst hd; exact ⟨h.t1, h.s2⟩, fun z hz => by subst hd; exact hz⟩) ?_ sc90.nd
  refine sv_setD (i := 2) (r := oL (oL (oQ T.C))) (d := errM (seenM (tr g))) (pv_errrows c2 (hr.mono (by decide)) (pvw_call1 c3 hr (p1 := fun z => z = tr g) (pv_call1 c4 (hr.mono (by decide)) (p1 := fun z => z = g) (pv_var (i := 0) (r := oL (oL (oQ T.C))) (d := g) rfl) fun d hd => ⟨by subst hd; exact ⟨h.t1.ne, h.t1.len, h.t1.wide⟩, fun z hz => by subst hd; exact hz⟩) fun d hd => ⟨by subst hd; exact h.seen, by subst hd; rfl⟩) h.err) ?_ sc90.nd
  exact sv_retE (r := oL (oL (oQ T.C))) (pv_call2 c5 (hr.mono (by decide)) (p1 := fun z => z = tr (fbs g)) (p2 := fun z => z = prodM (errM (seenM (tr g))) (fbs g)) (pv_call1 c4 (hr.mono (by decide)) (p1 := fun z => z = fbs g) (pv_var (i := 1) (r := oL (oL (oQ T.C))) (d := fbs g) rfl) fun d hd => ⟨by subst hd; exact ⟨h.t2.ne, h.t2.len, h.t2.wide⟩, fun z hz => by subst hd; exact hz⟩) (pv_call2 c5 (hr.mono (by decide)) (p1 := fun z => z = errM (seenM (tr g))) (p2 := fun z => z = fbs g) (pv_var (i := 2) (r := oL (oL (oQ T.C))) (d := errM (seenM (tr g))) rfl) (pv_var (i := 1) (r := oL (oL (oQ T.C))) (d := fbs g) rfl) fun x y hx hy => ⟨by subst hx hy; exact h.p1, fun z hz => by subst hx hy; exact hz⟩) fun x y hx hy => ⟨by subst hx hy; exact h.p2, fun z hz => by subst hx hy; exact hz⟩) rfl rfl rfl rfl
theorem m_scan (T : Tx K mg) (F : Df K "scan" "scan" (top 91) f) (c1 : Ca P w K mg base 7 "want_grid" (S_wantgrid T.C)) (c2 : Ca P w K mg base 10 "scan_rows" (S_scanrows T.C)) (c3 : Ca P w K mg base 7 "shares_of" (S_sharesof T.C)) (c4 : Ca P w K mg base 3 "walk_made" (S_walk_made CW T.C)) : Me P w K mg base 11 f (S_scan CW T.C) := by
  refine me_of (k := 10) (ps := ["grid"]) F sc91 (fun _ _ _ _ _ _ us hl => match us, hl with | [_], _ => rfl) (fun vs H Q E ⟨v, d, B, h, _⟩ => by subst h; rfl) fun cdv A outer s H vs Q E hr ⟨v1, g, B, h, hx, h1, ⟨n, m, hok⟩, kk⟩ => ?_
  subst h
  have go : SV (xof P w K mg base ["grid", "told"] "scan" (top 91) f cdv A outer s H E) ⟨[some (.kn (oS (oS (oN T.C))) g), none], none, B, H, B⟩ { nx := fun _ H' => False, rt := (endW CW T.C B H (scanW g)).rt } (defBody (top 91)) := by
    refine sv_setD (i := 1) (r := oL (oL (oQ T.C))) (d := g) (pv_call1 c1 (hr.mono (by decide)) (p1 := fun z => z = g) (pv_var (i := 0) (r := oS (oS (oN T.C))) (d := g) rfl) fun d hd => ⟨by subst hd; exact ⟨n, m, hok.red.grid⟩, fun z hz => by subst hd; exact hz⟩) ?_ sc91.nd
    refine sv_retW (CW := CW) (C := T.C) (d := scanW g) (B0 := B) (H0 := H) ?_ rfl rfl rfl rfl
    refine pvw_call2 c4 (hr.mono (by decide)) (p1 := fun z => z = scanM g) (p2 := fun z => z = ovM g.flatten) (pv_call1 c2 hr (p1 := fun z => z = g) (pv_var (i := 1) (r := oL (oL (oQ T.C))) (d := g) rfl) fun d hd => ⟨by subst hd; exact ⟨n, m, hok⟩, fun z hz => by subst hd; exact hz⟩) (pv_call1 c3 (hr.mono (by decide)) (p1 := fun z => z = g) (pv_var (i := 1) (r := oL (oL (oQ T.C))) (d := g) rfl) fun d hd => ⟨by subst hd; exact hok.fl, fun z hz => by subst hd; exact hz⟩) fun x y hx hy => ⟨by subst hx; show (scanM g).length ≤ 900; unfold scanM prodM; rw [List.length_map]; exact hok.prod.l1, by subst hx hy; rfl⟩
  exact semS_mono (go _ B H (stt_start (N := ["grid", "told"]) (vs := [v1]) (m := none) (Γ0 := [some (.kn (oS (oS (oN T.C))) g)]) hx (fun a z => nomatch z) rfl (Nat.le_of_ble_eq_true rfl) fun i s' hi => by
    match i, hi with
    | 0, hi => cases hi; exact ⟨_, rfl, rfl, _, rfl, h1⟩)) (fun _ _ z => z.elim) (fun v' H' ⟨kp, B', g, wq⟩ => kk v' kp B' H' g wq)
theorem m_raw_table (T : Tx K mg) (F : Df K "raw_table" "raw_table" (top 93) f) (c1 : Ca P w K mg base 7 "want_grid" (S_wantgrid T.C)) (c2 : Ca P w K mg base 8 "error_rows" (S_errrows CW T.C)) (c3 : Ca P w K mg base 9 "seen_walk" (S_seenwalk CW T.C)) : Me P w K mg base 10 f (S_rawtable T.C) := by
  refine me1 (k := 9) F sc93 (fun _ _ _ _ _ _ us hl => match us, hl with | [_], _ => rfl) (by decide) fun g ⟨n, m, h⟩ B cdv A outer s H E hr _ => ?_
  have hsl : (errM (seenM g)).length ≤ 900 := by rw [errM_len]; have := h.err.back.n; have := h.err.back.sh; omega
  refine sv_retE (r := oL (oL (oQ T.C))) (PV.to (pv_lc (own := [("row", 1)]) (r2 := oL (oQ T.C)) (errM (seenM g)) rfl sc93.nd (piv_seq (pvS (pv_errrows c2 (hr.mono (by decide)) (pvw_call1 c3 hr (p1 := fun z => z = g) (pv_call1 c1 (hr.mono (by decide)) (p1 := fun z => z = g) (pv_var (i := 0) (r := oS (oS (oN T.C))) (d := g) rfl) fun d hd => ⟨by subst hd; exact ⟨n, m, h.grid⟩, fun z hz => by subst hd; exact hz⟩) fun d hd => ⟨by subst hd; exact h.seen, by subst hd; rfl⟩) h.err))) (blkOk_by (N := ["grid", "row"]) (sc := defScope (top 93)) (by decide +kernel)) (fun _ _ _ _ _ => pg_name (i := 1) sc93.nd rfl (Or.inl rfl)) tg_name (free1 rfl) rfl hsl fun i hi d hd y hy _ _ _ _ _ => ?_) rfl) rfl rfl rfl rfl
  rw [hd] at hy
  exact PV.to (pv_listOf (pvS (pv_var (i := 1) (r := oL (oQ T.C)) (d := d) rfl)) T.b_list) (Option.some.inj hy)
theorem m_given_table (T : Tx K mg) (F : Df K "given_table" "given_table" (top 94) f) (c1 : Ca P w K mg base 7 "want_grid" (S_wantgrid T.C)) (c2 : Ca P w K mg base 10 "given_rows" (S_givenrows T.C)) : Me P w K mg base 11 f (S_giventable T.C) := by
  refine me1 (k := 10) F sc94 (fun _ _ _ _ _ _ us hl => match us, hl with | [_], _ => rfl) (by decide) fun g ⟨n, m, h⟩ B cdv A outer s H E hr _ => ?_
  refine sv_retE (r := oL (oL (oQ T.C))) (PV.to (pv_lc (own := [("row", 1)]) (r2 := oL (oQ T.C)) (givenM g) rfl sc94.nd (piv_seq (pvS (pv_call1 c2 hr (p1 := fun z => z = g) (Pq := fun z => z = givenM g) (pv_call1 c1 (hr.mono (by decide)) (p1 := fun z => z = g) (pv_var (i := 0) (r := oS (oS (oN T.C))) (d := g) rfl) fun d hd => ⟨by subst hd; exact ⟨n, m, h.grid⟩, fun z hz => by subst hd; exact hz⟩) fun d hd => ⟨by subst hd; exact ⟨n, m, h⟩, fun z hz => by subst hd; exact hz⟩))) (blkOk_by (N := ["grid", "row"]) (sc := defScope (top 94)) (by decide +kernel)) (fun _ _ _ _ _ => pg_name (i := 1) sc94.nd rfl (Or.inl rfl)) tg_name (free1 rfl) rfl h.small fun i hi d hd y hy _ _ _ _ _ => ?_) rfl) rfl rfl rfl rfl
  rw [hd] at hy
  exact PV.to (pv_listOf (pvS (pv_var (i := 1) (r := oL (oQ T.C)) (d := d) rfl)) T.b_list) (Option.some.inj hy)
theorem m_given_means (T : Tx K mg) (F : Df K "given_means" "given_means" (top 92) f) (c1 : Ca P w K mg base 7 "want_grid" (S_wantgrid T.C)) (c2 : Ca P w K mg base 3 "is_row" (S_arenum T.C)) (c3 : Ca P w K mg base 4 "ratio_of" (S_ratio_of T.C)) (c4 : Ca P w K mg base 9 "given_of" (S_givenof T.C)) : Me P w K mg base 10 f (S_means T.C) := by
  refine me2 (k := 9) F sc92 (fun _ _ _ _ _ _ us hl => match us, hl with | [_, _], _ => rfl) (by decide) fun g ds ⟨n, m, h⟩ B cdv A outer s H E hr _ => ?_
  have n2 := h.grid.n2; have hl := h.len
  refine sv_setD (i := 2) (r := oL (oL (oQ T.C))) (d := g) (pv_call1 c1 (hr.mono (by decide)) (p1 := fun z => z = g) (pv_var (i := 0) (r := oS (oS (oN T.C))) (d := g) rfl) fun d hd => ⟨by subst hd; exact ⟨n, m, h.grid⟩, fun z hz => by subst hd; exact hz⟩) ?_ sc92.nd
  refine sv_ifret (q := false) (PVT.to (pt_notI (q := true) (pt_val1 (pv_call2 c2 (hr.mono (by decide)) (p1 := fun z => z = (ds.length : Int)) (p2 := fun z => z = ds) (PV.to (pv_len (pvS (pv_var (i := 2) (r := oL (oL (oQ T.C))) (d := g) rfl)) T.b_len) (by rw [h.grid.len, hl])) (pv_var (i := 1) (r := oS (oN T.C)) (d := ds) rfl) fun x y hx hy => ⟨by subst hx hy; exact ⟨rfl, by omega⟩, fun z hz => hz⟩))) rfl) (fun h => nomatch h) fun _ => ?_
  refine sv_retE (r := oL (oQ T.C)) (pv_call2 c4 hr (p1 := fun z => z = g) (p2 := fun z => z = ds) (pv_var (i := 2) (r := oL (oL (oQ T.C))) (d := g) rfl) (PV.to (pv_lc (own := [("number", 3)]) (r2 := oQ T.C) ds rfl sc92.nd (piv_seq (pv_var (i := 1) (r := oS (oN T.C)) (d := ds) rfl)) (blkOk_by (N := ["grid", "function", "told", "number"]) (sc := defScope (top 92)) (by decide +kernel)) (fun _ _ _ _ _ => pg_name (i := 3) sc92.nd rfl (Or.inl rfl)) tg_name (free1 rfl) rfl (by omega) fun i hi d hd y hy _ _ _ _ _ => ?_) rfl) fun x y hx hy => ⟨by subst hx hy; exact ⟨h.t1, h.s2, h.small, h.dots⟩, fun z hz => by subst hx hy; exact hz⟩) rfl rfl rfl rfl
  rw [hd] at hy
  exact pv_call1 c3 (hr.mono (by decide)) (p1 := fun z => z = d) (pv_var (i := 3) (r := oN T.C) (d := d) rfl) fun d' hd' => ⟨trivial, fun z hz => by rw [hz, hd']; exact Option.some.inj hy⟩
end
end Wk

end
section
set_option Elab.async false
set_option linter.all false
set_option maxRecDepth 100000
set_option maxHeartbeats 2000000
set_option exponentiation.threshold 100000
/-! parts: the scan's redraws. -/
namespace Wk
open PySem PySem.Spec PyProof.Rows L2 Ru RZ Rp
open Hd (top)
section
variable {P : Program} {w : World} {K : PySem.W.Frag} {mg : Str → Option Value} {base : Heap} {fdd fi CK CW fK fW : Addr} {k : Nat}
theorem sbf_len (g : Mq) : (sbf g).length = g.length := by unfold sbf; rw [List.length_map]
theorem ovM_len (ds : List Rat) : (ovM ds).length = ds.length := by unfold ovM; rw [List.length_map]
theorem sbf_row {g : Mq} {r : List Rat} (h : r ∈ sbf g) {m : Nat} (hw : ∀ r ∈ g, r.length = m) : r.length = m := by
  unfold sbf at h
  obtain ⟨r0, h0, rfl⟩ := List.mem_map.mp h
  rw [ovM_len]
  exact hw r0 h0
theorem tr_len (g : Mq) : (tr g).length = (g.getD 0 []).length := trM_len _ _
theorem tr_row {g : Mq} {r : List Rat} (h : r ∈ tr g) : r.length = g.length := by
  unfold tr trM at h
  obtain ⟨j, _, rfl⟩ := List.mem_map.mp h
  rw [List.length_map]
theorem m_redraw (T : Tx K mg) (R : Rq P w K mg base T.C) (F : Df K "redraw_rows" "redraw_rows" (top 86) fdd) (c1 : Ca P w K mg base 8 "first_by_second" (S_fbs T.C)) (c2 : Ca P w K mg base 7 "second_by_first" (S_sbf T.C)) : Me P w K mg base 9 fdd (S_redraw T.C) := by
  refine me2 (k := 8) F sc86 (fun _ _ _ _ _ _ us hl => match us, hl with | [_, _], _ => rfl) (by decide) fun g i ⟨n, m, wh, hi, h⟩ B cdv A outer s H E hr _ => ?_
  subst hi
  obtain ⟨fi, Rm⟩ := R.mk_
  have n1 := h.grid.n1; have n2 := h.grid.n2; have m1 := h.grid.m1; have m2 := h.grid.m2; have hl := h.grid.len
  have hg0 : 0 < g.length := by omega
  have w0 : (g.getD 0 []).length = m := h.grid.wide _ (mem_at (getD_at hg0))
  have hgne : g ≠ [] := List.length_pos_iff.mp hg0
  have t1 : TrOk g := ⟨hgne, by omega, m, by omega, h.grid.wide⟩
  have fl : (fbs g).length = m := by unfold fbs; rw [sbf_len, tr_len, w0]
  have fr : ∀ r ∈ fbs g, r.length = n := fun r hr => by unfold fbs at hr; rw [sbf_row hr (m := n) fun r h2 => by rw [tr_row h2, hl]]
  have sl : (sbf g).length = n := by rw [sbf_len, hl]
  have sr : ∀ r ∈ sbf g, r.length = m := fun r hr => sbf_row hr h.grid.wide
  have hnm : n * m ≤ 9 := Nat.mul_le_mul n2 m2
  have hlt1 : ∀ (s a : Nat) (idx : Nat → Nat) {val : Nat → Rat}, (∀ a, idx a = a * m + s) → s < m → a < n → idx a < (rowR (n * m) a idx val).length := fun s a idx val h1 h2 h3 => by
    rw [rowR_len, h1 a]
    have : (a + 1) * m ≤ n * m := Nat.mul_le_mul_right m h3
    rw [Nat.succ_mul] at this
    omega
  have hlt2 : ∀ (f a : Nat) (idx : Nat → Nat) {val : Nat → Rat}, (∀ a, idx a = f * m + a) → f < n → a < m → idx a < (rowR (n * m) a idx val).length := fun f a idx val h1 h2 h3 => by
    rw [rowR_len, h1 a]
    have : (f + 1) * m ≤ n * m := Nat.mul_le_mul_right m h2
    rw [Nat.succ_mul] at this
    omega
  rw [Int.toNat_natCast, hl, w0]
  refine sv_par3 (i := 2) (j := 3) (k := 4) (r := oI) (r2 := oI) (oL (oQ T.C)) (d := (n : Int)) (d' := (m : Int)) (PV.to (pv_len (pvS (pv_var (i := 0) (r := oL (oL (oQ T.C))) (d := g) rfl)) T.b_len) (by rw [hl])) (PV.to (pv_len (pvS (pv_ix 0 (pvS (pv_var (i := 0) (r := oL (oL (oQ T.C))) (d := g) rfl)) pv_int rfl (getD_at (d := []) hg0))) T.b_len) (by rw [w0])) (fun q => ?_) sc86.nd (by decide) (by decide) (by decide)
  refine sv_par (i := 5) (j := 6) (r := oL (oL (oQ T.C))) (r2 := oL (oL (oQ T.C))) (d := fbs g) (d' := sbf g) (pv_call1 c1 hr (p1 := fun z => z = g) (pv_var (i := 0) (r := oL (oL (oQ T.C))) (d := g) rfl) fun d hd => ⟨by subst hd; exact ⟨t1, h.s2⟩, fun z hz => by subst hd; exact hz⟩) (pv_call1 c2 (hr.mono (by decide)) (p1 := fun z => z = g) (pv_var (i := 0) (r := oL (oL (oQ T.C))) (d := g) rfl) fun d hd => ⟨by subst hd; exact h.s1, fun z hz => by subst hd; exact hz⟩) ?_ sc86.nd
  let A0 : List (Option Sl) := [some (.kn (oL (oL (oQ T.C))) g), some (.kn oI (wh : Int)), some (.kn oI (n : Int)), some (.kn oI (m : Int))]
  let G1 : Nat → List (Option Sl) := fun f => [some (.kn (oL (oL (oQ T.C))) g), some (.kn oI (wh : Int)), some (.kn oI (n : Int)), some (.kn oI (m : Int)), some (.ow q (oL (oQ T.C)) ((List.range f).flatMap fun f => (List.range m).map fun s => redRow g wh n m f s)), some (.kn (oL (oL (oQ T.C))) (fbs g)), some (.kn (oL (oL (oQ T.C))) (sbf g)), none, none, none, none]
  have flen : ∀ f, ((List.range f).flatMap fun f => (List.range m).map fun s => redRow g wh n m f s).length = f * m := fun f => by
    induction f with
    | zero => simp
    | succ f ih => rw [List.range_succ, List.flatMap_append, List.length_append, ih]; simp [Nat.succ_mul]
  refine sv_for G1 (piv_range n (pv_var (i := 2) (r := oI) (d := (n : Int)) rfl) rfl (by omega) T.b_range) (pg_name (i := 7) sc86.nd rfl (.inl rfl)) tg_name (Le.rf _) (fun Bs f hf d hd => ?_) ?_
  · subst hd
    let G2 : Nat → List (Option Sl) := fun s => [some (.kn (oL (oL (oQ T.C))) g), some (.kn oI (wh : Int)), some (.kn oI (n : Int)), some (.kn oI (m : Int)), some (.ow q (oL (oQ T.C)) (((List.range f).flatMap fun f => (List.range m).map fun s => redRow g wh n m f s) ++ (List.range s).map fun s => redRow g wh n m f s)), some (.kn (oL (oL (oQ T.C))) (fbs g)), some (.kn (oL (oL (oQ T.C))) (sbf g)), some (.kn oI (f : Int)), none, none, none]
    refine sv_for G2 (piv_range m (pv_var (i := 3) (r := oI) (d := (m : Int)) rfl) rfl (by omega) T.b_range) (pg_name (i := 8) sc86.nd rfl (.inl rfl)) tg_name (by show Le _ [_, _, _, _, some (.ow q (oL (oQ T.C)) ((List.range f).flatMap fun f => (List.range m).map fun s => redRow g wh n m f s)), _, _, _, _, _, _]; show Le [_, _, _, _, some (.ow q (oL (oQ T.C)) (((List.range f).flatMap fun f => (List.range m).map fun s => redRow g wh n m f s) ++ [])), _, _, _, _, _, _] _; rw [List.append_nil]; exact Le.rf _) (fun Bs2 s' hs' d hd => ?_) ?_
    · subst hd
      have hL : (((List.range f).flatMap fun f => (List.range m).map fun s => redRow g wh n m f s) ++ (List.range s').map fun s => redRow g wh n m f s).length < 900 := by
        rw [List.length_append, flen, List.length_map, List.length_range]
        have : f * m ≤ 9 := Nat.le_trans (Nat.mul_le_mul (by omega : f ≤ 3) m2) (by decide)
        omega
      refine sv_newRep (i := 9) (r := oQ T.C) (d := ((0 : Int) : Rat)) (n * m) (pv_mk1 Rm (hr.mono (by decide)) pv_int) (pv_mul (pv_var (i := 2) (r := oI) (d := (n : Int)) rfl) (pv_var (i := 3) (r := oI) (d := (m : Int)) rfl) (wide_mul (a := 64) (b := 64) (by omega) (by omega) (by decide) (by decide) (by decide))) (by rw [Int.natCast_mul]) (by omega) (fun q2 => ?_) sc86.nd
      obtain ⟨Kc, idx, val, er, e0, e1⟩ : ∃ (Kc : Nat) (idx : Nat → Nat) (val : Nat → Rat), redRow g wh n m f s' = rowR (n * m) Kc idx val ∧ (wh = 0 → Kc = n ∧ (∀ a, idx a = a * m + s') ∧ ∀ a, val a = at2 (fbs g) s' a) ∧ (wh ≠ 0 → Kc = m ∧ (∀ a, idx a = f * m + a) ∧ ∀ a, val a = at2 (sbf g) f a) := by
        by_cases z : wh = 0
        · exact ⟨n, fun a => a * m + s', fun a => at2 (fbs g) s' a, by unfold redRow; rw [if_pos z], fun _ => ⟨rfl, fun _ => rfl, fun _ => rfl⟩, fun h => absurd z h⟩
        · exact ⟨m, fun a => f * m + a, fun a => at2 (sbf g) f a, by unfold redRow; rw [if_neg z], fun h => absurd h z, fun _ => ⟨rfl, fun _ => rfl, fun _ => rfl⟩⟩
      let G3 : Nat → List (Option Sl) := fun a => [some (.kn (oL (oL (oQ T.C))) g), some (.kn oI (wh : Int)), some (.kn oI (n : Int)), some (.kn oI (m : Int)), some (.ow q (oL (oQ T.C)) (((List.range f).flatMap fun f => (List.range m).map fun s => redRow g wh n m f s) ++ (List.range s').map fun s => redRow g wh n m f s)), some (.kn (oL (oL (oQ T.C))) (fbs g)), some (.kn (oL (oL (oQ T.C))) (sbf g)), some (.kn oI (f : Int)), some (.kn oI (s' : Int)), some (.ow q2 (oQ T.C) (rowR (n * m) a idx val)), none]
      have kc : Kc ≤ 3 := by
        by_cases z : wh = 0
        · rw [(e0 z).1]; exact n2
        · rw [(e1 z).1]; exact m2
      have wz : decide ((wh : Int) = 0) = decide (wh = 0) := by
        by_cases z : wh = 0
        · subst z; rfl
        · rw [decide_eq_false z, decide_eq_false (by omega)]
      refine sv_for G3 (piv_range Kc (PV.to (pv_if (q := decide (wh = 0)) (r := oI) (P := fun z => z = (Kc : Int)) (PVT.to (pt_eqI (pv_var (i := 1) (r := oI) (d := (wh : Int)) rfl) pv_int) wz) (fun hz => PV.to (pv_var (i := 2) (r := oI) (d := (n : Int)) rfl) (by rw [(e0 (by simpa using hz)).1])) fun hz => PV.to (pv_var (i := 3) (r := oI) (d := (m : Int)) rfl) (by rw [(e1 (by simpa using hz)).1])) rfl) rfl (by omega) T.b_range) (pg_name (i := 10) sc86.nd rfl (.inl rfl)) tg_name (Le.rf _) (fun Bs3 a ha d hd => ?_) ?_
      · subst hd
        refine sv_if (Φ' := (⟨G3 (a + 1), none, B, H, Bs3⟩ : Fm)) (q := decide (wh = 0)) (PVT.to (pt_eqI (pv_var (i := 1) (r := oI) (d := (wh : Int)) rfl) pv_int) wz) (fun hz => ?_) (fun hz => ?_) (sv_end (Le.rf _))
        · obtain ⟨k1, k2, k3⟩ := e0 (by simpa using hz)
          rw [k1] at ha
          have hsl : s' < (fbs g).length := by omega
          have hw := fr _ (mem_at (getD_at (d := []) hsl))
          refine sv_setO (i := 9) (j := idx a) (q := q2) (r := oQ T.C) (ds := rowR (n * m) a idx val) (d := val a) (k := (idx a : Int)) rfl (PV.to (pv_ix a (pvS (pv_ix s' (pvS (pv_var (i := 5) (r := oL (oL (oQ T.C))) (d := fbs g) rfl)) (pv_var (i := 8) (r := oI) (d := (s' : Int)) rfl) rfl (getD_at (d := []) hsl))) (pv_var (i := 10) (r := oI) (d := (a : Int)) rfl) rfl (getD_at (d := 0) (by omega))) (k3 a).symm) (PV.to (pv_add (pv_mul (pv_var (i := 10) (r := oI) (d := (a : Int)) rfl) (pv_var (i := 3) (r := oI) (d := (m : Int)) rfl) (wide_mul (a := 64) (b := 64) (by omega) (by omega) (by decide) (by decide) (by decide))) (pv_var (i := 8) (r := oI) (d := (s' : Int)) rfl)) (by rw [k2 a, Int.natCast_add, Int.natCast_mul])) rfl (hlt1 s' a idx k2 hs' ha) ?_
          refine sv_end ?_
          show Le [_, _, _, _, _, _, _, _, _, some (.ow q2 (oQ T.C) (rowR (n * m) (a + 1) idx val)), none] _
          rw [rowR_succ]
          exact .keep (.keep (.keep (.keep (.keep (.keep (.keep (.keep (.keep (.keep (.skip .nil))))))))))
        · obtain ⟨k1, k2, k3⟩ := e1 (by simpa using hz)
          rw [k1] at ha
          have hfl : f < (sbf g).length := by omega
          have hw := sr _ (mem_at (getD_at (d := []) hfl))
          refine sv_setO (i := 9) (j := idx a) (q := q2) (r := oQ T.C) (ds := rowR (n * m) a idx val) (d := val a) (k := (idx a : Int)) rfl (PV.to (pv_ix a (pvS (pv_ix f (pvS (pv_var (i := 6) (r := oL (oL (oQ T.C))) (d := sbf g) rfl)) (pv_var (i := 7) (r := oI) (d := (f : Int)) rfl) rfl (getD_at (d := []) hfl))) (pv_var (i := 10) (r := oI) (d := (a : Int)) rfl) rfl (getD_at (d := 0) (by omega))) (k3 a).symm) (PV.to (pv_add (pv_mul (pv_var (i := 7) (r := oI) (d := (f : Int)) rfl) (pv_var (i := 3) (r := oI) (d := (m : Int)) rfl) (wide_mul (a := 64) (b := 64) (by omega) (by omega) (by decide) (by decide) (by decide))) (pv_var (i := 10) (r := oI) (d := (a : Int)) rfl)) (by rw [k2 a, Int.natCast_add, Int.natCast_mul])) rfl (hlt2 f a idx k2 hf ha) ?_
          refine sv_end ?_
          show Le [_, _, _, _, _, _, _, _, _, some (.ow q2 (oQ T.C) (rowR (n * m) (a + 1) idx val)), none] _
          rw [rowR_succ]
          exact .keep (.keep (.keep (.keep (.keep (.keep (.keep (.keep (.keep (.keep (.skip .nil))))))))))
      · refine sv_freeze (i := 9) (q := q2) (r := oQ T.C) (ds := rowR (n * m) Kc idx val) rfl ?_
        refine sv_append (i := 4) (q := q) (r := oL (oQ T.C)) (ds := ((List.range f).flatMap fun f => (List.range m).map fun s => redRow g wh n m f s) ++ (List.range s').map fun s => redRow g wh n m f s) (d := rowR (n * m) Kc idx val) rfl (pv_var (i := 9) (r := oL (oQ T.C)) (d := rowR (n * m) Kc idx val) rfl) hL ?_
        refine sv_end ?_
        show Le [_, _, _, _, some (.ow q (oL (oQ T.C)) (((List.range f).flatMap fun f => (List.range m).map fun s => redRow g wh n m f s) ++ (List.range (s' + 1)).map fun s => redRow g wh n m f s)), _, _, _, none, none, none] _
        rw [List.range_succ, List.map_append, List.map_singleton, er, ← List.append_assoc]
        exact .keep (.keep (.keep (.keep (.keep (.keep (.keep (.keep (.skip (.skip (.skip .nil))))))))))
    · refine sv_end ?_
      show Le [_, _, _, _, some (.ow q (oL (oQ T.C)) ((List.range (f + 1)).flatMap fun f => (List.range m).map fun s => redRow g wh n m f s)), _, _, none, none, none, none] _
      rw [List.range_succ, List.flatMap_append, List.flatMap_singleton]
      exact .keep (.keep (.keep (.keep (.keep (.keep (.keep (.skip (.skip (.skip (.skip .nil))))))))))
  · exact sv_freeze (i := 4) (q := q) (r := oL (oQ T.C)) (ds := (List.range n).flatMap fun f => (List.range m).map fun s => redRow g wh n m f s) rfl (sv_retE (r := oL (oL (oQ T.C))) (pv_var (i := 4) (r := oL (oL (oQ T.C))) (d := (List.range n).flatMap fun f => (List.range m).map fun s => redRow g wh n m f s) rfl) rfl rfl rfl rfl)
end
end Wk

end
section
set_option Elab.async false
set_option linter.all false
set_option maxRecDepth 100000
set_option maxHeartbeats 2000000
set_option exponentiation.threshold 100000
/-! the law: sums. -/
namespace Wk
open PySem PySem.Spec PyProof.Rows L2 Ru RZ Rp
open Hd (top)
theorem prd_imp {α β : Type} {r : Rep α} {r2 : Rep β} {B : Hp} {φ : α → β} (h : ∀ v d, r.r B v d → r2.r B v (φ d)) : ∀ {xs : List V} {ds : List α}, Prd r B xs ds → Prd r2 B xs (ds.map φ)
  | _, _, .nil => .nil
  | _, _, .cons q t => .cons (h _ _ q) (prd_imp h t)
theorem prd_QN {C : Addr} {B : Hp} {xs : List V} {ds : List Rat} (h : Prd (oQ C) B xs ds) : Prd (oN C) B xs ds := by
  have := prd_imp (r2 := oN C) (φ := id) (fun v d q => Or.inl q) h
  rwa [List.map_id] at this
theorem oL_QN {C : Addr} {B : Hp} {v : V} {ds : List Rat} (h : (oL (oQ C)).r B v ds) : (oL (oN C)).r B v ds := let ⟨a, xs, h1, h2, h3, h4⟩ := h; ⟨a, xs, h1, h2, prd_QN h3, h4⟩
theorem oLL_QN {C : Addr} {B : Hp} {v : V} {ds : Mq} (h : (oL (oL (oQ C))).r B v ds) : (oL (oL (oN C))).r B v ds := by
  obtain ⟨a, xs, h1, h2, h3, h4⟩ := h
  have := prd_imp (r2 := oL (oN C)) (φ := id) (fun v d q => oL_QN q) h3
  rw [List.map_id] at this
  exact ⟨a, xs, h1, h2, this, h4⟩
section
variable {X : Cx} {Φ : Fm} {e : Expr} {C : Addr}
theorem pvLN {ds : List Rat} (h : PD X Φ e (oL (oQ C)) ds) : PD X Φ e (oL (oN C)) ds := h.rep fun H v d q h => ⟨d, oL_QN h, q⟩
theorem pvLLN {ds : Mq} (h : PD X Φ e (oL (oL (oQ C))) ds) : PD X Φ e (oL (oL (oN C))) ds := h.rep fun H v d q h => ⟨d, oLL_QN h, q⟩
end
abbrev S_ldot (C : Addr) : Sp := sp2 (oL (oN C)) (oL (oN C)) (oQ C) DotOk (fun near far z => z = dotM near far)
def sprM (s f : List Rat) : Rat := dotM s (f.map fun x => (x - dotM s f) * (x - dotM s f))
structure SprOk (s f : List Rat) : Prop where
  d1 : DotOk s f
  len : f.length ≤ 900
  f1 : ∀ x ∈ f, Fit (x - dotM s f)
  d2 : DotOk s (f.map fun x => (x - dotM s f) * (x - dotM s f))
abbrev S_lspread (C : Addr) : Sp := sp2 (oL (oQ C)) (oL (oN C)) (oQ C) SprOk (fun s f z => z = sprM s f)
abbrev S_lworth (C : Addr) : Sp := sp2 (oL (oL (oQ C))) (oL (oN C)) (oQ C) (fun form row => form.length ≤ 900 ∧ (∀ r ∈ form, DotOk r row) ∧ DotOk row (form.map fun r => dotM r row)) (fun form row z => z = worthM form row)
abbrev S_lfirst (C : Addr) : Sp := sp2 (oL (oL (oN C))) oI (oL (oQ C)) (fun g p => ∃ j : Nat, p = j ∧ g.length ≤ 900 ∧ (∀ r ∈ g, j < r.length) ∧ OvOk (g.map fun r => r.getD j 0)) (fun g p z => z = ovM (g.map fun r => r.getD p.toNat 0))
abbrev S_lsecond (C : Addr) : Sp := sp2 (oL (oL (oN C))) oI (oL (oQ C)) (fun g p => ∃ j : Nat, p = j ∧ j < g.length ∧ OvOk (g.getD j [])) (fun g p z => z = ovM (g.getD p.toNat []))
section
variable {P : Program} {w : World} {K : PySem.W.Frag} {mg : Str → Option Value} {base : Heap} {f fi CK CW fK fW : Addr} {k : Nat}
theorem one_fit : Fit ((1 : Int) : Rat) := Fit.int (by decide)
theorem one_rat : (((1 : Int) : Int) : Rat) = 1 := rfl
theorem sc101 : FnScope ["_law_near", "_law_far", "_law_found", "_law_one", "_law_other"] ["_law_near", "_law_far"] (defScope (top 101)) := ⟨rfl, rfl, rfl, by decide +kernel, rfl, by decide +kernel, by decide +kernel⟩
theorem sc102 : FnScope ["_law_shares", "_law_function_here", "_law_middle", "_law_worth_here"] ["_law_shares", "_law_function_here"] (defScope (top 102)) := ⟨rfl, rfl, rfl, by decide +kernel, rfl, by decide +kernel, by decide +kernel⟩
theorem sc106 : FnScope ["_law_grid_here", "_law_place", "_law_column", "_law_whole", "_law_row", "_law_number_here"] ["_law_grid_here", "_law_place"] (defScope (top 106)) := ⟨rfl, rfl, rfl, by decide +kernel, rfl, by decide +kernel, by decide +kernel⟩
theorem sc107 : FnScope ["_law_grid_here", "_law_place", "_law_whole", "_law_number_here"] ["_law_grid_here", "_law_place"] (defScope (top 107)) := ⟨rfl, rfl, rfl, by decide +kernel, rfl, by decide +kernel, by decide +kernel⟩
theorem sc109 : FnScope ["_law_form", "_law_row", "_law_one"] ["_law_form", "_law_row"] (defScope (top 109)) := ⟨rfl, rfl, rfl, by decide +kernel, rfl, by decide +kernel, by decide +kernel⟩
theorem m_ldot (T : Tx K mg) (R : Rq P w K mg base T.C) (F : Df K "_law_dot" "_law_dot" (top 101) f) : Me P w K mg base 5 f (S_ldot T.C) := by
  refine me2 (k := 4) F sc101 (fun _ _ _ _ _ _ us hl => match us, hl with | [_, _], _ => rfl) (by decide) fun near far h B cdv A outer s H E hr _ => ?_
  obtain ⟨fi, Rm⟩ := R.mk_
  refine sv_setD (i := 2) (r := oQ T.C) (d := sumQ []) ((pv_mk1 Rm (hr.mono (by decide)) pv_int).to rfl) ?_ sc101.nd
  refine sv_for (fun i => [some (.kn (oL (oN T.C)) near), some (.kn (oL (oN T.C)) far), some (.kn (oQ T.C) (sumQ ((prods near far).take i))), none, none]) (piv_zip (pv_var (i := 0) (r := oL (oN T.C)) (d := near) rfl) (pv_var (i := 1) (r := oL (oN T.C)) (d := far) rfl) T.b_zip) (pg_tup rfl (pgs_cons (pg_name (i := 3) sc101.nd rfl (Or.inl rfl)) (pgs_cons (pg_name (i := 4) sc101.nd rfl (Or.inl rfl)) pgs_nil))) tg_pair (Le.rf _) (fun Bs i hi d hd => ?_) ?_
  · have hp : (prods near far)[i]? = some (d.1 * d.2) := by unfold prods; rw [List.getElem?_zipWith, hd.1, hd.2]
    have hf1 := h.f1 _ (mem_at hd.1)
    have e1 : ((1 : Int) : Rat) * d.1 = d.1 := by rw [one_rat]; grind
    refine sv_setD (i := 2) (r := oQ T.C) (d := sumQ ((prods near far).take (i + 1))) (PV.to (pv_addQ R hr (pv_var (i := 2) (r := oQ T.C) (d := sumQ ((prods near far).take i)) rfl) (pvN (pv_mulQ R hr (PV.to (pv_mulQ R hr (pv_mk1 Rm (hr.mono (by decide)) pv_int) (pv_var (i := 3) (r := oN T.C) (d := d.1) rfl) one_fit hf1) e1) (pv_var (i := 4) (r := oN T.C) (d := d.2) rfl) hf1 (h.f2 _ (mem_at hd.2)))) (h.sum.2 i (by rw [prods_len]; omega)) (h.sum.1 _ (mem_at hp))) (by rw [take_snoc hp, sumQ_snoc])) ?_ sc101.nd
    exact sv_end (.keep (.keep (.keep (.skip (.skip .nil)))))
  · exact sv_retE (r := oQ T.C) (PV.to (pv_var (i := 2) (r := oQ T.C) (d := sumQ ((prods near far).take (min near.length far.length))) rfl) (by rw [← prods_len, List.take_length]; rfl)) rfl rfl rfl rfl
theorem m_lspread (T : Tx K mg) (R : Rq P w K mg base T.C) (F : Df K "_law_spread" "_law_spread" (top 102) f) (c1 : Ca P w K mg base 5 "_law_dot" (S_ldot T.C)) : Me P w K mg base 6 f (S_lspread T.C) := by
  refine me2 (k := 5) F sc102 (fun _ _ _ _ _ _ us hl => match us, hl with | [_, _], _ => rfl) (by decide) fun s1 f1 h B cdv A outer s H E hr _ => ?_
  obtain ⟨fi, Rm⟩ := R.mk_
  have hd1 := h.d1
  have hm : Fit (dotM s1 f1) := by have := hd1.sum.2 (prods s1 f1).length (Nat.le_refl _); rwa [List.take_length] at this
  refine sv_setD (i := 2) (r := oQ T.C) (d := dotM s1 f1) (pv_call2 c1 hr (p1 := fun z => z = s1) (p2 := fun z => z = f1) (pvLN (pv_var (i := 0) (r := oL (oQ T.C)) (d := s1) rfl)) (pv_var (i := 1) (r := oL (oN T.C)) (d := f1) rfl) fun x y hx hy => ⟨by subst hx hy; exact hd1, fun z hz => by subst hx hy; exact hz⟩) ?_ sc102.nd
  refine sv_retE (r := oQ T.C) (pv_call2 c1 hr (p1 := fun z => z = s1) (p2 := fun z => z = f1.map fun x => (x - dotM s1 f1) * (x - dotM s1 f1)) (pvLN (pv_var (i := 0) (r := oL (oQ T.C)) (d := s1) rfl)) (pvLN (PV.to (pv_lc (own := [("_law_worth_here", 3)]) (r2 := oQ T.C) (f1.map fun x => (x - dotM s1 f1) * (x - dotM s1 f1)) rfl sc102.nd (piv_seq (pvS (pv_var (i := 1) (r := oL (oN T.C)) (d := f1) rfl))) (blkOk_by (N := ["_law_shares", "_law_function_here", "_law_middle", "_law_worth_here"]) (sc := defScope (top 102)) (by decide +kernel)) (fun _ _ _ _ _ => pg_name (i := 3) sc102.nd rfl (Or.inl rfl)) tg_name (free1 rfl) (by rw [List.length_map]) h.len fun i hi d hd y hy _ _ _ _ _ => ?_) rfl)) fun x y hx hy => ⟨by subst hx hy; exact h.d2, fun z hz => by subst hx hy; exact hz⟩) rfl rfl rfl rfl
  rw [List.getElem?_map, hd] at hy
  have hfd := hd1.f2 _ (mem_at hd)
  have hfs := h.f1 _ (mem_at hd)
  have e1 : ((1 : Int) : Rat) * d = d := by rw [one_rat]; grind
  exact PV.to (pv_mulQ R (hr.mono (by decide)) (pv_subQ R (hr.mono (by decide)) (PV.to (pv_mulQ R (hr.mono (by decide)) (pv_mk1 Rm (hr.mono (by decide)) pv_int) (pv_var (i := 3) (r := oN T.C) (d := d) rfl) one_fit hfd) e1) (pvN (pv_var (i := 2) (r := oQ T.C) (d := dotM s1 f1) rfl)) hfd hm) (pvN (pv_subQ R (hr.mono (by decide)) (PV.to (pv_mulQ R (hr.mono (by decide)) (pv_mk1 Rm (hr.mono (by decide)) pv_int) (pv_var (i := 3) (r := oN T.C) (d := d) rfl) one_fit hfd) e1) (pvN (pv_var (i := 2) (r := oQ T.C) (d := dotM s1 f1) rfl)) hfd hm)) hfs hfs) (Option.some.inj hy)
theorem m_lworth (T : Tx K mg) (F : Df K "_law_worth" "_law_worth" (top 109) f) (c1 : Ca P w K mg base 5 "_law_dot" (S_ldot T.C)) : Me P w K mg base 6 f (S_lworth T.C) := by
  refine me2 (k := 5) F sc109 (fun _ _ _ _ _ _ us hl => match us, hl with | [_, _], _ => rfl) (by decide) fun form row ⟨hl, h1, h2⟩ B cdv A outer s H E hr _ => ?_
  refine sv_retE (r := oQ T.C) (pv_call2 c1 hr (p1 := fun z => z = row) (p2 := fun z => z = form.map fun r => dotM r row) (pv_var (i := 1) (r := oL (oN T.C)) (d := row) rfl) (pvLN (PV.to (pv_lc (own := [("_law_one", 2)]) (r2 := oQ T.C) (form.map fun r => dotM r row) rfl sc109.nd (piv_seq (pvS (pv_var (i := 0) (r := oL (oL (oQ T.C))) (d := form) rfl))) (blkOk_by (N := ["_law_form", "_law_row", "_law_one"]) (sc := defScope (top 109)) (by decide +kernel)) (fun _ _ _ _ _ => pg_name (i := 2) sc109.nd rfl (Or.inl rfl)) tg_name (free1 rfl) (by rw [List.length_map]) hl fun i hi d hd y hy _ _ _ _ _ => ?_) rfl)) fun x y hx hy => ⟨by subst hx hy; exact h2, fun z hz => by subst hx hy; exact hz⟩) rfl rfl rfl rfl
  rw [List.getElem?_map, hd] at hy
  exact pv_call2 c1 hr (p1 := fun z => z = d) (p2 := fun z => z = row) (pvLN (pv_var (i := 2) (r := oL (oQ T.C)) (d := d) rfl)) (pv_var (i := 1) (r := oL (oN T.C)) (d := row) rfl) fun x y hx hy' => ⟨by subst hx hy'; exact h1 _ (mem_at hd), fun z hz => by subst hx hy'; rw [hz]; exact Option.some.inj hy⟩
/-! Ratio.total of the class -/
structure Ct (P : Program) (w : World) (K : PySem.W.Frag) (mg : Str → Option Value) (base : Heap) (C : Addr) : Prop where
  mgc : mg "Ratio" = some (.ref C)
  met : ∃ mc p g, ClX.CRead K C mc ∧ ClX.CMet K C mc "total" p g ∧ FnR P w K mg base CX0 6 g (S_total C)
theorem pv_total {X : Cx} {Φ : Fm} {a : Expr} {pos apos pc : Pos} {C : Addr} {ds : List Rat} {pl : Sem Bool} (R : Ct X.prog X.w X.K X.mg X.base C) (hr : Room 6 X.A) (ha : PD X Φ a (oS (oN C)) ds) (h : FitL ds) (hl : ds.length ≤ 900) (hg : Gl X "Ratio" := by rfl) (hst : starEach [a] X.env = (false, eval a X.env) :: starEach [] X.env := by rfl) (hpl : (backTo pos (starEach [] X.env)).any (·.1) = false := by rfl)
    (ht : eval (.Call (.Attribute (.Name "Ratio" pc) "total" apos) [a] [] pos) X.env = (do
      let ov ← eval (.Name "Ratio" pc) X.env
      standAt apos.atName
      let (f, first) ← holding [ov] (getMethod ov "total" pl)
      callWith pos f first (backTo pos (starEach [a] X.env)) (backToKw pos (keywordEach [] X.env))) := by rfl) : PD X Φ (.Call (.Attribute (.Name "Ratio" pc) "total" apos) [a] [] pos) (oQ C) (sumQ ds) := by
  obtain ⟨mc, pp, g, h1, h2, h3⟩ := R.met
  exact pv_of (ClX.pe_cmeth (E := E0) (pe_clname R.mgc hg) h1 h2 h3 hr pass0 (pa_cons pe_sem pa_nil hst) hst hpl ht) fun σ B H hs Q k => ⟨rfl, ha.ev σ B H hs _ fun v d B2 H2 g rr hd => by
    subst hd
    exact ⟨.ref C, .ref C, v, d, B2, rfl, g.bh, rfl, rr, ⟨h, hl⟩, fun u z B' H' g' r' po => k u z B' H' (g.trans g'.any) r' po⟩⟩
theorem m_lfirst (T : Tx K mg) (R : Rq P w K mg base T.C) (Rt : Ct P w K mg base T.C) (F : Df K "_law_first_at" "_law_first_at" (top 106) f) : Me P w K mg base 7 f (S_lfirst T.C) := by
  refine me2 (k := 6) F sc106 (fun _ _ _ _ _ _ us hl => match us, hl with | [_, _], _ => rfl) (by decide) fun g p ⟨j, hp, hl, hw, ho⟩ B cdv A outer s H E hr _ => ?_
  subst hp
  obtain ⟨fi, Rm⟩ := R.mk_
  rw [Int.toNat_natCast]
  have hlc := ho.len
  have hs : Fit (sumQ (g.map fun r => r.getD j 0)) := by have := ho.fit.2 _ (Nat.le_refl _); rwa [List.take_length] at this
  refine sv_setLc (i := 2) (r2 := oN T.C) (own := [("_law_row", 4)]) (g.map fun r => r.getD j 0) sc106.nd (piv_seq (pvS (pv_var (i := 0) (r := oL (oL (oN T.C))) (d := g) rfl))) (blkOk_by (N := ["_law_grid_here", "_law_place", "_law_column", "_law_whole", "_law_row", "_law_number_here"]) (sc := defScope (top 106)) (by decide +kernel)) (fun _ _ _ _ _ => pg_name (i := 4) sc106.nd rfl (Or.inl rfl)) tg_name (free1 rfl) (by rw [List.length_map]) hl (fun i hi d hd y hy _ _ _ _ _ => ?_) ?_
  · rw [List.getElem?_map, hd] at hy
    exact PV.to (pv_ix j (pvS (pv_var (i := 4) (r := oL (oN T.C)) (d := d) rfl)) (pv_var (i := 1) (r := oI) (d := (j : Int)) rfl) rfl (getD_at (d := 0) (hw _ (mem_at hd)))) (Option.some.inj hy)
  · refine sv_setD (i := 3) (r := oQ T.C) (d := sumQ (g.map fun r => r.getD j 0)) (pv_total Rt hr (pvS (pv_var (i := 2) (r := oL (oN T.C)) (d := g.map fun r => r.getD j 0) rfl)) ho.fit hlc) ?_ sc106.nd
    refine sv_retE (r := oL (oQ T.C)) (PV.to (pv_lc (own := [("_law_number_here", 5)]) (r2 := oQ T.C) (ovM (g.map fun r => r.getD j 0)) rfl sc106.nd (piv_seq (pvS (pv_var (i := 2) (r := oL (oN T.C)) (d := g.map fun r => r.getD j 0) rfl))) (blkOk_by (N := ["_law_grid_here", "_law_place", "_law_column", "_law_whole", "_law_row", "_law_number_here"]) (sc := defScope (top 106)) (by decide +kernel)) (fun _ _ _ _ _ => pg_name (i := 5) sc106.nd rfl (Or.inl rfl)) tg_name (free1 rfl) (by rw [ovM_len]) hlc fun i hi d hd y hy _ _ _ _ _ => ?_) rfl) rfl rfl rfl rfl
    unfold ovM at hy
    rw [List.getElem?_map, hd] at hy
    have hfd := ho.fit.1 _ (mem_at hd)
    have e1 : ((1 : Int) : Rat) * d = d := by rw [one_rat]; grind
    exact PV.to (pv_over R (hr.mono (by decide)) (PV.to (pv_mulQ R (hr.mono (by decide)) (pv_mk1 Rm (hr.mono (by decide)) pv_int) (pv_var (i := 5) (r := oN T.C) (d := d) rfl) one_fit hfd) e1) (pvN (pv_var (i := 3) (r := oQ T.C) (d := sumQ (g.map fun r => r.getD j 0)) rfl)) hfd hs ho.ne) (show d / sumQ (g.map fun r => r.getD j 0) = y from Option.some.inj hy)
theorem m_lsecond (T : Tx K mg) (R : Rq P w K mg base T.C) (Rt : Ct P w K mg base T.C) (F : Df K "_law_second_at" "_law_second_at" (top 107) f) : Me P w K mg base 7 f (S_lsecond T.C) := by
  refine me2 (k := 6) F sc107 (fun _ _ _ _ _ _ us hl => match us, hl with | [_, _], _ => rfl) (by decide) fun g p ⟨j, hp, hj, ho⟩ B cdv A outer s H E hr _ => ?_
  subst hp
  obtain ⟨fi, Rm⟩ := R.mk_
  rw [Int.toNat_natCast]
  have hlc := ho.len
  have hs : Fit (sumQ (g.getD j [])) := by have := ho.fit.2 _ (Nat.le_refl _); rwa [List.take_length] at this
  refine sv_setD (i := 2) (r := oQ T.C) (d := sumQ (g.getD j [])) (pv_total Rt hr (pvS (pv_ix j (pvS (pv_var (i := 0) (r := oL (oL (oN T.C))) (d := g) rfl)) (pv_var (i := 1) (r := oI) (d := (j : Int)) rfl) rfl (getD_at (d := []) hj))) ho.fit hlc) ?_ sc107.nd
  refine sv_retE (r := oL (oQ T.C)) (PV.to (pv_lc (own := [("_law_number_here", 3)]) (r2 := oQ T.C) (ovM (g.getD j [])) rfl sc107.nd (piv_seq (pvS (pv_ix j (pvS (pv_var (i := 0) (r := oL (oL (oN T.C))) (d := g) rfl)) (pv_var (i := 1) (r := oI) (d := (j : Int)) rfl) rfl (getD_at (d := []) hj)))) (blkOk_by (N := ["_law_grid_here", "_law_place", "_law_whole", "_law_number_here"]) (sc := defScope (top 107)) (by decide +kernel)) (fun _ _ _ _ _ => pg_name (i := 3) sc107.nd rfl (Or.inl rfl)) tg_name (free1 rfl) (by rw [ovM_len]) hlc fun i hi d hd y hy _ _ _ _ _ => ?_) rfl) rfl rfl rfl rfl
  unfold ovM at hy
  rw [List.getElem?_map, hd] at hy
  have hfd := ho.fit.1 _ (mem_at hd)
  have e1 : ((1 : Int) : Rat) * d = d := by rw [one_rat]; grind
  exact PV.to (pv_over R (hr.mono (by decide)) (PV.to (pv_mulQ R (hr.mono (by decide)) (pv_mk1 Rm (hr.mono (by decide)) pv_int) (pv_var (i := 3) (r := oN T.C) (d := d) rfl) one_fit hfd) e1) (pvN (pv_var (i := 2) (r := oQ T.C) (d := sumQ (g.getD j [])) rfl)) hfd hs ho.ne) (Option.some.inj hy)
end
end Wk

end
section
set_option Elab.async false
set_option linter.all false
set_option maxRecDepth 100000
set_option maxHeartbeats 2000000
set_option exponentiation.threshold 100000
/-! the law: its own seen walk, its own error. -/
namespace Wk
open PySem PySem.Spec PyProof.Rows L2 Ru RZ Rp
open Hd (top)
def colM (g : Mq) (j : Nat) : List Rat := g.map fun r => r.getD j 0
def lrow (g : Mq) (n i : Nat) (k : Nat) : List Rat := (List.range k).foldl (fun row a => List.zipWith (fun x y => x + (ovM (g.getD i [])).getD a 0 * y) row (ovM (colM g a))) (List.replicate n 0)
theorem lrow_succ (g : Mq) (n i k : Nat) : lrow g n i (k + 1) = List.zipWith (fun x y => x + (ovM (g.getD i [])).getD k 0 * y) (lrow g n i k) (ovM (colM g k)) := by unfold lrow; rw [List.range_succ, List.foldl_append]; rfl
theorem colM_len (g : Mq) (j : Nat) : (colM g j).length = g.length := by unfold colM; rw [List.length_map]
theorem lrow_len (g : Mq) (i : Nat) : ∀ k, (lrow g g.length i k).length = g.length
  | 0 => by unfold lrow; simp
  | k + 1 => by rw [lrow_succ, List.length_zipWith, lrow_len g i k, ovM_len, colM_len, Nat.min_self]
def lshares (g : Mq) : List Rat := g.map fun r => sumQ r / sumQ (g.map sumQ)
def lseenM (g : Mq) (m : Nat) : Mq := (List.range g.length).map fun i => lrow g g.length i m
structure LseenOk (g : Mq) (m : Nat) : Prop where
  n : g.length ≤ 3
  n0 : 0 < g.length
  m3 : m ≤ 3
  wide : ∀ r ∈ g, r.length = m
  ov : ∀ r ∈ g, OvOk r
  ovc : ∀ j, j < m → OvOk (colM g j)
  ovs : OvOk (g.map sumQ)
  f1 : ∀ i a, i < g.length → a < m → Fit ((ovM (g.getD i [])).getD a 0)
  f2 : ∀ a j, a < m → j < g.length → Fit ((ovM (colM g a)).getD j 0)
  f3 : ∀ i a j, i < g.length → a < m → j < g.length → Fit ((ovM (g.getD i [])).getD a 0 * (ovM (colM g a)).getD j 0)
  f4 : ∀ i a j, i < g.length → a < m → j < g.length → Fit ((lrow g g.length i a).getD j 0)
abbrev S_lseen (C : Addr) : Sp := sp1 (oL (oL (oN C))) (oP (oL (oL (oQ C))) (oL (oQ C))) (fun g => ∃ m, LseenOk g m) (fun g z => ∀ m, LseenOk g m → z = (lseenM g m, lshares g))
section
variable {P : Program} {w : World} {K : PySem.W.Frag} {mg : Str → Option Value} {base : Heap} {f fi CK CW fK fW : Addr} {k : Nat}
theorem sc108 : FnScope ["_law_grid_here", "_law_rows", "_law_place", "_law_row", "_law_at", "_law_chance", "_law_one", "_law_other", "_law_whole"] ["_law_grid_here"] (defScope (top 108)) := ⟨rfl, rfl, rfl, by decide +kernel, rfl, by decide +kernel, by decide +kernel⟩
theorem m_lseen (T : Tx K mg) (R : Rq P w K mg base T.C) (Rt : Ct P w K mg base T.C) (F : Df K "_law_seen" "_law_seen" (top 108) f) (c1 : Ca P w K mg base 7 "_law_second_at" (S_lsecond T.C)) (c2 : Ca P w K mg base 7 "_law_first_at" (S_lfirst T.C)) : Me P w K mg base 8 f (S_lseen T.C) := by
  refine me1 (k := 7) F sc108 (fun _ _ _ _ _ _ us hl => match us, hl with | [_], _ => rfl) (by decide) fun g ⟨m, h⟩ B cdv A outer s H E hr _ => ?_
  obtain ⟨fi, Rm⟩ := R.mk_
  have hn := h.n; have hm := h.m3
  refine sv_new (i := 1) (oL (oQ T.C)) (fun q => ?_) sc108.nd
  let G1 : Nat → List (Option Sl) := fun i => [some (.kn (oL (oL (oN T.C))) g), some (.ow q (oL (oQ T.C)) ((List.range i).map fun i => lrow g g.length i m)), none, none, none, none, none, none, none]
  refine sv_for G1 (piv_range g.length (pv_len (pvS (pv_var (i := 0) (r := oL (oL (oN T.C))) (d := g) rfl)) T.b_len) rfl (by omega) T.b_range) (pg_name (i := 2) sc108.nd rfl (.inl rfl)) tg_name (Le.rf _) (fun Bs i hi d hd => ?_) ?_
  · subst hd
    have hri := h.ov _ (mem_at (getD_at (d := []) hi))
    have hwi := h.wide _ (mem_at (getD_at (d := []) hi))
    refine sv_setD (i := 3) (r := oL (oQ T.C)) (d := lrow g g.length i 0) (PV.to (pv_rep g.length (pv_list (pvl_cons (pv_mk1 Rm (hr.mono (by decide)) pv_int) pvl_nil)) (pv_len (pvS (pv_var (i := 0) (r := oL (oL (oN T.C))) (d := g) rfl)) T.b_len) rfl (by omega)) rfl) ?_ sc108.nd
    let G2 : Nat → List (Option Sl) := fun a => [some (.kn (oL (oL (oN T.C))) g), some (.ow q (oL (oQ T.C)) ((List.range i).map fun i => lrow g g.length i m)), some (.kn oI (i : Int)), some (.kn (oL (oQ T.C)) (lrow g g.length i a)), none, none, none, none, none]
    refine sv_for G2 (piv_enum (pvS (pv_call2 c1 hr (p1 := fun z => z = g) (p2 := fun z => z = (i : Int)) (Pq := fun z => z = ovM (g.getD i [])) (pv_var (i := 0) (r := oL (oL (oN T.C))) (d := g) rfl) (pv_var (i := 2) (r := oI) (d := (i : Int)) rfl) fun x y hx hy => ⟨by subst hx hy; exact ⟨i, rfl, hi, hri⟩, fun z hz => by subst hx hy; rw [hz, Int.toNat_natCast]⟩)) T.b_enumerate) (pg_tup rfl (pgs_cons (pg_name (i := 4) sc108.nd rfl (Or.inl rfl)) (pgs_cons (pg_name (i := 5) sc108.nd rfl (Or.inr rfl)) pgs_nil))) tg_pair (Le.rf _) (fun Bs2 a ha e he => ?_) ?_
    · obtain ⟨ea, ec⟩ := e
      obtain ⟨he1, he2⟩ := he
      dsimp only at he1 he2
      subst he1
      rw [ovM_len, hwi] at ha
      have ga : (ovM (g.getD i [])).getD a 0 = ec := getD_of he2
      refine sv_setLc (i := 3) (r2 := oQ T.C) (own := [("_law_one", 6), ("_law_other", 7)]) (lrow g g.length i (a + 1)) sc108.nd (piv_zip (pv_var (i := 3) (r := oL (oQ T.C)) (d := lrow g g.length i a) rfl) (pv_call2 c2 hr (p1 := fun z => z = g) (p2 := fun z => z = (a : Int)) (Pq := fun z => z = ovM (colM g a)) (pv_var (i := 0) (r := oL (oL (oN T.C))) (d := g) rfl) (pv_var (i := 4) (r := oI) (d := (a : Int)) rfl) fun x y hx hy => ⟨by subst hx hy; exact ⟨a, rfl, by omega, fun r hr => by rw [h.wide r hr]; exact ha, h.ovc a ha⟩, fun z hz => by subst hx hy; rw [hz, Int.toNat_natCast]; rfl⟩) T.b_zip) (blkOk_by (N := ["_law_grid_here", "_law_rows", "_law_place", "_law_row", "_law_at", "_law_chance", "_law_one", "_law_other", "_law_whole"]) (sc := defScope (top 108)) (by decide +kernel)) (fun _ _ _ _ _ => pg_tup rfl (pgs_cons (pg_name (i := 6) sc108.nd rfl (Or.inl rfl)) (pgs_cons (pg_name (i := 7) sc108.nd rfl (Or.inl rfl)) pgs_nil))) tg_pair (free2 rfl rfl) (by rw [lrow_len, lrow_len, ovM_len, colM_len, Nat.min_self]) (by rw [lrow_len]; omega) (fun j hj e he y hy _ _ _ _ _ => ?_) ?_
      · rw [lrow_len, ovM_len, colM_len, Nat.min_self] at hj
        rw [lrow_succ, List.getElem?_zipWith, he.1, he.2, ga] at hy
        have q1 := h.f1 i a hi ha; have q2 := h.f2 a j ha hj; have q3 := h.f3 i a j hi ha hj; have q4 := h.f4 i a j hi ha hj
        rw [ga] at q1 q3; rw [getD_of he.2] at q2 q3; rw [getD_of he.1] at q4
        exact PV.to (pv_addQ R (hr.mono (by decide)) (pv_var (i := 6) (r := oQ T.C) (d := e.1) rfl) (pvN (pv_mulQ R (hr.mono (by decide)) (pv_var (i := 5) (r := oQ T.C) (d := ec) rfl) (pvN (pv_var (i := 7) (r := oQ T.C) (d := e.2) rfl)) q1 q2)) q4 q3) (Option.some.inj hy)
      · exact sv_end (.keep (.keep (.keep (.keep (.skip (.skip (.skip (.skip (.skip .nil)))))))))
    · rw [ovM_len, hwi]
      refine sv_append (i := 1) (q := q) (r := oL (oQ T.C)) (ds := (List.range i).map fun i => lrow g g.length i m) (d := lrow g g.length i m) rfl (pv_var (i := 3) (r := oL (oQ T.C)) (d := lrow g g.length i m) rfl) (by rw [List.length_map, List.length_range]; omega) ?_
      refine sv_end ?_
      show Le [_, some (.ow q (oL (oQ T.C)) ((List.range (i + 1)).map fun i => lrow g g.length i m)), none, none, none, none, none, none, none] _
      rw [List.range_succ, List.map_append]
      exact .keep (.keep (.skip (.skip (.skip (.skip (.skip (.skip (.skip .nil))))))))
  · have hol := h.ovs.len
    have hs : Fit (sumQ (g.map sumQ)) := by have := h.ovs.fit.2 _ (Nat.le_refl _); rwa [List.take_length] at this
    refine sv_setD (i := 8) (r := oQ T.C) (d := sumQ (g.map sumQ)) (pv_total Rt (hr.mono (by decide)) (pvS (pvLN (PV.to (pv_lc (own := [("_law_row", 3)]) (r2 := oQ T.C) (g.map sumQ) rfl sc108.nd (piv_seq (pvS (pv_var (i := 0) (r := oL (oL (oN T.C))) (d := g) rfl))) (blkOk_by (N := ["_law_grid_here", "_law_rows", "_law_place", "_law_row", "_law_at", "_law_chance", "_law_one", "_law_other", "_law_whole"]) (sc := defScope (top 108)) (by decide +kernel)) (fun _ _ _ _ _ => pg_name (i := 3) sc108.nd rfl (Or.inl rfl)) tg_name (free1 rfl) (by rw [List.length_map]) (by omega) fun i hi d hd y hy _ _ _ _ _ => ?_) rfl))) h.ovs.fit hol) ?_ sc108.nd
    · rw [List.getElem?_map, hd] at hy
      have ho := h.ov _ (mem_at hd)
      exact PV.to (pv_total Rt (hr.mono (by decide)) (pvS (pv_var (i := 3) (r := oL (oN T.C)) (d := d) rfl)) ho.fit ho.len) (Option.some.inj hy)
    · refine sv_freeze (i := 1) (q := q) (r := oL (oQ T.C)) (ds := (List.range g.length).map fun i => lrow g g.length i m) rfl ?_
      refine sv_retE (r := oP (oL (oL (oQ T.C))) (oL (oQ T.C))) (PV.imp (pv_pair (pv_var (i := 1) (r := oL (oL (oQ T.C))) (d := (List.range g.length).map fun i => lrow g g.length i m) rfl) (PV.to (pv_lc (own := [("_law_row", 3)]) (r2 := oQ T.C) (lshares g) rfl sc108.nd (piv_seq (pvS (pv_var (i := 0) (r := oL (oL (oN T.C))) (d := g) rfl))) (blkOk_by (N := ["_law_grid_here", "_law_rows", "_law_place", "_law_row", "_law_at", "_law_chance", "_law_one", "_law_other", "_law_whole"]) (sc := defScope (top 108)) (by decide +kernel)) (fun _ _ _ _ _ => pg_name (i := 3) sc108.nd rfl (Or.inl rfl)) tg_name (free1 rfl) (by unfold lshares; rw [List.length_map]) (by omega) fun i hi d hd y hy _ _ _ _ _ => ?_) rfl)) fun z hz m' hm' => ?_) rfl rfl rfl rfl
      · unfold lshares at hy
        rw [List.getElem?_map, hd] at hy
        have ho := h.ov _ (mem_at hd)
        have hsd : Fit (sumQ d) := by have := ho.fit.2 _ (Nat.le_refl _); rwa [List.take_length] at this
        exact PV.to (pv_over R (hr.mono (by decide)) (pv_total Rt (hr.mono (by decide)) (pvS (pv_var (i := 3) (r := oL (oN T.C)) (d := d) rfl)) ho.fit ho.len) (pvN (pv_var (i := 8) (r := oQ T.C) (d := sumQ (g.map sumQ)) rfl)) hsd hs h.ovs.ne) (Option.some.inj hy)
      · have e1 := h.wide _ (mem_at (getD_at (d := []) h.n0))
        have e2 := hm'.wide _ (mem_at (getD_at (d := []) h.n0))
        rw [hz, ← e2, e1]
        rfl
end
end Wk

end
section
set_option Elab.async false
set_option linter.all false
set_option maxRecDepth 100000
set_option maxHeartbeats 2000000
set_option exponentiation.threshold 100000
/-! the law: what is drawn. -/
namespace Wk
open PySem PySem.Spec PyProof.Rows L2 Ru RZ Rp
open Hd (top)
theorem semS_of {X : Cx} {sts : List Stmt} {t : TS} {D : Ends} {σ : L2.St} {H : Hp} (h : PSs X sts t) (k : t D σ H) : semS X sts D σ H := fun pins s I => h.run pins s σ H D I k
theorem beta_at {α : Type} {P : α → Prop} {x y : α} (h : x = y) (hp : P y) : P x := h ▸ hp
theorem ite_no {p q : Prop} (h : q) : if false = true then p else q := h
/-- the pot turns -/
theorem grow_pot {a : Addr} {B H H1 : Hp} {x y : Int} (xb : Ext B H) (hB : B a = none) (x1 : Ext H H1) (hx : 0 ≤ x) (hy : 0 ≤ y ∧ y < 2 ^ 40) (ha : H a ≠ none) : Grow (some a) B H B (upd H1 a (.lst [.int x, .int y])) := by
  have hh : ∀ b o, some a ≠ some b → H b = some o → upd H1 a (.lst [.int x, .int y]) b = some o := fun b o z h => by
    rw [upd_ne (fun q => z (by rw [q]))]; exact x1 b o h
  refine ⟨hh, Ext.rfl', fun b o h => ?_, fun _ _ h => .inl h, fun b h => ?_, fun b z _ => ?_⟩
  · have nb : b ≠ a := fun z => by subst z; rw [hB] at h; cases h
    rw [upd_ne nb]; exact x1 b o (xb b o h)
  · by_cases z : b = a
    · subst z; rw [upd_same] at h; cases h
    · rw [upd_ne z] at h; exact ext_none x1 h
  · cases z; exact ⟨x, y, hx, hy, upd_same⟩
def S_draw : Sp := fun vs H Q _ => ∃ a n B, vs = [.ref a, .int n] ∧ Ext B H ∧ B a = none ∧ Pot H a ∧ 1 ≤ n ∧ n ≤ 1000 ∧ ∀ d B' H', Grow (some a) B H B' H' → B' a = none → 0 ≤ d → d < n → Q (.int d) H'
section
variable {P : Program} {w : World} {K : PySem.W.Frag} {mg : Str → Option Value} {base : Heap} {f fi CK CW fK fW : Addr} {k : Nat}
theorem sc97 : FnScope ["_law_pot_here", "_law_many", "_law_digit"] ["_law_pot_here", "_law_many"] (defScope (top 97)) := ⟨rfl, rfl, rfl, by decide +kernel, rfl, by decide +kernel, by decide +kernel⟩
theorem m_draw (T : Tx K mg) (F : Df K "_law_draw" "_law_draw" (top 97) f) : Me P w K mg base 1 f S_draw := by
  refine me_of (k := 0) (ps := ["_law_pot_here", "_law_many"]) F sc97 (fun _ _ _ _ _ _ us hl => match us, hl with | [_, _], _ => rfl) (fun vs H Q E ⟨a, n, B, h, _⟩ => by subst h; rfl) fun cdv A outer s H vs Q E hr ⟨a, n, B, h, xb, hB, ⟨x, y, hx, hy, hH⟩, hn1, hn2, kk⟩ => ?_
  subst h
  have hne : H a ≠ none := by rw [hH]; exact fun z => nomatch z
  have ix : ∀ {X : Cx} {i : Int} {j : Nat} {p1 p2 p3 : Pos} (hN : X.N[0]? = some ("_law_pot_here" : Str)) (hv : Vis X.env.scope ("_law_pot_here" : Str)), PE X (.Subscript (.Name "_law_pot_here" p1) (.Constant (.int i) j p2) p3) (tOp (rIx X.K) (tVar 0) (tC (.int i))) := fun hN hv => pe_ix ix_seq (pe_var hN hv) pe_int (fun _ _ => rfl)
  refine semS_of (pss_cons (ps_if (pt_cmpR op_gt (ix rfl (.inl rfl)) pe_int (nomark _)) (pss_cons (ps_asg (pe_callB call_divmod (by rfl) T.b_divmod (by decide +kernel) (pa_cons (ix rfl (.inl rfl)) (pa_cons (pe_var (i := 1) rfl (.inl rfl)) pa_nil))) (pg_tup rfl (pgs_cons (pg_sub (pe_var (i := 0) rfl (.inl rfl)) pe_int set_list) (pgs_cons (pg_name (i := 2) sc97.nd rfl (.inl rfl)) pgs_nil)))) (pss_one (ps_ret (pe_var (i := 2) rfl (.inl rfl))))) pss_nil)
    (pss_cons (ps_asg (pe_op op_mod (pe_callTy call_int1 (by rfl) T.b_int (by decide +kernel) (pa_cons (pe_op op_add (pe_op op_mulW (ix rfl (.inl rfl)) pe_int) pe_int) pa_nil)) pe_int) (pg_sub (pe_var (i := 0) rfl (.inl rfl)) pe_int set_list))
    (pss_one (ps_ret (pe_op op_mod (pe_callTy call_int1 (by rfl) T.b_int (by decide +kernel) (pa_cons (pe_op op_fdivW (pe_op op_mod (pe_callTy call_int1 (by rfl) T.b_int (by decide +kernel) (pa_cons (pe_op op_mulW (ix rfl (.inl rfl)) (ix rfl (.inl rfl))) pa_nil)) pe_int) pe_int) pa_nil)) (pe_var (i := 1) rfl (.inl rfl))))))) ?_
  refine ⟨.ref a, rfl, .inl ⟨a, _, 0, .int x, rfl, rfl, SqL.of hH, rfl, x, 0, rfl, rfl, decide (0 < x), rfl, ?_⟩⟩
  by_cases hp : 0 < x
  · rw [decide_eq_true hp]
    refine ite_go ?_
    refine ⟨.ref a, rfl, .inl ⟨a, _, 0, .int x, rfl, rfl, SqL.of hH, rfl, .int n, rfl, x, n, rfl, ⟨by omega, by omega⟩, fun p hpn => ?_⟩⟩
    have na : a ≠ p := fun z => by subst z; rw [hH] at hpn; cases hpn
    have h2 : upd H p (.tup [.int (x / n), .int (x % n)]) a = some (.lst [.int x, .int y]) := by rw [upd_ne na]; exact hH
    refine ⟨p, _, rfl, SqT.of upd_same, rfl, .int (x / n), _, rfl, .ref a, rfl, a, _, 0, 0, rfl, rfl, h2, rfl, .int (x % n), [], rfl, rfl, .int (x % n), rfl, ?_⟩
    exact kk _ B _ (grow_pot xb hB (Ext.upd hpn) (Int.ediv_nonneg hx (by omega)) hy hne) hB (Int.emod_nonneg _ (by omega)) (Int.emod_lt_of_pos _ (by omega))
  · rw [decide_eq_false hp]
    refine ite_no ?_
    have hy1 : y.natAbs < 2 ^ 40 := by omega
    refine ⟨.ref a, rfl, .inl ⟨a, _, 1, .int y, rfl, rfl, SqL.of hH, rfl, y, 39373, rfl, rfl, wide_mul (a := 40) (b := 20) hy1 (by decide) (by decide) (by decide) (by decide), y * 39373, 8263, rfl, rfl, .inl ⟨_, rfl, ?_⟩⟩⟩
    refine ⟨_, 2147483587, rfl, rfl, (by decide : (0 : Int) < 2147483587), .ref a, rfl, a, _, 1, 1, rfl, rfl, hH, rfl, ?_⟩
    have m1 := Int.emod_nonneg (y * 39373 + 8263) (show (2147483587 : Int) ≠ 0 by decide)
    have m2 := Int.emod_lt_of_pos (y * 39373 + 8263) (show (0 : Int) < 2147483587 by decide)
    obtain ⟨z, ez⟩ : ∃ z, z = (y * 39373 + 8263) % 2147483587 := ⟨_, rfl⟩
    rw [← ez] at m1 m2
    refine beta_at (y := upd H a (.lst [.int x, .int z])) (by rw [ez]; rfl) ?_
    have hz : z.natAbs < 2 ^ 40 := by omega
    have h3 : upd H a (.lst [.int x, .int z]) a = some (.lst [.int x, .int z]) := upd_same
    refine ⟨.ref a, rfl, .inl ⟨a, _, 1, .int z, rfl, rfl, SqL.of h3, rfl, .ref a, rfl, .inl ⟨a, _, 1, .int z, rfl, rfl, SqL.of h3, rfl, z, z, rfl, rfl, wide_mul (a := 40) (b := 40) hz hz (by decide) (by decide) (by decide), .inl ⟨_, rfl, _, 2147483563, rfl, rfl, (by decide : (0 : Int) < 2147483563), ?_⟩⟩⟩⟩
    refine ⟨_, 19, rfl, rfl, ⟨by decide, by decide⟩, .inl ⟨_, rfl, .int n, rfl, _, n, rfl, rfl, (show (0 : Int) < n by omega), ?_⟩⟩
    exact kk _ B _ (grow_pot xb hB Ext.rfl' hx ⟨m1, by omega⟩ hne) hB (Int.emod_nonneg _ (by omega)) (Int.emod_lt_of_pos _ (by omega))
end
/-! ### drawing, as judgements: Φ.m the pot -/
section
variable {X : Cx} {Φ : Fm} {e a b : Expr} {pos p : Pos} {pa : Addr}
theorem stt_pot {σ : L2.St} {B H : Hp} (hs : Stt Φ σ B H) (hm : Φ.m = some pa) (hp : Pot Φ.H0 pa) : B pa = none ∧ Pot H pa := by
  refine ⟨?_, hs.g.pot pa hm hp⟩
  cases q : B pa with
  | none => rfl
  | some o =>
    rcases hs.g.new _ _ q with z | z
    · rw [(hs.mm pa hm).1] at z; cases z
    · exact absurd z (hs.mm pa hm).2
theorem pv_draw {n : Int} (c : Ca X.prog X.w X.K X.mg X.base 1 "_law_draw" S_draw) (hr : Room 1 X.A) (hm : Φ.m = some pa) (hp : Pot Φ.H0 pa) (ha : PD X Φ a oV (.ref pa)) (hb : PD X Φ b oI n) (h1 : 1 ≤ n) (h2 : n ≤ 1000) (hg : Gl X "_law_draw" := by rfl)
    (he : starEach [a, b] X.env = (false, eval a X.env) :: starEach [b] X.env := by rfl) (he2 : starEach [b] X.env = (false, eval b X.env) :: starEach [] X.env := by rfl) (hpl : (backTo pos (starEach [b] X.env)).any (·.1) = false := by rfl) : PV X Φ (.Call (.Name "_law_draw" p) [a, b] [] pos) oI (fun d => 0 ≤ d ∧ d < n) :=
  pv_of (pe_ca c hr (pa_cons pe_sem (pa_cons pe_sem pa_nil he2) he) hg (by decide) he hpl) fun σ B H hs Q k => ev2 ha.ev hb.ev hs fun v d v' d' B2 H2 g r1 q1 r2 q2 => by
    subst q1 q2
    obtain ⟨x1, x2⟩ := stt_pot (hs.grow g) hm hp
    have e1 : v = .ref pa := r1
    subst e1
    refine ⟨pa, d', B2, by rw [show v' = V.int d' from r2], g.bh, x1, x2, h1, h2, fun d B' H' g' _ l1 l2 => ?_⟩
    rw [← hm] at g'
    exact k _ d B' H' (g.trans g') rfl ⟨l1, l2⟩
end
end Wk

end
section
set_option Elab.async false
set_option linter.all false
set_option maxRecDepth 100000
set_option maxHeartbeats 2000000
set_option exponentiation.threshold 100000
/-! the law: numbers, functions, grids drawn. -/
namespace Wk
open PySem PySem.Spec PyProof.Rows L2 Ru RZ Rp
open Hd (top)
/-- to one of a family of slots -/
def toX (D : Ends) (Φ : Fm) (F : List (Option Sl) → Prop) : Ends := { nx := fun σ H => ∃ G, F G ∧ ∃ B, Stt (Φ.wG G) σ B H, rt := D.rt }
section
variable {X : Cx} {Φ : Fm} {α β : Type} {r : Rep α} {r2 : Rep β} {e a b c : Expr} {pos p pos' : Pos} {D : Ends} {rest t : List Stmt} {P : α → Prop}
theorem sv_endX {F : List (Option Sl) → Prop} {G : List (Option Sl)} (hF : F G) (h : Le G Φ.Γ) {Φ' : Fm} (e1 : Φ'.m = Φ.m) (e2 : Φ'.B0 = Φ.B0) (e3 : Φ'.H0 = Φ.H0) (e4 : Φ'.Bs = Φ.Bs) : SV X Φ (toX D Φ' F) [] := sv_nil fun σ B H hs => ⟨G, hF, B, by
  have := hs.le h
  have e : Φ'.wG G = Φ.wG G := by show (⟨G, Φ'.m, Φ'.B0, Φ'.H0, Φ'.Bs⟩ : Fm) = _; rw [e1, e2, e3, e4]
  rw [e]; exact this⟩
theorem sv_forF {tg iter : Expr} {body : List Stmt} {g : TG} {n : Nat} {it : Nat → α → Prop} {vs : List Nat} {pt : List (Option Sl) → α → List (Option Sl)} (F : Nat → List (Option Sl) → Prop)
    (hi : PIV X Φ tg iter n r it) (hg : PG X tg g) (tg_ : Tg X.K g r vs pt) (G0 : List (Option Sl)) (hF0 : F 0 G0) (h0 : Le G0 Φ.Γ)
    (hb : ∀ Bs i G, i < n → F i G → ∀ d, it i d → SV X ((Φ.wB Bs).wG (pt G d)) (toX D (Φ.wB Bs) (F (i + 1))) body)
    (hr : ∀ G, F n G → SV X (Φ.wG G) D rest) (hp : PassesOwn (model X.prog X.w) X.A X.env X.xe := by exact PassesOwn.never) (hc : X.calm = true := by rfl)
    (hs : ∀ x, foldedSetIterable iter X.env x = pure x := by intro _; rfl) : SV X Φ D (.For tg iter body [] pos :: rest) := by
  obtain ⟨wi, hpi, hw⟩ := hi
  refine sv_step (ps_for hp hc hpi hg (pss_sem (sts := body)) hs) fun σ B H hst => hw σ B H hst _ fun J1 B1 H1 g1 T => ?_
  have st1 : Stt ((Φ.wB B1).wG G0) σ B1 H1 := ((hst.grow g1).le h0).wBs
  have hbs : Ext Φ.Bs B1 := (hst.grow g1).bs
  refine ⟨fun i m σ H => m = n - i ∧ i ≤ n ∧ ∃ G, F i G ∧ ∃ B, Stt ((Φ.wB B1).wG G) σ B H, ⟨n, by simp, Nat.zero_le _, G0, hF0, B1, st1⟩, ?_⟩
  rintro i m σ2 H2 ⟨rfl, hi, G, hG, B2, s2⟩
  by_cases hlt : i < n
  · refine .inr ⟨T.go i hlt B2 H2 s2.bs s2.bh, fun σ' H' => ∃ G, F (i + 1) G ∧ ∃ B, Stt ((Φ.wB B1).wG G) σ' B H', fun σ' H' p' => ⟨n - (i + 1), by omega, rfl, hlt, p'⟩, fun x H' y => ?_⟩
    obtain ⟨B3, d, g3, r3, hd⟩ := T.yld i hlt B2 H2 x H' s2.bs s2.bh y
    refine tg_.run _ σ2 B3 H' x d _ (s2.grow g3) r3 fun σ' s4 _ => ?_
    exact semS_mono (hb B1 i G hlt hG d hd σ' B3 H' s4) (fun _ _ h => h) (fun _ _ h => h)
  · have e : i = n := by omega
    subst e
    exact .inl ⟨T.stop B2 H2 s2.bs s2.bh, hr G hG σ2 B2 H2 (s2.oBs hbs)⟩
theorem sv_appendP {i : Nat} {x : Str} {q : Addr} {ds : List α} {px apos : Pos} (h : Φ.Γ[i]? = some (some (.ow q r ds))) (he : PV X Φ e r P) (hl : ds.length < 900) (hr : ∀ d, P d → SV X (Φ.put i (.ow q r (ds ++ [d]))) D rest)
    (hN : X.N[i]? = some x := by rfl) (hv : Vis X.env.scope x := by first | exact .inl rfl | exact .inr (.inl rfl) | exact .inr (.inr rfl)) (hd : (x == ("__debug__" : Str)) = false := by decide) (hcd : (x == ("__classdict__" : Str)) = false := by decide)
    (hbase : attributeBase (.Name x px) "append" X.env (eval (.Name x px) X.env) = eval (.Name x px) X.env := by rfl) (hline : (apos.endLine == p.line) = true := by rfl) (hst : starEach [e] X.env = (false, eval e X.env) :: starEach [] X.env := by rfl)
    (hfew : ((backTo p (starEach [e] X.env)).all (fun x => !x.1) && (backToKw p (keywordEach [] X.env)).all (fun x => x.1.isSome) && decide (([e] : List Expr).length + ([] : List Keyword).length + (if ([] : List Keyword).isEmpty then 0 else 1) < 30)) = true := by rfl)
    (hplain : (backTo p (starEach [] X.env)).any (·.1) = false := by rfl) (hsw : swapsWith (.Call (.Attribute (.Name x px) "append" apos) [e] [] p) none pos.line X.env = pure false := by rfl) :
    SV X Φ D (.Expr (.Call (.Attribute (.Name x px) "append" apos) [e] [] p) pos :: rest) :=
  sv_step (ps_expr (pe_bm PySem.F.plainAttrs_list PySem.F.slot_list_append PySem.F.type_list_append mt_append (pe_var hN hv hd hcd) (pa_cons pe_sem pa_nil hst) hbase hfew hline hst hplain) hsw) fun σ B H hs => by
    obtain ⟨h1, h2, h3, h4, xs, h5, h6⟩ := own_at hs h
    refine ⟨.ref q, h1, .inl ⟨rfl, xs, SqL.of h5⟩, he.ev σ B H hs _ fun v d' B1 H1 g rr hd' => ?_⟩
    have hs1 := hs.grow g
    refine ⟨q, xs, v, rfl, rfl, g.hh _ _ h2 h5, Nat.lt_of_lt_of_le (m := 1000) (by rw [h6.len]; omega) (by decide), ?_⟩
    exact hr d' hd' σ B1 _ (hs1.chg h ((h6.mono g.bb).snoc rr) (by rw [List.length_append]; exact hl))
theorem sv_ifretP (hc : PVT X Φ c (fun _ => True)) (h1 : SV X Φ (noN D) t) (h2 : SV X Φ D rest) : SV X Φ D (.If c t [] pos :: rest) :=
  sv_step (ps_if pt_sem pss_sem pss_nil) fun σ B H hs => hc σ B H hs _ fun b B1 H1 g _ => by
    cases b with
    | true => exact ite_go (semS_mono (h1 σ B1 H1 (hs.grow g)) (fun _ _ h => h.elim) (fun _ _ h => h))
    | false => exact ite_no (h2 σ B1 H1 (hs.grow g))
theorem pt_eqP {p1 : Int → Prop} {i : Int} {j : Nat} {pc : Pos} (ha : PV X Φ a oI p1) : PVT X Φ (.Compare a [.Eq] [.Constant (.int i) j pc] pos) (fun _ => True) :=
  pvt_of (pt_cmpR op_eq pe_sem pe_int (nomark _)) fun σ B H hs Q k => ha.ev σ B H hs _ fun v d B2 H2 g rr _ => ⟨by rw [show v = V.int d from rr]; rfl, _, rfl, k _ B2 H2 g trivial⟩
theorem pv_ixP {ds : List α} {p1 : Int → Prop} (ha : PD X Φ a (oS r) ds) (hb : PV X Φ b oI p1) (hp : ∀ i, p1 i → 0 ≤ i ∧ i < ds.length) (hs : PlainIx b := by exact fun _ _ => rfl) : PV X Φ (.Subscript a b pos) r (fun d => d ∈ ds) :=
  pv_of (pe_ix ix_seq pe_sem pe_sem hs) (ev_op ha.ev hb.ev fun v ds' w i' B H x q p q' p' Q k => by
    subst p
    obtain ⟨l1, l2⟩ := hp _ p'
    have r2 : w = .int i' := q'
    subst r2
    obtain ⟨n, hn⟩ : ∃ n : Nat, i' = n := ⟨i'.toNat, by omega⟩
    subst hn
    obtain ⟨pp, ys, rfl, h1, h2, h3, _⟩ := oS_seq x q
    have hg : ds'[n]? = some (ds'[n]'(by omega)) := List.getElem?_eq_getElem (by omega)
    obtain ⟨u, hu, ru⟩ := h2.get hg
    rcases h1 with h1 | h1
    · exact .inl ⟨pp, ys, _, u, rfl, rfl, SqL.of h1, atI_nat hu, k _ _ B H (.refl x) ru (mem_at hg)⟩
    · exact .inr (.inl ⟨pp, ys, _, u, rfl, rfl, SqT.of h1, atI_nat hu, k _ _ B H (.refl x) ru (mem_at hg)⟩))
theorem ev_madeP {C : Addr} {ta : TA} {tl : List V} {Pr : Hp → List V → Prop} {Po : Rat → Prop} (ha : EvA ta Φ Pr) (hp : ∀ B vs, Pr B vs → ∃ t b : Int, vs ++ tl = [.int t, .int b] ∧ b ≠ 0 ∧ b.natAbs < 2 ^ 9000 ∧ Po ((t : Rat) / b)) :
    EvP (StX.tMakeR C (fun vs H Q E => S_init C (vs ++ tl) H Q E) E0 ta) Φ (oQ C) Po := fun σ B H hs Q k => ha σ B H hs _ fun vs B1 H1 g q x dx hx hd hne => by
  obtain ⟨t, b, e, hb, hz, po⟩ := hp _ _ q
  have h1 : Ext H1 (upd (upd H1 dx (.own x)) x (.ins C dx [])) := (Ext.upd hd).trans (Ext.upd (by rw [upd_ne hne.symm]; exact hx))
  refine ⟨x, dx, t, b, B1, by rw [List.cons_append, e], g.bh.trans h1, upd_same, hb, hz, fun B' H2 g2 => ⟨rfl, ?_⟩⟩
  have hB : B' x = none := by
    cases z : B' x with
    | none => rfl
    | some o =>
      rcases g2.new x o z with w | w
      · have := g.bh _ _ w; rw [hx] at this; cases this
      · rw [upd_same] at w; cases w
  exact k (.ref x) _ _ _ (g.trans (grow_made hx hd hne g.bh g2 hB)) ⟨x, dx, rfl, upd_same⟩ po
theorem pv_mk2P {C f : Addr} {p1 p2 : Int → Prop} {Po : Rat → Prop} (R : Rm X.prog X.w X.K X.mg X.base C f) (hr : Room 3 X.A) (ha : PV X Φ a oI p1) (hb : PV X Φ b oI p2) (h : ∀ t d, p1 t → p2 d → d ≠ 0 ∧ d.natAbs < 2 ^ 9000 ∧ Po ((t : Rat) / d)) (hg : Gl X "Ratio" := by rfl)
    (he : starEach [a, b] X.env = (false, eval a X.env) :: starEach [b] X.env := by rfl) (he2 : starEach [b] X.env = (false, eval b X.env) :: starEach [] X.env := by rfl) (hpl : (backTo pos (starEach [b] X.env)).any (·.1) = false := by rfl) : PV X Φ (.Call (.Name "Ratio" p) [a, b] [] pos) (oQ C) Po :=
  pv_of (pe_mk R.mk_ (R.two.imp (sp' := fun vs H Q E => S_init C (vs ++ []) H Q E) fun vs H Q E h => (by rw [List.append_nil] at h; exact h)) hr R.mgc pa_sem hg (by decide) he hpl) (ev_madeP (tl := []) (pva_2 ha hb he he2) fun B vs hh => by
    obtain ⟨v, d1, vs', rfl, h2, h3, v2, d2, vs2, rfl, h5, h6, rfl⟩ := hh
    refine ⟨d1, d2, ?_, h d1 d2 h3 h6⟩
    rw [show v = V.int d1 from h2, show v2 = V.int d2 from h5]
    rfl)
end
/-! promises of defs over the pot -/
def spP0 {β : Type} (r : Rep β) (Po : β → Prop) : Sp := fun vs H Q _ => ∃ a B, vs = [.ref a] ∧ Ext B H ∧ B a = none ∧ Pot H a ∧ ∀ u z B' H', Grow (some a) B H B' H' → r.r B' u z → Po z → Q u H'
def spP1 {α β : Type} (r1 : Rep α) (r : Rep β) (P1 : α → Prop) (Po : α → β → Prop) : Sp := fun vs H Q _ => ∃ a v d B, vs = [.ref a, v] ∧ Ext B H ∧ B a = none ∧ Pot H a ∧ r1.r B v d ∧ P1 d ∧ ∀ u z B' H', Grow (some a) B H B' H' → r.r B' u z → Po d z → Q u H'
section
variable {P : Program} {w : World} {K : PySem.W.Frag} {mg : Str → Option Value} {base : Heap} {f : Addr} {k : Nat} {x qual p0 p1 : Str} {st : Stmt} {N : List Str} {α β : Type} {r1 : Rep α} {r : Rep β}
theorem meP0 {Po : β → Prop} (F : Df K x qual st f) (S : FnScope N [p0] (defScope st)) (hb : ∀ (kV doc pm : Value) (an : Option Addr) (cdv ct : Value) (us : List Value), us.length = 1 → bindArgs (PySem.W.fnOf x qual (defArgs st) (defBody st) (defScope st) .none kV doc pm an cdv ct) ⟨us, []⟩ = pure ([p0].zip us))
    (hN : 1 ≤ N.length) (body : ∀ pa B, BodyOk P w K mg base k f N qual st fun X H => Pot H pa → SV X ⟨some (.kn oV (.ref pa)) :: List.replicate (N.length - 1) none, some pa, B, H, B⟩ (endR (some pa) B H r Po) (defBody st)) : Me P w K mg base (k + 1) f (spP0 r Po) := by
  refine me_of F S hb (fun vs H Q E ⟨a, B, h, _⟩ => by subst h; rfl) fun cdv A outer s H vs Q E hr ⟨a, B, e, hx, hB, hp, k⟩ => ?_
  subst e
  have hne : H a ≠ none := by obtain ⟨_, _, _, _, h⟩ := hp; rw [h]; exact fun z => nomatch z
  refine semS_mono (body a B cdv A outer s H E hr hp _ B H (stt_start (Γ0 := [some (.kn oV (.ref a))]) hx (fun b z => by cases z; exact ⟨hB, hne⟩) rfl hN fun i s' hi => ?_)) (fun σ' H' ⟨z, B', g, hz, po⟩ => k _ z B' H' g hz po) (fun v' H' ⟨z, B', g, hz, po⟩ => k _ z B' H' g hz po)
  match i, hi with
  | 0, hi => cases hi; exact ⟨_, rfl, rfl, _, rfl, rfl⟩
theorem meP1 {P1 : α → Prop} {Po : α → β → Prop} (F : Df K x qual st f) (S : FnScope N [p0, p1] (defScope st)) (hb : ∀ (kV doc pm : Value) (an : Option Addr) (cdv ct : Value) (us : List Value), us.length = 2 → bindArgs (PySem.W.fnOf x qual (defArgs st) (defBody st) (defScope st) .none kV doc pm an cdv ct) ⟨us, []⟩ = pure ([p0, p1].zip us))
    (hN : 2 ≤ N.length) (body : ∀ pa d, P1 d → ∀ B, BodyOk P w K mg base k f N qual st fun X H => Pot H pa → SV X ⟨some (.kn oV (.ref pa)) :: some (.kn r1 d) :: List.replicate (N.length - 2) none, some pa, B, H, B⟩ (endR (some pa) B H r (Po d)) (defBody st)) : Me P w K mg base (k + 1) f (spP1 r1 r P1 Po) := by
  refine me_of F S hb (fun vs H Q E ⟨a, v, d, B, h, _⟩ => by subst h; rfl) fun cdv A outer s H vs Q E hr ⟨a, v, d, B, e, hx, hB, hp, h1, hp1, k⟩ => ?_
  subst e
  have hne : H a ≠ none := by obtain ⟨_, _, _, _, h⟩ := hp; rw [h]; exact fun z => nomatch z
  refine semS_mono (body a d hp1 B cdv A outer s H E hr hp _ B H (stt_start (Γ0 := [some (.kn oV (.ref a)), some (.kn r1 d)]) hx (fun b z => by cases z; exact ⟨hB, hne⟩) rfl hN fun i s' hi => ?_)) (fun σ' H' ⟨z, B', g, hz, po⟩ => k _ z B' H' g hz po) (fun v' H' ⟨z, B', g, hz, po⟩ => k _ z B' H' g hz po)
  match i, hi with
  | 0, hi => cases hi; exact ⟨_, rfl, rfl, _, rfl, rfl⟩
  | 1, hi => cases hi; exact ⟨v, rfl, rfl, v, rfl, h1⟩
end
section
variable {X : Cx} {Φ : Fm} {e a b : Expr} {pos p : Pos} {pa : Addr} {k : Nat} {x : Str} {α β : Type} {r1 : Rep α} {r : Rep β}
theorem pv_pot0 {Po : β → Prop} (c : Ca X.prog X.w X.K X.mg X.base k x (spP0 r Po)) (hr : Room k X.A) (hm : Φ.m = some pa) (hp : Pot Φ.H0 pa) (ha : PD X Φ a oV (.ref pa)) (hg : Gl X x := by rfl) (hdb : (x == ("__debug__" : Str)) = false := by decide)
    (he : starEach [a] X.env = (false, eval a X.env) :: starEach [] X.env := by rfl) (hpl : (backTo pos (starEach [] X.env)).any (·.1) = false := by rfl) : PV X Φ (.Call (.Name x p) [a] [] pos) r Po :=
  pv_of (pe_ca c hr (pa_cons pe_sem pa_nil he) hg hdb he hpl) fun σ B H hs Q k => ha.ev σ B H hs _ fun v d B2 H2 g r1 q1 => by
    subst q1
    obtain ⟨x1, x2⟩ := stt_pot (hs.grow g) hm hp
    have e1 : v = .ref pa := r1
    subst e1
    refine ⟨pa, B2, rfl, g.bh, x1, x2, fun u z B' H' g' rr po => ?_⟩
    rw [← hm] at g'
    exact k u z B' H' (g.trans g') rr po
theorem pv_pot1 {P1 p1 : α → Prop} {Po : α → β → Prop} {Pq : β → Prop} (c : Ca X.prog X.w X.K X.mg X.base k x (spP1 r1 r P1 Po)) (hr : Room k X.A) (hm : Φ.m = some pa) (hp : Pot Φ.H0 pa) (ha : PD X Φ a oV (.ref pa)) (hb : PV X Φ b r1 p1) (hq : ∀ d, p1 d → P1 d ∧ ∀ z, Po d z → Pq z) (hg : Gl X x := by rfl) (hdb : (x == ("__debug__" : Str)) = false := by decide)
    (he : starEach [a, b] X.env = (false, eval a X.env) :: starEach [b] X.env := by rfl) (he2 : starEach [b] X.env = (false, eval b X.env) :: starEach [] X.env := by rfl) (hpl : (backTo pos (starEach [b] X.env)).any (·.1) = false := by rfl) : PV X Φ (.Call (.Name x p) [a, b] [] pos) r Pq :=
  pv_of (pe_ca c hr (pa_cons pe_sem (pa_cons pe_sem pa_nil he2) he) hg hdb he hpl) fun σ B H hs Q k => ev2 ha.ev hb.ev hs fun v d v' d' B2 H2 g r1 q1 r2 q2 => by
    subst q1
    obtain ⟨x1, x2⟩ := stt_pot (hs.grow g) hm hp
    have e1 : v = .ref pa := r1
    subst e1
    refine ⟨pa, v', d', B2, rfl, g.bh, x1, x2, r2, (hq d' q2).1, fun u z B' H' g' rr po => ?_⟩
    rw [← hm] at g'
    exact k u z B' H' (g.trans g') rr ((hq d' q2).2 z po)
end
/-- the numbers drawn -/
def Nm (q : Rat) : Prop := ∃ i d : Int, q = (i : Rat) / (d : Rat) ∧ -4 ≤ i ∧ i ≤ 4 ∧ 1 ≤ d ∧ d ≤ 4
abbrev S_pick {α : Type} (r : Rep α) : Sp := spP1 (oL r) r (fun ds => 1 ≤ ds.length ∧ ds.length ≤ 1000) (fun ds z => z ∈ ds)
abbrev S_number (C : Addr) : Sp := spP0 (oN C) Nm
abbrev S_function (C : Addr) : Sp := spP1 oI (oL (oN C)) (fun i => ∃ n : Nat, i = n ∧ n ≤ 6) (fun i z => z.length = i.toNat ∧ ∀ q ∈ z, Nm q)
def wts : List Rat := [1, 2, 3, 5, 1, 1 / 2, 3 / 2]
def dims : List (Int × Int) := [(2, 2), (2, 2), (2, 3), (3, 2)]
structure Gw (g : Mq) (n m : Nat) : Prop where
  dim : ((n : Int), (m : Int)) ∈ dims
  len : g.length = n
  wide : ∀ r ∈ g, r.length = m
  wt : ∀ r ∈ g, ∀ q ∈ r, q ∈ wts
abbrev S_lgrid (C : Addr) : Sp := spP0 (oL (oL (oN C))) (fun g => ∃ n m, Gw g n m)
section
variable {P : Program} {w : World} {K : PySem.W.Frag} {mg : Str → Option Value} {base : Heap} {f fi CK CW fK fW : Addr} {k : Nat}
theorem sc98 : FnScope ["_law_pot_here", "_law_some"] ["_law_pot_here", "_law_some"] (defScope (top 98)) := ⟨rfl, rfl, rfl, by decide +kernel, rfl, by decide +kernel, by decide +kernel⟩
theorem sc99 : FnScope ["_law_pot_here"] ["_law_pot_here"] (defScope (top 99)) := ⟨rfl, rfl, rfl, by decide +kernel, rfl, by decide +kernel, by decide +kernel⟩
theorem sc100 : FnScope ["_law_pot_here", "_law_many", "_law_found", "_law_turn"] ["_law_pot_here", "_law_many"] (defScope (top 100)) := ⟨rfl, rfl, rfl, by decide +kernel, rfl, by decide +kernel, by decide +kernel⟩
theorem m_pick {α : Type} {r : Rep α} (T : Tx K mg) (F : Df K "_law_pick" "_law_pick" (top 98) f) (c1 : Ca P w K mg base 1 "_law_draw" S_draw) : Me P w K mg base 2 f (S_pick r) := by
  refine meP1 (k := 1) F sc98 (fun _ _ _ _ _ _ us hl => match us, hl with | [_, _], _ => rfl) (by decide) fun pa ds ⟨l1, l2⟩ B cdv A outer s H E hr hp => ?_
  exact sv_retE (r := r) (pv_ixP (pvS (pv_var (i := 1) (r := oL r) (d := ds) rfl)) (pv_draw c1 hr rfl hp (pv_var (i := 0) (r := oV) (d := .ref pa) rfl) (pv_len (pvS (pv_var (i := 1) (r := oL r) (d := ds) rfl)) T.b_len) (by omega) (by omega)) fun i hi => hi) rfl rfl rfl rfl
theorem m_number (T : Tx K mg) (R : Rm P w K mg base T.C fi) (F : Df K "_law_number" "_law_number" (top 99) f) (c1 : Ca P w K mg base 1 "_law_draw" S_draw) : Me P w K mg base 4 f (S_number T.C) := by
  refine meP0 (k := 3) F sc99 (fun _ _ _ _ _ _ us hl => match us, hl with | [_], _ => rfl) (by decide) fun pa B cdv A outer s H E hr hp => ?_
  refine sv_ifretP (pt_eqP (pv_draw c1 (hr.mono (by decide)) rfl hp (pv_var (i := 0) (r := oV) (d := .ref pa) rfl) pv_int (by decide) (by decide))) ?_ ?_
  · refine sv_retE (r := oN T.C) (PV.rep (pv_mk2P R hr (Po := Nm) (pv_I0 op_sub (p3 := fun z => -4 ≤ z ∧ z ≤ 4) (pv_draw c1 (hr.mono (by decide)) rfl hp (pv_var (i := 0) (r := oV) (d := .ref pa) rfl) (n := 9) pv_int (by decide) (by decide)) (pv_int (i := 4)) fun i j hi hj => by subst hj; omega) (pv_I0 op_add (p3 := fun z => 1 ≤ z ∧ z ≤ 4) (pv_int (i := 1)) (pv_draw c1 (hr.mono (by decide)) rfl hp (pv_var (i := 0) (r := oV) (d := .ref pa) rfl) (n := 4) pv_int (by decide) (by decide)) fun i j hi hj => by subst hi; omega) fun t d ht hd => ⟨by omega, ?_, t, d, rfl, ht.1, ht.2, hd.1, hd.2⟩) fun H v d hd hr => ⟨d, .inl hr, hd⟩) rfl rfl rfl rfl
    exact Nat.lt_of_le_of_lt (m := 4) (by omega) (Nat.lt_of_lt_of_le (by decide : 4 < 2 ^ 3) (Nat.pow_le_pow_right (by decide) (by decide)))
  · refine sv_retE (r := oN T.C) (PV.rep (pv_I0 op_sub (p3 := fun z => -4 ≤ z ∧ z ≤ 4) (pv_draw c1 (hr.mono (by decide)) rfl hp (pv_var (i := 0) (r := oV) (d := .ref pa) rfl) (n := 9) pv_int (by decide) (by decide)) (pv_int (i := 4)) fun i j hi hj => by subst hj; omega) fun H v d hd hr => ⟨(d : Rat), .inr ⟨d, hr, rfl⟩, d, 1, by rw [show ((1 : Int) : Rat) = 1 from rfl]; grind, hd.1, hd.2, by decide, by decide⟩) rfl rfl rfl rfl
theorem m_function (T : Tx K mg) (F : Df K "_law_function" "_law_function" (top 100) f) (c1 : Ca P w K mg base 4 "_law_number" (S_number T.C)) : Me P w K mg base 5 f (S_function T.C) := by
  refine meP1 (k := 4) F sc100 (fun _ _ _ _ _ _ us hl => match us, hl with | [_, _], _ => rfl) (by decide) fun pa i ⟨n, hi, hn⟩ B cdv A outer s H E hr hp => ?_
  subst hi
  rw [Int.toNat_natCast]
  refine sv_new (i := 2) (oN T.C) (fun q => ?_) sc100.nd
  let G : List Rat → List (Option Sl) := fun ds => [some (.kn oV (.ref pa)), some (.kn oI (n : Int)), some (.ow q (oN T.C) ds), none]
  refine sv_forF (fun i G' => ∃ ds, G' = G ds ∧ ds.length = i ∧ ∀ q ∈ ds, Nm q) (piv_range n (pv_var (i := 1) (r := oI) (d := (n : Int)) rfl) rfl (by omega) T.b_range) (pg_name (i := 3) sc100.nd rfl (.inl rfl)) tg_name (G []) ⟨[], rfl, rfl, fun q h => nomatch h⟩ (Le.rf _) (fun Bs i G' hi ⟨ds, e, hl, hq⟩ d hd => ?_) fun G' ⟨ds, e, hl, hq⟩ => ?_
  · subst e
    refine sv_appendP (i := 2) (q := q) (r := oN T.C) (ds := ds) rfl (pv_pot0 c1 hr rfl hp (pv_var (i := 0) (r := oV) (d := .ref pa) rfl)) (by omega) fun x hx => ?_
    exact sv_endX ⟨ds ++ [x], rfl, by rw [List.length_append, hl]; rfl, fun y hy => by
      rcases List.mem_append.mp hy with z | z
      · exact hq y z
      · rw [List.mem_singleton.mp z]; exact hx⟩ (.keep (.keep (.keep (.skip .nil)))) rfl rfl rfl rfl
  · subst e
    exact sv_freeze (i := 2) (q := q) (r := oN T.C) (ds := ds) rfl (sv_retE (r := oL (oN T.C)) ((pv_var (i := 2) (r := oL (oN T.C)) (d := ds) rfl).imp fun z hz => by rw [hz]; exact ⟨hl, hq⟩) rfl rfl rfl rfl)
end
end Wk

end
section
set_option Elab.async false
set_option linter.all false
set_option maxRecDepth 100000
set_option maxHeartbeats 2000000
set_option exponentiation.threshold 100000
/-! the law: the grid drawn; the own error. -/
namespace Wk
open PySem PySem.Spec PyProof.Rows L2 Ru RZ Rp
open Hd (top)
section
variable {P : Program} {w : World} {K : PySem.W.Frag} {mg : Str → Option Value} {base : Heap} {f fi CK CW fK fW : Addr} {k : Nat}
theorem sc105 : FnScope ["_law_pot_here", "_law_many", "_law_wide", "_law_found", "_law_turn", "_law_row", "_law_place"] ["_law_pot_here"] (defScope (top 105)) := ⟨rfl, rfl, rfl, by decide +kernel, rfl, by decide +kernel, by decide +kernel⟩
theorem dims_nat {d : Int × Int} (h : d ∈ dims) : ∃ n m : Nat, d = ((n : Int), (m : Int)) ∧ n ≤ 3 ∧ m ≤ 3 := by
  unfold dims at h
  simp only [List.mem_cons, List.not_mem_nil, or_false] at h
  rcases h with h | h | h | h
  · exact ⟨2, 2, h, by decide, by decide⟩
  · exact ⟨2, 2, h, by decide, by decide⟩
  · exact ⟨2, 3, h, by decide, by decide⟩
  · exact ⟨3, 2, h, by decide, by decide⟩
theorem half_eq : (((1 : Int) : Int) : Rat) / (((2 : Int) : Int) : Rat) = 1 / 2 := rfl
theorem m_lgrid (T : Tx K mg) (R : Rm P w K mg base T.C fi) (F : Df K "_law_grid" "_law_grid" (top 105) f) (c1 : Ca P w K mg base 2 "_law_pick" (S_pick (oP oI oI))) (c2 : Ca P w K mg base 2 "_law_pick" (S_pick (oN T.C))) : Me P w K mg base 4 f (S_lgrid T.C) := by
  refine meP0 (k := 3) F sc105 (fun _ _ _ _ _ _ us hl => match us, hl with | [_], _ => rfl) (by decide) fun pa B cdv A outer s H E hr hp => ?_
  refine sv_tup2 (i := 1) (j := 2) (r := oI) (r2 := oI) (P2 := fun d => d ∈ dims) (pv_pot1 c1 (hr.mono (by decide)) rfl hp (p1 := fun z => z = dims) (pv_var (i := 0) (r := oV) (d := .ref pa) rfl) (pv_list (pvl_cons (pv_pair pv_int pv_int) (pvl_cons (pv_pair pv_int pv_int) (pvl_cons (pv_pair pv_int pv_int) (pvl_cons (pv_pair pv_int pv_int) pvl_nil))))) fun d hd => ⟨by subst hd; exact ⟨by decide, by decide⟩, fun z hz => by subst hd; exact hz⟩) (fun d hd => ?_) sc105.nd
  obtain ⟨n, m, ed, hn, hm⟩ := dims_nat hd
  subst ed
  refine sv_new (i := 3) (oL (oN T.C)) (fun q => ?_) sc105.nd
  let G : Mq → List (Option Sl) := fun g => [some (.kn oV (.ref pa)), some (.kn oI (n : Int)), some (.kn oI (m : Int)), some (.ow q (oL (oN T.C)) g), none, none, none]
  refine sv_forF (fun i G' => ∃ g, G' = G g ∧ g.length = i ∧ ∀ r ∈ g, r.length = m ∧ ∀ x ∈ r, x ∈ wts) (piv_range n (pv_var (i := 1) (r := oI) (d := (n : Int)) rfl) rfl (by omega) T.b_range) (pg_name (i := 4) sc105.nd rfl (.inl rfl)) tg_name (G []) ⟨[], rfl, rfl, fun r h => nomatch h⟩ (Le.rf _) (fun Bs i G' hi ⟨g, e, hl, hq⟩ d _ => ?_) fun G' ⟨g, e, hl, hq⟩ => ?_
  · subst e
    refine sv_new (i := 5) (oN T.C) (fun q2 => ?_) sc105.nd
    let G2 : List Rat → List (Option Sl) := fun r => [some (.kn oV (.ref pa)), some (.kn oI (n : Int)), some (.kn oI (m : Int)), some (.ow q (oL (oN T.C)) g), none, some (.ow q2 (oN T.C) r), none]
    refine sv_forF (fun j G' => ∃ r, G' = G2 r ∧ r.length = j ∧ ∀ x ∈ r, x ∈ wts) (piv_range m (pv_var (i := 2) (r := oI) (d := (m : Int)) rfl) rfl (by omega) T.b_range) (pg_name (i := 6) sc105.nd rfl (.inl rfl)) tg_name (G2 []) ⟨[], rfl, rfl, fun r h => nomatch h⟩ (.keep (.keep (.keep (.keep (.skip (.keep (.keep .nil))))))) (fun Bs2 j G' hj ⟨r, e, hl2, hq2⟩ d2 _ => ?_) fun G' ⟨r, e, hl2, hq2⟩ => ?_
    · subst e
      refine sv_appendP (i := 5) (q := q2) (r := oN T.C) (ds := r) rfl (pv_pot1 c2 (hr.mono (by decide)) rfl hp (p1 := fun z => z = wts) (Pq := fun z => z ∈ wts) (pv_var (i := 0) (r := oV) (d := .ref pa) rfl) (PV.to (pv_list (pvl_cons (pvNI pv_int) (pvl_cons (pvNI pv_int) (pvl_cons (pvNI pv_int) (pvl_cons (pvNI pv_int) (pvl_cons (pvNI pv_int) (pvl_cons (pvN (pv_mk2 R hr pv_int pv_int (by decide) (by decide))) (pvl_cons (pvN (pv_mk2 R hr pv_int pv_int (by decide) (by decide))) pvl_nil)))))))) rfl) fun d hd => ⟨by subst hd; exact ⟨by decide, by decide⟩, fun z hz => by subst hd; exact hz⟩) (by omega) fun x hx => ?_
      exact sv_endX ⟨r ++ [x], rfl, by rw [List.length_append, hl2]; rfl, fun y hy => by
        rcases List.mem_append.mp hy with z | z
        · exact hq2 y z
        · rw [List.mem_singleton.mp z]; exact hx⟩ (.keep (.keep (.keep (.keep (.keep (.keep (.skip .nil))))))) rfl rfl rfl rfl
    · subst e
      refine sv_freeze (i := 5) (q := q2) (r := oN T.C) (ds := r) rfl (sv_append (i := 3) (q := q) (r := oL (oN T.C)) (ds := g) (d := r) rfl (pv_var (i := 5) (r := oL (oN T.C)) (d := r) rfl) (by omega) ?_)
      exact sv_endX ⟨g ++ [r], rfl, by rw [List.length_append, hl]; rfl, fun y hy => by
        rcases List.mem_append.mp hy with z | z
        · exact hq y z
        · rw [List.mem_singleton.mp z]; exact ⟨hl2, hq2⟩⟩ (.keep (.keep (.keep (.keep (.skip (.skip (.skip .nil))))))) rfl rfl rfl rfl
  · subst e
    exact sv_freeze (i := 3) (q := q) (r := oL (oN T.C)) (ds := g) rfl (sv_retE (r := oL (oL (oN T.C))) ((pv_var (i := 3) (r := oL (oL (oN T.C))) (d := g) rfl).imp fun z hz => by rw [hz]; exact ⟨n, m, hd, hl, fun r hr => (hq r hr).1, fun r hr => (hq r hr).2⟩) rfl rfl rfl rfl)
end
end Wk

end
section
set_option Elab.async false
set_option linter.all false
set_option maxRecDepth 100000
set_option maxHeartbeats 2000000
set_option exponentiation.threshold 100000
/-! the law: its own elimination. -/
namespace Wk
open PySem PySem.Spec PyProof.Rows L2 Ru RZ Rp
open Hd (top)
/-- an own list that stands already is stored -/
theorem stt_putX {Φ : Fm} {σ : L2.St} {B H : Hp} {α : Type} {e : Rep α} {ds : List α} {xs : List V} {l i : Nat} (h : Stt Φ σ B H) (hl : H l = some (.lst xs)) (hB : B l = none) (h0 : Φ.H0 l = none) (hm : Φ.m ≠ some l) (hno : ∀ (j : Nat) (s : Sl), Φ.Γ[j]? = some (some s) → s.ad ≠ some l) (q : Prd e B xs ds) (hd : ds.length ≤ 900) : Stt (Φ.put i (.ow l e ds)) (σ.set i (some (.ref l))) B H := by
  refine ⟨?_, fun j s hj => ?_, fun j k s t p' hj hk es et => ?_, h.g, h.bs, h.mm⟩
  · show (σ.set i _).length = (Φ.Γ.set i _).length
    rw [List.length_set, List.length_set]; exact h.len
  · by_cases z : i = j
    · subst z
      have hj' : (Φ.Γ.set i (some (.ow l e ds)))[i]? = some (some s) := hj
      have hl' : i < Φ.Γ.length := by
        have := (List.getElem?_eq_some_iff.mp hj').1
        rwa [List.length_set] at this
      rw [List.getElem?_set_self hl'] at hj'
      cases hj'
      exact ⟨some (.ref l), by rw [List.getElem?_set_self (by rw [h.len]; exact hl')], rfl, hm, h0, hB, hd, xs, hl, q⟩
    · have hj' : (Φ.Γ.set i (some (.ow l e ds)))[j]? = some (some s) := hj
      rw [List.getElem?_set_ne z] at hj'
      obtain ⟨x, h1, h2⟩ := h.at_ j s hj'
      exact ⟨x, by rw [List.getElem?_set_ne z]; exact h1, h2⟩
  · have hj' : (Φ.Γ.set i (some (.ow l e ds)))[j]? = some (some s) := hj
    have hk' : (Φ.Γ.set i (some (.ow l e ds)))[k]? = some (some t) := hk
    have go : ∀ {j : Nat} {s : Sl}, (Φ.Γ.set i (some (.ow l e ds)))[j]? = some (some s) → s.ad = some p' → (i = j ∧ p' = l) ∨ (i ≠ j ∧ Φ.Γ[j]? = some (some s)) := fun {j s} hj es => by
      by_cases z : i = j
      · subst z
        have hl : i < Φ.Γ.length := by
          have := (List.getElem?_eq_some_iff.mp hj).1
          rwa [List.length_set] at this
        rw [List.getElem?_set_self hl] at hj
        cases hj
        cases es
        exact .inl ⟨rfl, rfl⟩
      · rw [List.getElem?_set_ne z] at hj
        exact .inr ⟨z, hj⟩
    rcases go hj' es with ⟨z, w⟩ | ⟨z, w⟩
    · rcases go hk' et with ⟨z2, w2⟩ | ⟨z2, w2⟩
      · exact z.symm.trans z2
      · subst w; exact (hno _ _ w2 et).elim
    · rcases go hk' et with ⟨z2, w2⟩ | ⟨z2, w2⟩
      · subst w2; exact (hno _ _ w es).elim
      · exact h.ap j k s t p' w w2 es et
section
variable {X : Cx} {Φ : Fm} {α β : Type} {r : Rep α} {r2 : Rep β} {e a b c : Expr} {pos p pos' : Pos} {D : Ends} {rest t : List Stmt} {P : α → Prop}
/-- own[i] -/
theorem pv_ixO {i : Nat} {x : Str} {px : Pos} {q : Addr} {ds : List α} {k : Int} {d : α} (n : Nat) (h : Φ.Γ[i]? = some (some (.ow q r ds))) (hb : PD X Φ b oI k) (hk : k = (n : Int)) (hd : ds[n]? = some d) (hN : X.N[i]? = some x := by rfl) (hv : Vis X.env.scope x := by first | exact .inl rfl | exact .inr (.inl rfl) | exact .inr (.inr rfl)) (hdb : (x == ("__debug__" : Str)) = false := by decide) (hcd : (x == ("__classdict__" : Str)) = false := by decide) (hs : PlainIx b := by exact fun _ _ => rfl) : PD X Φ (.Subscript (.Name x px) b pos) r d :=
  pv_of (pe_ix ix_seq (pe_var hN hv hdb hcd) pe_sem hs) fun σ B H hst Q kk => by
    obtain ⟨o1, o2, o3, o4, xs, o5, o6⟩ := own_at hst h
    refine ⟨.ref q, o1, hb.ev σ B H hst _ fun w k1 B2 H2 g rr hk1 => ?_⟩
    subst hk1
    rw [show w = V.int k1 from rr]
    obtain ⟨u, hu, ru⟩ := o6.get hd
    exact .inl ⟨q, xs, k1, u, rfl, rfl, SqL.of (g.hh _ _ o2 o5), by rw [hk]; exact atI_nat hu, kk u _ B2 H2 g (r.mono g.bb ru) rfl⟩
/-- own[i], own[j] = own[j], own[i] -/
theorem sv_swapO {i u v : Nat} {x : Str} {q : Addr} {ds : List α} {k1 k2 : Int} {du dv : α} {px1 px2 px3 px4 p1 p2 p3 p4 pt1 pt2 : Pos} {kt1 kt2 : Nat} (h : Φ.Γ[i]? = some (some (.ow q r ds)))
    (hu : PD X Φ a oI k1) (hcv : PD X Φ c oI k2) (hev : PD X Φ e oI k1) (ek1 : k1 = (u : Int)) (ek2 : k2 = (v : Int)) (gu : ds[u]? = some du) (gv : ds[v]? = some dv) (hu2 : ∀ Φ' : Fm, Φ'.Γ = (Φ.put i (.ow q r (ds.set u dv))).Γ → Φ'.m = Φ.m → PD X Φ' b oI k2)
    (hr : SV X (Φ.put i (.ow q r ((ds.set u dv).set v du))) D rest)
    (hN : X.N[i]? = some x := by rfl) (hv : Vis X.env.scope x := by first | exact .inl rfl | exact .inr (.inl rfl) | exact .inr (.inr rfl)) (hdb : (x == ("__debug__" : Str)) = false := by decide) (hcd : (x == ("__classdict__" : Str)) = false := by decide) (hsa : PlainIx e := by exact fun _ _ => rfl) (hsb : PlainIx c := by exact fun _ _ => rfl) (hc : X.calm = true := by rfl)
    (hs : swapsWithSole [.Tuple [.Subscript (.Name x px1) a p1, .Subscript (.Name x px2) b p2] kt1 pt1] (.Tuple [.Subscript (.Name x px3) c p3, .Subscript (.Name x px4) e p4] kt2 pt2) pos.line X.env = pure false := by rfl)
    (hw : swappedStores [.Tuple [.Subscript (.Name x px1) a p1, .Subscript (.Name x px2) b p2] kt1 pt1] (.Tuple [.Subscript (.Name x px3) c p3, .Subscript (.Name x px4) e p4] kt2 pt2) X.env = pure none := by rfl)
    (h1 : (assignEach [.Tuple [.Subscript (.Name x px1) a p1, .Subscript (.Name x px2) b p2] kt1 pt1] X.env).map (·.2) = [assign (.Tuple [.Subscript (.Name x px1) a p1, .Subscript (.Name x px2) b p2] kt1 pt1) X.env] := by rfl)
    (haA : ∀ v, assign (.Subscript (.Name x px1) a p1) X.env v = (do
      let ov ← holding [v] (eval (.Name x px1) X.env)
      let iv ← holding [v, ov] (eval a X.env)
      standAt p1
      holding [v, ov, iv] (setItem ov iv v)
      release [v, ov, iv] []) := by intro _; rfl) (haB : ∀ v, assign (.Subscript (.Name x px2) b p2) X.env v = (do
      let ov ← holding [v] (eval (.Name x px2) X.env)
      let iv ← holding [v, ov] (eval b X.env)
      standAt p2
      holding [v, ov, iv] (setItem ov iv v)
      release [v, ov, iv] []) := by intro _; rfl)
    (hst1 : starEach [.Subscript (.Name x px3) c p3, .Subscript (.Name x px4) e p4] X.env = (false, eval (.Subscript (.Name x px3) c p3) X.env) :: starEach [.Subscript (.Name x px4) e p4] X.env := by rfl) (hst2 : starEach [.Subscript (.Name x px4) e p4] X.env = (false, eval (.Subscript (.Name x px4) e p4) X.env) :: starEach [] X.env := by rfl) :
    SV X Φ D (.Assign [.Tuple [.Subscript (.Name x px1) a p1, .Subscript (.Name x px2) b p2] kt1 pt1] (.Tuple [.Subscript (.Name x px3) c p3, .Subscript (.Name x px4) e p4] kt2 pt2) pos :: rest) :=
  sv_step (ps_asg (pe_tup (pa_cons pe_sem (pa_cons pe_sem pa_nil hst2) hst1)) (pg_tup hc (pgs_cons (pg_sub (pe_var hN hv hdb hcd) pe_sem set_list haA) (pgs_cons (pg_sub (pe_var hN hv hdb hcd) pe_sem set_list haB) pgs_nil))) hs hw h1) fun σ B H hst => by
    refine ev2 (pv_ixO (X := X) (px := px3) (pos := p3) (b := c) v h hcv ek2 gv hN hv hdb hcd hsb).ev (pv_ixO (X := X) (px := px4) (pos := p4) (b := e) u h hev ek1 gu hN hv hdb hcd hsa).ev hst fun w1 d1 w2 d2 B1 H1 g r1 q1 r2 q2 => ?_
    subst q1 q2
    refine ⟨by show 2 ≤ sizeLine; decide, fun l hl => ?_⟩
    have s1 := hst.grow (g.trans (.lay (o := .tup [w1, w2]) g.bh hl))
    refine ⟨l, [w1, w2], rfl, SqT.of upd_same, rfl, w1, [w2], rfl, ?_⟩
    obtain ⟨o1, o2, o3, o4, xs, o5, o6⟩ := own_at s1 h
    refine ⟨.ref q, o1, hu.ev σ B1 _ s1 _ fun z1 k1' B3 H3 g3 r3 q3 => ?_⟩
    subst q3
    have hul : u < ds.length := (List.getElem?_eq_some_iff.mp gu).1
    have hvl : v < ds.length := (List.getElem?_eq_some_iff.mp gv).1
    refine ⟨q, xs, k1', u, rfl, r3, g3.hh _ _ o2 o5, by unfold ixN; rw [if_pos (by omega), if_pos (by rw [o6.len]; omega)]; congr 1; omega, ?_⟩
    have s3 := (s1.grow g3).chg h (Prd.set (r.mono g3.bb r1) u (o6.mono g3.bb)) (by rw [List.length_set]; exact o4)
    refine ⟨w2, [], rfl, ?_⟩
    have hil : i < Φ.Γ.length := (List.getElem?_eq_some_iff.mp h).1
    have h' : (Φ.put i (.ow q r (ds.set u d1))).Γ[i]? = some (some (.ow q r (ds.set u d1))) := List.getElem?_set_self hil
    obtain ⟨o1', o2', o3', o4', xs', o5', o6'⟩ := own_at s3 h'
    refine ⟨.ref q, o1', (hu2 _ rfl rfl).ev σ B3 _ s3 _ fun z2 k2' B4 H4 g4 r4 q4 => ?_⟩
    subst q4
    refine ⟨q, xs', k2', v, rfl, r4, g4.hh _ _ o2' o5', by unfold ixN; rw [if_pos (by omega), if_pos (by rw [o6'.len, List.length_set]; omega)]; congr 1; omega, rfl, ?_⟩
    have s4 := (s3.grow g4).chg h' (Prd.set (r.mono (g3.bb.trans g4.bb) r2) v (o6'.mono g4.bb)) (by rw [List.length_set]; exact o4')
    refine hr σ B4 _ (s4.to ?_)
    show (⟨(Φ.Γ.set i _).set i _, _, _, _, _⟩ : Fm) = ⟨Φ.Γ.set i _, _, _, _, _⟩
    rw [List.set_set]
/-- x = [.. for ..], one's own (x a cell) -/
theorem sv_setLcO {i : Nat} {x : Str} {elt tg iter : Expr} {scope : Scope} (own : List (Str × Nat)) {g : TG} {n : Nat} {it : Nat → α → Prop} {pt : List (Option Sl) → α → List (Option Sl)} (ds : List β) (hN : X.N.Nodup)
    (hi : PIV X Φ tg iter n r it) (ok : BlkOk X.N X.env.scope scope own) (hg : ∀ (s : Shared) (H : Hp) (C : Addr) (cl : List (Str × Addr)) (fp : List Addr), PG (X.blk s H scope (compEnvC scope cl C X.env) fp) tg g)
    (tg_ : Tg X.K g r (own.map (·.2)) pt) (hv : Free Φ.Γ (own.map (·.2))) (hl : ds.length = n) (hb : n ≤ 900)
    (he : ∀ i, i < n → ∀ d, it i d → ∀ y, ds[i]? = some y → ∀ (s : Shared) (H : Hp) (C : Addr) (cl : List (Str × Addr)) (fp : List Addr), PD (X.blk s H scope (compEnvC scope cl C X.env) fp) (Φ.wG (pt Φ.Γ d)) elt r2 y)
    (hr : ∀ q, SV X (Φ.put i (.ow q r2 ds)) D rest) (hc : X.calm = true := by rfl) (hx : X.N[i]? = some x := by rfl) (hxl : L2.Loc X.env.scope x := by first | exact .inl rfl | exact .inr rfl) (hsw : swapsWith (.ListComp elt [⟨tg, iter, [], 0⟩] scope p) (some (.Name x pos')) pos.line X.env = pure false := by rfl) (hf : X.fn x = true ∨ X.env.scope.names.lookup x = some .local := by first | exact .inl rfl | exact .inr rfl)
    (hs : ∀ x, foldedSetIterable iter X.env x = pure x := by intro _; rfl) : SV X Φ D (.Assign [.Name x pos'] (.ListComp elt [⟨tg, iter, [], 0⟩] scope p) pos :: rest) := by
  obtain ⟨wi, hpi, hw⟩ := hi
  refine sv_step (ps_set hN hx hxl (pe_lc (te := semEC X scope elt) hc hN hpi ok hg (fun _ _ _ _ _ => pts_nil) pe_semEC hs) hsw hf) fun σ B H hst => ?_
  refine ev_lcO hw tg_ hv hl hb he hst fun l xs B1 H1 gr h1 h2 h3 h4 => ?_
  refine hr l _ B1 H1 (stt_putX (hst.grow gr) h2 h3 (hst.g.al l h1) (fun z => (hst.mm l z).2 (hst.g.al l h1)) (fun j s hj es => ?_) h4 (by rw [hl]; exact hb))
  obtain ⟨x0, _, hs0⟩ := hst.at_ j s hj
  cases s with
  | kn _ _ => cases es
  | ow p0 e0 ds0 =>
    cases es
    obtain ⟨_, _, _, _, _, ys, h6, _⟩ := hs0
    rw [h1] at h6
    cases h6
end
/-! mirrors -/
def spotsL (L : Mq) (p n : Nat) : List Int := (List.range (n - p)).filterMap fun t => if at2 L (p + t) p = 0 then none else some (((p + t : Nat)) : Int)
def pivL (L : Mq) (p n : Nat) : Nat := ((spotsL L p n).getD 0 0).toNat
def swapL (L : Mq) (p a : Nat) : Mq := (L.set p (L.getD a [])).set a (L.getD p [])
def headL (L : Mq) (p : Nat) : List Rat := (L.getD p []).map fun x => x / at2 L p p
def elimR (L : Mq) (p : Nat) (hd : List Rat) (s : Nat) : List Rat := if s = p then L.getD s [] else List.zipWith (fun x y => x - at2 L s p * y) (L.getD s []) hd
def stepL (L : Mq) (p n : Nat) : Mq := ((List.range n).map fun s => elimR (swapL L p (pivL L p n)) p (headL (swapL L p (pivL L p n)) p) s).set p (headL (swapL L p (pivL L p n)) p)
def stL (A : Mq) (n i : Nat) : Mq := (List.range i).foldl (fun L p => stepL L p n) A
theorem stL_succ (A : Mq) (n i : Nat) : stL A n (i + 1) = stepL (stL A n i) i n := by unfold stL; rw [List.range_succ, List.foldl_append]; rfl
def augRow (rows : Mq) (f : List Rat) (mid : Rat) (n i : Nat) : List Rat := ((List.range n).map fun j => (if i = j then (1 : Rat) else 0) - at2 rows i j) ++ [f.getD i 0 - mid]
def augL (rows : Mq) (shares f : List Rat) : Mq := ((List.range (rows.length - 1)).map fun i => augRow rows f (dotM shares f) rows.length i) ++ [shares ++ [0]]
def leadM (rows : Mq) (shares f : List Rat) : List Rat := (stL (augL rows shares f) rows.length rows.length).map fun r => r.getD rows.length 0
structure AheadOk (rows : Mq) (shares f : List Rat) : Prop where
  n0 : 1 ≤ rows.length
  n : rows.length ≤ 6
  sl : shares.length = rows.length
  fl : f.length = rows.length
  wide : ∀ r ∈ rows, r.length = rows.length
  dot : DotOk shares f
  f1 : ∀ r ∈ rows, ∀ q ∈ r, Fit q
  len : ∀ i, i ≤ rows.length → (stL (augL rows shares f) rows.length i).length = rows.length
  wd : ∀ i, i ≤ rows.length → ∀ r ∈ stL (augL rows shares f) rows.length i, r.length = rows.length + 1
  fit : ∀ i, i ≤ rows.length → ∀ r ∈ stL (augL rows shares f) rows.length i, ∀ q ∈ r, Fit q
  piv : ∀ i, i < rows.length → ∃ a : Nat, (spotsL (stL (augL rows shares f) rows.length i) i rows.length)[0]? = some (a : Int) ∧ a < rows.length
  pz : ∀ i, i < rows.length → at2 (swapL (stL (augL rows shares f) rows.length i) i (pivL (stL (augL rows shares f) rows.length i) i rows.length)) i i ≠ 0
  hfit : ∀ i, i < rows.length → ∀ q ∈ headL (swapL (stL (augL rows shares f) rows.length i) i (pivL (stL (augL rows shares f) rows.length i) i rows.length)) i, Fit q
  pfit : ∀ i s, i < rows.length → s < rows.length → ∀ q ∈ headL (swapL (stL (augL rows shares f) rows.length i) i (pivL (stL (augL rows shares f) rows.length i) i rows.length)) i, Fit (at2 (swapL (stL (augL rows shares f) rows.length i) i (pivL (stL (augL rows shares f) rows.length i) i rows.length)) s i * q)
abbrev S_ahead (C : Addr) : Sp := sp3 (oL (oL (oQ C))) (oL (oQ C)) (oL (oN C)) (oL (oQ C)) AheadOk (fun rows shares f z => z = leadM rows shares f)
end Wk

end
section
set_option Elab.async false
set_option linter.all false
set_option maxRecDepth 100000
set_option maxHeartbeats 1000000
set_option exponentiation.threshold 100000
/-! the law: what is ahead, walked. -/
namespace Wk
open PySem PySem.Spec PyProof.Rows L2 Ru RZ Rp
open Hd (top)
section
variable {P : Program} {w : World} {K : PySem.W.Frag} {mg : Str → Option Value} {base : Heap} {f fi CK CW fK fW : Addr} {k : Nat}
abbrev N103 : List Str := ["_law_rows", "_law_shares", "_law_function_here", "_law_many", "_law_middle", "_law_left", "_law_place", "_law_at", "_law_spot", "_law_head", "_law_number_here", "_law_row", "_law_one", "_law_other"]
theorem sc103 : FnScope N103 ["_law_rows", "_law_shares", "_law_function_here"] (defScope (top 103)) := ⟨rfl, rfl, rfl, by decide +kernel, rfl, by decide +kernel, by decide +kernel⟩
theorem m_ahead (T : Tx K mg) (R : Rq P w K mg base T.C) (F : Df K "_law_ahead" "_law_ahead" (top 103) f) (c1 : Ca P w K mg base 5 "_law_dot" (S_ldot T.C)) : Me P w K mg base 6 f (S_ahead T.C) := by
  refine me3 (k := 5) F sc103 (fun _ _ _ _ _ _ us hl => match us, hl with | [_, _, _], _ => rfl) (by decide) fun rows shares fn h B cdv A outer s H E hr _ => ?_
  obtain ⟨fi, Rm⟩ := R.mk_
  have n0 := h.n0; have hn := h.n; have hsl := h.sl; have hfl := h.fl
  have hmid : Fit (dotM shares fn) := by have := h.dot.sum.2 _ (Nat.le_refl _); rwa [List.take_length] at this
  generalize hnn : rows.length = n at n0 hn hsl hfl
  refine sv_tup2 (i := 3) (j := 4) (r := oI) (r2 := oQ T.C) (P2 := fun d => d = ((n : Int), dotM shares fn)) (pv_pair (PV.to (pv_len (pvS (pv_var (i := 0) (r := oL (oL (oQ T.C))) (d := rows) rfl)) T.b_len) (by rw [hnn])) (pv_call2 c1 hr (p1 := fun z => z = shares) (p2 := fun z => z = fn) (pvLN (pv_var (i := 1) (r := oL (oQ T.C)) (d := shares) rfl)) (pv_var (i := 2) (r := oL (oN T.C)) (d := fn) rfl) fun x y hx hy => ⟨by subst hx hy; exact h.dot, fun z hz => by subst hx hy; exact hz⟩)) (fun d hd => ?_) sc103.nd
  subst hd
  refine sv_new (i := 5) (oL (oQ T.C)) (fun q => ?_) sc103.nd
  let Gr : Addr → Mq → List (Option Sl) := fun q L => [some (.kn (oL (oL (oQ T.C))) rows), some (.kn (oL (oQ T.C)) shares), some (.kn (oL (oN T.C)) fn), some (.kn oI (n : Int)), some (.kn (oQ T.C) (dotM shares fn)), some (.ow q (oL (oQ T.C)) L), none, none, none, none, none, none, none, none]
  refine sv_for (fun i => Gr q ((List.range i).map fun i => augRow rows fn (dotM shares fn) n i)) (piv_range (n - 1) (pv_sub (pv_var (i := 3) (r := oI) (d := (n : Int)) rfl) pv_int) (by omega) (by omega) T.b_range) (pg_name (i := 6) sc103.nd rfl (.inr rfl)) tg_name (Le.rf _) (fun Bs i hi d hd => ?_) ?_
  · subst hd
    have hir : i < rows.length := by omega
    have hwi := h.wide _ (mem_at (getD_at (d := []) hir))
    have hfi := h.f1 _ (mem_at (getD_at (d := []) hir))
    have hff := h.dot.f2 _ (mem_at (getD_at (l := fn) (d := 0) (n := i) (by omega)))
    have e1 : ((1 : Int) : Rat) * fn.getD i 0 = fn.getD i 0 := by rw [one_rat]; grind
    refine sv_append (i := 5) (q := q) (r := oL (oQ T.C)) (ds := (List.range i).map fun i => augRow rows fn (dotM shares fn) n i) (d := augRow rows fn (dotM shares fn) n i) rfl (pv_cat (PV.to (pv_lc (own := [("_law_at", 7)]) (r2 := oQ T.C) ((List.range n).map fun j => (if i = j then (1 : Rat) else 0) - at2 rows i j) rfl sc103.nd (piv_range n (pv_var (i := 3) (r := oI) (d := (n : Int)) rfl) rfl (by omega) T.b_range) (blkOk_by (N := N103) (sc := defScope (top 103)) (by decide +kernel)) (fun _ _ _ _ _ => pg_name (i := 7) sc103.nd rfl (Or.inl rfl)) tg_name (free1 rfl) (by rw [List.length_map, List.length_range]) (by omega) fun j hj x hx y hy _ _ _ _ _ => ?_) rfl) (pv_list (pvl_cons (pv_subQ R (hr.mono (by decide)) (PV.to (pv_mulQ R (hr.mono (by decide)) (pv_mk1 Rm (hr.mono (by decide)) pv_int) (pv_ix i (pvS (pv_var (i := 2) (r := oL (oN T.C)) (d := fn) rfl)) (pv_var (i := 6) (r := oI) (d := (i : Int)) rfl) rfl (getD_at (d := 0) (by omega))) one_fit hff) e1) (pvN (pv_var (i := 4) (r := oQ T.C) (d := dotM shares fn) rfl)) hff hmid) pvl_nil)) (by rw [List.length_map, List.length_range, List.length_singleton]; omega)) (by rw [List.length_map, List.length_range]; omega) ?_
    · subst hx
      rw [List.getElem?_map, List.getElem?_range hj] at hy
      have e2 : ((if decide ((i : Int) = (j : Int)) = true then 1 else 0 : Int) : Rat) = if i = j then (1 : Rat) else 0 := by
        by_cases z : i = j
        · subst z; simp
        · rw [decide_eq_false (by omega), if_neg z]; rfl
      have fd : Fit (if i = j then (1 : Rat) else 0) := by split; exact one_fit; exact Fit.int (i := 0) (by decide)
      exact PV.to (pv_subQ R (hr.mono (by decide)) (PV.to (pv_mk1 Rm (hr.mono (by decide)) (pv_intB (pv_eqI (pv_var (i := 6) (r := oI) (d := (i : Int)) rfl) (pv_var (i := 7) (r := oI) (d := (j : Int)) rfl)) T.b_int)) e2) (pvN (pv_ix j (pvS (pv_ix i (pvS (pv_var (i := 0) (r := oL (oL (oQ T.C))) (d := rows) rfl)) (pv_var (i := 6) (r := oI) (d := (i : Int)) rfl) rfl (getD_at (d := []) hir))) (pv_var (i := 7) (r := oI) (d := (j : Int)) rfl) rfl (getD_at (d := 0) (by omega)))) fd (hfi _ (mem_at (getD_at (d := 0) (by omega))))) (Option.some.inj hy)
    · refine sv_end ?_
      show Le (Gr q ((List.range (i + 1)).map fun i => augRow rows fn (dotM shares fn) n i)) _
      rw [List.range_succ, List.map_append]
      exact .keep (.keep (.keep (.keep (.keep (.keep (.skip (.skip (.skip (.skip (.skip (.skip (.skip (.skip .nil)))))))))))))
  · have eA : ((List.range (n - 1)).map fun i => augRow rows fn (dotM shares fn) n i) ++ [shares ++ [((0 : Int) : Rat)]] = augL rows shares fn := by unfold augL; rw [hnn]; rfl
    refine sv_append (i := 5) (q := q) (r := oL (oQ T.C)) (ds := (List.range (n - 1)).map fun i => augRow rows fn (dotM shares fn) n i) (d := shares ++ [((0 : Int) : Rat)]) rfl (pv_cat (pv_listOf (pvS (pv_var (i := 1) (r := oL (oQ T.C)) (d := shares) rfl)) T.b_list) (pv_list (pvl_cons (pv_mk1 Rm (hr.mono (by decide)) pv_int) pvl_nil)) (by rw [List.length_singleton]; omega)) (by rw [List.length_map, List.length_range]; omega) ?_
    rw [eA]
    have hlen := h.len; have hwd := h.wd; have hfit := h.fit; have hpiv := h.piv; have hpz := h.pz; have hhf := h.hfit; have hpf := h.pfit
    have efin : leadM rows shares fn = (stL (augL rows shares fn) n n).map fun r => r.getD n 0 := by unfold leadM; rw [hnn]
    rw [hnn] at hlen hwd hfit hpiv hpz hhf hpf
    rw [efin]
    generalize augL rows shares fn = A0 at hlen hwd hfit hpiv hpz hhf hpf ⊢
    refine sv_forF (fun i G' => ∃ q, G' = Gr q (stL A0 n i)) (piv_range n (pv_var (i := 3) (r := oI) (d := (n : Int)) rfl) rfl (by omega) T.b_range) (pg_name (i := 6) sc103.nd rfl (.inr rfl)) tg_name (Gr q (stL A0 n 0)) ⟨q, rfl⟩ (Le.rf _) (fun Bs p G' hp ⟨q, e⟩ d hd => ?_) fun G' ⟨q, e⟩ => ?_
    · subst hd e
      obtain ⟨a, ha, han⟩ := hpiv p hp
      have L1 := hlen p (by omega); have W1 := hwd p (by omega); have F1 := hfit p (by omega)
      have Pz := hpz p hp; have Hf := hhf p hp; have Pf := fun s => hpf p s hp
      have epiv : pivL (stL A0 n p) p n = a := by unfold pivL; rw [getD_of ha]; exact Int.toNat_natCast a
      have esucc := stL_succ A0 n p
      unfold stepL at esucc
      rw [epiv] at Pz Hf Pf esucc
      generalize stL A0 n p = L at L1 W1 F1 Pz Hf Pf ha esucc
      have rowp : ∀ t, t < n → (L.getD t []).length = n + 1 := fun t ht => W1 _ (mem_at (getD_at (by omega)))
      refine sv_setD (i := 7) (r := oI) (d := (a : Int)) (pv_ix 0 (pvS (PV.to (pv_lcIf (own := [("_law_spot", 8)]) (r2 := oI) (fun t => if at2 L (p + t) p = 0 then none else some (((p + t : Nat)) : Int)) rfl sc103.nd (piv_range2 p (n - p) (pv_var (i := 6) (r := oI) (d := (p : Int)) rfl) (pv_var (i := 3) (r := oI) (d := (n : Int)) rfl) rfl (by omega) (by omega) T.b_range) (blkOk_by (N := N103) (sc := defScope (top 103)) (by decide +kernel)) (fun _ _ _ _ _ => pg_name (i := 8) sc103.nd rfl (Or.inl rfl)) tg_name (free1 rfl) (by omega) (fun t ht x hx _ _ _ _ _ => ?_) fun t ht x hx y hy _ _ _ _ _ => ?_) (rfl : _ = spotsL L p n))) pv_int rfl ha) ?_ sc103.nd
      · subst hx
        refine PVT.to (pt_neQ R (hr.mono (by decide)) (pv_ix p (pvS (pv_ixO (i := 5) (q := q) (r := oL (oQ T.C)) (ds := L) (p + t) rfl (pv_var (i := 8) (r := oI) (d := ((p + t : Nat) : Int)) rfl) rfl (getD_at (d := []) (by omega)))) (pv_var (i := 6) (r := oI) (d := (p : Int)) rfl) rfl (getD_at (d := 0) (by rw [rowp _ (by omega)]; omega))) (pv_mk1 Rm (hr.mono (by decide)) pv_int)) ?_
        show (!decide (at2 L (p + t) p = 0)) = _
        by_cases z : at2 L (p + t) p = 0
        · rw [if_pos z, decide_eq_true z]; rfl
        · rw [if_neg z, decide_eq_false z]; rfl
      · subst hx
        by_cases z : at2 L (p + t) p = 0
        · rw [if_pos z] at hy; cases hy
        · rw [if_neg z] at hy
          exact PV.to (pv_var (i := 8) (r := oI) (d := ((p + t : Nat) : Int)) rfl) (Option.some.inj hy)
      · refine sv_swapO (i := 5) (u := p) (v := a) (q := q) (r := oL (oQ T.C)) (ds := L) (du := L.getD p []) (dv := L.getD a []) rfl (pv_var (i := 6) (r := oI) (d := (p : Int)) rfl) (pv_var (i := 7) (r := oI) (d := (a : Int)) rfl) (pv_var (i := 6) (r := oI) (d := (p : Int)) rfl) rfl rfl (getD_at (by omega)) (getD_at (by omega)) (fun Φ' e1 _ => pv_var (i := 7) (r := oI) (d := (a : Int)) (by rw [e1]; rfl)) ?_
        have L2' : (swapL L p a).length = n := by unfold swapL; rw [List.length_set, List.length_set, L1]
        have W2 : ∀ t, t < n → ((swapL L p a).getD t []).length = n + 1 := fun t ht => by
          have hm := mem_at (getD_at (l := swapL L p a) (d := []) (n := t) (by omega))
          have : ∀ r ∈ swapL L p a, r.length = n + 1 := fun r hr' => by
            unfold swapL at hr'
            rcases List.mem_or_eq_of_mem_set hr' with z | z
            · rcases List.mem_or_eq_of_mem_set z with y | y
              · exact W1 r y
              · rw [y]; exact rowp a han
            · rw [z]; exact rowp p hp
          exact this _ hm
        have F2 : ∀ t, t < n → ∀ x ∈ (swapL L p a).getD t [], Fit x := fun t ht => by
          have hm := mem_at (getD_at (l := swapL L p a) (d := []) (n := t) (by omega))
          have : ∀ r ∈ swapL L p a, ∀ x ∈ r, Fit x := fun r hr' => by
            unfold swapL at hr'
            rcases List.mem_or_eq_of_mem_set hr' with z | z
            · rcases List.mem_or_eq_of_mem_set z with y | y
              · exact F1 r y
              · rw [y]; exact F1 _ (mem_at (getD_at (by omega)))
            · rw [z]; exact F1 _ (mem_at (getD_at (by omega)))
          exact this _ hm
        have eS : (L.set p (L.getD a [])).set a (L.getD p []) = swapL L p a := rfl
        rw [eS]
        generalize swapL L p a = S at L2' W2 F2 Pz Hf Pf esucc
        refine sv_freeze (i := 5) (q := q) (r := oL (oQ T.C)) (ds := S) rfl ?_
        have hSp : S[p]? = some (S.getD p []) := getD_at (by omega)
        have pvp : Fit (at2 S p p) := F2 p hp _ (mem_at (getD_at (d := 0) (by rw [W2 p hp]; omega)))
        have hdl : (headL S p).length = n + 1 := by unfold headL; rw [List.length_map, W2 p hp]
        refine sv_setD (i := 9) (r := oL (oQ T.C)) (d := headL S p) (PV.to (pv_lc (own := [("_law_number_here", 10)]) (r2 := oQ T.C) (headL S p) rfl sc103.nd (piv_seq (pvS (pv_ix p (pvS (pv_var (i := 5) (r := oL (oL (oQ T.C))) (d := S) rfl)) (pv_var (i := 6) (r := oI) (d := (p : Int)) rfl) rfl hSp))) (blkOk_by (N := N103) (sc := defScope (top 103)) (by decide +kernel)) (fun _ _ _ _ _ => pg_name (i := 10) sc103.nd rfl (Or.inl rfl)) tg_name (free1 rfl) (by unfold headL; rw [List.length_map]) (by rw [W2 p hp]; omega) fun j hj x hx y hy _ _ _ _ _ => ?_) rfl) ?_ sc103.nd
        · unfold headL at hy
          rw [List.getElem?_map, hx] at hy
          exact PV.to (pv_over R (hr.mono (by decide)) (pv_var (i := 10) (r := oQ T.C) (d := x) rfl) (pvN (pv_ix p (pvS (pv_ix p (pvS (pv_var (i := 5) (r := oL (oL (oQ T.C))) (d := S) rfl)) (pv_var (i := 6) (r := oI) (d := (p : Int)) rfl) rfl hSp)) (pv_var (i := 6) (r := oI) (d := (p : Int)) rfl) rfl (getD_at (d := 0) (by rw [W2 p hp]; omega)))) (F2 p hp _ (mem_at hx)) pvp Pz) (Option.some.inj hy)
        · refine sv_setLcO (i := 5) (r2 := oL (oQ T.C)) (own := [("_law_spot", 8), ("_law_row", 11)]) ((List.range n).map fun s => elimR S p (headL S p) s) sc103.nd (piv_enum (pvS (pv_var (i := 5) (r := oL (oL (oQ T.C))) (d := S) rfl)) T.b_enumerate) (blkOk_by (N := N103) (sc := defScope (top 103)) (by decide +kernel)) (fun _ _ _ _ _ => pg_tup rfl (pgs_cons (pg_name (i := 8) sc103.nd rfl (Or.inl rfl)) (pgs_cons (pg_name (i := 11) sc103.nd rfl (Or.inr rfl)) pgs_nil))) tg_pair (free2 rfl rfl) (by rw [List.length_map, List.length_range, L2']) (by omega) (fun j hj x hx y hy _ _ _ _ _ => ?_) fun q3 => ?_
          · rw [L2'] at hj
            rw [List.getElem?_map, List.getElem?_range hj] at hy
            have ey : y = elimR S p (headL S p) j := (Option.some.inj hy).symm
            have hx1 : x.1 = (j : Int) := hx.1
            have gx : S.getD j [] = x.2 := getD_of hx.2
            have wx : x.2.length = n + 1 := by rw [← gx]; exact W2 j hj
            refine pv_if (q := decide (x.1 = (p : Int))) (pt_eqI (pv_var (i := 8) (r := oI) (d := x.1) rfl) (pv_var (i := 6) (r := oI) (d := (p : Int)) rfl)) (fun hq => ?_) fun hq => ?_
            · have e : j = p := by have : x.1 = (p : Int) := by simpa using hq
                                   omega
              exact PV.to (pv_var (i := 11) (r := oL (oQ T.C)) (d := x.2) rfl) (by rw [ey]; unfold elimR; rw [if_pos e, gx])
            · have e : ¬ j = p := fun z => by have : ¬ x.1 = (p : Int) := by simpa using hq
                                              omega
              refine PV.to (pv_lc (own := [("_law_one", 12), ("_law_other", 13)]) (r2 := oQ T.C) (List.zipWith (fun u v => u - at2 S j p * v) x.2 (headL S p)) rfl sc103.nd (piv_zip (pv_var (i := 11) (r := oL (oQ T.C)) (d := x.2) rfl) (pv_var (i := 9) (r := oL (oQ T.C)) (d := headL S p) rfl) T.b_zip) (blkOk_by (N := N103) (by rfl)) (fun _ _ _ _ _ => pg_tup rfl (pgs_cons (pg_name (i := 12) sc103.nd rfl (Or.inl rfl)) (pgs_cons (pg_name (i := 13) sc103.nd rfl (Or.inl rfl)) pgs_nil))) tg_pair (free2 rfl rfl) (by rw [List.length_zipWith]) (by rw [wx]; omega) fun t ht z hz y2 hy2 _ _ _ _ _ => ?_) (by rw [ey]; unfold elimR; rw [if_neg e, gx])
              rw [List.getElem?_zipWith, hz.1, hz.2] at hy2
              have gp : x.2[p]? = some (at2 S j p) := by unfold at2; rw [gx]; exact getD_at (by omega)
              have fj : Fit (at2 S j p) := F2 j hj _ (by rw [gx]; exact mem_at gp)
              exact PV.to (pv_subQ R (hr.mono (by decide)) (pv_var (i := 12) (r := oQ T.C) (d := z.1) rfl) (pvN (pv_mulQ R (hr.mono (by decide)) (pv_ix p (pvS (pv_var (i := 11) (r := oL (oQ T.C)) (d := x.2) rfl)) (pv_var (i := 6) (r := oI) (d := (p : Int)) rfl) rfl gp) (pvN (pv_var (i := 13) (r := oQ T.C) (d := z.2) rfl)) fj (Hf _ (mem_at hz.2)))) (F2 j hj _ (by rw [gx]; exact mem_at hz.1)) (Pf j hj _ (mem_at hz.2))) (Option.some.inj hy2)
          · refine sv_setO (i := 5) (j := p) (q := q3) (r := oL (oQ T.C)) (ds := (List.range n).map fun s => elimR S p (headL S p) s) (d := headL S p) (k := (p : Int)) rfl (pv_var (i := 9) (r := oL (oQ T.C)) (d := headL S p) rfl) (pv_var (i := 6) (r := oI) (d := (p : Int)) rfl) rfl (by rw [List.length_map, List.length_range]; exact hp) ?_
            exact sv_endX ⟨q3, rfl⟩ (by rw [esucc]; exact .keep (.keep (.keep (.keep (.keep (.keep (.skip (.skip (.skip (.skip (.skip (.skip (.skip (.skip .nil)))))))))))))) rfl rfl rfl rfl
    · subst e
      have L1 := hlen n (Nat.le_refl _); have W1 := hwd n (Nat.le_refl _)
      refine sv_freeze (i := 5) (q := q) (r := oL (oQ T.C)) (ds := stL A0 n n) rfl (sv_retE (r := oL (oQ T.C)) (PV.to (pv_lc (own := [("_law_row", 11)]) (r2 := oQ T.C) ((stL A0 n n).map fun r => r.getD n 0) rfl sc103.nd (piv_seq (pvS (pv_var (i := 5) (r := oL (oL (oQ T.C))) (d := stL A0 n n) rfl))) (blkOk_by (N := N103) (sc := defScope (top 103)) (by decide +kernel)) (fun _ _ _ _ _ => pg_name (i := 11) sc103.nd rfl (Or.inl rfl)) tg_name (free1 rfl) (by rw [List.length_map]) (by rw [L1]; omega) fun j hj x hx y hy _ _ _ _ _ => ?_) rfl) rfl rfl rfl rfl)
      rw [List.getElem?_map, hx] at hy
      exact PV.to (pv_ix n (pvS (pv_var (i := 11) (r := oL (oQ T.C)) (d := x) rfl)) (pv_var (i := 3) (r := oI) (d := (n : Int)) rfl) rfl (getD_at (d := 0) (by rw [W1 _ (mem_at hx)]; omega))) (Option.some.inj hy)
end
end Wk

end
section
set_option Elab.async false
set_option linter.all false
set_option maxRecDepth 100000
set_option maxHeartbeats 1000000
set_option exponentiation.threshold 100000
/-! the law: its own error. -/
namespace Wk
open PySem PySem.Spec PyProof.Rows L2 Ru RZ Rp
open Hd (top)
def etm (rows : Mq) (shares lead : List Rat) (i a : Nat) : Rat := shares.getD i 0 * at2 rows i a * (lead.getD a 0 - dotM (rows.getD i []) lead) * (lead.getD a 0 - dotM (rows.getD i []) lead)
def ets (rows : Mq) (shares lead : List Rat) (n i : Nat) : List Rat := (List.range i).flatMap fun i => (List.range n).map fun a => etm rows shares lead i a
def lerrM (rows : Mq) (shares f : List Rat) : Rat := sumQ (ets rows shares (leadM rows shares f) rows.length rows.length)
structure LerrOk (rows : Mq) (shares f : List Rat) : Prop where
  ah : AheadOk rows shares f
  ll : (leadM rows shares f).length = rows.length
  fl : ∀ q ∈ leadM rows shares f, Fit q
  fs : ∀ q ∈ shares, Fit q
  dots : ∀ r ∈ rows, DotOk r (leadM rows shares f)
  g1 : ∀ i a, i < rows.length → a < rows.length → Fit ((leadM rows shares f).getD a 0 - dotM (rows.getD i []) (leadM rows shares f))
  g2 : ∀ i a, i < rows.length → a < rows.length → Fit (shares.getD i 0 * at2 rows i a)
  g3 : ∀ i a, i < rows.length → a < rows.length → Fit (shares.getD i 0 * at2 rows i a * ((leadM rows shares f).getD a 0 - dotM (rows.getD i []) (leadM rows shares f)))
  g4 : ∀ i a, i < rows.length → a < rows.length → Fit (etm rows shares (leadM rows shares f) i a)
  g5 : ∀ i a, i < rows.length → a ≤ rows.length → Fit (sumQ (ets rows shares (leadM rows shares f) rows.length i ++ (List.range a).map fun a => etm rows shares (leadM rows shares f) i a))
abbrev S_lerror (C : Addr) : Sp := sp3 (oL (oL (oQ C))) (oL (oQ C)) (oL (oN C)) (oQ C) LerrOk (fun rows shares f z => z = lerrM rows shares f)
section
variable {P : Program} {w : World} {K : PySem.W.Frag} {mg : Str → Option Value} {base : Heap} {f fi CK CW fK fW : Addr} {k : Nat}
theorem sc104 : FnScope ["_law_rows", "_law_shares", "_law_function_here", "_law_lead", "_law_found", "_law_place", "_law_row", "_law_middle", "_law_at", "_law_chance"] ["_law_rows", "_law_shares", "_law_function_here"] (defScope (top 104)) := ⟨rfl, rfl, rfl, by decide +kernel, rfl, by decide +kernel, by decide +kernel⟩
theorem m_lerror (T : Tx K mg) (R : Rq P w K mg base T.C) (F : Df K "_law_error" "_law_error" (top 104) f) (c1 : Ca P w K mg base 5 "_law_dot" (S_ldot T.C)) (c2 : Ca P w K mg base 6 "_law_ahead" (S_ahead T.C)) : Me P w K mg base 7 f (S_lerror T.C) := by
  refine me3 (k := 6) F sc104 (fun _ _ _ _ _ _ us hl => match us, hl with | [_, _, _], _ => rfl) (by decide) fun rows shares fn h B cdv A outer s H E hr _ => ?_
  obtain ⟨fi, Rm⟩ := R.mk_
  have ll := h.ll; have fl := h.fl; have fs := h.fs; have dots := h.dots; have g1 := h.g1; have g2 := h.g2; have g3 := h.g3; have g4 := h.g4; have g5 := h.g5
  have hn := h.ah.n; have hsl := h.ah.sl; have wide := h.ah.wide; have fr := h.ah.f1
  refine sv_par (i := 3) (j := 4) (r := oL (oQ T.C)) (r2 := oQ T.C) (d := leadM rows shares fn) (d' := sumQ []) (pv_call3 c2 hr (p1 := fun z => z = rows) (p2 := fun z => z = shares) (p3 := fun z => z = fn) (pv_var (i := 0) (r := oL (oL (oQ T.C))) (d := rows) rfl) (pv_var (i := 1) (r := oL (oQ T.C)) (d := shares) rfl) (pv_var (i := 2) (r := oL (oN T.C)) (d := fn) rfl) fun x y z hx hy hz => ⟨by subst hx hy hz; exact h.ah, fun u hu => by subst hx hy hz; exact hu⟩) (PV.to (pv_mk1 Rm (hr.mono (by decide)) pv_int) rfl) ?_ sc104.nd
  unfold lerrM
  generalize leadM rows shares fn = lead at ll fl dots g1 g2 g3 g4 g5 ⊢
  let G1 : Nat → List (Option Sl) := fun i => [some (.kn (oL (oL (oQ T.C))) rows), some (.kn (oL (oQ T.C)) shares), some (.kn (oL (oN T.C)) fn), some (.kn (oL (oQ T.C)) lead), some (.kn (oQ T.C) (sumQ (ets rows shares lead rows.length i))), none, none, none, none, none]
  refine sv_for G1 (piv_enum (pvS (pv_var (i := 0) (r := oL (oL (oQ T.C))) (d := rows) rfl)) T.b_enumerate) (pg_tup rfl (pgs_cons (pg_name (i := 5) sc104.nd rfl (Or.inl rfl)) (pgs_cons (pg_name (i := 6) sc104.nd rfl (Or.inl rfl)) pgs_nil))) tg_pair (Le.rf _) (fun Bs i hi e he => ?_) ?_
  · obtain ⟨ei, row⟩ := e
    obtain ⟨he1, he2⟩ := he
    dsimp only at he1 he2
    subst he1
    have gi : rows.getD i [] = row := getD_of he2
    have hw := wide _ (mem_at he2)
    have hdd := dots _ (mem_at he2)
    have hmid : Fit (dotM row lead) := by have := hdd.sum.2 _ (Nat.le_refl _); rwa [List.take_length] at this
    refine sv_setD (i := 7) (r := oQ T.C) (d := dotM row lead) (pv_call2 c1 (hr.mono (by decide)) (p1 := fun z => z = row) (p2 := fun z => z = lead) (pvLN (pv_var (i := 6) (r := oL (oQ T.C)) (d := row) rfl)) (pvLN (pv_var (i := 3) (r := oL (oQ T.C)) (d := lead) rfl)) fun x y hx hy => ⟨by subst hx hy; exact hdd, fun z hz => by subst hx hy; exact hz⟩) ?_ sc104.nd
    let G2 : Nat → List (Option Sl) := fun a => [some (.kn (oL (oL (oQ T.C))) rows), some (.kn (oL (oQ T.C)) shares), some (.kn (oL (oN T.C)) fn), some (.kn (oL (oQ T.C)) lead), some (.kn (oQ T.C) (sumQ (ets rows shares lead rows.length i ++ (List.range a).map fun a => etm rows shares lead i a))), some (.kn oI (i : Int)), some (.kn (oL (oQ T.C)) row), some (.kn (oQ T.C) (dotM row lead)), none, none]
    refine sv_for G2 (piv_enum (pvS (pv_var (i := 6) (r := oL (oQ T.C)) (d := row) rfl)) T.b_enumerate) (pg_tup rfl (pgs_cons (pg_name (i := 8) sc104.nd rfl (Or.inl rfl)) (pgs_cons (pg_name (i := 9) sc104.nd rfl (Or.inl rfl)) pgs_nil))) tg_pair (by show Le [_, _, _, _, some (.kn (oQ T.C) (sumQ (ets rows shares lead rows.length i ++ []))), _, _, _, _, _] _; rw [List.append_nil]; exact Le.rf _) (fun Bs2 a ha e he => ?_) ?_
    · obtain ⟨ea, ch⟩ := e
      obtain ⟨he3, he4⟩ := he
      dsimp only at he3 he4
      subst he3
      rw [hw] at ha
      have gc : at2 rows i a = ch := by unfold at2; rw [gi]; exact getD_of he4
      have q1 := g1 i a hi ha; have q2 := g2 i a hi ha; have q3 := g3 i a hi ha; have q4 := g4 i a hi ha; have q5 := g5 i a hi (by omega)
      have et : etm rows shares lead i a = shares.getD i 0 * ch * (lead.getD a 0 - dotM row lead) * (lead.getD a 0 - dotM row lead) := by unfold etm; rw [gc, gi]
      rw [gc] at q2 q3; rw [gi] at q1 q3
      have hsi := getD_at (l := shares) (d := 0) (n := i) (by omega)
      have hla := getD_at (l := lead) (d := 0) (n := a) (by omega)
      have fla := fl _ (mem_at hla)
      have dif : ∀ {p1 p2 p3 p4 p5 : Pos}, PD (xof P w K mg base ["_law_rows", "_law_shares", "_law_function_here", "_law_lead", "_law_found", "_law_place", "_law_row", "_law_middle", "_law_at", "_law_chance"] "_law_error" (top 104) f cdv A outer s H E) ⟨[some (.kn (oL (oL (oQ T.C))) rows), some (.kn (oL (oQ T.C)) shares), some (.kn (oL (oN T.C)) fn), some (.kn (oL (oQ T.C)) lead), some (.kn (oQ T.C) (sumQ (ets rows shares lead rows.length i ++ (List.range a).map fun a => etm rows shares lead i a))), some (.kn oI (i : Int)), some (.kn (oL (oQ T.C)) row), some (.kn (oQ T.C) (dotM row lead)), some (.kn oI (a : Int)), some (.kn (oQ T.C) ch)], none, B, H, Bs2⟩ (.BinOp (.Subscript (.Name "_law_lead" p1) (.Name "_law_at" p2) p3) .Sub (.Name "_law_middle" p4) p5) (oQ T.C) (lead.getD a 0 - dotM row lead) := fun {p1 p2 p3 p4 p5} => pv_subQ R (hr.mono (by decide)) (pv_ix a (pvS (pv_var (i := 3) (r := oL (oQ T.C)) (d := lead) rfl)) (pv_var (i := 8) (r := oI) (d := (a : Int)) rfl) rfl hla) (pvN (pv_var (i := 7) (r := oQ T.C) (d := dotM row lead) rfl)) fla hmid
      refine sv_setD (i := 4) (r := oQ T.C) (d := sumQ (ets rows shares lead rows.length i ++ (List.range (a + 1)).map fun a => etm rows shares lead i a)) (PV.to (pv_addQ R (hr.mono (by decide)) (pv_var (i := 4) (r := oQ T.C) (d := sumQ (ets rows shares lead rows.length i ++ (List.range a).map fun a => etm rows shares lead i a)) rfl) (pvN (PV.to (pv_mulQ R (hr.mono (by decide)) (pv_mulQ R (hr.mono (by decide)) (pv_mulQ R (hr.mono (by decide)) (pv_ix i (pvS (pv_var (i := 1) (r := oL (oQ T.C)) (d := shares) rfl)) (pv_var (i := 5) (r := oI) (d := (i : Int)) rfl) rfl hsi) (pvN (pv_var (i := 9) (r := oQ T.C) (d := ch) rfl)) (fs _ (mem_at hsi)) (fr _ (mem_at he2) _ (mem_at he4))) (pvN dif) q2 q1) (pvN dif) q3 q1) et.symm)) q5 q4) (by rw [List.range_succ, List.map_append, ← List.append_assoc]; exact (sumQ_snoc _ _).symm)) ?_ sc104.nd
      exact sv_end (.keep (.keep (.keep (.keep (.keep (.keep (.keep (.keep (.skip (.skip .nil))))))))))
    · rw [hw]
      refine sv_end ?_
      show Le [_, _, _, _, some (.kn (oQ T.C) (sumQ (ets rows shares lead rows.length (i + 1)))), none, none, none, none, none] _
      have ee : ets rows shares lead rows.length (i + 1) = ets rows shares lead rows.length i ++ (List.range rows.length).map fun a => etm rows shares lead i a := by unfold ets; rw [List.range_succ, List.flatMap_append, List.flatMap_singleton]
      rw [ee]
      exact .keep (.keep (.keep (.keep (.keep (.skip (.skip (.skip (.skip (.skip .nil)))))))))
  · exact sv_retE (r := oQ T.C) (pv_var (i := 4) (r := oQ T.C) (d := sumQ (ets rows shares lead rows.length rows.length)) rfl) rfl rfl rfl rfl
end
end Wk

end
section
set_option Elab.async false
set_option linter.all false
set_option maxRecDepth 100000
set_option maxHeartbeats 2000000
set_option exponentiation.threshold 100000
/-! the law: the pot. -/
namespace Wk
open PySem PySem.Spec PyProof.Rows L2 Ru RZ Rp
open Hd (top)
/-- the script: a list of ints read -/
def S_pot (K : PySem.W.Frag) : Sp := fun vs H Q _ => ∃ l ns, vs = [.ref l, .int 0] ∧ SqL K H l (List.map V.int ns) ∧ ∀ p x y, H p = none → 0 ≤ x → 0 ≤ y → y < 2 ^ 40 → Q (.ref p) (upd H p (.lst [.int x, .int y]))
section
variable {P : Program} {w : World} {K : PySem.W.Frag} {mg : Str → Option Value} {base : Heap} {f fi CK CW fK fW : Addr} {k : Nat}
theorem sc96 : FnScope ["_law_script", "_law_k", "_law_cell"] ["_law_script", "_law_k"] (defScope (top 96)) := ⟨rfl, rfl, rfl, by decide +kernel, rfl, by decide +kernel, by decide +kernel⟩
theorem m_pot (T : Tx K mg) (F : Df K "_law_pot" "_law_pot" (top 96) f) : Me P w K mg base 1 f (S_pot K) := by
  refine me_of (k := 0) (ps := ["_law_script", "_law_k"]) F sc96 (fun _ _ _ _ _ _ us hl => match us, hl with | [_, _], _ => rfl) (fun vs H Q E ⟨l, ns, h, _⟩ => by subst h; rfl) fun cdv A outer s H vs Q E hr ⟨l, ns, h, hs, kk⟩ => ?_
  subst h
  refine semS_of (pss_cons (ps_asg (pe_ifExp (pt_cmpR op_lt (pe_var (i := 1) rfl (.inl rfl)) (pe_callB call_len (by rfl) T.b_len (by decide +kernel) (pa_cons (pe_var (i := 0) rfl (.inl rfl)) pa_nil)) (nomark _)) (pe_callB call_abs (by rfl) T.b_abs (by decide +kernel) (pa_cons (pe_ix ix_seq (pe_var (i := 0) rfl (.inl rfl)) (pe_var (i := 1) rfl (.inl rfl)) (fun _ _ => rfl)) pa_nil)) (pe_op op_add (pe_op op_mulW pe_int (pe_var (i := 1) rfl (.inl rfl))) pe_int)) (pg_name (i := 2) sc96.nd rfl (.inl rfl)))
    (pss_one (ps_ret (pe_lst (pa_cons (pe_callB (call_max2 rfl) (by rfl) T.b_max (by decide +kernel) (pa_cons pe_int (pa_cons (pe_op op_sub (pe_var (i := 2) rfl (.inl rfl)) (pe_op op_pow pe_int pe_int)) pa_nil)))
      (pa_cons (pe_op op_add (pe_op op_mod (pe_callTy call_int1 (by rfl) T.b_int (by decide +kernel) (pa_cons (pe_op op_add (pe_op op_add (pe_op op_mulW (pe_op op_mod (pe_callTy call_int1 (by rfl) T.b_int (by decide +kernel) (pa_cons (pe_var (i := 2) rfl (.inl rfl)) pa_nil)) pe_int) pe_int) (pe_op op_mulW pe_int (pe_var (i := 1) rfl (.inl rfl)))) pe_int) pa_nil)) pe_int) pe_int) pa_nil)))))) ?_
  refine ⟨.int 0, rfl, .ref l, rfl, .ref l, (ns.map V.int).length, rfl, .inl ⟨_, hs, rfl⟩, 0, ((ns.map V.int).length : Nat), rfl, rfl, decide ((0 : Int) < ((ns.map V.int).length : Nat)), rfl, ?_⟩
  have md : ∀ z : Int, 0 ≤ z % 2147483563 + 1 ∧ z % 2147483563 + 1 < 2 ^ 40 := fun z => by
    have m1 := Int.emod_nonneg z (show (2147483563 : Int) ≠ 0 by decide)
    have m2 := Int.emod_lt_of_pos z (show (0 : Int) < 2147483563 by decide)
    omega
  have mz : ∀ z : Int, (z % 2147483549).natAbs < 2 ^ 40 := fun z => by
    have m1 := Int.emod_nonneg z (show (2147483549 : Int) ≠ 0 by decide)
    have m2 := Int.emod_lt_of_pos z (show (0 : Int) < 2147483549 by decide)
    omega
  have mx : ∀ z : Int, 0 ≤ (if z > 0 then z else 0) := fun z => by split <;> omega
  cases ns with
  | nil =>
    refine ite_no ?_
    refine ⟨.int 0, rfl, 673, 0, rfl, rfl, wide_mul (a := 20) (b := 20) (by decide) (by decide) (by decide) (by decide) (by decide), ?_⟩
    refine ⟨673 * 0, 641, rfl, rfl, ?_⟩
    refine ⟨.int (673 * 0 + 641), rfl, 10, 18, rfl, rfl, ⟨by decide, by decide, by decide⟩, 673 * 0 + 641, _, rfl, rfl, 0, _, rfl, ?_⟩
    refine ⟨.int (673 * 0 + 641), rfl, .inl ⟨_, rfl, 673 * 0 + 641, 2147483549, rfl, rfl, (by decide : (0 : Int) < 2147483549), _, 48271, rfl, rfl, wide_mul (a := 40) (b := 20) (mz _) (by decide) (by decide) (by decide) (by decide), .int 0, rfl, 8263, 0, rfl, rfl, wide_mul (a := 20) (b := 20) (by decide) (by decide) (by decide) (by decide) (by decide), _, _, rfl, rfl, _, 31, rfl, rfl, .inl ⟨_, rfl, _, 2147483563, rfl, rfl, (by decide : (0 : Int) < 2147483563), _, 1, rfl, rfl, ?_⟩⟩⟩
    exact ⟨Nat.le_of_ble_eq_true rfl, fun p hp => kk p _ _ hp (mx _) (md _).1 (md _).2⟩
  | cons n0 t =>
    rw [decide_eq_true (show (0 : Int) < ((List.map V.int (n0 :: t)).length : Nat) by rw [List.length_map, List.length_cons]; omega)]
    refine ite_go ?_
    have a0 : atI (List.map V.int (n0 :: t)) 0 = some (V.int n0) := atI_nat (j := 0) rfl
    refine ⟨.ref l, rfl, .int 0, rfl, .inl ⟨l, _, 0, .int n0, rfl, rfl, hs, a0, n0, rfl, ?_⟩⟩
    refine ⟨.int (if n0 < 0 then -n0 else n0), rfl, 10, 18, rfl, rfl, ⟨by decide, by decide, by decide⟩, if n0 < 0 then -n0 else n0, _, rfl, rfl, 0, _, rfl, ?_⟩
    refine ⟨.int (if n0 < 0 then -n0 else n0), rfl, .inl ⟨_, rfl, if n0 < 0 then -n0 else n0, 2147483549, rfl, rfl, (by decide : (0 : Int) < 2147483549), _, 48271, rfl, rfl, wide_mul (a := 40) (b := 20) (mz _) (by decide) (by decide) (by decide) (by decide), .int 0, rfl, 8263, 0, rfl, rfl, wide_mul (a := 20) (b := 20) (by decide) (by decide) (by decide) (by decide) (by decide), _, _, rfl, rfl, _, 31, rfl, rfl, .inl ⟨_, rfl, _, 2147483563, rfl, rfl, (by decide : (0 : Int) < 2147483563), _, 1, rfl, rfl, ?_⟩⟩⟩
    exact ⟨Nat.le_of_ble_eq_true rfl, fun p hp => kk p _ _ hp (mx _) (md _).1 (md _).2⟩
end
end Wk

end
section
set_option Elab.async false
set_option linter.all false
set_option maxRecDepth 100000
set_option maxHeartbeats 2000000
set_option exponentiation.threshold 100000
/-! lists of numbers told apart by their items. -/
namespace Wk
open PySem PySem.Spec PyProof.Rows L2 Ru RZ Rp
open Hd (top)
/-- two instances of one number -/
def RQ (C : Addr) (a b : Addr) (H : Hp) : Prop := ∃ q, (oQ C).r H (.ref a) q ∧ (oQ C).r H (.ref b) q
def DQ (C : Addr) : Eqv := fun x y H => ∃ q, (oQ C).r H x q ∧ (oQ C).r H y q
theorem mon_Q {C : Addr} : Mon (DQ C) := fun x y H H' e ⟨q, h1, h2⟩ => ⟨q, (oQ C).mono e h1, (oQ C).mono e h2⟩
theorem mon_List {D : Eqv} (h : Mon D) : Mon (DList D) := fun x y H H' e ⟨a, b, xs, ys, h1, h2, h3, h4, h5⟩ => ⟨a, b, xs, ys, h1, h2, e _ _ h3, e _ _ h4, h5.mon h e⟩
/-- the own == of Ratio -/
structure Re (P : Program) (w : World) (K : PySem.W.Frag) (mg : Str → Option Value) (base : Heap) (C f : Addr) : Prop where
  o : OwnEq K C f
  m : Me P w K mg base 1 f (S_eq C)
section
variable {X : Cx} {Φ : Fm} {e a b : Expr} {pos p : Pos} {α : Type} {r : Rep α} {C f : Addr} {n : Nat} {D : Eqv}
theorem eqG_Q (R : Re X.prog X.w X.K X.mg X.base C f) (hx : Passes CX0 X E0 := by exact pass0) : EqG X 1 (DQ C) := by
  obtain ⟨fd, ps, F, hb⟩ := R.m.ok
  refine (eqG_ins (R := RQ C) (C := C) (F.imp fun vs H Q E h => ?_) R.o.me R.o.fn hb hx).imp fun x y H h => ?_
  · obtain ⟨x, y, h1, ⟨q, h2, h3⟩, k⟩ := h
    exact ⟨.ref x, q, .ref y, q, H, h1, Ext.rfl', h2, h3, trivial, fun u z B' H' g r' po => by
      rw [show u = V.bl z from r', po, decide_eq_true rfl]
      exact k H' fun c o h => g.hh c o (fun z => nomatch z) h⟩
  · obtain ⟨q, h1, h2⟩ := h
    obtain ⟨a, dx, rfl, h3⟩ := id h1
    obtain ⟨b, dy, rfl, h4⟩ := id h2
    exact ⟨a, b, dx, dy, _, _, rfl, rfl, h3, h4, q, h1, h2⟩
theorem rel_list {H : Hp} {v v' : V} {ds : List α} (hr : ∀ H v v' d, r.r H v d → r.r H v' d → D v v' H) (h : (oL r).r H v ds) (h' : (oL r).r H v' ds) : DList D v v' H := by
  obtain ⟨a, xs, rfl, h2, h3, _⟩ := h
  obtain ⟨b, ys, rfl, h5, h6, _⟩ := h'
  refine ⟨a, b, xs, ys, rfl, rfl, h2, h5, by rw [h3.len, h6.len], fun i x y q1 q2 => ?_⟩
  obtain ⟨d, e1, r1⟩ := h3.getL q1
  obtain ⟨d', e2, r2⟩ := h6.getL q2
  rw [e1] at e2
  cases e2
  exact hr _ _ _ _ r1 r2
theorem pt_neL {ds : List α} (hD : Mon D) (h : EqG X n D) (hr : Room (n + 1) X.A) (hd : ∀ H v v' d, r.r H v d → r.r H v' d → D v v' H) (ha : PD X Φ a (oL r) ds) (hb : PD X Φ b (oL r) ds) (hm : behindInMarks .NotEq b = false := by exact nomark _) : PDT X Φ (.Compare a [.NotEq] [b] pos) false :=
  pvt_of (pt_cmpR (op_neL hD h hr) pe_sem pe_sem hm) (et_test (p := fun x => x = false) (ev_op ha.ev hb.ev fun v ds1 w ds2 B H x r1 p1 r2 p2 Q k => by
    subst p1 p2
    exact ⟨rel_list hd ((oL r).mono x r1) ((oL r).mono x r2), fun H' y => k _ false B H' (grow_ext x y) rfl rfl⟩))
end
end Wk

end
section
set_option Elab.async false
set_option linter.all false
set_option maxRecDepth 100000
set_option maxHeartbeats 2000000
set_option exponentiation.threshold 100000
/-! defs called by keywords alone. -/
namespace Wk
open PySem PySem.Spec PyProof.Rows L2 Ru RZ Rp
open Hd (top)
/-- a def that keeps a promise, its parameters told -/
def MeP (P : Program) (w : World) (K : PySem.W.Frag) (mg : Str → Option Value) (base : Heap) (k : Nat) (f : Addr) (x qual : Str) (st : Stmt) (ps : List Str) (sp : Sp) : Prop :=
  PySem.W.keepIn K (.ref f) = true ∧ ∃ fd, FnOk P w K mg base CX0 k f fd ps sp ∧ FunD K x qual (defArgs st) (defBody st) (defScope st) [] [] f fd
section
variable {P : Program} {w : World} {K : PySem.W.Frag} {mg : Str → Option Value} {base : Heap} {α β γ : Type} {r1 : Rep α} {r2 : Rep β} {r3 : Rep γ} {k : Nat} {f : Addr} {x qual : Str} {st : Stmt} {N : List Str} {sp : Sp}
theorem meP_of {ps : List Str} (F : Df K x qual st f) (S : FnScope N ps (defScope st))
    (len : ∀ vs H Q E, sp vs H Q E → vs.length = ps.length)
    (body : ∀ (cdv : Value) (A : Around) (outer : List Env) (s : Shared) (H : Hp) (vs : List V) (Q : VK) (E : XK), Room k (A.deeper (envOfC qual (defScope st) s.heap.objs.size f cdv)) → sp vs H Q E → semS (xof P w K mg base N qual st f cdv A outer s H E) (defBody st) { nx := fun _ H' => Q .non H', rt := Q } (start N vs) H) : MeP P w K mg base (k + 1) f x qual st ps sp := by
  obtain ⟨kp, fd, F⟩ := F
  exact ⟨kp, fd, F.ok S len fun cdv A outer s H vs Q E hr h => ⟨_, pss_sem.nox, body cdv A outer s H vs Q E hr h⟩, F⟩
theorem me1P {p0 : Str} {Q1 : α → Prop} {Po : α → β → Prop} (F : Df K x qual st f) (S : FnScope N [p0] (defScope st))
    (hN : 1 ≤ N.length) (body : ∀ d, Q1 d → ∀ B, BodyOk P w K mg base k f N qual st fun X H => X.K = K → SV X ⟨some (.kn r1 d) :: List.replicate (N.length - 1) none, none, B, H, B⟩ (endR none B H r2 (Po d)) (defBody st)) : MeP P w K mg base (k + 1) f x qual st [p0] (sp1 r1 r2 Q1 Po) := by
  refine meP_of F S (fun vs H Q E ⟨v, d, B, h, _⟩ => by subst h; rfl) fun cdv A outer s H vs Q E hr ⟨v, d, B, e, hx, h1, hp, k⟩ => ?_
  subst e
  refine semS_mono (body d hp B cdv A outer s H E hr rfl _ B H (stt_start (Γ0 := [some (.kn r1 d)]) hx (fun a z => nomatch z) rfl hN fun i s' hi => ?_)) (fun σ' H' ⟨z, B', g, hz, po⟩ => k _ z B' H' g hz po) (fun v' H' ⟨z, B', g, hz, po⟩ => k _ z B' H' g hz po)
  match i, hi with
  | 0, hi => cases hi; exact ⟨v, rfl, rfl, v, rfl, h1⟩
theorem me2P {p0 p1 : Str} {Q1 : α → β → Prop} {Po : α → β → γ → Prop} (F : Df K x qual st f) (S : FnScope N [p0, p1] (defScope st))
    (hN : 2 ≤ N.length) (body : ∀ d d', Q1 d d' → ∀ B, BodyOk P w K mg base k f N qual st fun X H => X.K = K → SV X ⟨some (.kn r1 d) :: some (.kn r2 d') :: List.replicate (N.length - 2) none, none, B, H, B⟩ (endR none B H r3 (Po d d')) (defBody st)) : MeP P w K mg base (k + 1) f x qual st [p0, p1] (sp2 r1 r2 r3 Q1 Po) := by
  refine meP_of F S (fun vs H Q E ⟨v, d, v', d', B, h, _⟩ => by subst h; rfl) fun cdv A outer s H vs Q E hr ⟨v, d, v', d', B, e, hx, h1, h2, hp, k⟩ => ?_
  subst e
  refine semS_mono (body d d' hp B cdv A outer s H E hr rfl _ B H (stt_start (Γ0 := [some (.kn r1 d), some (.kn r2 d')]) hx (fun a z => nomatch z) rfl hN fun i s' hi => ?_)) (fun σ' H' ⟨z, B', g, hz, po⟩ => k _ z B' H' g hz po) (fun v' H' ⟨z, B', g, hz, po⟩ => k _ z B' H' g hz po)
  match i, hi with
  | 0, hi => cases hi; exact ⟨v, rfl, rfl, v, rfl, h1⟩
  | 1, hi => cases hi; exact ⟨v', rfl, rfl, v', rfl, h2⟩
theorem MeP.me {ps : List Str} (M : MeP P w K mg base k f x qual st ps sp) (hb : ∀ (kV doc pm : Value) (an : Option Addr) (cdv ct : Value) (us : List Value), us.length = ps.length → bindArgs (PySem.W.fnOf x qual (defArgs st) (defBody st) (defScope st) .none kV doc pm an cdv ct) ⟨us, []⟩ = pure (ps.zip us)) : Me P w K mg base k f sp := by
  obtain ⟨_, fd, F, G⟩ := M
  exact ⟨fd, ps, F, G.bindsN hb⟩
theorem kwBind_of {fd : FuncData} {ps ks : List Str} {g : List Value → List Value} {gV : List V → List V} (F : FunD K x qual (defArgs st) (defBody st) (defScope st) [] [] f fd)
    (h : ∀ (kV doc pm : Value) (an : Option Addr) (cdv ct : Value) (ws : List Value), ws.length = ks.length → bindArgs (PySem.W.fnOf x qual (defArgs st) (defBody st) (defScope st) .none kV doc pm an cdv ct) ⟨[], ks.zip ws⟩ = pure (ps.zip (g ws)))
    (hv : ∀ {zs : List V} {ws : List Value}, Vals zs ws → Vals (gV zs) (g ws)) : KwBind K fd ps ks g gV := by
  refine ⟨fun s ws _ hl => ?_, hv⟩
  obtain ⟨oc, od, dV, kV, doc, pm, an, cdv, ct, osl, rfl, lk, hcd, hD, hK⟩ := F.ex
  rcases hD with ⟨_, rfl⟩ | ⟨e, _⟩
  · exact .of_eq (h kV doc pm an cdv ct ws hl)
  · exact absurd rfl e
variable {fi CK CW fK fW : Addr}
theorem mp_given_table (T : Tx K mg) (F : Df K "given_table" "given_table" (top 94) f) (c1 : Ca P w K mg base 7 "want_grid" (S_wantgrid T.C)) (c2 : Ca P w K mg base 10 "given_rows" (S_givenrows T.C)) : MeP P w K mg base 11 f "given_table" "given_table" (top 94) ["grid"] (S_giventable T.C) := by
  refine me1P (k := 10) F sc94 (by decide) fun g ⟨n, m, h⟩ B cdv A outer s H E hr _ => ?_
  refine sv_retE (r := oL (oL (oQ T.C))) (PV.to (pv_lc (own := [("row", 1)]) (r2 := oL (oQ T.C)) (givenM g) rfl sc94.nd (piv_seq (pvS (pv_call1 c2 hr (p1 := fun z => z = g) (Pq := fun z => z = givenM g) (pv_call1 c1 (hr.mono (by decide)) (p1 := fun z => z = g) (pv_var (i := 0) (r := oS (oS (oN T.C))) (d := g) rfl) fun d hd => ⟨by subst hd; exact ⟨n, m, h.grid⟩, fun z hz => by subst hd; exact hz⟩) fun d hd => ⟨by subst hd; exact ⟨n, m, h⟩, fun z hz => by subst hd; exact hz⟩))) (blkOk_by (N := ["grid", "row"]) (sc := defScope (top 94)) (by decide +kernel)) (fun _ _ _ _ _ => pg_name (i := 1) sc94.nd rfl (Or.inl rfl)) tg_name (free1 rfl) rfl h.small fun i hi d hd y hy _ _ _ _ _ => ?_) rfl) rfl rfl rfl rfl
  rw [hd] at hy
  exact PV.to (pv_listOf (pvS (pv_var (i := 1) (r := oL (oQ T.C)) (d := d) rfl)) T.b_list) (Option.some.inj hy)
theorem mp_given_means (T : Tx K mg) (F : Df K "given_means" "given_means" (top 92) f) (c1 : Ca P w K mg base 7 "want_grid" (S_wantgrid T.C)) (c2 : Ca P w K mg base 3 "is_row" (S_arenum T.C)) (c3 : Ca P w K mg base 4 "ratio_of" (S_ratio_of T.C)) (c4 : Ca P w K mg base 9 "given_of" (S_givenof T.C)) : MeP P w K mg base 10 f "given_means" "given_means" (top 92) ["grid", "function"] (S_means T.C) := by
  refine me2P (k := 9) F sc92 (by decide) fun g ds ⟨n, m, h⟩ B cdv A outer s H E hr _ => ?_
  have n2 := h.grid.n2; have hl := h.len
  refine sv_setD (i := 2) (r := oL (oL (oQ T.C))) (d := g) (pv_call1 c1 (hr.mono (by decide)) (p1 := fun z => z = g) (pv_var (i := 0) (r := oS (oS (oN T.C))) (d := g) rfl) fun d hd => ⟨by subst hd; exact ⟨n, m, h.grid⟩, fun z hz => by subst hd; exact hz⟩) ?_ sc92.nd
  refine sv_ifret (q := false) (PVT.to (pt_notI (q := true) (pt_val1 (pv_call2 c2 (hr.mono (by decide)) (p1 := fun z => z = (ds.length : Int)) (p2 := fun z => z = ds) (PV.to (pv_len (pvS (pv_var (i := 2) (r := oL (oL (oQ T.C))) (d := g) rfl)) T.b_len) (by rw [h.grid.len, hl])) (pv_var (i := 1) (r := oS (oN T.C)) (d := ds) rfl) fun x y hx hy => ⟨by subst hx hy; exact ⟨rfl, by omega⟩, fun z hz => hz⟩))) rfl) (fun h => nomatch h) fun _ => ?_
  refine sv_retE (r := oL (oQ T.C)) (pv_call2 c4 hr (p1 := fun z => z = g) (p2 := fun z => z = ds) (pv_var (i := 2) (r := oL (oL (oQ T.C))) (d := g) rfl) (PV.to (pv_lc (own := [("number", 3)]) (r2 := oQ T.C) ds rfl sc92.nd (piv_seq (pv_var (i := 1) (r := oS (oN T.C)) (d := ds) rfl)) (blkOk_by (N := ["grid", "function", "told", "number"]) (sc := defScope (top 92)) (by decide +kernel)) (fun _ _ _ _ _ => pg_name (i := 3) sc92.nd rfl (Or.inl rfl)) tg_name (free1 rfl) rfl (by omega) fun i hi d hd y hy _ _ _ _ _ => ?_) rfl) fun x y hx hy => ⟨by subst hx hy; exact ⟨h.t1, h.s2, h.small, h.dots⟩, fun z hz => by subst hx hy; exact hz⟩) rfl rfl rfl rfl
  rw [hd] at hy
  exact pv_call1 c3 (hr.mono (by decide)) (p1 := fun z => z = d) (pv_var (i := 3) (r := oN T.C) (d := d) rfl) fun d' hd' => ⟨trivial, fun z hz => by rw [hz, hd']; exact Option.some.inj hy⟩
end
end Wk

end
section
set_option Elab.async false
set_option linter.all false
set_option maxRecDepth 100000
set_option maxHeartbeats 2000000
set_option exponentiation.threshold 100000
/-! calls by keywords alone. -/
namespace Wk
open PySem PySem.Spec PyProof.Rows L2 Ru RZ Rp
open Hd (top)
def CaP (P : Program) (w : World) (K : PySem.W.Frag) (mg : Str → Option Value) (base : Heap) (k : Nat) (x qual : Str) (st : Stmt) (ps : List Str) (sp : Sp) : Prop := ∃ f, mg x = some (.ref f) ∧ MeP P w K mg base k f x qual st ps sp
section
variable {X : Cx} {Φ : Fm} {α β γ : Type} {r : Rep α} {r2 : Rep β} {r3 : Rep γ} {a b : Expr} {pos p kp kp2 : Pos} {x qual : Str} {st : Stmt} {k : Nat} {p0 p1 : Str} {P1 : α → Prop} {P2 : β → Prop}
theorem pv_kw1 {Q1 : α → Prop} {Po : α → β → Prop} {Pq : β → Prop} (c : CaP X.prog X.w X.K X.mg X.base k x qual st [p0] (sp1 r r2 Q1 Po)) (hr : Room k X.A)
    (hb : ∀ (kV doc pm : Value) (an : Option Addr) (cdv ct : Value) (ws : List Value), ws.length = [p0].length → bindArgs (PySem.W.fnOf x qual (defArgs st) (defBody st) (defScope st) .none kV doc pm an cdv ct) ⟨[], [p0].zip ws⟩ = pure ([p0].zip ws))
    (ha : PV X Φ a r P1) (hp : ∀ d, P1 d → Q1 d ∧ ∀ z, Po d z → Pq z) (hg : Gl X x := by rfl) (hall : (backToKw pos (keywordEach [⟨some p0, a, kp⟩] X.env)).all (·.1.isSome) = true := by rfl) (hks : (backToKw pos (keywordEach [⟨some p0, a, kp⟩] X.env)).filterMap (·.1) = [p0] := by rfl) (hdb : (x == ("__debug__" : Str)) = false := by decide)
    (hpl : ((backTo pos (starEach [] X.env)).any (·.1) || (backToKw pos (keywordEach [⟨some p0, a, kp⟩] X.env)).any (·.1.isNone)) = false := by rfl) : PV X Φ (.Call (.Name x p) [] [⟨some p0, a, kp⟩] pos) r2 Pq := by
  obtain ⟨f, hm, hk, fd, F, G⟩ := c
  exact pv_of (pe_caK F hr hm hk (kwBind_of (g := id) (gV := id) G hb fun h => h) (pk_cons pe_sem pk_nil) hg hall hks hdb hpl) fun σ B H hs Q kk => ha.ev σ B H hs _ fun v d B1 H1 g rr q => ⟨rfl, v, d, B1, rfl, g.bh, rr, (hp d q).1, fun u z B' H' g' r' po => kk u z B' H' (g.trans g'.any) r' ((hp d q).2 z po)⟩
def swp {α : Type} : List α → List α
  | [x, y] => [y, x]
  | l => l
theorem swp_vals {zs : List V} {ws : List Value} (h : Vals zs ws) : Vals (swp zs) (swp ws) := by
  cases h with
  | nil => exact .nil
  | cons h1 t => cases t with
    | nil => exact .cons h1 .nil
    | cons h2 t => cases t with
      | nil => exact .cons h2 (.cons h1 .nil)
      | cons h3 t => exact .cons h1 (.cons h2 (.cons h3 t))
/-- the second parameter written first -/
theorem pv_kw2 {Q1 : α → β → Prop} {Po : α → β → γ → Prop} {Pq : γ → Prop} (c : CaP X.prog X.w X.K X.mg X.base k x qual st [p0, p1] (sp2 r r2 r3 Q1 Po)) (hr : Room k X.A)
    (hb : ∀ (kV doc pm : Value) (an : Option Addr) (cdv ct : Value) (ws : List Value), ws.length = [p1, p0].length → bindArgs (PySem.W.fnOf x qual (defArgs st) (defBody st) (defScope st) .none kV doc pm an cdv ct) ⟨[], [p1, p0].zip ws⟩ = pure ([p0, p1].zip (swp ws)))
    (hbb : PV X Φ b r2 P2) (ha : PV X Φ a r P1) (hp : ∀ d d', P1 d → P2 d' → Q1 d d' ∧ ∀ z, Po d d' z → Pq z) (hg : Gl X x := by rfl) (hall : (backToKw pos (keywordEach [⟨some p1, b, kp⟩, ⟨some p0, a, kp2⟩] X.env)).all (·.1.isSome) = true := by rfl) (hks : (backToKw pos (keywordEach [⟨some p1, b, kp⟩, ⟨some p0, a, kp2⟩] X.env)).filterMap (·.1) = [p1, p0] := by rfl) (hdb : (x == ("__debug__" : Str)) = false := by decide)
    (hpl : ((backTo pos (starEach [] X.env)).any (·.1) || (backToKw pos (keywordEach [⟨some p1, b, kp⟩, ⟨some p0, a, kp2⟩] X.env)).any (·.1.isNone)) = false := by rfl) : PV X Φ (.Call (.Name x p) [] [⟨some p1, b, kp⟩, ⟨some p0, a, kp2⟩] pos) r3 Pq := by
  obtain ⟨f, hm, hk, fd, F, G⟩ := c
  exact pv_of (pe_caK F hr hm hk (kwBind_of (g := swp) (gV := swp) G hb swp_vals) (pk_cons pe_sem (pk_cons pe_sem pk_nil)) hg hall hks hdb hpl) fun σ B H hs Q kk => ev2 hbb.ev ha.ev hs fun v d w d' B2 H2 g q pp q' pp' => ⟨rfl, w, d', v, d, B2, rfl, g.bh, q', q, (hp d' d pp' pp).1, fun u z B' H' g' r' po => kk u z B' H' (g.trans g'.any) r' ((hp d' d pp' pp).2 z po)⟩
end
end Wk

end
section
set_option Elab.async false
set_option linter.all false
set_option maxRecDepth 100000
set_option maxHeartbeats 2000000
set_option exponentiation.threshold 100000
/-! What is to hold of a drawn grid (the aim of the plain law). -/
namespace Wk
open PySem PySem.Spec PyProof.Rows L2 Ru RZ Rp
open Hd (top)

def colsM (g : Mq) (m : Nat) : Mq := (List.range m).map (colM g)
def rawM (g : Mq) : Mq := errM (seenM g)
def midM (g : Mq) (m : Nat) (f : List Rat) : List Rat := (List.range m).map fun j => dotM (ovM (colM g j)) f
def WorOk (form : Mq) (row : List Rat) : Prop := form.length ≤ 900 ∧ (∀ r ∈ form, DotOk r row) ∧ DotOk row (form.map fun r => dotM r row)
def liftM (m : Nat) (f : List Rat) : List Rat := (f.map fun q => List.replicate m q).flatten
/-- of a function drawn -/
structure RightFn (g : Mq) (n m : Nat) (f : List Rat) : Prop where
  mid : ∀ j, j < m → OvOk (colM g j) ∧ DotOk (ovM (colM g j)) f
  means : MeansOk g f n m
  meq : meansM g f = midM g m f
  w1 : WorOk (rawM g) f
  w2 : WorOk (givenM g) f
  e1 : LerrOk (lseenM g m) (lshares g) f
  e2 : LerrOk (lseenM (colsM g m) n) (lshares (colsM g m)) (midM g m f)
  near : worthM (rawM g) f = lerrM (lseenM g m) (lshares g) f
  far : worthM (givenM g) f = lerrM (lseenM (colsM g m) n) (lshares (colsM g m)) (midM g m f)
  s1 : SprOk (lshares g) f
  s2 : SprOk (lshares (colsM g m)) (midM g m f)
  fits : Fit (worthM (rawM g) f) ∧ Fit (worthM (givenM g) f) ∧ Fit (sprM (lshares g) f) ∧ Fit (sprM (lshares (colsM g m)) (midM g m f))
  gap : worthM (rawM g) f - worthM (givenM g) f = sprM (lshares g) f + sprM (lshares (colsM g m)) (midM g m f)
  lft : ErOk (scanW g) (liftM m f) 
  lw : worthM (errM (scanW g)) (liftM m f) = worthM (rawM g) f
/-- of a grid drawn -/
structure RightOk (g : Mq) (n m : Nat) : Prop where
  raw : RawOk g n m
  giv : GivenOk g n m
  scan : ScanOk g n m
  see : LseenOk g m
  back : LseenOk (colsM g m) n
  rl : (rawM g).length = n ∧ ∀ r ∈ rawM g, r.length = n
  gl : (givenM g).length = n ∧ ∀ r ∈ givenM g, r.length = n
  rs : colsM (rawM g) n = rawM g
  gs : colsM (givenM g) n = givenM g
  fn : ∀ f, f.length = n → (∀ q ∈ f, Nm q) → RightFn g n m f
  one : ∀ q, Nm q → WorOk (rawM g) (List.replicate n q) ∧ WorOk (givenM g) (List.replicate n q) ∧ worthM (rawM g) (List.replicate n q) = 0 ∧ worthM (givenM g) (List.replicate n q) = 0
end Wk

end
section
set_option Elab.async false
set_option linter.all false
set_option maxRecDepth 100000
set_option maxHeartbeats 2000000
set_option exponentiation.threshold 100000
/-! error(a new walk, a function). -/
namespace Wk
open PySem PySem.Spec PyProof.Rows L2 Ru RZ Rp
open Hd (top)
section
variable {X : Cx} {Φ : Fm} {a b : Expr} {pos p : Pos} {CW C : Addr} {d : Wd} {ds : List Rat}
theorem pv_error (c : Ca X.prog X.w X.K X.mg X.base 9 "error" (S_error CW C)) (hr : Room 9 X.A) (hw : PVW X Φ CW C a d) (hb : PD X Φ b (oS (oN C)) ds) (ok : ErOk d ds) (hg : Gl X "error" := by rfl)
    (he : starEach [a, b] X.env = (false, eval a X.env) :: starEach [b] X.env := by rfl) (he2 : starEach [b] X.env = (false, eval b X.env) :: starEach [] X.env := by rfl) (hpl : (backTo pos (starEach [b] X.env)).any (·.1) = false := by rfl) : PD X Φ (.Call (.Name "error" p) [a, b] [] pos) (oQ C) (worthM (errM d) ds) :=
  pv_of (pe_ca c hr (pa_cons pe_sem (pa_cons pe_sem pa_nil he2) he) hg (by decide) he hpl) fun σ B H hs Q kk => hw σ B H hs _ fun u kp B1 H1 g1 q1 => hb.ev σ B1 H1 (hs.grow g1) _ fun v2 ds' B2 H2 g2 r2 p2 => by
    subst p2
    have nm : Φ.m ≠ some kp := fun z => (hs.mm kp z).2 (hs.g.al kp q1.2.2.2)
    have k2 : H2 kp = some (.lst []) := g2.hh _ _ nm q1.2.1
    have b2 : B2 kp = none := by
      cases q : B2 kp with
      | none => rfl
      | some o =>
        rcases g2.new _ _ q with z | z
        · rw [q1.2.2.1] at z; cases z
        · rw [q1.2.1] at z; cases z
    exact ⟨u, d, kp, v2, ds', B2, rfl, g2.bh, (oWk CW C).mono g2.bb q1.1, k2, b2, r2, ok, fun w B' H' g' rw_ => kk w _ B' H' (GrowK.fresh (g1.trans g2) g' q1.2.2.2) rw_ rfl⟩
end
end Wk

end
section
set_option Elab.async false
set_option linter.all false
set_option maxRecDepth 100000
set_option maxHeartbeats 2000000
set_option exponentiation.threshold 100000
namespace Wk
open PySem PySem.Spec PyProof.Rows L2 Ru RZ Rp
section
variable {X : Cx} {Φ : Fm} {a b e : Expr} {pos p : Pos} {α : Type} {r : Rep α}
theorem pv_list1P {P : α → Prop} (he : PV X Φ e r P) (hst : starEach [e] X.env = (false, eval e X.env) :: starEach [] X.env := by rfl) : PV X Φ (.List [e] pos) (oL r) (fun z => ∃ d, P d ∧ z = [d]) :=
  pv_of (pe_lst (pa_cons pe_sem pa_nil hst)) fun σ B H hs Q k => he.ev σ B H hs _ fun v d B2 H2 g q pd => ⟨Nat.le_of_ble_eq_true rfl, fun l hn => k _ [d] _ _ (g.trans (.alloc g.bh hn)) (oL_new (.cons q .nil) (ext_none g.bh hn) (Nat.le_of_ble_eq_true rfl)) ⟨d, pd, rfl⟩⟩
theorem pv_repP {P : α → Prop} {i : Int} (n : Nat) (ha : PV X Φ a (oL r) (fun z => ∃ d, P d ∧ z = [d])) (hb : PD X Φ b oI i) (hi : i = (n : Int)) (hl : n ≤ 1000) : PV X Φ (.BinOp a .Mult b pos) (oL r) (fun z => ∃ d, P d ∧ z = List.replicate n d) :=
  pv_of (pe_op op_rep pe_sem pe_sem) (ev_op ha.ev hb.ev fun v ds w i' B H x q p q' p' Q k => by
    subst p'
    obtain ⟨d, hP, p⟩ := p
    subst p
    have r2 : w = .int i' := q'
    subst r2
    obtain ⟨l1, y1, rfl, a1, a2, _⟩ := oL_at x q
    cases a2 with
    | cons q1 q2 =>
      cases q2
      rename_i v1
      refine ⟨l1, i', [v1], rfl, rfl, a1, by omega, by omega, ?_, fun l hn => ?_⟩
      · rw [hi]; show 1 * _ ≤ _; rw [Nat.one_mul]; exact lenOk (by simpa using hl)
      · have e : i'.toNat = n := by omega
        rw [e, flat_rep]
        exact k _ _ _ _ (.alloc x hn) (oL_new (Prd.rep q1 n) (ext_none x hn) (by rw [List.length_replicate]; exact hl)) ⟨d, hP, rfl⟩)
end
end Wk

end
section
set_option Elab.async false
set_option linter.all false
set_option maxRecDepth 100000
set_option maxHeartbeats 2000000
set_option exponentiation.threshold 100000
/-! the law: right. -/
namespace Wk
open PySem PySem.Spec PyProof.Rows L2 Ru RZ Rp
open Hd (top)
section
variable {X : Cx} {Φ : Fm} {α : Type} {r : Rep α} {e : Expr}
theorem pvSS {ds : List (List α)} (h : PD X Φ e (oL (oL r)) ds) : PD X Φ e (oS (oS r)) ds := h.rep fun H v d q h => ⟨d, .inl (by
  obtain ⟨a, xs, h1, h2, h3, h4⟩ := h
  exact ⟨a, xs, h1, h2, Paired.mapP h3 fun _ _ q => .inl q, h4⟩), q⟩
theorem pvTTS {ds : List (List α)} (h : PD X Φ e (oT (oL r)) ds) : PD X Φ e (oS (oS r)) ds := h.rep fun H v d q h => ⟨d, .inr (by
  obtain ⟨a, xs, h1, h2, h3, h4⟩ := h
  exact ⟨a, xs, h1, h2, Paired.mapP h3 fun _ _ q => .inl q, h4⟩), q⟩
theorem pvTS {ds : List α} (h : PD X Φ e (oT r) ds) : PD X Φ e (oS r) ds := h.rep fun H v d q h => ⟨d, .inr h, q⟩
end
section
variable {P : Program} {w : World} {K : PySem.W.Frag} {mg : Str → Option Value} {base : Heap} {f fi fe CK CW fK fW : Addr} {k : Nat}
abbrev N110 : List Str := ["_law_pot_here", "_law_grid_here", "_law_turned", "_law_raw", "_law_given", "_law_rows", "_law_shares", "_law_back", "_law_sides", "_law_turn", "_law_function_here", "_law_middles", "_law_near", "_law_far", "_law_lifted", "_law_worth_here", "_law_one", "_law_row", "_law_place"]
theorem sc110 : FnScope N110 ["_law_pot_here"] (defScope (top 110)) := ⟨rfl, rfl, rfl, by decide +kernel, rfl, by decide +kernel, by decide +kernel⟩
abbrev S_right : Sp := spP0 oB (fun z => z = true)
theorem m_right (T : Tx K mg) (R : Rq P w K mg base T.C) (RE : Re P w K mg base T.C fe) (hw : ∀ g n m, Gw g n m → RightOk g n m) (F : Df K "_law_right" "_law_right" (top 110) f)
    (c1 : Ca P w K mg base 4 "_law_grid" (S_lgrid T.C)) (c2 : Ca P w K mg base 10 "raw_table" (S_rawtable T.C)) (c3 : CaP P w K mg base 11 "given_table" "given_table" (top 94) ["grid"] (S_giventable T.C)) (c4 : Ca P w K mg base 8 "_law_seen" (S_lseen T.C)) (c5 : Ca P w K mg base 5 "_law_function" (S_function T.C)) (c6 : Ca P w K mg base 7 "_law_first_at" (S_lfirst T.C)) (c7 : Ca P w K mg base 5 "_law_dot" (S_ldot T.C)) (c8 : Ca P w K mg base 10 "given_means" (S_means T.C)) (c9 : CaP P w K mg base 10 "given_means" "given_means" (top 92) ["grid", "function"] (S_means T.C)) (c10 : Ca P w K mg base 6 "_law_worth" (S_lworth T.C)) (c11 : Ca P w K mg base 7 "_law_error" (S_lerror T.C)) (c12 : Ca P w K mg base 6 "_law_spread" (S_lspread T.C)) (c13 : Ca P w K mg base 9 "error" (S_error CW T.C)) (c14 : Ca P w K mg base 11 "scan" (S_scan CW T.C)) (c15 : Ca P w K mg base 4 "_law_number" (S_number T.C)) : Me P w K mg base 13 f S_right := by
  refine meP0 (k := 12) F sc110 (fun _ _ _ _ _ _ us hl => match us, hl with | [_], _ => rfl) (by decide) fun pa B cdv A outer s H E hr hp => ?_
  refine sv_set (i := 1) (r := oL (oL (oN T.C))) (pv_pot0 c1 (hr.mono (by decide)) rfl hp (pv_var (i := 0) (r := oV) (d := .ref pa) rfl)) (fun g ⟨n, m, hg⟩ => ?_) sc110.nd
  have h := hw g n m hg
  obtain ⟨fi, Rm⟩ := R.mk_
  obtain ⟨n', m', ed, hn', hm'⟩ := dims_nat hg.dim
  have en : n' = n := by have := congrArg Prod.fst ed; exact (Int.ofNat.inj this).symm
  have em : m' = m := by have := congrArg Prod.snd ed; exact (Int.ofNat.inj this).symm
  subst en em
  have dpos : ∀ d ∈ dims, 0 < d.1 ∧ 0 < d.2 := by decide
  have dp := dpos _ hg.dim
  dsimp only at dp
  have gl := hg.len
  have hr0 : 0 < g.length := by omega
  have m0 : (g.getD 0 []).length = m' := hg.wide _ (mem_at (getD_at hr0))
  refine sv_setLc (i := 2) (r2 := oL (oN T.C)) (own := [("_law_place", 18)]) (colsM g m') sc110.nd (piv_range m' (pv_len (pvS (pv_ix 0 (pvS (pv_var (i := 1) (r := oL (oL (oN T.C))) (d := g) rfl)) pv_int rfl (getD_at hr0))) T.b_len) (by rw [m0]) (by omega) T.b_range) (blkOk_by (N := N110) (sc := defScope (top 110)) (by decide +kernel)) (fun _ _ _ _ _ => pg_name (i := 18) sc110.nd rfl (Or.inr rfl)) tg_name (free1 rfl) (by unfold colsM; rw [List.length_map, List.length_range]) (by omega) (fun i hi d hd y hy _ _ _ _ _ => ?_) ?_
  · subst hd
    have ey : y = colM g i := by
      unfold colsM at hy
      rw [List.getElem?_map, List.getElem?_range hi] at hy
      exact (Option.some.inj hy).symm
    subst ey
    refine PV.to (pv_lc (own := [("_law_row", 17)]) (colM g i) rfl sc110.nd (piv_seq (pvS (pv_var (i := 1) (r := oL (oL (oN T.C))) (d := g) rfl))) (blkOk_by (N := N110) (by rfl)) (fun _ _ _ _ _ => pg_name (i := 17) sc110.nd rfl (Or.inl rfl)) tg_name (free1 rfl) (by unfold colM; rw [List.length_map]) (by omega) fun j hj d hd y hy _ _ _ _ _ => ?_) rfl
    unfold colM at hy
    rw [List.getElem?_map, hd] at hy
    exact PV.to (pv_ix i (pvS (pv_var (i := 17) (r := oL (oN T.C)) (d := d) rfl)) (pv_var (i := 18) (r := oI) (d := (i : Int)) rfl) rfl (getD_at (by rw [hg.wide d (mem_at hd)]; exact hi))) (Option.some.inj hy)
  refine sv_tup2 (i := 3) (j := 4) (r := oL (oL (oQ T.C))) (r2 := oL (oL (oQ T.C))) (P2 := fun d => d = (rawM g, givenM g)) (pv_pair (d := rawM g) (d' := givenM g) (pv_call1 c2 (hr.mono (by decide)) (p1 := fun z => z = g) (Pq := fun z => z = rawM g) (pvSS (pv_var (i := 1) (r := oL (oL (oN T.C))) (d := g) rfl)) fun d hd => ⟨by subst hd; exact ⟨_, _, h.raw⟩, fun z hz => by subst hd; exact hz⟩) (pv_kw1 c3 (hr.mono (by decide)) (fun _ _ _ _ _ _ ws hl => match ws, hl with | [_], _ => rfl) (P1 := fun z => z = g) (Pq := fun z => z = givenM g) (pvSS (pv_var (i := 1) (r := oL (oL (oN T.C))) (d := g) rfl)) fun d hd => ⟨by subst hd; exact ⟨_, _, h.giv⟩, fun z hz => by subst hd; exact hz⟩)) (fun d hd => ?_) sc110.nd
  subst hd
  refine sv_tup2 (i := 5) (j := 6) (r := oL (oL (oQ T.C))) (r2 := oL (oQ T.C)) (P2 := fun d => d = (lseenM g m', lshares g)) (pv_call1 c4 (hr.mono (by decide)) (p1 := fun z => z = g) (pv_var (i := 1) (r := oL (oL (oN T.C))) (d := g) rfl) fun d hd => ⟨by subst hd; exact ⟨_, h.see⟩, fun z hz => by subst hd; exact hz _ h.see⟩) (fun d hd => ?_) sc110.nd
  subst hd
  refine sv_tup2 (i := 7) (j := 8) (r := oL (oL (oQ T.C))) (r2 := oL (oQ T.C)) (P2 := fun d => d = (lseenM (colsM g m') n', lshares (colsM g m'))) (pv_call1 c4 (hr.mono (by decide)) (p1 := fun z => z = colsM g m') (pv_var (i := 2) (r := oL (oL (oN T.C))) (d := colsM g m') rfl) fun d hd => ⟨by subst hd; exact ⟨_, h.back⟩, fun z hz => by subst hd; exact hz _ h.back⟩) (fun d hd => ?_) sc110.nd
  subst hd
  have eqL := eqG_list mon_Q (eqG_Q (X := xof P w K mg base N110 "_law_right" (top 110) f cdv A outer s H E) RE)
  refine sv_ifret (q := false) (PVT.to (pt_or2 (p := false) (q := false) (pt_neL (r := oL (oQ T.C)) (ds := rawM g) (mon_List mon_Q) eqL (hr.mono (by decide)) (fun H v v' d q1 q2 => rel_list (r := oQ T.C) (fun H v v' d q1 q2 => ⟨d, q1, q2⟩) q1 q2) (pv_var (i := 3) (r := oL (oL (oQ T.C))) (d := rawM g) rfl) (PV.to (pv_lc (own := [("_law_place", 18)]) (colsM (rawM g) n') rfl sc110.nd (piv_range n' (pv_len (pvS (pv_var (i := 3) (r := oL (oL (oQ T.C))) (d := rawM g) rfl)) T.b_len) (by rw [h.rl.1]) (by omega) T.b_range) (blkOk_by (N := N110) (sc := defScope (top 110)) (by decide +kernel)) (fun _ _ _ _ _ => pg_name (i := 18) sc110.nd rfl (Or.inr rfl)) tg_name (free1 rfl) (by unfold colsM; rw [List.length_map, List.length_range]) (by omega) fun i hi d hd y hy _ _ _ _ _ => by
      subst hd
      have ey : y = colM (rawM g) i := by
        unfold colsM at hy
        rw [List.getElem?_map, List.getElem?_range hi] at hy
        exact (Option.some.inj hy).symm
      subst ey
      refine PV.to (pv_lc (own := [("_law_row", 17)]) (colM (rawM g) i) rfl sc110.nd (piv_seq (pvS (pv_var (i := 3) (r := oL (oL (oQ T.C))) (d := rawM g) rfl))) (blkOk_by (N := N110) (by rfl)) (fun _ _ _ _ _ => pg_name (i := 17) sc110.nd rfl (Or.inl rfl)) tg_name (free1 rfl) (by unfold colM; rw [List.length_map]) (by rw [h.rl.1]; omega) fun j hj d hd y hy _ _ _ _ _ => ?_) rfl
      unfold colM at hy
      rw [List.getElem?_map, hd] at hy
      exact PV.to (pv_ix i (pvS (pv_var (i := 17) (r := oL (oQ T.C)) (d := d) rfl)) (pv_var (i := 18) (r := oI) (d := (i : Int)) rfl) rfl (getD_at (by rw [h.rl.2 d (mem_at hd)]; exact hi))) (Option.some.inj hy)) h.rs))
    fun _ => pt_neL (r := oL (oQ T.C)) (ds := givenM g) (mon_List mon_Q) eqL (hr.mono (by decide)) (fun H v v' d q1 q2 => rel_list (r := oQ T.C) (fun H v v' d q1 q2 => ⟨d, q1, q2⟩) q1 q2) (pv_var (i := 4) (r := oL (oL (oQ T.C))) (d := givenM g) rfl) (PV.to (pv_lc (own := [("_law_place", 18)]) (colsM (givenM g) n') rfl sc110.nd (piv_range n' (pv_len (pvS (pv_var (i := 4) (r := oL (oL (oQ T.C))) (d := givenM g) rfl)) T.b_len) (by rw [h.gl.1]) (by omega) T.b_range) (blkOk_by (N := N110) (sc := defScope (top 110)) (by decide +kernel)) (fun _ _ _ _ _ => pg_name (i := 18) sc110.nd rfl (Or.inr rfl)) tg_name (free1 rfl) (by unfold colsM; rw [List.length_map, List.length_range]) (by omega) fun i hi d hd y hy _ _ _ _ _ => by
      subst hd
      have ey : y = colM (givenM g) i := by
        unfold colsM at hy
        rw [List.getElem?_map, List.getElem?_range hi] at hy
        exact (Option.some.inj hy).symm
      subst ey
      refine PV.to (pv_lc (own := [("_law_row", 17)]) (colM (givenM g) i) rfl sc110.nd (piv_seq (pvS (pv_var (i := 4) (r := oL (oL (oQ T.C))) (d := givenM g) rfl))) (blkOk_by (N := N110) (by rfl)) (fun _ _ _ _ _ => pg_name (i := 17) sc110.nd rfl (Or.inl rfl)) tg_name (free1 rfl) (by unfold colM; rw [List.length_map]) (by rw [h.gl.1]; omega) fun j hj d hd y hy _ _ _ _ _ => ?_) rfl
      unfold colM at hy
      rw [List.getElem?_map, hd] at hy
      exact PV.to (pv_ix i (pvS (pv_var (i := 17) (r := oL (oQ T.C)) (d := d) rfl)) (pv_var (i := 18) (r := oI) (d := (i : Int)) rfl) rfl (getD_at (by rw [h.gl.2 d (mem_at hd)]; exact hi))) (Option.some.inj hy)) h.gs)) rfl) (fun h => nomatch h) fun _ => ?_
  let G : Option Sl → List (Option Sl) := fun sl => [some (.kn oV (.ref pa)), some (.kn (oL (oL (oN T.C))) g), some (.kn (oL (oL (oN T.C))) (colsM g m')), some (.kn (oL (oL (oQ T.C))) (rawM g)), some (.kn (oL (oL (oQ T.C))) (givenM g)), some (.kn (oL (oL (oQ T.C))) (lseenM g m')), some (.kn (oL (oQ T.C)) (lshares g)), some (.kn (oL (oL (oQ T.C))) (lseenM (colsM g m') n')), some (.kn (oL (oQ T.C)) (lshares (colsM g m'))), none, sl, none, none, none, none, none, none, none, none]
  refine sv_forF (fun i G' => ∃ sl, G' = G sl ∧ (0 < i → ∃ fu : List Rat, sl = some (.kn (oL (oN T.C)) fu) ∧ fu.length = n' ∧ ∀ q ∈ fu, Nm q)) (piv_range 2 (pv_int (i := 2)) rfl (by decide) T.b_range) (pg_name (i := 9) sc110.nd rfl (.inl rfl)) tg_name (G none) ⟨none, rfl, fun z => absurd z (by decide)⟩ (Le.rf _) (fun Bs i G' hi ⟨sl, e, _⟩ d _ => ?_) fun G' ⟨sl, e, hq⟩ => ?_
  · subst e
    refine sv_set (i := 10) (r := oL (oN T.C)) (pv_pot1 c5 (hr.mono (by decide)) rfl hp (p1 := fun z => z = (n' : Int)) (Pq := fun z => z.length = n' ∧ ∀ q ∈ z, Nm q) (pv_var (i := 0) (r := oV) (d := .ref pa) rfl) (PV.to (pv_len (pvS (pv_var (i := 1) (r := oL (oL (oN T.C))) (d := g) rfl)) T.b_len) (by rw [gl])) fun d hd => ⟨by subst hd; exact ⟨n', rfl, by omega⟩, fun z hz => by subst hd; exact hz⟩) (fun fu ⟨fl, fq⟩ => ?_) sc110.nd
    have hf := h.fn fu fl fq
    refine sv_setLc (i := 11) (r2 := oQ T.C) (own := [("_law_place", 18)]) (midM g m' fu) sc110.nd (piv_range m' (pv_len (pvS (pv_ix 0 (pvS (pv_var (i := 1) (r := oL (oL (oN T.C))) (d := g) rfl)) pv_int rfl (getD_at hr0))) T.b_len) (by rw [m0]) (by omega) T.b_range) (blkOk_by (N := N110) (sc := defScope (top 110)) (by decide +kernel)) (fun _ _ _ _ _ => pg_name (i := 18) sc110.nd rfl (Or.inl rfl)) tg_name (free1 rfl) (by unfold midM; rw [List.length_map, List.length_range]) (by omega) (fun i hi d hd y hy _ _ _ _ _ => ?_) ?_
    · subst hd
      have ey : y = dotM (ovM (colM g i)) fu := by
        unfold midM at hy
        rw [List.getElem?_map, List.getElem?_range hi] at hy
        exact (Option.some.inj hy).symm
      subst ey
      have hm := hf.mid i hi
      exact pv_call2 c7 (hr.mono (by decide)) (p1 := fun z => z = ovM (colM g i)) (p2 := fun z => z = fu) (pvLN (pv_call2 c6 (hr.mono (by decide)) (p1 := fun z => z = g) (p2 := fun z => z = (i : Int)) (Pq := fun z => z = ovM (colM g i)) (pv_var (i := 1) (r := oL (oL (oN T.C))) (d := g) rfl) (pv_var (i := 18) (r := oI) (d := (i : Int)) rfl) fun x y ex ez => ⟨by rw [ex, ez]; exact ⟨i, rfl, by omega, fun r hr => by rw [hg.wide r hr]; exact hi, hm.1⟩, fun z hz => by rw [ex, ez] at hz; rw [hz, Int.toNat_natCast]; rfl⟩)) (pv_var (i := 10) (r := oL (oN T.C)) (d := fu) rfl) fun x y ex ez => ⟨by rw [ex, ez]; exact hm.2, fun z hz => by rw [ex, ez] at hz; exact hz⟩
    refine sv_ifret (q := false) (PVT.to (pt_or2 (p := false) (q := false) (pt_neL (r := oQ T.C) (ds := midM g m' fu) mon_Q (eqG_Q RE) (hr.mono (by decide)) (fun H v v' d q1 q2 => ⟨d, q1, q2⟩) (pv_call2 c8 (hr.mono (by decide)) (p1 := fun z => z = g) (p2 := fun z => z = fu) (pvSS (pv_var (i := 1) (r := oL (oL (oN T.C))) (d := g) rfl)) (pvS (pv_var (i := 10) (r := oL (oN T.C)) (d := fu) rfl)) fun x y ex ey => ⟨by rw [ex, ey]; exact ⟨_, _, hf.means⟩, fun z hz => by rw [hz, ex, ey]; exact hf.meq⟩) (pv_var (i := 11) (r := oL (oQ T.C)) (d := midM g m' fu) rfl))
      fun _ => pt_neL (r := oQ T.C) (ds := midM g m' fu) mon_Q (eqG_Q RE) (hr.mono (by decide)) (fun H v v' d q1 q2 => ⟨d, q1, q2⟩) (pv_kw2 c9 (hr.mono (by decide)) (fun _ _ _ _ _ _ ws hl => match ws, hl with | [_, _], _ => rfl) (P1 := fun z => z = g) (P2 := fun z => z = fu) (pvTS (pv_tupleOf (pvS (pv_var (i := 10) (r := oL (oN T.C)) (d := fu) rfl)) T.b_tuple)) (pvTTS (pv_tupleOf (pvS (pv_var (i := 1) (r := oL (oL (oN T.C))) (d := g) rfl)) T.b_tuple)) fun x y ex ey => ⟨by rw [ex, ey]; exact ⟨_, _, hf.means⟩, fun z hz => by rw [hz, ex, ey]; exact hf.meq⟩) (pv_var (i := 11) (r := oL (oQ T.C)) (d := midM g m' fu) rfl)) rfl) (fun h => nomatch h) fun _ => ?_
    refine sv_par (i := 12) (j := 13) (r := oQ T.C) (r2 := oQ T.C) (d := worthM (rawM g) fu) (d' := worthM (givenM g) fu) (pv_call2 c10 (hr.mono (by decide)) (p1 := fun z => z = rawM g) (p2 := fun z => z = fu) (Pq := fun z => z = worthM (rawM g) fu) (pv_var (i := 3) (r := oL (oL (oQ T.C))) (d := rawM g) rfl) (pv_var (i := 10) (r := oL (oN T.C)) (d := fu) rfl) fun x y ex ey => ⟨by rw [ex, ey]; exact hf.w1, fun z hz => by rw [hz, ex, ey]⟩) (pv_call2 c10 (hr.mono (by decide)) (p1 := fun z => z = givenM g) (p2 := fun z => z = fu) (Pq := fun z => z = worthM (givenM g) fu) (pv_var (i := 4) (r := oL (oL (oQ T.C))) (d := givenM g) rfl) (pv_var (i := 10) (r := oL (oN T.C)) (d := fu) rfl) fun x y ex ey => ⟨by rw [ex, ey]; exact hf.w2, fun z hz => by rw [hz, ex, ey]⟩) ?_ sc110.nd
    refine sv_ifret (q := false) (PVT.to (pt_or2 (pt_neQ (q' := worthM (rawM g) fu) R (hr.mono (by decide)) (pv_var (i := 12) (r := oQ T.C) (d := worthM (rawM g) fu) rfl) (pv_call3 c11 (hr.mono (by decide)) (p1 := fun z => z = lseenM g m') (p2 := fun z => z = lshares g) (p3 := fun z => z = fu) (pv_var (i := 5) (r := oL (oL (oQ T.C))) (d := lseenM g m') rfl) (pv_var (i := 6) (r := oL (oQ T.C)) (d := lshares g) rfl) (pv_var (i := 10) (r := oL (oN T.C)) (d := fu) rfl) fun x y u ex ey eu => ⟨by rw [ex, ey, eu]; exact hf.e1, fun z hz => by rw [hz, ex, ey, eu]; exact hf.near.symm⟩)) fun _ => pt_neQ (q' := worthM (givenM g) fu) R (hr.mono (by decide)) (pv_var (i := 13) (r := oQ T.C) (d := worthM (givenM g) fu) rfl) (pv_call3 c11 (hr.mono (by decide)) (p1 := fun z => z = lseenM (colsM g m') n') (p2 := fun z => z = lshares (colsM g m')) (p3 := fun z => z = midM g m' fu) (pv_var (i := 7) (r := oL (oL (oQ T.C))) (d := lseenM (colsM g m') n') rfl) (pv_var (i := 8) (r := oL (oQ T.C)) (d := lshares (colsM g m')) rfl) (pvLN (pv_var (i := 11) (r := oL (oQ T.C)) (d := midM g m' fu) rfl)) fun x y u ex ey eu => ⟨by rw [ex, ey, eu]; exact hf.e2, fun z hz => by rw [hz, ex, ey, eu]; exact hf.far.symm⟩)) (by simp)) (fun h => nomatch h) fun _ => ?_
    refine sv_ifret (q := false) (PVT.to (pt_neQ R (hr.mono (by decide)) (pv_subQ R (hr.mono (by decide)) (pv_var (i := 12) (r := oQ T.C) (d := worthM (rawM g) fu) rfl) (pvN (pv_var (i := 13) (r := oQ T.C) (d := worthM (givenM g) fu) rfl)) hf.fits.1 hf.fits.2.1) (pv_addQ R (hr.mono (by decide)) (pv_call2 c12 (hr.mono (by decide)) (p1 := fun z => z = lshares g) (p2 := fun z => z = fu) (Pq := fun z => z = sprM (lshares g) (fu)) (pv_var (i := 6) (r := oL (oQ T.C)) (d := lshares g) rfl) (pv_var (i := 10) (r := oL (oN T.C)) (d := fu) rfl) fun x y ex ey => ⟨by rw [ex, ey]; exact hf.s1, fun z hz => by rw [hz, ex, ey]⟩) (pvN (pv_call2 c12 (hr.mono (by decide)) (p1 := fun z => z = lshares (colsM g m')) (p2 := fun z => z = midM g m' fu) (Pq := fun z => z = sprM (lshares (colsM g m')) (midM g m' fu)) (pv_var (i := 8) (r := oL (oQ T.C)) (d := lshares (colsM g m')) rfl) (pvLN (pv_var (i := 11) (r := oL (oQ T.C)) (d := midM g m' fu) rfl)) fun x y ex ey => ⟨by rw [ex, ey]; exact hf.s2, fun z hz => by rw [hz, ex, ey]⟩)) hf.fits.2.2.1 hf.fits.2.2.2)) (by rw [hf.gap]; simp)) (fun h => nomatch h) fun _ => ?_
    exact sv_endX ⟨some (.kn (oL (oN T.C)) fu), rfl, fun _ => ⟨fu, rfl, fl, fq⟩⟩ (.keep (.keep (.keep (.keep (.keep (.keep (.keep (.keep (.keep (.skip (.keep (.skip (.skip (.skip (.skip (.skip (.skip (.skip (.skip .nil))))))))))))))))))) rfl rfl rfl rfl
  · subst e
    obtain ⟨fu, e, fl, fq⟩ := hq (by decide)
    subst e
    refine sv_new (i := 14) (oN T.C) (fun q => ?_) sc110.nd
    have lk : ∀ k, (liftM m' (fu.take k)).length ≤ 3 * m' := fun k => by
      unfold liftM
      rw [List.length_flatten, List.map_map]
      have e1 : (fu.take k).map (List.length ∘ fun q => List.replicate m' q) = (fu.take k).map fun _ => m' := List.map_congr_left fun q _ => by simp
      rw [e1, List.map_const', List.sum_replicate_nat]
      exact Nat.mul_le_mul_right _ (by rw [List.length_take]; omega)
    let G1 : Nat → List (Option Sl) := fun k => [some (.kn oV (.ref pa)), some (.kn (oL (oL (oN T.C))) g), some (.kn (oL (oL (oN T.C))) (colsM g m')), some (.kn (oL (oL (oQ T.C))) (rawM g)), some (.kn (oL (oL (oQ T.C))) (givenM g)), some (.kn (oL (oL (oQ T.C))) (lseenM g m')), some (.kn (oL (oQ T.C)) (lshares g)), some (.kn (oL (oL (oQ T.C))) (lseenM (colsM g m') n')), some (.kn (oL (oQ T.C)) (lshares (colsM g m'))), none, some (.kn (oL (oN T.C)) fu), none, none, none, some (.ow q (oN T.C) (liftM m' (fu.take k))), none, none, none, none]
    refine sv_for G1 (piv_seq (pvS (pv_var (i := 10) (r := oL (oN T.C)) (d := fu) rfl))) (pg_name (i := 15) sc110.nd rfl (.inl rfl)) tg_name (Le.rf _) (fun Bs i hi d hd => ?_) ?_
    · refine sv_extend (i := 14) (q := q) (r := oN T.C) (ds := liftM m' (fu.take i)) (zs := List.replicate m' d) rfl (pv_rep m' (pv_list (pvl_cons (pv_var (i := 15) (r := oN T.C) (d := d) rfl) pvl_nil)) (pv_len (pvS (pv_ix 0 (pvS (pv_var (i := 1) (r := oL (oL (oN T.C))) (d := g) rfl)) pv_int rfl (getD_at hr0))) T.b_len) (by rw [m0]) (by omega)) (by have := lk i; rw [List.length_replicate]; omega) ?_
      have es : liftM m' (fu.take i) ++ List.replicate m' d = liftM m' (fu.take (i + 1)) := by
        unfold liftM
        rw [List.take_add_one, hd, List.map_append, List.flatten_append]
        simp
      rw [es]
      exact sv_end (.keep (.keep (.keep (.keep (.keep (.keep (.keep (.keep (.keep (.skip (.keep (.skip (.skip (.skip (.keep (.skip (.skip (.skip (.skip .nil)))))))))))))))))))
    · have hf := h.fn fu fl fq
      refine sv_freeze (i := 14) (q := q) (r := oN T.C) (ds := liftM m' (fu.take fu.length)) rfl ?_
      refine sv_ifret (q := false) (PVT.to (pt_neQ (q' := worthM (rawM g) fu) R (hr.mono (by decide)) (pv_error (CW := CW) (ds := liftM m' (fu.take fu.length)) c13 (hr.mono (by decide)) (pvw_call1 c14 (hr.mono (by decide)) (p1 := fun z => z = g) (d := scanW g) (pvSS (pv_var (i := 1) (r := oL (oL (oN T.C))) (d := g) rfl)) fun d' hd' => ⟨by rw [hd']; exact ⟨_, _, h.scan⟩, by rw [hd']⟩) (pvS (pv_var (i := 14) (r := oL (oN T.C)) (d := liftM m' (fu.take fu.length)) rfl)) (by rw [List.take_length]; exact hf.lft)) (pv_call2 c10 (hr.mono (by decide)) (p1 := fun z => z = rawM g) (p2 := fun z => z = fu) (Pq := fun z => z = worthM (rawM g) fu) (pv_var (i := 3) (r := oL (oL (oQ T.C))) (d := rawM g) rfl) (pv_var (i := 10) (r := oL (oN T.C)) (d := fu) rfl) fun x y ex ey => ⟨by rw [ex, ey]; exact hf.w1, fun z hz => by rw [hz, ex, ey]⟩)) (by rw [List.take_length, hf.lw]; simp)) (fun h => nomatch h) fun _ => ?_
      refine sv_set (i := 16) (r := oL (oN T.C)) (P := fun z => ∃ one, Nm one ∧ z = List.replicate n' one) ?_ (fun z hz => ?_) sc110.nd
      · exact (pv_repP n' (pv_list1P (P := Nm) (pv_pot0 c15 (hr.mono (by decide)) rfl hp (pv_var (i := 0) (r := oV) (d := .ref pa) rfl))) (pv_len (pvS (pv_var (i := 1) (r := oL (oL (oN T.C))) (d := g) rfl)) T.b_len) (by rw [gl]) (by omega))
      · obtain ⟨one, hn1, ez⟩ := hz
        subst ez
        have ho := h.one one hn1
        exact sv_retE (r := oB) (PV.to (pv_and2 (pv_eqQ R (hr.mono (by decide)) (pv_call2 c10 (hr.mono (by decide)) (p1 := fun z => z = rawM g) (p2 := fun z => z = List.replicate n' one) (Pq := fun z => z = (0 : Rat)) (pv_var (i := 3) (r := oL (oL (oQ T.C))) (d := rawM g) rfl) (pv_var (i := 16) (r := oL (oN T.C)) (d := List.replicate n' one) rfl) fun x y ex ey => ⟨by rw [ex, ey]; exact ho.1, fun z hz => by rw [hz, ex, ey]; exact ho.2.2.1⟩) (PV.to (pv_mk1 Rm (hr.mono (by decide)) (pv_int (i := 0))) rfl)) fun _ => pv_eqQ R (hr.mono (by decide)) (pv_call2 c10 (hr.mono (by decide)) (p1 := fun z => z = givenM g) (p2 := fun z => z = List.replicate n' one) (Pq := fun z => z = (0 : Rat)) (pv_var (i := 4) (r := oL (oL (oQ T.C))) (d := givenM g) rfl) (pv_var (i := 16) (r := oL (oN T.C)) (d := List.replicate n' one) rfl) fun x y ex ey => ⟨by rw [ex, ey]; exact ho.2.1, fun z hz => by rw [hz, ex, ey]; exact ho.2.2.2⟩) (PV.to (pv_mk1 Rm (hr.mono (by decide)) (pv_int (i := 0))) rfl)) (by simp)) rfl rfl rfl rfl
end
end Wk

end
section
set_option Elab.async false
set_option linter.all false
set_option maxRecDepth 100000
set_option maxHeartbeats 2000000
set_option exponentiation.threshold 100000
/-! the law. -/
namespace Wk
open PySem PySem.Spec PyProof.Rows L2 Ru RZ Rp
open Hd (top)
/-- the script: a list of ints read -/
def spLaw (K : PySem.W.Frag) : Sp := fun vs H Q _ => ∃ (a : Addr) (ns : List Int), vs = [.ref a] ∧ SqL K H a (ns.map V.int) ∧ ∀ H', Q (.bl true) H'
section
variable {P : Program} {w : World} {K : PySem.W.Frag} {mg : Str → Option Value} {base : Heap} {f : Addr} {fd : FuncData}
theorem sc111 : FnScope ["_law_script"] ["_law_script"] (defScope (top 111)) := ⟨rfl, rfl, rfl, by decide +kernel, rfl, by decide +kernel, by decide +kernel⟩
theorem ok_law (F : FunD K "law" "law" (defArgs (top 111)) (defBody (top 111)) (defScope (top 111)) [] [] f fd) (c1 : Ca P w K mg base 1 "_law_pot" (S_pot K)) (c2 : Ca P w K mg base 13 "_law_right" S_right) : FnOk P w K mg base CX0 14 f fd ["_law_script"] (spLaw K) := by
  refine F.ok sc111 (fun vs H Q E h => ?_) (fun cdv A outer s H vs Q E hr h => ⟨_, PSs.nox (pss_one (ps_ret (pe_ca c2 hr (pa_cons (pe_ca c1 (hr.mono (by decide)) (pa_cons (pe_var (i := 0) rfl (.inl rfl)) (pa_cons pe_int pa_nil))) pa_nil)))), ?_⟩)
  · obtain ⟨a, ns, rfl, _⟩ := h
    rfl
  · obtain ⟨a, ns, rfl, hS, hQ⟩ := h
    refine ⟨.ref a, rfl, a, ns, rfl, hS, fun p x y hp hx hy1 hy2 => ?_⟩
    refine ⟨p, H, rfl, Ext.upd hp, hp, ⟨x, y, hx, ⟨hy1, hy2⟩, upd_same⟩, fun u z B' H' g hr hz => ?_⟩
    have e : u = .bl z := hr
    rw [e, hz]
    exact hQ H'
end
end Wk

end
section
set_option maxHeartbeats 400000
set_option Elab.async false
set_option linter.all false
set_option maxRecDepth 100000
set_option exponentiation.threshold 100000
/-! The plain law: bounds by a common denominator. -/
namespace Pl
open Wk Ma
theorem memAt {α : Type} {l : List α} {i : Nat} {d : α} (h : i < l.length) : l.getD i d ∈ l := by
  rw [List.getD_eq_getElem?_getD, List.getElem?_eq_getElem h]; exact List.getElem_mem h
theorem getD_mem {α : Type} {l : List α} {x : α} (d : α) (h : x ∈ l) : ∃ i, i < l.length ∧ l.getD i d = x := by
  obtain ⟨i, hi, e⟩ := List.getElem_of_mem h
  exact ⟨i, hi, by rw [List.getD_eq_getElem?_getD, List.getElem?_eq_getElem hi]; exact e⟩
theorem extD {α : Type} {l l' : List α} (d : α) (h : l.length = l'.length) (e : ∀ i, i < l.length → l.getD i d = l'.getD i d) : l = l' := by
  refine List.ext_getElem h fun i h1 h2 => ?_
  have := e i h1
  rw [List.getD_eq_getElem?_getD, List.getD_eq_getElem?_getD, List.getElem?_eq_getElem h1, List.getElem?_eq_getElem h2] at this
  exact this
theorem getD_map {α β : Type} {l : List α} {f : α → β} {i : Nat} {d : α} {d' : β} (h : i < l.length) : (l.map f).getD i d' = f (l.getD i d) := by
  rw [List.getD_eq_getElem?_getD, List.getD_eq_getElem?_getD, List.getElem?_map, List.getElem?_eq_getElem h]; rfl
theorem getD_mapR {β : Type} {n : Nat} {f : Nat → β} {i : Nat} {d' : β} (h : i < n) : ((List.range n).map f).getD i d' = f i := by
  rw [List.getD_eq_getElem?_getD, List.getElem?_map, List.getElem?_range h]; rfl
theorem getD_zw {α β γ : Type} {l : List α} {l' : List β} {f : α → β → γ} {i : Nat} {d : α} {d' : β} {d2 : γ} (h : i < l.length) (h' : i < l'.length) : (List.zipWith f l l').getD i d2 = f (l.getD i d) (l'.getD i d') := by
  rw [List.getD_eq_getElem?_getD, List.getD_eq_getElem?_getD, List.getD_eq_getElem?_getD, List.getElem?_zipWith, List.getElem?_eq_getElem h, List.getElem?_eq_getElem h']; rfl
theorem getD_take {α : Type} {l : List α} {i k : Nat} {d : α} (h : i < k) : (l.take k).getD i d = l.getD i d := by
  rw [List.getD_eq_getElem?_getD, List.getD_eq_getElem?_getD, List.getElem?_take, if_pos h]

/-- q is z / D, z at most 2 ^ b -/
def Cb (D b : Nat) (q : Rat) : Prop := ∃ z : Int, q * ((D : Int) : Rat) = (z : Rat) ∧ z.natAbs ≤ 2 ^ b
def Db (D e : Nat) : Prop := 0 < D ∧ D ≤ 2 ^ e
theorem Db.mul {D e E f : Nat} (h : Db D e) (h' : Db E f) : Db (D * E) (e + f) := ⟨Nat.mul_pos h.1 h'.1, by rw [Nat.pow_add]; exact Nat.mul_le_mul h.2 h'.2⟩
theorem Db.mono {D e f : Nat} (h : Db D e) (l : e ≤ f) : Db D f := ⟨h.1, Nat.le_trans h.2 (Nat.pow_le_pow_right (by decide) l)⟩
section
variable {D E b c e : Nat} {x y : Rat}
theorem Cb.mono (h : Cb D b x) (l : b ≤ c) : Cb D c x := by
  obtain ⟨z, h1, h2⟩ := h
  exact ⟨z, h1, Nat.le_trans h2 (Nat.pow_le_pow_right (by decide) l)⟩
theorem cb_zero : Cb D b 0 := ⟨0, by simp, by simp⟩
theorem Cb.add (h : Cb D b x) (h' : Cb D b y) : Cb D (b + 1) (x + y) := by
  obtain ⟨z, h1, h2⟩ := h
  obtain ⟨z', h3, h4⟩ := h'
  refine ⟨z + z', by rw [Rat.intCast_add, ← h1, ← h3]; grind, ?_⟩
  rw [Nat.pow_succ]
  have := Int.natAbs_add_le z z'
  omega
theorem Cb.sub (h : Cb D b x) (h' : Cb D b y) : Cb D (b + 1) (x - y) := by
  obtain ⟨z, h1, h2⟩ := h
  obtain ⟨z', h3, h4⟩ := h'
  refine ⟨z - z', by rw [Rat.intCast_sub, ← h1, ← h3]; grind, ?_⟩
  rw [Nat.pow_succ]
  have := Int.natAbs_sub_le z z'
  omega
theorem Cb.mul (h : Cb D b x) (h' : Cb E c y) : Cb (D * E) (b + c) (x * y) := by
  obtain ⟨z, h1, h2⟩ := h
  obtain ⟨z', h3, h4⟩ := h'
  refine ⟨z * z', by rw [Rat.intCast_mul, ← h1, ← h3, Int.natCast_mul, Rat.intCast_mul]; grind, ?_⟩
  rw [Int.natAbs_mul, Nat.pow_add]
  exact Nat.mul_le_mul h2 h4
/-- times the other denominator -/
theorem Cb.up (h : Cb D b x) (h' : Db E e) : Cb (D * E) (b + e) x := by
  obtain ⟨z, h1, h2⟩ := h
  refine ⟨z * (E : Int), by rw [Rat.intCast_mul, ← h1, Int.natCast_mul, Rat.intCast_mul]; grind, ?_⟩
  rw [Int.natAbs_mul, Int.natAbs_natCast, Nat.pow_add]
  exact Nat.mul_le_mul h2 h'.2
theorem cb_sm {n : Nat} {f : Nat → Rat} (h : ∀ i, i < n → Cb D b (f i)) : ∃ z : Int, sm n f * ((D : Int) : Rat) = (z : Rat) ∧ z.natAbs ≤ n * 2 ^ b := by
  induction n with
  | zero => exact ⟨0, by simp [sm], by simp⟩
  | succ n ih =>
    obtain ⟨z, h1, h2⟩ := ih fun i hi => h i (by omega)
    obtain ⟨z', h3, h4⟩ := h n (by omega)
    refine ⟨z + z', ?_, ?_⟩
    · show (sm n f + f n) * _ = _
      rw [Rat.intCast_add, ← h1, ← h3]; grind
    · have := Int.natAbs_add_le z z'
      rw [Nat.add_mul, Nat.one_mul]
      omega
theorem Cb.sm {n : Nat} {f : Nat → Rat} (h : ∀ i, i < n → Cb D b (f i)) (hn : n ≤ 8) : Cb D (b + 3) (sm n f) := by
  obtain ⟨z, h1, h2⟩ := cb_sm h
  refine ⟨z, h1, Nat.le_trans h2 ?_⟩
  rw [Nat.pow_add, Nat.mul_comm]
  exact Nat.mul_le_mul_left _ hn
theorem Cb.sm64 {n : Nat} {f : Nat → Rat} (h : ∀ i, i < n → Cb D b (f i)) (hn : n ≤ 64) : Cb D (b + 6) (Ma.sm n f) := by
  obtain ⟨z, h1, h2⟩ := cb_sm h
  refine ⟨z, h1, Nat.le_trans h2 ?_⟩
  rw [Nat.pow_add, Nat.mul_comm]
  exact Nat.mul_le_mul_left _ hn
/-- its denominator goes into D, its numerator into z -/
theorem Cb.dvd (h : Cb D b x) (h0 : 0 < D) : x.den ∣ D ∧ x.num.natAbs ≤ 2 ^ b := by
  obtain ⟨z, h1, h2⟩ := h
  have e0 : x = (x.num : Rat) / ((x.den : Int) : Rat) := by
    rw [← Rat.divInt_eq_div]; exact (Rat.num_divInt_den x).symm
  have hd : ((x.den : Int) : Rat) ≠ 0 := fun z => x.den_nz (by have : ((x.den : Int) : Rat) = ((0 : Int) : Rat) := z; rw [Rat.intCast_inj] at this; omega)
  have e1 : (x.num : Rat) = x * ((x.den : Int) : Rat) := by
    have := Rat.div_mul_cancel (a := (x.num : Rat)) hd
    rw [← e0] at this
    exact this.symm
  have e2 : x.num * (D : Int) = z * (x.den : Int) := by
    rw [← Rat.intCast_inj, Rat.intCast_mul, Rat.intCast_mul, ← h1, e1]; grind
  have e3 : x.num.natAbs * D = z.natAbs * x.den := by
    have := congrArg Int.natAbs e2
    rwa [Int.natAbs_mul, Int.natAbs_mul, Int.natAbs_natCast, Int.natAbs_natCast] at this
  have e4 : x.den ∣ D := Nat.Coprime.dvd_of_dvd_mul_left (m := x.num.natAbs) x.reduced.symm ⟨z.natAbs, by rw [e3, Nat.mul_comm]⟩
  refine ⟨e4, ?_⟩
  obtain ⟨k, hk⟩ := e4
  rw [hk] at e3 h0
  have hk0 : 0 < k := Nat.pos_of_ne_zero fun z => by rw [z] at h0; omega
  have e5 : x.num.natAbs * k = z.natAbs := by
    have hdp : 0 < x.den := x.den_pos
    have : x.den * (x.num.natAbs * k) = x.den * z.natAbs := by rw [Nat.mul_left_comm, e3, Nat.mul_comm]
    exact Nat.eq_of_mul_eq_mul_left hdp this
  calc x.num.natAbs ≤ x.num.natAbs * k := Nat.le_mul_of_pos_right _ hk0
    _ = z.natAbs := e5
    _ ≤ 2 ^ b := h2
theorem Cb.fit (h : Cb D b x) (hD : Db D e) (he : e < 4500) (hb : b < 4500) : Fit x := by
  obtain ⟨h1, h2⟩ := h.dvd hD.1
  exact ⟨Nat.lt_of_le_of_lt h2 (Nat.pow_lt_pow_right (by decide) hb), Nat.lt_of_le_of_lt (Nat.le_trans (Nat.le_of_dvd hD.1 h1) hD.2) (Nat.pow_lt_pow_right (by decide) he)⟩
end
/-! ### sums of lists -/
theorem sumQ_snoc (ds : List Rat) (d : Rat) : sumQ (ds ++ [d]) = sumQ ds + d := by unfold sumQ; rw [List.foldl_append]; rfl
theorem sumQ_take (ds : List Rat) : ∀ i, i ≤ ds.length → sumQ (ds.take i) = sm i fun k => ds.getD k 0
  | 0, _ => by rw [List.take_zero]; rfl
  | i + 1, h => by
    have hi : i < ds.length := h
    rw [List.take_add_one, List.getElem?_eq_getElem hi]
    show sumQ (ds.take i ++ [ds[i]]) = _
    rw [sumQ_snoc, sumQ_take ds i (by omega)]
    show _ = sm i _ + ds.getD i 0
    rw [List.getD_eq_getElem?_getD, List.getElem?_eq_getElem hi]; rfl
theorem sumQ_sm (ds : List Rat) : sumQ ds = sm ds.length fun k => ds.getD k 0 := by
  have := sumQ_take ds ds.length (Nat.le_refl _)
  rwa [List.take_length] at this
theorem sumQ_map (n : Nat) (f : Nat → Rat) : sumQ ((List.range n).map f) = sm n f := by
  rw [sumQ_sm, List.length_map, List.length_range]
  exact sm_congr fun i hi => getD_mapR hi
theorem prods_len {near far : List Rat} (h : far.length = near.length) : (prods near far).length = near.length := by unfold prods; rw [List.length_zipWith, h, Nat.min_self]
theorem prods_at {near far : List Rat} (h : far.length = near.length) {i : Nat} (hi : i < near.length) : (prods near far).getD i 0 = near.getD i 0 * far.getD i 0 := getD_zw hi (by omega)
theorem dotM_sm {near far : List Rat} (h : far.length = near.length) : dotM near far = sm near.length fun i => near.getD i 0 * far.getD i 0 := by
  unfold dotM
  rw [sumQ_sm, prods_len h]
  exact sm_congr fun i hi => prods_at h hi
/-! ### lists of numbers with a common denominator -/
def CbL (D b : Nat) (ds : List Rat) : Prop := ∀ i, i < ds.length → Cb D b (ds.getD i 0)
section
variable {D E b c e f : Nat} {ds near far : List Rat}
theorem CbL.mem (h : CbL D b ds) : ∀ d ∈ ds, Cb D b d := fun d hd => by
  obtain ⟨i, hi, e⟩ := getD_mem 0 hd
  rw [← e]; exact h i hi
theorem CbL.fits (h : CbL D b ds) (hD : Db D e) (he : e < 4500) (hb : b < 4500) : ∀ d ∈ ds, Fit d := fun d hd => (h.mem d hd).fit hD he hb
theorem CbL.fitL (h : CbL D b ds) (hn : ds.length ≤ 8) (hD : Db D e) (he : e < 4500) (hb : b + 3 < 4500) : FitL ds := by
  refine ⟨h.fits hD he (by omega), fun i hi => ?_⟩
  rw [sumQ_take ds i hi]
  exact (Cb.sm (fun k hk => h k (by omega)) (by omega)).fit hD he hb
theorem CbL.prods (h : CbL D b near) (h' : CbL E c far) (hl : far.length = near.length) : CbL (D * E) (b + c) (prods near far) := fun i hi => by
  rw [prods_len hl] at hi
  rw [prods_at hl hi]
  exact (h i hi).mul (h' i (by omega))
theorem CbL.dot (h : CbL D b near) (h' : CbL E c far) (hl : far.length = near.length) (hn : near.length ≤ 8) : Cb (D * E) (b + c + 3) (dotM near far) := by
  rw [dotM_sm hl]
  exact Cb.sm (fun i hi => (h i hi).mul (h' i (by omega))) hn
theorem CbL.dotOk (h : CbL D b near) (h' : CbL E c far) (hl : far.length = near.length) (hn : near.length ≤ 8) (hD : Db D e) (hE : Db E f) (k1 : e + f < 4500) (k2 : b + c + 3 < 4500) : DotOk near far where
  f1 := h.fits hD (by omega) (by omega)
  f2 := h'.fits hE (by omega) (by omega)
  l1 := by omega
  sum := (h.prods h' hl).fitL (by rw [prods_len hl]; exact hn) (hD.mul hE) k1 k2
/-! ### common bottoms -/
theorem lcmD_snoc (ds : List Rat) (d : Rat) : lcmD (ds ++ [d]) = Nat.lcm (lcmD ds) d.den := by unfold lcmD; rw [List.foldl_append]; rfl
theorem lcmD_take : ∀ i, i ≤ ds.length → (∀ d ∈ ds, d.den ∣ D) → lcmD (ds.take i) ∣ D
  | 0, _, _ => by rw [List.take_zero]; exact Nat.one_dvd _
  | i + 1, h, hd => by
    have hi : i < ds.length := h
    rw [List.take_add_one, List.getElem?_eq_getElem hi]
    show lcmD (ds.take i ++ [ds[i]]) ∣ D
    rw [lcmD_snoc]
    exact Nat.lcm_dvd (lcmD_take i (by omega) hd) (hd _ (List.getElem_mem hi))
theorem den_lcmD : ∀ i, i ≤ ds.length → ∀ k, k < i → (ds.getD k 0).den ∣ lcmD (ds.take i)
  | 0, _, k, hk => by omega
  | i + 1, h, k, hk => by
    have hi : i < ds.length := h
    have e0 : ds.getD i 0 = ds[i] := by rw [List.getD_eq_getElem?_getD, List.getElem?_eq_getElem hi]; rfl
    rw [List.take_add_one, List.getElem?_eq_getElem hi]
    show _ ∣ lcmD (ds.take i ++ [ds[i]])
    rw [lcmD_snoc]
    by_cases e : k = i
    · subst e; rw [e0]; exact Nat.dvd_lcm_right _ _
    · exact Nat.dvd_trans (den_lcmD i (by omega) k (by omega)) (Nat.dvd_lcm_left _ _)
theorem lcmD_pos : ∀ i, i ≤ ds.length → 0 < lcmD (ds.take i)
  | 0, _ => by rw [List.take_zero]; exact Nat.one_pos
  | i + 1, h => by
    have hi : i < ds.length := h
    rw [List.take_add_one, List.getElem?_eq_getElem hi]
    show 0 < lcmD (ds.take i ++ [ds[i]])
    rw [lcmD_snoc]
    exact Nat.lcm_pos (lcmD_pos i (by omega)) (ds[i]).den_pos
theorem CbL.lcm (h : CbL D b ds) (h0 : 0 < D) : lcmD ds ∣ D := by
  have := lcmD_take (ds := ds) (D := D) ds.length (Nat.le_refl _) fun d hd => ((h.mem d hd).dvd h0).1
  rwa [List.take_length] at this
theorem lcm_pos : 0 < lcmD ds := by
  have := lcmD_pos (ds := ds) ds.length (Nat.le_refl _)
  rwa [List.take_length] at this
theorem CbL.whOk (h : CbL D b ds) (hD : Db D e) (hn : ds.length ≤ 900) (he : e < 4500) (hb : b < 4500) : WhOk ds where
  fit := h.fits hD he hb
  len := hn
  lcm := fun i hi => Nat.lt_of_le_of_lt (Nat.le_of_dvd hD.1 (lcmD_take i hi fun d hd => ((h.mem d hd).dvd hD.1).1)) (Nat.lt_of_le_of_lt hD.2 (Nat.pow_lt_pow_right (by decide) (by omega)))
/-- each times the common bottom -/
theorem whI_at {i : Nat} (hi : i < ds.length) : (((whI ds).getD i 0 : Int) : Rat) = ds.getD i 0 * ((lcmD ds : Int) : Rat) := by
  unfold whI
  rw [getD_map (d := 0) hi]
  generalize hq : ds.getD i 0 = q
  have hd : q.den ∣ lcmD ds := by
    have := den_lcmD (ds := ds) ds.length (Nat.le_refl _) i hi
    rw [List.take_length, hq] at this
    exact this
  obtain ⟨k, hk⟩ := hd
  have dp : ((q.den : Int)) ≠ 0 := by have := q.den_pos; omega
  rw [hk, Int.natCast_mul, Int.mul_ediv_cancel_left _ dp, Rat.intCast_mul, Rat.intCast_mul]
  have e0 : q = (q.num : Rat) / ((q.den : Int) : Rat) := by
    rw [← Rat.divInt_eq_div]; exact (Rat.num_divInt_den q).symm
  have hd : ((q.den : Int) : Rat) ≠ 0 := fun z => dp (by have : ((q.den : Int) : Rat) = ((0 : Int) : Rat) := z; rwa [Rat.intCast_inj] at this)
  have e1 := Rat.div_mul_cancel (a := (q.num : Rat)) hd
  rw [← e0] at e1
  rw [← e1]; grind
theorem whI_len : (whI ds).length = ds.length := by unfold whI; rw [List.length_map]
/-- at most 2 ^ b -/
theorem CbL.whB (h : CbL D b ds) (h0 : 0 < D) : ∀ n ∈ whI ds, n.natAbs ≤ 2 ^ b := fun n hn => by
  obtain ⟨i, hi, e⟩ := getD_mem 0 hn
  rw [whI_len] at hi
  obtain ⟨z, h1, h2⟩ := h i hi
  obtain ⟨k, hk⟩ := h.lcm h0
  have e1 := whI_at hi
  rw [e] at e1
  have e2 : n * (k : Int) = z := by
    rw [← Rat.intCast_inj, Rat.intCast_mul, e1, ← h1, hk, Int.natCast_mul, Rat.intCast_mul]; grind
  have hk0 : 0 < k := Nat.pos_of_ne_zero fun z => by rw [hk, z] at h0; omega
  have e3 : n.natAbs * k = z.natAbs := by rw [← e2, Int.natAbs_mul, Int.natAbs_natCast]
  calc n.natAbs ≤ n.natAbs * k := Nat.le_mul_of_pos_right _ hk0
    _ = z.natAbs := e3
    _ ≤ 2 ^ b := h2
theorem CbL.dsOk (h : CbL D b near) (h' : CbL E c far) (hD : Db D e) (hE : Db E f) (l1 : near.length ≤ 900) (l2 : far.length ≤ 900) (ke : e < 4500) (kf : f < 4500) (kb : b < 4500) (kc : c < 4500) : DsOk near far where
  w1 := h.whOk hD l1 ke kb
  w2 := h'.whOk hE l2 kf kc
  p1 := lcm_pos
  p2 := lcm_pos
  l1 := Nat.lt_of_le_of_lt (Nat.le_trans (Nat.le_of_dvd hD.1 (h.lcm hD.1)) hD.2) (Nat.pow_lt_pow_right (by decide) ke)
  l2 := Nat.lt_of_le_of_lt (Nat.le_trans (Nat.le_of_dvd hE.1 (h'.lcm hE.1)) hE.2) (Nat.pow_lt_pow_right (by decide) kf)
  b1 := fun n hn => Nat.lt_of_le_of_lt (h.whB hD.1 n hn) (Nat.pow_lt_pow_right (by decide) kb)
  b2 := fun n hn => Nat.lt_of_le_of_lt (h'.whB hE.1 n hn) (Nat.pow_lt_pow_right (by decide) kc)
end
theorem isum_take (l : List Int) : ∀ i, i ≤ l.length → (((l.take i).sum : Int) : Rat) = sm i fun k => ((l.getD k 0 : Int) : Rat)
  | 0, _ => by rw [List.take_zero]; rfl
  | i + 1, h => by
    have hi : i < l.length := h
    rw [List.take_add_one, List.getElem?_eq_getElem hi]
    show (((l.take i ++ [l[i]]).sum : Int) : Rat) = _
    rw [List.sum_append, Rat.intCast_add, isum_take l i (by omega)]
    show _ = sm i _ + ((l.getD i 0 : Int) : Rat)
    rw [List.getD_eq_getElem?_getD (i := i), List.getElem?_eq_getElem hi]
    simp
/-- a sum of ints -/
theorem isum (l : List Int) : ((l.sum : Int) : Rat) = sm l.length fun k => ((l.getD k 0 : Int) : Rat) := by
  have := isum_take l l.length (Nat.le_refl _)
  rwa [List.take_length] at this
/-- the program's own dot is the dot -/
theorem dsM_eq {near far : List Rat} (h : far.length = near.length) : dsM near far = dotM near far := by
  have p1 : (((lcmD near : Nat) : Int) : Rat) ≠ 0 := fun z => by
    have : (((lcmD near : Nat) : Int) : Rat) = ((0 : Int) : Rat) := z
    rw [Rat.intCast_inj] at this
    have := lcm_pos (ds := near)
    omega
  have p2 : (((lcmD far : Nat) : Int) : Rat) ≠ 0 := fun z => by
    have : (((lcmD far : Nat) : Int) : Rat) = ((0 : Int) : Rat) := z
    rw [Rat.intCast_inj] at this
    have := lcm_pos (ds := far)
    omega
  unfold dsM
  rw [isum, dotM_sm h]
  have hl : (prodI (whI near) (whI far)).length = near.length := by unfold prodI; rw [List.length_zipWith, whI_len, whI_len, h, Nat.min_self]
  rw [hl, sm_congr (g := fun i => near.getD i 0 * far.getD i 0 * ((lcmD near : Int) * (lcmD far : Int) : Int)) fun i hi => by
    unfold prodI
    rw [getD_zw (d := 0) (d' := 0) (by rw [whI_len]; exact hi) (by rw [whI_len]; omega), Rat.intCast_mul, whI_at hi, whI_at (by omega), Rat.intCast_mul]; grind]
  rw [sm_mulR, Rat.intCast_mul]
  generalize sm near.length (fun i => near.getD i 0 * far.getD i 0) = s
  grind
end Pl

end
section
set_option maxHeartbeats 400000
set_option Elab.async false
set_option linter.all false
set_option maxRecDepth 100000
set_option exponentiation.threshold 100000
/-! The plain law: the program's steps. -/
namespace Pl
open Wk Ma
/-- a row of ints times a list of numbers -/
def ip (N : Nat) (r : List Int) (z : Nat → Rat) : Rat := sm N fun k => ((r.getD k 0 : Int) : Rat) * z k
theorem gcdL_dvd (row : List Int) : ∀ c : Nat, (row.foldl (fun c n => Nat.gcd c n.natAbs) c) ∣ c ∧ ∀ n ∈ row, (row.foldl (fun c n => Nat.gcd c n.natAbs) c) ∣ n.natAbs := by
  induction row with
  | nil => exact fun c => ⟨Nat.dvd_refl _, fun n h => nomatch h⟩
  | cons a t ih =>
    intro c
    obtain ⟨h1, h2⟩ := ih (Nat.gcd c a.natAbs)
    refine ⟨Nat.dvd_trans h1 (Nat.gcd_dvd_left _ _), fun n hn => ?_⟩
    rcases List.mem_cons.mp hn with e | e
    · rw [e]; exact Nat.dvd_trans h1 (Nat.gcd_dvd_right _ _)
    · exact h2 n e
theorem bare_len (row : List Int) : (bareM row).length = row.length := by unfold bareM; split <;> simp
theorem bare_mul (row : List Int) : ∃ c : Int, 0 < c ∧ ∀ k, row.getD k 0 = c * (bareM row).getD k 0 := by
  unfold bareM
  by_cases h : 1 < gcdL row
  · rw [if_pos h]
    refine ⟨(gcdL row : Int), by omega, fun k => ?_⟩
    by_cases hk : k < row.length
    · rw [getD_map (d := 0) hk]
      have hd : ((gcdL row : Nat) : Int) ∣ row.getD k 0 := Int.ofNat_dvd_left.mpr ((gcdL_dvd row 0).2 _ (memAt hk))
      exact (Int.mul_ediv_cancel' hd).symm
    · rw [List.getD_eq_getElem?_getD, List.getD_eq_getElem?_getD, List.getElem?_eq_none (by omega), List.getElem?_eq_none (by rw [List.length_map]; omega)]
      simp
  · rw [if_neg h]
    exact ⟨1, by decide, fun k => by rw [Int.one_mul]⟩
theorem abs_le_mul {a b c : Int} (hc : c ≠ 0) (h : a = c * b) : b.natAbs ≤ a.natAbs := by
  rw [h, Int.natAbs_mul]
  exact Nat.le_mul_of_pos_left _ (Int.natAbs_pos.mpr hc)
def Le2 (b : Nat) (row : List Int) : Prop := ∀ k, (row.getD k 0).natAbs ≤ 2 ^ b
theorem le2_of {b : Nat} {row : List Int} (h : ∀ n ∈ row, n.natAbs ≤ 2 ^ b) : Le2 b row := fun k => by
  by_cases hk : k < row.length
  · exact h _ (memAt hk)
  · rw [List.getD_eq_getElem?_getD, List.getElem?_eq_none (by omega)]; simp
theorem Le2.bd {b c : Nat} {row : List Int} (h : Le2 b row) (hc : b < c) : Bd c row := fun n hn => by
  obtain ⟨i, _, e⟩ := getD_mem 0 hn
  rw [← e]
  exact Nat.lt_of_le_of_lt (h i) (Nat.pow_lt_pow_right (by decide) hc)
theorem Le2.mono {b c : Nat} {row : List Int} (h : Le2 b row) (hc : b ≤ c) : Le2 c row := fun k => Nat.le_trans (h k) (Nat.pow_le_pow_right (by decide) hc)
theorem head_len (row : List Int) (n : Nat) : (headM row n).length = row.length := by unfold headM; split <;> simp [bare_len]
/-- the head: a part of its row, its number at the place above 0 -/
theorem head_mul (row : List Int) (n : Nat) : ∃ c : Int, c ≠ 0 ∧ (∀ k, row.getD k 0 = c * (headM row n).getD k 0) ∧ (row.getD n 0 ≠ 0 → 0 < (headM row n).getD n 0) := by
  obtain ⟨c, c0, h⟩ := bare_mul row
  unfold headM
  by_cases e : 0 < (bareM row).getD n 0
  · rw [if_pos e]
    exact ⟨c, by omega, h, fun _ => e⟩
  · rw [if_neg e]
    have g : ∀ k, ((bareM row).map fun x => 0 - x).getD k 0 = 0 - (bareM row).getD k 0 := fun k => by
      by_cases hk : k < (bareM row).length
      · rw [getD_map (d := 0) hk]
      · rw [List.getD_eq_getElem?_getD, List.getD_eq_getElem?_getD, List.getElem?_eq_none (by rw [List.length_map]; omega), List.getElem?_eq_none (by omega)]; rfl
    refine ⟨-c, by omega, fun k => by rw [g, h k]; grind, fun hn => ?_⟩
    rw [g]
    have : (bareM row).getD n 0 ≠ 0 := fun z => hn (by rw [h n, z, Int.mul_zero])
    omega
theorem head_le {b : Nat} {row : List Int} (h : Le2 b row) (n : Nat) : Le2 b (headM row n) := fun k => by
  obtain ⟨c, c0, e, _⟩ := head_mul row n
  exact Nat.le_trans (abs_le_mul c0 (e k)) (h k)
theorem cleared_len {row head : List Int} (h : head.length = row.length) (n : Nat) : (clearedM row head n).length = row.length := by
  unfold clearedM
  split
  · rfl
  · rw [bare_len, List.length_zipWith, h, Nat.min_self]
/-- cleared: a part of so much of the row less so much of the head -/
theorem cleared_mul {row head : List Int} (h : head.length = row.length) {n : Nat} (hh : 0 < head.getD n 0) : ∃ c a b : Int, 0 < c ∧ 0 < a ∧ (∀ k, c * (clearedM row head n).getD k 0 = a * row.getD k 0 - b * head.getD k 0) ∧ (clearedM row head n).getD n 0 = 0 := by
  unfold clearedM
  by_cases e : row.getD n 0 = 0
  · rw [if_pos e]
    exact ⟨1, 1, 0, by decide, by decide, fun k => by grind, e⟩
  · rw [if_neg e]
    obtain ⟨c, c0, q⟩ := bare_mul (List.zipWith (fun near far => head.getD n 0 * near - row.getD n 0 * far) row head)
    have g : ∀ k, (List.zipWith (fun near far => head.getD n 0 * near - row.getD n 0 * far) row head).getD k 0 = head.getD n 0 * row.getD k 0 - row.getD n 0 * head.getD k 0 := fun k => by
      by_cases hk : k < row.length
      · exact getD_zw hk (by omega)
      · rw [List.getD_eq_getElem?_getD, List.getElem?_eq_none (by rw [List.length_zipWith]; omega), List.getD_eq_getElem?_getD (l := row) (i := k), List.getElem?_eq_none (l := row) (by omega), List.getD_eq_getElem?_getD (l := head) (i := k), List.getElem?_eq_none (l := head) (by omega)]
        simp
    refine ⟨c, head.getD n 0, row.getD n 0, c0, hh, fun k => by rw [← q k, g k], ?_⟩
    have := q n
    rw [g n] at this
    have z : c * (bareM (List.zipWith (fun near far => head.getD n 0 * near - row.getD n 0 * far) row head)).getD n 0 = 0 := by rw [← this]; grind
    rcases Int.mul_eq_zero.mp z with y | y
    · omega
    · exact y
theorem cleared_le {b : Nat} {row head : List Int} (h : head.length = row.length) (hb : Le2 b row) (hb' : Le2 b head) (n : Nat) : Le2 (2 * b + 1) (clearedM row head n) := fun k => by
  unfold clearedM
  by_cases e : row.getD n 0 = 0
  · rw [if_pos e]; exact hb.mono (by omega) k
  · rw [if_neg e]
    obtain ⟨c, c0, q⟩ := bare_mul (List.zipWith (fun near far => head.getD n 0 * near - row.getD n 0 * far) row head)
    refine Nat.le_trans (abs_le_mul (by omega) (q k)) ?_
    by_cases hk : k < row.length
    · rw [getD_zw (d := 0) (d' := 0) hk (by omega)]
      refine Nat.le_trans (Int.natAbs_sub_le _ _) ?_
      rw [Int.natAbs_mul, Int.natAbs_mul]
      have h1 := Nat.mul_le_mul (hb' n) (hb k)
      have h2 := Nat.mul_le_mul (hb n) (hb' k)
      rw [Nat.pow_succ, Nat.two_mul, Nat.pow_add]
      omega
    · rw [List.getD_eq_getElem?_getD, List.getElem?_eq_none (by rw [List.length_zipWith]; omega)]; simp
theorem ip_mul {N : Nat} {r r' : List Int} {c : Int} (z : Nat → Rat) (h : ∀ k, r.getD k 0 = c * r'.getD k 0) : ip N r z = (c : Rat) * ip N r' z := by
  unfold ip
  rw [← sm_mul]
  exact sm_congr fun k _ => by rw [h k, Rat.intCast_mul]; grind
theorem ip_lin {N : Nat} {r r' r2 : List Int} {c a b : Int} (z : Nat → Rat) (h : ∀ k, c * r'.getD k 0 = a * r.getD k 0 - b * r2.getD k 0) : (c : Rat) * ip N r' z = (a : Rat) * ip N r z - (b : Rat) * ip N r2 z := by
  unfold ip
  rw [← sm_mul, ← sm_mul, ← sm_mul, ← sm_sub]
  exact sm_congr fun k _ => by
    have := congrArg (fun z : Int => (z : Rat)) (h k)
    simp only [Rat.intCast_mul, Rat.intCast_sub] at this
    grind
theorem castne {c : Int} (h : c ≠ 0) : (c : Rat) ≠ 0 := fun z => h (by have : (c : Rat) = ((0 : Int) : Rat) := z; rwa [Rat.intCast_inj] at this)
theorem ip_cleared {N : Nat} {row head : List Int} (h : head.length = row.length) {n : Nat} (hh : 0 < head.getD n 0) (z : Nat → Rat) (hz : ip N head z = 0) : ip N (clearedM row head n) z = 0 ↔ ip N row z = 0 := by
  obtain ⟨c, a, b, c0, a0, e, _⟩ := cleared_mul h hh
  have q := ip_lin (N := N) z e
  rw [hz] at q
  have hc := castne (c := c) (by omega)
  have ha := castne (c := a) (by omega)
  constructor
  · intro y; rw [y] at q; grind
  · intro y; rw [y] at q; grind
/-- how the bits rise -/
def bt (b : Nat) : Nat → Nat
  | 0 => b
  | i + 1 => 2 * bt b i + 1
structure StI (rows : Mi) (n N b i : Nat) (s : Mi × Mi) : Prop where
  ll : s.1.length = n - i
  fl : s.2.length = i
  lw : ∀ r ∈ s.1, r.length = N
  fw : ∀ r ∈ s.2, r.length = N
  ker : ∀ z, ((∀ r ∈ s.1, ip N r z = 0) ∧ ∀ r ∈ s.2, ip N r z = 0) ↔ ∀ r ∈ rows, ip N r z = 0
  lz : ∀ r ∈ s.1, ∀ k, k < i → r.getD k 0 = 0
  fz : ∀ j, j < i → ∀ k, k < i → k ≠ j → (s.2.getD j []).getD k 0 = 0
  fd : ∀ j, j < i → 0 < (s.2.getD j []).getD j 0
  lb : ∀ r ∈ s.1, Le2 (bt b i) r
  fb : ∀ r ∈ s.2, Le2 (bt b i) r
theorem split_at {α : Type} {l : List α} {a : Nat} (h : a < l.length) (d : α) : l = l.take a ++ l.getD a d :: l.drop (a + 1) := by
  have e : l.getD a d = l[a] := by rw [List.getD_eq_getElem?_getD, List.getElem?_eq_getElem h]; rfl
  rw [e, ← List.drop_eq_getElem_cons h, List.take_append_drop]
theorem mem_split {α : Type} {l : List α} {a : Nat} (h : a < l.length) (d x : α) : x ∈ l ↔ x = l.getD a d ∨ x ∈ l.take a ++ l.drop (a + 1) := by
  have e := split_at h d
  constructor
  · intro hx
    rw [e] at hx
    rcases List.mem_append.mp hx with y | y
    · exact .inr (List.mem_append.mpr (.inl y))
    · rcases List.mem_cons.mp y with y | y
      · exact .inl y
      · exact .inr (List.mem_append.mpr (.inr y))
  · rintro (y | y)
    · rw [y]; exact memAt h
    · rcases List.mem_append.mp y with y | y
      · exact List.mem_of_mem_take y
      · exact List.mem_of_mem_drop y
theorem sm_two {n i j : Nat} (hi : i < n) (hj : j < n) (x y : Rat) : sm n (fun k => (if k = i then x else 0) + (if k = j then y else 0)) = x + y := by
  rw [sm_add]
  have h1 := sm_delta hi fun _ => x
  have h2 := sm_delta hj fun _ => y
  rw [h1, h2]
section
variable {rows : Mi} {n N b : Nat}
/-- not 0 where not all is 0 -/
theorem pivot (hN : n ≤ N) (NS : ∀ z : Nat → Rat, (∀ k, n ≤ k → z k = 0) → (∀ r ∈ rows, ip N r z = 0) → ∀ k, k < n → z k = 0) {i : Nat} (hi : i < n) {s : Mi × Mi} (I : StI rows n N b i s) : ∃ a, s.1.findIdx? (nz i) = some a := by
  cases q : s.1.findIdx? (nz i) with
  | some a => exact ⟨a, rfl⟩
  | none =>
    exfalso
    have h0 : ∀ r ∈ s.1, r.getD i 0 = 0 := fun r hr => by
      have := List.findIdx?_eq_none_iff.mp q r hr
      unfold nz at this
      simpa using this
    let z : Nat → Rat := fun k => if k = i then 1 else if k < i then - (((s.2.getD k []).getD i 0 : Int) : Rat) / (((s.2.getD k []).getD k 0 : Int) : Rat) else 0
    have zi : z i = 1 := if_pos rfl
    have zg : ∀ k, i < k → z k = 0 := fun k hk => by show ite _ _ _ = _; rw [if_neg (by omega), if_neg (by omega)]
    have zl : ∀ k, k < i → z k = - (((s.2.getD k []).getD i 0 : Int) : Rat) / (((s.2.getD k []).getD k 0 : Int) : Rat) := fun k hk => by show ite _ _ _ = _; rw [if_neg (by omega), if_pos hk]
    have k1 := (I.ker z).mp ⟨fun r hr => by
      unfold ip
      rw [sm_congr (g := fun _ => 0) fun k _ => ?_, sm_zero]
      rcases Nat.lt_trichotomy k i with h | h | h
      · rw [I.lz r hr k h]; grind
      · rw [h, h0 r hr]; grind
      · rw [zg k h]; grind, fun r hr => by
      obtain ⟨j, hj, e⟩ := getD_mem [] hr
      rw [I.fl] at hj
      have fd := I.fd j hj
      have fz := I.fz j hj
      have zj := zl j hj
      rw [e] at fd fz zj
      have hd := castne (c := r.getD j 0) (by omega)
      unfold ip
      rw [sm_congr (g := fun k => (if k = j then -((r.getD i 0 : Int) : Rat) else 0) + (if k = i then ((r.getD i 0 : Int) : Rat) else 0)) fun k _ => ?_, sm_two (by omega) (by omega)]
      · grind
      · rcases Nat.lt_trichotomy k i with h | h | h
        · rw [if_neg (show k ≠ i by omega)]
          by_cases ej : k = j
          · subst ej
            rw [if_pos rfl, zj]
            have := Rat.div_mul_cancel (a := -((r.getD i 0 : Int) : Rat)) hd
            grind
          · rw [if_neg ej, fz k h ej]; grind
        · rw [h, if_pos rfl, if_neg (by omega), zi]; grind
        · rw [zg k h, if_neg (by omega), if_neg (by omega)]; grind⟩
    have k2 := NS z (fun k hk => zg k (by omega)) k1 i hi
    rw [zi] at k2
    exact absurd k2 (by decide)
theorem st_step (hN : n ≤ N) (NS : ∀ z : Nat → Rat, (∀ k, n ≤ k → z k = 0) → (∀ r ∈ rows, ip N r z = 0) → ∀ k, k < n → z k = 0) {i : Nat} (hi : i < n) {s : Mi × Mi} (I : StI rows n N b i s) : StI rows n N b (i + 1) (stepM s i) := by
  obtain ⟨a, ha⟩ := pivot hN NS hi I
  obtain ⟨L, F⟩ := s
  have hal : a < L.length ∧ (L.getD a []).getD i 0 ≠ 0 := by
    obtain ⟨h, h1, _⟩ := List.findIdx?_eq_some_iff_getElem.mp ha
    refine ⟨h, ?_⟩
    have e : L.getD a [] = L[a] := by rw [List.getD_eq_getElem?_getD, List.getElem?_eq_getElem h]; rfl
    rw [e]
    unfold nz at h1
    simpa using h1
  obtain ⟨al, an⟩ := hal
  have es : stepM (L, F) i = ((L.take a ++ L.drop (a + 1)).map fun r => clearedM r (headM (L.getD a []) i) i, (F.map fun r => clearedM r (headM (L.getD a []) i) i) ++ [headM (L.getD a []) i]) := by
    unfold stepM
    dsimp only
    rw [ha]
  rw [es]
  have mrow := memAt (d := []) al
  have hrl := I.lw _ mrow
  have hrz := I.lz _ mrow
  have hrb := I.lb _ mrow
  generalize hrow : L.getD a [] = row at *
  obtain ⟨c, c0, hm, hp⟩ := head_mul row i
  have hp := hp an
  have hhl : (headM row i).length = N := by rw [head_len, hrl]
  have hhz : ∀ k, k < i → (headM row i).getD k 0 = 0 := fun k hk => by
    have := hm k
    rw [hrz k hk] at this
    rcases Int.mul_eq_zero.mp this.symm with y | y
    · exact absurd y c0
    · exact y
  have hhb := head_le hrb i
  have mems : ∀ r ∈ L.take a ++ L.drop (a + 1), r ∈ L := fun r hr => by
    rcases List.mem_append.mp hr with y | y
    · exact List.mem_of_mem_take y
    · exact List.mem_of_mem_drop y
  have hip : ∀ z, ip N (headM row i) z = 0 ↔ ip N row z = 0 := fun z => by
    have q := ip_mul (N := N) z hm
    have := castne c0
    constructor
    · intro y; rw [q, y]; grind
    · intro y; rw [y] at q; grind
  generalize headM row i = hd at *
  refine ⟨?_, ?_, ?_, ?_, ?_, ?_, ?_, ?_, ?_, ?_⟩
  · show (List.map _ _).length = _
    rw [List.length_map, List.length_append, List.length_take, List.length_drop]
    have := I.ll
    dsimp only at this
    omega
  · show ((F.map fun r => clearedM r hd i) ++ [hd]).length = _
    rw [List.length_append, List.length_map, I.fl]; rfl
  · intro r hr
    obtain ⟨r', hr', e⟩ := List.mem_map.mp hr
    have := I.lw r' (mems r' hr')
    rw [← e, cleared_len (by rw [hhl, this]), this]
  · intro r hr
    rcases List.mem_append.mp hr with y | y
    · obtain ⟨r', hr', e⟩ := List.mem_map.mp y
      have := I.fw r' hr'
      rw [← e, cleared_len (by rw [hhl, this]), this]
    · rw [List.mem_singleton.mp y]; exact hhl
  · intro z
    rw [← I.ker z]
    have hcl : ∀ r, r.length = N → ip N hd z = 0 → (ip N (clearedM r hd i) z = 0 ↔ ip N r z = 0) := fun r hr h0 => ip_cleared (by rw [hhl, hr]) hp z h0
    constructor
    · rintro ⟨h1, h2⟩
      have h0 : ip N hd z = 0 := h2 hd (List.mem_append.mpr (.inr (List.mem_singleton.mpr rfl)))
      refine ⟨fun r hr => ?_, fun r hr => ?_⟩
      · rcases (mem_split al [] r).mp hr with y | y
        · rw [y, hrow]; exact (hip z).mp h0
        · exact (hcl r (I.lw r hr) h0).mp (h1 _ (List.mem_map.mpr ⟨r, y, rfl⟩))
      · exact (hcl r (I.fw r hr) h0).mp (h2 _ (List.mem_append.mpr (.inl (List.mem_map.mpr ⟨r, hr, rfl⟩))))
    · rintro ⟨h1, h2⟩
      have h0 : ip N hd z = 0 := (hip z).mpr (h1 row mrow)
      refine ⟨fun r hr => ?_, fun r hr => ?_⟩
      · obtain ⟨r', hr', e⟩ := List.mem_map.mp hr
        rw [← e]
        exact (hcl r' (I.lw r' (mems r' hr')) h0).mpr (h1 r' (mems r' hr'))
      · rcases List.mem_append.mp hr with y | y
        · obtain ⟨r', hr', e⟩ := List.mem_map.mp y
          rw [← e]
          exact (hcl r' (I.fw r' hr') h0).mpr (h2 r' hr')
        · rw [List.mem_singleton.mp y]; exact h0
  · intro r hr k hk
    obtain ⟨r', hr', e⟩ := List.mem_map.mp hr
    have hw := I.lw r' (mems r' hr')
    obtain ⟨c', a', b', c1, a1, e1, e2⟩ := cleared_mul (row := r') (head := hd) (by rw [hhl, hw]) hp
    rw [← e]
    by_cases ek : k = i
    · rw [ek]; exact e2
    · have := e1 k
      rw [I.lz r' (mems r' hr') k (by omega), hhz k (by omega)] at this
      have z : c' * (clearedM r' hd i).getD k 0 = 0 := by rw [this]; grind
      rcases Int.mul_eq_zero.mp z with y | y
      · omega
      · exact y
  · intro j hj k hk hkj
    by_cases ej : j = i
    · have e : ((F.map fun r => clearedM r hd i) ++ [hd]).getD j [] = hd := by
        rw [List.getD_eq_getElem?_getD, List.getElem?_append_right (by rw [List.length_map, I.fl]; omega), List.length_map, I.fl, ej, Nat.sub_self]; rfl
      rw [e]
      exact hhz k (by omega)
    · have hjl : j < F.length := by rw [I.fl]; omega
      have e : ((F.map fun r => clearedM r hd i) ++ [hd]).getD j [] = clearedM (F.getD j []) hd i := by
        rw [List.getD_eq_getElem?_getD, List.getElem?_append_left (by rw [List.length_map]; exact hjl), ← List.getD_eq_getElem?_getD, getD_map (d := []) hjl]
      rw [e]
      have hw := I.fw _ (memAt (d := []) hjl)
      obtain ⟨c', a', b', c1, a1, e1, e2⟩ := cleared_mul (row := F.getD j []) (head := hd) (by rw [hhl, hw]) hp
      by_cases ek : k = i
      · rw [ek]; exact e2
      · have := e1 k
        have fz := I.fz j (by omega) k (by omega) hkj
        dsimp only at fz
        rw [fz, hhz k (by omega)] at this
        have z : c' * (clearedM (F.getD j []) hd i).getD k 0 = 0 := by rw [this]; grind
        rcases Int.mul_eq_zero.mp z with y | y
        · omega
        · exact y
  · intro j hj
    by_cases ej : j = i
    · have e : ((F.map fun r => clearedM r hd i) ++ [hd]).getD j [] = hd := by
        rw [List.getD_eq_getElem?_getD, List.getElem?_append_right (by rw [List.length_map, I.fl]; omega), List.length_map, I.fl, ej, Nat.sub_self]; rfl
      rw [e, ej]
      exact hp
    · have hjl : j < F.length := by rw [I.fl]; omega
      have e : ((F.map fun r => clearedM r hd i) ++ [hd]).getD j [] = clearedM (F.getD j []) hd i := by
        rw [List.getD_eq_getElem?_getD, List.getElem?_append_left (by rw [List.length_map]; exact hjl), ← List.getD_eq_getElem?_getD, getD_map (d := []) hjl]
      rw [e]
      have hw := I.fw _ (memAt (d := []) hjl)
      obtain ⟨c', a', b', c1, a1, e1, e2⟩ := cleared_mul (row := F.getD j []) (head := hd) (by rw [hhl, hw]) hp
      have := e1 j
      rw [hhz j (by omega)] at this
      have fd := I.fd j (by omega)
      dsimp only at fd
      have p : 0 < c' * (clearedM (F.getD j []) hd i).getD j 0 := by
        rw [this, Int.mul_zero, Int.sub_zero]
        exact Int.mul_pos a1 fd
      exact Int.pos_of_mul_pos_right p (by omega)
  · intro r hr
    obtain ⟨r', hr', e⟩ := List.mem_map.mp hr
    rw [← e]
    exact cleared_le (by rw [hhl, I.lw r' (mems r' hr')]) (I.lb r' (mems r' hr')) hhb i
  · intro r hr
    rcases List.mem_append.mp hr with y | y
    · obtain ⟨r', hr', e⟩ := List.mem_map.mp y
      rw [← e]
      exact cleared_le (by rw [hhl, I.fw r' hr']) (I.fb r' hr') hhb i
    · rw [List.mem_singleton.mp y]
      exact hhb.mono (by show _ ≤ 2 * _ + 1; omega)
end
end Pl

end
section
set_option maxHeartbeats 400000
set_option Elab.async false
set_option linter.all false
set_option maxRecDepth 100000
set_option exponentiation.threshold 100000
/-! The plain law: the program's inverse. -/
namespace Pl
open Wk Ma
theorem sm_split (n m : Nat) (f : Nat → Rat) : sm (n + m) f = sm n f + sm m fun k => f (n + k) := by
  induction m with
  | zero => show sm n f = _; simp only [sm]; grind
  | succ m ih =>
    show sm (n + m) f + f (n + m) = _
    rw [ih]
    simp only [sm]; grind
theorem stM_succ (rows : Mi) (i : Nat) : Wk.stM rows (i + 1) = stepM (Wk.stM rows i) i := by unfold Wk.stM; rw [List.range_succ, List.foldl_append]; rfl
theorem bt_mono (b : Nat) : ∀ {i n : Nat}, i ≤ n → bt b i ≤ bt b n := fun {i n} h => by
  induction n with
  | zero => rw [Nat.le_zero.mp h]; exact Nat.le_refl _
  | succ n ih =>
    by_cases e : i = n + 1
    · rw [e]; exact Nat.le_refl _
    · have := ih (by omega)
      show _ ≤ 2 * bt b n + 1
      omega
section
variable {rows : Mi} {n N b : Nat}
theorem st_all (hl : rows.length = n) (hw : ∀ r ∈ rows, r.length = N) (hb : ∀ r ∈ rows, Le2 b r) (hN : n ≤ N) (NS : ∀ z : Nat → Rat, (∀ k, n ≤ k → z k = 0) → (∀ r ∈ rows, ip N r z = 0) → ∀ k, k < n → z k = 0) : ∀ i, i ≤ n → StI rows n N b i (Wk.stM rows i) := fun i => by
  induction i with
  | zero => exact fun _ => ⟨hl, rfl, hw, (fun r h => nomatch h), fun z => ⟨fun h => h.1, fun h => ⟨h, (fun r h => nomatch h)⟩⟩, fun r _ k h => absurd h (by omega), fun j h => absurd h (by omega), fun j h => absurd h (by omega), hb, (fun r h => nomatch h)⟩
  | succ i ih =>
    intro h
    rw [stM_succ]
    exact st_step hN NS (by omega) (ih (by omega))
theorem st_const (h : (Wk.stM rows n).1 = []) : ∀ k, Wk.stM rows (n + k) = Wk.stM rows n := fun k => by
  induction k with
  | zero => rfl
  | succ k ih =>
    rw [← Nat.add_assoc, stM_succ, ih]
    unfold stepM
    rw [h]; rfl
end
theorem hdIx_of {row : List Int} {j : Nat} (hj : j < row.length) (h0 : row.getD j 0 ≠ 0) (hz : ∀ k, k < j → row.getD k 0 = 0) : hdIx row = j := by
  unfold hdIx
  refine (List.findIdx_eq hj).mpr ⟨?_, fun k hk => ?_⟩
  · rw [List.getD_eq_getElem?_getD, List.getElem?_eq_getElem hj] at h0
    simpa using h0
  · have := hz k hk
    rw [List.getD_eq_getElem?_getD, List.getElem?_eq_getElem (by omega)] at this
    simpa using this
theorem unit_len (n : Nat) : (unitM n).length = n := by unfold unitM; rw [List.length_map, List.length_range]
theorem aug_len {A : Mq} : (augM A).length = A.length := by unfold augM; rw [List.length_zipWith, unit_len, Nat.min_self]
theorem aug_at {A : Mq} {i : Nat} (hi : i < A.length) : (augM A).getD i [] = A.getD i [] ++ (List.range A.length).map fun j => if i = j then (1 : Rat) else 0 := by
  unfold augM
  rw [getD_zw (d := []) (d' := []) hi (by rw [unit_len]; exact hi)]
  unfold unitM
  rw [getD_mapR hi]
/-- a square table of n rows -/
structure Sq (n : Nat) (A : Mq) : Prop where
  len : A.length = n
  wide : ∀ r ∈ A, r.length = n
theorem Sq.row {n : Nat} {A : Mq} (S : Sq n A) {i : Nat} (hi : i < n) : (A.getD i []).length = n := S.wide _ (memAt (by rw [S.len]; exact hi))
section
variable {A : Mq} {n : Nat}
theorem augr_len (S : Sq n A) {i : Nat} (hi : i < n) : ((augM A).getD i []).length = 2 * n := by
  rw [aug_at (by rw [S.len]; exact hi), List.length_append, S.row hi, List.length_map, List.length_range, S.len]; omega
theorem augr_l (S : Sq n A) {i : Nat} (hi : i < n) {k : Nat} (hk : k < n) : ((augM A).getD i []).getD k 0 = at2 A i k := by
  rw [aug_at (by rw [S.len]; exact hi), List.getD_eq_getElem?_getD, List.getElem?_append_left (by rw [S.row hi]; exact hk), ← List.getD_eq_getElem?_getD]; rfl
theorem augr_r (S : Sq n A) {i : Nat} (hi : i < n) {k : Nat} (hk : k < n) : ((augM A).getD i []).getD (n + k) 0 = if i = k then 1 else 0 := by
  rw [aug_at (by rw [S.len]; exact hi), List.getD_eq_getElem?_getD, List.getElem?_append_right (by rw [S.row hi]; omega), S.row hi, Nat.add_sub_cancel_left, ← List.getD_eq_getElem?_getD, S.len, getD_mapR hk]
theorem whI_ip {ds : List Rat} (z : Nat → Rat) : ip ds.length (whI ds) z = ((lcmD ds : Int) : Rat) * sm ds.length fun k => ds.getD k 0 * z k := by
  unfold ip
  rw [← sm_mul]
  exact sm_congr fun k hk => by rw [whI_at hk]; grind
theorem lcm_ne (ds : List Rat) : ((lcmD ds : Int) : Rat) ≠ 0 := castne (by have := lcm_pos (ds := ds); omega)
theorem ker_aug (S : Sq n A) (z : Nat → Rat) : (∀ r ∈ (augM A).map whI, ip (2 * n) r z = 0) ↔ ∀ i, i < n → (sm n fun k => at2 A i k * z k) + z (n + i) = 0 := by
  have key : ∀ i, i < n → (ip (2 * n) (whI ((augM A).getD i [])) z = 0 ↔ (sm n fun k => at2 A i k * z k) + z (n + i) = 0) := fun i hi => by
    have e := whI_ip (ds := (augM A).getD i []) z
    rw [augr_len S hi] at e
    have e2 : (sm (2 * n) fun k => ((augM A).getD i []).getD k 0 * z k) = (sm n fun k => at2 A i k * z k) + z (n + i) := by
      rw [Nat.two_mul, sm_split]
      congr 1
      · exact sm_congr fun k hk => by rw [augr_l S hi hk]
      · rw [sm_congr (g := fun k => if k = i then z (n + k) else 0) fun k hk => by
          rw [augr_r S hi hk]
          by_cases e : k = i
          · rw [if_pos e, if_pos e.symm]; grind
          · rw [if_neg e, if_neg (fun h => e h.symm)]; grind]
        exact sm_delta hi fun k => z (n + k)
    rw [e2] at e
    have := lcm_ne ((augM A).getD i [])
    constructor
    · intro y; rw [y] at e; grind
    · intro y; rw [y] at e; grind
  constructor
  · intro h i hi
    exact (key i hi).mp (h _ (List.mem_map.mpr ⟨_, memAt (by rw [aug_len, S.len]; exact hi), rfl⟩))
  · intro h r hr
    obtain ⟨a, ha, e⟩ := List.mem_map.mp hr
    obtain ⟨i, hi, e2⟩ := getD_mem [] ha
    rw [aug_len, S.len] at hi
    rw [← e, ← e2]
    exact (key i hi).mpr (h i hi)
/-- all numbers of a table -/
def CbM (D b : Nat) (A : Mq) : Prop := ∀ r ∈ A, CbL D b r
theorem aug_cb {D b : Nat} (S : Sq n A) (h : CbM D b A) (hD : Db D b) : ∀ r ∈ augM A, r.length = 2 * n ∧ CbL D b r := fun r hr => by
  obtain ⟨i, hi, e⟩ := getD_mem [] hr
  rw [aug_len, S.len] at hi
  rw [← e]
  refine ⟨augr_len S hi, fun k hk => ?_⟩
  rw [augr_len S hi] at hk
  by_cases c : k < n
  · rw [augr_l S hi c]
    exact h _ (memAt (by rw [S.len]; exact hi)) k (by rw [S.row hi]; exact c)
  · have e : k = n + (k - n) := by omega
    rw [e, augr_r S hi (by omega)]
    split
    · exact ⟨(D : Int), by simp, by rw [Int.natAbs_natCast]; exact hD.2⟩
    · exact cb_zero
/-- what is to hold of a whole table -/
structure InvE (n B : Nat) (A : Mq) : Prop where
  ok : InvOk A
  sq : Sq n (invM A)
  inv : IsInv n (at2 A) (at2 (invM A))
  cb : ∀ j, j < n → ∃ h, Db h B ∧ ∀ k, k < n → Cb h B (at2 (invM A) j k)
theorem inv_all {D b : Nat} (S : Sq n A) (h1 : 1 ≤ n) (h6 : n ≤ 6) (h : CbM D b A) (hD : Db D b) (hb : bt b n < 4400) (NS : ∀ x : Nat → Rat, (∀ i, i < n → (sm n fun k => at2 A i k * x k) = 0) → ∀ k, k < n → x k = 0) : InvE n (bt b n) A := by
  have bb : b < 4400 := Nat.lt_of_le_of_lt (bt_mono b (Nat.zero_le n)) hb
  have ac := aug_cb S h hD
  generalize hR : (augM A).map whI = rows
  have hl : rows.length = n := by rw [← hR, List.length_map, aug_len, S.len]
  have hw : ∀ r ∈ rows, r.length = 2 * n := fun r hr => by
    rw [← hR] at hr
    obtain ⟨a, ha, e⟩ := List.mem_map.mp hr
    rw [← e, whI_len]; exact (ac a ha).1
  have hle : ∀ r ∈ rows, Le2 b r := fun r hr => by
    rw [← hR] at hr
    obtain ⟨a, ha, e⟩ := List.mem_map.mp hr
    rw [← e]
    exact le2_of ((ac a ha).2.whB hD.1)
  have ker : ∀ z : Nat → Rat, (∀ r ∈ rows, ip (2 * n) r z = 0) ↔ ∀ i, i < n → (sm n fun k => at2 A i k * z k) + z (n + i) = 0 := fun z => by rw [← hR]; exact ker_aug S z
  have NS2 : ∀ z : Nat → Rat, (∀ k, n ≤ k → z k = 0) → (∀ r ∈ rows, ip (2 * n) r z = 0) → ∀ k, k < n → z k = 0 := fun z hz hk => by
    refine NS z fun i hi => ?_
    have := (ker z).mp hk i hi
    rw [hz (n + i) (by omega)] at this
    grind
  have I := st_all hl hw hle (by omega : n ≤ 2 * n) NS2
  have In := I n (Nat.le_refl _)
  have e0 : (Wk.stM rows n).1 = [] := List.eq_nil_of_length_eq_zero (by rw [In.ll]; omega)
  have cst := st_const e0
  have at_ : ∀ i, i ≤ 2 * n → ∃ j, j ≤ n ∧ Wk.stM rows i = Wk.stM rows j ∧ (i < n → j = i) ∧ (n ≤ i → j = n) := fun i hi => by
    by_cases c : i ≤ n
    · exact ⟨i, c, rfl, fun _ => rfl, fun h => by omega⟩
    · refine ⟨n, Nat.le_refl _, ?_, fun h => by omega, fun _ => rfl⟩
      have := cst (i - n)
      rwa [Nat.add_sub_cancel' (by omega)] at this
  have es : solvedM A = (Wk.stM rows n).2 := by
    unfold solvedM
    rw [hR, S.len, Nat.two_mul, cst]
  generalize hF : (Wk.stM rows n).2 = F at *
  have Ffl := In.fl; have Ffw := In.fw; have Ffz := In.fz; have Ffd := In.fd; have Ffb := In.fb; have Fk := In.ker
  rw [hF] at Ffl Ffw Ffz Ffd Ffb Fk
  rw [e0] at Fk
  have fget : ∀ j, j < n → (F.getD j []).length = 2 * n ∧ hdIx (F.getD j []) = j := fun j hj => by
    have hw := Ffw _ (memAt (d := []) (by rw [Ffl]; exact hj))
    refine ⟨hw, hdIx_of (by rw [hw]; omega) (by have := Ffd j hj; omega) fun k hk => Ffz j hj k (by omega) (by omega)⟩
  have ok : InvOk A := by
    refine ⟨by rw [S.len]; omega, fun r hr => by rw [S.len]; exact S.wide r hr, fun r hr => (ac r hr).2.whOk hD (by rw [(ac r hr).1]; omega) (by omega) (by omega), ?_, by rw [es, S.len]; exact Ffl, fun i hi => ?_, fun r hr => ?_⟩
    · rw [hR, S.len]
      refine ⟨fun z => by rw [z] at hl; simp at hl; omega, by omega, fun i hi => ?_, fun i hi r hr => ?_, fun i hi r hr => ?_⟩
      · obtain ⟨j, hj, e, _⟩ := at_ i hi
        rw [e, (I j hj).ll, (I j hj).fl]; omega
      · obtain ⟨j, hj, e, _⟩ := at_ i hi
        rw [e] at hr
        have bj := bt_mono b hj
        rcases hr with y | y
        · exact ⟨(I j hj).lw r y, ((I j hj).lb r y).bd (by omega)⟩
        · exact ⟨(I j hj).fw r y, ((I j hj).fb r y).bd (by omega)⟩
      · obtain ⟨j, hj, e, _⟩ := at_ i (by omega)
        rw [e] at hr
        have bj := bt_mono b hj
        exact (head_le ((I j hj).lb r hr) i).bd (by omega)
    · rw [S.len] at hi
      rw [es]
      have := Ffd i hi
      omega
    · rw [es] at hr
      obtain ⟨j, hj, e⟩ := getD_mem [] hr
      rw [Ffl] at hj
      obtain ⟨g1, g2⟩ := fget j hj
      rw [e] at g1 g2
      rw [g1, g2, S.len]
      exact ⟨by omega, rfl, (Ffb r hr).bd (by omega)⟩
  have gi : ∀ j, j < n → (invM A).getD j [] = (toldM (F.getD j [])).drop n := fun j hj => by
    unfold invM
    rw [es, getD_map (d := []) (by rw [Ffl]; exact hj), S.len]
  have gl : ∀ j, j < n → ((toldM (F.getD j [])).drop n).length = n := fun j hj => by
    rw [List.length_drop]; unfold toldM; rw [List.length_map, (fget j hj).1]; omega
  have ga : ∀ j k, j < n → k < n → at2 (invM A) j k = (((F.getD j []).getD (n + k) 0 : Int) : Rat) / (((F.getD j []).getD j 0 : Int) : Rat) := fun j k hj hk => by
    unfold at2
    rw [gi j hj, List.getD_eq_getElem?_getD, List.getElem?_drop, ← List.getD_eq_getElem?_getD]
    unfold toldM
    rw [getD_map (d := 0) (by rw [(fget j hj).1]; omega), (fget j hj).2]
  refine ⟨ok, ⟨by unfold invM; rw [es, List.length_map, Ffl], fun r hr => ?_⟩, fun x b => ?_, fun j hj => ?_⟩
  · obtain ⟨j, hj, e⟩ := getD_mem [] hr
    have hj' : j < n := by have : (invM A).length = n := by unfold invM; rw [es, List.length_map, Ffl]
                           omega
    rw [← e, gi j hj', gl j hj']
  · let z : Nat → Rat := fun k => if k < n then x k else - b (k - n)
    have z1 : ∀ k, k < n → z k = x k := fun k hk => if_pos hk
    have z2 : ∀ k, z (n + k) = - b k := fun k => by show ite _ _ _ = _; rw [if_neg (by omega), Nat.add_sub_cancel_left]
    have k1 := (Fk z).trans (ker z)
    have l1 : (∀ i, i < n → (sm n fun k => at2 A i k * z k) + z (n + i) = 0) ↔ ∀ i, i < n → sm n (fun k => at2 A i k * x k) = b i := by
      have e : ∀ i, (sm n fun k => at2 A i k * z k) = sm n fun k => at2 A i k * x k := fun i => sm_congr fun k hk => by rw [z1 k hk]
      constructor
      · intro h i hi
        have := h i hi
        rw [e, z2] at this
        grind
      · intro h i hi
        rw [e, z2, h i hi]; grind
    have l2 : ((∀ r ∈ ([] : Mi), ip (2 * n) r z = 0) ∧ ∀ r ∈ F, ip (2 * n) r z = 0) ↔ ∀ i, i < n → x i = sm n (fun k => at2 (invM A) i k * b k) := by
      have row : ∀ j, j < n → (ip (2 * n) (F.getD j []) z = 0 ↔ x j = sm n (fun k => at2 (invM A) j k * b k)) := fun j hj => by
        have hne := castne (c := (F.getD j []).getD j 0) (by have := Ffd j hj; omega)
        have e1 : ip (2 * n) (F.getD j []) z = (((F.getD j []).getD j 0 : Int) : Rat) * x j - (((F.getD j []).getD j 0 : Int) : Rat) * sm n (fun k => at2 (invM A) j k * b k) := by
          unfold ip
          rw [Nat.two_mul, sm_split, ← sm_mul]
          rw [sm_congr (f := fun k => (((F.getD j []).getD k 0 : Int) : Rat) * z k) (g := fun k => if k = j then (((F.getD j []).getD j 0 : Int) : Rat) * x j else 0) fun k hk => by
            by_cases e : k = j
            · rw [e, if_pos rfl, z1 j hj]
            · rw [if_neg e, Ffz j hj k hk e]; grind]
          rw [sm_delta hj (fun _ => (((F.getD j []).getD j 0 : Int) : Rat) * x j)]
          rw [sm_congr (f := fun k => (((F.getD j []).getD (n + k) 0 : Int) : Rat) * z (n + k)) (g := fun k => (-1) * ((((F.getD j []).getD j 0 : Int) : Rat) * (at2 (invM A) j k * b k))) fun k hk => by
            rw [z2, ga j k hj hk]
            have := Rat.div_mul_cancel (a := (((F.getD j []).getD (n + k) 0 : Int) : Rat)) hne
            grind]
          rw [sm_mul]; grind
        rw [e1]
        constructor
        · intro y
          have : (((F.getD j []).getD j 0 : Int) : Rat) * (x j - sm n (fun k => at2 (invM A) j k * b k)) = 0 := by grind
          rcases Rat.mul_eq_zero.mp this with y | y
          · exact absurd y hne
          · grind
        · intro y; rw [← y]; grind
      constructor
      · intro h i hi
        exact (row i hi).mp (h.2 _ (memAt (by rw [Ffl]; exact hi)))
      · intro h
        refine ⟨(fun r hr => nomatch hr), fun r hr => ?_⟩
        obtain ⟨j, hj, e⟩ := getD_mem [] hr
        rw [Ffl] at hj
        rw [← e]
        exact (row j hj).mpr (h j hj)
    exact l1.symm.trans (k1.symm.trans l2)
  · have fd := Ffd j hj
    have fb := Ffb _ (memAt (d := []) (by rw [Ffl]; exact hj))
    have e : (((F.getD j []).getD j 0).natAbs : Int) = (F.getD j []).getD j 0 := by omega
    refine ⟨((F.getD j []).getD j 0).natAbs, ⟨by omega, fb j⟩, fun k hk => ⟨(F.getD j []).getD (n + k) 0, ?_, fb _⟩⟩
    rw [ga j k hj hk, e]
    exact Rat.div_mul_cancel (castne (by omega))
end
end Pl

end
section
set_option maxHeartbeats 400000
set_option Elab.async false
set_option linter.all false
set_option maxRecDepth 100000
set_option exponentiation.threshold 100000
/-! The plain law: the law's own elimination. -/
namespace Pl
open Wk Ma
/-- of so many bits -/
def Sz (b : Nat) (q : Rat) : Prop := ∃ D, Db D b ∧ Cb D b q
section
variable {b c : Nat} {x y : Rat}
theorem Sz.mono (h : Sz b x) (l : b ≤ c) : Sz c x := by
  obtain ⟨D, h1, h2⟩ := h
  exact ⟨D, h1.mono l, h2.mono l⟩
theorem Sz.fit (h : Sz b x) (l : b < 4500) : Fit x := by
  obtain ⟨D, h1, h2⟩ := h
  exact h2.fit h1 l l
theorem Sz.mul (h : Sz b x) (h' : Sz c y) : Sz (b + c) (x * y) := by
  obtain ⟨D, h1, h2⟩ := h
  obtain ⟨E, h3, h4⟩ := h'
  exact ⟨D * E, h1.mul h3, h2.mul h4⟩
theorem Sz.sub (h : Sz b x) (h' : Sz c y) : Sz (b + c + 1) (x - y) := by
  obtain ⟨D, h1, h2⟩ := h
  obtain ⟨E, h3, h4⟩ := h'
  have k := h4.up h1
  rw [Nat.mul_comm E D, Nat.add_comm c b] at k
  exact ⟨D * E, (h1.mul h3).mono (by omega), (h2.up h3).sub k⟩
theorem Sz.div (h : Sz b x) (h' : Sz c y) (h0 : y ≠ 0) : Sz (b + c) (x / y) := by
  obtain ⟨D, h1, z, h2, h2'⟩ := h
  obtain ⟨E, h3, z', h4, h4'⟩ := h'
  have dn : ((D : Int) : Rat) ≠ 0 := castne (by have := h1.1; omega)
  have en : ((E : Int) : Rat) ≠ 0 := castne (by have := h3.1; omega)
  have zn : z' ≠ 0 := fun e => by
    rw [e] at h4
    rcases Rat.mul_eq_zero.mp h4 with k | k
    · exact h0 k
    · exact en k
  have zq := castne zn
  have q : x / y * ((D : Int) : Rat) * (z' : Rat) = (z : Rat) * ((E : Int) : Rat) := by
    rw [← h4, ← h2]
    have := Rat.div_mul_cancel (a := x) h0
    grind
  rcases Int.lt_trichotomy z' 0 with l | l | l
  · refine ⟨D * z'.natAbs, ⟨Nat.mul_pos h1.1 (by omega), by rw [Nat.pow_add]; exact Nat.mul_le_mul h1.2 h4'⟩, - (z * E), ?_, by rw [Int.natAbs_neg, Int.natAbs_mul, Int.natAbs_natCast, Nat.pow_add]; exact Nat.mul_le_mul h2' h3.2⟩
    have e : ((D * z'.natAbs : Nat) : Int) = - (D * z') := by rw [Int.natCast_mul]; have : (z'.natAbs : Int) = - z' := by omega
                                                              rw [this]; grind
    rw [e, Rat.intCast_neg, Rat.intCast_neg, Rat.intCast_mul, Rat.intCast_mul]; grind
  · exact absurd l zn
  · refine ⟨D * z'.natAbs, ⟨Nat.mul_pos h1.1 (by omega), by rw [Nat.pow_add]; exact Nat.mul_le_mul h1.2 h4'⟩, z * E, ?_, by rw [Int.natAbs_mul, Int.natAbs_natCast, Nat.pow_add]; exact Nat.mul_le_mul h2' h3.2⟩
    have e : ((D * z'.natAbs : Nat) : Int) = D * z' := by rw [Int.natCast_mul]; have : (z'.natAbs : Int) = z' := by omega
                                                          rw [this]
    rw [e, Rat.intCast_mul, Rat.intCast_mul]; grind
end
/-- how the bits rise -/
def b4 (b : Nat) : Nat → Nat
  | 0 => b
  | i + 1 => 4 * b4 b i + 1
theorem b4_mono (b : Nat) : ∀ {i n : Nat}, i ≤ n → b4 b i ≤ b4 b n := fun {i n} h => by
  induction n with
  | zero => rw [Nat.le_zero.mp h]; exact Nat.le_refl _
  | succ n ih =>
    by_cases e : i = n + 1
    · rw [e]; exact Nat.le_refl _
    · have := ih (by omega)
      show _ ≤ 4 * b4 b n + 1
      omega
/-- a row times a list -/
def rp (N : Nat) (r : List Rat) (z : Nat → Rat) : Rat := sm N fun k => r.getD k 0 * z k
theorem getD_set {α : Type} {l : List α} {i j : Nat} {x d : α} (h : i < l.length) : (l.set i x).getD j d = if j = i then x else l.getD j d := by
  rw [List.getD_eq_getElem?_getD, List.getElem?_set]
  by_cases e : i = j
  · subst e; rw [if_pos rfl, if_pos rfl, if_pos h]; rfl
  · rw [if_neg e, if_neg (fun z => e z.symm), List.getD_eq_getElem?_getD]
theorem swap_at {L : Mq} {p a s : Nat} (hp : p < L.length) (ha : a < L.length) : (swapL L p a).getD s [] = if s = a then L.getD p [] else if s = p then L.getD a [] else L.getD s [] := by
  unfold swapL
  rw [getD_set (by rw [List.length_set]; exact ha), getD_set hp]
theorem swap_len (L : Mq) (p a : Nat) : (swapL L p a).length = L.length := by unfold swapL; rw [List.length_set, List.length_set]
theorem spots0 {L : Mq} {p n : Nat} (h : ∃ s, p ≤ s ∧ s < n ∧ at2 L s p ≠ 0) : ∃ a : Nat, (spotsL L p n)[0]? = some (a : Int) ∧ pivL L p n = a ∧ p ≤ a ∧ a < n ∧ at2 L a p ≠ 0 := by
  obtain ⟨s, h1, h2, h3⟩ := h
  have m : (((s : Nat)) : Int) ∈ spotsL L p n := by
    unfold spotsL
    refine List.mem_filterMap.mpr ⟨s - p, List.mem_range.mpr (by omega), ?_⟩
    have e : p + (s - p) = s := by omega
    rw [e, if_neg h3]
  unfold pivL
  cases q : spotsL L p n with
  | nil => rw [q] at m; exact absurd m (List.not_mem_nil)
  | cons x t =>
    have m2 : x ∈ spotsL L p n := by rw [q]; exact List.mem_cons_self
    unfold spotsL at m2
    obtain ⟨t', ht, e⟩ := List.mem_filterMap.mp m2
    have ht' := List.mem_range.mp ht
    by_cases z : at2 L (p + t') p = 0
    · rw [if_pos z] at e; cases e
    · rw [if_neg z] at e
      have e := Option.some.inj e
      refine ⟨p + t', ?_, ?_, by omega, by omega, z⟩
      · rw [← e]; rfl
      · rw [← e]; show (((p + t' : Nat) : Int)).toNat = _; rw [Int.toNat_natCast]
structure StE (A : Mq) (n b i : Nat) (L : Mq) : Prop where
  len : L.length = n
  wd : ∀ r ∈ L, r.length = n + 1
  un : ∀ s, s < n → ∀ k, k < i → at2 L s k = if s = k then 1 else 0
  ker : ∀ z, (∀ s, s < n → rp (n + 1) (L.getD s []) z = 0) ↔ ∀ s, s < n → rp (n + 1) (A.getD s []) z = 0
  sz : ∀ r ∈ L, ∀ k, Sz (b4 b i) (r.getD k 0)
section
variable {A L : Mq} {n b i : Nat}
theorem StE.row (I : StE A n b i L) {s : Nat} (hs : s < n) : (L.getD s []).length = n + 1 := I.wd _ (memAt (by rw [I.len]; exact hs))
theorem StE.sat (I : StE A n b i L) {s : Nat} (hs : s < n) (k : Nat) : Sz (b4 b i) (at2 L s k) := I.sz _ (memAt (by rw [I.len]; exact hs)) k
theorem lpivot (NS : ∀ z : Nat → Rat, (∀ k, n ≤ k → z k = 0) → (∀ s, s < n → rp (n + 1) (A.getD s []) z = 0) → ∀ k, k < n → z k = 0) (I : StE A n b i L) (hi : i < n) : ∃ s, i ≤ s ∧ s < n ∧ at2 L s i ≠ 0 := by
  refine Classical.byContradiction fun hc => ?_
  have h0 : ∀ s, i ≤ s → s < n → at2 L s i = 0 := fun s h1 h2 => Classical.byContradiction fun h => hc ⟨s, h1, h2, h⟩
  let z : Nat → Rat := fun k => if k = i then 1 else if k < i then - at2 L k i else 0
  have zi : z i = 1 := if_pos rfl
  have zg : ∀ k, i < k → z k = 0 := fun k hk => by show ite _ _ _ = _; rw [if_neg (by omega), if_neg (by omega)]
  have zl : ∀ k, k < i → z k = - at2 L k i := fun k hk => by show ite _ _ _ = _; rw [if_neg (by omega), if_pos hk]
  have k1 := (I.ker z).mp fun s hs => by
    unfold rp
    by_cases c : s < i
    · rw [sm_congr (g := fun k => (if k = s then - at2 L s i else 0) + (if k = i then at2 L s i else 0)) fun k _ => ?_, sm_two (by omega) (by omega)]
      · grind
      · show at2 L s k * z k = _
        rcases Nat.lt_trichotomy k i with h | h | h
        · rw [if_neg (show k ≠ i by omega), I.un s hs k h, zl k h]
          by_cases ej : k = s
          · rw [if_pos ej, if_pos ej.symm, ej]; grind
          · rw [if_neg ej, if_neg (fun z => ej z.symm)]; grind
        · rw [h, if_pos rfl, if_neg (by omega), zi]; grind
        · rw [zg k h, if_neg (by omega), if_neg (by omega)]; grind
    · rw [sm_congr (g := fun _ => 0) fun k _ => ?_, sm_zero]
      show at2 L s k * z k = _
      rcases Nat.lt_trichotomy k i with h | h | h
      · rw [I.un s hs k h, if_neg (by omega)]; grind
      · rw [h, h0 s (by omega) hs]; grind
      · rw [zg k h]; grind
  have k2 := NS z (fun k hk => zg k (by omega)) k1 i hi
  rw [zi] at k2
  exact absurd k2 (by decide)
/-- what a step finds and leaves -/
structure StS (A L : Mq) (n b i : Nat) : Prop where
  piv : ∃ a : Nat, (spotsL L i n)[0]? = some (a : Int) ∧ a < n
  pz : at2 (swapL L i (pivL L i n)) i i ≠ 0
  hsz : ∀ q ∈ headL (swapL L i (pivL L i n)) i, Sz (2 * b4 b i) q
  psz : ∀ s, s < n → ∀ q ∈ headL (swapL L i (pivL L i n)) i, Sz (3 * b4 b i) (at2 (swapL L i (pivL L i n)) s i * q)
  next : StE A n b (i + 1) (stepL L i n)
theorem lstep (NS : ∀ z : Nat → Rat, (∀ k, n ≤ k → z k = 0) → (∀ s, s < n → rp (n + 1) (A.getD s []) z = 0) → ∀ k, k < n → z k = 0) (I : StE A n b i L) (hi : i < n) : StS A L n b i := by
  obtain ⟨a, a1, a2, a3, a4, a5⟩ := spots0 (lpivot NS I hi)
  have sw := fun s => swap_at (L := L) (p := i) (a := a) (s := s) (by rw [I.len]; exact hi) (by rw [I.len]; exact a4)
  have mat : ∀ s k, at2 (swapL L i a) s k = if s = a then at2 L i k else if s = i then at2 L a k else at2 L s k := fun s k => by
    unfold at2
    rw [sw s]
    split
    · rfl
    · split <;> rfl
  have ml : (swapL L i a).length = n := by rw [swap_len, I.len]
  have mw : ∀ s, s < n → ((swapL L i a).getD s []).length = n + 1 := fun s hs => by
    rw [sw s]
    split
    · exact I.row hi
    · split
      · exact I.row a4
      · exact I.row hs
  have msz : ∀ s k, s < n → Sz (b4 b i) (at2 (swapL L i a) s k) := fun s k hs => by
    rw [mat]
    split
    · exact I.sat hi k
    · split
      · exact I.sat a4 k
      · exact I.sat hs k
  have mun : ∀ s, s < n → ∀ k, k < i → at2 (swapL L i a) s k = if s = k then 1 else 0 := fun s hs k hk => by
    rw [mat]
    by_cases e : s = a
    · rw [if_pos e, I.un i hi k hk, if_neg (by omega), if_neg (by omega)]
    · rw [if_neg e]
      by_cases e2 : s = i
      · rw [if_pos e2, I.un a a4 k hk, if_neg (by omega), if_neg (by omega)]
      · rw [if_neg e2]; exact I.un s hs k hk
  have mpz : at2 (swapL L i a) i i ≠ 0 := by
    rw [mat]
    by_cases e : i = a
    · rw [if_pos e]; rw [← e] at a5; exact a5
    · rw [if_neg e, if_pos rfl]; exact a5
  have mker : ∀ z, (∀ s, s < n → rp (n + 1) ((swapL L i a).getD s []) z = 0) ↔ ∀ s, s < n → rp (n + 1) (A.getD s []) z = 0 := fun z => by
    rw [← I.ker z]
    constructor
    · intro h s hs
      by_cases e : s = a
      · have := h i hi
        rw [sw i] at this
        by_cases e2 : i = a
        · rw [if_pos e2] at this; rw [e, ← e2]; exact this
        · rw [if_neg e2, if_pos rfl] at this; rw [e]; exact this
      · by_cases e2 : s = i
        · have := h a a4
          rw [sw a, if_pos rfl] at this; rw [e2]; exact this
        · have := h s hs
          rw [sw s, if_neg e, if_neg e2] at this; exact this
    · intro h s hs
      rw [sw s]
      split
      · exact h i hi
      · split
        · exact h a a4
        · exact h s hs
  generalize hM : swapL L i a = M at *
  have hdl : (headL M i).length = n + 1 := by unfold headL; rw [List.length_map, mw i hi]
  have hda : ∀ k, k < n + 1 → (headL M i).getD k 0 = at2 M i k / at2 M i i := fun k hk => by
    unfold headL
    rw [getD_map (d := 0) (by rw [mw i hi]; exact hk)]; rfl
  have hsz : ∀ k, k < n + 1 → Sz (2 * b4 b i) ((headL M i).getD k 0) := fun k hk => by
    rw [hda k hk]
    exact ((msz i k hi).div (msz i i hi) mpz).mono (by omega)
  have hsm : ∀ q ∈ headL M i, Sz (2 * b4 b i) q := fun q hq => by
    obtain ⟨k, hk, e⟩ := getD_mem 0 hq
    rw [hdl] at hk
    rw [← e]; exact hsz k hk
  refine ⟨⟨a, a1, a4⟩, by rw [a2, hM]; exact mpz, by rw [a2, hM]; exact hsm, by rw [a2, hM]; exact fun s hs q hq => ((msz s i hs).mul (hsm q hq)).mono (by omega), ?_⟩
  have er : ∀ s, s < n → (stepL L i n).getD s [] = if s = i then headL M i else List.zipWith (fun x y => x - at2 M s i * y) (M.getD s []) (headL M i) := fun s hs => by
    unfold stepL
    rw [a2, hM, getD_set (by rw [List.length_map, List.length_range]; exact hi)]
    by_cases e : s = i
    · rw [if_pos e, if_pos e]
    · rw [if_neg e, if_neg e, getD_mapR hs]
      unfold elimR
      rw [if_neg e]
  have ea : ∀ s, s < n → ∀ k, k < n + 1 → at2 (stepL L i n) s k = if s = i then at2 M i k / at2 M i i else at2 M s k - at2 M s i * (at2 M i k / at2 M i i) := fun s hs k hk => by
    unfold at2
    rw [er s hs]
    by_cases e : s = i
    · rw [if_pos e, if_pos e]; exact hda k hk
    · rw [if_neg e, if_neg e, getD_zw (d := 0) (d' := 0) (by rw [mw s hs]; exact hk) (by rw [hdl]; exact hk), hda k hk]; rfl
  have el : (stepL L i n).length = n := by unfold stepL; rw [List.length_set, List.length_map, List.length_range]
  have ew : ∀ s, s < n → ((stepL L i n).getD s []).length = n + 1 := fun s hs => by
    rw [er s hs]
    split
    · exact hdl
    · rw [List.length_zipWith, mw s hs, hdl, Nat.min_self]
  refine ⟨el, fun r hr => ?_, fun s hs k hk => ?_, fun z => ?_, fun r hr k => ?_⟩
  · obtain ⟨s, hs, e⟩ := getD_mem [] hr
    rw [el] at hs
    rw [← e]; exact ew s hs
  · rw [ea s hs k (by omega)]
    by_cases ek : k = i
    · subst ek
      have := Rat.div_mul_cancel (a := at2 M k k) mpz
      by_cases e : s = k
      · rw [if_pos e, if_pos e]; grind
      · rw [if_neg e, if_neg e]; grind
    · rw [mun i hi k (by omega), if_neg (show i ≠ k by omega)]
      by_cases e : s = i
      · rw [if_pos e, if_neg (by omega)]; grind
      · rw [if_neg e, mun s hs k (by omega)]; grind
  · rw [← mker z]
    have r1 : rp (n + 1) ((stepL L i n).getD i []) z * at2 M i i = rp (n + 1) (M.getD i []) z := by
      unfold rp
      rw [← sm_mulR]
      refine sm_congr fun k hk => ?_
      show at2 (stepL L i n) i k * z k * at2 M i i = at2 M i k * z k
      rw [ea i hi k hk, if_pos rfl]
      have := Rat.div_mul_cancel (a := at2 M i k) mpz
      grind
    have r2 : ∀ s, s < n → s ≠ i → rp (n + 1) ((stepL L i n).getD s []) z = rp (n + 1) (M.getD s []) z - at2 M s i * rp (n + 1) ((stepL L i n).getD i []) z := fun s hs e => by
      unfold rp
      rw [← sm_mul, ← sm_sub]
      refine sm_congr fun k hk => ?_
      show at2 (stepL L i n) s k * z k = at2 M s k * z k - at2 M s i * (at2 (stepL L i n) i k * z k)
      rw [ea s hs k hk, if_neg e, ea i hi k hk, if_pos rfl]; grind
    constructor
    · intro h s hs
      have h0 := h i hi
      by_cases e : s = i
      · rw [e, ← r1, h0]; grind
      · have := r2 s hs e
        rw [h s hs, h0] at this
        grind
    · intro h s hs
      have h0 : rp (n + 1) ((stepL L i n).getD i []) z = 0 := by
        rw [h i hi] at r1
        rcases Rat.mul_eq_zero.mp r1 with y | y
        · exact y
        · exact absurd y mpz
      by_cases e : s = i
      · rw [e]; exact h0
      · rw [r2 s hs e, h s hs, h0]; grind
  · obtain ⟨s, hs, e⟩ := getD_mem [] hr
    rw [el] at hs
    rw [← e]
    by_cases hk : k < n + 1
    · show Sz _ (at2 (stepL L i n) s k)
      rw [ea s hs k hk]
      have h1 := ((msz i k hi).div (msz i i hi) mpz)
      split
      · exact h1.mono (by show _ ≤ 4 * _ + 1; omega)
      · exact ((msz s k hs).sub ((msz s i hs).mul h1)).mono (by show _ ≤ 4 * _ + 1; omega)
    · rw [List.getD_eq_getElem?_getD, List.getElem?_eq_none (by rw [ew s hs]; omega)]
      exact ⟨1, ⟨by decide, Nat.one_le_two_pow⟩, cb_zero⟩
theorem stL_succ (A : Mq) (n i : Nat) : stL A n (i + 1) = stepL (stL A n i) i n := by unfold stL; rw [List.range_succ, List.foldl_append]; rfl
theorem ste_all (hl : A.length = n) (hw : ∀ r ∈ A, r.length = n + 1) (hb : ∀ r ∈ A, ∀ k, Sz b (r.getD k 0)) (NS : ∀ z : Nat → Rat, (∀ k, n ≤ k → z k = 0) → (∀ s, s < n → rp (n + 1) (A.getD s []) z = 0) → ∀ k, k < n → z k = 0) : ∀ i, i ≤ n → StE A n b i (stL A n i) := fun i => by
  induction i with
  | zero => exact fun _ => ⟨hl, hw, fun s _ k h => absurd h (by omega), fun z => Iff.rfl, hb⟩
  | succ i ih =>
    intro h
    rw [stL_succ]
    exact (lstep NS (ih (by omega)) (by omega)).next
/-- what the last step leaves solves -/
theorem ste_solves (I : StE A n b n L) : ∀ s, s < n → sm n (fun k => at2 A s k * at2 L k n) = at2 A s n := fun s hs => by
  let z : Nat → Rat := fun k => if k < n then - at2 L k n else 1
  have z1 : ∀ k, k < n → z k = - at2 L k n := fun k hk => if_pos hk
  have z2 : z n = 1 := if_neg (Nat.lt_irrefl n)
  have h := (I.ker z).mp fun s hs => by
    show sm n (fun k => at2 L s k * z k) + at2 L s n * z n = 0
    rw [z2, sm_congr (g := fun k => if k = s then - at2 L s n else 0) fun k hk => by
      rw [I.un s hs k hk, z1 k hk]
      by_cases e : k = s
      · rw [if_pos e, if_pos e.symm, e]; grind
      · rw [if_neg e, if_neg (fun z => e z.symm)]; grind, sm_delta hs fun _ => - at2 L s n]
    grind
  have h2 := h s hs
  have h3 : sm n (fun k => at2 A s k * z k) + at2 A s n * z n = 0 := h2
  rw [z2, sm_congr (g := fun k => (-1) * (at2 A s k * at2 L k n)) fun k hk => by rw [z1 k hk]; grind, sm_mul] at h3
  grind
end
end Pl

end
section
set_option maxHeartbeats 400000
set_option Elab.async false
set_option linter.all false
set_option maxRecDepth 100000
set_option exponentiation.threshold 100000
/-! The plain law: denominators in powers; whole walks: their inverse, their error table. -/
namespace Pl
open Wk Ma
theorem Cb.sm4 {D b n : Nat} {f : Nat → Rat} (h : ∀ i, i < n → Cb D b (f i)) (hn : n ≤ 4) : Cb D (b + 2) (Ma.sm n f) := by
  obtain ⟨z, h1, h2⟩ := cb_sm h
  refine ⟨z, h1, Nat.le_trans h2 ?_⟩
  rw [Nat.pow_add, Nat.mul_comm]
  exact Nat.mul_le_mul_left _ hn
/-- powers of two denominators and of 12 -/
def Dn (D H a b c : Nat) : Nat := D ^ a * H ^ b * 12 ^ c
theorem Dn_mul (D H a b c a' b' c' : Nat) : Dn D H a b c * Dn D H a' b' c' = Dn D H (a + a') (b + b') (c + c') := by
  unfold Dn
  rw [Nat.pow_add, Nat.pow_add, Nat.pow_add]
  simp only [Nat.mul_comm, Nat.mul_left_comm, Nat.mul_assoc]
theorem Db.pow {D e : Nat} (h : Db D e) (a : Nat) : Db (D ^ a) (e * a) := ⟨Nat.pow_pos h.1, by rw [Nat.pow_mul]; exact Nat.pow_le_pow_left h.2 a⟩
theorem Dn_db {D H d h : Nat} (hD : Db D d) (hH : Db H h) (a b c : Nat) : Db (Dn D H a b c) (d * a + h * b + 4 * c) := ((hD.pow a).mul (hH.pow b)).mul (Db.pow (D := 12) (e := 4) ⟨by decide, by decide⟩ c)
def Cd (D H a b c k : Nat) (q : Rat) : Prop := Cb (Dn D H a b c) k q
section
variable {D H a b c k a' b' c' k' d h : Nat} {x y : Rat}
theorem Cd.mul (p : Cd D H a b c k x) (q : Cd D H a' b' c' k' y) : Cd D H (a + a') (b + b') (c + c') (k + k') (x * y) := by
  unfold Cd
  rw [← Dn_mul]
  exact Cb.mul p q
theorem Cd.add (p : Cd D H a b c k x) (q : Cd D H a b c k y) : Cd D H a b c (k + 1) (x + y) := Cb.add p q
theorem Cd.sub (p : Cd D H a b c k x) (q : Cd D H a b c k y) : Cd D H a b c (k + 1) (x - y) := Cb.sub p q
theorem Cd.mono (p : Cd D H a b c k x) (l : k ≤ k') : Cd D H a b c k' x := Cb.mono p l
theorem Cd.up (p : Cd D H a b c k x) (hD : Db D d) (hH : Db H h) (i j l : Nat) (e : k + (d * i + h * j + 4 * l) ≤ k') (ea : a + i = a') (eb : b + j = b') (ec : c + l = c') : Cd D H a' b' c' k' x := by
  subst ea eb ec
  unfold Cd
  rw [← Dn_mul]
  exact (Cb.up p (Dn_db hD hH i j l)).mono e
theorem Cd.sm4 {n : Nat} {f : Nat → Rat} (p : ∀ i, i < n → Cd D H a b c k (f i)) (hn : n ≤ 4) : Cd D H a b c (k + 2) (Ma.sm n f) := Cb.sm4 p hn
theorem Cd.sm8 {n : Nat} {f : Nat → Rat} (p : ∀ i, i < n → Cd D H a b c k (f i)) (hn : n ≤ 8) : Cd D H a b c (k + 3) (Ma.sm n f) := Cb.sm p hn
theorem Cd.fit (p : Cd D H a b c k x) (hD : Db D d) (hH : Db H h) (e : d * a + h * b + 4 * c < 4500) (hk : k < 4500) : Fit x := Cb.fit p (Dn_db hD hH a b c) e hk
theorem cd_one (hD : Db D d) (hH : Db H h) : Cd D H a b c (d * a + h * b + 4 * c) 1 := ⟨((Dn D H a b c : Nat) : Int), by grind, by rw [Int.natAbs_natCast]; exact (Dn_db hD hH a b c).2⟩
theorem cd_zero : Cd D H a b c k 0 := cb_zero
end
/-! ### congruences -/
section
variable {n : Nat}
theorem isInv_congr {A A' G : Nat → Nat → Rat} (h : ∀ i k, i < n → k < n → A i k = A' i k) (I : IsInv n A G) : IsInv n A' G := fun x b => by
  rw [← I x b]
  constructor
  · intro q i hi
    rw [← q i hi]; exact sm_congr fun k hk => by rw [h i k hi hk]
  · intro q i hi
    rw [← q i hi]; exact sm_congr fun k hk => by rw [h i k hi hk]
theorem walk_congr {Q Q' : Nat → Nat → Rat} {s s' : Nat → Rat} (h : ∀ i k, i < n → k < n → Q' i k = Q i k) (hs : ∀ i, i < n → s' i = s i) (W : Walk n Q s) : Walk n Q' s' where
  row := fun i hi => by rw [← W.row i hi]; exact sm_congr fun k hk => h i k hi hk
  one := by rw [← W.one]; exact sm_congr hs
  kept := fun k hk => by rw [hs k hk, ← W.kept k hk]; exact sm_congr fun i hi => by rw [h i k hi hk, hs i hi]
theorem ahead_congr {Q Q' : Nat → Nat → Rat} {s s' f f' h h' : Nat → Rat} (eQ : ∀ i k, i < n → k < n → Q' i k = Q i k) (es : ∀ i, i < n → s' i = s i) (ef : ∀ i, i < n → f' i = f i) (eh : ∀ i, i < n → h' i = h i) (A : Ahead n Q s f h) : Ahead n Q' s' f' h' where
  eq := fun i hi => by
    rw [eh i hi, ef i hi, sm_congr (f := fun k => Q' i k * h' k) (g := fun k => Q i k * h k) (fun k hk => by rw [eQ i k hi hk, eh k hk]), sm_congr (f := fun k => s' k * f' k) (g := fun k => s k * f k) (fun k hk => by rw [es k hk, ef k hk])]
    exact A.eq i hi
  mean := by rw [sm_congr (g := fun i => s i * h i) (fun i hi => by rw [es i hi, eh i hi])]; exact A.mean
theorem err_congr {s s' f f' h h' : Nat → Rat} (es : ∀ i, i < n → s' i = s i) (ef : ∀ i, i < n → f' i = f i) (eh : ∀ i, i < n → h' i = h i) : err n s' f' h' = err n s f h := by
  unfold err
  rw [sm_congr (f := fun k => s' k * f' k) (g := fun k => s k * f k) (fun k hk => by rw [es k hk, ef k hk])]
  rw [sm_congr (f := fun i => s' i * ((f' i - sm n fun k => s k * f k) * h' i)) (g := fun i => s i * ((f i - sm n fun k => s k * f k) * h i)) (fun i hi => by rw [es i hi, ef i hi, eh i hi])]
  rw [sm_congr (f := fun i => s' i * ((f' i - sm n fun k => s k * f k) * (f' i - sm n fun k => s k * f k))) (g := fun i => s i * ((f i - sm n fun k => s k * f k) * (f i - sm n fun k => s k * f k))) (fun i hi => by rw [es i hi, ef i hi])]
theorem back_congr {Q Q' : Nat → Nat → Rat} {s s' : Nat → Rat} (h : ∀ i k, i < n → k < n → Q' i k = Q i k) (hs : ∀ i, i < n → s' i = s i) : ∀ i k, i < n → k < n → back Q' s' i k = back Q s i k := fun i k hi hk => by
  unfold back
  rw [h i k hi hk, hs k hk]
theorem tab_congr {s s' : Nat → Rat} {G G' : Nat → Nat → Rat} (hs : ∀ i, i < n → s' i = s i) (h : ∀ i k, i < n → k < n → G' i k = G i k) : ∀ i k, i < n → k < n → tab s' G' i k = tab s G i k := fun i k hi hk => by
  unfold tab
  rw [hs i hi, hs k hk, h i k hi hk, h k i hk hi]
theorem worth_congr {E E' : Nat → Nat → Rat} {f f' : Nat → Rat} (h : ∀ i k, i < n → k < n → E' i k = E i k) (hf : ∀ i, i < n → f' i = f i) : worth n E' f' = worth n E f := by
  unfold worth
  refine sm_congr fun i hi => ?_
  rw [hf i hi]
  congr 1
  exact sm_congr fun k hk => by rw [h i k hi hk, hf k hk]
end
/-! ### a walk's lists -/
def sv (d : Wd) (i : Nat) : Rat := d.2.getD i 0
/-- a walk of n places, its numbers in D -/
structure Wl (D n : Nat) (d : Wd) : Prop where
  n2 : 2 ≤ n
  n6 : n ≤ 6
  hD : Db D 29
  sq : Sq n d.1
  sl : d.2.length = n
  W : Walk n (at2 d.1) (sv d)
  ps : ∀ i, i < n → 0 < sv d i
  pQ : ∀ i k, i < n → k < n → 0 < at2 d.1 i k
  cs : ∀ i, i < n → Cb D 29 (sv d i)
  cQ : ∀ i k, i < n → k < n → Cb (D * D) 60 (at2 d.1 i k)
section
variable {D n : Nat} {d : Wd}
theorem zl (w : Wl D n d) {i : Nat} (hi : i < n) : (List.zipWith (· - ·) d.2 (d.1.getD i [])).length = n := by rw [List.length_zipWith, w.sl, w.sq.row hi, Nat.min_self]
theorem z_at (w : Wl D n d) {i k : Nat} (hi : i < n) (hk : k < n) : (List.zipWith (· - ·) d.2 (d.1.getD i [])).getD k 0 = sv d k - at2 d.1 i k := by
  rw [getD_zw (d := 0) (d' := 0) (by rw [w.sl]; exact hk) (by rw [w.sq.row hi]; exact hk)]; rfl
theorem back_sq (w : Wl D n d) : Sq n (backM d) := by
  refine ⟨by unfold backM; rw [List.length_map, List.length_range, w.sq.len], fun r hr => ?_⟩
  unfold backM at hr
  obtain ⟨i, hi, e⟩ := List.mem_map.mp hr
  rw [w.sq.len] at hi
  have hi := List.mem_range.mp hi
  rw [← e]
  unfold backR
  rw [List.length_set, zl w hi]
theorem back_at (w : Wl D n d) {i k : Nat} (hi : i < n) (hk : k < n) : at2 (backM d) i k = back (at2 d.1) (sv d) i k := by
  show ((backM d).getD i []).getD k 0 = _
  unfold backM
  rw [w.sq.len, getD_mapR hi]
  unfold backR
  rw [getD_set (by rw [zl w hi]; exact hi), z_at w hi hi, z_at w hi hk]
  unfold back
  by_cases e : k = i
  · rw [if_pos e, if_pos e, e]
  · rw [if_neg e, if_neg e]; grind
theorem up2 {D b : Nat} {x : Rat} (hD : Db D 29) (h : Cb D b x) : Cb (D * D) (b + 29) x := h.up hD
theorem wz_cb (w : Wl D n d) {i k : Nat} (hi : i < n) (hk : k < n) : Cb (D * D) 61 (sv d k - at2 d.1 i k) := ((up2 w.hD (w.cs k hk)).mono (by decide)).sub (w.cQ i k hi hk)
theorem back_cb (w : Wl D n d) : CbM (D * D) 62 (backM d) := fun r hr k hk => by
  have S := back_sq w
  obtain ⟨i, hi, e⟩ := getD_mem [] hr
  rw [S.len] at hi
  rw [S.wide r hr] at hk
  rw [← e]
  show Cb _ _ (at2 (backM d) i k)
  rw [back_at w hi hk]
  unfold back
  refine (wz_cb w hi hk).add ?_
  split
  · have := (w.hD.mul w.hD)
    exact ⟨((D * D : Nat) : Int), by grind, by rw [Int.natAbs_natCast]; exact Nat.le_trans this.2 (Nat.pow_le_pow_right (by decide) (by decide))⟩
  · exact cb_zero
theorem whole_inv (w : Wl D n d) : InvE n (bt 62 n) (backM d) ∧ IsInv n (back (at2 d.1) (sv d)) (at2 (invM (backM d))) := by
  have S := back_sq w
  have n2 := w.n2
  have e := inv_all S (by omega) w.n6 (back_cb w) ((w.hD.mul w.hD).mono (by decide)) (Nat.lt_of_le_of_lt (bt_mono 62 w.n6) (by decide)) fun x hx => w.W.back_ns w.ps w.pQ fun i hi => by
    rw [← hx i hi]
    exact sm_congr fun k hk => by rw [back_at w hi hk]
  exact ⟨e, isInv_congr (fun i k hi hk => back_at w hi hk) e.inv⟩
theorem backOk (w : Wl D n d) : BackOk d where
  n := by rw [w.sq.len]; have := w.n6; omega
  sh := by rw [w.sl, w.sq.len]
  sq := fun r hr => by rw [w.sq.len]; exact w.sq.wide r hr
  f1 := fun q hq => by
    obtain ⟨i, hi, e⟩ := getD_mem 0 hq
    rw [w.sl] at hi
    rw [← e]; exact (w.cs i hi).fit w.hD (by decide) (by decide)
  f2 := fun r hr q hq => by
    obtain ⟨i, hi, e⟩ := getD_mem [] hr
    rw [w.sq.len] at hi
    obtain ⟨k, hk, e2⟩ := getD_mem 0 hq
    rw [w.sq.wide r hr] at hk
    rw [← e2, ← e]; exact (w.cQ i k hi hk).fit (w.hD.mul w.hD) (by decide) (by decide)
  f3 := fun i hi => by
    rw [w.sq.len] at hi
    rw [z_at w hi hi]
    exact (wz_cb w hi hi).fit (w.hD.mul w.hD) (by decide) (by decide)
  inv := (whole_inv w).1.ok
theorem cs1 (w : Wl D n d) (H : Nat) {i : Nat} (hi : i < n) : Cd D H 1 0 0 29 (sv d i) := by
  show Cb (D ^ 1 * H ^ 0 * 12 ^ 0) _ _
  rw [Nat.pow_one, Nat.pow_zero, Nat.pow_zero, Nat.mul_one, Nat.mul_one]; exact w.cs i hi
theorem cQ2 (w : Wl D n d) (H : Nat) {i k : Nat} (hi : i < n) (hk : k < n) : Cd D H 2 0 0 60 (at2 d.1 i k) := by
  show Cb (D ^ 2 * H ^ 0 * 12 ^ 0) _ _
  rw [Nat.pow_two, Nat.pow_zero, Nat.pow_zero, Nat.mul_one, Nat.mul_one]; exact w.cQ i k hi hk
/-- the error table's entries -/
theorem err_at (w : Wl D n d) {i k : Nat} (hi : i < n) (hk : k < n) : at2 (errM d) i k = tab (sv d) (at2 (invM (backM d))) i k := by
  show ((errM d).getD i []).getD k 0 = _
  unfold errM errT
  rw [w.sl, getD_mapR hi, getD_mapR hk]; rfl
theorem err_sq (w : Wl D n d) : Sq n (errM d) := by
  refine ⟨by unfold errM errT; rw [List.length_map, List.length_range, w.sl], fun r hr => ?_⟩
  unfold errM errT at hr
  obtain ⟨i, hi, e⟩ := List.mem_map.mp hr
  rw [← e, List.length_map, List.length_range, w.sl]
theorem errOk (w : Wl D n d) {H h : Nat} (hH : Db H h) (hh : h ≤ 2000) (ct : ∀ i k, i < n → k < n → Cd D H 2 1 0 (h + 62) (at2 (invM (backM d)) i k)) : ErrOk d ∧ ∀ i k, i < n → k < n → Cd D H 3 1 0 (h + 94) (at2 (errM d) i k) := by
  have e := (whole_inv w).1
  have hD := w.hD
  have st : ∀ i j, i < n → j < n → Cd D H 3 1 0 (h + 91) (sv d i * at2 (invM (backM d)) i j) := fun i j hi hj => ((cs1 w H hi).mul (ct i j hi hj)).mono (by omega)
  have st2 : ∀ i j, i < n → j < n → Cd D H 3 1 0 (h + 92) (sv d i * at2 (invM (backM d)) i j + sv d j * at2 (invM (backM d)) j i) := fun i j hi hj => (st i j hi hj).add (st j i hj hi)
  have ss : ∀ i j, i < n → j < n → Cd D H 2 0 0 58 (sv d i * sv d j) := fun i j hi hj => (cs1 w H hi).mul (cs1 w H hj)
  have en : ∀ i j, i < n → j < n → Cd D H 3 1 0 (h + 93) (entM d.2 (invM (backM d)) i j) := fun i j hi hj => (st2 i j hi hj).sub ((ss i j hi hj).up hD hH 1 1 0 (by omega) rfl rfl rfl)
  refine ⟨⟨backOk w, by rw [e.sq.len, w.sl], fun r hr => by rw [e.sq.wide r hr, w.sl], fun i j hi hj => ?_, fun i j hi hj => ?_, fun i j hi hj => ?_, fun i j hi hj => ?_, fun i j hi hj => ?_, fun i j hi hj => ?_⟩, fun i j hi hj => ?_⟩
  · rw [w.sl] at hi hj; exact (ct i j hi hj).fit hD hH (by omega) (by omega)
  · rw [w.sl] at hi hj; exact (st i j hi hj).fit hD hH (by omega) (by omega)
  · rw [w.sl] at hi hj; exact (st j i hj hi).fit hD hH (by omega) (by omega)
  · rw [w.sl] at hi hj; exact (st2 i j hi hj).fit hD hH (by omega) (by omega)
  · rw [w.sl] at hi hj; exact (ss i j hi hj).fit hD hH (by omega) (by omega)
  · rw [w.sl] at hi hj; exact (en i j hi hj).fit hD hH (by omega) (by omega)
  · have : at2 (errM d) i j = tabE d.2 (invM (backM d)) i j := by
      show ((errM d).getD i []).getD j 0 = _
      unfold errM errT
      rw [w.sl, getD_mapR hi, getD_mapR hj]
    rw [this]
    unfold tabE
    split
    · exact (en i j hi hj).sub ((cs1 w H hi).up hD hH 2 1 0 (by omega) rfl rfl rfl)
    · exact (en i j hi hj).mono (by omega)
/-- heads multiplied -/
theorem comb {n B : Nat} {G : Nat → Nat → Rat} : ∀ k, k ≤ n → (∀ j, j < n → ∃ h, Db h B ∧ ∀ k, k < n → Cb h B (G j k)) → ∃ H, Db H (k * B) ∧ ∀ j, j < k → ∀ l, l < n → Cb H (k * B) (G j l)
  | 0, _, _ => ⟨1, ⟨by decide, Nat.one_le_two_pow⟩, fun j h => absurd h (by omega)⟩
  | k + 1, hk, hh => by
    obtain ⟨H, h1, h2⟩ := comb k (by omega) hh
    obtain ⟨h, h3, h4⟩ := hh k (by omega)
    refine ⟨H * h, by rw [Nat.succ_mul]; exact h1.mul h3, fun j hj l hl => ?_⟩
    rw [Nat.succ_mul]
    by_cases e : j = k
    · rw [e, Nat.mul_comm H h, Nat.add_comm]; exact (h4 l hl).up h1
    · exact (h2 j (by omega) l hl).up h3
/-- of at most three places: one denominator of all entries of the inverse -/
theorem small_inv (w : Wl D n d) (h3 : n ≤ 3) : ∃ H, Db H 1509 ∧ ∀ i k, i < n → k < n → Cd D H 0 1 0 1509 (at2 (invM (backM d)) i k) := by
  have e := (whole_inv w).1
  obtain ⟨H, h1, h2⟩ := comb n (Nat.le_refl _) e.cb
  have hb : n * bt 62 n ≤ 1509 := Nat.le_trans (Nat.mul_le_mul h3 (bt_mono 62 h3)) (by decide)
  refine ⟨H, h1.mono hb, fun i k hi hk => ?_⟩
  show Cb (D ^ 0 * H ^ 1 * 12 ^ 0) _ _
  rw [Nat.pow_zero, Nat.pow_one, Nat.pow_zero, Nat.mul_one, Nat.one_mul]
  exact (h2 i hi k hk).mono hb
end
end Pl

end
section
set_option maxHeartbeats 400000
set_option Elab.async false
set_option linter.all false
set_option maxRecDepth 100000
set_option exponentiation.threshold 100000
/-! The plain law: forms' worths; the law's own error. -/
namespace Pl
open Wk Ma
abbrev lv (f : List Rat) (i : Nat) : Rat := f.getD i 0
theorem worthM_eq {n : Nat} {E : Mq} {f : List Rat} (S : Sq n E) (fl : f.length = n) : worthM E f = worth n (at2 E) (lv f) := by
  unfold worthM worth
  rw [dotM_sm (by rw [List.length_map, S.len, fl]), fl]
  refine sm_congr fun i hi => ?_
  rw [getD_map (d := []) (by rw [S.len]; exact hi), dotM_sm (by rw [S.row hi, fl]), S.row hi]; rfl
theorem worOk {n D H d h a b c k a' b' c' k' : Nat} {E : Mq} {f : List Rat} (S : Sq n E) (fl : f.length = n) (n8 : n ≤ 8) (hD : Db D d) (hH : Db H h) (cE : ∀ i j, i < n → j < n → Cd D H a b c k (at2 E i j)) (cf : ∀ i, i < n → Cd D H a' b' c' k' (lv f i))
    (e : d * (a + a' + a') + h * (b + b' + b') + 4 * (c + c' + c') < 4500) (e2 : k + k' + k' + 6 < 4500) : WorOk E f ∧ Cd D H (a + a' + a') (b + b' + b') (c + c' + c') (k + k' + k' + 6) (worthM E f) := by
  have cr : ∀ r ∈ E, CbL (Dn D H a b c) k r := fun r hr j hj => by
    obtain ⟨i, hi, q⟩ := getD_mem [] hr
    rw [S.len] at hi
    rw [S.wide r hr] at hj
    rw [← q]; exact cE i j hi hj
  have cfl : CbL (Dn D H a' b' c') k' f := fun i hi => cf i (by omega)
  have d1 := Dn_db hD hH a b c
  have d2 := Dn_db hD hH a' b' c'
  have m1 : d * (a + a' + a') = d * a + d * a' + d * a' := by rw [Nat.mul_add, Nat.mul_add]
  have m2 : h * (b + b' + b') = h * b + h * b' + h * b' := by rw [Nat.mul_add, Nat.mul_add]
  have inn : CbL (Dn D H a b c * Dn D H a' b' c') (k + k' + 3) (E.map fun r => dotM r f) := fun i hi => by
    rw [List.length_map] at hi
    have hr := memAt (d := []) hi
    rw [getD_map (d := []) hi]
    exact (cr _ hr).dot cfl (by rw [S.wide _ hr, fl]) (by rw [S.wide _ hr]; exact n8)
  have hl : (E.map fun r => dotM r f).length = f.length := by rw [List.length_map, S.len, fl]
  refine ⟨⟨by rw [S.len]; omega, fun r hr => (cr r hr).dotOk cfl (by rw [S.wide _ hr, fl]) (by rw [S.wide _ hr]; exact n8) d1 d2 (by omega) (by omega), cfl.dotOk inn hl (by omega) d2 (d1.mul d2) (by omega) (by omega)⟩, ?_⟩
  have q := cfl.dot inn hl (by omega)
  unfold worthM
  rw [Dn_mul, Dn_mul] at q
  have ea : a' + (a + a') = a + a' + a' := by omega
  have eb : b' + (b + b') = b + b' + b' := by omega
  have ec : c' + (c + c') = c + c' + c' := by omega
  rw [ea, eb, ec] at q
  exact Cb.mono q (by omega)
theorem sumQ_appN : ∀ k (l l' : List Rat), l'.length = k → sumQ (l ++ l') = sumQ l + sumQ l'
  | 0, l, l', h => by rw [List.eq_nil_of_length_eq_zero h, List.append_nil]; show _ = _ + (0 : Rat); grind
  | k + 1, l, l', h => by
    have e := split_at (l := l') (a := k) (by omega) 0
    have e2 : l'.drop (k + 1) = [] := List.drop_eq_nil_of_le (by omega)
    rw [e2] at e
    rw [e, ← List.append_assoc, sumQ_snoc, sumQ_snoc, sumQ_appN k l _ (by rw [List.length_take]; omega)]; grind
theorem sumQ_append (l l' : List Rat) : sumQ (l ++ l') = sumQ l + sumQ l' := sumQ_appN _ l l' rfl
theorem rp_succ (n : Nat) (r : List Rat) (z : Nat → Rat) : rp (n + 1) r z = sm n (fun k => r.getD k 0 * z k) + r.getD n 0 * z n := rfl
theorem ets_sum (rows : Mq) (shares lead : List Rat) (n : Nat) : ∀ i, sumQ (ets rows shares lead n i) = sm i fun i => sm n fun a => etm rows shares lead i a
  | 0 => rfl
  | i + 1 => by
    have e : ets rows shares lead n (i + 1) = ets rows shares lead n i ++ (List.range n).map fun a => etm rows shares lead i a := by unfold ets; rw [List.range_succ, List.flatMap_append, List.flatMap_singleton]
    rw [e, sumQ_append, ets_sum rows shares lead n i, sumQ_map]; rfl
theorem ets_mem {rows : Mq} {shares lead : List Rat} {n i : Nat} {x : Rat} (h : x ∈ ets rows shares lead n i) : ∃ j a, j < i ∧ a < n ∧ x = etm rows shares lead j a := by
  unfold ets at h
  obtain ⟨j, hj, hx⟩ := List.mem_flatMap.mp h
  obtain ⟨a, ha, e⟩ := List.mem_map.mp hx
  exact ⟨j, a, List.mem_range.mp hj, List.mem_range.mp ha, e.symm⟩
theorem ets_len (rows : Mq) (shares lead : List Rat) (n : Nat) : ∀ i, (ets rows shares lead n i).length = i * n
  | 0 => by simp [ets]
  | i + 1 => by
    have e : ets rows shares lead n (i + 1) = ets rows shares lead n i ++ (List.range n).map fun a => etm rows shares lead i a := by unfold ets; rw [List.range_succ, List.flatMap_append, List.flatMap_singleton]
    rw [e, List.length_append, ets_len rows shares lead n i, List.length_map, List.length_range, Nat.succ_mul]
theorem sum64 {D b e : Nat} {l : List Rat} (h : ∀ x ∈ l, Cb D b x) (hl : l.length ≤ 64) (hD : Db D e) (he : e < 4500) (hb : b + 6 < 4500) : Fit (sumQ l) := by
  rw [sumQ_sm]
  exact (Cb.sm64 (fun i hi => h _ (memAt hi)) hl).fit hD he hb
section
variable {D n : Nat} {rows : Mq} {shares f : List Rat}
theorem augL_len (h1 : 1 ≤ n) (hr : rows.length = n) : (augL rows shares f).length = n := by
  unfold augL
  rw [List.length_append, List.length_map, List.length_range, hr]
  show n - 1 + 1 = n
  omega
theorem augL_at (hr : rows.length = n) {i : Nat} (hi : i < n - 1) : (augL rows shares f).getD i [] = augRow rows f (dotM shares f) n i := by
  unfold augL
  rw [List.getD_eq_getElem?_getD, List.getElem?_append_left (by rw [List.length_map, List.length_range, hr]; exact hi), ← List.getD_eq_getElem?_getD, hr, getD_mapR hi]
theorem augL_last (hr : rows.length = n) : (augL rows shares f).getD (n - 1) [] = shares ++ [0] := by
  unfold augL
  rw [List.getD_eq_getElem?_getD, List.getElem?_append_right (by rw [List.length_map, List.length_range, hr]; exact Nat.le_refl _), List.length_map, List.length_range, hr, Nat.sub_self]; rfl
theorem augRow_len (n i : Nat) (mid : Rat) : (augRow rows f mid n i).length = n + 1 := by unfold augRow; rw [List.length_append, List.length_map, List.length_range]; rfl
theorem augRow_l {n i k : Nat} {mid : Rat} (hk : k < n) : (augRow rows f mid n i).getD k 0 = (if i = k then (1 : Rat) else 0) - at2 rows i k := by
  unfold augRow
  rw [List.getD_eq_getElem?_getD, List.getElem?_append_left (by rw [List.length_map, List.length_range]; exact hk), ← List.getD_eq_getElem?_getD, getD_mapR hk]
theorem augRow_r {n i : Nat} {mid : Rat} : (augRow rows f mid n i).getD n 0 = f.getD i 0 - mid := by
  unfold augRow
  rw [List.getD_eq_getElem?_getD, List.getElem?_append_right (by rw [List.length_map, List.length_range]; exact Nat.le_refl _), List.length_map, List.length_range, Nat.sub_self]; rfl
theorem snoc_l {l : List Rat} {x : Rat} {n k : Nat} (hl : l.length = n) (hk : k < n) : (l ++ [x]).getD k 0 = l.getD k 0 := by
  rw [List.getD_eq_getElem?_getD, List.getElem?_append_left (by omega), ← List.getD_eq_getElem?_getD]
theorem snoc_r {l : List Rat} {x : Rat} {n : Nat} (hl : l.length = n) : (l ++ [x]).getD n 0 = x := by
  rw [List.getD_eq_getElem?_getD, List.getElem?_append_right (by omega), hl, Nat.sub_self]; rfl
end
/-- what is to hold of the law's own error -/
structure LE (D H n : Nat) (d : Wd) (f : List Rat) : Prop where
  ok : LerrOk d.1 d.2 f
  ahead : Ahead n (at2 d.1) (sv d) (lv f) (lv (leadM d.1 d.2 f))
  eq : lerrM d.1 d.2 f = err n (sv d) (lv f) (lv (leadM d.1 d.2 f))
theorem lerr_all {D H n : Nat} {d : Wd} {f : List Rat} (w : Wl D n d) (n3 : n ≤ 3) (hH : Db H 1509) (cG : ∀ i k, i < n → k < n → Cd D H 0 1 0 1509 (at2 (invM (backM d)) i k)) (fl : f.length = n) (cf : ∀ i, i < n → Cd D H 1 0 1 37 (lv f i)) : LE D H n d f := by
  obtain ⟨rows, shares⟩ := d
  have hD := w.hD
  have n2 := w.n2
  have rl : rows.length = n := w.sq.len
  have sl : shares.length = n := w.sl
  have rw' : ∀ r ∈ rows, r.length = n := w.sq.wide
  have rrow : ∀ i, i < n → (rows.getD i []).length = n := fun i hi => w.sq.row hi
  have c1 : ∀ i, i < n → Cd D H 1 0 0 29 (shares.getD i 0) := fun i hi => cs1 w H hi
  have c2 : ∀ i k, i < n → k < n → Cd D H 2 0 0 60 (at2 rows i k) := fun i k hi hk => cQ2 w H hi hk
  have W : Walk n (at2 rows) (lv shares) := w.W
  have ps : ∀ i, i < n → 0 < lv shares i := w.ps
  have pQ : ∀ i k, i < n → k < n → 0 < at2 rows i k := w.pQ
  have mid : dotM shares f = sm n fun i => lv shares i * lv f i := by rw [dotM_sm (by rw [fl, sl]), sl]
  have cm : Cd D H 2 0 1 68 (dotM shares f) := by
    rw [mid]
    exact Cd.sm4 (fun i hi => (c1 i hi).mul (cf i hi)) (by omega)
  generalize hA : augL rows shares f = A
  have Al : A.length = n := by rw [← hA]; exact augL_len (by omega) rl
  have Aat : ∀ i, i < n - 1 → A.getD i [] = augRow rows f (dotM shares f) n i := fun i hi => by rw [← hA]; exact augL_at rl hi
  have Ala : A.getD (n - 1) [] = shares ++ [0] := by rw [← hA]; exact augL_last rl
  have Aw : ∀ r ∈ A, r.length = n + 1 := fun r hr => by
    obtain ⟨i, hi, e⟩ := getD_mem [] hr
    rw [Al] at hi
    rw [← e]
    by_cases c : i < n - 1
    · rw [Aat i c, augRow_len]
    · have : i = n - 1 := by omega
      rw [this, Ala, List.length_append, sl]; rfl
  have z69 : Sz 69 0 := ⟨1, ⟨by decide, Nat.one_le_two_pow⟩, cb_zero⟩
  have As : ∀ r ∈ A, ∀ k, Sz 69 (r.getD k 0) := fun r hr k => by
    have hw := Aw r hr
    by_cases hk : k < n + 1
    · obtain ⟨i, hi, e⟩ := getD_mem [] hr
      rw [Al] at hi
      rw [← e]
      by_cases c : i < n - 1
      · rw [Aat i c]
        by_cases hk2 : k < n
        · rw [augRow_l hk2]
          have q1 : Cd D H 2 0 0 60 (if i = k then (1 : Rat) else 0) := by
            split
            · exact (cd_one hD hH).mono (by decide)
            · exact cd_zero
          exact ⟨_, (Dn_db hD hH 2 0 0).mono (by decide), Cd.mono (q1.sub (c2 i k hi hk2)) (by decide)⟩
        · have : k = n := by omega
          rw [this, augRow_r]
          exact ⟨_, (Dn_db hD hH 2 0 1).mono (by decide), ((cf i hi).up hD hH 1 0 0 (k' := 68) (by decide) rfl rfl rfl).sub cm⟩
      · have : i = n - 1 := by omega
        rw [this, Ala]
        by_cases hk2 : k < n
        · rw [snoc_l sl hk2]
          exact ⟨_, (Dn_db hD hH 1 0 0).mono (by decide), (c1 k hk2).mono (by decide)⟩
        · have : k = n := by omega
          rw [this, snoc_r sl]
          exact z69
    · rw [List.getD_eq_getElem?_getD, List.getElem?_eq_none (by omega)]
      exact z69
  have mean0 : sm n (fun i => lv shares i * (lv f i - sm n fun k => lv shares k * lv f k)) = 0 := by
    rw [sm_congr (g := fun i => lv shares i * lv f i - (sm n fun k => lv shares k * lv f k) * lv shares i) (fun i _ => by grind), sm_sub, sm_mul, W.one]
    grind
  obtain ⟨n', en⟩ : ∃ n', n = n' + 1 := ⟨n - 1, by omega⟩
  have rowz : ∀ z : Nat → Rat, ∀ i, i < n - 1 → rp (n + 1) (A.getD i []) z = (z i - sm n (fun k => at2 rows i k * z k)) + (lv f i - dotM shares f) * z n := fun z i hi => by
    rw [rp_succ, Aat i hi, augRow_r]
    congr 1
    rw [sm_congr (g := fun k => (if k = i then z k else 0) - at2 rows i k * z k) (fun k hk => by
      rw [augRow_l hk]
      by_cases e : k = i
      · rw [if_pos e, if_pos e.symm]; grind
      · rw [if_neg e, if_neg (fun h => e h.symm)]; grind), sm_sub, sm_delta (by omega) z]
  have lastz : ∀ z : Nat → Rat, rp (n + 1) (A.getD (n - 1) []) z = sm n (fun k => lv shares k * z k) := fun z => by
    rw [rp_succ, Ala, snoc_r sl, sm_congr (g := fun k => lv shares k * z k) (fun k hk => by rw [snoc_l sl hk])]
    grind
  have NS : ∀ z : Nat → Rat, (∀ k, n ≤ k → z k = 0) → (∀ s, s < n → rp (n + 1) (A.getD s []) z = 0) → ∀ k, k < n → z k = 0 := fun z hz h => by
    have h1 := h (n - 1) (by omega)
    rw [lastz] at h1
    refine W.zero ps pQ (fun i hi => ?_) h1
    have q : ∀ i, i < n' + 1 → z i - sm (n' + 1) (fun k => at2 rows i k * z k) = 0 := by
      rw [en] at W ps
      refine W.last (f := fun _ => 0) (ps n' (by omega)) (fun i hi => ?_) (by rw [sm_congr (g := fun _ => 0) (fun i _ => by grind), sm_zero])
      have := h i (by omega)
      rw [rowz z i (by omega), hz n (Nat.le_refl _), en] at this
      grind
    rw [← en] at q
    have := q i hi
    grind
  have I := ste_all Al Aw As NS
  have In := I n (Nat.le_refl _)
  have sol := ste_solves In
  have bb : ∀ i, i ≤ n → b4 69 i ≤ 4437 := fun i hi => Nat.le_trans (b4_mono 69 hi) (Nat.le_trans (b4_mono 69 n3) (by decide))
  have bb2 : ∀ i, i < n → b4 69 i ≤ 1109 := fun i hi => Nat.le_trans (b4_mono 69 (show i ≤ 2 by omega)) (by decide)
  have fitD : ∀ i, i < n → Fit (shares.getD i 0) := fun i hi => (c1 i hi).fit hD hH (by decide) (by decide)
  have dk : DotOk shares f := CbL.dotOk (D := Dn D H 1 0 0) (E := Dn D H 1 0 1) (b := 29) (c := 37) (e := 29) (f := 33) (fun i hi => c1 i (by omega)) (fun i hi => cf i (by omega)) (by omega) (by omega) ((Dn_db hD hH 1 0 0).mono (by decide)) ((Dn_db hD hH 1 0 1).mono (by decide)) (by decide) (by decide)
  have fitQ : ∀ r ∈ rows, ∀ q ∈ r, Fit q := fun r hr q hq => by
    obtain ⟨i, hi, e⟩ := getD_mem [] hr
    obtain ⟨k, hk, e2⟩ := getD_mem 0 hq
    rw [rl] at hi
    rw [rw' r hr] at hk
    rw [← e2, ← e]; exact (c2 i k hi hk).fit hD hH (by decide) (by decide)
  have ah : AheadOk rows shares f := by
    refine ⟨by omega, by omega, by omega, by omega, fun r hr => by rw [rl]; exact rw' r hr, dk, fitQ, ?_, ?_, ?_, ?_, ?_, ?_, ?_⟩ <;> rw [rl, hA]
    · exact fun i hi => (I i hi).len
    · exact fun i hi => (I i hi).wd
    · intro i hi r hr q hq
      obtain ⟨k, hk, e⟩ := getD_mem 0 hq
      rw [← e]
      exact ((I i hi).sz r hr k).fit (by have := bb i hi; omega)
    · exact fun i hi => (lstep NS (I i (by omega)) hi).piv
    · exact fun i hi => (lstep NS (I i (by omega)) hi).pz
    · exact fun i hi q hq => ((lstep NS (I i (by omega)) hi).hsz q hq).fit (by have := bb2 i hi; omega)
    · exact fun i s hi hs q hq => ((lstep NS (I i (by omega)) hi).psz s hs q hq).fit (by have := bb2 i hi; omega)
  have ll : (leadM rows shares f).length = n := by unfold leadM; rw [List.length_map, rl, hA, In.len]
  have la : ∀ k, k < n → (leadM rows shares f).getD k 0 = at2 (stL A n n) k n := fun k hk => by
    unfold leadM
    rw [rl, hA, getD_map (d := []) (by rw [In.len]; exact hk)]; rfl
  have A2 : Ahead n (at2 rows) (lv shares) (lv f) (lv (leadM rows shares f)) := by
    have hm : sm n (fun i => lv shares i * lv (leadM rows shares f) i) = 0 := by
      have := sol (n - 1) (by omega)
      unfold at2 at this
      rw [Ala, snoc_r sl] at this
      rw [← this]
      exact sm_congr fun k hk => by rw [snoc_l sl hk]; show _ * (leadM rows shares f).getD k 0 = _; rw [la k hk]; rfl
    refine ⟨?_, hm⟩
    have q : ∀ i, i < n' + 1 → lv (leadM rows shares f) i - sm (n' + 1) (fun k => at2 rows i k * lv (leadM rows shares f) k) = lv f i - sm n (fun k => lv shares k * lv f k) := by
      rw [en] at W ps mean0
      rw [en]
      refine W.last (f := fun i => lv f i - sm (n' + 1) (fun k => lv shares k * lv f k)) (ps n' (by omega)) (fun i hi => ?_) mean0
      have := sol i (by omega)
      have e1 : at2 A i n = lv f i - dotM shares f := by unfold at2; rw [Aat i (by omega), augRow_r]
      rw [e1, mid, sm_congr (g := fun k => (if k = i then lv (leadM rows shares f) k else 0) - at2 rows i k * lv (leadM rows shares f) k) (fun k hk => by
        have e2 : at2 A i k = (if i = k then (1 : Rat) else 0) - at2 rows i k := by
          show (A.getD i []).getD k 0 = _
          rw [Aat i (by omega), augRow_l hk]
        rw [e2, ← la k hk]
        show _ * lv (leadM rows shares f) k = _
        by_cases e : k = i
        · rw [if_pos e, if_pos e.symm]; grind
        · rw [if_neg e, if_neg (fun h => e h.symm)]; grind), sm_sub, sm_delta (by omega) (lv (leadM rows shares f))] at this
      rw [en] at this
      exact this
    rw [← en] at q
    exact q
  have le := inv_ahead W (whole_inv w).2 A2
  have cl : ∀ i, i < n → Cd D H 2 1 1 1578 (lv (leadM rows shares f) i) := fun i hi => by
    have e := le i hi
    have e2 : lv (leadM rows shares f) i = sm n (fun k => at2 (invM (backM (rows, shares))) i k * lv f k) - sm n (fun k => lv shares k * lv f k) := by rw [e]; grind
    rw [e2]
    have q1 : Cd D H 1 1 1 1548 (sm n (fun k => at2 (invM (backM (rows, shares))) i k * lv f k)) := Cd.sm4 (fun k hk => (cG i k hi hk).mul (cf k hk)) (by omega)
    have q2 : Cd D H 2 0 1 68 (sm n (fun k => lv shares k * lv f k)) := by rw [← mid]; exact cm
    exact (q1.up hD hH 1 0 0 (k' := 1577) (by decide) rfl rfl rfl).sub (q2.up hD hH 0 1 0 (k' := 1577) (by decide) rfl rfl rfl)
  generalize hlead : leadM rows shares f = lead at *
  have dotE : ∀ i, i < n → dotM (rows.getD i []) lead = sm n fun k => at2 rows i k * lv lead k := fun i hi => by rw [dotM_sm (by rw [ll, rrow i hi]), rrow i hi]; rfl
  have g1 : ∀ i a, i < n → a < n → Cd D H 4 1 1 1641 (lead.getD a 0 - dotM (rows.getD i []) lead) := fun i a hi ha => by
    have q1 : Cd D H 4 1 1 1640 (dotM (rows.getD i []) lead) := by
      rw [dotE i hi]
      exact Cd.sm4 (fun k hk => (c2 i k hi hk).mul (cl k hk)) (by omega)
    exact ((cl a ha).up hD hH 2 0 0 (k' := 1640) (by decide) rfl rfl rfl).sub q1
  have g2 : ∀ i a, i < n → a < n → Cd D H 3 0 0 89 (shares.getD i 0 * at2 rows i a) := fun i a hi ha => (c1 i hi).mul (c2 i a hi ha)
  have g3 : ∀ i a, i < n → a < n → Cd D H 7 1 1 1730 (shares.getD i 0 * at2 rows i a * (lead.getD a 0 - dotM (rows.getD i []) lead)) := fun i a hi ha => (g2 i a hi ha).mul (g1 i a hi ha)
  have g4 : ∀ i a, i < n → a < n → Cd D H 11 2 2 3371 (etm rows shares lead i a) := fun i a hi ha => (g3 i a hi ha).mul (g1 i a hi ha)
  have d1 := Dn_db hD hH 2 0 0
  have d2 := Dn_db hD hH 2 1 1
  have dd : ∀ r ∈ rows, DotOk r lead := fun r hr => by
    obtain ⟨i, hi, e⟩ := getD_mem [] hr
    rw [rl] at hi
    rw [← e]
    exact CbL.dotOk (D := Dn D H 2 0 0) (E := Dn D H 2 1 1) (b := 60) (c := 1578) (fun k hk => c2 i k hi (by rw [rrow i hi] at hk; exact hk)) (fun k hk => cl k (by omega)) (by rw [rrow i hi, ll]) (by rw [rrow i hi]; omega) d1 d2 (by decide) (by decide)
  have lf : ∀ q ∈ lead, Fit q := fun q hq => by
    obtain ⟨i, hi, e⟩ := getD_mem 0 hq
    rw [← e]; exact (cl i (by omega)).fit hD hH (by decide) (by decide)
  have sf : ∀ q ∈ shares, Fit q := fun q hq => by
    obtain ⟨i, hi, e⟩ := getD_mem 0 hq
    rw [← e]; exact fitD i (by omega)
  have g5 : ∀ i a, i < n → a ≤ n → Fit (sumQ (ets rows shares lead n i ++ (List.range a).map fun a => etm rows shares lead i a)) := fun i a hi ha => by
    refine sum64 (D := Dn D H 11 2 2) (b := 3371) (fun x hx => ?_) ?_ (Dn_db hD hH 11 2 2) (by decide) (by decide)
    · rcases List.mem_append.mp hx with y | y
      · obtain ⟨j, a', hj, ha', e⟩ := ets_mem y
        rw [e]; exact g4 j a' (by omega) ha'
      · obtain ⟨a', ha', e⟩ := List.mem_map.mp y
        have := List.mem_range.mp ha'
        rw [← e]; exact g4 i a' hi (by omega)
    · rw [List.length_append, ets_len, List.length_map, List.length_range]
      have : i * n ≤ 3 * 3 := Nat.mul_le_mul (by omega) n3
      omega
  subst hlead
  refine ⟨⟨ah, ?_, lf, sf, dd, ?_, ?_, ?_, ?_, ?_⟩, A2, ?_⟩
  · show (leadM rows shares f).length = rows.length
    rw [ll, rl]
  · intro i a hi ha
    exact (g1 i a (by rw [← rl]; exact hi) (by rw [← rl]; exact ha)).fit hD hH (by decide) (by decide)
  · intro i a hi ha
    exact (g2 i a (by rw [← rl]; exact hi) (by rw [← rl]; exact ha)).fit hD hH (by decide) (by decide)
  · intro i a hi ha
    exact (g3 i a (by rw [← rl]; exact hi) (by rw [← rl]; exact ha)).fit hD hH (by decide) (by decide)
  · intro i a hi ha
    exact (g4 i a (by rw [← rl]; exact hi) (by rw [← rl]; exact ha)).fit hD hH (by decide) (by decide)
  · intro i a hi ha
    have := g5 i a (by rw [← rl]; exact hi) (by rw [← rl]; exact ha)
    rw [← rl] at this
    exact this
  · show lerrM rows shares f = err n (lv shares) (lv f) (lv (leadM rows shares f))
    rw [← err_own W A2]
    unfold lerrM
    rw [rl, ets_sum]
    refine sm_congr fun i hi => sm_congr fun a ha => ?_
    unfold etm
    rw [dotE i hi]
end Pl

end
section
set_option maxHeartbeats 400000
set_option Elab.async false
set_option linter.all false
set_option maxRecDepth 100000
set_option exponentiation.threshold 100000
/-! The plain law: grids, their lists, their common denominator. -/
namespace Pl
open Wk Ma
structure Gg (g : Mq) (n m : Nat) : Prop where
  n2 : 2 ≤ n
  n3 : n ≤ 3
  m2 : 2 ≤ m
  m3 : m ≤ 3
  nm : n * m ≤ 6
  len : g.length = n
  wide : ∀ r ∈ g, r.length = m
  wt : ∀ r ∈ g, ∀ q ∈ r, q ∈ wts
theorem gg_of {g : Mq} {n m : Nat} (h : Gw g n m) : Gg g n m := by
  have k : ∀ d ∈ dims, 2 ≤ d.1 ∧ d.1 ≤ 3 ∧ 2 ≤ d.2 ∧ d.2 ≤ 3 ∧ d.1 * d.2 ≤ 6 := by decide
  have q := k _ h.dim
  dsimp only at q
  obtain ⟨a, b, c, d, e⟩ := q
  exact ⟨by omega, by omega, by omega, by omega, by have : ((n * m : Nat) : Int) ≤ 6 := by rw [Int.natCast_mul]; exact e
                                                    omega, h.len, h.wide, h.wt⟩
/-- a table of n rows as wide as m -/
structure Rc (n m : Nat) (A : Mq) : Prop where
  len : A.length = n
  wide : ∀ r ∈ A, r.length = m
theorem Rc.row {n m : Nat} {A : Mq} (S : Rc n m A) {i : Nat} (hi : i < n) : (A.getD i []).length = m := S.wide _ (memAt (by rw [S.len]; exact hi))
theorem Rc.sq {n : Nat} {A : Mq} (S : Rc n n A) : Sq n A := ⟨S.len, S.wide⟩
theorem Sq.rc {n : Nat} {A : Mq} (S : Sq n A) : Rc n n A := ⟨S.len, S.wide⟩
theorem Rc.ext {n m : Nat} {A B : Mq} (S : Rc n m A) (S' : Rc n m B) (h : ∀ i j, i < n → j < m → at2 A i j = at2 B i j) : A = B := by
  refine extD [] (by rw [S.len, S'.len]) fun i hi => ?_
  rw [S.len] at hi
  refine extD 0 (by rw [S.row hi, S'.row hi]) fun j hj => ?_
  rw [S.row hi] at hj
  exact h i j hi hj
theorem colM_len (g : Mq) (j : Nat) : (colM g j).length = g.length := by unfold colM; rw [List.length_map]
theorem colM_at {n m : Nat} {A : Mq} (S : Rc n m A) {i j : Nat} (hi : i < n) : (colM A j).getD i 0 = at2 A i j := by
  unfold colM
  rw [getD_map (d := []) (by rw [S.len]; exact hi)]; rfl
theorem cols_rc {n m : Nat} {A : Mq} (S : Rc n m A) : Rc m n (colsM A m) := by
  refine ⟨by unfold colsM; rw [List.length_map, List.length_range], fun r hr => ?_⟩
  unfold colsM at hr
  obtain ⟨j, _, e⟩ := List.mem_map.mp hr
  rw [← e, colM_len, S.len]
theorem cols_get {A : Mq} {m j : Nat} (hj : j < m) : (colsM A m).getD j [] = colM A j := by unfold colsM; rw [getD_mapR hj]
theorem cols_at {n m : Nat} {A : Mq} (S : Rc n m A) {i j : Nat} (hi : i < n) (hj : j < m) : at2 (colsM A m) j i = at2 A i j := by
  show ((colsM A m).getD j []).getD i 0 = _
  rw [cols_get hj, colM_at S hi]
theorem nil_at {α : Type} {l : List α} {d : α} {i : Nat} (h : l.length ≤ i) : l.getD i d = d := by
  rw [List.getD_eq_getElem?_getD, List.getElem?_eq_none h]; rfl
theorem cols_flip {n m : Nat} {A : Mq} (S : Rc n m A) : at2 (colsM A m) = Ma.flip (at2 A) := by
  funext j i
  show _ = at2 A i j
  by_cases hj : j < m
  · by_cases hi : i < n
    · exact cols_at S hi hj
    · show ((colsM A m).getD j []).getD i 0 = (A.getD i []).getD j 0
      rw [cols_get hj, nil_at (by rw [colM_len, S.len]; omega), nil_at (l := A) (by rw [S.len]; omega)]; rfl
  · show ((colsM A m).getD j []).getD i 0 = (A.getD i []).getD j 0
    rw [nil_at (l := colsM A m) (by rw [(cols_rc S).len]; omega)]
    by_cases hi : i < n
    · rw [nil_at (l := A.getD i []) (by rw [S.row hi]; omega)]; rfl
    · rw [nil_at (l := A) (by rw [S.len]; omega)]; rfl
theorem tr_eq {n m : Nat} {A : Mq} (S : Rc n m A) (hn : 0 < n) : tr A = colsM A m := by
  unfold tr
  rw [S.row hn]; rfl
theorem trM_eq (m : Nat) (A : Mq) : trM m A = colsM A m := rfl
/-! ### products -/
theorem prod_rc {n k l : Nat} {A B : Mq} (S : Rc n k A) (S' : Rc k l B) (hk : 0 < k) : Rc n l (prodM A B) := by
  refine ⟨by unfold prodM; rw [List.length_map, S.len], fun r hr => ?_⟩
  unfold prodM at hr
  obtain ⟨r', _, e⟩ := List.mem_map.mp hr
  rw [← e, List.length_map, S'.row hk, trM_eq, (cols_rc S').len]
theorem prod_at {n k l : Nat} {A B : Mq} (S : Rc n k A) (S' : Rc k l B) (hk : 0 < k) {i j : Nat} (hi : i < n) (hj : j < l) : at2 (prodM A B) i j = sm k fun t => at2 A i t * at2 B t j := by
  show ((prodM A B).getD i []).getD j 0 = _
  unfold prodM
  rw [getD_map (d := []) (by rw [S.len]; exact hi), S'.row hk, trM_eq, getD_map (d := []) (by rw [(cols_rc S').len]; exact hj), cols_get hj, dotM_sm (by rw [colM_len, S'.len, S.row hi]), S.row hi]
  exact sm_congr fun t ht => by rw [colM_at S' ht]; rfl
theorem prodOk {n k l D b E c e f : Nat} {A B : Mq} (S : Rc n k A) (S' : Rc k l B) (hk : 0 < k) (hk8 : k ≤ 8) (hn : n ≤ 900) (hl : l ≤ 900) (hD : Db D e) (hE : Db E f) (cA : ∀ i t, i < n → t < k → Cb D b (at2 A i t)) (cB : ∀ t j, t < k → j < l → Cb E c (at2 B t j)) (k1 : e + f < 4500) (k2 : b + c + 3 < 4500) : ProdOk A B where
  ne := fun z => by have := S'.len; rw [z] at this; simp at this; omega
  l1 := by rw [S.len]; exact hn
  l2 := by rw [S'.len]; omega
  wide := ⟨l, hl, S'.wide⟩
  dots := fun r hr col hc => by
    rw [S'.row hk, trM_eq] at hc
    obtain ⟨i, hi, e1⟩ := getD_mem [] hr
    obtain ⟨j, hj, e2⟩ := getD_mem [] hc
    rw [S.len] at hi
    rw [(cols_rc S').len] at hj
    rw [cols_get hj] at e2
    rw [← e1, ← e2]
    exact CbL.dotOk (fun t ht => cA i t hi (by rw [S.row hi] at ht; exact ht)) (fun t ht => by
      rw [colM_len, S'.len] at ht
      rw [colM_at S' ht]; exact cB t j ht hj) (by rw [colM_len, S'.len, S.row hi]) (by rw [S.row hi]; exact hk8) hD hE k1 k2
/-! ### lists flattened -/
theorem flat_len : ∀ {n m : Nat} {A : Mq}, Rc n m A → A.flatten.length = n * m
  | n, m, [], S => by rw [← S.len]; simp
  | n, m, r :: A, S => by
    have S' : Rc A.length m A := ⟨rfl, fun r hr => S.wide r (List.mem_cons_of_mem _ hr)⟩
    rw [List.flatten_cons, List.length_append, flat_len S', S.wide r List.mem_cons_self, ← S.len, List.length_cons, Nat.succ_mul, Nat.add_comm]
theorem flat_at : ∀ {n m : Nat} {A : Mq}, Rc n m A → ∀ {i j : Nat}, i < n → j < m → A.flatten.getD (i * m + j) 0 = at2 A i j
  | n, m, [], S, i, j, hi, _ => by have := S.len; simp at this; omega
  | n, m, r :: A, S, 0, j, _, hj => by
    have hr := S.wide r List.mem_cons_self
    rw [List.flatten_cons, Nat.zero_mul, Nat.zero_add, List.getD_eq_getElem?_getD, List.getElem?_append_left (by omega), ← List.getD_eq_getElem?_getD]; rfl
  | n, m, r :: A, S, i + 1, j, hi, hj => by
    have hr := S.wide r List.mem_cons_self
    have S' : Rc A.length m A := ⟨rfl, fun r hr => S.wide r (List.mem_cons_of_mem _ hr)⟩
    have hl := S.len
    rw [List.length_cons] at hl
    have e : (i + 1) * m + j = m + (i * m + j) := by rw [Nat.succ_mul]; omega
    rw [List.flatten_cons, e, List.getD_eq_getElem?_getD, List.getElem?_append_right (by omega), hr, Nat.add_sub_cancel_left, ← List.getD_eq_getElem?_getD, flat_at S' (by omega) hj]; rfl
theorem flat_at' {n m : Nat} {A : Mq} (S : Rc n m A) {q : Nat} (hq : q < n * m) : A.flatten.getD q 0 = at2 A (q / m) (q % m) := by
  obtain ⟨h1, h2⟩ := pair_lt hq
  rw [← flat_at S h1 h2, Nat.mul_comm, Nat.div_add_mod]
/-! ### over the sum -/
theorem ov_len (ds : List Rat) : (ovM ds).length = ds.length := by unfold ovM; rw [List.length_map]
theorem ov_at {ds : List Rat} {i : Nat} (hi : i < ds.length) : (ovM ds).getD i 0 = ds.getD i 0 / sumQ ds := by unfold ovM; rw [getD_map (d := 0) hi]
section
variable {g : Mq} {n m : Nat}
theorem Gg.rc (h : Gg g n m) : Rc n m g := ⟨h.len, h.wide⟩
theorem Gg.flip (h : Gg g n m) : Gg (colsM g m) m n where
  n2 := h.m2
  n3 := h.m3
  m2 := h.n2
  m3 := h.n3
  nm := by rw [Nat.mul_comm]; exact h.nm
  len := (cols_rc h.rc).len
  wide := (cols_rc h.rc).wide
  wt := fun r hr q hq => by
    obtain ⟨j, hj, e⟩ := getD_mem [] hr
    rw [(cols_rc h.rc).len] at hj
    rw [cols_get hj] at e
    obtain ⟨i, hi, e2⟩ := getD_mem 0 hq
    rw [← e, colM_len, h.len] at hi
    rw [← e, colM_at h.rc hi] at e2
    rw [← e2]
    exact h.wt _ (memAt (by rw [h.len]; exact hi)) _ (memAt (by rw [h.rc.row hi]; exact hj))
theorem Gg.at_ (h : Gg g n m) {i j : Nat} (hi : i < n) (hj : j < m) : at2 g i j ∈ wts := h.wt _ (memAt (by rw [h.len]; exact hi)) _ (memAt (by rw [h.rc.row hi]; exact hj))
theorem wts_pos : ∀ q ∈ wts, 0 < q := by decide +kernel
theorem wts_two : ∀ q ∈ wts, q * 2 = (((q * 2).num.natAbs : Int) : Rat) ∧ 1 ≤ (q * 2).num.natAbs ∧ (q * 2).num.natAbs ≤ 10 := by decide +kernel
theorem Gg.pos (h : Gg g n m) : Pos n m (at2 g) := fun i j hi hj => wts_pos _ (h.at_ hi hj)
theorem row_sum (h : Gg g n m) {i : Nat} (hi : i < n) : sumQ (g.getD i []) = rs m (at2 g) i := by rw [sumQ_sm, h.rc.row hi]; rfl
theorem col_sum (h : Gg g n m) {j : Nat} : sumQ (colM g j) = cs n (at2 g) j := by
  rw [sumQ_sm, colM_len, h.len]
  exact sm_congr fun i hi => colM_at h.rc hi
theorem sums_at (h : Gg g n m) {i : Nat} (hi : i < n) : (g.map sumQ).getD i 0 = rs m (at2 g) i := by rw [getD_map (d := []) (by rw [h.len]; exact hi), row_sum h hi]
theorem sums_sum (h : Gg g n m) : sumQ (g.map sumQ) = al n m (at2 g) := by
  rw [sumQ_sm, List.length_map, h.len]
  exact sm_congr fun i hi => sums_at h hi
theorem sbf_rc (h : Gg g n m) : Rc n m (sbf g) := by
  refine ⟨by unfold sbf; rw [List.length_map, h.len], fun r hr => ?_⟩
  unfold sbf at hr
  obtain ⟨r', hr', e⟩ := List.mem_map.mp hr
  rw [← e, ov_len, h.wide r' hr']
theorem sbf_get (h : Gg g n m) {i : Nat} (hi : i < n) : (sbf g).getD i [] = ovM (g.getD i []) := by unfold sbf; rw [getD_map (d := []) (by rw [h.len]; exact hi)]
theorem ovr_at (h : Gg g n m) {i j : Nat} (hi : i < n) (hj : j < m) : (ovM (g.getD i [])).getD j 0 = fa m (at2 g) i j := by
  rw [ov_at (by rw [h.rc.row hi]; exact hj), row_sum h hi]; rfl
theorem ovc_at (h : Gg g n m) {i j : Nat} (hi : i < n) : (ovM (colM g j)).getD i 0 = ne n (at2 g) j i := by
  rw [ov_at (by rw [colM_len, h.len]; exact hi), col_sum h, colM_at h.rc hi]; rfl
theorem sbf_at (h : Gg g n m) {i j : Nat} (hi : i < n) (hj : j < m) : at2 (sbf g) i j = fa m (at2 g) i j := by
  show ((sbf g).getD i []).getD j 0 = _
  rw [sbf_get h hi, ovr_at h hi hj]
theorem tr_g (h : Gg g n m) : tr g = colsM g m := tr_eq h.rc (by have := h.n2; omega)
theorem fbs_rc (h : Gg g n m) : Rc m n (fbs g) := by unfold fbs; rw [tr_g h]; exact sbf_rc h.flip
theorem fbs_get (h : Gg g n m) {j : Nat} (hj : j < m) : (fbs g).getD j [] = ovM (colM g j) := by unfold fbs; rw [tr_g h, sbf_get h.flip hj, cols_get hj]
theorem fbs_at (h : Gg g n m) {i j : Nat} (hi : i < n) (hj : j < m) : at2 (fbs g) j i = ne n (at2 g) j i := by
  show ((fbs g).getD j []).getD i 0 = _
  rw [fbs_get h hj, ovc_at h hi]
end
/-! ### whole numbers -/
def smN : Nat → (Nat → Nat) → Nat
  | 0, _ => 0
  | n + 1, f => smN n f + f n
def prN : Nat → (Nat → Nat) → Nat
  | 0, _ => 1
  | n + 1, f => prN n f * f n
theorem smN_le {n B : Nat} {f : Nat → Nat} (h : ∀ i, i < n → f i ≤ B) : smN n f ≤ n * B := by
  induction n with
  | zero => exact Nat.zero_le _
  | succ n ih =>
    have h1 := ih fun i hi => h i (by omega)
    have h2 := h n (by omega)
    rw [Nat.succ_mul]
    show smN n f + f n ≤ _
    omega
theorem smN_mem {n : Nat} {f : Nat → Nat} : ∀ i, i < n → f i ≤ smN n f := by
  induction n with
  | zero => intro i hi; omega
  | succ n ih =>
    intro i hi
    show _ ≤ smN n f + f n
    by_cases e : i = n
    · rw [e]; omega
    · have := ih i (by omega); omega
theorem smN_mono {n : Nat} {f g : Nat → Nat} (h : ∀ i, i < n → f i ≤ g i) : smN n f ≤ smN n g := by
  induction n with
  | zero => exact Nat.le_refl _
  | succ n ih =>
    have h1 := ih fun i hi => h i (by omega)
    have h2 := h n (by omega)
    show smN n f + f n ≤ smN n g + g n
    omega
theorem prN_le {n B : Nat} {f : Nat → Nat} (h : ∀ i, i < n → f i ≤ B) : prN n f ≤ B ^ n := by
  induction n with
  | zero => exact Nat.le_refl _
  | succ n ih => rw [Nat.pow_succ]; exact Nat.mul_le_mul (ih fun i hi => h i (by omega)) (h n (by omega))
theorem prN_pos {n : Nat} {f : Nat → Nat} (h : ∀ i, i < n → 0 < f i) : 0 < prN n f := by
  induction n with
  | zero => exact Nat.one_pos
  | succ n ih => exact Nat.mul_pos (ih fun i hi => h i (by omega)) (h n (by omega))
theorem prN_dvd {n : Nat} {f : Nat → Nat} : ∀ i, i < n → f i ∣ prN n f := by
  induction n with
  | zero => intro i hi; omega
  | succ n ih =>
    intro i hi
    by_cases e : i = n
    · rw [e]; exact Nat.dvd_mul_left _ _
    · exact Nat.dvd_trans (ih i (by omega)) (Nat.dvd_mul_right _ _)
theorem smN_cast {n : Nat} {f : Nat → Nat} {x : Nat → Rat} {c : Rat} (h : ∀ i, i < n → x i * c = ((f i : Int) : Rat)) : sm n x * c = ((smN n f : Int) : Rat) := by
  induction n with
  | zero => show (0 : Rat) * c = ((0 : Int) : Rat); rw [Rat.zero_mul]; rfl
  | succ n ih =>
    show (sm n x + x n) * c = (((smN n f + f n : Nat) : Int) : Rat)
    rw [Int.natCast_add, Rat.intCast_add, ← ih fun i hi => h i (by omega), ← h n (by omega)]; grind
/-- W over R, where R goes into D -/
theorem frac {D e R W : Nat} {x y : Rat} (hx : x * 2 = ((W : Int) : Rat)) (hy : y * 2 = ((R : Int) : Rat)) (hR : 0 < R) (hW : W ≤ R) (hd : R ∣ D) (hD : Db D e) : Cb D e (x / y) := by
  obtain ⟨k, hk⟩ := hd
  have y0 : y ≠ 0 := fun z => by
    rw [z, Rat.zero_mul] at hy
    have : ((0 : Int) : Rat) = ((R : Int) : Rat) := hy
    rw [Rat.intCast_inj] at this
    omega
  refine ⟨((W * k : Nat) : Int), ?_, ?_⟩
  · have := Rat.div_mul_cancel (a := x) y0
    rw [hk, Int.natCast_mul, Int.natCast_mul, Rat.intCast_mul, Rat.intCast_mul, ← hx, ← hy]
    grind
  · rw [Int.natAbs_natCast]
    exact Nat.le_trans (Nat.mul_le_mul_right k hW) (by rw [← hk]; exact hD.2)
/-- one denominator of all chances and shares -/
structure GD (D : Nat) (g : Mq) (n m : Nat) : Prop where
  hD : Db D 29
  fa : ∀ i j, i < n → j < m → Cb D 29 (fa m (at2 g) i j)
  ne : ∀ i j, i < n → j < m → Cb D 29 (ne n (at2 g) j i)
  sF : ∀ i, i < n → Cb D 29 (sF n m (at2 g) i)
  sS : ∀ j, j < m → Cb D 29 (sS n m (at2 g) j)
  sU : ∀ i j, i < n → j < m → Cb D 29 (at2 g i j / al n m (at2 g))
theorem gd_of {g : Mq} {n m : Nat} (h : Gg g n m) : ∃ D, GD D g n m := by
  let W : Nat → Nat → Nat := fun i j => (at2 g i j * 2).num.natAbs
  have hW : ∀ i j, i < n → j < m → at2 g i j * 2 = ((W i j : Int) : Rat) ∧ 1 ≤ W i j ∧ W i j ≤ 10 := fun i j hi hj => wts_two _ (h.at_ hi hj)
  generalize W = W at hW
  have n2 := h.n2; have n3 := h.n3; have m2 := h.m2; have m3 := h.m3; have nm := h.nm
  have cR : ∀ i, i < n → rs m (at2 g) i * 2 = ((smN m (W i) : Int) : Rat) := fun i hi => smN_cast fun j hj => (hW i j hi hj).1
  have cC : ∀ j, j < m → cs n (at2 g) j * 2 = ((smN n (fun i => W i j) : Int) : Rat) := fun j hj => smN_cast fun i hi => (hW i j hi hj).1
  have cT : al n m (at2 g) * 2 = ((smN n (fun i => smN m (W i)) : Int) : Rat) := smN_cast cR
  have WR : ∀ i j, j < m → W i j ≤ smN m (W i) := fun i j hj => smN_mem (f := W i) j hj
  have WC : ∀ i j, i < n → W i j ≤ smN n (fun i => W i j) := fun i j hi => smN_mem (f := fun i => W i j) i hi
  have RT : ∀ i, i < n → smN m (W i) ≤ smN n (fun i => smN m (W i)) := fun i hi => smN_mem (f := fun i => smN m (W i)) i hi
  have CT : ∀ j, j < m → smN n (fun i => W i j) ≤ smN n (fun i => smN m (W i)) := fun j hj => smN_mono fun i _ => WR i j hj
  have Rp : ∀ i, i < n → 0 < smN m (W i) := fun i hi => Nat.lt_of_lt_of_le (hW i 0 hi (by omega)).2.1 (WR i 0 (by omega))
  have Cp : ∀ j, j < m → 0 < smN n (fun i => W i j) := fun j hj => Nat.lt_of_lt_of_le (hW 0 j (by omega) hj).2.1 (WC 0 j (by omega))
  have Tp : 0 < smN n (fun i => smN m (W i)) := Nat.lt_of_lt_of_le (Rp 0 (by omega)) (RT 0 (by omega))
  have Rb : ∀ i, i < n → smN m (W i) ≤ m * 10 := fun i hi => smN_le fun j hj => (hW i j hi hj).2.2
  have Cb' : ∀ j, j < m → smN n (fun i => W i j) ≤ n * 10 := fun j hj => smN_le fun i hi => (hW i j hi hj).2.2
  have Tb : smN n (fun i => smN m (W i)) ≤ n * (m * 10) := smN_le Rb
  have dT : smN n (fun i => smN m (W i)) ∣ smN n (fun i => smN m (W i)) * (prN n (fun i => smN m (W i)) * prN m fun j => smN n fun i => W i j) := Nat.dvd_mul_right _ _
  have dR : ∀ i, i < n → smN m (W i) ∣ smN n (fun i => smN m (W i)) * (prN n (fun i => smN m (W i)) * prN m fun j => smN n fun i => W i j) := fun i hi => Nat.dvd_mul_left_of_dvd (Nat.dvd_mul_right_of_dvd (prN_dvd (f := fun i => smN m (W i)) i hi) _) _
  have dC : ∀ j, j < m → smN n (fun i => W i j) ∣ smN n (fun i => smN m (W i)) * (prN n (fun i => smN m (W i)) * prN m fun j => smN n fun i => W i j) := fun j hj => Nat.dvd_mul_left_of_dvd (Nat.dvd_mul_left_of_dvd (prN_dvd (f := fun j => smN n fun i => W i j) j hj) _) _
  have hD : Db (smN n (fun i => smN m (W i)) * (prN n (fun i => smN m (W i)) * prN m fun j => smN n fun i => W i j)) 29 := by
    refine ⟨Nat.mul_pos Tp (Nat.mul_pos (prN_pos Rp) (prN_pos Cp)), ?_⟩
    refine Nat.le_trans (Nat.mul_le_mul Tb (Nat.mul_le_mul (prN_le Rb) (prN_le Cb'))) ?_
    have c1 : n = 2 ∨ n = 3 := by omega
    have c2 : m = 2 ∨ m = 3 := by omega
    rcases c1 with e | e <;> rcases c2 with e' | e' <;> subst e <;> subst e'
    · decide
    · decide
    · decide
    · omega
  generalize smN n (fun i => smN m (W i)) * (prN n (fun i => smN m (W i)) * prN m fun j => smN n fun i => W i j) = D at *
  refine ⟨D, hD, fun i j hi hj => ?_, fun i j hi hj => ?_, fun i hi => ?_, fun j hj => ?_, fun i j hi hj => ?_⟩
  · exact frac (hW i j hi hj).1 (cR i hi) (Rp i hi) (WR i j hj) (dR i hi) hD
  · exact frac (hW i j hi hj).1 (cC j hj) (Cp j hj) (WC i j hi) (dC j hj) hD
  · exact frac (cR i hi) cT Tp (RT i hi) dT hD
  · exact frac (cC j hj) cT Tp (CT j hj) dT hD
  · exact frac (hW i j hi hj).1 cT Tp (Nat.le_trans (WR i j hj) (RT i hi)) dT hD
theorem GD.flip {D : Nat} {g : Mq} {n m : Nat} (h : Gg g n m) (d : GD D g n m) : GD D (colsM g m) m n := by
  have e := cols_flip h.rc
  refine ⟨d.hD, fun i j hi hj => ?_, fun i j hi hj => ?_, fun i hi => ?_, fun i hi => ?_, fun i j hi hj => ?_⟩ <;> rw [e]
  · exact d.ne j i hj hi
  · exact d.fa j i hj hi
  · rw [sF_flip]; exact d.sS i hi
  · have : Ma.sS m n (Ma.flip (at2 g)) = Ma.sF n m (at2 g) := by rw [← sF_flip]; rfl
    rw [this]; exact d.sF i hi
  · rw [al_flip]; exact d.sU j i hj hi
end Pl

end
section
set_option maxHeartbeats 400000
set_option Elab.async false
set_option linter.all false
set_option maxRecDepth 100000
set_option exponentiation.threshold 100000
/-! The plain law: the walks of a grid. -/
namespace Pl
open Wk Ma
section
variable {g : Mq} {n m : Nat}
theorem divPos {a b : Rat} (ha : 0 < a) (hb : 0 < b) : 0 < a / b := by
  rw [Rat.div_def]; exact Rat.mul_pos ha (Rat.inv_pos.mpr hb)
theorem wt_cb {q : Rat} (h : q ∈ wts) : Cb 2 4 q := by
  obtain ⟨h1, _, h3⟩ := wts_two q h
  exact ⟨(((q * 2).num.natAbs : Nat) : Int), h1, by rw [Int.natAbs_natCast]; exact Nat.le_trans h3 (by decide)⟩
theorem db2 : Db 2 1 := ⟨by decide, by decide⟩
theorem row_cb (h : Gg g n m) {i : Nat} (hi : i < n) : CbL 2 4 (g.getD i []) := fun j hj => wt_cb (h.at_ hi (by rw [h.rc.row hi] at hj; exact hj))
theorem row_fitL (h : Gg g n m) : ∀ r ∈ g, FitL r := fun r hr => by
  obtain ⟨i, hi, e⟩ := getD_mem [] hr
  rw [h.len] at hi
  have m3 := h.m3
  rw [← e]
  exact (row_cb h hi).fitL (by rw [h.rc.row hi]; omega) db2 (by decide) (by decide)
theorem row_ne (h : Gg g n m) : ∀ r ∈ g, sumQ r ≠ 0 := fun r hr => by
  obtain ⟨i, hi, e⟩ := getD_mem [] hr
  rw [h.len] at hi
  have m2 := h.m2
  rw [← e, row_sum h hi]
  have := rs_pos (by omega) h.pos hi
  intro z; rw [z] at this; exact absurd this (by decide)
theorem row_ov (h : Gg g n m) : ∀ r ∈ g, OvOk r := fun r hr => ⟨row_fitL h r hr, row_ne h r hr, by rw [h.wide r hr]; have := h.m3; omega⟩
theorem sbfOk (h : Gg g n m) : SbfOk g := ⟨by rw [h.len]; have := h.n3; omega, row_ov h⟩
theorem trOk {n m : Nat} {A : Mq} (S : Rc n m A) (hn : 0 < n) (h1 : n ≤ 900) (h2 : m ≤ 900) : TrOk A := ⟨fun z => by have := S.len; rw [z] at this; simp at this; omega, by rw [S.len]; exact h1, m, h2, S.wide⟩
theorem sums_ov (h : Gg g n m) : OvOk (g.map sumQ) := by
  have n2 := h.n2; have n3 := h.n3; have m2 := h.m2; have m3 := h.m3
  refine ⟨?_, ?_, by rw [List.length_map, h.len]; omega⟩
  · refine CbL.fitL (D := 2) (b := 7) (fun i hi => ?_) (by rw [List.length_map, h.len]; omega) db2 (by decide) (by decide)
    rw [List.length_map, h.len] at hi
    rw [sums_at h hi]
    exact Cb.sm (fun j hj => wt_cb (h.at_ hi hj)) (by omega)
  · rw [sums_sum h]
    have := al_pos (by omega) (by omega) h.pos
    intro z; rw [z] at this; exact absurd this (by decide)
theorem flat_ov (h : Gg g n m) : OvOk g.flatten ∧ sumQ g.flatten = al n m (at2 g) := by
  have nm := h.nm; have n2 := h.n2; have m2 := h.m2
  have hl := flat_len h.rc
  have e : sumQ g.flatten = al n m (at2 g) := by
    rw [sumQ_sm, hl, sm_pair]
    exact sm_congr fun i hi => sm_congr fun j hj => flat_at h.rc hi hj
  refine ⟨⟨CbL.fitL (D := 2) (b := 4) (fun q hq => ?_) (by omega) db2 (by decide) (by decide), ?_, by omega⟩, e⟩
  · rw [hl] at hq
    rw [flat_at' h.rc hq]
    obtain ⟨h1, h2⟩ := pair_lt hq
    exact wt_cb (h.at_ h1 h2)
  · rw [e]
    have := al_pos (by omega) (by omega) h.pos
    intro z; rw [z] at this; exact absurd this (by decide)
theorem gridOk (h : Gg g n m) : GridOk g n m := ⟨h.n2, h.n3, h.m2, h.m3, by rw [Nat.mul_comm]; exact h.nm, h.len, h.wide, fun r hr q hq => wts_pos q (h.wt r hr q hq)⟩
variable {D : Nat}
theorem seenOk (h : Gg g n m) (d : GD D g n m) : SeenOk g := by
  have n2 := h.n2; have n3 := h.n3; have m2 := h.m2; have m3 := h.m3
  refine ⟨sbfOk h, trOk h.rc (by omega) (by omega) (by omega), by rw [tr_g h]; exact sbfOk h.flip, ?_, row_fitL h, sums_ov h⟩
  exact prodOk (sbf_rc h) (fbs_rc h) (by omega) (by omega) (by omega) (by omega) d.hD d.hD (fun i t hi ht => by rw [sbf_at h hi ht]; exact d.fa i t hi ht) (fun t j ht hj => by rw [fbs_at h hj ht]; exact d.ne j t hj ht) (by decide) (by decide)
theorem seen_rc (h : Gg g n m) : Sq n (seenM g).1 := (prod_rc (sbf_rc h) (fbs_rc h) (by have := h.m2; omega)).sq
theorem seen_at (h : Gg g n m) {i k : Nat} (hi : i < n) (hk : k < n) : at2 (seenM g).1 i k = seen n m (at2 g) i k := by
  show at2 (prodM (sbf g) (fbs g)) i k = _
  rw [prod_at (sbf_rc h) (fbs_rc h) (by have := h.m2; omega) hi hk]
  exact sm_congr fun t ht => by rw [sbf_at h hi ht, fbs_at h hk ht]
theorem seen_sv (h : Gg g n m) {i : Nat} (hi : i < n) : sv (seenM g) i = sF n m (at2 g) i := by
  show (ovM (g.map sumQ)).getD i 0 = _
  rw [ov_at (by rw [List.length_map, h.len]; exact hi), sums_at h hi, sums_sum h]; rfl
theorem seen_wl (h : Gg g n m) (d : GD D g n m) : Wl D n (seenM g) := by
  have n2 := h.n2; have n3 := h.n3; have m2 := h.m2; have m3 := h.m3
  have P := h.pos
  refine ⟨n2, by omega, d.hD, seen_rc h, ?_, walk_congr (fun i k hi hk => seen_at h hi hk) (fun i hi => seen_sv h hi) (seen_walk (by omega) (by omega) P), fun i hi => ?_, fun i k hi hk => ?_, fun i hi => ?_, fun i k hi hk => ?_⟩
  · show (ovM (g.map sumQ)).length = n
    rw [ov_len, List.length_map, h.len]
  · rw [seen_sv h hi]
    exact divPos (rs_pos (by omega) P hi) (al_pos (by omega) (by omega) P)
  · rw [seen_at h hi hk]
    exact sm_pos (by omega) fun j hj => Rat.mul_pos (divPos (P i j hi hj) (rs_pos (by omega) P hi)) (divPos (P k j hk hj) (cs_pos (by omega) P hj))
  · rw [seen_sv h hi]; exact d.sF i hi
  · rw [seen_at h hi hk]
    exact Cb.sm4 (fun j hj => (d.fa i j hi hj).mul (d.ne k j hk hj)) (by omega)
/-! ### the law's own seen walk is the same -/
theorem lshares_eq : lshares g = (seenM g).2 := by
  show lshares g = ovM (g.map sumQ)
  unfold lshares ovM
  rw [List.map_map]; rfl
theorem lrow_len (g : Mq) (i : Nat) : ∀ k, (lrow g g.length i k).length = g.length
  | 0 => by unfold lrow; simp
  | k + 1 => by
    have e : lrow g g.length i (k + 1) = List.zipWith (fun x y => x + (ovM (g.getD i [])).getD k 0 * y) (lrow g g.length i k) (ovM (colM g k)) := by unfold lrow; rw [List.range_succ, List.foldl_append]; rfl
    rw [e, List.length_zipWith, lrow_len g i k, ov_len, colM_len, Nat.min_self]
theorem lrow_at (h : Gg g n m) {i j : Nat} (hi : i < n) (hj : j < n) : ∀ k, k ≤ m → (lrow g g.length i k).getD j 0 = sm k fun a => fa m (at2 g) i a * ne n (at2 g) a j
  | 0, _ => by
    unfold lrow
    show (List.replicate g.length (0 : Rat)).getD j 0 = _
    rw [List.getD_eq_getElem?_getD, List.getElem?_replicate, if_pos (by rw [h.len]; exact hj)]; rfl
  | k + 1, hk => by
    have e : lrow g g.length i (k + 1) = List.zipWith (fun x y => x + (ovM (g.getD i [])).getD k 0 * y) (lrow g g.length i k) (ovM (colM g k)) := by unfold lrow; rw [List.range_succ, List.foldl_append]; rfl
    rw [e, getD_zw (d := 0) (d' := 0) (by rw [lrow_len, h.len]; exact hj) (by rw [ov_len, colM_len, h.len]; exact hj), lrow_at h hi hj k (by omega), ovr_at h hi (by omega), ovc_at h hj]; rfl
theorem lseen_eq (h : Gg g n m) : lseenM g m = (seenM g).1 := by
  have S : Rc n n (lseenM g m) := by
    refine ⟨by unfold lseenM; rw [List.length_map, List.length_range, h.len], fun r hr => ?_⟩
    unfold lseenM at hr
    obtain ⟨i, _, e⟩ := List.mem_map.mp hr
    rw [← e, lrow_len, h.len]
  refine S.ext (seen_rc h).rc fun i j hi hj => ?_
  rw [seen_at h hi hj]
  show ((lseenM g m).getD i []).getD j 0 = _
  unfold lseenM
  rw [getD_mapR (by rw [h.len]; exact hi), lrow_at h hi hj m (Nat.le_refl _)]; rfl
theorem lseenOk (h : Gg g n m) (d : GD D g n m) : LseenOk g m := by
  have n2 := h.n2; have n3 := h.n3; have m2 := h.m2; have m3 := h.m3
  have f1 : ∀ i a, i < n → a < m → Cb D 29 ((ovM (g.getD i [])).getD a 0) := fun i a hi ha => by rw [ovr_at h hi ha]; exact d.fa i a hi ha
  have f2 : ∀ a j, a < m → j < n → Cb D 29 ((ovM (colM g a)).getD j 0) := fun a j ha hj => by rw [ovc_at h hj]; exact d.ne j a hj ha
  refine ⟨by rw [h.len]; exact n3, by rw [h.len]; omega, m3, h.wide, row_ov h, fun j hj => ?_, sums_ov h, fun i a hi ha => ?_, fun a j ha hj => ?_, fun i a j hi ha hj => ?_, fun i a j hi ha hj => ?_⟩
  · exact row_ov h.flip _ (by rw [← cols_get hj]; exact memAt (by rw [(cols_rc h.rc).len]; exact hj))
  · rw [h.len] at hi; exact (f1 i a hi ha).fit d.hD (by decide) (by decide)
  · rw [h.len] at hj; exact (f2 a j ha hj).fit d.hD (by decide) (by decide)
  · rw [h.len] at hi hj; exact ((f1 i a hi ha).mul (f2 a j ha hj)).fit (d.hD.mul d.hD) (by decide) (by decide)
  · rw [h.len] at hi hj
    rw [lrow_at h hi hj a (by omega)]
    exact (Cb.sm4 (fun a' ha' => (d.fa i a' hi (by omega)).mul (d.ne j a' hj (by omega))) (by omega)).fit (d.hD.mul d.hD) (by decide) (by decide)
/-! ### the scan -/
theorem rowR_succ (N k : Nat) (idx : Nat → Nat) (val : Nat → Rat) : rowR N (k + 1) idx val = (rowR N k idx val).set (idx k) (val k) := by unfold rowR; rw [List.range_succ, List.foldl_append]; rfl
theorem rowR_len (N : Nat) (idx : Nat → Nat) (val : Nat → Rat) : ∀ k, (rowR N k idx val).length = N
  | 0 => by unfold rowR; simp
  | k + 1 => by rw [rowR_succ, List.length_set, rowR_len N idx val k]
theorem rowR_miss {N q : Nat} {idx : Nat → Nat} {val : Nat → Rat} : ∀ k, (∀ a, a < k → idx a < N) → (∀ a, a < k → idx a ≠ q) → (rowR N k idx val).getD q 0 = 0
  | 0, _, _ => by
    unfold rowR
    show (List.replicate N (0 : Rat)).getD q 0 = 0
    rw [List.getD_eq_getElem?_getD, List.getElem?_replicate]; split <;> rfl
  | k + 1, h, hq => by
    rw [rowR_succ, getD_set (by rw [rowR_len]; exact h k (by omega)), if_neg (fun z => hq k (by omega) z.symm)]
    exact rowR_miss k (fun a ha => h a (by omega)) fun a ha => hq a (by omega)
theorem rowR_hit {N : Nat} {idx : Nat → Nat} {val : Nat → Rat} : ∀ k, (∀ a, a < k → idx a < N) → (∀ a b, a < k → b < k → idx a = idx b → a = b) → ∀ a, a < k → (rowR N k idx val).getD (idx a) 0 = val a
  | 0, _, _, a, ha => by omega
  | k + 1, h, hi, a, ha => by
    rw [rowR_succ, getD_set (by rw [rowR_len]; exact h k (by omega))]
    by_cases e : a = k
    · rw [if_pos (by rw [e]), e]
    · rw [if_neg (fun z => e (hi a k ha (by omega) z))]
      exact rowR_hit k (fun a ha => h a (by omega)) (fun a b ha hb => hi a b (by omega) (by omega)) a (by omega)
theorem pairLt {n m i j : Nat} (hi : i < n) (hj : j < m) : i * m + j < n * m := by
  have : i * m + m ≤ n * m := by rw [← Nat.succ_mul]; exact Nat.mul_le_mul_right _ hi
  omega
theorem red0_at (h : Gg g n m) {f s i j : Nat} (hf : f < n) (hs : s < m) (hi : i < n) (hj : j < m) : (redRow g 0 n m f s).getD (i * m + j) 0 = if j = s then ne n (at2 g) s i else 0 := by
  unfold redRow
  rw [if_pos rfl]
  have hN : ∀ a, a < n → a * m + s < n * m := fun a ha => pairLt ha hs
  by_cases e : j = s
  · rw [if_pos e, e, rowR_hit (idx := fun a => a * m + s) (val := fun a => at2 (fbs g) s a) n hN (fun a b ha hb z => by
      have := congrArg (· / m) z
      rw [(pair_ix hs).1, (pair_ix hs).1] at this; exact this) i hi, fbs_at h hi hs]
  · rw [if_neg e]
    refine rowR_miss n hN fun a ha z => e ?_
    have := congrArg (· % m) z
    rw [(pair_ix hs).2, (pair_ix hj).2] at this
    exact this.symm
theorem red1_at (h : Gg g n m) {f s i j : Nat} (hf : f < n) (hs : s < m) (hi : i < n) (hj : j < m) : (redRow g 1 n m f s).getD (i * m + j) 0 = if i = f then fa m (at2 g) f j else 0 := by
  unfold redRow
  rw [if_neg (by decide)]
  have hN : ∀ a, a < m → f * m + a < n * m := fun a ha => pairLt hf ha
  by_cases e : i = f
  · rw [if_pos e, e, rowR_hit (idx := fun a => f * m + a) (val := fun a => at2 (sbf g) f a) m hN (fun a b ha hb z => by omega) j hj, sbf_at h hf hj]
  · rw [if_neg e]
    refine rowR_miss m hN fun a ha z => e ?_
    have := congrArg (· / m) z
    rw [(pair_ix ha).1, (pair_ix hj).1] at this
    exact this.symm
theorem red_row_len (wh f s : Nat) : (redRow g wh n m f s).length = n * m := by unfold redRow; split <;> rw [rowR_len]
/-- a table of rows of pairs, as a list of lists -/
theorem redM_eq (wh : Nat) : redM wh n m g = ((List.range n).map fun f => (List.range m).map fun s => redRow g wh n m f s).flatten := by unfold redM; rw [List.flatMap_def]
theorem flatA_len {α : Type} : ∀ {n m : Nat} {A : List (List α)}, A.length = n → (∀ r ∈ A, r.length = m) → A.flatten.length = n * m
  | n, m, [], h, _ => by rw [← h]; simp
  | n, m, r :: A, h, hw => by
    rw [List.flatten_cons, List.length_append, flatA_len (n := A.length) rfl (fun r hr => hw r (List.mem_cons_of_mem _ hr)), hw r List.mem_cons_self, ← h, List.length_cons, Nat.succ_mul, Nat.add_comm]
theorem flatA_at {α : Type} (d : α) : ∀ {n m : Nat} {A : List (List α)}, A.length = n → (∀ r ∈ A, r.length = m) → ∀ {i j : Nat}, i < n → j < m → A.flatten.getD (i * m + j) d = (A.getD i []).getD j d
  | n, m, [], h, _, i, j, hi, _ => by simp at h; omega
  | n, m, r :: A, h, hw, 0, j, _, hj => by
    have hr := hw r List.mem_cons_self
    rw [List.flatten_cons, Nat.zero_mul, Nat.zero_add, List.getD_eq_getElem?_getD, List.getElem?_append_left (by omega), ← List.getD_eq_getElem?_getD]; rfl
  | n, m, r :: A, h, hw, i + 1, j, hi, hj => by
    have hr := hw r List.mem_cons_self
    rw [List.length_cons] at h
    have e : (i + 1) * m + j = m + (i * m + j) := by rw [Nat.succ_mul]; omega
    rw [List.flatten_cons, e, List.getD_eq_getElem?_getD, List.getElem?_append_right (by omega), hr, Nat.add_sub_cancel_left, ← List.getD_eq_getElem?_getD, flatA_at d (n := A.length) rfl (fun r hr => hw r (List.mem_cons_of_mem _ hr)) (by omega) hj]; rfl
theorem redM_rc (wh : Nat) : Rc (n * m) (n * m) (redM wh n m g) := by
  rw [redM_eq]
  refine ⟨flatA_len (by rw [List.length_map, List.length_range]) fun r hr => ?_, fun r hr => ?_⟩
  · obtain ⟨f, _, e⟩ := List.mem_map.mp hr
    rw [← e, List.length_map, List.length_range]
  · obtain ⟨l, hl, hr⟩ := List.mem_flatten.mp hr
    obtain ⟨f, _, e⟩ := List.mem_map.mp hl
    rw [← e] at hr
    obtain ⟨s, _, e⟩ := List.mem_map.mp hr
    rw [← e, red_row_len]
theorem redM_get (wh : Nat) {f s : Nat} (hf : f < n) (hs : s < m) : (redM wh n m g).getD (f * m + s) [] = redRow g wh n m f s := by
  rw [redM_eq, flatA_at [] (by rw [List.length_map, List.length_range]) (fun r hr => by
    obtain ⟨f, _, e⟩ := List.mem_map.mp hr
    rw [← e, List.length_map, List.length_range]) hf hs, getD_mapR hf, getD_mapR hs]
theorem div_mod (p m : Nat) : p = p / m * m + p % m := by rw [Nat.mul_comm]; exact (Nat.div_add_mod p m).symm
theorem redM0_at (h : Gg g n m) {p t : Nat} (hp : p < n * m) (ht : t < n * m) : at2 (redM 0 n m g) p t = if t % m = p % m then ne n (at2 g) (p % m) (t / m) else 0 := by
  obtain ⟨p1, p2⟩ := pair_lt hp
  obtain ⟨t1, t2⟩ := pair_lt ht
  show ((redM 0 n m g).getD p []).getD t 0 = _
  have e := redM_get (g := g) 0 p1 p2
  rw [← div_mod p m] at e
  have e2 := red0_at h p1 p2 t1 t2
  rw [← div_mod t m] at e2
  rw [e, e2]
theorem redM1_at (h : Gg g n m) {t q : Nat} (ht : t < n * m) (hq : q < n * m) : at2 (redM 1 n m g) t q = if q / m = t / m then fa m (at2 g) (t / m) (q % m) else 0 := by
  obtain ⟨p1, p2⟩ := pair_lt ht
  obtain ⟨t1, t2⟩ := pair_lt hq
  show ((redM 1 n m g).getD t []).getD q 0 = _
  have e := redM_get (g := g) 1 p1 p2
  rw [← div_mod t m] at e
  have e2 := red1_at h p1 p2 t1 t2
  rw [← div_mod q m] at e2
  rw [e, e2]
theorem scan_red (h : Gg g n m) (wh : Nat) : redM wh g.length (g.getD 0 []).length g = redM wh n m g := by rw [h.len, h.rc.row (by have := h.n2; omega)]
theorem scan_sq (h : Gg g n m) : Sq (n * m) (scanM g) := by
  have n2 := h.n2; have m2 := h.m2
  have : 0 < n * m := Nat.mul_pos (by omega) (by omega)
  unfold scanM
  rw [scan_red h, scan_red h]
  exact (prod_rc (redM_rc 0) (redM_rc 1) this).sq
theorem scan_at (h : Gg g n m) {p q : Nat} (hp : p < n * m) (hq : q < n * m) : at2 (scanM g) p q = sP n m (at2 g) p q := by
  have n2 := h.n2; have m2 := h.m2
  have : 0 < n * m := Nat.mul_pos (by omega) (by omega)
  obtain ⟨p1, p2⟩ := pair_lt hp
  obtain ⟨q1, q2⟩ := pair_lt hq
  unfold scanM
  rw [scan_red h, scan_red h, prod_at (redM_rc 0) (redM_rc 1) this hp hq, sm_congr (g := fun t => (if t % m = p % m then ne n (at2 g) (p % m) (t / m) else 0) * (if q / m = t / m then fa m (at2 g) (t / m) (q % m) else 0)) (fun t ht => by rw [redM0_at h hp ht, redM1_at h ht hq]), sm_pair]
  rw [sm_congr (g := fun i => if i = q / m then ne n (at2 g) (p % m) i * fa m (at2 g) i (q % m) else 0) fun i hi => ?_, sm_delta q1]
  · rfl
  · rw [sm_congr (g := fun j => if j = p % m then (if i = q / m then ne n (at2 g) (p % m) i * fa m (at2 g) i (q % m) else 0) else 0) fun j hj => ?_, sm_delta p2 fun _ => if i = q / m then ne n (at2 g) (p % m) i * fa m (at2 g) i (q % m) else 0]
    rw [(pair_ix hj).1, (pair_ix hj).2]
    by_cases c : j = p % m
    · rw [if_pos c, if_pos c]
      by_cases c2 : i = q / m
      · rw [if_pos c2.symm, if_pos c2]
      · rw [if_neg (fun z => c2 z.symm), if_neg c2]; grind
    · rw [if_neg c, if_neg c]; grind
theorem scanOk (h : Gg g n m) (d : GD D g n m) : ScanOk g n m := by
  have n2 := h.n2; have m2 := h.m2; have nm := h.nm
  have pos : 0 < n * m := Nat.mul_pos (by omega) (by omega)
  refine ⟨⟨gridOk h, sbfOk h, by rw [tr_g h]; exact sbfOk h.flip⟩, ?_, (flat_ov h).1⟩
  rw [scan_red h, scan_red h]
  refine prodOk (redM_rc 0) (redM_rc 1) pos (by omega) (by omega) (by omega) d.hD d.hD (b := 29) (c := 29) (fun p t hp ht => ?_) (fun t q ht hq => ?_) (by decide) (by decide)
  · rw [redM0_at h hp ht]
    split
    · exact d.ne _ _ (pair_lt ht).1 (pair_lt hp).2
    · exact cb_zero
  · rw [redM1_at h ht hq]
    split
    · exact d.fa _ _ (pair_lt ht).1 (pair_lt hq).2
    · exact cb_zero
theorem scan_sv (h : Gg g n m) {q : Nat} (hq : q < n * m) : sv (scanW g) q = sU n m (at2 g) q := by
  show (ovM g.flatten).getD q 0 = _
  rw [ov_at (by rw [flat_len h.rc]; exact hq), flat_at' h.rc hq, (flat_ov h).2]; rfl
theorem scan_wl (h : Gg g n m) (d : GD D g n m) : Wl D (n * m) (scanW g) := by
  have n2 := h.n2; have m2 := h.m2; have nm := h.nm
  have P := h.pos
  refine ⟨Nat.le_trans (by decide : 2 ≤ 2 * 2) (Nat.mul_le_mul n2 m2), nm, d.hD, scan_sq h, ?_, walk_congr (fun i k hi hk => scan_at h hi hk) (fun i hi => scan_sv h hi) (scan_walk (by omega) (by omega) P), fun i hi => ?_, fun i k hi hk => ?_, fun i hi => ?_, fun i k hi hk => ?_⟩
  · show (ovM g.flatten).length = n * m
    rw [ov_len, flat_len h.rc]
  · obtain ⟨q1, q2⟩ := pair_lt hi
    rw [scan_sv h hi]
    exact divPos (P _ _ q1 q2) (al_pos (by omega) (by omega) P)
  · obtain ⟨p1, p2⟩ := pair_lt hi
    obtain ⟨q1, q2⟩ := pair_lt hk
    show 0 < at2 (scanM g) i k
    rw [scan_at h hi hk]
    exact Rat.mul_pos (divPos (P _ _ q1 p2) (cs_pos (by omega) P p2)) (divPos (P _ _ q1 q2) (rs_pos (by omega) P q1))
  · obtain ⟨q1, q2⟩ := pair_lt hi
    rw [scan_sv h hi]; exact d.sU _ _ q1 q2
  · obtain ⟨p1, p2⟩ := pair_lt hi
    obtain ⟨q1, q2⟩ := pair_lt hk
    show Cb _ _ (at2 (scanM g) i k)
    rw [scan_at h hi hk]
    exact ((d.ne _ _ q1 p2).mul (d.fa _ _ q1 q2)).mono (by decide)
theorem scan_allpos (h : Gg g n m) : AllPos (scanM g) (n * m) := by
  have n2 := h.n2; have m2 := h.m2; have nm := h.nm
  have P := h.pos
  refine ⟨(scan_sq h).len, by omega, fun r hr => ⟨(scan_sq h).wide r hr, fun x hx => ?_⟩⟩
  obtain ⟨i, hi, e⟩ := getD_mem [] hr
  obtain ⟨k, hk, e2⟩ := getD_mem 0 hx
  rw [(scan_sq h).len] at hi
  rw [(scan_sq h).wide r hr] at hk
  obtain ⟨p1, p2⟩ := pair_lt hi
  obtain ⟨q1, q2⟩ := pair_lt hk
  rw [← e2, ← e]
  show 0 < at2 (scanM g) i k
  rw [scan_at h hi hk]
  exact Rat.mul_pos (divPos (P _ _ q1 p2) (cs_pos (by omega) P p2)) (divPos (P _ _ q1 q2) (rs_pos (by omega) P q1))
end
end Pl

end
section
set_option maxHeartbeats 400000
set_option Elab.async false
set_option linter.all false
set_option maxRecDepth 100000
set_option exponentiation.threshold 100000
/-! The plain law: what is to hold of a drawn grid. -/
namespace Pl
open Wk Ma
/-- the error table's worth, by anything that is ahead -/
theorem worth_any {D n : Nat} {d : Wd} {f : List Rat} {h : Nat → Rat} (w : Wl D n d) (fl : f.length = n) (A : Ahead n (at2 d.1) (sv d) (lv f) h) : worthM (errM d) f = err n (sv d) (lv f) h := by
  rw [worthM_eq (err_sq w) fl, worth_congr (fun i k hi hk => err_at w hi hk) (fun i _ => rfl)]
  exact worth_tab w.W (whole_inv w).2 A
theorem const_err {D n : Nat} {d : Wd} {f : List Rat} {c : Rat} (w : Wl D n d) (fl : f.length = n) (hc : ∀ i, i < n → lv f i = c) : worthM (errM d) f = 0 := by
  have hm : sm n (fun k => sv d k * lv f k) = c := by
    rw [sm_congr (g := fun k => sv d k * c) (fun k hk => by rw [hc k hk]), sm_mulR, w.W.one]; grind
  have A : Ahead n (at2 d.1) (sv d) (lv f) (fun _ => 0) := ⟨fun i hi => by
    rw [hm, hc i hi, sm_congr (g := fun _ => 0) (fun k _ => by grind), sm_zero]; grind, by
    rw [sm_congr (g := fun _ => 0) (fun k _ => by grind), sm_zero]⟩
  rw [worth_any w fl A]
  unfold err
  rw [hm, sm_congr (f := fun i => sv d i * ((lv f i - c) * 0)) (g := fun _ => 0) (fun i _ => by grind), sm_congr (f := fun i => sv d i * ((lv f i - c) * (lv f i - c))) (g := fun _ => 0) (fun i hi => by rw [hc i hi]; grind), sm_zero]
  grind
theorem nm_cd {D H : Nat} {q : Rat} (h : Nm q) : Cd D H 0 0 1 6 q := by
  obtain ⟨i, d, e, h1, h2, h3, h4⟩ := h
  have hd : ((d : Int) : Rat) ≠ 0 := castne (by omega)
  have k := Rat.div_mul_cancel (a := (i : Rat)) hd
  rw [← e] at k
  show Cb (D ^ 0 * H ^ 0 * 12 ^ 1) _ _
  rw [Nat.pow_zero, Nat.pow_zero, Nat.pow_one, Nat.mul_one, Nat.one_mul]
  have hd4 : d = 1 ∨ d = 2 ∨ d = 3 ∨ d = 4 := by omega
  have c : ∃ t : Int, d * t = 12 ∧ 0 ≤ t ∧ t ≤ 12 := by
    rcases hd4 with e | e | e | e <;> subst e
    · exact ⟨12, by decide, by decide, by decide⟩
    · exact ⟨6, by decide, by decide, by decide⟩
    · exact ⟨4, by decide, by decide, by decide⟩
    · exact ⟨3, by decide, by decide, by decide⟩
  obtain ⟨t, ht, t0, t1⟩ := c
  refine ⟨i * t, ?_, ?_⟩
  · have e12 : ((((12 : Nat) : Int)) : Rat) = (d : Rat) * (t : Rat) := by rw [← Rat.intCast_mul, ht]; rfl
    rw [e12, Rat.intCast_mul, ← k]; grind
  · rw [Int.natAbs_mul]
    have h5 : i.natAbs ≤ 4 := by omega
    have h6 : t.natAbs ≤ 12 := by omega
    exact Nat.le_trans (Nat.mul_le_mul h5 h6) (by decide)
section
variable {D H n : Nat} {s f : List Rat}
theorem spr_all (hD : Db D 29) (hH : Db H 1509) (n4 : n ≤ 4) (sl : s.length = n) (fl : f.length = n) (cs : ∀ i, i < n → Cd D H 1 0 0 29 (lv s i)) (cf : ∀ i, i < n → Cd D H 1 0 1 37 (lv f i)) : SprOk s f ∧ Fit (sprM s f) ∧ sprM s f = sm n fun i => lv s i * ((lv f i - sm n fun k => lv s k * lv f k) * (lv f i - sm n fun k => lv s k * lv f k)) := by
  have em : dotM s f = sm n fun k => lv s k * lv f k := by rw [dotM_sm (by rw [fl, sl]), sl]
  have cm : Cd D H 2 0 1 68 (dotM s f) := by rw [em]; exact Cd.sm4 (fun i hi => (cs i hi).mul (cf i hi)) n4
  have cd : ∀ i, i < n → Cd D H 2 0 1 69 (lv f i - dotM s f) := fun i hi => ((cf i hi).up hD hH 1 0 0 (k' := 68) (by decide) rfl rfl rfl).sub cm
  have gl : (f.map fun x => (x - dotM s f) * (x - dotM s f)).length = n := by rw [List.length_map, fl]
  have ga : ∀ i, i < n → (f.map fun x => (x - dotM s f) * (x - dotM s f)).getD i 0 = (lv f i - dotM s f) * (lv f i - dotM s f) := fun i hi => getD_map (d := 0) (by rw [fl]; exact hi)
  have cg : ∀ i, i < n → Cd D H 4 0 2 138 ((f.map fun x => (x - dotM s f) * (x - dotM s f)).getD i 0) := fun i hi => by rw [ga i hi]; exact (cd i hi).mul (cd i hi)
  have e1 := Dn_db hD hH 1 0 0
  have e2 := Dn_db hD hH 1 0 1
  have e3 := Dn_db hD hH 4 0 2
  have es : sprM s f = sm n fun i => lv s i * ((lv f i - sm n fun k => lv s k * lv f k) * (lv f i - sm n fun k => lv s k * lv f k)) := by
    unfold sprM
    rw [dotM_sm (by rw [gl, sl]), sl]
    exact sm_congr fun i hi => by rw [ga i hi, em]
  refine ⟨⟨CbL.dotOk (D := Dn D H 1 0 0) (E := Dn D H 1 0 1) (b := 29) (c := 37) (fun i hi => cs i (by omega)) (fun i hi => cf i (by omega)) (by omega) (by omega) e1 e2 (by decide) (by decide), by omega, fun x hx => ?_, CbL.dotOk (D := Dn D H 1 0 0) (E := Dn D H 4 0 2) (b := 29) (c := 138) (fun i hi => cs i (by omega)) (fun i hi => cg i (by omega)) (by omega) (by omega) e1 e3 (by decide) (by decide)⟩, ?_, es⟩
  · obtain ⟨i, hi, e⟩ := getD_mem 0 hx
    rw [← e]
    exact (cd i (by omega)).fit hD hH (by decide) (by decide)
  · rw [es]
    refine (Cd.sm4 (D := D) (H := H) (a := 5) (b := 0) (c := 2) (k := 167) (fun i hi => ?_) n4).fit hD hH (by decide) (by decide)
    rw [← em]
    exact (cs i hi).mul ((cd i hi).mul (cd i hi))
end
/-- a walk that is seen: its table and its law -/
structure SeE (D H n : Nat) (d : Wd) : Prop where
  hH : Db H 1509
  cG : ∀ i k, i < n → k < n → Cd D H 0 1 0 1509 (at2 (invM (backM d)) i k)
  ok : ErrOk d
  cE : ∀ i k, i < n → k < n → Cd D H 3 1 0 1603 (at2 (errM d) i k)
theorem see_of {D n : Nat} {d : Wd} (w : Wl D n d) (n3 : n ≤ 3) : ∃ H, SeE D H n d := by
  obtain ⟨H, h1, h2⟩ := small_inv w n3
  have k := errOk w h1 (by decide) fun i k hi hk => (h2 i k hi hk).up w.hD h1 2 0 0 (by decide) rfl rfl rfl
  exact ⟨H, h1, h2, k.1, k.2⟩
section
variable {g : Mq} {n m D : Nat} {f : List Rat}
theorem mid_len : (midM g m f).length = m := by unfold midM; rw [List.length_map, List.length_range]
theorem mid_at (h : Gg g n m) (fl : f.length = n) {j : Nat} (hj : j < m) : lv (midM g m f) j = Nf n (at2 g) (lv f) j := by
  show (midM g m f).getD j 0 = _
  unfold midM
  rw [getD_mapR hj, dotM_sm (by rw [ov_len, colM_len, h.len, fl]), ov_len, colM_len, h.len]
  exact sm_congr fun i hi => by rw [ovc_at h hi]
theorem lsh (h : Gg g n m) {i : Nat} (hi : i < n) : lv (lshares g) i = sF n m (at2 g) i := by rw [lshares_eq]; exact seen_sv h hi
theorem lsh_len (h : Gg g n m) : (lshares g).length = n := by unfold lshares; rw [List.length_map, h.len]
theorem seen_pair (h : Gg g n m) : (lseenM g m, lshares g) = seenM g := by rw [lseen_eq h, lshares_eq]
/-- the given table -/
theorem given_sq (h : Gg g n m) (d : GD D g n m) : Sq n (givenM g) ∧ (∀ i k, i < n → k < n → at2 (givenM g) i k = sm m fun j => ne n (at2 g) j i * sm m fun l => at2 (errM (seenM (colsM g m))) j l * ne n (at2 g) l k) := by
  have n2 := h.n2; have m2 := h.m2
  have w := seen_wl h.flip (d.flip h)
  have E := (err_sq w).rc
  have F := fbs_rc h
  have T : tr (fbs g) = colsM (fbs g) n := tr_eq F (by omega)
  have R1 : Rc m n (prodM (errM (seenM (tr g))) (fbs g)) := by rw [tr_g h]; exact prod_rc E F (by omega)
  have R2 : Rc n n (givenM g) := by unfold givenM; rw [T]; exact prod_rc (cols_rc F) R1 (by omega)
  refine ⟨R2.sq, fun i k hi hk => ?_⟩
  unfold givenM
  rw [T, prod_at (cols_rc F) R1 (by omega) hi hk]
  refine sm_congr fun j hj => ?_
  rw [cols_at F hj hi, fbs_at h hi hj, tr_g h, prod_at E F (by omega) hj hk]
  congr 1
  exact sm_congr fun l hl => by rw [fbs_at h hk hl]
theorem given_worth (h : Gg g n m) (d : GD D g n m) (fl : f.length = n) : worthM (givenM g) f = worthM (errM (seenM (colsM g m))) (midM g m f) := by
  have w := seen_wl h.flip (d.flip h)
  obtain ⟨S, ga⟩ := given_sq h d
  rw [worthM_eq S fl, worthM_eq (err_sq w) mid_len, worth_congr (n := m) (E := at2 (errM (seenM (colsM g m)))) (f := Nf n (at2 g) (lv f)) (fun i k _ _ => rfl) (fun j hj => mid_at h fl hj)]
  unfold worth
  generalize at2 (errM (seenM (colsM g m))) = E at *
  have e1 : ∀ i, i < n → sm n (fun k => at2 (givenM g) i k * lv f k) = sm m fun j => ne n (at2 g) j i * sm m fun l => E j l * Nf n (at2 g) (lv f) l := fun i hi => by
    rw [sm_congr (g := fun k => sm m fun j => ne n (at2 g) j i * (sm m fun l => E j l * ne n (at2 g) l k) * lv f k) (fun k hk => by rw [ga i k hi hk, ← sm_mulR]), sm_swap]
    refine sm_congr fun j hj => ?_
    rw [sm_congr (g := fun k => ne n (at2 g) j i * sm m fun l => E j l * ne n (at2 g) l k * lv f k) (fun k _ => by rw [sm_mulR]; grind), sm_mul, sm_swap]
    congr 1
    refine sm_congr fun l hl => ?_
    unfold Nf
    rw [← sm_mul]
    exact sm_congr fun k _ => by grind
  rw [sm_congr (g := fun i => sm m fun j => lv f i * (ne n (at2 g) j i * sm m fun l => E j l * Nf n (at2 g) (lv f) l)) (fun i hi => by rw [e1 i hi, sm_mul]), sm_swap]
  refine sm_congr fun j hj => ?_
  rw [sm_congr (g := fun i => ne n (at2 g) j i * lv f i * (sm m fun l => E j l * Nf n (at2 g) (lv f) l)) (fun i _ => by grind), sm_mulR]
  rfl
theorem err_sym {D n : Nat} {d : Wd} (w : Wl D n d) {i k : Nat} (hi : i < n) (hk : k < n) : at2 (errM d) i k = at2 (errM d) k i := by
  rw [err_at w hi hk, err_at w hk hi, tab_sym]
theorem cols_sym {n : Nat} {A : Mq} (S : Sq n A) (h : ∀ i k, i < n → k < n → at2 A i k = at2 A k i) : colsM A n = A :=
  Rc.ext (cols_rc S.rc) S.rc fun i k hi hk => by rw [cols_at S.rc hk hi, h i k hi hk]
theorem given_sym (h : Gg g n m) (d : GD D g n m) {i k : Nat} (hi : i < n) (hk : k < n) : at2 (givenM g) i k = at2 (givenM g) k i := by
  have w := seen_wl h.flip (d.flip h)
  obtain ⟨_, ga⟩ := given_sq h d
  rw [ga i k hi hk, ga k i hk hi]
  rw [sm_congr (g := fun j => sm m fun l => ne n (at2 g) j i * (at2 (errM (seenM (colsM g m))) j l * ne n (at2 g) l k)) (fun j _ => by rw [sm_mul])]
  rw [sm_congr (f := fun j => ne n (at2 g) j k * sm m fun l => at2 (errM (seenM (colsM g m))) j l * ne n (at2 g) l i) (g := fun j => sm m fun l => ne n (at2 g) j k * (at2 (errM (seenM (colsM g m))) j l * ne n (at2 g) l i)) (fun j _ => by rw [sm_mul])]
  rw [sm_swap]
  exact sm_congr fun l hl => sm_congr fun j hj => by rw [err_sym w hj hl]; grind
theorem given_cb (h : Gg g n m) (d : GD D g n m) {H : Nat} (s : SeE D H m (seenM (colsM g m))) : ∀ i k, i < n → k < n → Cd D H 5 1 0 1665 (at2 (givenM g) i k) := fun i k hi hk => by
  obtain ⟨_, ga⟩ := given_sq h d
  have m3 := h.m3
  have cn : ∀ j i, j < m → i < n → Cd D H 1 0 0 29 (ne n (at2 g) j i) := fun j i hj hi => by
    show Cb (D ^ 1 * H ^ 0 * 12 ^ 0) _ _
    rw [Nat.pow_one, Nat.pow_zero, Nat.pow_zero, Nat.mul_one, Nat.mul_one]; exact d.ne i j hi hj
  rw [ga i k hi hk]
  exact Cd.sm4 (k := 1663) (fun j hj => ((cn j i hj hi).mul (Cd.sm4 (a := 4) (b := 1) (c := 0) (k := 1632) (fun l hl => (s.cE j l hj hl).mul (cn l k hl hk)) (by omega)))) (by omega)
theorem fa_cd (d : GD D g n m) (H : Nat) {i j : Nat} (hi : i < n) (hj : j < m) : Cd D H 1 0 0 29 (fa m (at2 g) i j) := by
  show Cb (D ^ 1 * H ^ 0 * 12 ^ 0) _ _
  rw [Nat.pow_one, Nat.pow_zero, Nat.pow_zero, Nat.mul_one, Nat.mul_one]; exact d.fa i j hi hj
theorem ne_cd (d : GD D g n m) (H : Nat) {i j : Nat} (hi : i < n) (hj : j < m) : Cd D H 1 0 0 29 (ne n (at2 g) j i) := by
  show Cb (D ^ 1 * H ^ 0 * 12 ^ 0) _ _
  rw [Nat.pow_one, Nat.pow_zero, Nat.pow_zero, Nat.mul_one, Nat.mul_one]; exact d.ne i j hi hj
/-- the scan's table -/
theorem scan_err (h : Gg g n m) (d : GD D g n m) {H : Nat} (s : SeE D H n (seenM g)) : ErrOk (scanW g) ∧ ∀ p q, p < n * m → q < n * m → Cd D H 3 1 0 1603 (at2 (errM (scanW g)) p q) := by
  have n2 := h.n2; have m2 := h.m2; have n3 := h.n3
  have w := seen_wl h d
  have v := scan_wl h d
  have I := isInv_congr (back_congr (n := n) (fun i k hi hk => seen_at h hi hk) (fun i hi => seen_sv h hi)) (whole_inv w).2
  have IS := isInv_congr (back_congr (n := n * m) (fun i k hi hk => scan_at h hi hk) (fun i hi => scan_sv h hi)) (whole_inv v).2
  refine errOk v s.hH (by decide) fun p q hp hq => ?_
  obtain ⟨p1, p2⟩ := pair_lt hp
  obtain ⟨q1, q2⟩ := pair_lt hq
  rw [scan_inv (by omega) (by omega) h.pos I IS hp hq]
  have c1 : Cd D H 2 1 0 1569 (if p = q then (1 : Rat) else 0) := by
    split
    · exact (cd_one d.hD s.hH).mono (by decide)
    · exact cd_zero
  have c2 : Cd D H 2 1 0 1569 (Nf n (at2 g) (fun i => at2 (invM (backM (seenM g))) i (q / m) * fa m (at2 g) (q / m) (q % m)) (p % m)) :=
    Cd.sm4 (k := 1567) (fun i hi => (ne_cd d H hi p2).mul ((s.cG i _ hi q1).mul (fa_cd d H q1 q2))) (by omega)
  have c3 : Cd D H 2 1 0 1570 (sU n m (at2 g) q) := by
    have : Cd D H 1 0 0 29 (sU n m (at2 g) q) := by
      show Cb (D ^ 1 * H ^ 0 * 12 ^ 0) _ _
      rw [Nat.pow_one, Nat.pow_zero, Nat.pow_zero, Nat.mul_one, Nat.mul_one]; exact d.sU _ _ q1 q2
    exact this.up d.hD s.hH 1 1 0 (by decide) rfl rfl rfl
  exact (c1.add c2).sub c3
theorem lift_len (fl : f.length = n) : (Wk.liftM m f).length = n * m := by
  unfold Wk.liftM
  exact flatA_len (by rw [List.length_map, fl]) fun r hr => by
    obtain ⟨q, _, e⟩ := List.mem_map.mp hr
    rw [← e, List.length_replicate]
theorem lift_at (fl : f.length = n) {p : Nat} (hp : p < n * m) : lv (Wk.liftM m f) p = lv f (p / m) := by
  obtain ⟨p1, p2⟩ := pair_lt hp
  have e := flatA_at (n := n) (m := m) (A := f.map fun q => List.replicate m q) (0 : Rat) (by rw [List.length_map, fl]) (fun r hr => by
    obtain ⟨q, _, e⟩ := List.mem_map.mp hr
    rw [← e, List.length_replicate]) p1 p2
  rw [← div_mod p m, getD_map (d := 0) (by rw [fl]; exact p1), List.getD_eq_getElem?_getD (l := List.replicate m _), List.getElem?_replicate, if_pos p2] at e
  exact e
theorem scan_worth (h : Gg g n m) (d : GD D g n m) (fl : f.length = n) : worthM (errM (scanW g)) (Wk.liftM m f) = worthM (rawM g) f := by
  have n2 := h.n2; have m2 := h.m2
  have w := seen_wl h d
  have v := scan_wl h d
  have I := isInv_congr (back_congr (n := n) (fun i k hi hk => seen_at h hi hk) (fun i hi => seen_sv h hi)) (whole_inv w).2
  have A := inv_has (seen_walk (by omega) (by omega) h.pos) I (lv f)
  obtain ⟨A2, e⟩ := scan_ahead (by omega) (by omega) h.pos A
  have k1 := worth_any v (lift_len fl) (ahead_congr (fun i k hi hk => scan_at h hi hk) (fun i hi => scan_sv h hi) (fun p hp => lift_at fl hp) (fun i _ => rfl) A2)
  have k2 := worth_any w fl (ahead_congr (fun i k hi hk => seen_at h hi hk) (fun i hi => seen_sv h hi) (fun i _ => rfl) (fun i _ => rfl) A)
  unfold rawM
  rw [k1, k2, err_congr (fun i hi => scan_sv h hi) (fun p hp => lift_at fl hp) (fun i _ => rfl), e]
  exact (err_congr (fun i hi => seen_sv h hi) (fun i _ => rfl) (fun i _ => rfl)).symm
theorem right_fn (h : Gg g n m) (d : GD D g n m) (fl : f.length = n) (fq : ∀ q ∈ f, Nm q) : RightFn g n m f := by
  have n2 := h.n2; have n3 := h.n3; have m2 := h.m2; have m3 := h.m3; have nm := h.nm
  have w := seen_wl h d
  have w' := seen_wl h.flip (d.flip h)
  have v := scan_wl h d
  obtain ⟨H, s⟩ := see_of w n3
  obtain ⟨H', s'⟩ := see_of w' m3
  have hD := d.hD
  have cf : ∀ {D H i}, i < n → Cd D H 0 0 1 6 (lv f i) := fun hi => nm_cd (fq _ (memAt (by omega)))
  have cf1 : ∀ i, i < n → Cd D H 1 0 1 37 (lv f i) := fun i hi => (cf hi).up hD s.hH 1 0 0 (by decide) rfl rfl rfl
  have cm1 : ∀ j, j < m → Cd D H' 1 0 1 37 (lv (midM g m f) j) := fun j hj => by
    rw [mid_at h fl hj]
    exact Cd.sm4 (k := 35) (fun i hi => (ne_cd d H' hi hj).mul (cf hi)) (by omega)
  have oc : ∀ j, j < m → OvOk (colM g j) := fun j hj => row_ov h.flip _ (by rw [← cols_get hj]; exact memAt (by rw [(cols_rc h.rc).len]; exact hj))
  have cc : ∀ j, j < m → CbL D 29 (ovM (colM g j)) := fun j hj i hi => by
    rw [ov_len, colM_len, h.len] at hi
    rw [ovc_at h hi]; exact d.ne i j hi hj
  have cfl : CbL (Dn 1 1 0 0 1) 6 f := fun i hi => cf (by omega)
  have d12 : Db (Dn 1 1 0 0 1) 4 := ⟨by decide, by decide⟩
  have ovl : ∀ j, (ovM (colM g j)).length = n := fun j => by rw [ov_len, colM_len, h.len]
  have W1 := worOk (err_sq w) fl (by omega) hD s.hH s.cE (fun i hi => cf (D := D) (H := H) hi) (by decide) (by decide)
  obtain ⟨Sg, _⟩ := given_sq h d
  have W2 := worOk Sg fl (by omega) hD s'.hH (given_cb h d s') (fun i hi => cf (D := D) (H := H') hi) (by decide) (by decide)
  have L1 := lerr_all w n3 s.hH s.cG fl cf1
  have L2 := lerr_all w' m3 s'.hH s'.cG mid_len cm1
  have near : worthM (rawM g) f = lerrM (seenM g).1 (seenM g).2 f := by rw [L1.eq]; exact worth_any w fl L1.ahead
  have far : worthM (givenM g) f = lerrM (seenM (colsM g m)).1 (seenM (colsM g m)).2 (midM g m f) := by rw [given_worth h d fl, L2.eq]; exact worth_any w' mid_len L2.ahead
  have p1 : lseenM g m = (seenM g).1 := lseen_eq h
  have p2 : lshares g = (seenM g).2 := lshares_eq
  have p3 : lseenM (colsM g m) n = (seenM (colsM g m)).1 := lseen_eq h.flip
  have p4 : lshares (colsM g m) = (seenM (colsM g m)).2 := lshares_eq
  have c1 : ∀ i, i < n → Cd D H 1 0 0 29 (lv (lshares g) i) := fun i hi => by rw [p2]; exact cs1 w H hi
  have c2 : ∀ j, j < m → Cd D H' 1 0 0 29 (lv (lshares (colsM g m)) j) := fun j hj => by rw [p4]; exact cs1 w' H' hj
  have S1 := spr_all hD s.hH (by omega) (lsh_len h) fl c1 cf1
  have S2 := spr_all hD s'.hH (by omega) (lsh_len h.flip) mid_len c2 cm1
  obtain ⟨E, cE⟩ := scan_err h d s
  have W3 := worOk (err_sq v) (lift_len fl) (by omega) hD s.hH cE (fun p hp => by rw [lift_at fl hp]; exact cf (D := D) (H := H) (pair_lt hp).1) (by decide) (by decide)
  refine ⟨fun j hj => ⟨oc j hj, (cc j hj).dotOk cfl (by rw [ovl, fl]) (by rw [ovl]; omega) hD d12 (by decide) (by decide)⟩, ?_, ?_, W1.1, W2.1, ?_, ?_, ?_, ?_, S1.1, S2.1, ⟨W1.2.fit hD s.hH (by decide) (by decide), W2.2.fit hD s'.hH (by decide) (by decide), S1.2.1, S2.2.1⟩, ?_, ?_, scan_worth h d fl⟩
  · refine ⟨gridOk h, fl, trOk h.rc (by omega) (by omega) (by omega), by rw [tr_g h]; exact sbfOk h.flip, by rw [(fbs_rc h).len]; omega, fun r hr => ?_⟩
    obtain ⟨j, hj, e⟩ := getD_mem [] hr
    rw [(fbs_rc h).len] at hj
    rw [← e, fbs_get h hj]
    exact (cc j hj).dsOk cfl hD d12 (by rw [ovl]; omega) (by omega) (by decide) (by decide) (by decide) (by decide)
  · unfold meansM
    refine extD 0 (by rw [List.length_map, (fbs_rc h).len, mid_len]) fun j hj => ?_
    rw [List.length_map, (fbs_rc h).len] at hj
    rw [getD_map (d := []) (by rw [(fbs_rc h).len]; exact hj), fbs_get h hj, dsM_eq (by rw [ovl, fl])]
    unfold midM
    rw [getD_mapR hj]
  · rw [p1, p2]; exact L1.ok
  · rw [p3, p4]; exact L2.ok
  · rw [p1, p2]; exact near
  · rw [p3, p4]; exact far
  · have P := h.pos
    have I := isInv_congr (back_congr (n := n) (fun i k hi hk => seen_at h hi hk) (fun i hi => seen_sv h hi)) (whole_inv w).2
    have A := inv_has (seen_walk (by omega) (by omega) P) I (lv f)
    have A' := ahead_given (by omega) (by omega) P A
    have R := raw_given (by omega) (by omega) P A
    have k2 := worth_any w fl (ahead_congr (fun i k hi hk => seen_at h hi hk) (fun i hi => seen_sv h hi) (fun i _ => rfl) (fun i _ => rfl) A)
    have fS : ∀ j, j < m → sv (seenM (colsM g m)) j = sS n m (at2 g) j := fun j hj => by rw [seen_sv h.flip hj, cols_flip h.rc, sF_flip]
    have k3 := worth_any w' mid_len (ahead_congr (fun i k hi hk => by rw [seen_at h.flip hi hk, cols_flip h.rc]) fS (fun j hj => mid_at h fl hj) (fun i _ => rfl) A')
    rw [given_worth h d fl, k3]
    show worthM (errM (seenM g)) f - _ = _
    rw [k2, S1.2.2, S2.2.2, err_congr (n := n) (fun i hi => seen_sv h hi) (fun i _ => rfl) (fun i _ => rfl), err_congr (n := m) fS (fun j hj => mid_at h fl hj) (fun i _ => rfl), R]
    have e1 : ∀ i, i < n → lv (lshares g) i = sF n m (at2 g) i := fun i hi => lsh h hi
    have e2 : ∀ j, j < m → lv (lshares (colsM g m)) j = sS n m (at2 g) j := fun j hj => by rw [lsh h.flip hj, cols_flip h.rc, sF_flip]
    have m1 : sm n (fun k => lv (lshares g) k * lv f k) = sm n fun k => sF n m (at2 g) k * lv f k := sm_congr fun k hk => by rw [e1 k hk]
    have m2 : sm m (fun k => lv (lshares (colsM g m)) k * lv (midM g m f) k) = sm m fun k => sS n m (at2 g) k * Nf n (at2 g) (lv f) k := sm_congr fun k hk => by rw [e2 k hk, mid_at h fl hk]
    rw [m1, m2]
    congr 1
    · exact sm_congr fun i hi => by rw [e1 i hi]
    · exact sm_congr fun j hj => by rw [e2 j hj, mid_at h fl hj]
  · exact ⟨E, by rw [show (scanW g).1 = scanM g from rfl, (scan_sq h).len, lift_len fl], ⟨n * m, scan_allpos h⟩, W3.1.2.1, W3.1.2.2⟩
theorem right_ok (h : Gg g n m) (d : GD D g n m) : RightOk g n m := by
  have n2 := h.n2; have n3 := h.n3; have m2 := h.m2; have m3 := h.m3; have nm := h.nm
  have w := seen_wl h d
  have w' := seen_wl h.flip (d.flip h)
  obtain ⟨H, s⟩ := see_of w n3
  obtain ⟨H', s'⟩ := see_of w' m3
  have hD := d.hD
  obtain ⟨Sg, ga⟩ := given_sq h d
  have E := (err_sq w').rc
  have F := fbs_rc h
  have T : tr (fbs g) = colsM (fbs g) n := tr_eq F (by omega)
  have R1 : Rc m n (prodM (errM (seenM (colsM g m))) (fbs g)) := prod_rc E F (by omega)
  have rn : ∀ q, Nm q → ∀ x ∈ List.replicate n q, Nm x := fun q hq x hx => by rw [(List.mem_replicate.mp hx).2]; exact hq
  refine ⟨⟨gridOk h, seenOk h d, s.ok⟩, ?_, scanOk h d, lseenOk h d, lseenOk h.flip (d.flip h), ⟨(err_sq w).len, (err_sq w).wide⟩, ⟨Sg.len, Sg.wide⟩, cols_sym (err_sq w) fun i k hi hk => err_sym w hi hk, cols_sym Sg fun i k hi hk => given_sym h d hi hk, fun f fl fq => right_fn h d fl fq, fun q hq => ?_⟩
  · have tr' := tr_g h
    refine ⟨gridOk h, trOk h.rc (by omega) (by omega) (by omega), by rw [tr']; exact sbfOk h.flip, by rw [tr']; exact seenOk h.flip (d.flip h), by rw [tr']; exact s'.ok, trOk F (by omega) (by omega) (by omega), ?_, ?_, by rw [Sg.len]; omega⟩
    · rw [tr']
      exact prodOk E F (by omega) (by omega) (by omega) (by omega) (Dn_db hD s'.hH 3 1 0) (Dn_db hD s'.hH 1 0 0) (fun i t hi ht => s'.cE i t hi ht) (fun t j ht hj => by rw [fbs_at h hj ht]; exact ne_cd d H' hj ht) (by decide) (by decide)
    · rw [tr', T]
      refine prodOk (cols_rc F) R1 (by omega) (by omega) (by omega) (by omega) (Dn_db hD s'.hH 1 0 0) (Dn_db hD s'.hH 4 1 0) (b := 29) (c := 1634) (fun i t hi ht => by rw [cols_at F ht hi, fbs_at h hi ht]; exact ne_cd d H' hi ht) (fun t j ht hj => ?_) (by decide) (by decide)
      rw [prod_at E F (by omega) ht hj]
      exact Cd.sm4 (a := 4) (b := 1) (c := 0) (k := 1632) (fun l hl => (s'.cE t l ht hl).mul (show Cd D H' 1 0 0 29 (at2 (fbs g) l j) by rw [fbs_at h hj hl]; exact ne_cd d H' hj hl)) (by omega)
  · have fl : (List.replicate n q).length = n := List.length_replicate
    have r := right_fn h d fl (rn q hq)
    have c1 : ∀ i, i < n → lv (List.replicate n q) i = q := fun i hi => by
      show (List.replicate n q).getD i 0 = q
      rw [List.getD_eq_getElem?_getD, List.getElem?_replicate, if_pos hi]; rfl
    refine ⟨r.w1, r.w2, const_err w fl c1, ?_⟩
    rw [given_worth h d fl]
    refine const_err (c := q) w' mid_len fun j hj => ?_
    rw [mid_at h fl hj, Nf_congr (v := fun _ => q) c1, Nf_one (by omega) h.pos hj]
end
theorem right_all : ∀ g n m, Gw g n m → RightOk g n m := fun g n m hg => by
  have h := gg_of hg
  obtain ⟨D, d⟩ := gd_of h
  exact right_ok h d
end Pl

end
section
set_option Elab.async false
set_option linter.all false
set_option maxRecDepth 100000
set_option maxHeartbeats 4000000
set_option exponentiation.threshold 100000
/-! From the head's facts to each def's promise (printed by gen_fx.py). -/
namespace Fx
open PySem PySem.Spec PyProof.Rows L2 Ru RZ Rp Wk
open Hd
section
variable {P : Program} {w : World} {K : PySem.W.Frag} {mg : Str → Option Value} {base h : Heap} {x m f : Str}
theorem gl (c : (Fb.glo x).ok K = true) : (He.Fa.glo x).ok K = true := c
theorem fr (c : (Fb.free x).ok K = true) : (He.Fa.free x).ok K = true := c
theorem int_ok (X : K.In h) (G : h.Ns mainGlobals mg) {i : Int} (c : (Fb.int x i).ok K = true) : ∃ t, mg x = some (.int i t) := He.int_ok X G (x := x) (i := i) c
theorem bi_ok (X : K.In h) (G : h.Ns mainGlobals mg) {id : String} (c : (Fb.bi x id).ok K = true) : mg x = some (.builtin id) := PySem.W.mg_of X G (He.eqO_ok c)
theorem cls_ok (c : (Fb.cls x).ok K = true) : Cls K (He.ga K x) :=
  let ⟨a, b⟩ := He.ba c
  let ⟨b, d⟩ := He.ba b
  let ⟨d, e⟩ := He.ba d
  ⟨a, b, d, He.eqO_ok e⟩
theorem mkr_ok (c : (Fb.mkr x).ok K = true) : Mk K (He.ga K x) (He.ma K (He.ga K x) "__init__") :=
  let ⟨a, b⟩ := He.ba c
  let ⟨b, d⟩ := He.ba b
  let ⟨d, e⟩ := He.ba d
  ⟨a, He.eqO_ok b, d, e⟩
theorem isx_ok (c : (Fb.isx x).ok K = true) : PySem.W.findIn K (.ref (He.ga K x)) "__class__" = some (some (.builtin "object.__class__")) ∧ PySem.W.specialIn K (.builtin "object.__class__") "__get__" = some (some (.builtin "getset_descriptor.__get__")) ∧ PySem.W.takesIn K (.builtin "object.__class__") = some true ∧ PySem.W.mroIn K (He.ga K x) (.type "object") = some true :=
  let ⟨a, b⟩ := He.ba c
  let ⟨b, d⟩ := He.ba b
  let ⟨d, e⟩ := He.ba d
  ⟨He.eqO_ok a, He.eqO_ok b, of_decide_eq_true d, of_decide_eq_true e⟩
theorem kit_ok {t u : Tc} {b : Bool} (c : (Fb.kit t u b).ok K = true) : PySem.W.kitOne K (t.u K) (u.u K) = some b := of_decide_eq_true c
theorem meth_ok (c : (Fb.meth x m).ok K = true) : Meth K (He.ga K x) m (He.ma K (He.ga K x) m) :=
  let ⟨a, b⟩ := He.ba c
  let ⟨b, d⟩ := He.ba b
  ⟨He.eqO_ok a, b, d⟩
theorem hdP_ok {p : Addr} {n : String} (c : hdP K p n = true) : ∃ rest, PySem.W.recIn K p n = some (.ref (recHead K p n) :: rest) := by
  unfold hdP at c
  unfold recHead
  split at c
  · rename_i g rest e
    exact ⟨rest, by rw [e]⟩
  · cases c
theorem prop_ok (c : (Fb.prop x f).ok K = true) : PropOf K (He.ga K x) f (He.ma K (He.ga K x) f) (recHead K (He.ma K (He.ga K x) f) "property") :=
  let ⟨a, b⟩ := He.ba c
  let ⟨b, d⟩ := He.ba b
  let ⟨d, e⟩ := He.ba d
  ⟨He.eqO_ok a, He.eqO_ok b, of_decide_eq_true d, hdP_ok e⟩
theorem isGet_ok {o : Option PySem.W.CFound} {q D : Addr} (c : isGet o q D = true) : o = some (.get (.builtin "classmethod.__get__") (.ref q) .none (.ref D)) := by
  unfold isGet at c
  split at c
  · rename_i i p C
    obtain ⟨a, b⟩ := He.ba c
    obtain ⟨b, d⟩ := He.ba b
    have ea : i = "classmethod.__get__" := of_decide_eq_true a
    have eb : p = q := of_decide_eq_true b
    have ed : C = D := of_decide_eq_true d
    rw [ea, eb, ed]
  · cases c
theorem cmet_ok {k : Nat} {sp : Sp} (c : (Fb.cmet x m).ok K = true) (F : FnR P w K mg base CX0 k (recHead K (He.ma K (He.ga K x) m) "classmethod") sp) : ∃ mc p g, ClX.CRead K (He.ga K x) mc ∧ ClX.CMet K (He.ga K x) mc m p g ∧ FnR P w K mg base CX0 k g sp :=
  let ⟨a, b⟩ := He.ba c
  let ⟨b, d⟩ := He.ba b
  let ⟨d, e⟩ := He.ba d
  let ⟨e, i⟩ := He.ba e
  ⟨_, _, _, ⟨a, He.eqO_ok b⟩, ⟨isGet_ok d, hdP_ok e, i⟩, F⟩
theorem fst_ok (c : (Fb.fst x).ok K = true) : PySem.W.selfFirst K (He.ga K x) = true := c
theorem neob_ok (c : (Fb.neob x).ok K = true) : PySem.W.findIn K (.ref (He.ga K x)) "__ne__" = some (some (.builtin "object.__ne__")) := He.eqO_ok c
theorem sub_ok {n : String} {b : Bool} (c : (Fb.sub n x b).ok K = true) : PySem.W.subIn K (.type n) (.ref (He.ga K x)) = some b := of_decide_eq_true c
theorem own_op {op : Operator} {C f g : Addr} (h1 : PySem.W.selfFirst K C = true) (h2 : Meth K C (PySem.dunder op.info.2) f) (h3 : Meth K C (dunderR op.info.2) g) (h4 : PySem.W.subIn K (.type "int") (.ref C) = some false) (h5 : (fastLookup "int" (PySem.dunder op.info.2)).isSome = true) (h6 : (fastLookup "int" (dunderR op.info.2)).isSome = true) : OwnOp K C f op :=
  ⟨h1, h2.at_, h2.fn, ⟨g, h3.at_⟩, Option.isSome_iff_exists.mp h5, Option.isSome_iff_exists.mp h6, h4⟩
theorem oc_ok (x : Str) (g : mg x = some (.ref (He.ga K x))) (c1 : (Fb.cls x).ok K = true) (c2 : (Fb.mkr x).ok K = true) (c3 : (Fb.isx x).ok K = true) (c4 : (Fb.kit (.own x) (.own x) true).ok K = true) : Oc K mg x (He.ga K x) (He.ma K (He.ga K x) "__init__") :=
  ⟨g, cls_ok c1, mkr_ok c2, (isx_ok c3).1, (isx_ok c3).2.2.2, kit_ok c4⟩
theorem rm_of {C f : Addr} {fd : FuncData} (g : mg "Ratio" = some (.ref C)) (M : Mk K C f) (F : FnOk P w K mg base CX0 2 f fd ["self", "top", "bottom"] (S_init C)) (D : FunD K "__init__" "Ratio.__init__" (defArgs sInit) (defBody sInit) (defScope sInit) [.int 1] [] f fd) : Rm P w K mg base C f := by
  obtain ⟨d0, r0, b0⟩ := D.binds1 (ps := ["self", "top", "bottom"]) 3 1 (by simp) rfl fun T kV doc pm an cdv ct us its h1 h2 => match us, its, h1, h2 with
    | [_, _, _], [_], _, _ => ⟨_, rfl, rfl⟩
  obtain ⟨d1, r1, b1⟩ := D.binds1 (ps := ["self", "top", "bottom"]) 2 0 (by simp) rfl fun T kV doc pm an cdv ct us its h1 h2 => match us, its, h1, h2 with
    | [_, _], [_], _, _ => ⟨_, rfl, rfl⟩
  exact ⟨g, M, (F.raw b0 r0).imp fun vs H Q E h => by
    show S_init C (vs ++ []) H Q E
    rw [List.append_nil]; exact h, (F.raw b1 r1).imp fun vs H Q E h => h⟩
/-- what of the text the walks lean on -/
def TX (X : K.In h) (G : h.Ns mainGlobals mg) (c : SaysU fa fn K) : Tx K mg where
  C := (He.ga K "Ratio")
  mkf := (He.ma K (He.ga K "Ratio") "__init__")
  mgC := He.glo_ok X G (gl (c.fact 79 (f := .glo "Ratio") rfl))
  cls := cls_ok (c.fact 103 (f := .cls "Ratio") rfl)
  n1 := He.eqO_ok (c.fact 112 (f := .noat "Ratio" "own_top") rfl)
  n2 := He.eqO_ok (c.fact 113 (f := .noat "Ratio" "own_bottom") rfl)
  mkk := mkr_ok (c.fact 104 (f := .mkr "Ratio") rfl)
  tx1 := (isx_ok (c.fact 105 (f := .isx "Ratio") rfl)).1
  tx2 := (isx_ok (c.fact 105 (f := .isx "Ratio") rfl)).2.1
  tx3 := (isx_ok (c.fact 105 (f := .isx "Ratio") rfl)).2.2.1
  tx4 := (isx_ok (c.fact 105 (f := .isx "Ratio") rfl)).2.2.2
  kQI := kit_ok (c.fact 161 (f := .kit (.own "Ratio") (.ty "int") false) rfl)
  kIQ := kit_ok (c.fact 137 (f := .kit (.ty "int") (.own "Ratio") false) rfl)
  kQQ := kit_ok (c.fact 165 (f := .kit (.own "Ratio") (.own "Ratio") true) rfl)
  b_len := He.free_ok X G (fr (c.fact 82 (f := .free "len") rfl))
  b_range := He.free_ok X G (fr (c.fact 83 (f := .free "range") rfl))
  b_zip := He.free_ok X G (fr (c.fact 84 (f := .free "zip") rfl))
  b_enumerate := He.free_ok X G (fr (c.fact 85 (f := .free "enumerate") rfl))
  b_isinstance := He.free_ok X G (fr (c.fact 86 (f := .free "isinstance") rfl))
  b_int := He.free_ok X G (fr (c.fact 87 (f := .free "int") rfl))
  b_bool := He.free_ok X G (fr (c.fact 88 (f := .free "bool") rfl))
  b_list := He.free_ok X G (fr (c.fact 89 (f := .free "list") rfl))
  b_tuple := He.free_ok X G (fr (c.fact 90 (f := .free "tuple") rfl))
  b_sum := He.free_ok X G (fr (c.fact 91 (f := .free "sum") rfl))
  b_all := He.free_ok X G (fr (c.fact 92 (f := .free "all") rfl))
  b_sorted := He.free_ok X G (fr (c.fact 93 (f := .free "sorted") rfl))
  b_abs := He.free_ok X G (fr (c.fact 94 (f := .free "abs") rfl))
  b_max := He.free_ok X G (fr (c.fact 95 (f := .free "max") rfl))
  b_divmod := He.free_ok X G (fr (c.fact 96 (f := .free "divmod") rfl))
  gcd := bi_ok X G (c.fact 101 (f := .bi "gcd" "math.gcd") rfl)
  lcm := bi_ok X G (c.fact 102 (f := .bi "lcm" "math.lcm") rfl)
theorem facts (X : K.In h) (G : h.Ns mainGlobals mg) {fl : Addr} (hfa : mg ("law" : Str) = some (.ref fl)) (c : SaysU fa fn K) (hw : ∀ g n m, Gw g n m → RightOk g n m) :
    ∃ fd : FuncData, (∀ (s : Shared) (v : Value), BindsTo s fd ⟨[v], []⟩ [("_law_script", v)]) ∧ ∀ base : Heap, K.In base → base.Ns mainGlobals mg → FnOk P w K mg base CX0 14 fl fd ["_law_script"] (spLaw K) := by
  obtain ⟨fd_law, D_law⟩ := c.def_ 91 (d := ⟨.glo "law", "law", "law", top 111, []⟩) rfl
  have e := hfa.symm.trans (He.glo_ok X G (gl (c.fact 78 (f := .glo "law") rfl)))
  cases e
  have b := FunD.bindsA (ps := ["_law_script"]) D_law fun _ _ _ _ _ _ us hl => match us, hl with | [_], _ => rfl
  refine ⟨fd_law, fun s v => b s [v] rfl, fun base _ _ => ?_⟩
  have g_is_integer : mg "is_integer" = some (.ref (He.ga K "is_integer")) := He.glo_ok X G (gl (c.fact 0 (f := .glo "is_integer") rfl))
  have g_is_list : mg "is_list" = some (.ref (He.ga K "is_list")) := He.glo_ok X G (gl (c.fact 1 (f := .glo "is_list") rfl))
  have g_divisor_of : mg "divisor_of" = some (.ref (He.ga K "divisor_of")) := He.glo_ok X G (gl (c.fact 2 (f := .glo "divisor_of") rfl))
  have g_told_pair : mg "told_pair" = some (.ref (He.ga K "told_pair")) := He.glo_ok X G (gl (c.fact 3 (f := .glo "told_pair") rfl))
  have g_is_number : mg "is_number" = some (.ref (He.ga K "is_number")) := He.glo_ok X G (gl (c.fact 4 (f := .glo "is_number") rfl))
  have g_ratio_of : mg "ratio_of" = some (.ref (He.ga K "ratio_of")) := He.glo_ok X G (gl (c.fact 5 (f := .glo "ratio_of") rfl))
  have g_want_number : mg "want_number" = some (.ref (He.ga K "want_number")) := He.glo_ok X G (gl (c.fact 6 (f := .glo "want_number") rfl))
  have g_wholes : mg "wholes" = some (.ref (He.ga K "wholes")) := He.glo_ok X G (gl (c.fact 7 (f := .glo "wholes") rfl))
  have g_total_of : mg "total_of" = some (.ref (He.ga K "total_of")) := He.glo_ok X G (gl (c.fact 8 (f := .glo "total_of") rfl))
  have g_ints_of : mg "ints_of" = some (.ref (He.ga K "ints_of")) := He.glo_ok X G (gl (c.fact 9 (f := .glo "ints_of") rfl))
  have g_bare_row : mg "bare_row" = some (.ref (He.ga K "bare_row")) := He.glo_ok X G (gl (c.fact 10 (f := .glo "bare_row") rfl))
  have g_cleared : mg "cleared" = some (.ref (He.ga K "cleared")) := He.glo_ok X G (gl (c.fact 11 (f := .glo "cleared") rfl))
  have g_first_at : mg "first_at" = some (.ref (He.ga K "first_at")) := He.glo_ok X G (gl (c.fact 12 (f := .glo "first_at") rfl))
  have g_headed_row : mg "headed_row" = some (.ref (He.ga K "headed_row")) := He.glo_ok X G (gl (c.fact 13 (f := .glo "headed_row") rfl))
  have g_int_steps : mg "int_steps" = some (.ref (He.ga K "int_steps")) := He.glo_ok X G (gl (c.fact 14 (f := .glo "int_steps") rfl))
  have g_head_of : mg "head_of" = some (.ref (He.ga K "head_of")) := He.glo_ok X G (gl (c.fact 15 (f := .glo "head_of") rfl))
  have g_told_rows : mg "told_rows" = some (.ref (He.ga K "told_rows")) := He.glo_ok X G (gl (c.fact 16 (f := .glo "told_rows") rfl))
  have g_turned_of : mg "turned_of" = some (.ref (He.ga K "turned_of")) := He.glo_ok X G (gl (c.fact 17 (f := .glo "turned_of") rfl))
  have g_dot_tables : mg "dot_tables" = some (.ref (He.ga K "dot_tables")) := He.glo_ok X G (gl (c.fact 18 (f := .glo "dot_tables") rfl))
  have g_table_led : mg "table_led" = some (.ref (He.ga K "table_led")) := He.glo_ok X G (gl (c.fact 19 (f := .glo "table_led") rfl))
  have g_product_of : mg "product_of" = some (.ref (He.ga K "product_of")) := He.glo_ok X G (gl (c.fact 20 (f := .glo "product_of") rfl))
  have g_unit_of : mg "unit_of" = some (.ref (He.ga K "unit_of")) := He.glo_ok X G (gl (c.fact 21 (f := .glo "unit_of") rfl))
  have g_inverse_of : mg "inverse_of" = some (.ref (He.ga K "inverse_of")) := He.glo_ok X G (gl (c.fact 22 (f := .glo "inverse_of") rfl))
  have g_is_row : mg "is_row" = some (.ref (He.ga K "is_row")) := He.glo_ok X G (gl (c.fact 23 (f := .glo "is_row") rfl))
  have g_worth_of : mg "worth_of" = some (.ref (He.ga K "worth_of")) := He.glo_ok X G (gl (c.fact 24 (f := .glo "worth_of") rfl))
  have g_are_numbers : mg "are_numbers" = some (.ref (He.ga K "are_numbers")) := He.glo_ok X G (gl (c.fact 25 (f := .glo "are_numbers") rfl))
  have g_told_numbers : mg "told_numbers" = some (.ref (He.ga K "told_numbers")) := He.glo_ok X G (gl (c.fact 26 (f := .glo "told_numbers") rfl))
  have g_is_one : mg "is_one" = some (.ref (He.ga K "is_one")) := He.glo_ok X G (gl (c.fact 27 (f := .glo "is_one") rfl))
  have g_are_chances : mg "are_chances" = some (.ref (He.ga K "are_chances")) := He.glo_ok X G (gl (c.fact 28 (f := .glo "are_chances") rfl))
  have g_are_rows : mg "are_rows" = some (.ref (He.ga K "are_rows")) := He.glo_ok X G (gl (c.fact 29 (f := .glo "are_rows") rfl))
  have g_told_rows_of : mg "told_rows_of" = some (.ref (He.ga K "told_rows_of")) := He.glo_ok X G (gl (c.fact 30 (f := .glo "told_rows_of") rfl))
  have g_led : mg "led" = some (.ref (He.ga K "led")) := He.glo_ok X G (gl (c.fact 31 (f := .glo "led") rfl))
  have g_are_shares : mg "are_shares" = some (.ref (He.ga K "are_shares")) := He.glo_ok X G (gl (c.fact 32 (f := .glo "are_shares") rfl))
  have g_looked_at : mg "looked_at" = some (.ref (He.ga K "looked_at")) := He.glo_ok X G (gl (c.fact 33 (f := .glo "looked_at") rfl))
  have g_walk_made : mg "walk_made" = some (.ref (He.ga K "walk_made")) := He.glo_ok X G (gl (c.fact 34 (f := .glo "walk_made") rfl))
  have g_want_walk : mg "want_walk" = some (.ref (He.ga K "want_walk")) := He.glo_ok X G (gl (c.fact 35 (f := .glo "want_walk") rfl))
  have g_want_whole : mg "want_whole" = some (.ref (He.ga K "want_whole")) := He.glo_ok X G (gl (c.fact 36 (f := .glo "want_whole") rfl))
  have g_want_function : mg "want_function" = some (.ref (He.ga K "want_function")) := He.glo_ok X G (gl (c.fact 37 (f := .glo "want_function") rfl))
  have g_come_to : mg "come_to" = some (.ref (He.ga K "come_to")) := He.glo_ok X G (gl (c.fact 38 (f := .glo "come_to") rfl))
  have g_closed_in : mg "closed_in" = some (.ref (He.ga K "closed_in")) := He.glo_ok X G (gl (c.fact 39 (f := .glo "closed_in") rfl))
  have g_are_whole_rows : mg "are_whole_rows" = some (.ref (He.ga K "are_whole_rows")) := He.glo_ok X G (gl (c.fact 40 (f := .glo "are_whole_rows") rfl))
  have g_dot_strays : mg "dot_strays" = some (.ref (He.ga K "dot_strays")) := He.glo_ok X G (gl (c.fact 41 (f := .glo "dot_strays") rfl))
  have g_back_table : mg "back_table" = some (.ref (He.ga K "back_table")) := He.glo_ok X G (gl (c.fact 42 (f := .glo "back_table") rfl))
  have g_error_rows : mg "error_rows" = some (.ref (He.ga K "error_rows")) := He.glo_ok X G (gl (c.fact 43 (f := .glo "error_rows") rfl))
  have g_error_made : mg "error_made" = some (.ref (He.ga K "error_made")) := He.glo_ok X G (gl (c.fact 44 (f := .glo "error_made") rfl))
  have g_error : mg "error" = some (.ref (He.ga K "error")) := He.glo_ok X G (gl (c.fact 45 (f := .glo "error") rfl))
  have g_is_weight : mg "is_weight" = some (.ref (He.ga K "is_weight")) := He.glo_ok X G (gl (c.fact 46 (f := .glo "is_weight") rfl))
  have g_is_grid_row : mg "is_grid_row" = some (.ref (He.ga K "is_grid_row")) := He.glo_ok X G (gl (c.fact 47 (f := .glo "is_grid_row") rfl))
  have g_want_grid : mg "want_grid" = some (.ref (He.ga K "want_grid")) := He.glo_ok X G (gl (c.fact 48 (f := .glo "want_grid") rfl))
  have g_over_all : mg "over_all" = some (.ref (He.ga K "over_all")) := He.glo_ok X G (gl (c.fact 49 (f := .glo "over_all") rfl))
  have g_shares_of : mg "shares_of" = some (.ref (He.ga K "shares_of")) := He.glo_ok X G (gl (c.fact 50 (f := .glo "shares_of") rfl))
  have g_sums_of : mg "sums_of" = some (.ref (He.ga K "sums_of")) := He.glo_ok X G (gl (c.fact 51 (f := .glo "sums_of") rfl))
  have g_second_by_first : mg "second_by_first" = some (.ref (He.ga K "second_by_first")) := He.glo_ok X G (gl (c.fact 52 (f := .glo "second_by_first") rfl))
  have g_first_by_second : mg "first_by_second" = some (.ref (He.ga K "first_by_second")) := He.glo_ok X G (gl (c.fact 53 (f := .glo "first_by_second") rfl))
  have g_redraw_rows : mg "redraw_rows" = some (.ref (He.ga K "redraw_rows")) := He.glo_ok X G (gl (c.fact 54 (f := .glo "redraw_rows") rfl))
  have g_scan_rows : mg "scan_rows" = some (.ref (He.ga K "scan_rows")) := He.glo_ok X G (gl (c.fact 55 (f := .glo "scan_rows") rfl))
  have g_seen_walk : mg "seen_walk" = some (.ref (He.ga K "seen_walk")) := He.glo_ok X G (gl (c.fact 56 (f := .glo "seen_walk") rfl))
  have g_given_of : mg "given_of" = some (.ref (He.ga K "given_of")) := He.glo_ok X G (gl (c.fact 57 (f := .glo "given_of") rfl))
  have g_given_rows : mg "given_rows" = some (.ref (He.ga K "given_rows")) := He.glo_ok X G (gl (c.fact 58 (f := .glo "given_rows") rfl))
  have g_scan : mg "scan" = some (.ref (He.ga K "scan")) := He.glo_ok X G (gl (c.fact 59 (f := .glo "scan") rfl))
  have g_given_means : mg "given_means" = some (.ref (He.ga K "given_means")) := He.glo_ok X G (gl (c.fact 60 (f := .glo "given_means") rfl))
  have g_raw_table : mg "raw_table" = some (.ref (He.ga K "raw_table")) := He.glo_ok X G (gl (c.fact 61 (f := .glo "raw_table") rfl))
  have g_given_table : mg "given_table" = some (.ref (He.ga K "given_table")) := He.glo_ok X G (gl (c.fact 62 (f := .glo "given_table") rfl))
  have g__law_pot : mg "_law_pot" = some (.ref (He.ga K "_law_pot")) := He.glo_ok X G (gl (c.fact 63 (f := .glo "_law_pot") rfl))
  have g__law_draw : mg "_law_draw" = some (.ref (He.ga K "_law_draw")) := He.glo_ok X G (gl (c.fact 64 (f := .glo "_law_draw") rfl))
  have g__law_pick : mg "_law_pick" = some (.ref (He.ga K "_law_pick")) := He.glo_ok X G (gl (c.fact 65 (f := .glo "_law_pick") rfl))
  have g__law_number : mg "_law_number" = some (.ref (He.ga K "_law_number")) := He.glo_ok X G (gl (c.fact 66 (f := .glo "_law_number") rfl))
  have g__law_function : mg "_law_function" = some (.ref (He.ga K "_law_function")) := He.glo_ok X G (gl (c.fact 67 (f := .glo "_law_function") rfl))
  have g__law_dot : mg "_law_dot" = some (.ref (He.ga K "_law_dot")) := He.glo_ok X G (gl (c.fact 68 (f := .glo "_law_dot") rfl))
  have g__law_spread : mg "_law_spread" = some (.ref (He.ga K "_law_spread")) := He.glo_ok X G (gl (c.fact 69 (f := .glo "_law_spread") rfl))
  have g__law_ahead : mg "_law_ahead" = some (.ref (He.ga K "_law_ahead")) := He.glo_ok X G (gl (c.fact 70 (f := .glo "_law_ahead") rfl))
  have g__law_error : mg "_law_error" = some (.ref (He.ga K "_law_error")) := He.glo_ok X G (gl (c.fact 71 (f := .glo "_law_error") rfl))
  have g__law_grid : mg "_law_grid" = some (.ref (He.ga K "_law_grid")) := He.glo_ok X G (gl (c.fact 72 (f := .glo "_law_grid") rfl))
  have g__law_first_at : mg "_law_first_at" = some (.ref (He.ga K "_law_first_at")) := He.glo_ok X G (gl (c.fact 73 (f := .glo "_law_first_at") rfl))
  have g__law_second_at : mg "_law_second_at" = some (.ref (He.ga K "_law_second_at")) := He.glo_ok X G (gl (c.fact 74 (f := .glo "_law_second_at") rfl))
  have g__law_seen : mg "_law_seen" = some (.ref (He.ga K "_law_seen")) := He.glo_ok X G (gl (c.fact 75 (f := .glo "_law_seen") rfl))
  have g__law_worth : mg "_law_worth" = some (.ref (He.ga K "_law_worth")) := He.glo_ok X G (gl (c.fact 76 (f := .glo "_law_worth") rfl))
  have g__law_right : mg "_law_right" = some (.ref (He.ga K "_law_right")) := He.glo_ok X G (gl (c.fact 77 (f := .glo "_law_right") rfl))
  have g_law : mg "law" = some (.ref (He.ga K "law")) := He.glo_ok X G (gl (c.fact 78 (f := .glo "law") rfl))
  have g_Ratio : mg "Ratio" = some (.ref (He.ga K "Ratio")) := He.glo_ok X G (gl (c.fact 79 (f := .glo "Ratio") rfl))
  have g_Known : mg "Known" = some (.ref (He.ga K "Known")) := He.glo_ok X G (gl (c.fact 80 (f := .glo "Known") rfl))
  have g_Walk : mg "Walk" = some (.ref (He.ga K "Walk")) := He.glo_ok X G (gl (c.fact 81 (f := .glo "Walk") rfl))
  let T : Tx K mg := TX X G c
  obtain ⟨fd_is_integer, D_is_integer⟩ := c.def_ 0 (d := ⟨.glo "is_integer", "is_integer", "is_integer", top 14, []⟩) rfl
  have M_is_integer : Me P w K mg base 1 (He.ga K "is_integer") (S_isint (He.ga K "Ratio")) := m_is_integer T ⟨D_is_integer.kp, fd_is_integer, D_is_integer⟩
  have C_is_integer : Ca P w K mg base 1 "is_integer" (S_isint (He.ga K "Ratio")) := ⟨_, g_is_integer, D_is_integer.kp, M_is_integer.fnR⟩
  obtain ⟨fd_is_list, D_is_list⟩ := c.def_ 1 (d := ⟨.glo "is_list", "is_list", "is_list", top 15, []⟩) rfl
  have M_is_list : Me P w K mg base 1 (He.ga K "is_list") S_islist := m_is_list T ⟨D_is_list.kp, fd_is_list, D_is_list⟩
  have C_is_list : Ca P w K mg base 1 "is_list" S_islist := ⟨_, g_is_list, D_is_list.kp, M_is_list.fnR⟩
  obtain ⟨fd_divisor_of, D_divisor_of⟩ := c.def_ 2 (d := ⟨.glo "divisor_of", "divisor_of", "divisor_of", top 19, []⟩) rfl
  have M_divisor_of : Me P w K mg base 1 (He.ga K "divisor_of") S_div := m_divisor_of T ⟨D_divisor_of.kp, fd_divisor_of, D_divisor_of⟩
  have C_divisor_of : Ca P w K mg base 1 "divisor_of" S_div := ⟨_, g_divisor_of, D_divisor_of.kp, M_divisor_of.fnR⟩
  obtain ⟨fd_told_pair, D_told_pair⟩ := c.def_ 14 (d := ⟨.glo "told_pair", "told_pair", "told_pair", top 21, []⟩) rfl
  have M_told_pair : Me P w K mg base 2 (He.ga K "told_pair") (S_told (He.ga K "Ratio")) := m_told_pair T ⟨D_told_pair.kp, fd_told_pair, D_told_pair⟩ C_is_integer
  have C_told_pair : Ca P w K mg base 2 "told_pair" (S_told (He.ga K "Ratio")) := ⟨_, g_told_pair, D_told_pair.kp, M_told_pair.fnR⟩
  obtain ⟨fd_init, D_init⟩ := c.def_ 3 (d := ⟨.met "Ratio" "__init__", "__init__", "Ratio.__init__", inClass (top 20) 0, [.int 1]⟩) rfl
  have RM : Rm P w K mg base (He.ga K "Ratio") (He.ma K (He.ga K "Ratio") "__init__") := rm_of g_Ratio T.mkk (f_init T D_init C_is_integer C_divisor_of) D_init
  obtain ⟨fd_add, D_add⟩ := c.def_ 6 (d := ⟨.met "Ratio" "__add__", "__add__", "Ratio.__add__", inClass (top 20) 6, []⟩) rfl
  have M_add : Me P w K mg base 4 (He.ma K (He.ga K "Ratio") "__add__") (S_op (He.ga K "Ratio") (· + ·)) := m_add T RM ⟨D_add.kp, fd_add, D_add⟩ C_told_pair
  obtain ⟨fd_sub, D_sub⟩ := c.def_ 8 (d := ⟨.met "Ratio" "__sub__", "__sub__", "Ratio.__sub__", inClass (top 20) 8, []⟩) rfl
  have M_sub : Me P w K mg base 4 (He.ma K (He.ga K "Ratio") "__sub__") (S_op (He.ga K "Ratio") (· - ·)) := m_sub T RM ⟨D_sub.kp, fd_sub, D_sub⟩ C_told_pair
  obtain ⟨fd_mul, D_mul⟩ := c.def_ 9 (d := ⟨.met "Ratio" "__mul__", "__mul__", "Ratio.__mul__", inClass (top 20) 10, []⟩) rfl
  have M_mul : Me P w K mg base 4 (He.ma K (He.ga K "Ratio") "__mul__") (S_op (He.ga K "Ratio") (· * ·)) := m_mul T RM ⟨D_mul.kp, fd_mul, D_mul⟩ C_told_pair
  obtain ⟨fd_over, D_over⟩ := c.def_ 12 (d := ⟨.met "Ratio" "over", "over", "Ratio.over", inClass (top 20) 13, []⟩) rfl
  have M_over : Me P w K mg base 4 (He.ma K (He.ga K "Ratio") "over") (S_over (He.ga K "Ratio")) := m_over T RM ⟨D_over.kp, fd_over, D_over⟩ C_told_pair
  obtain ⟨fd_eq, D_eq⟩ := c.def_ 13 (d := ⟨.met "Ratio" "__eq__", "__eq__", "Ratio.__eq__", inClass (top 20) 17, []⟩) rfl
  have M_eq : Me P w K mg base 1 (He.ma K (He.ga K "Ratio") "__eq__") (S_eq (He.ga K "Ratio")) := m_eq T ⟨D_eq.kp, fd_eq, D_eq⟩
  obtain ⟨fd_sign, D_sign⟩ := c.def_ 4 (d := ⟨.get "Ratio" "sign", "sign", "Ratio.sign", inClass (top 20) 3, []⟩) rfl
  have M_sign : Me P w K mg base 1 (recHead K (He.ma K (He.ga K "Ratio") "sign") "property") (S_sign (He.ga K "Ratio")) := m_sign T ⟨D_sign.kp, fd_sign, D_sign⟩
  have OE : OwnEq K (He.ga K "Ratio") (He.ma K (He.ga K "Ratio") "__eq__") := ⟨(meth_ok (c.fact 123 (f := .meth "Ratio" "__eq__") rfl)).at_, (meth_ok (c.fact 123 (f := .meth "Ratio" "__eq__") rfl)).fn, neob_ok (c.fact 130 (f := .neob "Ratio") rfl), T.tx4⟩
  have RQ : Rq P w K mg base (He.ga K "Ratio") := ⟨T.cls, ⟨_, RM⟩, ⟨_, own_op (op := .Add) (fst_ok (c.fact 129 (f := .fst "Ratio") rfl)) (meth_ok (c.fact 119 (f := .meth "Ratio" "__add__") rfl)) (meth_ok (c.fact 125 (f := .meth "Ratio" "__radd__") rfl)) (sub_ok (c.fact 131 (f := .sub "int" "Ratio" false) rfl)) (by decide +kernel) (by decide +kernel), M_add.fnR⟩, ⟨_, own_op (op := .Sub) (fst_ok (c.fact 129 (f := .fst "Ratio") rfl)) (meth_ok (c.fact 120 (f := .meth "Ratio" "__sub__") rfl)) (meth_ok (c.fact 132 (f := .meth "Ratio" "__rsub__") rfl)) (sub_ok (c.fact 131 (f := .sub "int" "Ratio" false) rfl)) (by decide +kernel) (by decide +kernel), M_sub.fnR⟩, ⟨_, own_op (op := .Mult) (fst_ok (c.fact 129 (f := .fst "Ratio") rfl)) (meth_ok (c.fact 121 (f := .meth "Ratio" "__mul__") rfl)) (meth_ok (c.fact 126 (f := .meth "Ratio" "__rmul__") rfl)) (sub_ok (c.fact 131 (f := .sub "int" "Ratio" false) rfl)) (by decide +kernel) (by decide +kernel), M_mul.fnR⟩, ⟨_, OE, M_eq.fnR⟩, ⟨_, meth_ok (c.fact 122 (f := .meth "Ratio" "over") rfl), M_over⟩, ⟨_, _, prop_ok (c.fact 127 (f := .prop "Ratio" "sign") rfl), M_sign⟩⟩
  have RE : Re P w K mg base (He.ga K "Ratio") (He.ma K (He.ga K "Ratio") "__eq__") := ⟨OE, M_eq⟩
  obtain ⟨fd_is_number, D_is_number⟩ := c.def_ 15 (d := ⟨.glo "is_number", "is_number", "is_number", top 22, []⟩) rfl
  have M_is_number : Me P w K mg base 2 (He.ga K "is_number") (S_is_number (He.ga K "Ratio")) := m_is_number T ⟨D_is_number.kp, fd_is_number, D_is_number⟩ C_is_integer
  have C_is_number : Ca P w K mg base 2 "is_number" (S_is_number (He.ga K "Ratio")) := ⟨_, g_is_number, D_is_number.kp, M_is_number.fnR⟩
  obtain ⟨fd_ratio_of, D_ratio_of⟩ := c.def_ 16 (d := ⟨.glo "ratio_of", "ratio_of", "ratio_of", top 23, []⟩) rfl
  have M_ratio_of : Me P w K mg base 4 (He.ga K "ratio_of") (S_ratio_of (He.ga K "Ratio")) := m_ratio_of T RM ⟨D_ratio_of.kp, fd_ratio_of, D_ratio_of⟩
  have C_ratio_of : Ca P w K mg base 4 "ratio_of" (S_ratio_of (He.ga K "Ratio")) := ⟨_, g_ratio_of, D_ratio_of.kp, M_ratio_of.fnR⟩
  obtain ⟨fd_want_number, D_want_number⟩ := c.def_ 17 (d := ⟨.glo "want_number", "want_number", "want_number", top 24, []⟩) rfl
  have M_want_number : Me P w K mg base 5 (He.ga K "want_number") (S_ratio_of (He.ga K "Ratio")) := m_want_number T ⟨D_want_number.kp, fd_want_number, D_want_number⟩ C_is_number C_ratio_of
  have C_want_number : Ca P w K mg base 5 "want_number" (S_ratio_of (He.ga K "Ratio")) := ⟨_, g_want_number, D_want_number.kp, M_want_number.fnR⟩
  obtain ⟨fd_total_of, D_total_of⟩ := c.def_ 19 (d := ⟨.glo "total_of", "total_of", "total_of", top 26, []⟩) rfl
  have M_total_of : Me P w K mg base 5 (He.ga K "total_of") (S_total_of (He.ga K "Ratio")) := m_total_of T RQ ⟨D_total_of.kp, fd_total_of, D_total_of⟩
  have C_total_of : Ca P w K mg base 5 "total_of" (S_total_of (He.ga K "Ratio")) := ⟨_, g_total_of, D_total_of.kp, M_total_of.fnR⟩
  obtain ⟨fd_wholes, D_wholes⟩ := c.def_ 18 (d := ⟨.glo "wholes", "wholes", "wholes", top 25, []⟩) rfl
  have M_wholes : Me P w K mg base 1 (He.ga K "wholes") (S_wholes (He.ga K "Ratio")) := m_wholes T ⟨D_wholes.kp, fd_wholes, D_wholes⟩
  have C_wholes : Ca P w K mg base 1 "wholes" (S_wholes (He.ga K "Ratio")) := ⟨_, g_wholes, D_wholes.kp, M_wholes.fnR⟩
  obtain ⟨fd_total, D_total⟩ := c.def_ 5 (d := ⟨.cm "Ratio" "total", "total", "Ratio.total", inClass (top 20) 5, []⟩) rfl
  have M_total : Me P w K mg base 6 (recHead K (He.ma K (He.ga K "Ratio") "total") "classmethod") (S_total (He.ga K "Ratio")) := m_total T ⟨D_total.kp, fd_total, D_total⟩ C_is_list C_want_number C_total_of
  have RT : Ct P w K mg base (He.ga K "Ratio") := ⟨g_Ratio, cmet_ok (c.fact 128 (f := .cmet "Ratio" "total") rfl) M_total.fnR⟩
  obtain ⟨fd_ints_of, D_ints_of⟩ := c.def_ 20 (d := ⟨.glo "ints_of", "ints_of", "ints_of", top 28, []⟩) rfl
  have M_ints_of : Me P w K mg base 2 (He.ga K "ints_of") (S_ints (He.ga K "Ratio")) := m_ints_of T ⟨D_ints_of.kp, fd_ints_of, D_ints_of⟩ C_wholes
  have C_ints_of : Ca P w K mg base 2 "ints_of" (S_ints (He.ga K "Ratio")) := ⟨_, g_ints_of, D_ints_of.kp, M_ints_of.fnR⟩
  obtain ⟨fd_bare_row, D_bare_row⟩ := c.def_ 21 (d := ⟨.glo "bare_row", "bare_row", "bare_row", top 29, []⟩) rfl
  have M_bare_row : Me P w K mg base 2 (He.ga K "bare_row") S_bare := m_bare_row T ⟨D_bare_row.kp, fd_bare_row, D_bare_row⟩ C_divisor_of
  have C_bare_row : Ca P w K mg base 2 "bare_row" S_bare := ⟨_, g_bare_row, D_bare_row.kp, M_bare_row.fnR⟩
  obtain ⟨fd_cleared, D_cleared⟩ := c.def_ 22 (d := ⟨.glo "cleared", "cleared", "cleared", top 30, []⟩) rfl
  have M_cleared : Me P w K mg base 3 (He.ga K "cleared") S_cleared := m_cleared T ⟨D_cleared.kp, fd_cleared, D_cleared⟩ C_bare_row
  have C_cleared : Ca P w K mg base 3 "cleared" S_cleared := ⟨_, g_cleared, D_cleared.kp, M_cleared.fnR⟩
  obtain ⟨fd_first_at, D_first_at⟩ := c.def_ 23 (d := ⟨.glo "first_at", "first_at", "first_at", top 31, []⟩) rfl
  have M_first_at : Me P w K mg base 1 (He.ga K "first_at") S_first := m_first_at T ⟨D_first_at.kp, fd_first_at, D_first_at⟩
  have C_first_at : Ca P w K mg base 1 "first_at" S_first := ⟨_, g_first_at, D_first_at.kp, M_first_at.fnR⟩
  obtain ⟨fd_headed_row, D_headed_row⟩ := c.def_ 24 (d := ⟨.glo "headed_row", "headed_row", "headed_row", top 32, []⟩) rfl
  have M_headed_row : Me P w K mg base 3 (He.ga K "headed_row") S_headed := m_headed_row T ⟨D_headed_row.kp, fd_headed_row, D_headed_row⟩ C_bare_row
  have C_headed_row : Ca P w K mg base 3 "headed_row" S_headed := ⟨_, g_headed_row, D_headed_row.kp, M_headed_row.fnR⟩
  obtain ⟨fd_head_of, D_head_of⟩ := c.def_ 26 (d := ⟨.glo "head_of", "head_of", "head_of", top 34, []⟩) rfl
  have M_head_of : Me P w K mg base 1 (He.ga K "head_of") S_head := m_head_of T ⟨D_head_of.kp, fd_head_of, D_head_of⟩
  have C_head_of : Ca P w K mg base 1 "head_of" S_head := ⟨_, g_head_of, D_head_of.kp, M_head_of.fnR⟩
  obtain ⟨fd_told_rows, D_told_rows⟩ := c.def_ 27 (d := ⟨.glo "told_rows", "told_rows", "told_rows", top 35, []⟩) rfl
  have M_told_rows : Me P w K mg base 4 (He.ga K "told_rows") (S_toldrows (He.ga K "Ratio")) := m_told_rows T RM ⟨D_told_rows.kp, fd_told_rows, D_told_rows⟩ C_head_of
  have C_told_rows : Ca P w K mg base 4 "told_rows" (S_toldrows (He.ga K "Ratio")) := ⟨_, g_told_rows, D_told_rows.kp, M_told_rows.fnR⟩
  obtain ⟨fd_int_steps, D_int_steps⟩ := c.def_ 25 (d := ⟨.glo "int_steps", "int_steps", "int_steps", top 33, []⟩) rfl
  have M_int_steps : Me P w K mg base 4 (He.ga K "int_steps") S_steps := m_int_steps T ⟨D_int_steps.kp, fd_int_steps, D_int_steps⟩ C_first_at C_headed_row C_cleared
  have C_int_steps : Ca P w K mg base 4 "int_steps" S_steps := ⟨_, g_int_steps, D_int_steps.kp, M_int_steps.fnR⟩
  obtain ⟨fd_turned, D_turned⟩ := c.def_ 28 (d := ⟨.glo "turned_of", "turned_of", "turned_of", top 37, []⟩) rfl
  have M_turned : Me P w K mg base 1 (He.ga K "turned_of") (S_turned (He.ga K "Ratio")) := m_turned T ⟨D_turned.kp, fd_turned, D_turned⟩
  have C_turned : Ca P w K mg base 1 "turned_of" (S_turned (He.ga K "Ratio")) := ⟨_, g_turned_of, D_turned.kp, M_turned.fnR⟩
  obtain ⟨fd_dot, D_dot⟩ := c.def_ 29 (d := ⟨.glo "dot_tables", "dot", "dot", top 38, []⟩) rfl
  have M_dot : Me P w K mg base 6 (He.ga K "dot_tables") (S_dot (He.ga K "Ratio")) := m_dot T RQ ⟨D_dot.kp, fd_dot, D_dot⟩ C_total_of
  have C_dot : Ca P w K mg base 6 "dot_tables" (S_dot (He.ga K "Ratio")) := ⟨_, g_dot_tables, D_dot.kp, M_dot.fnR⟩
  obtain ⟨fd_table_led, D_table_led⟩ := c.def_ 30 (d := ⟨.glo "table_led", "table_led", "table_led", top 40, []⟩) rfl
  have M_table_led : Me P w K mg base 7 (He.ga K "table_led") (S_led (He.ga K "Ratio")) := m_table_led T ⟨D_table_led.kp, fd_table_led, D_table_led⟩ C_dot
  have C_table_led : Ca P w K mg base 7 "table_led" (S_led (He.ga K "Ratio")) := ⟨_, g_table_led, D_table_led.kp, M_table_led.fnR⟩
  obtain ⟨fd_product_of, D_product_of⟩ := c.def_ 31 (d := ⟨.glo "product_of", "product_of", "product_of", top 41, []⟩) rfl
  have M_product_of : Me P w K mg base 7 (He.ga K "product_of") (S_prod (He.ga K "Ratio")) := m_product_of T ⟨D_product_of.kp, fd_product_of, D_product_of⟩ C_turned C_dot
  have C_product_of : Ca P w K mg base 7 "product_of" (S_prod (He.ga K "Ratio")) := ⟨_, g_product_of, D_product_of.kp, M_product_of.fnR⟩
  obtain ⟨fd_unit_of, D_unit_of⟩ := c.def_ 32 (d := ⟨.glo "unit_of", "unit_of", "unit_of", top 42, []⟩) rfl
  have M_unit_of : Me P w K mg base 4 (He.ga K "unit_of") (S_unit (He.ga K "Ratio")) := m_unit_of T RM ⟨D_unit_of.kp, fd_unit_of, D_unit_of⟩
  have C_unit_of : Ca P w K mg base 4 "unit_of" (S_unit (He.ga K "Ratio")) := ⟨_, g_unit_of, D_unit_of.kp, M_unit_of.fnR⟩
  obtain ⟨fd_worth_of, D_worth_of⟩ := c.def_ 35 (d := ⟨.glo "worth_of", "worth_of", "worth_of", top 46, []⟩) rfl
  have M_worth_of : Me P w K mg base 8 (He.ga K "worth_of") (S_worth (He.ga K "Ratio")) := m_worth_of T ⟨D_worth_of.kp, fd_worth_of, D_worth_of⟩ C_table_led C_dot
  have C_worth_of : Ca P w K mg base 8 "worth_of" (S_worth (He.ga K "Ratio")) := ⟨_, g_worth_of, D_worth_of.kp, M_worth_of.fnR⟩
  obtain ⟨fd_inverse_of, D_inverse_of⟩ := c.def_ 33 (d := ⟨.glo "inverse_of", "inverse_of", "inverse_of", top 43, []⟩) rfl
  have M_inverse_of : Me P w K mg base 5 (He.ga K "inverse_of") (S_inv (He.ga K "Ratio")) := m_inverse_of T ⟨D_inverse_of.kp, fd_inverse_of, D_inverse_of⟩ C_ints_of C_unit_of C_int_steps C_told_rows
  have C_inverse_of : Ca P w K mg base 5 "inverse_of" (S_inv (He.ga K "Ratio")) := ⟨_, g_inverse_of, D_inverse_of.kp, M_inverse_of.fnR⟩
  have OK := oc_ok "Known" g_Known (c.fact 106 (f := .cls "Known") rfl) (c.fact 107 (f := .mkr "Known") rfl) (c.fact 108 (f := .isx "Known") rfl) (c.fact 181 (f := .kit (.own "Known") (.own "Known") true) rfl)
  have OW := oc_ok "Walk" g_Walk (c.fact 109 (f := .cls "Walk") rfl) (c.fact 110 (f := .mkr "Walk") rfl) (c.fact 111 (f := .isx "Walk") rfl) (c.fact 173 (f := .kit (.own "Walk") (.own "Walk") true) rfl)
  have nk1 : NoAttr K (He.ga K "Known") "own_rows" := He.eqO_ok (c.fact 114 (f := .noat "Known" "own_rows") rfl)
  have nk2 : NoAttr K (He.ga K "Known") "own_shares" := He.eqO_ok (c.fact 115 (f := .noat "Known" "own_shares") rfl)
  have nw1 : NoAttr K (He.ga K "Walk") "own_rows" := He.eqO_ok (c.fact 116 (f := .noat "Walk" "own_rows") rfl)
  have nw2 : NoAttr K (He.ga K "Walk") "own_shares" := He.eqO_ok (c.fact 117 (f := .noat "Walk" "own_shares") rfl)
  have nw3 : NoAttr K (He.ga K "Walk") "own_kept" := He.eqO_ok (c.fact 118 (f := .noat "Walk" "own_kept") rfl)
  obtain ⟨fd_knInit, D_knInit⟩ := c.def_ 44 (d := ⟨.met "Known" "__init__", "__init__", "Known.__init__", inClass (top 58) 0, []⟩) rfl
  have M_knInit : Me P w K mg base 1 (He.ma K (He.ga K "Known") "__init__") (S_kninit (He.ga K "Known") (He.ga K "Ratio")) := m_knInit T nk1 nk2 OK.cls ⟨D_knInit.kp, fd_knInit, D_knInit⟩
  obtain ⟨fd_wkInit, D_wkInit⟩ := c.def_ 46 (d := ⟨.met "Walk" "__init__", "__init__", "Walk.__init__", inClass (top 60) 0, []⟩) rfl
  have M_wkInit : Me P w K mg base 1 (He.ma K (He.ga K "Walk") "__init__") (S_wkinit (He.ga K "Walk") (He.ga K "Known") (He.ga K "Ratio")) := m_wkInit T OK nk1 nk2 nw1 nw2 nw3 OW.cls ⟨D_wkInit.kp, fd_wkInit, D_wkInit⟩
  obtain ⟨fd_walk_made, D_walk_made⟩ := c.def_ 47 (d := ⟨.glo "walk_made", "walk_made", "walk_made", top 61, []⟩) rfl
  have M_walk_made : Me P w K mg base 3 (He.ga K "walk_made") (S_walk_made (He.ga K "Walk") (He.ga K "Ratio")) := m_walk_made T OK OW M_knInit.fnR M_wkInit.fnR ⟨D_walk_made.kp, fd_walk_made, D_walk_made⟩
  have C_walk_made : Ca P w K mg base 3 "walk_made" (S_walk_made (He.ga K "Walk") (He.ga K "Ratio")) := ⟨_, g_walk_made, D_walk_made.kp, M_walk_made.fnR⟩
  obtain ⟨fd_want_walk, D_want_walk⟩ := c.def_ 48 (d := ⟨.glo "want_walk", "want_walk", "want_walk", top 62, []⟩) rfl
  have M_want_walk : Me P w K mg base 1 (He.ga K "want_walk") (S_want_walk (He.ga K "Walk") (He.ga K "Ratio")) := m_want_walk T OW ⟨D_want_walk.kp, fd_want_walk, D_want_walk⟩
  have C_want_walk : Ca P w K mg base 1 "want_walk" (S_want_walk (He.ga K "Walk") (He.ga K "Ratio")) := ⟨_, g_want_walk, D_want_walk.kp, M_want_walk.fnR⟩
  obtain ⟨fd_are_numbers, D_are_numbers⟩ := c.def_ 36 (d := ⟨.glo "are_numbers", "are_numbers", "are_numbers", top 50, []⟩) rfl
  have M_are_numbers : Me P w K mg base 3 (He.ga K "are_numbers") (S_arenum (He.ga K "Ratio")) := m_are_numbers T ⟨D_are_numbers.kp, fd_are_numbers, D_are_numbers⟩ C_is_list C_is_number
  have C_are_numbers : Ca P w K mg base 3 "are_numbers" (S_arenum (He.ga K "Ratio")) := ⟨_, g_are_numbers, D_are_numbers.kp, M_are_numbers.fnR⟩
  obtain ⟨fd_told_numbers, D_told_numbers⟩ := c.def_ 37 (d := ⟨.glo "told_numbers", "told_numbers", "told_numbers", top 51, []⟩) rfl
  have M_told_numbers : Me P w K mg base 5 (He.ga K "told_numbers") (S_toldnum (He.ga K "Ratio")) := m_told_numbers T ⟨D_told_numbers.kp, fd_told_numbers, D_told_numbers⟩ C_ratio_of
  have C_told_numbers : Ca P w K mg base 5 "told_numbers" (S_toldnum (He.ga K "Ratio")) := ⟨_, g_told_numbers, D_told_numbers.kp, M_told_numbers.fnR⟩
  obtain ⟨fd_want_function, D_want_function⟩ := c.def_ 50 (d := ⟨.glo "want_function", "want_function", "want_function", top 64, []⟩) rfl
  have M_want_function : Me P w K mg base 6 (He.ga K "want_function") (S_wantf (He.ga K "Walk") (He.ga K "Ratio")) := m_want_function T OW nw1 ⟨D_want_function.kp, fd_want_function, D_want_function⟩ C_are_numbers C_told_numbers
  have C_want_function : Ca P w K mg base 6 "want_function" (S_wantf (He.ga K "Walk") (He.ga K "Ratio")) := ⟨_, g_want_function, D_want_function.kp, M_want_function.fnR⟩
  obtain ⟨fd_come_to, D_come_to⟩ := c.def_ 51 (d := ⟨.glo "come_to", "come_to", "come_to", top 65, []⟩) rfl
  have M_come_to : Me P w K mg base 3 (He.ga K "come_to") (S_come (He.ga K "Ratio")) := m_come_to T RQ ⟨D_come_to.kp, fd_come_to, D_come_to⟩
  have C_come_to : Ca P w K mg base 3 "come_to" (S_come (He.ga K "Ratio")) := ⟨_, g_come_to, D_come_to.kp, M_come_to.fnR⟩
  obtain ⟨fd_closed_in, D_closed_in⟩ := c.def_ 52 (d := ⟨.glo "closed_in", "closed_in", "closed_in", top 66, []⟩) rfl
  have M_closed_in : Me P w K mg base 4 (He.ga K "closed_in") (S_closed (He.ga K "Ratio")) := m_closed_in T ⟨D_closed_in.kp, fd_closed_in, D_closed_in⟩ C_come_to
  have C_closed_in : Ca P w K mg base 4 "closed_in" (S_closed (He.ga K "Ratio")) := ⟨_, g_closed_in, D_closed_in.kp, M_closed_in.fnR⟩
  obtain ⟨fd_are_whole, D_are_whole⟩ := c.def_ 53 (d := ⟨.glo "are_whole_rows", "are_whole_rows", "are_whole_rows", top 67, []⟩) rfl
  have M_are_whole : Me P w K mg base 5 (He.ga K "are_whole_rows") (S_arewhole (He.ga K "Ratio")) := m_are_whole T ⟨D_are_whole.kp, fd_are_whole, D_are_whole⟩ C_closed_in
  have C_are_whole : Ca P w K mg base 5 "are_whole_rows" (S_arewhole (He.ga K "Ratio")) := ⟨_, g_are_whole_rows, D_are_whole.kp, M_are_whole.fnR⟩
  obtain ⟨fd_want_whole, D_want_whole⟩ := c.def_ 49 (d := ⟨.glo "want_whole", "want_whole", "want_whole", top 63, []⟩) rfl
  have M_want_whole : Me P w K mg base 6 (He.ga K "want_whole") (S_wantwhole (He.ga K "Walk") (He.ga K "Ratio")) := m_want_whole T OW nw1 ⟨D_want_whole.kp, fd_want_whole, D_want_whole⟩ C_are_whole
  have C_want_whole : Ca P w K mg base 6 "want_whole" (S_wantwhole (He.ga K "Walk") (He.ga K "Ratio")) := ⟨_, g_want_whole, D_want_whole.kp, M_want_whole.fnR⟩
  obtain ⟨fd_ds, D_ds⟩ := c.def_ 54 (d := ⟨.glo "dot_strays", "dot", "dot", top 69, []⟩) rfl
  have M_ds : Me P w K mg base 4 (He.ga K "dot_strays") (S_ds (He.ga K "Ratio")) := m_ds T RM ⟨D_ds.kp, fd_ds, D_ds⟩ C_wholes
  have C_ds : Ca P w K mg base 4 "dot_strays" (S_ds (He.ga K "Ratio")) := ⟨_, g_dot_strays, D_ds.kp, M_ds.fnR⟩
  obtain ⟨fd_back_table, D_back_table⟩ := c.def_ 55 (d := ⟨.glo "back_table", "back_table", "back_table", top 71, []⟩) rfl
  have M_back_table : Me P w K mg base 6 (He.ga K "back_table") (S_back (He.ga K "Walk") (He.ga K "Ratio")) := m_back_table T RQ OW nw1 nw2 ⟨D_back_table.kp, fd_back_table, D_back_table⟩ C_inverse_of
  have C_back_table : Ca P w K mg base 6 "back_table" (S_back (He.ga K "Walk") (He.ga K "Ratio")) := ⟨_, g_back_table, D_back_table.kp, M_back_table.fnR⟩
  obtain ⟨fd_error_made, D_error_made⟩ := c.def_ 57 (d := ⟨.glo "error_made", "error_made", "error_made", top 73, []⟩) rfl
  have M_error_made : Me P w K mg base 7 (He.ga K "error_made") (S_errmade (He.ga K "Walk") (He.ga K "Ratio")) := m_error_made T RQ OW nw2 ⟨D_error_made.kp, fd_error_made, D_error_made⟩ C_back_table
  have C_error_made : Ca P w K mg base 7 "error_made" (S_errmade (He.ga K "Walk") (He.ga K "Ratio")) := ⟨_, g_error_made, D_error_made.kp, M_error_made.fnR⟩
  obtain ⟨fd_error_rows, D_error_rows⟩ := c.def_ 56 (d := ⟨.glo "error_rows", "error_rows", "error_rows", top 72, []⟩) rfl
  have M_error_rows : Me P w K mg base 8 (He.ga K "error_rows") (S_errrows (He.ga K "Walk") (He.ga K "Ratio")) := m_error_rows T OW nw3 ⟨D_error_rows.kp, fd_error_rows, D_error_rows⟩ C_error_made
  have C_error_rows : Ca P w K mg base 8 "error_rows" (S_errrows (He.ga K "Walk") (He.ga K "Ratio")) := ⟨_, g_error_rows, D_error_rows.kp, M_error_rows.fnR⟩
  obtain ⟨fd_error, D_error⟩ := c.def_ 58 (d := ⟨.glo "error", "error", "error", top 74, []⟩) rfl
  have M_error : Me P w K mg base 9 (He.ga K "error") (S_error (He.ga K "Walk") (He.ga K "Ratio")) := m_error T ⟨D_error.kp, fd_error, D_error⟩ C_want_walk C_want_function C_want_whole C_error_rows C_worth_of
  have C_error : Ca P w K mg base 9 "error" (S_error (He.ga K "Walk") (He.ga K "Ratio")) := ⟨_, g_error, D_error.kp, M_error.fnR⟩
  obtain ⟨fd_is_weight, D_is_weight⟩ := c.def_ 59 (d := ⟨.glo "is_weight", "is_weight", "is_weight", top 78, []⟩) rfl
  have M_is_weight : Me P w K mg base 5 (He.ga K "is_weight") (S_isweight (He.ga K "Ratio")) := m_is_weight T RQ ⟨D_is_weight.kp, fd_is_weight, D_is_weight⟩ C_is_number C_ratio_of
  have C_is_weight : Ca P w K mg base 5 "is_weight" (S_isweight (He.ga K "Ratio")) := ⟨_, g_is_weight, D_is_weight.kp, M_is_weight.fnR⟩
  obtain ⟨fd_is_grid_row, D_is_grid_row⟩ := c.def_ 60 (d := ⟨.glo "is_grid_row", "is_grid_row", "is_grid_row", top 79, []⟩) rfl
  have M_is_grid_row : Me P w K mg base 6 (He.ga K "is_grid_row") (S_isgridrow (He.ga K "Ratio")) := m_is_grid_row T ⟨D_is_grid_row.kp, fd_is_grid_row, D_is_grid_row⟩ C_is_list C_is_weight
  have C_is_grid_row : Ca P w K mg base 6 "is_grid_row" (S_isgridrow (He.ga K "Ratio")) := ⟨_, g_is_grid_row, D_is_grid_row.kp, M_is_grid_row.fnR⟩
  obtain ⟨t3, g3⟩ := int_ok X G (c.fact 99 (f := .int "MOST_PARTS" 3) rfl)
  obtain ⟨t6, g6⟩ := int_ok X G (c.fact 100 (f := .int "MOST_PAIRS" 6) rfl)
  obtain ⟨fd_want_grid, D_want_grid⟩ := c.def_ 61 (d := ⟨.glo "want_grid", "want_grid", "want_grid", top 80, []⟩) rfl
  have M_want_grid : Me P w K mg base 7 (He.ga K "want_grid") (S_wantgrid (He.ga K "Ratio")) := m_want_grid T g3 g6 ⟨D_want_grid.kp, fd_want_grid, D_want_grid⟩ C_is_list C_is_grid_row C_ratio_of
  have C_want_grid : Ca P w K mg base 7 "want_grid" (S_wantgrid (He.ga K "Ratio")) := ⟨_, g_want_grid, D_want_grid.kp, M_want_grid.fnR⟩
  obtain ⟨fd_over_all, D_over_all⟩ := c.def_ 62 (d := ⟨.glo "over_all", "over_all", "over_all", top 81, []⟩) rfl
  have M_over_all : Me P w K mg base 6 (He.ga K "over_all") (S_overall (He.ga K "Ratio")) := m_over_all T RQ ⟨D_over_all.kp, fd_over_all, D_over_all⟩ C_total_of
  have C_over_all : Ca P w K mg base 6 "over_all" (S_overall (He.ga K "Ratio")) := ⟨_, g_over_all, D_over_all.kp, M_over_all.fnR⟩
  obtain ⟨fd_sums_of, D_sums_of⟩ := c.def_ 64 (d := ⟨.glo "sums_of", "sums_of", "sums_of", top 83, []⟩) rfl
  have M_sums_of : Me P w K mg base 7 (He.ga K "sums_of") (S_sumsof (He.ga K "Ratio")) := m_sums_of T ⟨D_sums_of.kp, fd_sums_of, D_sums_of⟩ C_total_of C_over_all
  have C_sums_of : Ca P w K mg base 7 "sums_of" (S_sumsof (He.ga K "Ratio")) := ⟨_, g_sums_of, D_sums_of.kp, M_sums_of.fnR⟩
  obtain ⟨fd_sbf, D_sbf⟩ := c.def_ 65 (d := ⟨.glo "second_by_first", "second_by_first", "second_by_first", top 84, []⟩) rfl
  have M_sbf : Me P w K mg base 7 (He.ga K "second_by_first") (S_sbf (He.ga K "Ratio")) := m_sbf T ⟨D_sbf.kp, fd_sbf, D_sbf⟩ C_over_all
  have C_sbf : Ca P w K mg base 7 "second_by_first" (S_sbf (He.ga K "Ratio")) := ⟨_, g_second_by_first, D_sbf.kp, M_sbf.fnR⟩
  obtain ⟨fd_fbs, D_fbs⟩ := c.def_ 66 (d := ⟨.glo "first_by_second", "first_by_second", "first_by_second", top 85, []⟩) rfl
  have M_fbs : Me P w K mg base 8 (He.ga K "first_by_second") (S_fbs (He.ga K "Ratio")) := m_fbs T ⟨D_fbs.kp, fd_fbs, D_fbs⟩ C_turned C_sbf
  have C_fbs : Ca P w K mg base 8 "first_by_second" (S_fbs (He.ga K "Ratio")) := ⟨_, g_first_by_second, D_fbs.kp, M_fbs.fnR⟩
  obtain ⟨fd_seen_walk, D_seen_walk⟩ := c.def_ 69 (d := ⟨.glo "seen_walk", "seen_walk", "seen_walk", top 88, []⟩) rfl
  have M_seen_walk : Me P w K mg base 9 (He.ga K "seen_walk") (S_seenwalk (He.ga K "Walk") (He.ga K "Ratio")) := m_seen_walk T ⟨D_seen_walk.kp, fd_seen_walk, D_seen_walk⟩ C_sbf C_fbs C_product_of C_sums_of C_walk_made
  have C_seen_walk : Ca P w K mg base 9 "seen_walk" (S_seenwalk (He.ga K "Walk") (He.ga K "Ratio")) := ⟨_, g_seen_walk, D_seen_walk.kp, M_seen_walk.fnR⟩
  obtain ⟨fd_given_of, D_given_of⟩ := c.def_ 70 (d := ⟨.glo "given_of", "given_of", "given_of", top 89, []⟩) rfl
  have M_given_of : Me P w K mg base 9 (He.ga K "given_of") (S_givenof (He.ga K "Ratio")) := m_given_of T ⟨D_given_of.kp, fd_given_of, D_given_of⟩ C_fbs C_ds
  have C_given_of : Ca P w K mg base 9 "given_of" (S_givenof (He.ga K "Ratio")) := ⟨_, g_given_of, D_given_of.kp, M_given_of.fnR⟩
  obtain ⟨fd_redraw, D_redraw⟩ := c.def_ 67 (d := ⟨.glo "redraw_rows", "redraw_rows", "redraw_rows", top 86, []⟩) rfl
  have M_redraw : Me P w K mg base 9 (He.ga K "redraw_rows") (S_redraw (He.ga K "Ratio")) := m_redraw T RQ ⟨D_redraw.kp, fd_redraw, D_redraw⟩ C_fbs C_sbf
  have C_redraw : Ca P w K mg base 9 "redraw_rows" (S_redraw (He.ga K "Ratio")) := ⟨_, g_redraw_rows, D_redraw.kp, M_redraw.fnR⟩
  obtain ⟨fd_shares_of, D_shares_of⟩ := c.def_ 63 (d := ⟨.glo "shares_of", "shares_of", "shares_of", top 82, []⟩) rfl
  have M_shares_of : Me P w K mg base 7 (He.ga K "shares_of") (S_sharesof (He.ga K "Ratio")) := m_shares_of T ⟨D_shares_of.kp, fd_shares_of, D_shares_of⟩ C_over_all
  have C_shares_of : Ca P w K mg base 7 "shares_of" (S_sharesof (He.ga K "Ratio")) := ⟨_, g_shares_of, D_shares_of.kp, M_shares_of.fnR⟩
  obtain ⟨fd_is_row, D_is_row⟩ := c.def_ 34 (d := ⟨.glo "is_row", "is_row", "is_row", top 45, []⟩) rfl
  have M_is_row : Me P w K mg base 3 (He.ga K "is_row") (S_arenum (He.ga K "Ratio")) := m_is_row T ⟨D_is_row.kp, fd_is_row, D_is_row⟩ C_is_list C_is_number
  have C_is_row : Ca P w K mg base 3 "is_row" (S_arenum (He.ga K "Ratio")) := ⟨_, g_is_row, D_is_row.kp, M_is_row.fnR⟩
  obtain ⟨fd_scan_rows, D_scan_rows⟩ := c.def_ 68 (d := ⟨.glo "scan_rows", "scan_rows", "scan_rows", top 87, []⟩) rfl
  have M_scan_rows : Me P w K mg base 10 (He.ga K "scan_rows") (S_scanrows (He.ga K "Ratio")) := m_scan_rows T ⟨D_scan_rows.kp, fd_scan_rows, D_scan_rows⟩ C_redraw C_product_of
  have C_scan_rows : Ca P w K mg base 10 "scan_rows" (S_scanrows (He.ga K "Ratio")) := ⟨_, g_scan_rows, D_scan_rows.kp, M_scan_rows.fnR⟩
  obtain ⟨fd_given_rows, D_given_rows⟩ := c.def_ 71 (d := ⟨.glo "given_rows", "given_rows", "given_rows", top 90, []⟩) rfl
  have M_given_rows : Me P w K mg base 10 (He.ga K "given_rows") (S_givenrows (He.ga K "Ratio")) := m_given_rows T ⟨D_given_rows.kp, fd_given_rows, D_given_rows⟩ C_fbs C_error_rows C_seen_walk C_turned C_product_of
  have C_given_rows : Ca P w K mg base 10 "given_rows" (S_givenrows (He.ga K "Ratio")) := ⟨_, g_given_rows, D_given_rows.kp, M_given_rows.fnR⟩
  obtain ⟨fd_scan, D_scan⟩ := c.def_ 72 (d := ⟨.glo "scan", "scan", "scan", top 91, []⟩) rfl
  have M_scan : Me P w K mg base 11 (He.ga K "scan") (S_scan (He.ga K "Walk") (He.ga K "Ratio")) := m_scan T ⟨D_scan.kp, fd_scan, D_scan⟩ C_want_grid C_scan_rows C_shares_of C_walk_made
  have C_scan : Ca P w K mg base 11 "scan" (S_scan (He.ga K "Walk") (He.ga K "Ratio")) := ⟨_, g_scan, D_scan.kp, M_scan.fnR⟩
  obtain ⟨fd_raw_table, D_raw_table⟩ := c.def_ 74 (d := ⟨.glo "raw_table", "raw_table", "raw_table", top 93, []⟩) rfl
  have M_raw_table : Me P w K mg base 10 (He.ga K "raw_table") (S_rawtable (He.ga K "Ratio")) := m_raw_table T ⟨D_raw_table.kp, fd_raw_table, D_raw_table⟩ C_want_grid C_error_rows C_seen_walk
  have C_raw_table : Ca P w K mg base 10 "raw_table" (S_rawtable (He.ga K "Ratio")) := ⟨_, g_raw_table, D_raw_table.kp, M_raw_table.fnR⟩
  obtain ⟨fd_pgt, D_pgt⟩ := c.def_ 75 (d := ⟨.glo "given_table", "given_table", "given_table", top 94, []⟩) rfl
  have CP_pgt : CaP P w K mg base 11 "given_table" "given_table" (top 94) ["grid"] (S_giventable (He.ga K "Ratio")) := ⟨_, g_given_table, mp_given_table T ⟨D_pgt.kp, fd_pgt, D_pgt⟩ C_want_grid C_given_rows⟩
  obtain ⟨fd_given_means, D_given_means⟩ := c.def_ 73 (d := ⟨.glo "given_means", "given_means", "given_means", top 92, []⟩) rfl
  have M_given_means : Me P w K mg base 10 (He.ga K "given_means") (S_means (He.ga K "Ratio")) := m_given_means T ⟨D_given_means.kp, fd_given_means, D_given_means⟩ C_want_grid C_is_row C_ratio_of C_given_of
  have C_given_means : Ca P w K mg base 10 "given_means" (S_means (He.ga K "Ratio")) := ⟨_, g_given_means, D_given_means.kp, M_given_means.fnR⟩
  obtain ⟨fd_pgm, D_pgm⟩ := c.def_ 73 (d := ⟨.glo "given_means", "given_means", "given_means", top 92, []⟩) rfl
  have CP_pgm : CaP P w K mg base 10 "given_means" "given_means" (top 92) ["grid", "function"] (S_means (He.ga K "Ratio")) := ⟨_, g_given_means, mp_given_means T ⟨D_pgm.kp, fd_pgm, D_pgm⟩ C_want_grid C_is_row C_ratio_of C_given_of⟩
  obtain ⟨fd_draw, D_draw⟩ := c.def_ 77 (d := ⟨.glo "_law_draw", "_law_draw", "_law_draw", top 97, []⟩) rfl
  have M_draw : Me P w K mg base 1 (He.ga K "_law_draw") S_draw := m_draw T ⟨D_draw.kp, fd_draw, D_draw⟩
  have C_draw : Ca P w K mg base 1 "_law_draw" S_draw := ⟨_, g__law_draw, D_draw.kp, M_draw.fnR⟩
  obtain ⟨fd_pick1, D_pick1⟩ := c.def_ 78 (d := ⟨.glo "_law_pick", "_law_pick", "_law_pick", top 98, []⟩) rfl
  have M_pick1 : Me P w K mg base 2 (He.ga K "_law_pick") (S_pick (oP oI oI)) := m_pick T ⟨D_pick1.kp, fd_pick1, D_pick1⟩ C_draw
  have C_pick1 : Ca P w K mg base 2 "_law_pick" (S_pick (oP oI oI)) := ⟨_, g__law_pick, D_pick1.kp, M_pick1.fnR⟩
  obtain ⟨fd_pick2, D_pick2⟩ := c.def_ 78 (d := ⟨.glo "_law_pick", "_law_pick", "_law_pick", top 98, []⟩) rfl
  have M_pick2 : Me P w K mg base 2 (He.ga K "_law_pick") (S_pick (oN (He.ga K "Ratio"))) := m_pick T ⟨D_pick2.kp, fd_pick2, D_pick2⟩ C_draw
  have C_pick2 : Ca P w K mg base 2 "_law_pick" (S_pick (oN (He.ga K "Ratio"))) := ⟨_, g__law_pick, D_pick2.kp, M_pick2.fnR⟩
  obtain ⟨fd_number, D_number⟩ := c.def_ 79 (d := ⟨.glo "_law_number", "_law_number", "_law_number", top 99, []⟩) rfl
  have M_number : Me P w K mg base 4 (He.ga K "_law_number") (S_number (He.ga K "Ratio")) := m_number T RM ⟨D_number.kp, fd_number, D_number⟩ C_draw
  have C_number : Ca P w K mg base 4 "_law_number" (S_number (He.ga K "Ratio")) := ⟨_, g__law_number, D_number.kp, M_number.fnR⟩
  obtain ⟨fd_function, D_function⟩ := c.def_ 80 (d := ⟨.glo "_law_function", "_law_function", "_law_function", top 100, []⟩) rfl
  have M_function : Me P w K mg base 5 (He.ga K "_law_function") (S_function (He.ga K "Ratio")) := m_function T ⟨D_function.kp, fd_function, D_function⟩ C_number
  have C_function : Ca P w K mg base 5 "_law_function" (S_function (He.ga K "Ratio")) := ⟨_, g__law_function, D_function.kp, M_function.fnR⟩
  obtain ⟨fd_ldot, D_ldot⟩ := c.def_ 81 (d := ⟨.glo "_law_dot", "_law_dot", "_law_dot", top 101, []⟩) rfl
  have M_ldot : Me P w K mg base 5 (He.ga K "_law_dot") (S_ldot (He.ga K "Ratio")) := m_ldot T RQ ⟨D_ldot.kp, fd_ldot, D_ldot⟩
  have C_ldot : Ca P w K mg base 5 "_law_dot" (S_ldot (He.ga K "Ratio")) := ⟨_, g__law_dot, D_ldot.kp, M_ldot.fnR⟩
  obtain ⟨fd_lspread, D_lspread⟩ := c.def_ 82 (d := ⟨.glo "_law_spread", "_law_spread", "_law_spread", top 102, []⟩) rfl
  have M_lspread : Me P w K mg base 6 (He.ga K "_law_spread") (S_lspread (He.ga K "Ratio")) := m_lspread T RQ ⟨D_lspread.kp, fd_lspread, D_lspread⟩ C_ldot
  have C_lspread : Ca P w K mg base 6 "_law_spread" (S_lspread (He.ga K "Ratio")) := ⟨_, g__law_spread, D_lspread.kp, M_lspread.fnR⟩
  obtain ⟨fd_lworth, D_lworth⟩ := c.def_ 89 (d := ⟨.glo "_law_worth", "_law_worth", "_law_worth", top 109, []⟩) rfl
  have M_lworth : Me P w K mg base 6 (He.ga K "_law_worth") (S_lworth (He.ga K "Ratio")) := m_lworth T ⟨D_lworth.kp, fd_lworth, D_lworth⟩ C_ldot
  have C_lworth : Ca P w K mg base 6 "_law_worth" (S_lworth (He.ga K "Ratio")) := ⟨_, g__law_worth, D_lworth.kp, M_lworth.fnR⟩
  obtain ⟨fd_lfirst, D_lfirst⟩ := c.def_ 86 (d := ⟨.glo "_law_first_at", "_law_first_at", "_law_first_at", top 106, []⟩) rfl
  have M_lfirst : Me P w K mg base 7 (He.ga K "_law_first_at") (S_lfirst (He.ga K "Ratio")) := m_lfirst T RQ RT ⟨D_lfirst.kp, fd_lfirst, D_lfirst⟩
  have C_lfirst : Ca P w K mg base 7 "_law_first_at" (S_lfirst (He.ga K "Ratio")) := ⟨_, g__law_first_at, D_lfirst.kp, M_lfirst.fnR⟩
  obtain ⟨fd_lsecond, D_lsecond⟩ := c.def_ 87 (d := ⟨.glo "_law_second_at", "_law_second_at", "_law_second_at", top 107, []⟩) rfl
  have M_lsecond : Me P w K mg base 7 (He.ga K "_law_second_at") (S_lsecond (He.ga K "Ratio")) := m_lsecond T RQ RT ⟨D_lsecond.kp, fd_lsecond, D_lsecond⟩
  have C_lsecond : Ca P w K mg base 7 "_law_second_at" (S_lsecond (He.ga K "Ratio")) := ⟨_, g__law_second_at, D_lsecond.kp, M_lsecond.fnR⟩
  obtain ⟨fd_lseen, D_lseen⟩ := c.def_ 88 (d := ⟨.glo "_law_seen", "_law_seen", "_law_seen", top 108, []⟩) rfl
  have M_lseen : Me P w K mg base 8 (He.ga K "_law_seen") (S_lseen (He.ga K "Ratio")) := m_lseen T RQ RT ⟨D_lseen.kp, fd_lseen, D_lseen⟩ C_lsecond C_lfirst
  have C_lseen : Ca P w K mg base 8 "_law_seen" (S_lseen (He.ga K "Ratio")) := ⟨_, g__law_seen, D_lseen.kp, M_lseen.fnR⟩
  obtain ⟨fd_lgrid, D_lgrid⟩ := c.def_ 85 (d := ⟨.glo "_law_grid", "_law_grid", "_law_grid", top 105, []⟩) rfl
  have M_lgrid : Me P w K mg base 4 (He.ga K "_law_grid") (S_lgrid (He.ga K "Ratio")) := m_lgrid T RM ⟨D_lgrid.kp, fd_lgrid, D_lgrid⟩ C_pick1 C_pick2
  have C_lgrid : Ca P w K mg base 4 "_law_grid" (S_lgrid (He.ga K "Ratio")) := ⟨_, g__law_grid, D_lgrid.kp, M_lgrid.fnR⟩
  obtain ⟨fd_ahead, D_ahead⟩ := c.def_ 83 (d := ⟨.glo "_law_ahead", "_law_ahead", "_law_ahead", top 103, []⟩) rfl
  have M_ahead : Me P w K mg base 6 (He.ga K "_law_ahead") (S_ahead (He.ga K "Ratio")) := m_ahead T RQ ⟨D_ahead.kp, fd_ahead, D_ahead⟩ C_ldot
  have C_ahead : Ca P w K mg base 6 "_law_ahead" (S_ahead (He.ga K "Ratio")) := ⟨_, g__law_ahead, D_ahead.kp, M_ahead.fnR⟩
  obtain ⟨fd_lerror, D_lerror⟩ := c.def_ 84 (d := ⟨.glo "_law_error", "_law_error", "_law_error", top 104, []⟩) rfl
  have M_lerror : Me P w K mg base 7 (He.ga K "_law_error") (S_lerror (He.ga K "Ratio")) := m_lerror T RQ ⟨D_lerror.kp, fd_lerror, D_lerror⟩ C_ldot C_ahead
  have C_lerror : Ca P w K mg base 7 "_law_error" (S_lerror (He.ga K "Ratio")) := ⟨_, g__law_error, D_lerror.kp, M_lerror.fnR⟩
  obtain ⟨fd_right, D_right⟩ := c.def_ 90 (d := ⟨.glo "_law_right", "_law_right", "_law_right", top 110, []⟩) rfl
  have M_right : Me P w K mg base 13 (He.ga K "_law_right") S_right := m_right T RQ RE hw ⟨D_right.kp, fd_right, D_right⟩ C_lgrid C_raw_table CP_pgt C_lseen C_function C_lfirst C_ldot C_given_means CP_pgm C_lworth C_lerror C_lspread C_error C_scan C_number
  have C_right : Ca P w K mg base 13 "_law_right" S_right := ⟨_, g__law_right, D_right.kp, M_right.fnR⟩
  obtain ⟨fd_pot, D_pot⟩ := c.def_ 76 (d := ⟨.glo "_law_pot", "_law_pot", "_law_pot", top 96, []⟩) rfl
  have M_pot : Me P w K mg base 1 (He.ga K "_law_pot") (S_pot K) := m_pot T ⟨D_pot.kp, fd_pot, D_pot⟩
  have C_pot : Ca P w K mg base 1 "_law_pot" (S_pot K) := ⟨_, g__law_pot, D_pot.kp, M_pot.fnR⟩
  exact ok_law D_law C_pot C_right
end
end Fx

end
set_option Elab.async false
set_option linter.all false
set_option maxRecDepth 100000
set_option maxHeartbeats 4000000
set_option exponentiation.threshold 100000
/-! The law holds. -/
open PySem PySem.W PySem.Calls PyProof.Rows
theorem PySem.Challenge.cw_surerwalks_k72_whole_raw_and_given_table_holds : PySem.Challenge.rw_surerwalks_k72_whole_raw_and_given_table.Holds := by
  w_on; o_law
  refine HandSHeadRun.head_imp (r := OpenLaw.row PySem.Challenge.rw_surerwalks_k72_whole_raw_and_given_table) (q := view (OpenLaw.row PySem.Challenge.rw_surerwalks_k72_whole_raw_and_given_table).prog [0, 111]) (H := Hd.hk) (ob := Hd.ob) (M := 8000) (loose := Hd.loose) (d := HandSHeadRun.topDef (OpenLaw.row PySem.Challenge.rw_surerwalks_k72_whole_raw_and_given_table).prog 111) (kwd := []) Hd.ob_eq
    Hd.run (by kernel_rfl) (by kernel_rfl) (by kernel_rfl) (by rfl) (by first | assumption | decide +kernel) (by decide +kernel) ⟨rfl, rfl, rfl, rfl, rfl, by decide +kernel⟩ ?hw ?hc
  case hw => w_witness2
  case hc =>
    refine L2.walk_ofE (l := PySem.Challenge.rw_surerwalks_k72_whole_raw_and_given_table) (n := 63) (k := 14) (x := "_law_script") (CX := L2.CX0) rfl (by decide) (by kernel_rfl) ⟨rfl, by decide, by decide⟩ ?F (fun _ _ _ _ z => z)
    intro w mg fa h Y G hmg0
    obtain ⟨K, KX, c⟩ := Y
    have hmg : mg ("law" : PySem.Str) = some (.ref fa) := by
      have e : (HandSHeadRun.topDef (OpenLaw.row PySem.Challenge.rw_surerwalks_k72_whole_raw_and_given_table).prog 111).name = ("law" : PySem.Str) := by kernel_rfl
      rw [← e]
      exact hmg0
    obtain ⟨fd, hb, hF⟩ := Fx.facts (P := (PySem.Challenge.rw_surerwalks_k72_whole_raw_and_given_table).prog) (w := w) KX G hmg c Pl.right_all
    exact ⟨K, fd, Wk.spLaw K, KX, hb, fun H a ns hl _ hS => ⟨a, ns, rfl, hS, fun _ => rfl⟩, hF⟩
