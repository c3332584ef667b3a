import PyProof.Rows.All
import Wide.All
import OpenK.AllK
import Wide.FinOn
import HandS.Words
import HandS.Head0
import HandS.Head1
import HandS.Head2
import HandS.HeadHook1
import HandS.HeadHook2
import PyProof.Draws
import KE.GoesMore
import KE.GoesEnum
import HandS.ForMost
import HandS.Walk
import KE.KCallOwn
import KE.KOwnIter
import HandS.More
import HandS.OwnEq
import HandS.Star
import HandS.OwnIter
import PyProof.MinMaxWalk
import KE.LtData
import KE.KMinKey
import HandS.SortKw
import HandS.Property
import HandS.MakeKwOnly
import HandS.Evl
import HandS.IsInst
import HandS.Deep
import HandS.Zip
import HandS.TupAny
import HandS.Defaults
import HandS.Exc
import HandS.TryOnly
import HandS.DictComp
import HandS.Style
import HandS.SortInts
import HandS.Sort
import HandS.SetFor
import HandS.Codes
import HandS.Text
import KE.DataCmp
import KE.SortData
import KE.KDictPairs
import PyProof.ReprRoads
import HandS.Set
import HandS.Strs
import HandS.TupSets
import KE.KDictZip
import PyProof.ReprLen
import PySem.Challenge.RW_stillarrives_k15_whole_rooted
/-! # ZTop -/
set_option Elab.async false
set_option linter.all false
set_option maxRecDepth 100000
/-! The statements of the text, and of its class. -/
namespace Z
open PySem PySem.Spec PyProof.Rows L2
def top (i : Nat) : Stmt := PySem.Challenge.pw_stillarrives_k15_whole_rooted.main.body.getD i (.Pass ⟨0, 0, 0, 0⟩)
def inC (j : Nat) : Stmt := inClass (top 67) j
end Z

/-! # HXa -/
set_option Elab.async false
set_option linter.all false
set_option maxRecDepth 100000
set_option maxHeartbeats 2000000
/-! The head's facts, with a class's properties and own methods: what is looked at. -/
namespace HX
open PySem PySem.Spec PyProof.Rows L2
abbrev cK (K : PySem.W.Frag) : Addr := He.ga K "Rooted"
def mAd (K : PySem.W.Frag) (m : Str) : Addr := He.ma K (cK K) m
/-- a property's getter -/
def gAd (K : PySem.W.Frag) (m : Str) : Addr := match PySem.W.recIn K (mAd K m) "property" with
  | some (.ref g :: _) => g
  | _ => 0
structure GD where
  m : Str
  name : Str
  qual : Str
  params : Arguments
  body : List Stmt
  scope : Scope
def fnX (K : PySem.W.Frag) (a : Addr) : He.FnW := match K.lookup a with
  | some ⟨_, _, .func fd, _⟩ => some (fd.name, fd.qualname, fd.params, fd.body, fd.scope, fd.globals, fd.closure, fd.builtins)
  | _ => none
def GD.val (d : GD) : He.FnW := some (d.name, d.qual, d.params, .stmts d.body, d.scope, mainGlobals, [], builtinsNs)
def GD.ok (K : PySem.W.Frag) (d : GD) : Bool := PySem.W.keepIn K (.ref (gAd K d.m)) && (match K.lookup (gAd K d.m) with
  | some ⟨_, _, .func fd, _⟩ => PySem.W.codeIn K fd.code d.qual && (He.dflB K fd.defaults [] && He.kwdB K fd.kwdefaults [])
  | _ => false)
def propB (K : PySem.W.Frag) (m : Str) : Bool := He.eqO (PySem.W.findIn K (.ref (cK K)) m) (some (some (.ref (mAd K m)))) && (He.eqO (PySem.W.specialIn K (.ref (mAd K m)) "__get__") (some (some (.builtin "property.__get__"))) &&
  (decide (PySem.W.takesIn K (.ref (mAd K m)) = some true) && (match PySem.W.recIn K (mAd K m) "property" with
    | some (.ref _ :: _) => true
    | _ => false)))
def ownB (K : PySem.W.Frag) (m : Str) : Bool := He.eqO (PySem.W.findIn K (.ref (cK K)) m) (some (some (.ref (mAd K m)))) && (PySem.W.isFn K (.ref (mAd K m)) && PySem.W.fnIn K (mAd K m))
def props : List Str := ["net_now", "root_now", "width_now"]
def owns : List Str := ["__contains__", "__getitem__", "__len__", "__eq__", "__iter__", "__call__"]
def clsB (K : PySem.W.Frag) : Bool := He.eqO (PySem.W.findIn K (.ref (cK K)) "__class__") (some (some (.builtin "object.__class__"))) && (He.eqO (PySem.W.specialIn K (.builtin "object.__class__") "__get__") (some (some (.builtin "getset_descriptor.__get__"))) &&
  (decide (PySem.W.takesIn K (.builtin "object.__class__") = some true) && (decide (PySem.W.mroIn K (cK K) (.type "object") = some true) && (decide (PySem.W.kitOne K (.ref (cK K)) (.ref (cK K)) = some true) &&
  (decide (PySem.W.kitOne K (.type "tuple") (.ref (cK K)) = some false) && He.eqO (PySem.W.findIn K (.ref (cK K)) "__ne__") (some (some (.builtin "object.__ne__"))))))))
def exB (K : PySem.W.Frag) : Bool := clsB K && (props.all (propB K) && owns.all (ownB K))
/-! ### the Hook -/
abbrev AlX : Type := He.AlD × Bool × List He.FnW
def obsX (fa : List He.Fa) (fn : List He.DefD) (gs : List GD) (K : PySem.W.Frag) : AlX := (He.obsD fa fn K, exB K && gs.all (fun d => d.ok K), gs.map fun d => fnX K (gAd K d.m))
def valX (fn : List He.DefD) (gs : List GD) : AlX := (He.valD fn, true, gs.map GD.val)
def SaysX (fa : List He.Fa) (fn : List He.DefD) (gs : List GD) (K : PySem.W.Frag) : Prop := obsX fa fn gs K = valX fn gs
/-! ### which objects are looked at -/
/-- a class's namespace; a namespace's values; a def's code and defaults; a property's functions -/
def refsP (o : Obj) : List Addr := match o.data with
  | .dict es _ => es.toList.flatMap fun e => He.refV e.val
  | .func fd => He.refV fd.code ++ He.refV fd.defaults
  | .cls cd => [cd.ns]
  | .fields vs => vs.toList.flatMap He.refV
  | _ => []
def nx (g : Addr → Option Obj) (as : List Addr) : List Addr := as.flatMap fun a => match g a with
  | some o => refsP o
  | none => []
def isFn (g : Addr → Option Obj) (a : Addr) : Bool := match g a with
  | some ⟨_, _, .func _, _⟩ => true
  | _ => false
/-- the addresses, one by one in normal form -/
def frcL {α : Type} : List Addr → (List Addr → α) → α
  | [], k => k []
  | a :: r, k => HandSHeadRun.frNat a fun a => frcL r fun r => k (a :: r)
theorem frcL_eq {α : Type} : ∀ (l : List Addr) (k : List Addr → α), frcL l k = k l
  | [], _ => rfl
  | a :: r, k => by
    unfold frcL
    rw [HandSHeadRun.frNat_eq, frcL_eq r]
def frcK {α : Type} : PySem.W.Frag → (PySem.W.Frag → α) → α
  | [], k => k []
  | (a, o) :: r, k => frcK r fun r => k ((a, o) :: r)
theorem frcK_eq {α : Type} : ∀ (l : PySem.W.Frag) (k : PySem.W.Frag → α), frcK l k = k l
  | [], _ => rfl
  | (a, o) :: r, k => by
    unfold frcK
    rw [frcK_eq r]
def onF {α : Type} (g : Addr → Option Obj) (k : PySem.W.Frag → α) : α :=
  frcL [He.ga (He.frG g [mainGlobals]) "Rooted"] fun c => frcL (nx g c) fun n => frcL (nx g n) fun m => frcL (nx g m) fun q => frcL (nx g (q.filter (isFn g))) fun r =>
    frcL ((nx g [mainGlobals]).filter (isFn g)) fun f => frcL (nx g f) fun fc => frcK (He.frG g (mainGlobals :: (c ++ (n ++ (m ++ (q ++ (r ++ (f ++ fc)))))))) k
def asO (g : Addr → Option Obj) : List Addr :=
  let c := [He.ga (He.frG g [mainGlobals]) "Rooted"]
  let n := nx g c
  let m := nx g n
  let q := nx g m
  let r := nx g (q.filter (isFn g))
  let f := (nx g [mainGlobals]).filter (isFn g)
  mainGlobals :: (c ++ (n ++ (m ++ (q ++ (r ++ (f ++ nx g f))))))
theorem onF_eq {α : Type} {g : Addr → Option Obj} (k : PySem.W.Frag → α) : onF g k = k (He.frG g (asO g)) := by
  unfold onF
  simp only [frcL_eq, frcK_eq]
  rfl
def obsXG (fa : List He.Fa) (fn : List He.DefD) (gs : List GD) (g : Addr → Option Obj) : AlX := onF g (obsX fa fn gs)
def hookX (fa : List He.Fa) (fn : List He.DefD) (gs : List GD) : PySem.W.Hook where
  α := AlX
  obs := fun s => obsXG fa fn gs s.heap.get?
  val := fun _ => valX fn gs
  says := fun _ h => ∃ K : PySem.W.Frag, K.In h ∧ SaysX fa fn gs K
  of := fun _ s e => by
    exact ⟨_, He.frG_in, (onF_eq (g := s.heap.get?) _).symm.trans e⟩
  keeps := fun _ _ _ ⟨K, hK, c⟩ k => ⟨K, PySem.W.Frag.In.keeps hK k, c⟩
theorem obsXG_eq {fa : List He.Fa} {fn : List He.DefD} {gs : List GD} {g : Addr → Option Obj} {s : Shared} (h : ∀ a, g a = s.heap.get? a) : obsXG fa fn gs g = (hookX fa fn gs).obs s := by
  have e : g = s.heap.get? := funext h
  rw [e] <;> rfl
end HX

/-! # HT -/
set_option Elab.async false
set_option linter.all false
set_option maxRecDepth 100000
set_option maxHeartbeats 0
namespace HT
open PySem PySem.Spec PyProof.Rows L2
open Z (top inC)

def d0 : He.DefD := ⟨("steps_on", none), "steps_on", "steps_on", defArgs (top 2), defBody (top 2), defScope (top 2), [], []⟩
def d1 : He.DefD := ⟨("steps_before", none), "steps_before", "steps_before", defArgs (top 3), defBody (top 3), defScope (top 3), [], []⟩
def d2 : He.DefD := ⟨("comings", none), "comings", "comings", defArgs (top 4), defBody (top 4), defScope (top 4), [], []⟩
def d3 : He.DefD := ⟨("one_way_more", none), "one_way_more", "one_way_more", defArgs (top 5), defBody (top 5), defScope (top 5), [], []⟩
def d4 : He.DefD := ⟨("taken_by", none), "taken_by", "taken_by", defArgs (top 6), defBody (top 6), defScope (top 6), [], []⟩
def d5 : He.DefD := ⟨("many_of", none), "many_of", "many_of", defArgs (top 7), defBody (top 7), defScope (top 7), [], []⟩
def d6 : He.DefD := ⟨("least_side", none), "least_side", "least_side", defArgs (top 8), defBody (top 8), defScope (top 8), [], []⟩
def d7 : He.DefD := ⟨("greatest_side", none), "greatest_side", "greatest_side", defArgs (top 9), defBody (top 9), defScope (top 9), [], []⟩
def d8 : He.DefD := ⟨("shortened", none), "shortened", "shortened", defArgs (top 10), defBody (top 10), defScope (top 10), [], []⟩
def d9 : He.DefD := ⟨("first_way", none), "first_way", "first_way", defArgs (top 11), defBody (top 11), defScope (top 11), [], []⟩
def d10 : He.DefD := ⟨("ways_of", none), "ways_of", "ways_of", defArgs (top 12), defBody (top 12), defScope (top 12), [], []⟩
def d11 : He.DefD := ⟨("is_integer", none), "is_integer", "is_integer", defArgs (top 20), defBody (top 20), defScope (top 20), [], []⟩
def d12 : He.DefD := ⟨("is_number", none), "is_number", "is_number", defArgs (top 21), defBody (top 21), defScope (top 21), [], []⟩
def d13 : He.DefD := ⟨("is_name", none), "is_name", "is_name", defArgs (top 22), defBody (top 22), defScope (top 22), [], []⟩
def d14 : He.DefD := ⟨("is_pair", none), "is_pair", "is_pair", defArgs (top 23), defBody (top 23), defScope (top 23), [], []⟩
def d15 : He.DefD := ⟨("is_name_set", none), "is_name_set", "is_name_set", defArgs (top 24), defBody (top 24), defScope (top 24), [], []⟩
def d16 : He.DefD := ⟨("is_houses", none), "is_houses", "is_houses", defArgs (top 25), defBody (top 25), defScope (top 25), [], []⟩
def d17 : He.DefD := ⟨("is_wire_of", none), "is_wire_of", "is_wire_of", defArgs (top 26), defBody (top 26), defScope (top 26), [], []⟩
def d18 : He.DefD := ⟨("need", none), "need", "need", defArgs (top 28), defBody (top 28), defScope (top 28), [.int (-1)], []⟩
def d19 : He.DefD := ⟨("are_two_tuples", none), "are_two_tuples", "are_two_tuples", defArgs (top 29), defBody (top 29), defScope (top 29), [], []⟩
def d20 : He.DefD := ⟨("accept_houses", none), "accept_houses", "accept_houses", defArgs (top 30), defBody (top 30), defScope (top 30), [], []⟩
def d21 : He.DefD := ⟨("lets_net", none), "lets_net", "lets_net", defArgs (top 31), defBody (top 31), defScope (top 31), [], []⟩
def d22 : He.DefD := ⟨("want", none), "want", "want", defArgs (top 33), defBody (top 33), defScope (top 33), [.int (-1)], []⟩
def d23 : He.DefD := ⟨("want_net", none), "want_net", "want_net", defArgs (top 34), defBody (top 34), defScope (top 34), [], []⟩
def d24 : He.DefD := ⟨("want_house", none), "want_house", "want_house", defArgs (top 35), defBody (top 35), defScope (top 35), [.str "house"], []⟩
def d25 : He.DefD := ⟨("want_root", none), "want_root", "want_root", defArgs (top 36), defBody (top 36), defScope (top 36), [], []⟩
def d26 : He.DefD := ⟨("want_lot", none), "want_lot", "want_lot", defArgs (top 37), defBody (top 37), defScope (top 37), [], []⟩
def d27 : He.DefD := ⟨("want_other", none), "want_other", "want_other", defArgs (top 41), defBody (top 41), defScope (top 41), [], []⟩
def d28 : He.DefD := ⟨("alone_paper", none), "alone_paper", "alone_paper", defArgs (top 44), defBody (top 44), defScope (top 44), [], []⟩
def d29 : He.DefD := ⟨("entered_by", none), "entered_by", "entered_by", defArgs (top 46), defBody (top 46), defScope (top 46), [], []⟩
def d30 : He.DefD := ⟨("is_way", none), "is_way", "is_way", defArgs (top 49), defBody (top 49), defScope (top 49), [], []⟩
def d31 : He.DefD := ⟨("is_lot", none), "is_lot", "is_lot", defArgs (top 50), defBody (top 50), defScope (top 50), [], []⟩
def d32 : He.DefD := ⟨("is_alone_shape", none), "is_alone_shape", "is_alone_shape", defArgs (top 52), defBody (top 52), defScope (top 52), [], []⟩
def d33 : He.DefD := ⟨("need_ways", none), "need_ways", "need_ways", defArgs (top 53), defBody (top 53), defScope (top 53), [], []⟩
def d34 : He.DefD := ⟨("lets_alone", none), "lets_alone", "lets_alone", defArgs (top 54), defBody (top 54), defScope (top 54), [], []⟩
def d35 : He.DefD := ⟨("ways_apart", none), "ways_apart", "ways_apart", defArgs (top 56), defBody (top 56), defScope (top 56), [], []⟩
def d36 : He.DefD := ⟨("alone_by", none), "alone_by", "alone_by", defArgs (top 61), defBody (top 61), defScope (top 61), [], []⟩
def d37 : He.DefD := ⟨("others_of", none), "others_of", "others_of", defArgs (top 62), defBody (top 62), defScope (top 62), [], []⟩
def d38 : He.DefD := ⟨("narrow_by", none), "narrow_by", "narrow_by", defArgs (top 63), defBody (top 63), defScope (top 63), [], []⟩
def d39 : He.DefD := ⟨("narrow_lot", none), "narrow_lot", "narrow_lot", defArgs (top 65), defBody (top 65), defScope (top 65), [], []⟩
def d40 : He.DefD := ⟨("Rooted", some "__init__"), "__init__", "Rooted.__init__", defArgs (inC 0), defBody (inC 0), defScope (inC 0), [], []⟩
def g0 : HX.GD := ⟨"net_now", "net_now", "Rooted.net_now", defArgs (inC 1), defBody (inC 1), defScope (inC 1)⟩
def g1 : HX.GD := ⟨"root_now", "root_now", "Rooted.root_now", defArgs (inC 2), defBody (inC 2), defScope (inC 2)⟩
def g2 : HX.GD := ⟨"width_now", "width_now", "Rooted.width_now", defArgs (inC 3), defBody (inC 3), defScope (inC 3)⟩
def d41 : He.DefD := ⟨("Rooted", some "__getitem__"), "__getitem__", "Rooted.__getitem__", defArgs (inC 4), defBody (inC 4), defScope (inC 4), [], []⟩
def d42 : He.DefD := ⟨("Rooted", some "__iter__"), "__iter__", "Rooted.__iter__", defArgs (inC 5), defBody (inC 5), defScope (inC 5), [], []⟩
def d43 : He.DefD := ⟨("Rooted", some "__call__"), "__call__", "Rooted.__call__", defArgs (inC 6), defBody (inC 6), defScope (inC 6), [], []⟩
def d44 : He.DefD := ⟨("Rooted", some "__contains__"), "__contains__", "Rooted.__contains__", defArgs (inC 7), defBody (inC 7), defScope (inC 7), [], []⟩
def d45 : He.DefD := ⟨("Rooted", some "__len__"), "__len__", "Rooted.__len__", defArgs (inC 8), defBody (inC 8), defScope (inC 8), [], []⟩
def d46 : He.DefD := ⟨("Rooted", some "__eq__"), "__eq__", "Rooted.__eq__", defArgs (inC 9), defBody (inC 9), defScope (inC 9), [], []⟩
def d47 : He.DefD := ⟨("Rooted", some "least"), "least", "Rooted.least", defArgs (inC 12), defBody (inC 12), defScope (inC 12), [], []⟩
def d48 : He.DefD := ⟨("Rooted", some "greatest"), "greatest", "Rooted.greatest", defArgs (inC 13), defBody (inC 13), defScope (inC 13), [], []⟩
def d49 : He.DefD := ⟨("Rooted", some "narrow"), "narrow", "Rooted.narrow", defArgs (inC 16), defBody (inC 16), defScope (inC 16), [], []⟩
def d50 : He.DefD := ⟨("Rooted", some "ways"), "ways", "Rooted.ways", defArgs (inC 17), defBody (inC 17), defScope (inC 17), [], []⟩
def d51 : He.DefD := ⟨("Rooted", some "paper"), "paper", "Rooted.paper", defArgs (inC 18), defBody (inC 18), defScope (inC 18), [], []⟩
def d52 : He.DefD := ⟨("Rooted", some "judged"), "judged", "Rooted.judged", defArgs (inC 19), defBody (inC 19), defScope (inC 19), [], []⟩
def d53 : He.DefD := ⟨("_law_feed", none), "_law_feed", "_law_feed", defArgs (top 69), defBody (top 69), defScope (top 69), [], []⟩
def d54 : He.DefD := ⟨("_law_draw", none), "_law_draw", "_law_draw", defArgs (top 70), defBody (top 70), defScope (top 70), [], []⟩
def d55 : He.DefD := ⟨("_law_any", none), "_law_any", "_law_any", defArgs (top 71), defBody (top 71), defScope (top 71), [], []⟩
def d56 : He.DefD := ⟨("_law_same", none), "_law_same", "_law_same", defArgs (top 72), defBody (top 72), defScope (top 72), [], []⟩
def d57 : He.DefD := ⟨("_law_net", none), "_law_net", "_law_net", defArgs (top 73), defBody (top 73), defScope (top 73), [], []⟩
def d58 : He.DefD := ⟨("_law_lots", none), "_law_lots", "_law_lots", defArgs (top 74), defBody (top 74), defScope (top 74), [], []⟩
def d59 : He.DefD := ⟨("_law_many", none), "_law_many", "_law_many", defArgs (top 75), defBody (top 75), defScope (top 75), [], []⟩
def d60 : He.DefD := ⟨("_law_alone", none), "_law_alone", "_law_alone", defArgs (top 76), defBody (top 76), defScope (top 76), [], []⟩
def d61 : He.DefD := ⟨("_law_width", none), "_law_width", "_law_width", defArgs (top 77), defBody (top 77), defScope (top 77), [], []⟩
def d62 : He.DefD := ⟨("_law_is_lot", none), "_law_is_lot", "_law_is_lot", defArgs (top 78), defBody (top 78), defScope (top 78), [], []⟩
def d63 : He.DefD := ⟨("_law_is_way", none), "_law_is_way", "_law_is_way", defArgs (top 79), defBody (top 79), defScope (top 79), [], []⟩
def d64 : He.DefD := ⟨("_law_paper_due", none), "_law_paper_due", "_law_paper_due", defArgs (top 80), defBody (top 80), defScope (top 80), [], []⟩
def d65 : He.DefD := ⟨("_law_counts", none), "_law_counts", "_law_counts", defArgs (top 81), defBody (top 81), defScope (top 81), [], []⟩
def d66 : He.DefD := ⟨("_law_tight_by", none), "_law_tight_by", "_law_tight_by", defArgs (top 82), defBody (top 82), defScope (top 82), [], []⟩
def d67 : He.DefD := ⟨("_law_ends", none), "_law_ends", "_law_ends", defArgs (top 83), defBody (top 83), defScope (top 83), [], []⟩
def d68 : He.DefD := ⟨("_law_is_told", none), "_law_is_told", "_law_is_told", defArgs (top 84), defBody (top 84), defScope (top 84), [], []⟩
def d69 : He.DefD := ⟨("_law_are_any_right", none), "_law_are_any_right", "_law_are_any_right", defArgs (top 85), defBody (top 85), defScope (top 85), [], []⟩
def d70 : He.DefD := ⟨("_law_are_between", none), "_law_are_between", "_law_are_between", defArgs (top 86), defBody (top 86), defScope (top 86), [], []⟩
def d71 : He.DefD := ⟨("_law_are_values_out", none), "_law_are_values_out", "_law_are_values_out", defArgs (top 87), defBody (top 87), defScope (top 87), [], []⟩
def d72 : He.DefD := ⟨("law", none), "law", "law", defArgs (top 88), defBody (top 88), defScope (top 88), [], []⟩
def fn_0 : List He.DefD := [d0, d1, d2, d3, d4, d5, d6, d7, d8, d9, d10, d11, d12, d13, d14, d15, d16, d17, d18, d19, d20, d21, d22, d23, d24, d25, d26, d27, d28, d29]
def fn_1 : List He.DefD := [d30, d31, d32, d33, d34, d35, d36, d37, d38, d39, d40, d41, d42, d43, d44, d45, d46, d47, d48, d49, d50, d51, d52, d53, d54, d55, d56, d57, d58, d59]
def fn_2 : List He.DefD := [d60, d61, d62, d63, d64, d65, d66, d67, d68, d69, d70, d71, d72]
def fn : List He.DefD := fn_0 ++ (fn_1 ++ (fn_2))
def fa_0 : List He.Fa := [.glo "Rooted", .cls "Rooted", .mkr "Rooted", .str "ALONE" "alone", .noat "Rooted" "held_net", .noat "Rooted" "held_root", .noat "Rooted" "held_pairs", .free "len", .free "isinstance", .free "tuple", .free "list", .free "dict", .free "sorted", .free "min", .free "max", .free "all", .free "any", .free "enumerate", .free "zip", .free "range", .free "int", .free "str", .free "bool", .free "iter", .free "repr", .free "set", .meth "Rooted" "least", .meth "Rooted" "greatest", .meth "Rooted" "narrow", .meth "Rooted" "ways"]
def fa_1 : List He.Fa := [.meth "Rooted" "paper", .meth "Rooted" "judged", .meth "Rooted" "__getitem__", .meth "Rooted" "__len__", .meth "Rooted" "__call__", .meth "Rooted" "__contains__", .meth "Rooted" "__eq__", .glo "steps_on", .glo "steps_before", .glo "comings", .glo "one_way_more", .glo "taken_by", .glo "many_of", .glo "least_side", .glo "greatest_side", .glo "shortened", .glo "first_way", .glo "ways_of", .glo "is_integer", .glo "is_number", .glo "is_name", .glo "is_pair", .glo "is_name_set", .glo "is_houses", .glo "is_wire_of", .glo "need", .glo "are_two_tuples", .glo "accept_houses", .glo "lets_net", .glo "want"]
def fa_2 : List He.Fa := [.glo "want_net", .glo "want_house", .glo "want_root", .glo "want_lot", .glo "want_other", .glo "alone_paper", .glo "entered_by", .glo "is_way", .glo "is_lot", .glo "is_alone_shape", .glo "need_ways", .glo "lets_alone", .glo "ways_apart", .glo "alone_by", .glo "others_of", .glo "narrow_by", .glo "narrow_lot", .glo "_law_feed", .glo "_law_draw", .glo "_law_any", .glo "_law_same", .glo "_law_net", .glo "_law_lots", .glo "_law_many", .glo "_law_alone", .glo "_law_width", .glo "_law_is_lot", .glo "_law_is_way", .glo "_law_paper_due", .glo "_law_counts"]
def fa_3 : List He.Fa := [.glo "_law_tight_by", .glo "_law_ends", .glo "_law_is_told", .glo "_law_are_any_right", .glo "_law_are_between", .glo "_law_are_values_out", .glo "law"]
def fa : List He.Fa := fa_0 ++ (fa_1 ++ (fa_2 ++ (fa_3)))
def names_0 : List Str := ["_wall", "steps_on", "steps_before", "comings", "one_way_more", "taken_by", "many_of", "least_side", "greatest_side", "shortened", "first_way", "ways_of", "ArriveError", "PaperError", "NetError", "InvalidPaper", "NotUsable", "is_integer", "is_number", "is_name", "is_pair", "is_name_set", "is_houses", "is_wire_of", "need", "are_two_tuples", "accept_houses", "lets_net", "want", "want_net"]
def names_1 : List Str := ["want_house", "want_root", "want_lot", "want_index", "want_wire", "want_other", "ALONE", "alone_paper", "entered_by", "net_of", "is_way", "is_lot", "is_alone_shape", "need_ways", "lets_alone", "ways_apart", "with_wire", "without_wire", "alone_by", "others_of", "narrow_by", "narrow_lot", "Rooted", "_law_feed", "_law_draw", "_law_any", "_law_same", "_law_net", "_law_lots", "_law_many"]
def names_2 : List Str := ["_law_alone", "_law_width", "_law_is_lot", "_law_is_way", "_law_paper_due", "_law_counts", "_law_tight_by", "_law_ends", "_law_is_told", "_law_are_any_right", "_law_are_between", "_law_are_values_out"]
def names : List Str := names_0 ++ (names_1 ++ (names_2))
def gs : List HX.GD := [g0, g1, g2]
abbrev R : PySem.W.OpenRow := PySem.W.OpenLaw.row PySem.Challenge.rw_stillarrives_k15_whole_rooted
abbrev hk : PySem.W.Hook := HX.hookX fa fn gs
def ob (s : PySem.W.SharedT) : HX.AlX := HX.obsXG fa fn gs (HandSHeadRun.getT s)
theorem ob_eq (s : PySem.W.SharedT) : ob s = hk.obs s.abs := HX.obsXG_eq (HandSHeadRun.getT_eq s)
theorem run (w : World) : HandSHeadRun.RunEq R (PySem.W.view R.prog [88]) hk ob 6000 names w := by
  intro os
  kernel_rfl
end HT

/-! # FlowMath -/
/-! Flows on a list of wires: plain Lean, no program in sight. -/
namespace Fl
set_option linter.all false
variable {α : Type} [DecidableEq α]

/-! ### sums over lists of ints -/
theorem sum_perm : ∀ {l m : List Int}, l.Perm m → l.sum = m.sum := by
  intro l m h
  induction h with
  | nil => rfl
  | cons x _ ih => simp [ih]
  | swap x y l => simp only [List.sum_cons]; omega
  | trans _ _ a b => exact a.trans b

theorem filter_ne_self {T : List Nat} {i : Nat} (h : i ∉ T) : T.filter (fun j => decide (j ≠ i)) = T := by
  rw [List.filter_eq_self]
  intro j hj
  exact decide_eq_true (fun e => h (e ▸ hj))

theorem sum_filter_ne (g : Nat → Int) : ∀ {T : List Nat} {i : Nat}, T.Nodup → i ∈ T →
    ((T.filter (fun j => decide (j ≠ i))).map g).sum = (T.map g).sum - g i
  | [], _, _, h => by cases h
  | t :: T, i, hn, h => by
    obtain ⟨h1, h2⟩ := List.nodup_cons.mp hn
    by_cases e : t = i
    · subst e
      have : (t :: T).filter (fun j => decide (j ≠ t)) = T := by
        rw [List.filter_cons, if_neg (by simp), filter_ne_self h1]
      rw [this]
      simp only [List.map_cons, List.sum_cons]; omega
    · have hi : i ∈ T := by
        cases h with
        | head => exact absurd rfl e
        | tail _ h => exact h
      rw [List.filter_cons, if_pos (by simpa using e)]
      simp only [List.map_cons, List.sum_cons]
      rw [sum_filter_ne g h2 hi]; omega

theorem sum_erase (g : Nat → Int) : ∀ {T : List Nat} {i : Nat}, i ∈ T → ((T.erase i).map g).sum = (T.map g).sum - g i
  | [], _, h => by cases h
  | t :: T, i, h => by
    by_cases e : t = i
    · subst e
      rw [List.erase_cons_head]; simp only [List.map_cons, List.sum_cons]; omega
    · have hi : i ∈ T := by
        cases h with
        | head => exact absurd rfl e
        | tail _ h => exact h
      rw [List.erase_cons_tail (by simpa using e)]
      simp only [List.map_cons, List.sum_cons]
      rw [sum_erase g hi]; omega

/-- nodup lists with the same members are permutations of one another -/
theorem perm_of_mem : ∀ {l m : List Nat}, l.Nodup → m.Nodup → (∀ x, x ∈ l ↔ x ∈ m) → l.Perm m := by
  intro l m hl hm h
  exact (List.perm_ext_iff_of_nodup hl hm).mpr h

theorem nodup_le {β : Type} [DecidableEq β] : ∀ {l m : List β}, l.Nodup → (∀ x ∈ l, x ∈ m) → l.length ≤ m.length
  | [], _, _, _ => Nat.zero_le _
  | x :: l, m, hn, h => by
    obtain ⟨h1, h2⟩ := List.nodup_cons.mp hn
    have hx : x ∈ m := h x (List.mem_cons_self ..)
    have : ∀ y ∈ l, y ∈ m.erase x := fun y hy => (List.mem_erase_of_ne (fun e => h1 (by rw [← e]; exact hy))).mpr (h y (List.mem_cons_of_mem _ hy))
    have := nodup_le h2 this
    rw [List.length_erase_of_mem hx] at this
    have : 0 < m.length := List.length_pos_of_mem hx
    simp only [List.length_cons]; omega

/-! ### wires, potentials -/
/-- what a wire does to a potential -/
def dl (ws : List (α × α)) (f : α → Int) (i : Nat) : Int := match ws[i]? with
  | some e => f e.2 - f e.1
  | none => 0
def pot (ws : List (α × α)) (T : List Nat) (f : α → Int) : Int := (T.map (dl ws f)).sum
theorem dl_at {ws : List (α × α)} {f : α → Int} {i : Nat} {t h : α} (e : ws[i]? = some (t, h)) : dl ws f i = f h - f t := by
  unfold dl; rw [e]
theorem pot_nil (ws : List (α × α)) (f : α → Int) : pot ws [] f = 0 := rfl
theorem pot_snoc (ws : List (α × α)) (T : List Nat) (i : Nat) (f : α → Int) : pot ws (T ++ [i]) f = pot ws T f + dl ws f i := by
  unfold pot; simp
theorem pot_drop {ws : List (α × α)} {T : List Nat} {i : Nat} (hn : T.Nodup) (h : i ∈ T) (f : α → Int) :
    pot ws (T.filter (fun j => decide (j ≠ i))) f = pot ws T f - dl ws f i := sum_filter_ne _ hn h
theorem pot_erase {ws : List (α × α)} {T : List Nat} {i : Nat} (h : i ∈ T) (f : α → Int) : pot ws (T.erase i) f = pot ws T f - dl ws f i := sum_erase _ h
theorem pot_perm {ws : List (α × α)} {T U : List Nat} (p : T.Perm U) (f : α → Int) : pot ws T f = pot ws U f := sum_perm (p.map _)

/-- indices, each once -/
structure Ix (ws : List (α × α)) (T : List Nat) : Prop where
  nd : T.Nodup
  lt : ∀ i ∈ T, i < ws.length
/-- taken wires that make k ways from b to g -/
structure Flow (ws : List (α × α)) (b g : α) (T : List Nat) (k : Nat) : Prop extends Ix ws T where
  bal : ∀ f : α → Int, pot ws T f = k * (f g - f b)

theorem Flow.zero (ws : List (α × α)) (b g : α) : Flow ws b g [] 0 :=
  ⟨⟨List.nodup_nil, fun _ h => by cases h⟩, fun f => by simp [pot_nil]⟩

/-! ### how many wires enter a set -/
def enters (S : α → Bool) (e : α × α) : Bool := S e.2 && !S e.1
def cut (ws : List (α × α)) (S : α → Bool) : Nat := (ws.filter (enters S)).length
theorem cut_congr {ws : List (α × α)} {S S' : α → Bool} (h : ∀ e ∈ ws, S e.1 = S' e.1 ∧ S e.2 = S' e.2) : cut ws S = cut ws S' := by
  unfold cut
  congr 1
  refine List.filter_congr fun e he => ?_
  unfold enters
  rw [(h e he).1, (h e he).2]
theorem cut_le (ws : List (α × α)) (S : α → Bool) : cut ws S ≤ ws.length := List.length_filter_le _ _

def one (b : Bool) : Int := if b then 1 else 0
theorem one_nonneg (b : Bool) : 0 ≤ one b := by cases b <;> decide
/-- wire i enters; leaves -/
def en (ws : List (α × α)) (S : α → Bool) (i : Nat) : Bool := match ws[i]? with
  | some e => S e.2 && !S e.1
  | none => false
def lv (ws : List (α × α)) (S : α → Bool) (i : Nat) : Bool := match ws[i]? with
  | some e => S e.1 && !S e.2
  | none => false

theorem cut_sum : ∀ (ws : List (α × α)) (S : α → Bool), (cut ws S : Int) = ((List.range ws.length).map (fun i => one (en ws S i))).sum
  | [], _ => rfl
  | e :: ws, S => by
    have ih := cut_sum ws S
    have h1 : (List.range (e :: ws).length).map (fun i => one (en (e :: ws) S i)) = one (enters S e) :: (List.range ws.length).map (fun i => one (en ws S i)) := by
      rw [List.length_cons, List.range_succ_eq_map, List.map_cons, List.map_map]
      congr 1
    rw [h1, List.sum_cons, ← ih]
    unfold cut
    rw [List.filter_cons]
    by_cases h : enters S e = true
    · rw [if_pos h, List.length_cons, h]; unfold one; simp; omega
    · rw [if_neg h]
      have h' : enters S e = false := by simpa using h
      rw [h']; unfold one; simp

theorem dl_ind (ws : List (α × α)) (S : α → Bool) (i : Nat) : dl ws (fun x => one (S x)) i = one (en ws S i) - one (lv ws S i) := by
  unfold dl en lv
  cases ws[i]? with
  | none => rfl
  | some e =>
    obtain ⟨t, h⟩ := e
    show one (S h) - one (S t) = one (S h && !S t) - one (S t && !S h)
    cases S h <;> cases S t <;> rfl

theorem sum_split (g : Nat → Int) (p : Nat → Bool) : ∀ l : List Nat, (l.map g).sum = ((l.filter p).map g).sum + ((l.filter (fun i => !p i)).map g).sum
  | [] => rfl
  | x :: l => by
    have ih := sum_split g p l
    cases h : p x with
    | true => simp only [List.filter_cons, h, List.map_cons, List.sum_cons, ih]; simp; omega
    | false => simp only [List.filter_cons, h, List.map_cons, List.sum_cons, ih]; simp; omega
theorem sum_sub (g h : Nat → Int) : ∀ l : List Nat, (l.map (fun i => g i - h i)).sum = (l.map g).sum - (l.map h).sum
  | [] => rfl
  | x :: l => by
    have ih := sum_sub g h l
    simp only [List.map_cons, List.sum_cons, ih]; omega
theorem sum_nonneg {g : Nat → Int} : ∀ {l : List Nat}, (∀ i ∈ l, 0 ≤ g i) → 0 ≤ (l.map g).sum
  | [], _ => by simp
  | x :: l, h => by
    have ih := sum_nonneg (g := g) (l := l) fun i hi => h i (List.mem_cons_of_mem _ hi)
    have := h x (List.mem_cons_self ..)
    simp only [List.map_cons, List.sum_cons]; omega
theorem sum_zero {g : Nat → Int} : ∀ {l : List Nat}, (∀ i ∈ l, g i = 0) → (l.map g).sum = 0
  | [], _ => by simp
  | x :: l, h => by
    have ih := sum_zero (g := g) (l := l) fun i hi => h i (List.mem_cons_of_mem _ hi)
    have := h x (List.mem_cons_self ..)
    simp only [List.map_cons, List.sum_cons]; omega
theorem sum_pos {g : Nat → Int} : ∀ {l : List Nat}, (∀ i ∈ l, 0 ≤ g i) → (l.map g).sum = 0 → ∀ i ∈ l, g i = 0
  | [], _, _, _, h => by cases h
  | x :: l, h, e, i, hi => by
    have h1 := h x (List.mem_cons_self ..)
    have h2 := sum_nonneg (g := g) (l := l) fun i hi => h i (List.mem_cons_of_mem _ hi)
    simp only [List.map_cons, List.sum_cons] at e
    cases hi with
    | head => omega
    | tail _ hi => exact sum_pos (fun i hi => h i (List.mem_cons_of_mem _ hi)) (by omega) i hi

/-- how many wires enter, by the ways, the free wires that enter and the taken ones that leave -/
theorem cut_eq {ws : List (α × α)} {b g : α} {T : List Nat} {k : Nat} (F : Flow ws b g T k) {S : α → Bool} (hg : S g = true) (hb : S b = false) :
    (cut ws S : Int) = k + (T.map (fun i => one (lv ws S i))).sum + (((List.range ws.length).filter (fun i => !decide (i ∈ T))).map (fun i => one (en ws S i))).sum := by
  have h1 := F.bal (fun x => one (S x))
  rw [hg, hb] at h1
  have h2 : pot ws T (fun x => one (S x)) = (T.map (fun i => one (en ws S i))).sum - (T.map (fun i => one (lv ws S i))).sum := by
    unfold pot
    rw [← sum_sub]
    congr 1
    exact List.map_congr_left fun i _ => dl_ind ws S i
  have h3 := cut_sum ws S
  rw [sum_split _ (fun i => decide (i ∈ T))] at h3
  have hp : T.Perm ((List.range ws.length).filter (fun i => decide (i ∈ T))) := by
    refine perm_of_mem F.nd (List.nodup_range.filter _) fun x => ?_
    rw [List.mem_filter, List.mem_range, decide_eq_true_eq]
    exact ⟨fun h => ⟨F.lt x h, h⟩, fun h => h.2⟩
  have h4 := sum_perm (hp.map (fun i => one (en ws S i)))
  rw [h2] at h1
  have h5 : (k : Int) * (one true - one false) = k := by simp [one]
  rw [h5] at h1
  rw [h3, ← h4]; omega

/-! ### where one may go -/
/-- along a free wire, back along a taken one -/
def Step (ws : List (α × α)) (T : List Nat) (i : Nat) (x y : α) : Prop := (ws[i]? = some (x, y) ∧ i ∉ T) ∨ (ws[i]? = some (y, x) ∧ i ∈ T)
inductive Reach (ws : List (α × α)) (T : List Nat) (x : α) : α → Prop
  | refl : Reach ws T x x
  | step {i : Nat} {y z : α} : Reach ws T x y → Step ws T i y z → Reach ws T x z
theorem Reach.head {ws : List (α × α)} {T : List Nat} {i : Nat} {x y z : α} (s : Step ws T i x y) (r : Reach ws T y z) : Reach ws T x z := by
  induction r with
  | refl => exact .step .refl s
  | step _ s' ih => exact .step ih s'
/-- no step leads into it -/
def NoIn (ws : List (α × α)) (T : List Nat) (S : α → Bool) : Prop := ∀ i x y, Step ws T i x y → S y = true → S x = true

theorem cut_ge {ws : List (α × α)} {b g : α} {T : List Nat} {k : Nat} (F : Flow ws b g T k) {S : α → Bool} (hg : S g = true) (hb : S b = false) : k ≤ cut ws S := by
  have h := cut_eq F hg hb
  have h1 : 0 ≤ (T.map (fun i => one (lv ws S i))).sum := sum_nonneg fun _ _ => one_nonneg _
  have h2 : 0 ≤ (((List.range ws.length).filter (fun i => !decide (i ∈ T))).map (fun i => one (en ws S i))).sum := sum_nonneg fun _ _ => one_nonneg _
  omega
theorem one_zero {b : Bool} (h : one b = 0) : b = false := by cases b <;> simp [one] at h ⊢
theorem cut_tight {ws : List (α × α)} {b g : α} {T : List Nat} {k : Nat} (F : Flow ws b g T k) {S : α → Bool} (hg : S g = true) (hb : S b = false) : cut ws S = k ↔ NoIn ws T S := by
  have h := cut_eq F hg hb
  have h1 : 0 ≤ (T.map (fun i => one (lv ws S i))).sum := sum_nonneg fun _ _ => one_nonneg _
  have h2 : 0 ≤ (((List.range ws.length).filter (fun i => !decide (i ∈ T))).map (fun i => one (en ws S i))).sum := sum_nonneg fun _ _ => one_nonneg _
  constructor
  · intro e i x y st hy
    have z1 := sum_pos (fun i _ => one_nonneg (lv ws S i)) (show (T.map (fun i => one (lv ws S i))).sum = 0 by omega)
    have z2 := sum_pos (fun i _ => one_nonneg (en ws S i)) (show (((List.range ws.length).filter (fun i => !decide (i ∈ T))).map (fun i => one (en ws S i))).sum = 0 by omega)
    rcases st with ⟨e1, hi⟩ | ⟨e1, hi⟩
    · have hlt : i < ws.length := (List.getElem?_eq_some_iff.mp e1).1
      have := one_zero (z2 i (List.mem_filter.mpr ⟨List.mem_range.mpr hlt, by simpa using hi⟩))
      unfold en at this
      rw [e1] at this
      simp [hy] at this
      exact this
    · have := one_zero (z1 i hi)
      unfold lv at this
      rw [e1] at this
      simp [hy] at this
      exact this
  · intro hN
    have z1 : (T.map (fun i => one (lv ws S i))).sum = 0 := sum_zero fun i hi => by
      have : lv ws S i = false := by
        unfold lv
        cases e : ws[i]? with
        | none => rfl
        | some p =>
          obtain ⟨t, h⟩ := p
          show (S t && !S h) = false
          cases ht : S t with
          | false => rfl
          | true => rw [hN i h t (.inr ⟨e, hi⟩) ht]; rfl
      rw [this]; rfl
    have z2 : (((List.range ws.length).filter (fun i => !decide (i ∈ T))).map (fun i => one (en ws S i))).sum = 0 := sum_zero fun i hi => by
      have hi' : i ∉ T := by simpa using (List.mem_filter.mp hi).2
      have : en ws S i = false := by
        unfold en
        cases e : ws[i]? with
        | none => rfl
        | some p =>
          obtain ⟨t, h⟩ := p
          show (S h && !S t) = false
          cases ht : S h with
          | false => rfl
          | true => rw [hN i t h (.inl ⟨e, hi'⟩) ht]; rfl
      rw [this]; rfl
    omega

/-- what is told of the end: the ways are as many as can be -/
structure MaxFlow (ws : List (α × α)) (b g : α) (T : List Nat) (k : Nat) : Prop extends Flow ws b g T k where
  stop : ¬ Reach ws T b g

theorem reach_out {ws : List (α × α)} {T : List Nat} {S : α → Bool} (hN : NoIn ws T S) {x y : α} (r : Reach ws T x y) : S y = true → S x = true := by
  induction r with
  | refl => exact id
  | step _ s ih => exact fun h => ih (hN _ _ _ s h)

section
variable {ws : List (α × α)} {b g : α} {T : List Nat} {k : Nat}
/-- the greatest tight set -/
theorem great_tight (M : MaxFlow ws b g T k) {S : α → Bool} (hS : ∀ x, (x = g ∨ ∃ e ∈ ws, x = e.1 ∨ x = e.2) → (S x = true ↔ ¬ Reach ws T b x)) (hb : S b = false) : S g = true ∧ cut ws S = k := by
  have hg : S g = true := (hS g (.inl rfl)).mpr M.stop
  refine ⟨hg, (cut_tight M.toFlow hg hb).mpr fun i x y st hy => ?_⟩
  have hx : ∃ e ∈ ws, x = e.1 ∨ x = e.2 := by
    rcases st with ⟨e, _⟩ | ⟨e, _⟩
    · exact ⟨_, List.mem_of_getElem? e, .inl rfl⟩
    · exact ⟨_, List.mem_of_getElem? e, .inr rfl⟩
  have hy' : ∃ e ∈ ws, y = e.1 ∨ y = e.2 := by
    rcases st with ⟨e, _⟩ | ⟨e, _⟩
    · exact ⟨_, List.mem_of_getElem? e, .inr rfl⟩
    · exact ⟨_, List.mem_of_getElem? e, .inl rfl⟩
  refine (hS x (.inr hx)).mpr fun r => ?_
  exact (hS y (.inr hy')).mp hy (.step r st)
/-- each tight set lies in what can't be reached -/
theorem tight_great (F : Flow ws b g T k) {S : α → Bool} (hg : S g = true) (hb : S b = false) (e : cut ws S = k) {x : α} (hx : S x = true) : ¬ Reach ws T b x := fun r => by
  have := reach_out ((cut_tight F hg hb).mp e) r hx
  rw [hb] at this; cases this
/-- the least tight set -/
theorem least_tight (M : MaxFlow ws b g T k) {S : α → Bool} (hS : ∀ x, S x = true ↔ Reach ws T x g) : S g = true ∧ S b = false ∧ cut ws S = k := by
  have hg : S g = true := (hS g).mpr .refl
  have hb : S b = false := by
    cases e : S b with
    | false => rfl
    | true => exact absurd ((hS b).mp e) M.stop
  exact ⟨hg, hb, (cut_tight M.toFlow hg hb).mpr fun i x y st hy => (hS x).mpr (((hS y).mp hy).head st)⟩
theorem tight_least (F : Flow ws b g T k) {S : α → Bool} (hg : S g = true) (hb : S b = false) (e : cut ws S = k) {x : α} (r : Reach ws T x g) : S x = true :=
  reach_out ((cut_tight F hg hb).mp e) r hg
end

/-! ### the search: a tree of comings -/
abbrev Fd (α : Type) := List (α × Option Nat)
abbrev keys (fs : Fd α) : List α := fs.map Prod.fst
inductive Tree (ws : List (α × α)) (T : List Nat) (b : α) : Fd α → Prop
  | one : Tree ws T b [(b, none)]
  | snoc {fs : Fd α} {x y : α} {i : Nat} : Tree ws T b fs → x ∈ keys fs → y ∉ keys fs → Step ws T i x y → Tree ws T b (fs ++ [(y, some i)])
section
variable {ws : List (α × α)} {b g : α} {T : List Nat} {k : Nat} {fs : Fd α}
theorem Tree.nd (t : Tree ws T b fs) : (keys fs).Nodup := by
  induction t with
  | one => simp [keys]
  | @snoc fs x y i _ _ hy _ ih =>
    rw [keys, List.map_append, List.nodup_append]
    refine ⟨ih, by simp, fun a ha c hc e => ?_⟩
    have : c = y := by simpa using hc
    rw [e, this] at ha
    exact hy ha
theorem Tree.reach (t : Tree ws T b fs) : ∀ x ∈ keys fs, Reach ws T b x := by
  induction t with
  | one => intro x hx; have : x = b := by simpa [keys] using hx
           subst this; exact .refl
  | @snoc fs x y i _ hx _ s ih =>
    intro z hz
    rw [keys, List.map_append, List.mem_append] at hz
    rcases hz with hz | hz
    · exact ih z hz
    · have : z = y := by simpa using hz
      subst this
      exact .step (ih _ hx) s
theorem Tree.first (t : Tree ws T b fs) : b ∈ keys fs := by
  induction t with
  | one => simp [keys]
  | snoc _ _ _ _ ih => rw [keys, List.map_append]; exact List.mem_append_left _ ih
/-- a house that was come to: by what wire, from where -/
theorem Tree.split (t : Tree ws T b fs) {y : α} (hy : y ∈ keys fs) (hb : y ≠ b) :
    ∃ pre suf x i, fs = pre ++ (y, some i) :: suf ∧ Tree ws T b pre ∧ x ∈ keys pre ∧ y ∉ keys pre ∧ Step ws T i x y := by
  induction t with
  | one => exact absurd (by simpa [keys] using hy) hb
  | @snoc fs x z i tr hx hz s ih =>
    by_cases hm : y ∈ keys fs
    · obtain ⟨pre, suf, x', i', e, h⟩ := ih hm
      exact ⟨pre, suf ++ [(z, some i)], x', i', by rw [e]; simp, h⟩
    · rw [keys, List.map_append, List.mem_append] at hy
      rcases hy with hy | hy
      · exact absurd hy hm
      · have : y = z := by simpa using hy
        subst this
        exact ⟨fs, [], x, i, by simp, tr, hx, hz, s⟩
theorem Tree.arc (t : Tree ws T b fs) {y : α} {i : Nat} (h : (y, some i) ∈ fs) : ∃ x, Step ws T i x y := by
  induction t with
  | one => simp at h
  | @snoc fs x z j _ _ _ s ih =>
    rcases List.mem_append.mp h with h | h
    · exact ih h
    · have : y = z ∧ i = j := by simpa using h
      obtain ⟨rfl, rfl⟩ := this
      exact ⟨_, s⟩
theorem Step.det {i : Nat} {x y x' y' : α} (s : Step ws T i x y) (s' : Step ws T i x' y') : y = y' ∧ x = x' := by
  rcases s with ⟨e, h⟩ | ⟨e, h⟩ <;> rcases s' with ⟨e', h'⟩ | ⟨e', h'⟩
  · rw [e] at e'; injection e' with e'; injection e' with a c; exact ⟨c, a⟩
  · exact absurd h' h
  · exact absurd h h'
  · rw [e] at e'; injection e' with e'; injection e' with a c; exact ⟨a, c⟩
theorem Step.lt {i : Nat} {x y : α} (s : Step ws T i x y) : i < ws.length := by
  rcases s with ⟨e, _⟩ | ⟨e, _⟩ <;> exact (List.getElem?_eq_some_iff.mp e).1
theorem look_split {pre suf : Fd α} {y : α} {o : Option Nat} (h : y ∉ keys pre) : (pre ++ (y, o) :: suf).lookup y = some o := by
  induction pre with
  | nil => simp
  | cons p pre ih =>
    obtain ⟨z, q⟩ := p
    have hz : y ≠ z := fun e => h (by simp [keys, e])
    have hp : y ∉ keys pre := fun e => h (by simp only [keys, List.map_cons]; exact List.mem_cons_of_mem _ e)
    rw [List.cons_append, List.lookup_cons]
    have : (y == z) = false := by simpa using hz
    rw [this]
    exact ih hp

/-! ### one way more -/
/-- late: T changed along the tree from here to the goal -/
structure Half (ws : List (α × α)) (T : List Nat) (b g : α) (fs : Fd α) (late : List Nat) (here : α) (m : Nat) : Prop extends Ix ws late where
  pre : ∃ pre suf, fs = pre ++ suf ∧ Tree ws T b pre ∧ here ∈ keys pre ∧ pre.length = m ∧ ∀ y i, (y, some i) ∈ pre → (i ∈ late ↔ i ∈ T)
  bal : ∀ f : α → Int, pot ws late f = pot ws T f + f g - f here
theorem Half.start (I : Ix ws T) (t : Tree ws T b fs) (hg : g ∈ keys fs) : Half ws T b g fs T g fs.length :=
  ⟨I, ⟨fs, [], by simp, t, hg, rfl, fun _ _ _ => Iff.rfl⟩, fun f => by omega⟩
/-- one turn: what the dict holds of here, and the two ways on -/
theorem Half.turn {late : List Nat} {here : α} {m : Nat} (h : Half ws T b g fs late here m) (hb : here ≠ b) :
    ∃ i x, fs.lookup here = some (some i) ∧ ((i ∈ T ∧ i ∈ late ∧ ws[i]? = some (here, x) ∧ ∃ m', m' < m ∧ Half ws T b g fs (late.filter (fun j => decide (j ≠ i))) x m') ∨
      (i ∉ T ∧ i ∉ late ∧ ws[i]? = some (x, here) ∧ ∃ m', m' < m ∧ Half ws T b g fs (late ++ [i]) x m')) := by
  obtain ⟨pre, suf, e, tr, hk, hm, hl⟩ := h.pre
  obtain ⟨p2, s2, x, i, e2, tr2, hx, hn, st⟩ := tr.split hk hb
  subst e2
  have hlen : p2.length < m := by rw [← hm]; simp
  have hmem : (here, some i) ∈ p2 ++ (here, some i) :: s2 := by simp
  have hiff := hl here i hmem
  have hlook : fs.lookup here = some (some i) := by
    rw [e, List.append_assoc]
    exact look_split hn
  have hoth : ∀ y j, (y, some j) ∈ p2 → j ≠ i := fun y j hj e => by
    subst e
    obtain ⟨z, s'⟩ := tr2.arc hj
    have : y = here := (Step.det s' st).1
    subst this
    exact hn (List.mem_map.mpr ⟨_, hj, rfl⟩)
  have hp : ∀ late' : List Nat, (∀ j, j ≠ i → (j ∈ late' ↔ j ∈ late)) → ∃ pre suf, fs = pre ++ suf ∧ Tree ws T b pre ∧ x ∈ keys pre ∧ pre.length = p2.length ∧ ∀ y j, (y, some j) ∈ pre → (j ∈ late' ↔ j ∈ T) := fun late' hq =>
    ⟨p2, (here, some i) :: s2 ++ suf, by rw [e]; simp, tr2, hx, rfl, fun y j hj => (hq j (hoth y j hj)).trans (hl y j (List.mem_append_left _ hj))⟩
  refine ⟨i, x, hlook, ?_⟩
  rcases st with ⟨ew, hi⟩ | ⟨ew, hi⟩
  · have hi' : i ∉ late := fun z => hi (hiff.mp z)
    refine .inr ⟨hi, hi', ew, p2.length, hlen, ⟨⟨?_, fun j hj => ?_⟩, hp _ fun j hj => ?_, fun f => ?_⟩⟩
    · rw [List.nodup_append]
      refine ⟨h.nd, by simp, fun a ha c hc e => ?_⟩
      have : c = i := by simpa using hc
      rw [e, this] at ha; exact hi' ha
    · rcases List.mem_append.mp hj with hj | hj
      · exact h.lt j hj
      · have : j = i := by simpa using hj
        subst this
        exact (List.getElem?_eq_some_iff.mp ew).1
    · simp [hj]
    · rw [pot_snoc, h.bal, dl_at ew]; omega
  · have hi' : i ∈ late := hiff.mpr hi
    refine .inl ⟨hi, hi', ew, p2.length, hlen, ⟨⟨h.nd.filter _, fun j hj => h.lt j (List.mem_filter.mp hj).1⟩, hp _ fun j hj => ?_, fun f => ?_⟩⟩
    · simp [hj]
    · rw [pot_drop h.nd hi', h.bal, dl_at ew]; omega
theorem Half.done {late : List Nat} {m : Nat} (F : Flow ws b g T k) (h : Half ws T b g fs late b m) : Flow ws b g late (k + 1) :=
  ⟨h.toIx, fun f => by
    rw [h.bal, F.bal]
    have : ((k + 1 : Nat) : Int) * (f g - f b) = (k : Int) * (f g - f b) + (f g - f b) := by rw [Int.natCast_add, Int.add_mul]; simp
    omega⟩
/-- no more ways than wires -/
theorem Flow.bound (F : Flow ws b g T k) (h : b ≠ g) : k ≤ ws.length := by
  have := cut_ge F (S := fun x => decide (x = g)) (by simp) (by simpa using h)
  exact Nat.le_trans this (cut_le _ _)
/-- how many leave the first house, less how many come to it -/
theorem Flow.many (F : Flow ws b g T k) (h : b ≠ g) : ((T.filter (fun i => decide (ws[i]?.map Prod.fst = some b))).length : Int) - (T.filter (fun i => decide (ws[i]?.map Prod.snd = some b))).length = k := by
  have h1 := F.bal (fun x => if x = b then 1 else 0)
  rw [if_neg (Ne.symm h), if_pos rfl] at h1
  have key : ∀ l : List Nat, (l.map (dl ws (fun x => if x = b then (1 : Int) else 0))).sum = ((l.filter (fun i => decide (ws[i]?.map Prod.snd = some b))).length : Int) - (l.filter (fun i => decide (ws[i]?.map Prod.fst = some b))).length := by
    intro l
    induction l with
    | nil => rfl
    | cons i l ih =>
      rw [List.map_cons, List.sum_cons, ih, List.filter_cons, List.filter_cons]
      unfold dl
      cases e : ws[i]? with
      | none => simp
      | some p =>
        obtain ⟨t, hh⟩ := p
        by_cases h1 : t = b <;> by_cases h2 : hh = b <;> simp [h1, h2] <;> omega
  have h2 := key T
  have h3 : pot ws T (fun x => if x = b then (1 : Int) else 0) = (T.map (dl ws (fun x => if x = b then (1 : Int) else 0))).sum := rfl
  rw [h3, h2] at h1
  omega
end

/-! ### a search through: what is open, what is found -/
/-- found: ks; open: rest; each found one that is not open has all that follows it found -/
structure Srch (R : α → α → Prop) (b : α) (ks rest : List α) : Prop where
  fst : b ∈ ks
  nd : ks.Nodup
  sub : ∀ x ∈ rest, x ∈ ks
  cl : ∀ x ∈ ks, x ∉ rest → ∀ y, R x y → y ∈ ks
/-- within a turn: here's followers up to now -/
structure SrchIn (R : α → α → Prop) (b here : α) (ks rest : List α) : Prop where
  fst : b ∈ ks
  nd : ks.Nodup
  sub : ∀ x ∈ rest, x ∈ ks
  me : here ∈ ks
  cl : ∀ x ∈ ks, x ∉ rest → x ≠ here → ∀ y, R x y → y ∈ ks
section
variable {R : α → α → Prop} {b here : α} {ks rest : List α}
theorem Srch.start : Srch R b [b] [b] := ⟨by simp, by simp, fun _ h => h, fun x h h' => absurd h h'⟩
theorem Srch.pop (s : Srch R b ks (rest ++ [here])) : SrchIn R b here ks rest :=
  ⟨s.fst, s.nd, fun x h => s.sub x (List.mem_append_left _ h), s.sub here (by simp), fun x h h' hne => s.cl x h (by simp [h', hne])⟩
theorem SrchIn.push (s : SrchIn R b here ks rest) {y : α} (h : y ∉ ks) : SrchIn R b here (ks ++ [y]) (rest ++ [y]) := by
  refine ⟨List.mem_append_left _ s.fst, ?_, fun x hx => ?_, List.mem_append_left _ s.me, fun x hx hx' hne z r => ?_⟩
  · rw [List.nodup_append]
    refine ⟨s.nd, by simp, fun a ha c hc e => ?_⟩
    have : c = y := by simpa using hc
    subst this; subst e; exact h ha
  · rcases List.mem_append.mp hx with hx | hx
    · exact List.mem_append_left _ (s.sub x hx)
    · exact List.mem_append_right _ hx
  · rcases List.mem_append.mp hx with hx | hx
    · exact List.mem_append_left _ (s.cl x hx (fun q => hx' (List.mem_append_left _ q)) hne z r)
    · exact absurd (List.mem_append_right _ hx) hx'
theorem SrchIn.done (s : SrchIn R b here ks rest) (h : ∀ y, R here y → y ∈ ks) : Srch R b ks rest :=
  ⟨s.fst, s.nd, s.sub, fun x hx hx' y r => by
    by_cases e : x = here
    · subst e; exact h y r
    · exact s.cl x hx hx' e y r⟩
theorem Srch.all (s : Srch R b ks []) : ∀ x ∈ ks, ∀ y, R x y → y ∈ ks := fun x h => s.cl x h (by simp)
end
/-- all houses that stand at wires, and one -/
def ends (ws : List (α × α)) (b : α) : List α := b :: ws.flatMap fun e => [e.1, e.2]
theorem ends_len (ws : List (α × α)) (b : α) : (ends ws b).length = 2 * ws.length + 1 := by
  unfold ends
  rw [List.length_cons]
  congr 1
  induction ws with
  | nil => rfl
  | cons e ws ih => rw [List.flatMap_cons, List.length_append, ih]; simp; omega
theorem mem_ends {ws : List (α × α)} {b t h : α} {i : Nat} (e : ws[i]? = some (t, h)) : t ∈ ends ws b ∧ h ∈ ends ws b := by
  have hm := List.mem_of_getElem? e
  unfold ends
  exact ⟨List.mem_cons_of_mem _ (List.mem_flatMap.mpr ⟨_, hm, by simp⟩), List.mem_cons_of_mem _ (List.mem_flatMap.mpr ⟨_, hm, by simp⟩)⟩
/-- reached by steps: all of a closed set -/
theorem reach_in {ws : List (α × α)} {T : List Nat} {b : α} {ks : List α} (h0 : b ∈ ks) (h : ∀ x ∈ ks, ∀ y, (∃ i, Step ws T i x y) → y ∈ ks) {x : α} (r : Reach ws T b x) : x ∈ ks := by
  induction r with
  | refl => exact h0
  | step _ s ih => exact h _ ih _ ⟨_, s⟩
/-- and back -/
theorem reach_back {ws : List (α × α)} {T : List Nat} {g : α} {ks : List α} (h0 : g ∈ ks) (h : ∀ x ∈ ks, ∀ y, (∃ i, Step ws T i y x) → y ∈ ks) {x : α} (r : Reach ws T x g) : x ∈ ks := by
  have : ∀ z, Reach ws T x z → z ∈ ks → x ∈ ks := by
    intro z r
    induction r with
    | refl => exact id
    | step _ s ih => exact fun hz => ih (h _ hz _ ⟨_, s⟩)
  exact this g r h0

/-! ### ways -/
inductive Path (ws : List (α × α)) : α → List Nat → α → Prop
  | nil (x : α) : Path ws x [] x
  | snoc {x y z : α} {r : List Nat} {i : Nat} : Path ws x r y → ws[i]? = some (y, z) → Path ws x (r ++ [i]) z
/-- the tails of a row -/
def tails (ws : List (α × α)) (r : List Nat) : List (Option α) := r.map fun i => ws[i]?.map Prod.fst
/-- a way up to here that came to no house twice -/
structure Way (ws : List (α × α)) (b : α) (r : List Nat) (x : α) : Prop where
  path : Path ws b r x
  nd : (tails ws r).Nodup
  new : some x ∉ tails ws r
section
variable {ws : List (α × α)} {b g x y : α} {r : List Nat}
theorem Way.nil (ws : List (α × α)) (b : α) : Way ws b [] b := ⟨.nil b, by simp [tails], by simp [tails]⟩
theorem tails_append (r q : List Nat) : tails ws (r ++ q) = tails ws r ++ tails ws q := by simp [tails]
theorem Path.take (p : Path ws b r x) : ∀ (k : Nat) (i : Nat) (t h : α), r[k]? = some i → ws[i]? = some (t, h) → Path ws b (r.take k) t := by
  induction p with
  | nil => intro k i t h e; simp at e
  | @snoc y z r j p e ih =>
    intro k i t h hk hi
    by_cases hlt : k < r.length
    · rw [List.getElem?_append_left hlt] at hk
      rw [List.take_append_of_le_length (Nat.le_of_lt hlt)]
      exact ih k i t h hk hi
    · have hk' : k = r.length := by
        have := (List.getElem?_eq_some_iff.mp hk).1
        simp at this; omega
      subst hk'
      rw [List.getElem?_append_right (Nat.le_refl _)] at hk
      have : j = i := by simpa using hk
      subst this
      rw [hi] at e
      injection e with e; injection e with e1 e2
      subst e1
      rw [List.take_append_of_le_length (Nat.le_refl _), List.take_length]
      exact p
/-- the row with one wire more, not yet cut -/
theorem Way.path_snoc (w : Way ws b r x) {i : Nat} (e : ws[i]? = some (x, y)) : Path ws b (r ++ [i]) y ∧ (tails ws (r ++ [i])).Nodup := by
  refine ⟨.snoc w.path e, ?_⟩
  rw [tails_append, List.nodup_append]
  refine ⟨w.nd, by simp [tails], fun a ha c hc h => ?_⟩
  have : c = some x := by simpa [tails, e] using hc
  subst this; subst h; exact w.new ha
/-- cut at the first place that stands at y -/
theorem Way.cut {q : List Nat} (p : Path ws b q y) (nd : (tails ws q).Nodup) {k : Nat} {i : Nat} {h : α} (hk : q[k]? = some i) (hi : ws[i]? = some (y, h)) : Way ws b (q.take k) y := by
  refine ⟨p.take k i y h hk hi, nd.sublist (by unfold tails; exact (List.take_sublist _ _).map _), fun hm => ?_⟩
  have h1 : (tails ws q)[k]? = some (some y) := by simp [tails, hk, hi]
  have h2 : tails ws (q.take k) = (tails ws q).take k := by simp [tails]
  rw [h2] at hm
  obtain ⟨j, hj, e⟩ := List.mem_iff_getElem.mp hm
  have hjk : j < k := by simp at hj; omega
  have hlt : k < (tails ws q).length := (List.getElem?_eq_some_iff.mp h1).1
  have e1 : (tails ws q)[j]? = some (some y) := by
    rw [List.getElem_take] at e
    rw [← e]
    exact List.getElem?_eq_getElem _
  have := (List.getElem?_inj (by omega) nd).mp (e1.trans h1.symm)
  omega
theorem Way.uncut {q : List Nat} (p : Path ws b q y) (nd : (tails ws q).Nodup) (h : ∀ i ∈ q, ws[i]?.map Prod.fst ≠ some y) : Way ws b q y :=
  ⟨p, nd, fun hm => by
    obtain ⟨i, hi, e⟩ := List.mem_map.mp hm
    exact h i hi e⟩
theorem Path.lt (p : Path ws b r x) : ∀ i ∈ r, i < ws.length := by
  induction p with
  | nil => intro i h; cases h
  | @snoc y z r j _ e ih =>
    intro i h
    rcases List.mem_append.mp h with h | h
    · exact ih i h
    · have : i = j := by simpa using h
      subst this
      exact (List.getElem?_eq_some_iff.mp e).1
end
/-- what is left of k ways, when one of them is gone up to here -/
structure Rest (ws : List (α × α)) (b g : α) (k : Nat) (here : α) (late : List Nat) : Prop extends Ix ws late where
  bal : ∀ f : α → Int, pot ws late f = (k : Int) * (f g - f b) + f b - f here
section
variable {ws : List (α × α)} {b g here : α} {k : Nat} {late : List Nat}
theorem Rest.start {T : List Nat} (F : Flow ws b g T k) : Rest ws b g k b T := ⟨F.toIx, fun f => by rw [F.bal]; omega⟩
theorem Rest.next (R : Rest ws b g (k + 1) here late) (h : here ≠ g) : ∃ i ∈ late, ws[i]?.map Prod.fst = some here := by
  have h1 := R.bal (fun x => if x = here then 1 else 0)
  rw [if_neg (Ne.symm h)] at h1
  have h2 : pot ws late (fun x => if x = here then (1 : Int) else 0) < 0 := by
    rw [h1, if_pos rfl]
    by_cases e : b = here
    · rw [if_pos e]
      have : ((k + 1 : Nat) : Int) * (0 - 1) = - (k : Int) - 1 := by rw [Int.natCast_add]; omega
      omega
    · rw [if_neg e]; omega
  have key : ∀ l : List Nat, (∀ i ∈ l, ¬ ws[i]?.map Prod.fst = some here) → 0 ≤ (l.map (dl ws (fun x => if x = here then (1 : Int) else 0))).sum := by
    intro l hl
    refine sum_nonneg fun i hi => ?_
    unfold dl
    cases e : ws[i]? with
    | none => exact Int.le_refl _
    | some p =>
      obtain ⟨t, hh⟩ := p
      have := hl i hi
      rw [e] at this
      have ht : ¬ t = here := by simpa using this
      show 0 ≤ (if hh = here then (1 : Int) else 0) - (if t = here then (1 : Int) else 0)
      rw [if_neg ht]
      by_cases e2 : hh = here <;> simp [e2]
  refine Classical.byContradiction fun hno => ?_
  have := key late fun i hi e => hno ⟨i, hi, e⟩
  have h3 : pot ws late (fun x => if x = here then (1 : Int) else 0) = (late.map (dl ws (fun x => if x = here then (1 : Int) else 0))).sum := rfl
  omega
theorem Rest.go (R : Rest ws b g k here late) {i : Nat} {y : α} (hi : i ∈ late) (e : ws[i]? = some (here, y)) : Rest ws b g k y (late.erase i) :=
  ⟨⟨R.nd.erase i, fun j hj => R.lt j (List.mem_of_mem_erase hj)⟩, fun f => by rw [pot_erase hi, R.bal, dl_at e]; omega⟩
theorem Rest.done (R : Rest ws b g (k + 1) g late) : Flow ws b g late k :=
  ⟨R.toIx, fun f => by
    rw [R.bal]
    have : ((k + 1 : Nat) : Int) * (f g - f b) = (k : Int) * (f g - f b) + (f g - f b) := by rw [Int.natCast_add, Int.add_mul]; simp
    omega⟩
end
end Fl

/-! # ZEnum -/
set_option Elab.async false
set_option linter.all false
set_option maxRecDepth 100000
set_option maxHeartbeats 2000000
/-! enumerate over a tuple: a walk of the hand layer. -/
namespace Z
open PySem PySem.Spec PyProof.Rows L2

theorem enumNew {v : Value} {o : Obj} {G : Heap → Prop} (B : Begins v o G) :
    Meets (Builtin.«enumerate.__new__» ⟨[.type "enumerate", v], []⟩) (fun _ R s => G s.heap ∧ R (.ok (.ret (.ref (s.heap.push o).objs.size)))
      { s with heap := (s.heap.push o).push { cls := .type "enumerate", data := .fields #[.none, .bool false, .ref s.heap.objs.size, rawInt 0, .none, .none] } }) :=
  .of_wp fun prog w A R s h => by
    obtain ⟨h0, gs, dr, tk, ost⟩ := s
    obtain ⟨hG, hR⟩ := h
    have sub := sub_enumerate
    have begin_ : ∀ {A' : Around} {E' : Value → Shared → Prop} {Q' : Value → Shared → Prop}, Q' (.ref h0.objs.size) ⟨h0.push o, gs, dr, tk, ost⟩ →
        wpAny (model prog w) A' (pyIter v) Q' E' ⟨h0, gs, dr, tk, ost⟩ := fun z => B.iter prog w _ _ ⟨h0, gs, dr, tk, ost⟩ _ hG z
    wp_walk using begin_
    refine wpAny_stack_any fun fr => wpAny_pure ?_
    split
    · rename_i cc _ _ _ _ _
      cases (cc == Value.type "enumerate") <;> (wp_walk using begin_; exact ⟨_, rfl, hR⟩)
    · wp_walk using begin_
      exact ⟨_, rfl, hR⟩

theorem call_enumT {prog : Program} {w : World} {A : Around} {E : Value → Shared → Prop} {s : Shared} {t : Addr} {its : Array Value} {Q : Value → Shared → Prop} (ht : s.heap.IsTuple t its)
    (h : ∀ h', IsEnum h' (s.heap.objs.size + 1) s.heap.objs.size 0 .none → h'.IsTupleIter s.heap.objs.size t 0 → h'.objs.size = s.heap.objs.size + 2 →
      (∀ b o, s.heap.get? b = some o → h'.get? b = some o) → Q (.ref (s.heap.objs.size + 1)) { s with heap := h' }) :
    wpAny (model prog w) A (call (.type "enumerate") [.ref t]) Q E s := by
  have B := begins_tuple t its
  refine callType_new F.called_enumerate (by decide) (F.typeCall_enumerate_1 _) (F.newCall_enumerate_1 _) (fun x => F.args_object_init_2 x _) F.entry_enumerate_new (enumNew B) ⟨ht, ?_⟩
  generalize ho : ({ cls := .type "tuple_iterator", data := .fields #[.ref t, .int 0 0] } : Obj) = o at B
  have z1 : (s.heap.push o).objs.size = s.heap.objs.size + 1 := Heap.size_push ..
  show _ ∧ _
  rw [z1]
  have en := Heap.get?_push_size (s.heap.push o) (o := { cls := .type "enumerate", data := .fields #[.none, .bool false, .ref s.heap.objs.size, rawInt 0, .none, .none] }) rfl
  rw [z1] at en
  have ei := Heap.get?_push_size s.heap (o := o) B.free
  refine ⟨⟨_, en, rfl⟩, h _ en ⟨_, Heap.get?_push_of_some _ ei, by rw [← ho], by rw [← ho] <;> rfl⟩ (by rw [Heap.size_push, z1]) fun b u e => Heap.get?_push_of_some _ (Heap.get?_push_of_some _ e)⟩

/-- the tuple at t, each item with its place in a new pair -/
def EnT (K : PySem.W.Frag) (t : Addr) : It where
  go := fun i H => ∃ (xs : List V) (x : V), SqT K H t xs ∧ xs[i]? = some x
  yld := fun i H v H' => ∃ T x, v = .ref T ∧ H T = none ∧ H' = upd H T (.tup [.int (i : Nat), x]) ∧ ∀ xs, SqT K H t xs → xs[i]? = some x
  stop := fun i H => ∃ xs : List V, SqT K H t xs ∧ xs.length = i

theorem turn_enT {P : Program} {w : World} {K : PySem.W.Frag} {elts : List Expr} {kk : Nat} {tp : Pos} (t e it : Addr) (h1 : e ≠ it) (h2 : e ≠ t) (h3 : t ≠ it) :
    Turn P w K (.Tuple elts kk tp) (EnT K t) [e, it] e (fun i h => (∃ old, IsEnum h e it ((i : Nat) : Int) old) ∧ h.IsTupleIter it t i) where
  mem := List.mem_cons_self
  obj := fun i h st b hb => by
    obtain ⟨⟨old, he⟩, ⟨o, ho, _, hd⟩⟩ := st
    rcases List.mem_cons.mp hb with rfl | hb
    · exact ⟨_, he, fun _ q => nomatch q⟩
    · rw [List.mem_singleton.mp hb]
      exact ⟨o, ho, fun _ q => by rw [hd] at q; cases q⟩
  keep := fun i h h' st k => ⟨⟨st.1.choose, k e (by simp) _ st.1.choose_spec⟩, st.2.at fun o q => k it (by simp) o q⟩
  item := by
    intro X hP hw hK hc i pins s σ H E I hf st hg
    subst hP hw hK
    obtain ⟨⟨old, he⟩, hi⟩ := st
    obtain ⟨xs, x, hq, hx⟩ := hg
    obtain ⟨its, rv, p, _⟩ := I.tuple hq
    obtain ⟨u, hu, ru⟩ := rv.get hx
    have len := rv.length
    have lt1 : e < s.heap.objs.size := Heap.lt_size he
    have lt2 : it < s.heap.objs.size := let ⟨_, q, _⟩ := hi; Heap.lt_size q
    have ilt : i < its.toArray.size := by
      have := (List.getElem?_eq_some_iff.mp hx).1
      simp; omega
    refine wpAny_pyNext_enum_itemD (Draws.tuple (A := X.A.in1) (I.ok.hd hc) it t h3 its.toArray) he ⟨hi, p⟩ ilt h1 (by simp [h1, h2]) fun y h' tk hy ho hst hT hz hk => ?_
    have hy' : its.toArray[i]? = some y := hy
    have ey : y = u := by
      have : its[i]? = some y := by simpa using hy'
      rw [hu] at this; exact (Option.some.inj this).symm
    subst ey
    refine ⟨_, rfl, wpAny_letOwnedTupleGo_enum (s := { s with heap := h', toks := tk + 1 }) ho fun h2' he' sb => ?_⟩
    have hT2 : h2'.get? s.heap.objs.size = some { cls := .type "tuple", data := .seq #[.int i tk, y] } := (sb.2 _ (Nat.ne_of_gt lt1)).trans hT
    have I1 : Inv X pins σ (upd H s.heap.objs.size (.tup [.int (i : Nat), x])) { s with heap := h2', toks := tk + 1 } :=
      I.turnedNew (ch := [e, it]) (fun b o hb q => (sb.2 b fun z => hb (by simp [z])).trans (hk b o (fun z => hb (by simp [z])) (fun z => hb (by simp [z])) q)) hf (Nat.le_refl _)
        ⟨by show 2 ≤ sizeLine; decide, [.int i tk, y], .cons ⟨_, rfl⟩ (.cons ru .nil), ⟨_, hT2, rfl, _, rfl⟩⟩
    refine ⟨.ref s.heap.objs.size, _, I1, rfl, ⟨_, x, rfl, I.hok.fresh (Nat.le_refl _), rfl, fun ys hy => by rw [I.tuple_inj hy hq]; exact hx⟩, ⟨⟨y, ?_⟩, hst.1.at fun o q => (sb.2 it (Ne.symm h1)).trans q⟩, fun b hb => ?_⟩
    · have : ((i + 1 : Nat) : Int) = (i : Int) + 1 := by omega
      rw [this]; exact he'
    · have lt : b < s.heap.objs.size := by
        rcases List.mem_cons.mp hb with rfl | hb
        · exact lt1
        · rw [List.mem_singleton.mp hb]; exact lt2
      rw [upd_ne (Nat.ne_of_lt lt)]
      exact (hf b hb).1
  done := by
    intro X hP hw hK hc i pins s σ H E I hf st hg
    subst hP hw hK
    obtain ⟨⟨old, he⟩, hi⟩ := st
    obtain ⟨xs, hq, hx⟩ := hg
    obtain ⟨its, rv, p, _⟩ := I.tuple hq
    obtain ⟨f0, f1, f2, f3, f4, f5⟩ := hf it (by simp)
    have len := rv.length
    have hz : i = its.toArray.size := by simp; omega
    subst hz
    exact wpAny_pyNext_enum_endD (Draws.tuple (A := X.A.in1) (I.ok.hd hc) it t h3 its.toArray) he ⟨hi, p⟩ fun h' eb => ⟨rfl, I.turned (t' := s.toks) (fun b o hb q => eb b o hb q) f0 f1 f3 f4 f5⟩
  self := fun A i s Q E st h => wpAny_pyIter_enum st.1.choose_spec h

def iEnT (K : PySem.W.Frag) (ta : TA) : TI := fun σ H R => ta σ H fun vs H1 => ∃ t xs, vs = [.ref t] ∧ SqT K H1 t xs ∧ R (EnT K t) H1
theorem pi_enT {X : Cx} {e : Expr} {ta : TA} {p pos tp : Pos} {elts : List Expr} {kk : Nat} (hg : Gl X "enumerate") (hm : X.mg "enumerate" = none) (ha : PA X [e] ta) (hs : starEach [e] X.env = [(false, eval e X.env)] := by rfl) :
    PI X (.Tuple elts kk tp) (.Call (.Name "enumerate" p) [e] [] pos) (iEnT X.K ta) := by
  refine ⟨fun pins s σ H R I h => Call_ (ld_blt I hg hm boot_enumerate (PyProof.Rows.callWith_type1 (thn (ha.run pos pins s σ H _ I h) fun us s1 q => ?_) hs rfl))⟩
  obtain ⟨vs, H1, I1, r1, t, xs, rfl, hq, q⟩ := q
  obtain rfl := Vals.ref1 r1
  obtain ⟨its, rv, p', _⟩ := I1.tuple hq
  have tl : t < s1.heap.objs.size := let ⟨_, e1, _⟩ := id p'; Heap.lt_size e1
  refine call_enumT p' fun h' he hi hz hk => wpAny_pyIter_enum he ?_
  refine ⟨s1.heap.objs.size + 1, [s1.heap.objs.size + 1, s1.heap.objs.size], _, _, H1, rfl, I1.kept (t' := s1.toks) hk, turn_enT t _ _ (Nat.succ_ne_self _) (Nat.ne_of_gt (Nat.lt_succ_of_lt tl)) (Nat.ne_of_lt tl), ⟨⟨.none, he⟩, hi⟩, fun b hb => ?_, q⟩
  have le : s1.heap.objs.size ≤ b := by
    rcases List.mem_cons.mp hb with rfl | hb
    · omega
    · rw [List.mem_singleton.mp hb]; omega
  exact I1.fpOk le (I1.hok.fresh le)
theorem walk_enT {K : PySem.W.Frag} {t : Addr} {xs : List V} : Walk (EnT K t) xs.length (fun H => SqT K H t xs) (YPair (fun i => some (.int (i : Nat))) (fun i => xs[i]?)) where
  goes := fun i H hi q => ⟨xs, xs[i], q, List.getElem?_eq_getElem hi⟩
  stops := fun H q => ⟨xs, q, rfl⟩
  yields := fun i H v H' _ q y => by
    obtain ⟨T, x, e1, e2, e3, e4⟩ := y
    exact ⟨T, .int (i : Nat), x, e1, e2, e3, rfl, e4 xs q⟩
end Z

/-! # ZOwn -/
set_option Elab.async false
set_option linter.all false
set_option maxRecDepth 100000
set_option maxHeartbeats 2000000
/-! The special methods of an own class, as rules of the hand layer: x in o, o[x], o(x), len(o), o == y, o != y. -/
namespace Z
open PySem PySem.Spec PyProof.Rows L2

section
variable {X : Cx} {CX : CXT} {k : Nat} {f C : Addr} {sp : Sp} {E : XK}
/-- a def of the text runs, here or a step deeper -/
theorem ownRun {A : Around} {pins : List (Addr × Obj)} {σ : L2.St} {H : Hp} {s : Shared} {Q : VK} {us : List Value} {vs : List V} (sb : Sub X k A) (F : FnR X.prog X.w X.K X.mg X.base CX k f sp) (hx : Passes CX X E)
    (I : Inv X pins σ H s) (r : Vals vs us) (h : sp vs H Q E) : wpAny (model X.prog X.w) A (call (.ref f) us) (EP X pins σ Q) X.xe s := by
  have e0 := I.env0
  refine wpAny_call (codeAny_mono (F A X.stack s H us vs Q E sb.room ⟨by rw [sb.fr]; exact e0.frames, e0.mod, e0.bs, e0.bsz, e0.funs, e0.frf, e0.hok, e0.bare⟩ r h) fun r s' q => ?_)
  cases r with
  | error e => exact hx pins σ H s e s' I q
  | ok fl => cases fl <;> first | exact I.after q | exact False.elim q
theorem sub0 (hr : Room k X.A) : Sub X k X.A := ⟨hr, rfl⟩
theorem sub1 (hr : Room (k + 1) X.A) : Sub X k X.A.in1 := ⟨hr.in1, rfl⟩

theorem relRef (a : Addr) : RelV (.ref a) (Value.ref a) := rfl
/-- the method m of the class at C is the def at f -/
structure OwnM (K : PySem.W.Frag) (C : Addr) (m : Str) (f : Addr) : Prop where
  at_ : PySem.W.findIn K (.ref C) m = some (some (.ref f))
  fn : PySem.W.isFn K (.ref f) = true
  fi : PySem.W.fnIn K f = true

/-! ### x in o -/
def rOwnIn (C : Addr) (sp : Sp) (E : XK) (neg : Bool) : R2 := fun x y H Q => ∃ a dx fs, y = .ref a ∧ H a = some (.ins C dx fs) ∧ sp [.ref a, x] H (fun v H' => ∃ b, v = .bl b ∧ Q (.bl (if neg then !b else b)) H') E
theorem op_ownIn (M : OwnM X.K C "__contains__" f) (F : FnR X.prog X.w X.K X.mg X.base CX k f sp) (hr : Room k X.A) (hx : Passes CX X E) : OpR X (compareOp .In) (rOwnIn C sp E false) := by
  intro pins s σ H x y v u Q I rx ry h
  obtain ⟨a, dx, fs, rfl, ha, q⟩ := h
  cases ry
  obtain ⟨mA, O, _⟩ := ins_get I.hok ha
  obtain ⟨od, J, _⟩ := O.look
  obtain ⟨m, hF⟩ := I.fr
  refine PySem.W.in_K hF I.ok.mod.kin J M.at_ M.fn (thn (ownRun (sub0 hr) F hx I (.cons (relRef _) (.cons rx .nil)) q) fun r s' z => ?_)
  obtain ⟨v', H', I', rv, b, rfl, q⟩ := z
  cases rv
  exact wpAny_truthy_bool ⟨.bl b, H', I', rfl, q⟩
theorem op_ownNotIn (M : OwnM X.K C "__contains__" f) (F : FnR X.prog X.w X.K X.mg X.base CX k f sp) (hr : Room k X.A) (hx : Passes CX X E) : OpR X (compareOp .NotIn) (rOwnIn C sp E true) := by
  intro pins s σ H x y v u Q I rx ry h
  obtain ⟨a, dx, fs, rfl, ha, q⟩ := h
  cases ry
  obtain ⟨mA, O, _⟩ := ins_get I.hok ha
  obtain ⟨od, J, _⟩ := O.look
  obtain ⟨m, hF⟩ := I.fr
  refine PySem.W.notIn_K hF I.ok.mod.kin J M.at_ M.fn (thn (ownRun (sub0 hr) F hx I (.cons (relRef _) (.cons rx .nil)) q) fun r s' z => ?_)
  obtain ⟨v', H', I', rv, b, rfl, q⟩ := z
  cases rv
  exact wpAny_truthy_bool ⟨.bl (!b), H', I', rfl, q⟩

/-! ### o[x] -/
def rOwnIx (C : Addr) (sp : Sp) (E : XK) : R2 := fun x y H Q => ∃ a dx fs, x = .ref a ∧ H a = some (.ins C dx fs) ∧ sp [.ref a, y] H Q E
theorem pe_ownIx {a b : Expr} {ta tb : TE} {pos : Pos} (M : OwnM X.K C "__getitem__" f) (F : FnR X.prog X.w X.K X.mg X.base CX k f sp) (hr : Room (k + 1) X.A) (hx : Passes CX X E) (ha : PE X a ta) (hb : PE X b tb)
    (hsl : ∀ o i, subscripted b true o i = runValue (.builtin "lifetime.subscript" ⟨[o, i], []⟩)) : PE X (.Subscript a b pos) (tOp (rOwnIx C sp E) ta tb) := by
  refine ⟨fun pins s σ H Q I h => Subscript_ (binT ha hb I h fun v u s2 x y H2 I2 rx ry q => ?_)⟩
  obtain ⟨p, dx, fs, rfl, hp, q⟩ := q
  cases rx
  obtain ⟨mA, O, _⟩ := ins_get I2.hok hp
  obtain ⟨od, J, _⟩ := O.look
  obtain ⟨m, hF⟩ := I2.fr
  exact PySem.W.sub_K hF I2.ok.mod.kin J M.at_ M.fi M.fn (ownRun (sub1 hr) F hx I2 (.cons (relRef _) (.cons ry .nil)) q) (hsl _ _)

/-! ### len(o) -/
def rOwnLen (C : Addr) (sp : Sp) (E : XK) : List V → Hp → VK → Prop := fun xs H Q => ∃ a dx fs, xs = [.ref a] ∧ H a = some (.ins C dx fs) ∧ sp [.ref a] H (fun v H' => ∃ n : Nat, v = .int n ∧ (n : Int) < 2 ^ 63 ∧ Q (.int n) H') E
theorem call_ownLen (M : OwnM X.K C "__len__" f) (F : FnR X.prog X.w X.K X.mg X.base CX k f sp) (hr : Room (k + 1) X.A) (hx : Passes CX X E) : CallR X (.builtin "len") (rOwnLen C sp E) := by
  intro pins s σ H xs us Q I r h
  obtain ⟨a, dx, fs, rfl, ha, q⟩ := h
  obtain rfl := Vals.ref1 r
  obtain ⟨mA, O, _⟩ := ins_get I.hok ha
  obtain ⟨od, J, _⟩ := O.look
  obtain ⟨m, hF⟩ := I.fr
  refine PySem.W.len_K hF I.ok.mod.kin J M.at_ M.fn (thn (ownRun (sub1 hr) F hx I (.cons (relRef _) .nil) q) fun v s' z => ?_)
  obtain ⟨v', H', I', rv, n, rfl, lt, q⟩ := z
  obtain ⟨t, rfl⟩ := rv
  exact ⟨⟨Int.natCast_nonneg _, lt⟩, ⟨.int n, H', I'.tok _, ⟨_, rfl⟩, q⟩⟩

/-! ### o == y, o != y -/
/-- what stands at the right: an instance of the same class, or a tuple -/
def CmpR (K : PySem.W.Frag) (C : Addr) (H : Hp) (y : V) : Prop := ∃ b, y = .ref b ∧ ((∃ dx fs, H b = some (.ins C dx fs)) ∨ ∃ xs, SqT K H b xs)
theorem cmpR_type {pins : List (Addr × Obj)} {σ : L2.St} {H : Hp} {s : Shared} {y : V} {u : Value} {M : Model} (I : Inv X pins σ H s) (ry : RelV y u) (h : CmpR X.K C H y) : ∃ tb, PySem.W.Looks M s.heap (typeOf u) tb ∧ PySem.W.notFirst X.K C tb = true := by
  obtain ⟨b, rfl, h⟩ := h
  cases ry
  rcases h with ⟨dx, fs, h⟩ | ⟨xs, h⟩
  · obtain ⟨mA, O, _⟩ := ins_get I.hok h
    obtain ⟨od, J, _⟩ := O.look
    exact ⟨_, J.type, by simp [PySem.W.notFirst]⟩
  · obtain ⟨its, rv, ⟨o, ho, hc, _⟩, _⟩ := I.tuple h
    refine ⟨.type "tuple", fun A Q E s kp q => wpAny_typeOf (T := "tuple") ⟨o, kp _ _ ho, hc⟩ q, ?_⟩
    have e : fastBuiltinMro "tuple" = some [.type "tuple", .type "object"] := by decide +kernel
    have : PySem.W.subIn X.K (.type "tuple") (.ref C) = some false := by
      show (fastBuiltinMro "tuple").map (·.contains (.ref C)) = some false
      rw [e]
      first | rfl | simp
    simp [PySem.W.notFirst, this]
def rOwnEq (K : PySem.W.Frag) (C : Addr) (sp : Sp) (E : XK) (neg : Bool) : R2 := fun x y H Q => ∃ a dx fs, x = .ref a ∧ H a = some (.ins C dx fs) ∧ CmpR K C H y ∧ sp [.ref a, y] H (fun v H' => ∃ b, v = .bl b ∧ Q (.bl (if neg then !b else b)) H') E
theorem op_ownEq (M : OwnM X.K C "__eq__" f) (F : FnR X.prog X.w X.K X.mg X.base CX k f sp) (hr : Room k X.A) (hx : Passes CX X E) : OpR X (compareOp .Eq) (rOwnEq X.K C sp E false) := by
  intro pins s σ H x y v u Q I rx ry h
  obtain ⟨a, dx, fs, rfl, ha, hy, q⟩ := h
  cases rx
  obtain ⟨mA, O, _⟩ := ins_get I.hok ha
  obtain ⟨od, J, _⟩ := O.look
  obtain ⟨m, hF⟩ := I.fr
  obtain ⟨tb, hb, hn⟩ := cmpR_type (M := model X.prog X.w) I ry hy
  show wpAny (model X.prog X.w) X.A (richCompare .Eq (.ref a) u) _ _ s
  refine PySem.W.cmp_K (op := .Eq) hr.units0 hF I.ok.mod.kin J hb hn M.at_ M.fn (thn (ownRun (sub0 hr) F hx I (.cons (relRef _) (.cons ry .nil)) q) fun v s' z => ?_)
  obtain ⟨v', H', I', rv, b, rfl, q⟩ := z
  cases rv
  exact ⟨.bl b, H', I', rfl, q⟩

theorem ifBound_ne {M : Model} {A : Around} {E' : Value → Shared → Prop} {s : Shared} {K : PySem.W.Frag} {x : Addr} {ox : Obj} {od : Option Obj} {args : List Value} {Q : Option Value → Shared → Prop} (W : K.In s.heap) (I : PySem.W.InstAt s.heap x ox C od)
    (hs : PySem.W.findIn K (.ref C) "__ne__" = some (some (.builtin "object.__ne__"))) (h : wpAny M A (call (.builtin "object.__ne__") (.ref x :: args)) (fun v => Q (some v)) E' s) :
    wpAny M A (callSpecialIfBound? (.ref x) "__ne__" args) Q E' s := by
  simp only [callSpecialIfBound?, bindSpecialIfBound?]
  refine wpAny_holding (wpAny_bind (wpAny_bind (wpAny_bind (I.type.here ((PySem.W.looks_findIn W hs).here ?_)))))
  refine wpAny_bind (wpAny_askSetting (wpAny_ite ?_))
  have run : wpAny M A (call (.builtin "object.__ne__") ([.ref x] ++ args) >>= fun v => pure (some v)) Q E' s :=
    wpAny_bind (wpAny_mono h (fun _ _ z => wpAny_pure z) fun _ _ z => z)
  split
  · exact wpAny_bind (wpAny_of_eq (F.cmp_object.ne.bind _) (wpAny_pure (by exact run)))
  · exact wpAny_tryCatch (wpAny_bind (wpAny_of_eq (F.cmp_object.ne.bind _) (wpAny_pure (by exact run))))
theorem call_ne {prog : Program} {w : World} {A : Around} {E' : Value → Shared → Prop} {s : Shared} {K : PySem.W.Frag} {x : Addr} {ox : Obj} {od : Option Obj} {b : Value} {Q : Value → Shared → Prop} (hu : A.in1.units < cLine) (W : K.In s.heap) (I : PySem.W.InstAt s.heap x ox C od)
    (hm : PySem.W.mroIn K C (.type "object") = some true) (hs : PySem.W.findIn K (.ref C) "__eq__" = some (some (.ref f))) (hf : PySem.W.isFn K (.ref f) = true)
    (h : wpAny (model prog w) A.in1 (call (.ref f) [.ref x, b]) (fun v s' => ∃ r, v = .bool r ∧ Q (.bool (!r)) s') E' s) : wpAny (model prog w) A (call (.builtin "object.__ne__") [.ref x, b]) Q E' s := by
  refine wpAny_call (codeAny_call_builtin F.cmp_object.ne.plain F.cmpEntry_ne (PySem.W.check_slot F.cmpKind_ne F.cmpSplit_ne (I.type.andThen (PySem.W.looks_mroIn W hm)) (F.cmpArgs_ne _ _) ?_))
  unfold Builtin.«object.__ne__»
  have sa : slotArgs "__ne__" 1 ⟨[.ref x, b], []⟩ = pure (.ref x, [b]) := by first | rfl | decide
  rw [sa]
  refine wpAny_bind (wpAny_pure ?_)
  refine wpAny_bind (wpAny_cRoomFor hu ?_)
  refine wpAny_bind (PySem.W.ifBound_K W I hs hf (wpAny_mono h (fun v s' z => ?_) fun _ _ z => z))
  obtain ⟨r, rfl, q⟩ := z
  refine wpAny_bind (wpAny_truthy_bool ?_)
  exact wpAny_pure q
theorem op_ownNe (M : OwnM X.K C "__eq__" f) (hne : PySem.W.findIn X.K (.ref C) "__ne__" = some (some (.builtin "object.__ne__"))) (hm : PySem.W.mroIn X.K C (.type "object") = some true)
    (F : FnR X.prog X.w X.K X.mg X.base CX k f sp) (hr : Room (k + 1) X.A) (hx : Passes CX X E) : OpR X (compareOp .NotEq) (rOwnEq X.K C sp E true) := by
  intro pins s σ H x y v u Q I rx ry h
  obtain ⟨a, dx, fs, rfl, ha, hy, q⟩ := h
  cases rx
  obtain ⟨mA, O, _⟩ := ins_get I.hok ha
  obtain ⟨od, J, _⟩ := O.look
  obtain ⟨tb, hb, hn⟩ := cmpR_type (M := model X.prog X.w) I ry hy
  show wpAny (model X.prog X.w) X.A (richCompare .NotEq (.ref a) u) _ _ s
  have one : wpAny (model X.prog X.w) X.A (tryCompare (.ref a) "__ne__" u) (fun r s' => ∃ v, r = some v ∧ EP X pins σ Q v s') X.xe s := by
    unfold tryCompare
    refine wpAny_bind (ifBound_ne I.kIn J hne (call_ne hr.in1.units0 I.kIn J hm M.at_ M.fn (thn (ownRun (sub1 hr) F hx I (.cons (relRef _) (.cons ry .nil)) q) fun v s' z => ?_)))
    obtain ⟨v', H', I', rv, b, rfl, q⟩ := z
    cases rv
    exact ⟨b, rfl, wpAny_pure ⟨_, rfl, ⟨.bl (!b), H', I', rfl, q⟩⟩⟩
  unfold richCompare
  simp only [oneThing_ref]
  refine wpAny_holding (wpAny_bind (wpAny_cRoomFor hr.units0 ?_))
  refine wpAny_bind (J.type.here (wpAny_bind (hb.here ?_)))
  split
  · rename_i hq
    have e : PySem.W.subIn X.K tb (.ref C) = some false := by
      rcases Bool.or_eq_true_iff.mp hn with e | e
      · rw [beq_iff_eq.mp e] at hq; simp at hq
      · exact beq_iff_eq.mp e
    refine wpAny_bind ((PySem.W.looks_subIn I.kIn e).here ?_)
    simp only [Bool.false_eq_true, if_false]
    refine wpAny_bind (wpAny_mono one (fun r s' z => ?_) fun _ _ z => z)
    obtain ⟨v, rfl, z⟩ := z
    exact wpAny_pure z
  · refine wpAny_bind (wpAny_pure ?_)
    simp only [Bool.false_eq_true, if_false]
    refine wpAny_bind (wpAny_mono one (fun r s' z => ?_) fun _ _ z => z)
    obtain ⟨v, rfl, z⟩ := z
    exact wpAny_pure z
end
end Z

/-! # ZList -/
set_option Elab.async false
set_option linter.all false
set_option maxRecDepth 100000
set_option maxHeartbeats 2000000
/-! iter(t) of a tuple; list(o) where o's __iter__ hands back the iterator of a tuple and o has a __len__. -/
namespace Z
open PySem PySem.Spec PyProof.Rows L2

section
variable {prog : Program} {w : World} {A : Around} {E : Value → Shared → Prop} {s : Shared}
/-- the end of a tuple's iterator: its own object stands still somewhere -/
theorem tupItEnd {jt t : Addr} {i : Nat} {its : Array Value} {Q : Option Value → Shared → Prop} (nh : A.handled = none) (st : IsTupIter s.heap jt t i) (ht : IsTup s.heap t its) (none_ : its[i]? = none)
    (q : ∀ h', Heap.ExtBut jt s.heap h' → (∃ u, h'.get? jt = some u) → Q none { s with heap := h' }) : wpAny (model prog w) A (pyNext (.ref jt)) Q E s := by
  obtain ⟨o, ho, hc, hd⟩ := id st
  obtain ⟨ot, hot, _, nt, hdt⟩ := ht
  unfold pyNext
  refine wpAny_bind (wpAny_attempt (wpAny_callSpecial?_slot (name := Str.ofString "__next__") st.typeIs slot_tupleiter_next
    (wpAny_call_entry slot_tupleiter_next st.typeIs entry_tupleiter_next ?body (args_tupleiter_next _))))
  case body =>
    show wpAny _ _ (field (.ref jt) 0 >>= _) _ _ s
    refine wpAny_bind (wpAny_field ho hd (x := .ref t) rfl ?_)
    show wpAny _ _ (ite ((Value.ref t == Value.none) = true) _ _) _ _ s
    rw [if_neg (by exact Bool.false_ne_true)]
    show wpAny _ _ (field (.ref jt) 1 >>= _) _ _ s
    refine wpAny_bind (wpAny_field ho hd (x := .int i 0) rfl ?_)
    show wpAny _ _ (seqItems? (Value.ref t) >>= _) _ _ s
    refine wpAny_bind (wpAny_seqItems hot hdt ?_)
    simp only [Int.toNat_natCast, none_]
    refine wpAny_bind (wpAny_rule (wpAny_bind (wpAny_setField ho hd (by simp) ?_)))
    show wpAny _ _ (newExc (Value.type "StopIteration") [] >>= _) _ _ _
    refine wpAny_bind ?_
    simp only [newExc, newTuple]
    refine wpAny_bind (wpAny_newObj_type ?_ (by show (0 : Nat) ≤ sizeLine; exact Nat.zero_le _))
    refine wpAny_bind (m := firstArgMember _ _) (wpAny_of_eq (a := Value.none) (by first | rfl | (simp only [firstArgMember]; rfl)) ?_)
    refine wpAny_newObj_type ?_ (by size_fits)
    simp only [raiseNew]
    refine wpAny_bind (wpAny_handled ?_)
    first | rw [show A.in1.handled = none from nh] | rw [nh]
    refine wpAny_bind (wpAny_pure (wpAny_throw ?_))
    refine wpAny_bind (wpAny_isInstance (T := "StopIteration") (b := true) ⟨_, Heap.get?_push_size _ rfl, rfl⟩ isSubtype_stop ?_)
    refine wpAny_pure (q _ (((Heap.SameBut.update ..).extBut.push _).push _) ⟨_, Heap.get?_push_of_some _ (Heap.get?_push_of_some _ (Heap.get?_update_self _ ho ?_))⟩)
    exact Obj.isFreed_of_fields (Obj.data_mapFields hd _)
end

/-- at it the iterator of the tuple at t, at its i-th item; a used one -/
def ItU (t it : Addr) (i : Nat) : HO := .ext fun h => IsTupIter h it t i
def ItUE (it : Addr) : HO := .ext fun h => ∃ u, h.get? it = some u
theorem itU_ok {P : Program} {w : World} {H : Hp} {h : Heap} {t it : Addr} {i : Nat} (e : IsTupIter h it t i) : ObjOk P w H h it (ItU t it i) :=
  ⟨e, let ⟨o, ho, _⟩ := e; ⟨o, ho⟩, fun _ _ q k => let ⟨o, ho, r⟩ := q; ⟨o, k _ ho, r⟩⟩
theorem itUE_ok {P : Program} {w : World} {H : Hp} {h : Heap} {it : Addr} (e : ∃ u, h.get? it = some u) : ObjOk P w H h it (ItUE it) := ⟨e, e, fun _ _ ⟨u, q⟩ k => ⟨u, k _ q⟩⟩

def rIterU (K : PySem.W.Frag) : List V → Hp → VK → Prop := fun xs H Q => ∃ (t : Addr) (zs : List V), xs = [.ref t] ∧ SqT K H t zs ∧ ∀ it, H it = none → Q (.ref it) (upd H it (ItU t it 0))
theorem call_iterU {X : Cx} : CallR X (.builtin "iter") (rIterU X.K) := by
  intro pins s σ H xs us Q I r h
  obtain ⟨t, zs, rfl, hq, q⟩ := h
  obtain rfl := Vals.ref1 r
  obtain ⟨its, rv, pt, _⟩ := I.tuple hq
  refine Calls.call_function_entry (by decide +kernel) (by decide +kernel) PySem.W.kdk_entry_iter (PySem.W.kdk_args_iter _) ?_
  unfold Builtin.«iter»
  refine wpAny_bind (m := someArgs "iter" 1 2 _) (wpAny_of_eq (a := [Value.ref t]) (by first | rfl | kernel_rfl!) ?_)
  show wpAny _ _ (pyIter (Value.ref t) >>= _) _ _ _
  refine wpAny_bind (wpAny_pyIter_tuple (show s.heap.IsTuple t its.toArray from pt) (wpAny_pure ⟨_, rfl, ?_⟩))
  have hS := Heap.get?_push_size s.heap (o := { cls := .type "tuple_iterator", data := .fields #[.ref t, .int 0 0] }) rfl
  exact ⟨.ref s.heap.objs.size, _, I.laid (t' := s.toks) (fun b u e => Heap.get?_push_of_some _ e) (Nat.le_refl _) (itU_ok ⟨_, hS, rfl, rfl⟩), rfl, q _ (I.hok.fresh (Nat.le_refl _))⟩

section
variable {X : Cx} {pins : List (Addr × Obj)} {σ : L2.St}
/-- the items go over to the list, one by one -/
theorem fillLoop {A1 : Around} {Rs : Result → Shared → Prop} {q t it : Addr} {zs : List V} {its : List Value} (nh : A1.in1.handled = none) (hz : zs.length ≤ 100000) :
    ∀ (m : Nat) (i : Nat) (H : Hp) (s : Shared), zs.length - i = m → i ≤ zs.length → Inv X pins σ H s → H q = some (.lst (zs.take i)) → H it = some (ItU t it i) → SqT X.K H t zs →
      (∀ s', Inv X pins σ (upd (upd H it (ItUE it)) q (.lst zs)) s' → Rs (.ok (.ret .none)) s') →
      codeAny (model X.prog X.w) A1 (.builtin "list.extend.loop" ⟨[.ref q, .ref it, .none], []⟩) Rs s := by
  have big : (100000 : Nat) < sizeLine := by rw [sizeLine_eq]; decide
  intro m
  induction m with
  | zero =>
    intro i H s hm hi I hq hit ht k
    have ei : i = zs.length := by omega
    subst ei
    refine codeAny_builtin PySem.F.entry_extend_loop ?_
    rw [Around.under_plainId PySem.F.plain_extend_loop _]
    show wpAny _ A1.in1 (pyNext (Value.ref it) >>= _) _ _ s
    obtain ⟨us, rv, pt, _⟩ := I.tuple ht
    have l1 := rv.length
    have nqi : q ≠ it := ne_of hq hit (fun z => nomatch z)
    refine wpAny_bind (tupItEnd nh (I.hok it _ hit).1 pt (by simp; omega) fun h' eb eu => wpAny_pure (k _ ?_))
    have mu : Mut (H it) := by rw [hit]; exact True.intro
    have I2 := I.write (x := it) (e := it) (t' := s.toks) mu (.inl rfl) (fun b o nb z => eb b o nb z) eu (itUE_ok (H := upd H it (ItUE it)) (P := X.prog) (w := X.w) eu)
    have e2 : upd (upd H it (ItUE it)) q (.lst zs) = upd H it (ItUE it) := by
      funext b
      by_cases hb : b = q
      · rw [hb, upd_same, upd_ne nqi, hq, List.take_length]
      · rw [upd_ne hb]
    rw [e2]
    exact I2
  | succ m ih =>
    intro i H s hm hi I hq hit ht k
    have hlt : i < zs.length := by omega
    refine codeAny_builtin PySem.F.entry_extend_loop ?_
    rw [Around.under_plainId PySem.F.plain_extend_loop _]
    show wpAny _ A1.in1 (pyNext (Value.ref it) >>= _) _ _ s
    obtain ⟨us, rv, pt, _⟩ := I.tuple ht
    obtain ⟨u, hu, ru⟩ := rv.get (List.getElem?_eq_getElem hlt)
    have nqi : q ≠ it := ne_of hq hit (fun z => nomatch z)
    refine wpAny_bind (wpAny_pyNext_tuple_item (show s.heap.IsTupleIter it t i from (I.hok it _ hit).1) (show s.heap.IsTuple t us.toArray from pt) (x := u) (by simpa using hu) fun h' st' sb => ?_)
    have mu : Mut (H it) := by rw [hit]; exact True.intro
    have I2 : Inv X pins σ (upd H it (ItU t it (i + 1))) { s with heap := h' } :=
      I.write (x := it) (e := it) (t' := s.toks) mu (.inl rfl) (fun b o nb z => (sb.2 b nb).trans z) (let ⟨o, ho, _⟩ := st'; ⟨o, ho⟩) (itU_ok st')
    have hq2 : upd H it (ItU t it (i + 1)) q = some (.lst (zs.take i)) := by rw [upd_ne nqi]; exact hq
    have nti : ∀ b xs, H b = some (.tup xs) → b ≠ it := fun b xs e => ne_of e hit (fun z => nomatch z)
    obtain ⟨z, its2, kk, r2, hl, e⟩ := I2.lstM hq2
    show wpAny _ A1.in1 (updateSeq q (·.push u) >>= _) _ _ _
    refine wpAny_bind (wpAny_updateSeq e rfl (wpAny_pure ⟨plainId_quiet PySem.F.plain_extend_loop _, ?_⟩) (by rw [List.size_toArray]; omega) (by show (its2.toArray.push u).size ≤ sizeLine + 1; rw [Array.size_push, List.size_toArray]; omega))
    have I3 := I2.lset (f := (·.push u)) (its' := its2 ++ [u]) (t' := s.toks) hq2 e (by simp) (r2.append (.cons ru .nil)) (by rw [List.length_append, List.length_singleton, List.length_take]; omega)
    have tk : zs.take i ++ [zs[i]] = zs.take (i + 1) := by rw [List.take_succ_eq_append_getElem hlt]
    rw [tk] at I3
    refine ih (i + 1) _ _ (by omega) (by omega) I3 upd_same (by rw [upd_ne nqi.symm, upd_same]) ?_ (fun s' I' => k s' ?_)
    · rcases ht with (ht | ⟨o, ht⟩) | ht
      · exact .inl (.inl (by rw [upd_ne (ne_of ht hq (fun z => nomatch z)), upd_ne (nti _ _ ht)]; exact ht))
      · exact .inl (.inr ⟨o, by rw [upd_ne (ne_of ht hq (fun z => nomatch z)), upd_ne (ne_of ht hit (fun z => nomatch z))]; exact ht⟩)
      · exact .inr ht
    · have e5 : upd (upd (upd (upd H it (ItU t it (i + 1))) q (.lst (zs.take (i + 1)))) it (ItUE it)) q (.lst zs) = upd (upd H it (ItUE it)) q (.lst zs) := by
        funext b
        by_cases hb : b = q
        · rw [hb, upd_same, upd_same]
        · rw [upd_ne hb, upd_ne hb]
          by_cases hb2 : b = it
          · rw [hb2, upd_same, upd_same]
          · rw [upd_ne hb2, upd_ne hb, upd_ne hb2, upd_ne hb2]
      rw [e5] at I'
      exact I'
end

section
variable {X : Cx} {CI CL : CXT} {C fi fl : Addr} {spI spL : Sp} {EI EL : XK} {n : Nat}
/-- list(o) -/
def rOwnList (K : PySem.W.Frag) (C : Addr) (spI spL : Sp) (EI EL : XK) : List V → Hp → VK → Prop := fun xs H Q => ∃ a dx fs, xs = [.ref a] ∧ H a = some (.ins C dx fs) ∧
  ∀ q, H q = none → spI [.ref a] (upd H q (.lst [])) (fun v H1 => ∃ it t zs dx1 fs1, v = .ref it ∧ H1 it = some (ItU t it 0) ∧ H1 a = some (.ins C dx1 fs1) ∧
    spL [.ref a] H1 (fun w H2 => w = .int ((zs.length : Nat) : Int) ∧ zs.length ≤ 100000 ∧ H2 q = some (.lst []) ∧ H2 it = some (ItU t it 0) ∧ SqT K H2 t zs ∧ Q (.ref q) (upd (upd H2 it (ItUE it)) q (.lst zs))) EL) EI
theorem call_ownList (MI : OwnM X.K C "__iter__" fi) (ML : OwnM X.K C "__len__" fl) (FI : FnR X.prog X.w X.K X.mg X.base CI n fi spI) (FL : FnR X.prog X.w X.K X.mg X.base CL n fl spL)
    (xI : Passes CI X EI) (xL : Passes CL X.nox EL) (hr : Room (n + 3) X.A) : CallR X (.type "list") (rOwnList X.K C spI spL EI EL) := by
  intro pins s σ H xs us Q I rv h
  obtain ⟨a, dx, fs, rfl, ha, hq⟩ := h
  obtain rfl := Vals.ref1 rv
  have sb2 : Sub X (n + 1) X.A.in1.in1 := Sub.in1 (Sub.in1 (⟨hr, rfl⟩ : Sub X (n + 3) X.A))
  refine callType_codes (Q₁ := fun obj s₁ => obj = .ref s.heap.objs.size ∧ s₁ = { s with heap := s.heap.push { cls := .type "list", data := .seq #[] } }) PySem.F.called_list (PySem.F.typeCall_list_1 _) PySem.F.entry_list_init
    (code_list_new _ ⟨rfl, rfl⟩) fun ob s₁ h₁ => ?_
  obtain ⟨rfl, rfl⟩ := h₁
  have hS : (s.heap.push { cls := .type "list", data := .seq #[] }).get? s.heap.objs.size = some { cls := .type "list", data := .seq #[] } := Heap.get?_push_size _ rfl
  refine ⟨⟨_, hS, rfl⟩, PySem.F.args_list_init_2 _ _, ?_⟩
  generalize hqq : s.heap.objs.size = q at hS
  have fr : H q = none := I.hok.fresh (Nat.le_of_eq hqq)
  have hsp := hq q fr
  have I1 : Inv X pins σ (upd H q (.lst [])) { s with heap := s.heap.push { cls := .type "list", data := .seq #[] } } := by
    have z := I.lnew (its := []) (ys := []) (t' := s.toks) .nil (Nat.zero_le _)
    rw [hqq] at z
    exact z
  show wpAny _ _ (do let old ← Builtin.List.listItems (.ref q); Builtin.List.listUpdate (.ref q) (fun _ => #[]); letGo old.toList.reverse; Builtin.List.listExtendWith (.ref q) (.ref a) .none) _ _ _
  refine wpAny_bind ?_
  unfold Builtin.List.listItems
  refine wpAny_bind (wpAny_seqItems hS rfl (wpAny_pure ?_))
  show wpAny _ _ (updateSeq q (fun _ => #[]) >>= fun _ => letGo (#[] : Array Value).toList.reverse >>= fun _ => Builtin.List.listExtendWith (.ref q) (.ref a) .none) _ _ _
  refine wpAny_bind (wpAny_updateSeq hS rfl ?_)
  have I2 := I1.lset (f := fun _ => #[]) (its := []) (its' := []) (ys := []) (t' := s.toks) upd_same hS rfl .nil (Nat.zero_le _)
  rw [upd_upd] at I2
  refine wpAny_bind (wpAny_letGo ?_)
  have ha2 : upd H q (.lst []) a = some (.ins C dx fs) := by rw [upd_ne (ne_of_none ha fr)]; exact ha
  have hne : q ≠ a := (ne_of_none ha fr).symm
  -- extend
  obtain ⟨mA, J, _⟩ := ins_get I2.hok ha2
  obtain ⟨od, J, _⟩ := J.look
  obtain ⟨m0, hF⟩ := I2.fr
  unfold Builtin.List.listExtendWith
  refine wpAny_bind (J.type.here ?_)
  have g1 : Builtin.List.listSameRef (.ref q) (.ref a) = false := by simp [Builtin.List.listSameRef, hne]
  have g2 : (Value.ref C == Value.type "list") = false := rfl
  have g3 : (Value.ref C == Value.type "tuple") = false := rfl
  simp only [g1, g2, g3, Bool.or_false, Bool.false_eq_true, if_false]
  refine wpAny_bind (PySem.W.owit_iter hF I2.ok.mod.kin J MI.at_ MI.fn (thn (ownRun (sb2.mono (Nat.le_succ _)) FI xI I2 (.cons (relRef _) .nil) hsp) fun u s3 z => ?_))
  obtain ⟨v, H1, I3, rv3, it, t, zs, dx1, fs1, rfl, hit, ha3, hL⟩ := z
  cases rv3
  have hT : IsTupIter s3.heap it t 0 := (I3.hok it _ hit).1
  unfold PySem.W.OwitIt
  refine wpAny_specialOf (name := Str.ofString "__next__") hT.typeIs slot_tupleiter_next.lookup ?_
  -- the length, for room
  obtain ⟨mA3, J3, _⟩ := ins_get I3.hok ha3
  obtain ⟨od3, J3, _⟩ := J3.look
  obtain ⟨m3, hF3⟩ := I3.fr
  refine wpAny_bind (wpAny_holding ?_)
  unfold Builtin.List.listLengthHint
  refine wpAny_bind (wpAny_bind (J3.type.here ((PySem.W.looks_findIn I3.kIn ML.at_).here ?_)))
  refine PySem.W.KFB.if_not rfl ?_
  refine PySem.W.KFB.if_so rfl ?_
  refine wpAny_bind (wpAny_rule (wpAny_bind (wpAny_attempt ?_)))
  refine PySem.W.len_K hF3 I3.ok.mod.kin J3 ML.at_ ML.fn (wpAny_mono (ownRun (X := X.nox) ⟨sb2.in1.room, sb2.in1.fr⟩ FL xL (I3.wish _) (.cons (relRef _) .nil) hL) (fun u s4 z => ?_) fun _ _ z => False.elim z)
  obtain ⟨wv, H2, I4, rw4, rfl, hz, hq4, hit4, ht4, fin⟩ := z
  replace I4 := I4.unwish
  obtain ⟨tk, rfl⟩ := rw4
  have big : (100000 : Nat) < sizeLine := by rw [sizeLine_eq]; decide
  have szl := sizeLine_eq
  refine ⟨⟨Int.natCast_nonneg _, by omega⟩, ?_⟩
  refine wpAny_bind (wpAny_pure ?_)
  show wpAny _ _ (if Builtin.List.listTooLong ((zs.length : Nat) : Int).toNat = true then _ else _) _ _ _
  rw [if_neg (by rw [notLongL (by simp; omega)]; exact Bool.false_ne_true)]
  refine wpAny_pure ?_
  have I5 : Inv X pins σ H2 { s4 with toks := s4.toks + 1 } := I4.tok _
  have last : ∀ s', Inv X pins σ (upd (upd H2 it (ItUE it)) q (.lst zs)) s' → EP X pins σ Q (.ref q) s' := fun s' I' => ⟨.ref q, _, I', rfl, fin⟩
  have go : ∀ s', Inv X pins σ H2 s' → codeAny (model X.prog X.w) X.A.in1 (.builtin "list.extend.loop" ⟨[.ref q, .ref it, .none], []⟩) (wants (fun r s₂ => r = .none ∧ EP X pins σ Q (.ref q) s₂) X.xe) s' := fun s' I' =>
    fillLoop (A1 := X.A.in1) (zs := zs) (its := []) hr.hd hz zs.length 0 H2 s' rfl (Nat.zero_le _) I' hq4 hit4 ht4 fun s2 J2 => ⟨rfl, last s2 J2⟩
  refine wpAny_ite_split (fun _ => ?_) (fun _ => wpAny_pure ⟨plainId_quiet PySem.F.plain_extend_loop _, go _ I5⟩)
  obtain ⟨z0, its0, k0, r0, hl0, e0⟩ := I5.lstM hq4
  cases r0
  refine wpAny_bind (wpAny_rule ?_)
  refine wpAny_bind ?_
  show wpAny _ _ (updateSeq q (fun x => x.push .none) >>= fun _ => updateSeq q (fun x => x.pop)) _ _ _
  refine wpAny_bind (wpAny_updateSeq e0 rfl ?_)
  have I6 := I5.lset (f := fun x => x.push Value.none) (its' := [Value.none]) (ys := [.non]) (t' := s4.toks + 1) hq4 e0 (by simp) (.cons rfl .nil) (by rw [List.length_singleton]; omega)
  obtain ⟨z6, its6, k6, r6, hl6, e6⟩ := I6.lstM upd_same
  obtain ⟨u6, rfl, ru6⟩ := r6.one
  refine wpAny_updateSeq e6 rfl ?_ (by show 1 ≤ sizeLine; omega) (by show 0 ≤ sizeLine + 1; omega)
  have I7 := I6.lset (f := fun x => x.pop) (its := [u6]) (its' := []) (ys := []) (t' := s4.toks + 1) upd_same e6 (by rfl) .nil (Nat.zero_le _)
  rw [upd_upd] at I7
  have eH : upd H2 q (.lst []) = H2 := by
    funext b
    by_cases hb : b = q
    · rw [hb, upd_same, hq4]
    · rw [upd_ne hb]
  rw [eH] at I7
  exact wpAny_pure ⟨plainId_quiet PySem.F.plain_extend_loop _, go _ I7⟩
end
end Z

/-! # ZMin -/
set_option Elab.async false
set_option linter.all false
set_option maxRecDepth 100000
set_option maxHeartbeats 2000000
/-! min of a list of data that are alike (numbers, texts, tuples of these), with default= or without. -/
namespace Z
open PySem PySem.Spec PyProof.Rows L2

/-- the place of the least up to k -/
def bestTo (lt : Nat → Nat → Bool) : Nat → Nat
  | 0 => 0
  | k + 1 => if lt (k + 1) (bestTo lt k) = true then k + 1 else bestTo lt k
theorem bestTo_le (lt : Nat → Nat → Bool) : ∀ k, bestTo lt k ≤ k
  | 0 => Nat.le_refl _
  | k + 1 => by
    have := bestTo_le lt k
    unfold bestTo
    split <;> omega

section
variable {prog : Program} {w : World} {A : Around} {E : Value → Shared → Prop}
theorem minName : (toString "min" ++ toString ".loop" : String) = "min.loop" := by decide

/-- the turns behind the first: vb the least of the first j + 1 -/
theorem minTurns {R : Result → Shared → Prop} {l jt S : Addr} {its : Array Value} {kw : List (Str × Value)} {lt : Nat → Nat → Bool} {s0 : Heap} (nh : A.in1.handled = none) (nlj : l ≠ jt) (nlS : l ≠ S) (nSj : S ≠ jt)
    (less : ∀ (s' : Shared), (∀ b o, b ≠ jt → b ≠ S → s0.get? b = some o → s'.heap.get? b = some o) → ∀ i j (hi : i < its.size) (hj : j < its.size), SeqAt.RcLt A.in1 s' its[i] its[j] (lt i j)) :
    ∀ (m j : Nat) (s : Shared) (vb : Value) (c : Nat), its.size - (j + 1) = m → j + 1 ≤ its.size → (∀ b o, b ≠ jt → b ≠ S → s0.get? b = some o → s.heap.get? b = some o) → s.heap.IsListIter jt l (j + 1) → s.heap.IsList l its → its[bestTo lt j]? = some vb →
      s.heap.get? S = some { cls := .type "list", dict := none, data := .seq #[vb, vb] c, slots := #[] } →
      (∀ v h' tk, its[bestTo lt (its.size - 1)]? = some v → (∀ b o, b ≠ jt → b ≠ S → s0.get? b = some o → h'.get? b = some o) → R (.ok (.ret v)) { s with heap := h', toks := tk }) →
      codeAny (model prog w) A (.builtin "min.loop" ⟨[.ref jt, .none, .ref S], kw⟩) R s := by
  intro m
  induction m with
  | zero =>
    intro j s vb c hm hj kp st hl hvb hS fin
    have ej : j + 1 = its.size := by omega
    refine codeAny_builtin F.entry_min_loop ?_
    rw [Around.under_plainId F.plain_min_loop _]
    show wpAny _ A.in1 (seqItems? (.ref S) >>= _) _ _ _
    refine wpAny_bind (wpAny_seqItems hS rfl ?_)
    show wpAny _ A.in1 (tryCatch (pyNext (.ref jt)) _ >>= _) _ _ _
    refine wpAny_bind (wpAny_tryCatch (wpAny_pyNext_list_end nh st hl (by simp; omega) fun h' eb => ?_))
    have hS' := eb S _ nSj hS
    show wpAny _ A.in1 (updateSeq S (fun _ => #[]) >>= _) _ _ _
    refine wpAny_bind (wpAny_updateSeq hS' rfl (wpAny_bind (wpAny_letGo (wpAny_pure ?_))))
    have ev : j = its.size - 1 := by omega
    exact fin vb _ s.toks (ev ▸ hvb) fun b o n1 n2 e => (Heap.get?_update_other _ _ (Ne.symm n2)).trans (eb b o n1 (kp b o n1 n2 e))
  | succ m ih =>
    intro j s vb c hm hj kp st hl hvb hS fin
    have lt1 : j + 1 < its.size := by omega
    refine codeAny_builtin F.entry_min_loop ?_
    rw [Around.under_plainId F.plain_min_loop _]
    show wpAny _ A.in1 (seqItems? (.ref S) >>= _) _ _ _
    refine wpAny_bind (wpAny_seqItems hS rfl ?_)
    show wpAny _ A.in1 (tryCatch (pyNext (.ref jt)) _ >>= _) _ _ _
    refine wpAny_bind (wpAny_tryCatch (wpAny_pyNext_list_item st hl (x := its[j + 1]) (by simp [lt1]) fun h' st' sb => ?_))
    have hS' : h'.get? S = _ := (sb.2 S nSj).trans hS
    have kp' : ∀ b o, b ≠ jt → b ≠ S → s0.get? b = some o → h'.get? b = some o := fun b o n1 n2 e => (sb.2 b n1).trans (kp b o n1 n2 e)
    have hl' : h'.IsList l its := hl.extBut sb.extBut nlj
    have lb := Nat.lt_of_le_of_lt (bestTo_le lt j) (Nat.lt_of_succ_lt lt1)
    have evb : its[bestTo lt j] = vb := by
      rw [Array.getElem?_eq_getElem lb] at hvb
      exact Option.some.inj hvb
    show wpAny _ A.in1 (tryCatch (holding [its[j + 1], its[j + 1]] (richCompare .Lt its[j + 1] vb >>= _)) _ >>= _) _ _ _
    have cmp := less { s with heap := h' } kp' (j + 1) (bestTo lt j) lt1 lb
    rw [evb] at cmp
    refine wpAny_bind (wpAny_tryCatch (wpAny_holding (wpAny_bind (cmp prog w _ _ ?_))))
    refine wpAny_bind (wpAny_holding (wpAny_truthy_bool (wpAny_bind (wpAny_letGo (wpAny_pure ?_)))))
    cases hb : lt (j + 1) (bestTo lt j) with
    | true =>
      simp only [if_true]
      refine wpAny_bind (wpAny_updateSeq hS' rfl (wpAny_bind (wpAny_letGo ?_)))
      rw [minName]
      have up : ∀ b o, b ≠ S → h'.get? b = some o → (h'.update S (Obj.mapSeq fun _ => #[its[j + 1], its[j + 1]])).get? b = some o := fun b o n e => (Heap.get?_update_other _ _ (Ne.symm n)).trans e
      exact wpAny_pure ⟨plainId_quiet F.plain_min_loop _, ih (j + 1) _ its[j + 1] _ (by omega) lt1 (fun b o n1 n2 e => up b o n2 (kp' b o n1 n2 e)) (st'.at fun o e => up jt o nSj.symm e) (hl'.at fun o e => up l o nlS e)
        (by simp only [bestTo, hb, if_true]; simp [lt1]) (Heap.get?_update_self _ hS' rfl) fin⟩
    | false =>
      simp only [Bool.false_eq_true, if_false]
      refine wpAny_bind (wpAny_letGo ?_)
      rw [minName]
      exact wpAny_pure ⟨plainId_quiet F.plain_min_loop _, ih (j + 1) _ vb c (by omega) lt1 kp' st' hl' (by simp only [bestTo, hb, Bool.false_eq_true, if_false]; exact hvb) hS' fin⟩

theorem bind_min0 : Builtin.Builtins.bindParams "min" ["key", "default"] 0 ⟨[], []⟩ = pure [none, none] := rfl
theorem bind_minD (d : Value) : Builtin.Builtins.bindParams "min" ["key", "default"] 0 ⟨[], [(Str.ofString "default", d)]⟩ = pure [none, some d] := by first | rfl | kernel_rfl
theorem args_minD (a d : Value) : argsOk "min" ⟨[a], [(Str.ofString "default", d)]⟩ := by unfold argsOk; kernel_rfl

/-- min(xs), or min(xs, default=d): kw the one or none -/
theorem minRun {s : Shared} {l : Addr} {its : Array Value} {kw : List (Str × Value)} {dn : Option Value} {lt : Nat → Nat → Bool} {Q : Value → Shared → Prop} (nh : A.handled = none) (hl : s.heap.IsList l its) (ha : argsOk "min" ⟨[.ref l], kw⟩)
    (hb : Builtin.Builtins.bindParams "min" ["key", "default"] 0 ⟨[], kw⟩ = pure [none, dn]) (hk : (dn.toList.map fun d => ((Str.ofString "default"), d)) = kw)
    (less : ∀ (s' : Shared), (∀ b o, s.heap.get? b = some o → s'.heap.get? b = some o) → ∀ i j (hi : i < its.size) (hj : j < its.size), SeqAt.RcLt A.in1 s' its[i] its[j] (lt i j))
    (none_ : its.size = 0 → ∃ d, kw = [(Str.ofString "default", d)] ∧ ∀ h' tk, (∀ b o, s.heap.get? b = some o → h'.get? b = some o) → Q d { s with heap := h', toks := tk })
    (some_ : ∀ v h' tk, 0 < its.size → its[bestTo lt (its.size - 1)]? = some v → (∀ b o, s.heap.get? b = some o → h'.get? b = some o) → Q v { s with heap := h', toks := tk }) :
    wpAny (model prog w) A (call (.builtin "min") [.ref l] kw) Q E s := by
  refine PyProof.Rows.kmk_tree F.kind_min F.plain_min F.entry_min ha ?_
  show wpAny _ A.in1 (Builtin.Builtins.bindParams "min" ["key", "default"] 0 ⟨[], kw⟩ >>= _) _ _ s
  refine wpAny_bind (wpAny_of_eq hb (wpAny_bind (wpAny_pure ?_)))
  refine wpAny_bind (wpAny_pyIter_list hl (wpAny_bind (wpAny_newList ?_ (Nat.zero_le _))))
  rw [minName]
  have hk2 : List.map (fun d => (("default" : Str), d)) dn.toList = kw := hk
  have ll : l < s.heap.objs.size := let ⟨_, e, _⟩ := id hl; Heap.lt_size e
  have zS : (s.heap.push { cls := .type "list_iterator", data := .fields #[.ref l, .int 0 0] }).objs.size = s.heap.objs.size + 1 := Heap.size_push ..
  have gJ := Heap.get?_push_size s.heap (o := { cls := .type "list_iterator", data := .fields #[.ref l, .int 0 0] }) rfl
  generalize hH1 : s.heap.push { cls := .type "list_iterator", data := .fields #[.ref l, .int 0 0] } = h1 at zS gJ
  have k1 : ∀ b o, s.heap.get? b = some o → h1.get? b = some o := fun b o e => by rw [← hH1]; exact Heap.get?_push_of_some _ e
  have gS := Heap.get?_push_size h1 (o := { cls := .type "list", data := .seq #[] }) rfl
  have k2 : ∀ b o, h1.get? b = some o → (h1.push { cls := .type "list", data := .seq #[] }).get? b = some o := fun b o e => Heap.get?_push_of_some _ e
  have j2 := k2 _ _ gJ
  show wpAny _ _ (again (.builtin "min.loop" ⟨[.ref s.heap.objs.size, .none, .ref h1.objs.size], _⟩)) _ _ _
  rw [show (List.map (fun d => (("default" : Str), d)) dn.toList) = kw from hk2]
  generalize hH2 : h1.push { cls := .type "list", data := .seq #[] } = h2 at gS k2 j2
  have hl2 : h2.IsList l its := hl.at fun o e => k2 _ _ (k1 _ _ e)
  have nlj : l ≠ s.heap.objs.size := Nat.ne_of_lt ll
  have nlS : l ≠ h1.objs.size := by rw [zS]; exact Nat.ne_of_lt (Nat.lt_succ_of_lt ll)
  have nSj : h1.objs.size ≠ s.heap.objs.size := by rw [zS]; exact Nat.succ_ne_self _
  have up0 : ∀ (h' : Heap), (∀ b o, b ≠ s.heap.objs.size → b ≠ h1.objs.size → s.heap.get? b = some o → h'.get? b = some o) → ∀ b o, s.heap.get? b = some o → h'.get? b = some o := fun h' k b o e =>
    k b o (Nat.ne_of_lt (Heap.lt_size e)) (by rw [zS]; exact Nat.ne_of_lt (Nat.lt_succ_of_lt (Heap.lt_size e))) e
  refine wpAny_pure ⟨plainId_quiet F.plain_min_loop _, ?_⟩
  refine codeAny_builtin F.entry_min_loop ?_
  rw [Around.under_plainId F.plain_min_loop _]
  show wpAny _ A.in1 (seqItems? (.ref h1.objs.size) >>= _) _ _ _
  refine wpAny_bind (wpAny_seqItems gS rfl ?_)
  show wpAny _ A.in1 (tryCatch (pyNext (.ref s.heap.objs.size)) _ >>= _) _ _ _
  by_cases hz : its.size = 0
  · obtain ⟨d, ekw, fin⟩ := none_ hz
    refine wpAny_bind (wpAny_tryCatch (wpAny_pyNext_list_end (i := 0) nh ⟨_, j2, rfl, rfl⟩ hl2 (Array.getElem?_eq_none (by omega)) fun h' eb => ?_))
    rw [ekw]
    show wpAny _ _ (rule _ >>= fun _ => ret d) _ _ _
    refine wpAny_bind (wpAny_rule (wpAny_pure ?_))
    exact fin h' s.toks fun b o e => eb b o (Nat.ne_of_lt (Heap.lt_size e)) (k2 _ _ (k1 _ _ e))
  · have pz : 0 < its.size := Nat.pos_of_ne_zero hz
    refine wpAny_bind (wpAny_tryCatch (wpAny_pyNext_list_item (i := 0) ⟨_, j2, rfl, rfl⟩ hl2 (x := its[0]) (by simp [pz]) fun h' st' sb => ?_))
    have gS' : h'.get? h1.objs.size = _ := (sb.2 _ nSj).trans gS
    show wpAny _ A.in1 (updateSeq h1.objs.size (fun _ => #[its[0], its[0]]) >>= _) _ _ _
    refine wpAny_bind (wpAny_updateSeq gS' rfl ?_)
    rw [minName]
    have up : ∀ b o, b ≠ h1.objs.size → h'.get? b = some o → (h'.update h1.objs.size (Obj.mapSeq fun _ => #[its[0], its[0]])).get? b = some o := fun b o n e => (Heap.get?_update_other _ _ (Ne.symm n)).trans e
    have kp : ∀ b o, b ≠ s.heap.objs.size → b ≠ h1.objs.size → s.heap.get? b = some o → (h'.update h1.objs.size (Obj.mapSeq fun _ => #[its[0], its[0]])).get? b = some o := fun b o n1 n2 e =>
      up b o n2 ((sb.2 b n1).trans (k2 _ _ (k1 _ _ e)))
    refine wpAny_pure ⟨plainId_quiet F.plain_min_loop _, minTurns (lt := lt) (s0 := s.heap) nh nlj nlS nSj (fun s' k => less s' (up0 _ k)) _ 0 _ its[0] _ rfl pz kp (st'.at fun o e => up _ o nSj.symm e)
      ((hl2.extBut sb.extBut nlj).at fun o e => up _ o nlS e) (by simp [bestTo, pz]) (Heap.get?_update_self _ gS' rfl) fun v h3 tk hv k3 => ?_⟩
    exact some_ v h3 tk pz hv (up0 _ k3)
end

/-! ### as rules: the list's items are data that are alike -/
/-- what min gives: an item that none is less than -/
def MinOf (ds : List PyData) (k : Nat) : Prop := k < ds.length ∧ ∀ j, j < ds.length → PySem.W.dataLt (ds.getD j .none) (ds.getD k .none) = false
/-- the less-than of alike data is what a min needs -/
structure LessOk (ds : List PyData) : Prop where
  alike : ∀ x ∈ ds, ∀ y ∈ ds, PySem.W.alike x y = true
  some_ : ∀ x ∈ ds, x ≠ .none
  deep : ∀ x ∈ ds, x.depth ≤ 8
  /-- not less is passed on -/
  trans : ∀ x ∈ ds, ∀ y ∈ ds, ∀ z ∈ ds, PySem.W.dataLt x y = false → PySem.W.dataLt y z = false → PySem.W.dataLt x z = false
  refl : ∀ x ∈ ds, PySem.W.dataLt x x = false
  tot : ∀ x ∈ ds, ∀ y ∈ ds, PySem.W.dataLt x y = true → PySem.W.dataLt y x = false
theorem getD_mem {ds : List PyData} {i : Nat} (h : i < ds.length) : ds.getD i .none ∈ ds := by
  rw [List.getD_eq_getElem?_getD, List.getElem?_eq_getElem h]
  exact List.getElem_mem h
theorem bestTo_min {ds : List PyData} (L : LessOk ds) : ∀ (k : Nat), k < ds.length → ∀ j, j ≤ k → PySem.W.dataLt (ds.getD j .none) (ds.getD (bestTo (fun i j => PySem.W.dataLt (ds.getD i .none) (ds.getD j .none)) k) .none) = false
  | 0, hk, j, hj => by
    have : j = 0 := by omega
    subst this
    exact L.refl _ (getD_mem hk)
  | k + 1, hk, j, hj => by
    have hk' : k < ds.length := by omega
    have ih := bestTo_min L k hk'
    have lb := Nat.lt_of_le_of_lt (bestTo_le (fun i j => PySem.W.dataLt (ds.getD i .none) (ds.getD j .none)) k) hk'
    unfold bestTo
    generalize hg : bestTo (fun i j => PySem.W.dataLt (ds.getD i .none) (ds.getD j .none)) k = bb at ih lb
    by_cases hc : PySem.W.dataLt (ds.getD (k + 1) .none) (ds.getD bb .none) = true
    · rw [if_pos hc]
      by_cases hjk : j = k + 1
      · subst hjk; exact L.refl _ (getD_mem hk)
      · exact L.trans _ (getD_mem (by omega)) _ (getD_mem lb) _ (getD_mem hk) (ih j (by omega)) (L.tot _ (getD_mem hk) _ (getD_mem lb) hc)
    · rw [if_neg hc]
      by_cases hjk : j = k + 1
      · subst hjk; simpa using hc
      · exact ih j (by omega)

theorem dpAll_len {K : PySem.W.Frag} {H : Hp} : ∀ {vs : List V} {ds : List PyData}, DpAll K H vs ds → vs.length = ds.length
  | _, _, .nil => rfl
  | _, _, .cons _ t => congrArg Nat.succ (dpAll_len t)
theorem dpAll_at {K : PySem.W.Frag} {H : Hp} : ∀ {vs : List V} {ds : List PyData} {i : Nat} {v : V}, DpAll K H vs ds → vs[i]? = some v → ∃ d, ds[i]? = some d ∧ Dp K H v d
  | _, _, _, _, .nil, e => by simp at e
  | _, _, 0, _, .cons r _, e => by simp at e; subst e; exact ⟨_, rfl, r⟩
  | _, _, i + 1, _, .cons _ t, e => by
    obtain ⟨d, h1, h2⟩ := dpAll_at (i := i) t (by simpa using e)
    exact ⟨d, by simpa using h1, h2⟩

theorem min_less {X : Cx} {pins : List (Addr × Obj)} {σ : L2.St} {H : Hp} {s : Shared} {k : Nat} {vs : List V} {us : List Value} {ds : List PyData} (hr : Room k X.A) (I : Inv X pins σ H s) (r : Vals vs us) (hd : DpAll X.K H vs ds) (L : LessOk ds) :
    ∀ (s' : Shared), (∀ b o, s.heap.get? b = some o → s'.heap.get? b = some o) → ∀ i j (hi : i < us.toArray.size) (hj : j < us.toArray.size), SeqAt.RcLt X.A.in1 s' us.toArray[i] us.toArray[j] (PySem.W.dataLt (ds.getD i .none) (ds.getD j .none)) := by
  intro s' kp i j hi hj
  have l1 := r.length
  have l2 := dpAll_len hd
  have I' : Inv X pins σ H { s with heap := s'.heap, toks := s.toks } := I.kept kp
  have reads : ∀ i (hi : i < us.toArray.size), ∃ d as, ds[i]? = some d ∧ Reads s'.heap us.toArray[i] d as := fun i hi => by
    have hi' : i < vs.length := by simp at hi; omega
    obtain ⟨d, e1, e2⟩ := dpAll_at hd (List.getElem?_eq_getElem hi')
    obtain ⟨u, e3, e4⟩ := r.get (List.getElem?_eq_getElem hi')
    obtain ⟨as, e5⟩ := Dp.reads I' d _ _ e2 e4
    refine ⟨d, as, e1, ?_⟩
    have : us.toArray[i] = u := by
      have h3 : i < us.length := by simpa using hi
      rw [List.getElem?_eq_getElem h3] at e3
      simpa using Option.some.inj e3
    rw [this]
    exact e5
  obtain ⟨d1, as1, e1, r1⟩ := reads i hi
  obtain ⟨d2, as2, e2, r2⟩ := reads j hj
  have m1 := List.mem_of_getElem? e1
  have m2 := List.mem_of_getElem? e2
  have g1 : ds.getD i .none = d1 := by simp [e1]
  have g2 : ds.getD j .none = d2 := by simp [e2]
  rw [g1, g2]
  exact PySem.W.rcLt_alike d1 d2 _ _ _ _ _ _ r1 r2 (L.alike _ m1 _ m2) (L.some_ _ m1) (by
    have := L.deep _ m1
    have := hr.units
    show X.A.units + 1 + min d1.depth d2.depth < cLine
    omega)

def rMinD (K : PySem.W.Frag) : List V → Hp → VK → Prop := fun xs H Q => ∃ l vs ds, xs = [.ref l] ∧ SqL K H l vs ∧ DpAll K H vs ds ∧ LessOk ds ∧ vs ≠ [] ∧ ∀ k v, MinOf ds k → vs[k]? = some v → Q v H
theorem min_at {vs : List V} {us : List Value} {ds : List PyData} {K : PySem.W.Frag} {H : Hp} {v : Value} (r : Vals vs us) (hd : DpAll K H vs ds) (L : LessOk ds) (pz : 0 < us.toArray.size)
    (hv : us.toArray[bestTo (fun i j => PySem.W.dataLt (ds.getD i .none) (ds.getD j .none)) (us.toArray.size - 1)]? = some v) : ∃ k x, MinOf ds k ∧ vs[k]? = some x ∧ RelV x v := by
  have l1 := r.length
  have l2 := dpAll_len hd
  have pz' : 0 < us.length := by simpa using pz
  have hlt : us.toArray.size - 1 < ds.length := by simp; omega
  have m := bestTo_min L _ hlt
  have lb := Nat.lt_of_le_of_lt (bestTo_le (fun i j => PySem.W.dataLt (ds.getD i .none) (ds.getD j .none)) (us.toArray.size - 1)) hlt
  have hle : us.toArray.size - 1 + 1 = ds.length := by simp; omega
  generalize bestTo (fun i j => PySem.W.dataLt (ds.getD i .none) (ds.getD j .none)) (us.toArray.size - 1) = bi at hv m lb
  have hbi : bi < vs.length := by omega
  have mo : MinOf ds bi := ⟨lb, fun j hj => m j (by omega)⟩
  refine ⟨bi, vs[bi], mo, List.getElem?_eq_getElem hbi, ?_⟩
  obtain ⟨u, e3, e4⟩ := r.get (List.getElem?_eq_getElem hbi)
  have : u = v := by
    have e3' : us.toArray[bi]? = some u := by rw [List.getElem?_toArray]; exact e3
    rw [hv] at e3'
    exact (Option.some.inj e3').symm
  subst this
  exact e4
theorem call_minD {X : Cx} {k : Nat} (hr : Room k X.A) : CallR X (.builtin "min") (rMinD X.K) := by
  intro pins s σ H xs us Q I r h
  obtain ⟨l, vs, ds, rfl, hl, hd, L, ne, q⟩ := h
  obtain rfl := Vals.ref1 r
  obtain ⟨its, rv, p, _⟩ := I.list hl
  have l1 := rv.length
  have np : 0 < vs.length := List.length_pos_iff.mpr ne
  refine minRun (kw := []) (dn := none) hr.hd p.isList (F.args_min1 _) bind_min0 rfl (min_less hr I rv hd L) (fun z => ?_) fun v h' tk pz hv kp => ?_
  · exact absurd (by simp at z; rw [l1, z]; rfl : vs.length = 0) (Nat.ne_of_gt np)
  · obtain ⟨j, x, m, e, rx⟩ := min_at rv hd L pz hv
    exact ⟨x, H, I.kept (t' := tk) kp, rx, q j x m e⟩
def rMinDef (K : PySem.W.Frag) : List V → List V → Hp → VK → Prop := fun xs zs H Q => ∃ l vs ds d, xs = [.ref l] ∧ zs = [d] ∧ SqL K H l vs ∧ DpAll K H vs ds ∧ LessOk ds ∧ (vs = [] → Q d H) ∧ ∀ k v, MinOf ds k → vs[k]? = some v → Q v H
theorem call_minDef {X : Cx} {k : Nat} (hr : Room k X.A) : CallRK X (.builtin "min") [Str.ofString "default"] (rMinDef X.K) := by
  intro pins s σ H xs zs us ws Q I r rz h
  obtain ⟨l, vs, ds, d, rfl, rfl, hl, hd, L, q0, q⟩ := h
  obtain rfl := Vals.ref1 r
  obtain ⟨dv, rfl, rd⟩ := Vals.one rz
  obtain ⟨its, rv, p, _⟩ := I.list hl
  have l1 := rv.length
  refine minRun (kw := [(Str.ofString "default", dv)]) (dn := some dv) hr.hd p.isList (args_minD _ _) (bind_minD _) rfl (min_less hr I rv hd L) (fun z => ⟨dv, rfl, fun h' tk kp => ?_⟩) fun v h' tk pz hv kp => ?_
  · have : vs = [] := by
      have : its = [] := by simpa using z
      subst this
      exact List.length_eq_zero_iff.mp (by simpa using l1)
    exact ⟨d, H, I.kept (t' := tk) kp, rd, q0 this⟩
  · obtain ⟨j, x, m, e, rx⟩ := min_at rv hd L pz hv
    exact ⟨x, H, I.kept (t' := tk) kp, rx, q j x m e⟩
end Z

/-! # ZLib -/
set_option Elab.async false
set_option linter.all false
set_option maxRecDepth 100000
set_option maxHeartbeats 2000000
/-! Readings over plain data: what stands in the slots is told as data, the heap is out of sight. -/
namespace Z
open PySem PySem.Spec PyProof.Rows L2

/-- the text's classes, the draws' record -/
structure Pm where
  K : PySem.W.Frag
  C : Addr
  fd : Option (Addr × Addr × List Int)
def isF (P : Pm) (b : Addr) : Prop := ∃ c ns, P.fd = some (b, c, ns)
def feedO (c : Addr) (s o t : Int) : HO := .dK [(.inr "cells", .ref c), (.inr "spot", .int s), (.inr "over", .int o), (.inr "turn", .int t)]
def FeedAt (P : Pm) (H : Hp) : Prop := ∀ a c ns, P.fd = some (a, c, ns) → (∃ s o t, (0 ≤ s ∧ 0 ≤ t) ∧ H a = some (feedO c s o t)) ∧ H c = some (.lst (ns.map V.int))
structure Ok (P : Pm) (G H : Hp) : Prop where
  sub : Same G H
  feed : FeedAt P H
  nf : ∀ a, isF P a → G a = none
structure Grow (P : Pm) (G H G' H' : Hp) : Prop where
  kp : ∀ b o, H b = some o → ¬ isF P b → H' b = some o
  eqG : ∀ b, H b ≠ none → G' b = G b ∨ ∃ xs, H b = some (.tup xs) ∧ G' b = H b
  ok : Ok P G' H'
theorem Ok.fsome {P : Pm} {G H : Hp} (k : Ok P G H) {a : Addr} (h : isF P a) : ∃ c s o t, H a = some (feedO c s o t) := by
  obtain ⟨c, ns, e⟩ := h
  obtain ⟨⟨s, o, t, _, q⟩, _⟩ := k.feed _ _ _ e
  exact ⟨c, s, o, t, q⟩
theorem Grow.dom {P : Pm} {G H G' H' : Hp} (g : Grow P G H G' H') {b : Addr} (h : H b ≠ none) : H' b ≠ none := by
  by_cases f : isF P b
  · obtain ⟨c, s, o, t, q⟩ := g.ok.fsome f
    rw [q]; exact fun z => nomatch z
  · cases e : H b with
    | none => exact absurd e h
    | some o => rw [g.kp b o e f]; exact fun z => nomatch z
theorem Grow.refl {P : Pm} {G H : Hp} (k : Ok P G H) : Grow P G H G H := ⟨fun _ _ e _ => e, fun _ _ => .inl rfl, k⟩
theorem Grow.trans {P : Pm} {G H G1 H1 G2 H2 : Hp} (a : Grow P G H G1 H1) (b : Grow P G1 H1 G2 H2) : Grow P G H G2 H2 := by
  refine ⟨fun p o e f => b.kp p o (a.kp p o e f) f, fun p e => ?_, b.ok⟩
  rcases b.eqG p (a.dom e) with e2 | ⟨xs, h2, e2⟩
  · rcases a.eqG p e with e1 | ⟨xs, h1, e1⟩
    · exact .inl (e2.trans e1)
    · exact .inr ⟨xs, h1, e2.trans e1⟩
  · by_cases f : isF P p
    · obtain ⟨c, s, o, t, q⟩ := a.ok.fsome f
      rw [q] at h2; exact nomatch h2
    · cases e0 : H p with
      | none => exact absurd e0 e
      | some o =>
        have h1 := a.kp p o e0 f
        rw [h2] at h1
        refine .inr ⟨xs, ?_, ?_⟩
        · rw [← h1]
        · rw [e2, h2, h1]
theorem Grow.same {P : Pm} {G H G' H' : Hp} (k : Ok P G H) (g : Grow P G H G' H') : Same G G' := by
  intro b o e
  have h := k.sub b o e
  rcases g.eqG b (by rw [h]; exact fun z => nomatch z) with e1 | ⟨xs, _, e1⟩
  · exact e1.trans e
  · exact e1.trans h
/-- a new object that is seen -/
theorem Ok.new {P : Pm} {G H : Hp} (k : Ok P G H) {p : Addr} {o : HO} (h : H p = none) : Grow P G H (upd G p o) (upd H p o) := by
  have np : ¬ isF P p := fun f => by obtain ⟨c, s, o, t, q⟩ := k.fsome f; rw [h] at q; exact nomatch q
  have kp : ∀ b u, H b = some u → upd H p o b = some u := fun b u e => by rw [upd_ne (ne_of_none e h)]; exact e
  refine ⟨fun b u e _ => kp b u e, fun b e => .inl (upd_ne (fun z => e (z ▸ h))), ⟨?_, ?_, ?_⟩⟩
  · intro b u e
    by_cases z : b = p
    · rw [z, upd_same] at e ⊢; exact e
    · rw [upd_ne z] at e; exact kp b u (k.sub b u e)
  · intro a c ns e
    obtain ⟨⟨s, q, t, s0, q1⟩, q2⟩ := k.feed a c ns e
    exact ⟨⟨s, q, t, s0, kp _ _ q1⟩, kp _ _ q2⟩
  · intro a f
    rw [upd_ne (show a ≠ p from fun z => np (z ▸ f))]
    exact k.nf a f
/-- a new object that isn't seen -/
theorem Ok.hid {P : Pm} {G H : Hp} (k : Ok P G H) {p : Addr} {o : HO} (h : H p = none) : Grow P G H G (upd H p o) := by
  have kp : ∀ b u, H b = some u → upd H p o b = some u := fun b u e => by rw [upd_ne (ne_of_none e h)]; exact e
  refine ⟨fun b u e _ => kp b u e, fun b e => .inl rfl, ⟨fun b u e => kp b u (k.sub b u e), ?_, k.nf⟩⟩
  intro a c ns e
  obtain ⟨⟨s, q, t, s0, q1⟩, q2⟩ := k.feed a c ns e
  exact ⟨⟨s, q, t, s0, kp _ _ q1⟩, kp _ _ q2⟩

/-! ### data -/
inductive Dv where
  | d (x : PyData)
  | dk (lk : Bool) (kvs : List (Key × PyData))
  | dt (lk : Bool) (kvs : List (List Key × PyData))
  | dlk (kvs : List (Key × PyData))
  | dlt (kvs : List (List Key × PyData))
  | ro (n r : PyData) (p : List PyData)
  | pt (ds : List PyData)
  | ty (s : String)
  | cl
  | fd
mutual
inductive Dq (H : Hp) : V → PyData → Prop where
  | non : Dq H .non .none
  | bl (b : Bool) : Dq H (.bl b) (.bool b)
  | int (i : Int) : Dq H (.int i) (.int i)
  | str (x : Str) : Dq H (.str x) (.str x)
  | lst {a : Addr} {xs : List V} {ds : List PyData} : H a = some (.lst xs) → DqA H xs ds → Dq H (.ref a) (.list ds)
  | tup {a : Addr} {xs : List V} {ds : List PyData} : H a = some (.tup xs) → DqA H xs ds → Dq H (.ref a) (.tuple ds)
inductive DqA (H : Hp) : List V → List PyData → Prop where
  | nil : DqA H [] []
  | cons {v : V} {vs : List V} {d : PyData} {ds : List PyData} : Dq H v d → DqA H vs ds → DqA H (v :: vs) (d :: ds)
end
mutual
theorem Dq.dp {K : PySem.W.Frag} {H : Hp} : ∀ {v : V} {d : PyData}, Dq H v d → Dp K H v d
  | _, _, .non => .non
  | _, _, .bl b => .bl b
  | _, _, .int i => .int i
  | _, _, .str x => .str x
  | _, _, .lst h t => .lst (.inl (.inl h)) t.dp
  | _, _, .tup h t => .tup (.inl (.inl h)) t.dp
theorem DqA.dp {K : PySem.W.Frag} {H : Hp} : ∀ {vs : List V} {ds : List PyData}, DqA H vs ds → DpAll K H vs ds
  | _, _, .nil => .nil
  | _, _, .cons h t => .cons h.dp t.dp
end
inductive KvA (H : Hp) {κ : Type} : List (κ × V) → List (κ × PyData) → Prop where
  | nil : KvA H [] []
  | cons {k : κ} {v : V} {x : PyData} {vs : List (κ × V)} {xs : List (κ × PyData)} : Dq H v x → KvA H vs xs → KvA H ((k, v) :: vs) ((k, x) :: xs)
/-- the dict stands there; lk: perhaps behind a lock -/
def DAt (lk : Bool) (H : Hp) (a : Addr) (u : HO) : Prop := if lk = true then Rd H a u else H a = some u
theorem DAt.rd {lk : Bool} {H : Hp} {a : Addr} {u : HO} (h : DAt lk H a u) : Rd H a u := by
  cases lk with
  | true => exact h
  | false => exact .inl h
/-- a tuple without a dict of its own -/
def PtAt (H : Hp) (v : V) (ds : List PyData) : Prop := ∃ a xs, ∃ o : Obj, v = .ref a ∧ o.dict = none ∧ o.cls = .type "tuple" ∧ H a = some (.frz o (.tup xs)) ∧ DqA H xs ds
def Rv (P : Pm) (H : Hp) (v : V) : Dv → Prop
  | .d x => Dq H v x
  | .dk lk kvs => ∃ a vs, v = .ref a ∧ DAt lk H a (.dK vs) ∧ KvA H vs kvs
  | .dt lk kvs => ∃ a vs, v = .ref a ∧ DAt lk H a (.dT vs) ∧ KvA H vs kvs
  | .dlk kvs => ∃ a vs od, v = .ref a ∧ H a = some (.frz od (.dK vs)) ∧ KvA H vs kvs
  | .dlt kvs => ∃ a vs od, v = .ref a ∧ H a = some (.frz od (.dT vs)) ∧ KvA H vs kvs
  | .ty s => v = .ty s
  | .cl => v = .ref P.C
  | .ro n r p => ∃ a dx vn vr vp, v = .ref a ∧ H a = some (.ins P.C dx [("held_net", vn), ("held_root", vr), ("held_pairs", vp)]) ∧ Dq H vn n ∧ Dq H vr r ∧ PtAt H vp p
  | .pt ds => PtAt H v ds
  | .fd => ∃ a, v = .ref a ∧ isF P a
def RvL (P : Pm) (H : Hp) : List V → List Dv → Prop
  | [], [] => True
  | v :: vs, x :: xs => Rv P H v x ∧ RvL P H vs xs
  | _, _ => False

/-- what is read stands as it was, perhaps behind a lock -/
def Les (H H' : Hp) : Prop := ∀ b o, H b = some o → H' b = some o ∨ ∃ od, H' b = some (.frz od o)
theorem Same.les {H H' : Hp} (s : Same H H') : Les H H' := fun b o e => .inl (s b o e)
def Plain : HO → Prop
  | .lst _ => True
  | .tup _ => True
  | .dK _ => True
  | .dT _ => True
  | _ => False
theorem sqL_up {K : PySem.W.Frag} {H H' : Hp} (s : Same H H') {a : Addr} {xs : List V} (h : SqL K H a xs) : SqL K H' a xs := s.seq h
theorem sqT_up {K : PySem.W.Frag} {H H' : Hp} (s : Same H H') {a : Addr} {xs : List V} (h : SqT K H a xs) : SqT K H' a xs := by
  rcases h with (h | ⟨o, h⟩) | h
  · exact .inl (.inl (s _ _ h))
  · exact .inl (.inr ⟨o, s _ _ h⟩)
  · exact .inr h
mutual
theorem dp_up {H H' : Hp} (s : Same H H') : ∀ {v : V} {d : PyData}, Dq H v d → Dq H' v d
  | _, _, .non => .non
  | _, _, .bl b => .bl b
  | _, _, .int i => .int i
  | _, _, .str x => .str x
  | _, _, .lst h t => .lst (s _ _ h) (dpA_up s t)
  | _, _, .tup h t => .tup (s _ _ h) (dpA_up s t)
theorem dpA_up {H H' : Hp} (s : Same H H') : ∀ {vs : List V} {ds : List PyData}, DqA H vs ds → DqA H' vs ds
  | _, _, .nil => .nil
  | _, _, .cons h t => .cons (dp_up s h) (dpA_up s t)
end
theorem kvA_up {H H' : Hp} (s : Same H H') {κ : Type} {vs : List (κ × V)} {xs : List (κ × PyData)} (h : KvA H vs xs) : KvA H' vs xs := by
  induction h with
  | nil => exact .nil
  | cons d _ ih => exact .cons (dp_up s d) ih
theorem rd_up {H H' : Hp} (s : Same H H') {a : Addr} {u : HO} (h : Rd H a u) : Rd H' a u := by
  rcases h with h | ⟨o, h⟩
  · exact .inl (s _ _ h)
  · exact .inr ⟨o, s _ _ h⟩
theorem dAt_up {H H' : Hp} (s : Same H H') {lk : Bool} {a : Addr} {u : HO} (h : DAt lk H a u) : DAt lk H' a u := by
  cases lk with
  | true => exact rd_up s h
  | false => exact s _ _ h
theorem ptAt_up {H H' : Hp} (s : Same H H') {v : V} {ds : List PyData} (h : PtAt H v ds) : PtAt H' v ds := let ⟨a, xs, o, e, h1, h0, h2, h3⟩ := h; ⟨a, xs, o, e, h1, h0, s _ _ h2, dpA_up s h3⟩
theorem rv_up {P : Pm} {H H' : Hp} (s : Same H H') : ∀ {v : V} {x : Dv}, Rv P H v x → Rv P H' v x
  | _, .d _, h => dp_up s h
  | _, .dk _ _, ⟨a, vs, e, h, k⟩ => ⟨a, vs, e, dAt_up s h, kvA_up s k⟩
  | _, .dt _ _, ⟨a, vs, e, h, k⟩ => ⟨a, vs, e, dAt_up s h, kvA_up s k⟩
  | _, .dlk _, ⟨a, vs, od, e, h, k⟩ => ⟨a, vs, od, e, s _ _ h, kvA_up s k⟩
  | _, .dlt _, ⟨a, vs, od, e, h, k⟩ => ⟨a, vs, od, e, s _ _ h, kvA_up s k⟩
  | _, .ty _, h => h
  | _, .cl, h => h
  | _, .ro _ _ _, ⟨a, dx, x, y, z, e, h, k1, k2, k3⟩ => ⟨a, dx, x, y, z, e, s _ _ h, dp_up s k1, dp_up s k2, ptAt_up s k3⟩
  | _, .pt _, h => ptAt_up s h
  | _, .fd, h => h
theorem rvL_up {P : Pm} {H H' : Hp} (s : Same H H') : ∀ {vs : List V} {xs : List Dv}, RvL P H vs xs → RvL P H' vs xs
  | [], [], _ => True.intro
  | _ :: _, _ :: _, ⟨a, b⟩ => ⟨rv_up s a, rvL_up s b⟩
theorem rvL_len {P : Pm} {H : Hp} : ∀ {vs : List V} {xs : List Dv}, RvL P H vs xs → vs.length = xs.length
  | [], [], _ => rfl
  | _ :: _, _ :: _, ⟨_, b⟩ => congrArg Nat.succ (rvL_len b)
theorem rvL_app {P : Pm} {H : Hp} : ∀ {vs ws : List V} {xs ys : List Dv}, RvL P H vs xs → RvL P H ws ys → RvL P H (vs ++ ws) (xs ++ ys)
  | [], _, [], _, _, h => h
  | _ :: _, _, _ :: _, _, ⟨a, b⟩, h => ⟨a, rvL_app b h⟩
theorem dpA_app {H : Hp} : ∀ {vs ws : List V} {xs ys : List PyData}, DqA H vs xs → DqA H ws ys → DqA H (vs ++ ws) (xs ++ ys)
  | _, _, _, _, .nil, h => h
  | _, _, _, _, .cons a b, h => .cons a (dpA_app b h)
theorem dpA_len {H : Hp} : ∀ {vs : List V} {ds : List PyData}, DqA H vs ds → vs.length = ds.length
  | _, _, .nil => rfl
  | _, _, .cons _ t => congrArg Nat.succ (dpA_len t)
theorem dpA_at {H : Hp} : ∀ {vs : List V} {ds : List PyData} {i : Nat} {d : PyData}, DqA H vs ds → ds[i]? = some d → ∃ v, vs[i]? = some v ∧ Dq H v d
  | _, _, _, _, .nil, e => by simp at e
  | _, _, 0, _, .cons h _, e => by simp at e; exact ⟨_, rfl, e ▸ h⟩
  | _, _, i + 1, _, .cons _ t, e => by
    obtain ⟨v, h1, h2⟩ := dpA_at (i := i) t (by simpa using e)
    exact ⟨v, by simpa using h1, h2⟩
theorem dpA_drop {H : Hp} : ∀ {vs : List V} {ds : List PyData} (i : Nat), DqA H vs ds → DqA H (vs.drop i) (ds.drop i)
  | _, _, 0, h => by simpa using h
  | _, _, i + 1, .nil => by simpa using DqA.nil
  | _, _, i + 1, .cons _ t => by simpa using dpA_drop i t
theorem dpA_take {H : Hp} : ∀ {vs : List V} {ds : List PyData} (i : Nat), DqA H vs ds → DqA H (vs.take i) (ds.take i)
  | _, _, 0, h => by simpa using DqA.nil
  | _, _, i + 1, .nil => by simpa using DqA.nil
  | _, _, i + 1, .cons h t => by simpa using DqA.cons h (dpA_take i t)

/-! ### slots -/
inductive En where
  | un
  | fz (x : Dv)
  | ol (ds : List PyData)
  | od (kvs : List (Key × PyData))
def SlE (P : Pm) (H0 G H : Hp) : En → Option V → Prop
  | .un, _ => True
  | .fz x, s => ∃ v, s = some v ∧ Rv P G v x
  | .ol ds, s => ∃ p vs, s = some (.ref p) ∧ H0 p = none ∧ G p = none ∧ H p = some (.lst vs) ∧ DqA G vs ds
  | .od kvs, s => ∃ p vs, s = some (.ref p) ∧ H0 p = none ∧ G p = none ∧ H p = some (.dK vs) ∧ KvA G vs kvs
structure Rel (P : Pm) (H0 G H : Hp) (ρ : List En) (σ : L2.St) : Prop where
  len : ρ.length = σ.length
  at_ : ∀ (i : Nat) (e : En), ρ[i]? = some e → ∃ s : Option V, σ[i]? = some s ∧ SlE P H0 G H e s
  dom : ∀ b, H0 b ≠ none → H b ≠ none
  nof : ∀ a, isF P a → H0 a ≠ none
theorem Grow.hid {P : Pm} {G H G' H' : Hp} (g : Grow P G H G' H') {p : Addr} {o : HO} (h1 : G p = none) (h2 : H p = some o) (n : ∀ xs, o ≠ .tup xs) : G' p = none := by
  rcases g.eqG p (by rw [h2]; exact fun z => nomatch z) with e | ⟨xs, e, _⟩
  · rw [e, h1]
  · rw [h2] at e; exact absurd (Option.some.inj e) (n xs)
theorem SlE.up {P : Pm} {H0 G H G' H' : Hp} (k : Ok P G H) (dom : ∀ b, H0 b ≠ none → H b ≠ none) (nof : ∀ a, isF P a → H0 a ≠ none) (g : Grow P G H G' H') : ∀ {e : En} {s : Option V}, SlE P H0 G H e s → SlE P H0 G' H' e s
  | .un, _, _ => True.intro
  | .fz _, _, ⟨v, e, h⟩ => ⟨v, e, rv_up (g.same k) h⟩
  | .ol _, _, ⟨p, vs, e, h0, h1, h2, h3⟩ => ⟨p, vs, e, h0, g.hid h1 h2 (fun _ z => nomatch z), g.kp _ _ h2 (fun f => nof _ f h0), dpA_up (g.same k) h3⟩
  | .od _, _, ⟨p, vs, e, h0, h1, h2, h3⟩ => ⟨p, vs, e, h0, g.hid h1 h2 (fun _ z => nomatch z), g.kp _ _ h2 (fun f => nof _ f h0), kvA_up (g.same k) h3⟩
theorem Rel.up {P : Pm} {H0 G H G' H' : Hp} {ρ : List En} {σ : L2.St} (r : Rel P H0 G H ρ σ) (k : Ok P G H) (g : Grow P G H G' H') : Rel P H0 G' H' ρ σ :=
  ⟨r.len, fun i e h => let ⟨s, h1, h2⟩ := r.at_ i e h; ⟨s, h1, h2.up k r.dom r.nof g⟩, fun b h => g.dom (r.dom b h), r.nof⟩
theorem Rel.set {P : Pm} {H0 G H : Hp} {ρ : List En} {σ : L2.St} (r : Rel P H0 G H ρ σ) (i : Nat) {e : En} {s : Option V} (h : SlE P H0 G H e s) : Rel P H0 G H (ρ.set i e) (σ.set i s) := by
  refine ⟨by rw [List.length_set, List.length_set, r.len], fun j e' h' => ?_, r.dom, r.nof⟩
  by_cases z : i = j
  · subst z
    have lt : i < ρ.length := by
      have := (List.getElem?_eq_some_iff.mp h').1
      rwa [List.length_set] at this
    rw [List.getElem?_set_self (by exact lt)] at h'
    cases h'
    exact ⟨s, List.getElem?_set_self (by rw [← r.len]; exact lt), h⟩
  · rw [List.getElem?_set_ne z] at h'
    rw [List.getElem?_set_ne z]
    exact r.at_ j e' h'
/-- all that is one's own is seen by all -/
def frz : En → En
  | .ol ds => .fz (.d (.list ds))
  | .od kvs => .fz (.dk false kvs)
  | e => e
def frzA (ρ : List En) : List En := ρ.map frz
open Classical in
theorem Rel.frz {P : Pm} {G0 H0 G H : Hp} {ρ : List En} {σ : L2.St} (r : Rel P H0 G H ρ σ) (g : Grow P G0 H0 G H) : ∃ G', Grow P G0 H0 G' H ∧ Same G G' ∧ Rel P H0 G' H (frzA ρ) σ := by
  let G' : Hp := fun b => if H0 b = none then H b else G b
  have s1 : Same G G' := fun b o e => by
    show (if H0 b = none then H b else G b) = some o
    split
    · exact g.ok.sub b o e
    · exact e
  have s2 : Same G' H := fun b o e => by
    have e : (if H0 b = none then H b else G b) = some o := e
    split at e
    · exact e
    · exact g.ok.sub b o e
  refine ⟨G', ⟨g.kp, fun b h => ?_, ⟨s2, g.ok.feed, fun a f => ?_⟩⟩, s1, ⟨?_, fun i e h => ?_, r.dom, r.nof⟩⟩
  · have e : G' b = G b := if_neg h
    rw [e]
    exact g.eqG b h
  · have e : G' a = G a := if_neg (r.nof a f)
    rw [e]
    exact g.ok.nf a f
  · rw [frzA, List.length_map, r.len]
  · rw [frzA, List.getElem?_map] at h
    cases e0 : ρ[i]? with
    | none => rw [e0] at h; exact nomatch h
    | some e1 =>
      rw [e0] at h
      simp only [Option.map_some, Option.some.injEq] at h
      subst h
      obtain ⟨s, h1, h2⟩ := r.at_ i e1 e0
      refine ⟨s, h1, ?_⟩
      cases e1 with
      | un => exact True.intro
      | fz x => obtain ⟨v, e, h⟩ := h2; exact ⟨v, e, rv_up s1 h⟩
      | ol ds =>
        obtain ⟨p, vs, e, h0, _, h, hd⟩ := h2
        exact ⟨.ref p, e, .lst ((if_pos h0).trans h) (dpA_up s1 hd)⟩
      | od kvs =>
        obtain ⟨p, vs, e, h0, _, h, hd⟩ := h2
        exact ⟨.ref p, e, p, vs, rfl, (if_pos h0).trans h, kvA_up s1 hd⟩

/-! ### readings -/
abbrev KD := Dv → Prop
def De (P : Pm) (te : TE) (ρ : List En) (Φ : KD) : Prop := ∀ H0 G H σ, Ok P G H → Rel P H0 G H ρ σ → ∀ Q : VK, (∀ v G' H' x, Grow P G H G' H' → Rv P G' v x → Φ x → Q v H') → te σ H Q
def Dw (P : Pm) (te : TE) (ρ : List En) (Φ : En → Prop) : Prop := ∀ H0 G H σ, Ok P G H → Rel P H0 G H ρ σ → ∀ Q : VK, (∀ v G' H' e, Grow P G H G' H' → SlE P H G' H' e (some v) → Φ e → Q v H') → te σ H Q
def Dt (P : Pm) (tt : TT) (ρ : List En) (Φ : Bool → Prop) : Prop := ∀ H0 G H σ, Ok P G H → Rel P H0 G H ρ σ → ∀ Q : Bool → Hp → Prop, (∀ b G' H', Grow P G H G' H' → Φ b → Q b H') → tt σ H Q
def Da (P : Pm) (ta : TA) (ρ : List En) (Φ : List Dv → Prop) : Prop := ∀ H0 G H σ, Ok P G H → Rel P H0 G H ρ σ → ∀ Q : List V → Hp → Prop, (∀ vs G' H' xs, Grow P G H G' H' → RvL P G' vs xs → Φ xs → Q vs H') → ta σ H Q
def DOp (P : Pm) (r : R2) (x y : Dv) (Φ : KD) : Prop := ∀ G H u v, Ok P G H → Rv P G u x → Rv P G v y → ∀ Q : VK, (∀ w G' H' z, Grow P G H G' H' → Rv P G' w z → Φ z → Q w H') → r u v H Q
def DC (P : Pm) (r : List V → Hp → VK → Prop) (xs : List Dv) (Φ : KD) : Prop := ∀ G H vs, Ok P G H → RvL P G vs xs → ∀ Q : VK, (∀ w G' H' z, Grow P G H G' H' → Rv P G' w z → Φ z → Q w H') → r vs H Q
def Dg (P : Pm) (g : TG) (x : Dv) (ρ : List En) (vs : List Nat) (N : List En → Prop) : Prop := ∀ H0 G H σ v, Ok P G H → Rel P H0 G H ρ σ → Rv P G v x → ∀ Q : L2.St → Hp → Prop, (∀ ρ' σ', Rel P H0 G H ρ' σ' → wipe σ' vs = wipe σ vs → N ρ' → Q σ' H) → g v σ H Q
def Dgs (P : Pm) (g : TGs) (xs : List Dv) (ρ : List En) (vs : List Nat) (N : List En → Prop) : Prop := ∀ H0 G H σ us, Ok P G H → Rel P H0 G H ρ σ → RvL P G us xs → ∀ Q : L2.St → Hp → Prop, (∀ ρ' σ', Rel P H0 G H ρ' σ' → wipe σ' vs = wipe σ vs → N ρ' → Q σ' H) → g us σ H Q
def Ds (P : Pm) (ts : TS) (ρ : List En) (N : List En → Prop) (R : KD) : Prop := ∀ G0 H0 G H σ, Ok P G0 H0 → Grow P G0 H0 G H → Rel P H0 G H ρ σ → ∀ D : Ends,
  (∀ ρ' σ' G' H', Grow P G0 H0 G' H' → Same G G' → Rel P H0 G' H' ρ' σ' → N ρ' → D.nx σ' H') → (∀ v G' H' x, Grow P G0 H0 G' H' → Rv P G' v x → R x → D.rt v H') → ts D σ H

variable {P : Pm} {ρ : List En}
theorem De.mono {te : TE} {Φ Ψ : KD} (h : De P te ρ Φ) (k : ∀ x, Φ x → Ψ x) : De P te ρ Ψ := fun H0 G H σ o r Q q => h H0 G H σ o r Q fun v G' H' x g rv p => q v G' H' x g rv (k x p)
theorem Da.mono {te : TA} {Φ Ψ : List Dv → Prop} (h : Da P te ρ Φ) (k : ∀ x, Φ x → Ψ x) : Da P te ρ Ψ := fun H0 G H σ o r Q q => h H0 G H σ o r Q fun v G' H' x g rv p => q v G' H' x g rv (k x p)
theorem Dt.mono {te : TT} {Φ Ψ : Bool → Prop} (h : Dt P te ρ Φ) (k : ∀ x, Φ x → Ψ x) : Dt P te ρ Ψ := fun H0 G H σ o r Q q => h H0 G H σ o r Q fun v G' H' g p => q v G' H' g (k v p)
theorem DOp.mono {r : R2} {x y : Dv} {Φ Ψ : KD} (h : DOp P r x y Φ) (k : ∀ x, Φ x → Ψ x) : DOp P r x y Ψ := fun G H u v o ru rv Q q => h G H u v o ru rv Q fun w G' H' z g rz p => q w G' H' z g rz (k z p)
theorem Ds.mono {ts : TS} {N N' : List En → Prop} {R R' : KD} (h : Ds P ts ρ N R) (k : ∀ x, N x → N' x) (k' : ∀ x, R x → R' x) : Ds P ts ρ N' R' :=
  fun G0 H0 G H σ o g r D n t => h G0 H0 G H σ o g r D (fun ρ' σ' G' H' g' s' r' p => n ρ' σ' G' H' g' s' r' (k _ p)) (fun v G' H' x g' rv p => t v G' H' x g' rv (k' _ p))

/-! ### expressions -/
theorem de_var {i : Nat} {x : Dv} {Φ : KD} (h : ρ[i]? = some (.fz x)) (q : Φ x) : De P (tVar i) ρ Φ := by
  intro H0 G H σ o r Q k
  obtain ⟨s, h1, v, rfl, rv⟩ := r.at_ i _ h
  exact ⟨v, h1, k v G H x (.refl o) rv q⟩
theorem de_c {v : V} {x : Dv} {Φ : KD} (h : ∀ H, Rv P H v x) (q : Φ x) : De P (tC v) ρ Φ := fun _ G H _ o _ _ k => k v G H x (.refl o) (h G) q
theorem de_int {i : Int} {Φ : KD} (q : Φ (.d (.int i))) : De P (tC (.int i)) ρ Φ := de_c (x := .d (.int i)) (fun _ => .int i) q
theorem de_str {i : Str} {Φ : KD} (q : Φ (.d (.str i))) : De P (tC (.str i)) ρ Φ := de_c (x := .d (.str i)) (fun _ => .str i) q
theorem de_bl {i : Bool} {Φ : KD} (q : Φ (.d (.bool i))) : De P (tC (.bl i)) ρ Φ := de_c (x := .d (.bool i)) (fun _ => .bl i) q
theorem de_non {Φ : KD} (q : Φ (.d .none)) : De P (tC .non) ρ Φ := de_c (x := .d .none) (fun _ => .non) q
theorem de_op {r : R2} {ta tb : TE} {Φ : KD} (h : De P ta ρ fun x => De P tb ρ fun y => DOp P r x y Φ) : De P (tOp r ta tb) ρ Φ := by
  intro H0 G H σ o rl Q k
  refine h H0 G H σ o rl _ fun u G1 H1 x g1 ru h2 => ?_
  have r1 := rl.up o g1
  refine h2 H0 G1 H1 σ g1.ok r1 _ fun v G2 H2 y g2 rv h3 => ?_
  refine h3 G2 H2 u v g2.ok (rv_up (g2.same g1.ok) ru) rv Q fun w G3 H3 z g3 rz p => ?_
  exact k w G3 H3 z ((g1.trans g2).trans g3) rz p
theorem da_nil {Φ : List Dv → Prop} (q : Φ []) : Da P tNil ρ Φ := fun _ G H _ o _ _ k => k [] G H [] (.refl o) True.intro q
theorem da_cons {te : TE} {ta : TA} {Φ : List Dv → Prop} (h : De P te ρ fun x => Da P ta ρ fun xs => Φ (x :: xs)) : Da P (tCons te ta) ρ Φ := by
  intro H0 G H σ o rl Q k
  refine h H0 G H σ o rl _ fun u G1 H1 x g1 ru h2 => ?_
  refine h2 H0 G1 H1 σ g1.ok (rl.up o g1) _ fun vs G2 H2 xs g2 rvs h3 => ?_
  exact k (u :: vs) G2 H2 (x :: xs) (g1.trans g2) ⟨rv_up (g2.same g1.ok) ru, rvs⟩ h3
theorem de_cb {r : List V → Hp → VK → Prop} {ta : TA} {Φ : KD} (h : Da P ta ρ fun xs => DC P r xs Φ) : De P (tCB r ta) ρ Φ := by
  intro H0 G H σ o rl Q k
  refine h H0 G H σ o rl _ fun u G1 H1 x g1 ru h2 => ?_
  exact h2 G1 H1 u g1.ok ru Q fun w G2 H2 z g2 rz p => k w G2 H2 z (g1.trans g2) rz p
/-- the data of a list of data -/
def DL (xs : List Dv) (ds : List PyData) : Prop := xs = ds.map .d
theorem rvL_dl {H : Hp} : ∀ {vs : List V} {ds : List PyData}, RvL P H vs (ds.map .d) → DqA H vs ds
  | [], [], _ => .nil
  | _ :: _, _ :: _, ⟨a, b⟩ => .cons a (rvL_dl b)
theorem de_tup {ta : TA} {Φ : KD} (h : Da P ta ρ fun xs => ∃ ds : List PyData, xs = ds.map .d ∧ ds.length ≤ sizeLine ∧ Φ (.d (.tuple ds))) : De P (tTup ta) ρ Φ := by
  intro H0 G H σ o rl Q k
  refine h H0 G H σ o rl _ fun u G1 H1 xs g1 ru h2 => ?_
  obtain ⟨ds, rfl, hl, p⟩ := h2
  have hd := rvL_dl ru
  refine ⟨by rw [dpA_len hd]; exact hl, fun p' hp => ?_⟩
  have g2 := g1.ok.new (o := .tup u) hp
  exact k _ _ _ (.d (.tuple ds)) (g1.trans g2) (.tup upd_same (dpA_up (g2.same g1.ok) hd)) p
theorem de_lst {ta : TA} {Φ : KD} (h : Da P ta ρ fun xs => ∃ ds : List PyData, xs = ds.map .d ∧ ds.length ≤ sizeLine ∧ Φ (.d (.list ds))) : De P (tLst ta) ρ Φ := by
  intro H0 G H σ o rl Q k
  refine h H0 G H σ o rl _ fun u G1 H1 xs g1 ru h2 => ?_
  obtain ⟨ds, rfl, hl, p⟩ := h2
  have hd := rvL_dl ru
  refine ⟨by rw [dpA_len hd]; exact hl, fun p' hp => ?_⟩
  have g2 := g1.ok.new (o := .lst u) hp
  exact k _ _ _ (.d (.list ds)) (g1.trans g2) (.lst upd_same (dpA_up (g2.same g1.ok) hd)) p
theorem SlE.base {H0 H1 G H : Hp} (k : ∀ b, H1 b = none → H0 b = none) : ∀ {e : En} {s : Option V}, SlE P H1 G H e s → SlE P H0 G H e s
  | .un, _, _ => True.intro
  | .fz _, _, h => h
  | .ol _, _, ⟨p, vs, e, h0, h⟩ => ⟨p, vs, e, k _ h0, h⟩
  | .od _, _, ⟨p, vs, e, h0, h⟩ => ⟨p, vs, e, k _ h0, h⟩
theorem dw_of {te : TE} {Φ : En → Prop} (h : De P te ρ fun x => Φ (.fz x)) : Dw P te ρ Φ := fun H0 G H σ o r Q k => h H0 G H σ o r Q fun v G' H' x g rv p => k v G' H' (.fz x) g ⟨v, rfl, rv⟩ p
theorem dw_lst {ta : TA} {Φ : En → Prop} (h : Da P ta ρ fun xs => ∃ ds : List PyData, xs = ds.map .d ∧ ds.length ≤ sizeLine ∧ Φ (.ol ds)) : Dw P (tLst ta) ρ Φ := by
  intro H0 G H σ o rl Q k
  refine h H0 G H σ o rl _ fun u G1 H1 xs g1 ru h2 => ?_
  obtain ⟨ds, rfl, hl, p⟩ := h2
  have hd := rvL_dl ru
  refine ⟨by rw [dpA_len hd]; exact hl, fun p' hp => ?_⟩
  have g2 := g1.ok.hid (o := .lst u) hp
  have z1 : H p' = none := by
    cases e : H p' with
    | none => rfl
    | some o => exact absurd hp (g1.dom (by rw [e]; exact fun z => nomatch z))
  have z2 : G1 p' = none := by
    cases e : G1 p' with
    | none => rfl
    | some o => rw [g1.ok.sub _ _ e] at hp; exact nomatch hp
  exact k _ _ _ (.ol ds) (g1.trans g2) ⟨p', u, rfl, z1, z2, upd_same, hd⟩ p
/-- what is one's own is lent out for a value that holds nothing -/
def Flat : Dv → Prop
  | .d .none => True
  | .d (.bool _) => True
  | .d (.int _) => True
  | .d (.str _) => True
  | _ => False
theorem flat_any {G H : Hp} {v : V} : ∀ {x : Dv}, Flat x → Rv P G v x → Rv P H v x
  | .d .none, _, h => by cases h; exact Dq.non
  | .d (.bool _), _, h => by cases h; exact Dq.bl _
  | .d (.int _), _, h => by cases h; exact Dq.int _
  | .d (.str _), _, h => by cases h; exact Dq.str _
  | .d (.list _), h, _ => False.elim h
  | .d (.tuple _), h, _ => False.elim h
  | .d (.dict _), h, _ => False.elim h
  | .dk _ _, h, _ => False.elim h
  | .dt _ _, h, _ => False.elim h
  | .dlk _, h, _ => False.elim h
  | .dlt _, h, _ => False.elim h
  | .ty _, h, _ => False.elim h
  | .cl, h, _ => False.elim h
  | .ro _ _ _, h, _ => False.elim h
  | .pt _, h, _ => False.elim h
  | .fd, h, _ => False.elim h
open Classical in
theorem Rel.lend {H0 G H : Hp} {σ : L2.St} (o : Ok P G H) (r : Rel P H0 G H ρ σ) : ∃ G1, Ok P G1 H ∧ Rel P H0 G1 H (frzA ρ) σ ∧ ∀ G' H', Grow P G1 H G' H' → Grow P G H G H' := by
  let G1 : Hp := fun b => if isF P b then none else H b
  have s0 : ∀ b, ¬ isF P b → G1 b = H b := fun b f => if_neg f
  have s1 : Same G G1 := fun b u e => by
    have nf : ¬ isF P b := fun f => by rw [o.nf b f] at e; exact nomatch e
    rw [s0 b nf]; exact o.sub b u e
  have s2 : Same G1 H := fun b u e => by
    by_cases f : isF P b
    · have : G1 b = none := if_pos f
      rw [this] at e; exact nomatch e
    · rw [s0 b f] at e; exact e
  refine ⟨G1, ⟨s2, o.feed, fun a f => if_pos f⟩, ⟨by rw [frzA, List.length_map, r.len], fun i e h => ?_, r.dom, r.nof⟩, fun G' H' g => ⟨g.kp, fun b h => .inl rfl, ⟨fun b u e => ?_, g.ok.feed, o.nf⟩⟩⟩
  · rw [frzA, List.getElem?_map] at h
    cases e0 : ρ[i]? with
    | none => rw [e0] at h; exact nomatch h
    | some e1 =>
      rw [e0] at h
      simp only [Option.map_some, Option.some.injEq] at h
      subst h
      obtain ⟨s, h1, h2⟩ := r.at_ i e1 e0
      refine ⟨s, h1, ?_⟩
      cases e1 with
      | un => exact True.intro
      | fz x => obtain ⟨v, e, h⟩ := h2; exact ⟨v, e, rv_up s1 h⟩
      | ol ds =>
        obtain ⟨p, vs, e, h0, _, h, hd⟩ := h2
        exact ⟨.ref p, e, .lst ((s0 p (fun f => r.nof p f h0)).trans h) (dpA_up s1 hd)⟩
      | od kvs =>
        obtain ⟨p, vs, e, h0, _, h, hd⟩ := h2
        exact ⟨.ref p, e, p, vs, rfl, (s0 p (fun f => r.nof p f h0)).trans h, kvA_up s1 hd⟩
  · have nf : ¬ isF P b := fun f => by rw [o.nf b f] at e; exact nomatch e
    exact g.kp b u (o.sub b u e) nf
theorem de_lend {te : TE} {Φ : KD} (h : De P te (frzA ρ) fun x => Flat x ∧ Φ x) : De P te ρ Φ := by
  intro H0 G H σ o r Q k
  obtain ⟨G1, o1, r1, b⟩ := r.lend o
  exact h H0 G1 H σ o1 r1 Q fun v G' H' x g rv ⟨f, p⟩ => k v G H' x (b G' H' g) (flat_any f rv) p
theorem dt_lend {tt : TT} {Φ : Bool → Prop} (h : Dt P tt (frzA ρ) Φ) : Dt P tt ρ Φ := by
  intro H0 G H σ o r Q k
  obtain ⟨G1, o1, r1, b⟩ := r.lend o
  exact h H0 G1 H σ o1 r1 Q fun v G' H' g p => k v G H' (b G' H' g) p

/-! ### truth -/
theorem dt_b {te : TE} {Φ : Bool → Prop} (h : De P te ρ fun x => ∃ b, x = .d (.bool b) ∧ Φ b) : Dt P (tB te) ρ Φ := by
  intro H0 G H σ o r Q k
  refine h H0 G H σ o r _ fun v G' H' x g rv ⟨b, e, p⟩ => ?_
  subst e
  cases rv
  exact ⟨b, rfl, k b G' H' g p⟩
theorem dt_test {te : TE} {Φ : Bool → Prop} (h : De P te ρ fun x => ∃ b, x = .d (.bool b) ∧ Φ b) : Dt P (tTest te) ρ Φ := by
  intro H0 G H σ o r Q k
  refine h H0 G H σ o r _ fun v G' H' x g rv ⟨b, e, p⟩ => ?_
  subst e
  cases rv
  exact ⟨b, rfl, k b G' H' g p⟩
theorem dt_and {t u : TT} {Φ : Bool → Prop} (h : Dt P t ρ fun b => if b = true then Dt P u ρ Φ else Φ false) : Dt P (tAnd t u) ρ Φ := by
  intro H0 G H σ o r Q k
  refine h H0 G H σ o r _ fun b G1 H1 g1 p => ?_
  cases b with
  | true => exact (p : Dt P u ρ Φ) H0 G1 H1 σ g1.ok (r.up o g1) Q fun b G2 H2 g2 p => k b G2 H2 (g1.trans g2) p
  | false => exact k false G1 H1 g1 p
theorem dt_or {t u : TT} {Φ : Bool → Prop} (h : Dt P t ρ fun b => if b = true then Φ true else Dt P u ρ Φ) : Dt P (tOr t u) ρ Φ := by
  intro H0 G H σ o r Q k
  refine h H0 G H σ o r _ fun b G1 H1 g1 p => ?_
  cases b with
  | false => exact (p : Dt P u ρ Φ) H0 G1 H1 σ g1.ok (r.up o g1) Q fun b G2 H2 g2 p => k b G2 H2 (g1.trans g2) p
  | true => exact k true G1 H1 g1 p
theorem dt_not {t : TT} {Φ : Bool → Prop} (h : Dt P t ρ fun b => Φ (!b)) : Dt P (tNot t) ρ Φ := fun H0 G H σ o r Q k => h H0 G H σ o r _ fun b G1 H1 g1 p => k (!b) G1 H1 g1 p
theorem de_and {ta tb : TE} {Φ : KD} (h : De P ta ρ fun x => ∃ b, x = .d (.bool b) ∧ if b = true then De P tb ρ Φ else Φ (.d (.bool false))) : De P (tAndV ta tb) ρ Φ := by
  intro H0 G H σ o r Q k
  refine h H0 G H σ o r _ fun v G1 H1 x g1 rv ⟨b, e, p⟩ => ?_
  subst e
  cases rv
  refine ⟨b, rfl, ?_⟩
  cases b with
  | true => exact (p : De P tb ρ Φ) H0 G1 H1 σ g1.ok (r.up o g1) Q fun w G2 H2 z g2 rz p => k w G2 H2 z (g1.trans g2) rz p
  | false => exact k _ G1 H1 (.d (.bool false)) g1 (Dq.bl false) p
theorem de_or {ta tb : TE} {Φ : KD} (h : De P ta ρ fun x => ∃ b, x = .d (.bool b) ∧ if b = true then Φ (.d (.bool true)) else De P tb ρ Φ) : De P (tOrV ta tb) ρ Φ := by
  intro H0 G H σ o r Q k
  refine h H0 G H σ o r _ fun v G1 H1 x g1 rv ⟨b, e, p⟩ => ?_
  subst e
  cases rv
  refine ⟨b, rfl, ?_⟩
  cases b with
  | false => exact (p : De P tb ρ Φ) H0 G1 H1 σ g1.ok (r.up o g1) Q fun w G2 H2 z g2 rz p => k w G2 H2 z (g1.trans g2) rz p
  | true => exact k _ G1 H1 (.d (.bool true)) g1 (Dq.bl true) p
theorem de_not {ta : TE} {Φ : KD} (h : De P ta ρ fun x => ∃ b, x = .d (.bool b) ∧ Φ (.d (.bool (!b)))) : De P (tNotV ta) ρ Φ := by
  intro H0 G H σ o r Q k
  refine h H0 G H σ o r _ fun v G1 H1 x g1 rv ⟨b, e, p⟩ => ?_
  subst e
  cases rv
  exact ⟨b, rfl, k _ G1 H1 (.d (.bool (!b))) g1 (Dq.bl (!b)) p⟩
theorem de_if {tt : TT} {ta tb : TE} {Φ : KD} (h : Dt P tt ρ fun b => if b = true then De P ta ρ Φ else De P tb ρ Φ) : De P (tIf tt ta tb) ρ Φ := by
  intro H0 G H σ o r Q k
  refine h H0 G H σ o r _ fun b G1 H1 g1 p => ?_
  cases b with
  | true => exact (p : De P ta ρ Φ) H0 G1 H1 σ g1.ok (r.up o g1) Q fun w G2 H2 z g2 rz p => k w G2 H2 z (g1.trans g2) rz p
  | false => exact (p : De P tb ρ Φ) H0 G1 H1 σ g1.ok (r.up o g1) Q fun w G2 H2 z g2 rz p => k w G2 H2 z (g1.trans g2) rz p
theorem de_chain {r r' : R2} {ta tb tc : TE} {Φ : KD} (h : De P ta ρ fun x => De P tb ρ fun y => DOp P r x y fun z => ∃ b, z = .d (.bool b) ∧ if b = true then De P tc ρ fun w => DOp P r' y w Φ else Φ (.d (.bool false))) : De P (tChain r r' ta tb tc) ρ Φ := by
  intro H0 G H σ o rl Q k
  refine h H0 G H σ o rl _ fun u G1 H1 x g1 ru h2 => ?_
  have r1 := rl.up o g1
  refine h2 H0 G1 H1 σ g1.ok r1 _ fun v G2 H2 y g2 rv h3 => ?_
  have r2 := r1.up g1.ok g2
  refine h3 G2 H2 u v g2.ok (rv_up (g2.same g1.ok) ru) rv _ fun z G3 H3 zd g3 rz ⟨b, e, p⟩ => ?_
  subst e
  cases rz
  refine ⟨b, rfl, ?_⟩
  cases b with
  | false => exact k _ G3 H3 (.d (.bool false)) ((g1.trans g2).trans g3) (Dq.bl false) p
  | true =>
    refine (p : De P tc ρ fun w => DOp P r' y w Φ) H0 G3 H3 σ g3.ok (r2.up g2.ok g3) _ fun w G4 H4 zw g4 rw4 h5 => ?_
    exact h5 G4 H4 v w g4.ok (rv_up (g4.same g3.ok) (rv_up (g3.same g2.ok) rv)) rw4 Q fun w5 G5 H5 z5 g5 rz5 p5 => k w5 G5 H5 z5 (((g1.trans g2).trans g3).trans (g4.trans g5)) rz5 p5

/-! ### targets -/
theorem wipe_one {i : Nat} {s : Option V} : ∀ (vs : List Nat) (σ : L2.St), (wipe (σ.set i s) vs).set i none = (wipe σ vs).set i none
  | [], σ => by rw [wipe.eq_1, wipe.eq_1, List.set_set]
  | j :: r, σ => by
    rw [wipe.eq_2, wipe.eq_2]
    by_cases e : i = j
    · rw [e, List.set_set, List.set_set, ← e]; exact wipe_one r σ
    · rw [List.set_comm _ _ (Ne.symm e), wipe_one r σ, List.set_comm _ _ e]
theorem wipe_set {i : Nat} {s : Option V} : ∀ {vs : List Nat}, i ∈ vs → ∀ σ : L2.St, wipe (σ.set i s) vs = wipe σ vs
  | [], h, _ => nomatch h
  | j :: r, h, σ => by
    rw [wipe.eq_2, wipe.eq_2]
    rcases List.mem_cons.mp h with e | h
    · rw [e]; exact wipe_one r σ
    · rw [wipe_set h σ]
def wipeE (ρ : List En) : List Nat → List En
  | [] => ρ
  | i :: r => (wipeE ρ r).set i .un
theorem Rel.wipe {H0 G H : Hp} {σ : L2.St} (r : Rel P H0 G H ρ σ) : ∀ vs : List Nat, Rel P H0 G H (wipeE ρ vs) (L2.wipe σ vs)
  | [] => by rw [wipe.eq_1]; exact r
  | i :: vs => by rw [wipe.eq_2]; exact (r.wipe vs).set i (e := .un) True.intro
theorem dg_name {i : Nat} {x : Dv} {vs : List Nat} {N : List En → Prop} (hi : i ∈ vs) (q : N (ρ.set i (.fz x))) : Dg P (gName i) x ρ vs N :=
  fun H0 G H σ v o r rv Q k => k _ _ (r.set i (e := .fz x) ⟨v, rfl, rv⟩) (wipe_set hi σ) q
theorem dgs_nil {vs : List Nat} {N : List En → Prop} (q : N ρ) : Dgs P gNil [] ρ vs N := fun H0 G H σ us o r rv Q k => by
  cases us with
  | nil => exact ⟨rfl, k _ _ r rfl q⟩
  | cons => exact False.elim rv
theorem dgs_cons {t : TG} {u : TGs} {x : Dv} {xs : List Dv} {vs : List Nat} {N : List En → Prop} (h : Dg P t x ρ vs fun ρ' => Dgs P u xs ρ' vs N) : Dgs P (gCons t u) (x :: xs) ρ vs N := fun H0 G H σ us o r rv Q k => by
  cases us with
  | nil => exact False.elim rv
  | cons v us =>
    obtain ⟨ra, rb⟩ := rv
    exact ⟨v, us, rfl, h H0 G H σ v o r ra _ fun ρ' σ' r' w' h' => h' H0 G H σ' us o r' rb Q fun ρ2 σ2 r2 w2 p => k ρ2 σ2 r2 (w2.trans w') p⟩
theorem dpA_rvL {H : Hp} : ∀ {vs : List V} {ds : List PyData}, DqA H vs ds → RvL P H vs (ds.map .d)
  | _, _, .nil => True.intro
  | _, _, .cons a b => ⟨a, dpA_rvL b⟩
theorem dg_tup {n : Nat} {t : TGs} {ds : List PyData} {vs : List Nat} {N : List En → Prop} (hn : ds.length = n) (h : Dgs P t (ds.map .d) ρ vs N) : Dg P (gTup P.K n t) (.d (.tuple ds)) ρ vs N := fun H0 G H σ v o r rv Q k => by
  cases rv with
  | tup hs hd => exact ⟨_, _, rfl, .inl (.inl (o.sub _ _ hs)), by rw [dpA_len hd]; exact hn, h H0 G H σ _ o r (dpA_rvL hd) Q k⟩

/-! ### statements -/
variable {N : List En → Prop} {R : KD}
theorem ds_seq {t u : TS} (h : Ds P t ρ (fun ρ' => Ds P u ρ' N R) R) : Ds P (tSeq t u) ρ N R :=
  fun G0 H0 G H σ o g r D n q => h G0 H0 G H σ o g r _ (fun ρ' σ' G' H' g' s' r' h' => h' G0 H0 G' H' σ' o g' r' D (fun ρ2 σ2 G2 H2 g2 s2 => n ρ2 σ2 G2 H2 g2 (s'.trans s2)) q) q
theorem ds_next (h : N ρ) : Ds P tNext ρ N R := fun G0 H0 G H σ o g r D n q => n ρ σ G H g (Same.refl _) r h
theorem ds_ret {te : TE} (h : De P te ρ R) : Ds P (tRet te) ρ N R :=
  fun G0 H0 G H σ o g r D n q => h H0 G H σ g.ok r _ fun v G' H' x g' rv p => q v G' H' x (g.trans g') rv p
theorem ds_if {tt : TT} {t u : TS} (h : Dt P tt ρ fun b => if b = true then Ds P t ρ N R else Ds P u ρ N R) : Ds P (tIfS tt t u) ρ N R := by
  intro G0 H0 G H σ o g r D n q
  refine h H0 G H σ g.ok r _ fun b G1 H1 g1 p => ?_
  have s1 := g1.same g.ok
  cases b with
  | true => exact (p : Ds P t ρ N R) G0 H0 G1 H1 σ o (g.trans g1) (r.up g.ok g1) D (fun ρ2 σ2 G2 H2 g2 s2 => n ρ2 σ2 G2 H2 g2 (s1.trans s2)) q
  | false => exact (p : Ds P u ρ N R) G0 H0 G1 H1 σ o (g.trans g1) (r.up g.ok g1) D (fun ρ2 σ2 G2 H2 g2 s2 => n ρ2 σ2 G2 H2 g2 (s1.trans s2)) q
theorem ds_drop {te : TE} (h : De P te ρ fun _ => N ρ) : Ds P (tDrop te) ρ N R :=
  fun G0 H0 G H σ o g r D n q => h H0 G H σ g.ok r _ fun v G1 H1 x g1 rv p => n ρ σ G1 H1 (g.trans g1) (g1.same g.ok) (r.up g.ok g1) p
theorem ds_asg {te : TE} {t : TG} {vs : List Nat} (h : De P te ρ fun x => Dg P t x ρ vs N) : Ds P (tAsg te t) ρ N R :=
  fun G0 H0 G H σ o g r D n q => h H0 G H σ g.ok r _ fun v G1 H1 x g1 rv p => p H0 G1 H1 σ v g1.ok (r.up g.ok g1) rv _ fun ρ' σ' r' _ h' => n ρ' σ' G1 H1 (g.trans g1) (g1.same g.ok) r' h'
theorem Rel.low {H0 G H : Hp} {σ : L2.St} (r : Rel P H0 G H ρ σ) (b : Addr) (e : H b = none) : H0 b = none := by
  cases e0 : H0 b with
  | none => rfl
  | some u => exact absurd e (r.dom b (by rw [e0]; exact fun z => nomatch z))
theorem ds_set {te : TE} {i : Nat} (h : Dw P te ρ fun e => N (ρ.set i e)) : Ds P (tAsg te (gName i)) ρ N R := by
  intro G0 H0 G H σ o g r D n q
  refine h H0 G H σ g.ok r _ fun v G1 H1 e g1 re p => ?_
  exact n _ _ G1 H1 (g.trans g1) (g1.same g.ok) ((r.up g.ok g1).set i (re.base r.low)) p
theorem ds_setz {te : TE} {i : Nat} (h : De P te ρ fun x => N (ρ.set i (.fz x))) : Ds P (tAsg te (gName i)) ρ N R := ds_set (dw_of h)
theorem ds_frz {t : TS} (h : Ds P t (frzA ρ) N R) : Ds P t ρ N R := by
  intro G0 H0 G H σ o g r D n q
  obtain ⟨G', g', s, r'⟩ := r.frz g
  exact h G0 H0 G' H σ o g' r' D (fun ρ2 σ2 G2 H2 g2 s2 => n ρ2 σ2 G2 H2 g2 (s.trans s2)) q
end Z

/-! # ZLoop -/
set_option Elab.async false
set_option linter.all false
set_option maxRecDepth 100000
set_option maxHeartbeats 2000000
/-! Walks, loops, comprehensions, calls over plain data. -/
namespace Z
open PySem PySem.Spec PyProof.Rows L2
variable {P : Pm} {ρ : List En} {N : List En → Prop} {R : KD}

/-- J hands out the data xs, one by one, wherever G is seen -/
def Yl (P : Pm) (G : Hp) (J : It) (xs : List Dv) : Prop := ∀ G2 H2, Ok P G2 H2 → Same G G2 → (∀ (i : Nat) (x : Dv), xs[i]? = some x → J.go i H2 ∧ ∀ v H3, J.yld i H2 v H3 → ∃ G3, Grow P G2 H2 G3 H3 ∧ Rv P G3 v x) ∧ J.stop xs.length H2
def Di (P : Pm) (wi : TI) (ρ : List En) (Ξ : List Dv → Prop) : Prop := ∀ H0 G H σ, Ok P G H → Rel P H0 G H ρ σ → ∀ T : It → Hp → Prop, (∀ J G' H' xs, Grow P G H G' H' → Yl P G' J xs → Ξ xs → T J H') → wi σ H T
theorem Yl.up {G G' : Hp} {J : It} {xs : List Dv} (y : Yl P G J xs) (s : Same G G') : Yl P G' J xs := fun G2 H2 o s2 => y G2 H2 o (s.trans s2)
theorem yl_of {G : Hp} {J : It} {n : Nat} {Gd : Hp → Prop} {Y : Nat → Hp → V → Hp → Prop} {xs : List Dv} (w : Walk J n Gd Y) (hn : xs.length = n) (hG : ∀ G2 H2, Ok P G2 H2 → Same G G2 → Gd H2)
    (hy : ∀ G2 H2 (i : Nat) x v H3, Ok P G2 H2 → Same G G2 → xs[i]? = some x → Y i H2 v H3 → ∃ G3, Grow P G2 H2 G3 H3 ∧ Rv P G3 v x) : Yl P G J xs := by
  intro G2 H2 o s
  have g := hG G2 H2 o s
  refine ⟨fun i x e => ?_, by rw [hn]; exact w.stops H2 g⟩
  have hi : i < n := by rw [← hn]; exact (List.getElem?_eq_some_iff.mp e).1
  exact ⟨w.goes i H2 hi g, fun v H3 y => hy G2 H2 i x v H3 o s e (w.yields i H2 v H3 hi g y)⟩
theorem di_list {te : TE} {Ξ : List Dv → Prop} (h : De P te ρ fun x => ∃ ds, x = .d (.list ds) ∧ Ξ (ds.map .d)) : Di P (iList P.K te) ρ Ξ := by
  intro H0 G H σ o r T k
  refine h H0 G H σ o r _ fun v G1 H1 x g1 rv ⟨ds, e, p⟩ => ?_
  subst e
  cases rv with
  | @lst a xs _ ha hd =>
    refine ⟨a, rfl, ⟨xs, .inl (.inl (g1.ok.sub _ _ ha))⟩, k _ G1 H1 _ g1 (yl_of walk_list (by rw [List.length_map, dpA_len hd]) (fun G2 H2 o2 s2 => .inl (.inl (o2.sub _ _ (s2 _ _ ha)))) ?_) p⟩
    intro G2 H2 i x v H3 o2 s2 e y
    obtain ⟨rfl, e2⟩ := y
    rw [List.getElem?_map] at e
    cases e1 : ds[i]? with
    | none => rw [e1] at e; exact nomatch e
    | some d =>
      rw [e1] at e; cases e
      obtain ⟨w, e3, hw⟩ := dpA_at hd e1
      rw [e2] at e3; cases e3
      exact ⟨G2, .refl o2, dp_up s2 hw⟩
theorem di_tup {te : TE} {Ξ : List Dv → Prop} (h : De P te ρ fun x => ∃ ds, x = .d (.tuple ds) ∧ Ξ (ds.map .d)) : Di P (iTup P.K te) ρ Ξ := by
  intro H0 G H σ o r T k
  refine h H0 G H σ o r _ fun v G1 H1 x g1 rv ⟨ds, e, p⟩ => ?_
  subst e
  cases rv with
  | @tup a xs _ ha hd =>
    refine ⟨a, rfl, ⟨xs, .inl (.inl (g1.ok.sub _ _ ha))⟩, k _ G1 H1 _ g1 (yl_of walk_tup (by rw [List.length_map, dpA_len hd]) (fun G2 H2 o2 s2 => .inl (.inl (o2.sub _ _ (s2 _ _ ha)))) ?_) p⟩
    intro G2 H2 i x v H3 o2 s2 e y
    obtain ⟨rfl, e2⟩ := y
    rw [List.getElem?_map] at e
    cases e1 : ds[i]? with
    | none => rw [e1] at e; exact nomatch e
    | some d =>
      rw [e1] at e; cases e
      obtain ⟨w, e3, hw⟩ := dpA_at hd e1
      rw [e2] at e3; cases e3
      exact ⟨G2, .refl o2, dp_up s2 hw⟩
/-- the pairs of places and items -/
def enumD (ds : List PyData) : List PyData := ds.zipIdx.map fun p => .tuple [.int (p.2 : Nat), p.1]
theorem enumD_at {ds : List PyData} {i : Nat} : (enumD ds)[i]? = ds[i]?.map fun d => .tuple [.int (i : Nat), d] := by
  rw [enumD, List.getElem?_map, List.getElem?_zipIdx]
  cases ds[i]? <;> simp
theorem enumD_len {ds : List PyData} : (enumD ds).length = ds.length := by rw [enumD, List.length_map, List.length_zipIdx]
theorem yl_pair {G : Hp} {J : It} {n : Nat} {Gd : Hp → Prop} {A B : Nat → Option V} {ps : List PyData} (w : Walk J n Gd (YPair A B)) (hn : ps.length = n) (hG : ∀ G2 H2, Ok P G2 H2 → Same G G2 → Gd H2)
    (hy : ∀ (i : Nat) a b p, ps[i]? = some p → A i = some a → B i = some b → ∃ x y, p = .tuple [x, y] ∧ Dq G a x ∧ Dq G b y) : Yl P G J (ps.map .d) := by
  refine yl_of w (by rw [List.length_map, hn]) hG fun G2 H2 i x v H3 o2 s2 e y => ?_
  obtain ⟨t, a, b, rfl, nT, rfl, ha, hb⟩ := y
  rw [List.getElem?_map] at e
  cases e1 : ps[i]? with
  | none => rw [e1] at e; exact nomatch e
  | some d =>
    rw [e1] at e; cases e
    obtain ⟨x, y, rfl, hx, hy⟩ := hy i a b d e1 ha hb
    have g := o2.new (o := .tup [a, b]) nT
    have s3 := s2.trans (g.same o2)
    exact ⟨_, g, .tup upd_same (.cons (dp_up s3 hx) (.cons (dp_up s3 hy) .nil))⟩
theorem di_enum {ta : TA} {Ξ : List Dv → Prop} (h : Da P ta ρ fun xs => ∃ ds, xs = [.d (.list ds)] ∧ Ξ ((enumD ds).map .d)) : Di P (iEnum P.K ta) ρ Ξ := by
  intro H0 G H σ o r T k
  refine h H0 G H σ o r _ fun vs G1 H1 x g1 rv ⟨ds, e, p⟩ => ?_
  subst e
  match vs, rv with
  | [v], ⟨rv, _⟩ =>
  cases rv with
  | @lst a xs _ ha hd =>
    refine ⟨a, xs, rfl, .inl (.inl (g1.ok.sub _ _ ha)), k _ G1 H1 _ g1 (yl_pair walk_enum (by rw [enumD_len, dpA_len hd]) (fun G2 H2 o2 s2 => .inl (.inl (o2.sub _ _ (s2 _ _ ha)))) ?_) p⟩
    intro i a b p e ea eb
    rw [enumD_at] at e
    cases e1 : ds[i]? with
    | none => rw [e1] at e; exact nomatch e
    | some d =>
      rw [e1] at e; cases e; cases ea
      obtain ⟨w, e3, hw⟩ := dpA_at hd e1
      rw [eb] at e3; cases e3
      exact ⟨_, _, rfl, .int _, hw⟩
theorem di_enT {ta : TA} {Ξ : List Dv → Prop} (h : Da P ta ρ fun xs => ∃ ds, xs = [.d (.tuple ds)] ∧ Ξ ((enumD ds).map .d)) : Di P (iEnT P.K ta) ρ Ξ := by
  intro H0 G H σ o r T k
  refine h H0 G H σ o r _ fun vs G1 H1 x g1 rv ⟨ds, e, p⟩ => ?_
  subst e
  match vs, rv with
  | [v], ⟨rv, _⟩ =>
  cases rv with
  | @tup a xs _ ha hd =>
    refine ⟨a, xs, rfl, .inl (.inl (g1.ok.sub _ _ ha)), k _ G1 H1 _ g1 (yl_pair walk_enT (by rw [enumD_len, dpA_len hd]) (fun G2 H2 o2 s2 => .inl (.inl (o2.sub _ _ (s2 _ _ ha)))) ?_) p⟩
    intro i a b p e ea eb
    rw [enumD_at] at e
    cases e1 : ds[i]? with
    | none => rw [e1] at e; exact nomatch e
    | some d =>
      rw [e1] at e; cases e; cases ea
      obtain ⟨w, e3, hw⟩ := dpA_at hd e1
      rw [eb] at e3; cases e3
      exact ⟨_, _, rfl, .int _, hw⟩
theorem di_rng {ta : TA} {Ξ : List Dv → Prop} (h : Da P ta ρ fun xs => ∃ j : Int, xs = [.d (.int j)] ∧ -(2 ^ 62) ≤ j ∧ j < 2 ^ 62 ∧ Ξ ((List.range j.toNat).map fun i => .d (.int (i : Nat)))) : Di P (iRng1 ta) ρ Ξ := by
  intro H0 G H σ o r T k
  refine h H0 G H σ o r _ fun vs G1 H1 x g1 rv ⟨j, e, lo, hi, p⟩ => ?_
  subst e
  match vs, rv with
  | [v], ⟨rv, _⟩ =>
  cases rv
  refine ⟨j, rfl, lo, hi, k _ G1 H1 _ g1 (yl_of walk_range (by simp) (fun _ _ _ _ => True.intro) ?_) p⟩
  intro G2 H2 i x v H3 o2 s2 e y
  obtain ⟨rfl, rfl⟩ := y
  rw [List.getElem?_map] at e
  have hi : i < j.toNat := by
    rcases Nat.lt_or_ge i j.toNat with h | h
    · exact h
    · rw [List.getElem?_eq_none (by simpa using h)] at e; exact nomatch e
  rw [List.getElem?_range hi] at e
  cases e
  refine ⟨G2, .refl o2, ?_⟩
  show Dq G2 (V.int (0 + (i : Int))) (.int (i : Nat))
  rw [Int.zero_add]
  exact .int _
theorem di_str {te : TE} {Ξ : List Dv → Prop} (h : De P te ρ fun x => ∃ z : Str, x = .d (.str z) ∧ Ξ (z.cps.toList.map fun c => .d (.str ⟨#[c]⟩))) : Di P (iStr te) ρ Ξ := by
  intro H0 G H σ o r T k
  refine h H0 G H σ o r _ fun v G1 H1 x g1 rv ⟨z, e, p⟩ => ?_
  subst e
  cases rv
  refine ⟨z, rfl, k _ G1 H1 _ g1 (yl_of walk_str (by simp) (fun _ _ _ _ => True.intro) ?_) p⟩
  intro G2 H2 i x v H3 o2 s2 e y
  obtain ⟨rfl, c, ec, rfl⟩ := y
  rw [List.getElem?_map, Array.getElem?_toList, ec] at e
  cases e
  exact ⟨G2, .refl o2, .str _⟩
def zipD (xs ys : List PyData) : List PyData := (xs.zip ys).map fun p => .tuple [p.1, p.2]
theorem zipD_at {xs ys : List PyData} {i : Nat} {p : PyData} (h : (zipD xs ys)[i]? = some p) : ∃ x y, xs[i]? = some x ∧ ys[i]? = some y ∧ p = .tuple [x, y] := by
  rw [zipD, List.getElem?_map] at h
  cases e : (xs.zip ys)[i]? with
  | none => rw [e] at h; exact nomatch h
  | some q =>
    rw [e] at h; cases h
    have := List.getElem?_zip_eq_some.mp e
    exact ⟨_, _, this.1, this.2, rfl⟩

/-! ### for, while -/
theorem ds_for {wi : TI} {g : TG} {tb : TS} (Inv : Nat → List En → Prop)
    (h : Di P wi ρ fun xs => ∃ vs, Inv 0 ρ ∧ (∀ (i : Nat) x ρ', xs[i]? = some x → Inv i ρ' → Dg P g x ρ' vs fun ρ2 => Ds P tb ρ2 (Inv (i + 1)) R) ∧ ∀ ρ', Inv xs.length ρ' → N ρ') : Ds P (tFor wi g tb) ρ N R := by
  intro G0 H0 G H σ o gr r D n q
  refine h H0 G H σ gr.ok r _ fun J G1 H1 xs g1 y ⟨vs, i0, hs, hd⟩ => ?_
  have s1 := g1.same gr.ok
  refine ⟨fun i m σ' H' => m + i = xs.length ∧ ∃ G' ρ', Grow P G0 H0 G' H' ∧ Same G1 G' ∧ Rel P H0 G' H' ρ' σ' ∧ Inv i ρ', ⟨xs.length, rfl, G1, ρ, gr.trans g1, Same.refl _, r.up gr.ok g1, i0⟩, ?_⟩
  rintro i m σ' H' ⟨em, G', ρ', g', s', r', iv⟩
  obtain ⟨y1, y2⟩ := y G' H' g'.ok s'
  by_cases hi : i < xs.length
  · obtain ⟨go, yl⟩ := y1 i xs[i] (List.getElem?_eq_getElem hi)
    refine .inr ⟨go, fun σ2 H2 => ∃ G2 ρ2, Grow P G0 H0 G2 H2 ∧ Same G1 G2 ∧ Rel P H0 G2 H2 ρ2 σ2 ∧ Inv (i + 1) ρ2, fun σ2 H2 hh => ⟨m - 1, by omega, by omega, hh⟩, fun v H3 hy => ?_⟩
    obtain ⟨G3, g3, rv⟩ := yl v H3 hy
    refine hs i _ ρ' (List.getElem?_eq_getElem hi) iv H0 G3 H3 σ' v g3.ok (r'.up g'.ok g3) rv _ fun ρ2 σ2 r2 _ hb => ?_
    have s3 := s'.trans (g3.same g'.ok)
    exact hb G0 H0 G3 H3 σ2 o (g'.trans g3) r2 _ (fun ρ4 σ4 G4 H4 g4 s4 r4 p4 => ⟨G4, ρ4, g4, s3.trans s4, r4, p4⟩) q
  · have e : i = xs.length := by omega
    subst e
    exact .inl ⟨y2, n ρ' σ' G' H' g' (s1.trans s') r' (hd ρ' iv)⟩
theorem ds_while {tt : TT} {tb : TS} (Inv : Nat → List En → Prop) (m : Nat) (h0 : Inv m ρ) (hs : ∀ m ρ', Inv m ρ' → Dt P tt ρ' fun b => if b = true then Ds P tb ρ' (fun ρ2 => ∃ m', m' < m ∧ Inv m' ρ2) R else N ρ') : Ds P (tWhile tt tb) ρ N R := by
  intro G0 H0 G H σ o gr r D n q
  refine ⟨fun m σ' H' => ∃ G' ρ', Grow P G0 H0 G' H' ∧ Same G G' ∧ Rel P H0 G' H' ρ' σ' ∧ Inv m ρ', ⟨m, G, ρ, gr, Same.refl _, r, h0⟩, ?_⟩
  rintro m σ' H' ⟨G', ρ', g', s', r', iv⟩
  refine hs m ρ' iv H0 G' H' σ' g'.ok r' _ fun b G1 H1 g1 p => ?_
  have s1 := s'.trans (g1.same g'.ok)
  cases b with
  | true =>
    refine ⟨fun σ2 H2 => ∃ m', m' < m ∧ ∃ G2 ρ2, Grow P G0 H0 G2 H2 ∧ Same G G2 ∧ Rel P H0 G2 H2 ρ2 σ2 ∧ Inv m' ρ2, fun σ2 H2 h => h, ?_⟩
    exact (p : Ds P tb ρ' _ R) G0 H0 G1 H1 σ' o (g'.trans g1) (r'.up g'.ok g1) _ (fun ρ4 σ4 G4 H4 g4 s4 r4 ⟨m', lt, p4⟩ => ⟨m', lt, G4, ρ4, g4, s1.trans s4, r4, p4⟩) q
  | false => exact n ρ' σ' G1 H1 (g'.trans g1) s1 (r'.up g'.ok g1) p

/-- loops with slots whose values are let go after each turn -/
theorem Rel.wipeE' {H0 G H : Hp} {σ : L2.St} (r : Rel P H0 G H ρ σ) : ∀ vs : List Nat, Rel P H0 G H (wipeE ρ vs) σ
  | [] => r
  | i :: vs => by
    have ih := r.wipeE' vs
    refine ⟨by rw [wipeE, List.length_set, ih.len], fun j e h => ?_, ih.dom, ih.nof⟩
    rw [wipeE] at h
    by_cases z : i = j
    · subst z
      have lt : i < (wipeE ρ vs).length := by
        have := (List.getElem?_eq_some_iff.mp h).1
        rwa [List.length_set] at this
      rw [List.getElem?_set_self lt] at h
      cases h
      exact ⟨σ[i]'(by rw [← ih.len]; exact lt), List.getElem?_eq_getElem _, True.intro⟩
    · rw [List.getElem?_set_ne z] at h
      exact ih.at_ j e h
theorem ds_wipe {ts : TS} (vs : List Nat) (h : Ds P ts (wipeE ρ vs) N R) : Ds P ts ρ N R := fun G0 H0 G H σ o g r D n q => h G0 H0 G H σ o g (r.wipeE' vs) D n q
theorem dt_wipe {ts : TT} {Φ : Bool → Prop} (vs : List Nat) (h : Dt P ts (wipeE ρ vs) Φ) : Dt P ts ρ Φ := fun H0 G H σ o r Q k => h H0 G H σ o (r.wipeE' vs) Q k
theorem ds_forW {wi : TI} {g : TG} {tb : TS} (sc : List Nat) (Inv : Nat → List En → Prop)
    (h : Di P wi ρ fun xs => ∃ vs, Inv 0 (wipeE ρ sc) ∧ (∀ (i : Nat) x ρ', xs[i]? = some x → Inv i ρ' → Dg P g x ρ' vs fun ρ2 => Ds P tb ρ2 (fun ρ3 => Inv (i + 1) (wipeE ρ3 sc)) R) ∧ ∀ ρ', Inv xs.length ρ' → N ρ') : Ds P (tFor wi g tb) ρ N R := by
  intro G0 H0 G H σ o gr r D n q
  refine h H0 G H σ gr.ok r _ fun J G1 H1 xs g1 y ⟨vs, i0, hs, hd⟩ => ?_
  have s1 := g1.same gr.ok
  refine ⟨fun i m σ' H' => m + i = xs.length ∧ ∃ G' ρ', Grow P G0 H0 G' H' ∧ Same G1 G' ∧ Rel P H0 G' H' ρ' σ' ∧ Inv i ρ', ⟨xs.length, rfl, G1, _, gr.trans g1, Same.refl _, (r.up gr.ok g1).wipeE' sc, i0⟩, ?_⟩
  rintro i m σ' H' ⟨em, G', ρ', g', s', r', iv⟩
  obtain ⟨y1, y2⟩ := y G' H' g'.ok s'
  by_cases hi : i < xs.length
  · obtain ⟨go, yl⟩ := y1 i xs[i] (List.getElem?_eq_getElem hi)
    refine .inr ⟨go, fun σ2 H2 => ∃ G2 ρ2, Grow P G0 H0 G2 H2 ∧ Same G1 G2 ∧ Rel P H0 G2 H2 ρ2 σ2 ∧ Inv (i + 1) ρ2, fun σ2 H2 hh => ⟨m - 1, by omega, by omega, hh⟩, fun v H3 hy => ?_⟩
    obtain ⟨G3, g3, rv⟩ := yl v H3 hy
    refine hs i _ ρ' (List.getElem?_eq_getElem hi) iv H0 G3 H3 σ' v g3.ok (r'.up g'.ok g3) rv _ fun ρ2 σ2 r2 _ hb => ?_
    have s3 := s'.trans (g3.same g'.ok)
    exact hb G0 H0 G3 H3 σ2 o (g'.trans g3) r2 _ (fun ρ4 σ4 G4 H4 g4 s4 r4 p4 => ⟨G4, _, g4, s3.trans s4, r4.wipeE' sc, p4⟩) q
  · have e : i = xs.length := by omega
    subst e
    exact .inl ⟨y2, n ρ' σ' G' H' g' (s1.trans s') r' (hd ρ' iv)⟩
theorem ds_whileW {tt : TT} {tb : TS} (sc : List Nat) (Inv : Nat → List En → Prop) (m : Nat) (h0 : Inv m (wipeE ρ sc)) (hs : ∀ m ρ', Inv m ρ' → Dt P tt ρ' fun b => if b = true then Ds P tb ρ' (fun ρ2 => ∃ m', m' < m ∧ Inv m' (wipeE ρ2 sc)) R else N ρ') : Ds P (tWhile tt tb) ρ N R := by
  intro G0 H0 G H σ o gr r D n q
  refine ⟨fun m σ' H' => ∃ G' ρ', Grow P G0 H0 G' H' ∧ Same G G' ∧ Rel P H0 G' H' ρ' σ' ∧ Inv m ρ', ⟨m, G, _, gr, Same.refl _, r.wipeE' sc, h0⟩, ?_⟩
  rintro m σ' H' ⟨G', ρ', g', s', r', iv⟩
  refine hs m ρ' iv H0 G' H' σ' g'.ok r' _ fun b G1 H1 g1 p => ?_
  have s1 := s'.trans (g1.same g'.ok)
  cases b with
  | true =>
    refine ⟨fun σ2 H2 => ∃ m', m' < m ∧ ∃ G2 ρ2, Grow P G0 H0 G2 H2 ∧ Same G G2 ∧ Rel P H0 G2 H2 ρ2 σ2 ∧ Inv m' ρ2, fun σ2 H2 h => h, ?_⟩
    exact (p : Ds P tb ρ' _ R) G0 H0 G1 H1 σ' o (g'.trans g1) (r'.up g'.ok g1) _ (fun ρ4 σ4 G4 H4 g4 s4 r4 ⟨m', lt, p4⟩ => ⟨m', lt, G4, _, g4, s1.trans s4, r4.wipeE' sc, p4⟩) q
  | false => exact n ρ' σ' G1 H1 (g'.trans g1) s1 (r'.up g'.ok g1) p

/-! ### comprehensions -/
theorem dt_yes {Φ : Bool → Prop} (h : Φ true) : Dt P tYes ρ Φ := fun H0 G H σ o r Q k => k true G H (.refl o) h
theorem Ok.none_of {G H : Hp} (o : Ok P G H) {p : Addr} (h : H p = none) : G p = none := by
  cases e : G p with
  | none => rfl
  | some u => rw [o.sub _ _ e] at h; exact nomatch h
theorem Ok.nofd {G H : Hp} (o : Ok P G H) {p : Addr} (h : H p = none) : ¬ isF P p := fun f => by
  obtain ⟨c, s, z, t, q⟩ := o.fsome f
  rw [h] at q; exact nomatch q
/-- an object is put into sight -/
theorem Grow.show {G H G' H' : Hp} (g : Grow P G H G' H') {p : Addr} {u : HO} (h0 : H p = none) (h1 : H' p = some u) (hn : ¬ isF P p) : Grow P G H (upd G' p u) H' := by
  refine ⟨g.kp, fun b e => ?_, ⟨fun b v e => ?_, g.ok.feed, fun a f => ?_⟩⟩
  · rw [upd_ne (show b ≠ p from fun z => e (z ▸ h0))]; exact g.eqG b e
  · by_cases z : b = p
    · rw [z, upd_same] at e; rw [z, h1, e]
    · rw [upd_ne z] at e; exact g.ok.sub b v e
  · rw [upd_ne (show a ≠ p from fun z => hn (z ▸ f))]; exact g.ok.nf a f
/-- an object of one's own is changed -/
theorem Grow.put {G H G' H' : Hp} (g : Grow P G H G' H') (o : Ok P G H) {p : Addr} {u : HO} (h0 : H p = none) (h1 : G' p = none) (hn : ¬ isF P p) : Grow P G H G' (upd H' p u) := by
  have kp : ∀ b v, H' b = some v → b ≠ p → upd H' p u b = some v := fun b v e z => by rw [upd_ne z]; exact e
  refine ⟨fun b v e f => kp b v (g.kp b v e f) (ne_of_none e h0), g.eqG, ⟨fun b v e => kp b v (g.ok.sub b v e) (ne_of_none e h1), fun a c ns e => ?_, g.ok.nf⟩⟩
  obtain ⟨⟨s, q, t, s0, q1⟩, q2⟩ := g.ok.feed a c ns e
  obtain ⟨_, q3⟩ := o.feed a c ns e
  exact ⟨⟨s, q, t, s0, kp _ _ q1 (fun z => hn (z ▸ ⟨c, ns, e⟩))⟩, kp _ _ q2 (ne_of_none q3 h0)⟩
theorem upd_set {G : Hp} {p : Addr} {u : HO} (h : G p = none) : Same G (upd G p u) := fun b o e => by rw [upd_ne (ne_of_none e h)]; exact e
theorem wipe_at : ∀ (vs : List Nat) (σ : L2.St) (i : Nat), (wipe σ vs)[i]? = if i ∈ vs then σ[i]?.map (fun _ => none) else σ[i]?
  | [], σ, i => by rw [wipe.eq_1]; simp
  | j :: r, σ, i => by
    rw [wipe.eq_2, List.getElem?_set]
    have ih := wipe_at r σ i
    have hl : (wipe σ r).length = σ.length := by
      clear ih
      induction r with
      | nil => rw [wipe.eq_1]
      | cons a r ih => rw [wipe.eq_2, List.length_set, ih]
    by_cases e : j = i
    · subst e
      rw [if_pos rfl, if_pos List.mem_cons_self, hl]
      by_cases h : j < σ.length
      · rw [if_pos h, List.getElem?_eq_getElem h]; rfl
      · rw [if_neg h, List.getElem?_eq_none (by omega)]; rfl
    · rw [if_neg e, ih]
      by_cases m : i ∈ r
      · rw [if_pos m, if_pos (List.mem_cons_of_mem _ m)]
      · rw [if_neg m, if_neg (fun z => (List.mem_cons.mp z).elim (fun z => e z.symm) m)]
theorem wipe_idem (σ : L2.St) (vs : List Nat) : wipe (wipe σ vs) vs = wipe σ vs := by
  refine List.ext_getElem? fun i => ?_
  rw [wipe_at, wipe_at]
  by_cases m : i ∈ vs
  · rw [if_pos m, if_pos m]; cases σ[i]? <;> rfl
  · rw [if_neg m, if_neg m]
theorem de_lc {wi : TI} {g : TG} {tt : TT} {te : TE} {vs : List Nat} {Φ : KD} (Inv : Nat → List PyData → Prop)
    (h : Di P wi ρ fun xs => xs.length < sizeLine ∧ Inv 0 [] ∧ (∀ (i : Nat) x acc, xs[i]? = some x → Inv i acc → Dg P g x (wipeE ρ vs) vs fun ρ' => Dt P tt ρ' fun b => if b = true then De P te ρ' fun y => ∃ d, y = .d d ∧ Inv (i + 1) (acc ++ [d]) else Inv (i + 1) acc) ∧
      ∀ acc, Inv xs.length acc → Φ (.d (.list acc))) : De P (tLc wi g tt te vs) ρ Φ := by
  intro H0 G H σ o r Q k
  refine h H0 G H σ o r _ fun J G1 H1 xs g1 y ⟨hl, i0, hs, hd⟩ => fun A nA => ?_
  have fA := g1.ok.nofd nA
  have r1 := r.up o g1
  refine ⟨fun i m H' => m + i = xs.length ∧ ∃ G' us acc, Grow P G1 H1 G' H' ∧ G' A = none ∧ H' A = some (.lst us) ∧ DqA G' us acc ∧ acc.length ≤ i ∧ Inv i acc, ⟨xs.length, rfl, G1, [], [], g1.ok.hid nA, g1.ok.none_of nA, upd_same, .nil, Nat.le_refl _, i0⟩, ?_⟩
  rintro i m H' ⟨em, G', us, acc, g', hG, hH, hA, la, iv⟩
  have s' := g'.same g1.ok
  obtain ⟨y1, y2⟩ := y G' H' g'.ok s'
  by_cases hi : i < xs.length
  · obtain ⟨go, yl⟩ := y1 i xs[i] (List.getElem?_eq_getElem hi)
    refine .inr ⟨go, fun H2 => ∃ G2 us acc, Grow P G1 H1 G2 H2 ∧ G2 A = none ∧ H2 A = some (.lst us) ∧ DqA G2 us acc ∧ acc.length ≤ i + 1 ∧ Inv (i + 1) acc, fun H2 hh => ⟨m - 1, by omega, by omega, hh⟩, fun v H3 hy => ?_⟩
    obtain ⟨G3, g3, rv⟩ := yl v H3 hy
    have rw3 := ((r1.up g1.ok g').up g'.ok g3).wipe vs
    refine hs i _ acc (List.getElem?_eq_getElem hi) iv H0 G3 H3 _ v g3.ok rw3 rv _ fun ρ2 σ2 r2 w2 hb => ?_
    have keep : ∀ G4 H4, Grow P G3 H3 G4 H4 → G4 A = none ∧ H4 A = some (.lst us) ∧ DqA G4 us acc := fun G4 H4 g4 => by
      have a1 := g3.hid hG hH (fun _ z => nomatch z)
      have a2 := g3.kp _ _ hH fA
      exact ⟨g4.hid a1 a2 (fun _ z => nomatch z), g4.kp _ _ a2 fA, dpA_up ((g3.same g'.ok).trans (g4.same g3.ok)) hA⟩
    refine ⟨w2.trans (wipe_idem _ _), ?_⟩
    refine hb H0 G3 H3 σ2 g3.ok r2 _ fun b G4 H4 g4 hb4 => ?_
    obtain ⟨k1, k2, k3⟩ := keep G4 H4 g4
    cases b with
    | false => exact ⟨G4, us, acc, (g'.trans g3).trans g4, k1, k2, k3, by omega, hb4⟩
    | true =>
      refine (hb4 : De P te ρ2 _) H0 G4 H4 σ2 g4.ok (r2.up g3.ok g4) _ fun w G5 H5 z g5 rz ⟨d, e, p⟩ => ?_
      subst e
      obtain ⟨k1, k2, k3⟩ := keep G5 H5 (g4.trans g5)
      refine ⟨us, k2, by rw [dpA_len k3]; omega, G5, us ++ [w], acc ++ [d], ?_, k1, upd_same, dpA_app k3 (.cons rz .nil), by rw [List.length_append, List.length_singleton]; omega, p⟩
      exact (((g'.trans g3).trans g4).trans g5).put g1.ok nA k1 fA
  · have e : i = xs.length := by omega
    subst e
    refine .inl ⟨y2, k _ (upd G' A (.lst us)) H' (.d (.list acc)) (g1.trans (g'.show nA hH fA)) (.lst upd_same (dpA_up (upd_set hG) hA)) (hd acc iv)⟩
end Z

/-! # ZCall -/
set_option Elab.async false
set_option linter.all false
set_option maxRecDepth 100000
set_option maxHeartbeats 200000
/-! Promises over plain data, calls, operators, dicts, what is one's own. -/
namespace Z
open PySem PySem.Spec PyProof.Rows L2
variable {P : Pm} {ρ : List En} {N : List En → Prop} {R : KD}

theorem rvL1 {G : Hp} {vs : List V} {x : Dv} (h : RvL P G vs [x]) : ∃ v, vs = [v] ∧ Rv P G v x := by
  match vs, h with
  | [v], ⟨h, _⟩ => exact ⟨v, rfl, h⟩
theorem rvL2 {G : Hp} {vs : List V} {x y : Dv} (h : RvL P G vs [x, y]) : ∃ v w, vs = [v, w] ∧ Rv P G v x ∧ Rv P G w y := by
  match vs, h with
  | [v, w], ⟨h, h2, _⟩ => exact ⟨v, w, rfl, h, h2⟩
theorem rvL3 {G : Hp} {vs : List V} {x y z : Dv} (h : RvL P G vs [x, y, z]) : ∃ v w u, vs = [v, w, u] ∧ Rv P G v x ∧ Rv P G w y ∧ Rv P G u z := by
  match vs, h with
  | [v, w, u], ⟨h, h2, h3, _⟩ => exact ⟨v, w, u, rfl, h, h2, h3⟩
theorem rv_ro {G : Hp} {v : V} {n r : PyData} {p : List PyData} (h : Rv P G v (.ro n r p)) : ∃ a dx vn vr vp, v = .ref a ∧ G a = some (.ins P.C dx [("held_net", vn), ("held_root", vr), ("held_pairs", vp)]) ∧ Dq G vn n ∧ Dq G vr r ∧ PtAt G vp p := h
/-! ### promises -/
abbrev Law := List Dv → KD → Prop
def mkSp (K : PySem.W.Frag) (C : Addr) (S : Law) : Sp := fun vs H Q _ => ∃ fd G xs Φ, Ok ⟨K, C, fd⟩ G H ∧ RvL ⟨K, C, fd⟩ G vs xs ∧ S xs Φ ∧ ∀ v G' H' x, Grow ⟨K, C, fd⟩ G H G' H' → Rv ⟨K, C, fd⟩ G' v x → Φ x → Q v H'
def ρ0 (N : List Str) (xs : List Dv) : List En := xs.map .fz ++ List.replicate (N.length - xs.length) .un
theorem rel0 {G H : Hp} (o : Ok P G H) {vs : List V} {xs : List Dv} (h : RvL P G vs xs) (N : List Str) : Rel P H G H (ρ0 N xs) (L2.start N vs) := by
  have hl := rvL_len h
  refine ⟨by rw [ρ0, L2.start]; simp [hl], fun i e he => ?_, fun _ h => h, fun a f => ?_⟩
  · rw [ρ0] at he
    by_cases hi : i < xs.length
    · rw [List.getElem?_append_left (by simpa using hi), List.getElem?_map] at he
      have : ∀ {vs : List V} {xs : List Dv} {i : Nat} {x : Dv}, RvL P G vs xs → xs[i]? = some x → ∃ v, vs[i]? = some v ∧ Rv P G v x := by
        intro vs
        induction vs with
        | nil => intro xs i x h e; cases xs with
          | nil => exact nomatch e
          | cons => exact False.elim h
        | cons v vs ih =>
          intro xs i x h e
          cases xs with
          | nil => exact nomatch e
          | cons y ys =>
            cases i with
            | zero => cases e; exact ⟨v, rfl, h.1⟩
            | succ i => exact ih h.2 e
      cases e1 : xs[i]? with
      | none => rw [e1] at he; exact nomatch he
      | some x =>
        rw [e1] at he; cases he
        obtain ⟨v, h1, h2⟩ := this h e1
        refine ⟨some v, ?_, v, rfl, h2⟩
        rw [L2.start, List.getElem?_append_left (by rw [List.length_map]; omega), List.getElem?_map, h1]; rfl
    · rw [List.getElem?_append_right (by rw [List.length_map]; omega)] at he
      have he' : (List.replicate (N.length - xs.length) En.un)[i - (xs.map En.fz).length]? = some e := he
      rw [List.getElem?_replicate] at he'
      split at he'
      · rename_i hh
        cases he'
        rw [List.length_map] at hh
        refine ⟨none, ?_, True.intro⟩
        rw [L2.start, List.getElem?_append_right (by rw [List.length_map]; omega), List.getElem?_replicate, if_pos (by rw [List.length_map]; omega)]
      · exact nomatch he'
  · obtain ⟨c, s, z, t, q⟩ := o.fsome f
    rw [q]; exact fun z => nomatch z
/-- a def of the text keeps its promise -/
theorem okD {Pr : Program} {w : World} {K : PySem.W.Frag} {mg : Str → Option Value} {base : Heap} {x qual : Str} {params : Arguments} {body : List Stmt} {scope : Scope} {dvs : List V} {kws : List (Str × V)} {f C : Addr} {fd : FuncData} {M ps : List Str} {k : Nat} {S : Law}
    (F : FunD K x qual params body scope dvs kws f fd) (sc : FnScope M ps scope) (len : ∀ xs Φ, S xs Φ → xs.length = ps.length)
    (walk : ∀ (cdv : Value) (A : Around) (outer : List Env) (s : Shared) (H : Hp) (E : XK), Room k (A.deeper (envOfC qual scope s.heap.objs.size f cdv)) →
      ∃ t, PSs (cxOf CX0 Pr w K mg base M qual scope f cdv A outer s H E).nox body t ∧ ∀ fd xs Φ, S xs Φ → Ds ⟨K, C, fd⟩ t (ρ0 M xs) (fun _ => Φ (.d .none)) Φ) :
    FnOk Pr w K mg base CX0 (k + 1) f fd ps (mkSp K C S) := by
  refine F.ok sc (fun vs H Q E h => ?_) (fun cdv A outer s H vs Q E hr h => ?_)
  · obtain ⟨fd', G, xs, Φ, o, r, hS, _⟩ := h
    rw [rvL_len r]; exact len xs Φ hS
  · obtain ⟨t, ht, hd⟩ := walk cdv A outer s H E hr
    obtain ⟨fd', G, xs, Φ, o, r, hS, q⟩ := h
    refine ⟨t, PSs.nox ht, ?_⟩
    exact hd fd' xs Φ hS G H G H _ o (.refl o) (rel0 o r M) _ (fun ρ' σ' G' H' g _ _ p => q .non G' H' (.d .none) g .non p) (fun v G' H' x g rv p => q v G' H' x g rv p)
theorem de_call {S : Law} {dvs : List V} {dxs : List Dv} {E : XK} {ta : TA} {Φ : KD} (hd : ∀ G, RvL P G dvs dxs) (h : Da P ta ρ fun xs => S (xs ++ dxs) Φ) : De P (tCall (mkSp P.K P.C S) dvs E ta) ρ Φ := by
  intro H0 G H σ o r Q k
  refine h H0 G H σ o r _ fun vs G1 H1 xs g1 rv p => ?_
  exact ⟨P.fd, G1, xs ++ dxs, Φ, g1.ok, rvL_app rv (hd G1), p, fun v G' H' x g rz hz => k v G' H' x (g1.trans g) rz hz⟩
theorem de_call0 {S : Law} {E : XK} {ta : TA} {Φ : KD} (h : Da P ta ρ fun xs => S xs Φ) : De P (tCall (mkSp P.K P.C S) [] E ta) ρ Φ :=
  de_call (dxs := []) (fun _ => True.intro) (h.mono fun xs p => by rw [List.append_nil]; exact p)
theorem de_fld {te : TE} {f : Str} {Φ : KD} (hc : Cls P.K P.C) (hn : NoAttr P.K P.C f) (h : De P te ρ fun x => ∃ n r p y, x = .ro n r p ∧ [((("held_net" : Str)), Dv.d n), ("held_root", Dv.d r), ("held_pairs", Dv.pt p)].lookup f = some y ∧ Φ y) : De P (tFld P.K te f) ρ Φ := by
  intro H0 G H σ o r Q k
  refine h H0 G H σ o r _ fun v G1 H1 x g1 rv ⟨n, r, p, y, e, hl, hΦ⟩ => ?_
  subst e
  obtain ⟨a, dx, vn, vr, vp, rfl, ha, h1, h2, h3⟩ := rv
  have look : ∃ u, [((("held_net" : Str)), vn), ("held_root", vr), ("held_pairs", vp)].lookup f = some u ∧ Rv P G1 u y := by
    simp only [List.lookup_cons, List.lookup_nil] at hl ⊢
    by_cases e1 : (f == ("held_net" : Str)) = true
    · rw [e1] at hl ⊢; cases hl; exact ⟨_, rfl, h1⟩
    · simp only [e1] at hl ⊢
      by_cases e2 : (f == ("held_root" : Str)) = true
      · rw [e2] at hl ⊢; cases hl; exact ⟨_, rfl, h2⟩
      · simp only [e2] at hl ⊢
        by_cases e3 : (f == ("held_pairs" : Str)) = true
        · rw [e3] at hl ⊢; cases hl; exact ⟨_, rfl, h3⟩
        · simp only [e3] at hl; exact nomatch hl
  obtain ⟨u, hu, hd⟩ := look
  exact ⟨a, P.C, dx, _, u, rfl, g1.ok.sub _ _ ha, hc, hn, hu, k u G1 H1 y g1 hd hΦ⟩
/-- a promise of a method, its self first -/
theorem de_meth {S : Law} {m : Str} {E : XK} {te : TE} {ta : TA} {Φ : KD} (hm : [((("held_net" : Str)), V.non), ("held_root", V.non), ("held_pairs", V.non)].lookup m = none)
    (h : De P te ρ fun x => ∃ n r p, x = .ro n r p ∧ Da P ta ρ fun xs => S (.ro n r p :: xs) Φ) : De P (tMeth P.C m (mkSp P.K P.C S) [] E te ta) ρ Φ := by
  intro H0 G H σ o rl Q k
  refine h H0 G H σ o rl _ fun v G1 H1 x g1 rv ⟨n, r, p, e, hS⟩ => ?_
  subst e
  have rv' := rv
  obtain ⟨a, dx, vn, vr, vp, rfl, ha, h1, h2, h3⟩ := rv
  refine ⟨a, dx, _, rfl, g1.ok.sub _ _ ha, ?_, ?_⟩
  · simp only [List.lookup_cons, List.lookup_nil] at hm ⊢
    revert hm
    cases (m == ("held_net" : Str)) <;> cases (m == ("held_root" : Str)) <;> cases (m == ("held_pairs" : Str)) <;> simp
  · refine hS H0 G1 H1 σ g1.ok (rl.up o g1) _ fun vs G2 H2 xs g2 rvs p2 => ?_
    refine ⟨P.fd, G2, .ro n r p :: xs, Φ, g2.ok, ?_, p2, fun v G' H' x g rz hz => k v G' H' x ((g1.trans g2).trans g) rz hz⟩
    rw [List.append_nil]
    exact ⟨rv_up (g2.same g1.ok) rv', rvs⟩
theorem de_prop {S : Law} {E : XK} {te : TE} {Φ : KD} (h : De P te ρ fun x => ∃ n r p, x = .ro n r p ∧ S [.ro n r p] Φ) : De P (tProp P.C (mkSp P.K P.C S) [] E te) ρ Φ := by
  intro H0 G H σ o rl Q k
  refine h H0 G H σ o rl _ fun v G1 H1 x g1 rv ⟨n, r, p, e, hS⟩ => ?_
  subst e
  have rv' := rv
  obtain ⟨a, dx, vn, vr, vp, rfl, ha, h1, h2, h3⟩ := rv
  exact ⟨a, dx, _, rfl, g1.ok.sub _ _ ha, P.fd, G1, [.ro n r p], Φ, g1.ok, ⟨rv', True.intro⟩, hS, fun v G' H' x g rz hz => k v G' H' x (g1.trans g) rz hz⟩
theorem dop_ownIn {S : Law} {E : XK} {x : Dv} {n r : PyData} {p : List PyData} {neg : Bool} {Φ : KD} (h : S [.ro n r p, x] fun z => ∃ b, z = .d (.bool b) ∧ Φ (.d (.bool (if neg then !b else b)))) : DOp P (rOwnIn P.C (mkSp P.K P.C S) E neg) x (.ro n r p) Φ := by
  intro G H u v o ru rv Q k
  have rv' := rv
  obtain ⟨a, dx, vn, vr, vp, rfl, ha, h1, h2, h3⟩ := rv
  refine ⟨a, dx, _, rfl, o.sub _ _ ha, P.fd, G, [.ro n r p, x], _, o, ⟨rv', ru, True.intro⟩, h, fun v G' H' x g rz ⟨b, e, hΦ⟩ => ?_⟩
  subst e
  cases rz
  exact ⟨b, rfl, k _ G' H' (.d (.bool _)) g (Dq.bl _) hΦ⟩
theorem dop_ownIx {S : Law} {E : XK} {x : Dv} {n r : PyData} {p : List PyData} {Φ : KD} (h : S [.ro n r p, x] Φ) : DOp P (rOwnIx P.C (mkSp P.K P.C S) E) (.ro n r p) x Φ := by
  intro G H u v o ru rv Q k
  have ru' := ru
  obtain ⟨a, dx, vn, vr, vp, rfl, ha, h1, h2, h3⟩ := ru
  exact ⟨a, dx, _, rfl, o.sub _ _ ha, P.fd, G, [.ro n r p, x], _, o, ⟨ru', rv, True.intro⟩, h, fun v G' H' x g rz hΦ => k _ G' H' _ g rz hΦ⟩
theorem dc_ownLen {S : Law} {E : XK} {n r : PyData} {p : List PyData} {Φ : KD} (h : S [.ro n r p] fun z => ∃ m : Nat, z = .d (.int m) ∧ (m : Int) < 2 ^ 63 ∧ Φ (.d (.int m))) : DC P (rOwnLen P.C (mkSp P.K P.C S) E) [.ro n r p] Φ := by
  intro G H vs o rv Q k
  obtain ⟨v, rfl, rv'⟩ := rvL1 rv
  obtain ⟨a, dx, vn, vr, vp, ev, ha, h1, h2, h3⟩ := rv_ro rv'
  subst ev
  refine ⟨a, dx, _, rfl, o.sub _ _ ha, P.fd, G, [.ro n r p], _, o, ⟨rv', True.intro⟩, h, fun v G' H' x g rz hz => ?_⟩
  obtain ⟨m, e, lt, hΦ⟩ := hz
  subst e
  cases rz
  refine ⟨m, rfl, lt, ?_⟩
  exact k _ G' H' (.d (.int _)) g (Dq.int _) hΦ
theorem dop_ownEq {S : Law} {E : XK} {x : Dv} {n r : PyData} {p : List PyData} {neg : Bool} {Φ : KD} (hx : (∃ n r p, x = .ro n r p) ∨ ∃ ds, x = .d (.tuple ds)) (h : S [.ro n r p, x] fun z => ∃ b, z = .d (.bool b) ∧ Φ (.d (.bool (if neg then !b else b)))) : DOp P (rOwnEq P.K P.C (mkSp P.K P.C S) E neg) (.ro n r p) x Φ := by
  intro G H u v o ru rv Q k
  have ru' := ru
  obtain ⟨a, dx, vn, vr, vp, rfl, ha, h1, h2, h3⟩ := ru
  refine ⟨a, dx, _, rfl, o.sub _ _ ha, ?_, P.fd, G, [.ro n r p, x], _, o, ⟨ru', rv, True.intro⟩, h, fun v G' H' x g rz ⟨b, e, hΦ⟩ => ?_⟩
  · rcases hx with ⟨n, r, p, rfl⟩ | ⟨ds, rfl⟩
    · obtain ⟨a, dx, vn, vr, vp, rfl, ha, _⟩ := rv
      exact ⟨a, rfl, .inl ⟨_, _, o.sub _ _ ha⟩⟩
    · cases rv with
      | tup ha hd => exact ⟨_, rfl, .inr ⟨_, .inl (.inl (o.sub _ _ ha))⟩⟩
  · subst e
    cases rz
    exact ⟨b, rfl, k _ G' H' (.d (.bool _)) g (Dq.bl _) hΦ⟩

/-! ### operators -/
theorem DOp.inl {r r' : R2} {x y : Dv} {Φ : KD} (h : DOp P r x y Φ) : DOp P (fun x y H Q => r x y H Q ∨ r' x y H Q) x y Φ := fun G H u v o ru rv Q k => .inl (h G H u v o ru rv Q k)
theorem DOp.inr {r r' : R2} {x y : Dv} {Φ : KD} (h : DOp P r' x y Φ) : DOp P (fun x y H Q => r x y H Q ∨ r' x y H Q) x y Φ := fun G H u v o ru rv Q k => .inr (h G H u v o ru rv Q k)
theorem DC.inl {r r' : List V → Hp → VK → Prop} {x : List Dv} {Φ : KD} (h : DC P r x Φ) : DC P (fun x H Q => r x H Q ∨ r' x H Q) x Φ := fun G H u o ru Q k => .inl (h G H u o ru Q k)
theorem DC.inr {r r' : List V → Hp → VK → Prop} {x : List Dv} {Φ : KD} (h : DC P r' x Φ) : DC P (fun x H Q => r x H Q ∨ r' x H Q) x Φ := fun G H u o ru Q k => .inr (h G H u o ru Q k)
theorem dop_i0 {g : Int → Int → Int} {i j : Int} {Φ : KD} (q : Φ (.d (.int (g i j)))) : DOp P (rI0 fun i j => .int (g i j)) (.d (.int i)) (.d (.int j)) Φ := by
  intro G H u v o ru rv Q k
  cases ru; cases rv
  exact ⟨i, j, rfl, rfl, k _ G H (.d (.int _)) (.refl o) (Dq.int _) q⟩
theorem dop_b0 {g : Int → Int → Bool} {i j : Int} {Φ : KD} (q : Φ (.d (.bool (g i j)))) : DOp P (rI0 fun i j => .bl (g i j)) (.d (.int i)) (.d (.int j)) Φ := by
  intro G H u v o ru rv Q k
  cases ru; cases rv
  exact ⟨i, j, rfl, rfl, k _ G H (.d (.bool _)) (.refl o) (Dq.bl _) q⟩
theorem dop_i {c : Int → Int → Prop} {g : Int → Int → Int} {i j : Int} {Φ : KD} (hc : c i j) (q : Φ (.d (.int (g i j)))) : DOp P (rI c fun i j => .int (g i j)) (.d (.int i)) (.d (.int j)) Φ := by
  intro G H u v o ru rv Q k
  cases ru; cases rv
  exact ⟨i, j, rfl, rfl, hc, k _ G H (.d (.int _)) (.refl o) (Dq.int _) q⟩
theorem dop_eq {x y : PyData} {b : Bool} {Φ : KD} (h : ∀ G u v, Dq G u x → Dq G v y → scal u v = true ∧ decide (u = v) = b) (q : Φ (.d (.bool b))) : DOp P rEq (.d x) (.d y) Φ := by
  intro G H u v o ru rv Q k
  obtain ⟨h1, h2⟩ := h G u v ru rv
  refine ⟨h1, ?_⟩
  rw [h2]
  exact k _ G H (.d (.bool _)) (.refl o) (Dq.bl _) q
theorem dop_ne {x y : PyData} {b : Bool} {Φ : KD} (h : ∀ G u v, Dq G u x → Dq G v y → scal u v = true ∧ decide (u = v) = b) (q : Φ (.d (.bool (!b)))) : DOp P rNe (.d x) (.d y) Φ := by
  intro G H u v o ru rv Q k
  obtain ⟨h1, h2⟩ := h G u v ru rv
  refine ⟨h1, ?_⟩
  rw [h2]
  exact k _ G H (.d (.bool _)) (.refl o) (Dq.bl _) q
theorem eq_ss {a b : Str} : ∀ (G : Hp) u v, Dq G u (.str a) → Dq G v (.str b) → scal u v = true ∧ decide (u = v) = decide (a = b) := by
  intro G u v h1 h2
  cases h1; cases h2
  exact ⟨rfl, decide_eq_decide.mpr ⟨fun e => V.str.inj e, fun e => by rw [e]⟩⟩
theorem eq_ii {a b : Int} : ∀ (G : Hp) u v, Dq G u (.int a) → Dq G v (.int b) → scal u v = true ∧ decide (u = v) = decide (a = b) := by
  intro G u v h1 h2
  cases h1; cases h2
  exact ⟨rfl, decide_eq_decide.mpr ⟨fun e => V.int.inj e, fun e => by rw [e]⟩⟩
theorem eq_in {a : Int} : ∀ (G : Hp) u v, Dq G u (.int a) → Dq G v .none → scal u v = true ∧ decide (u = v) = false := by
  intro G u v h1 h2
  cases h1; cases h2
  exact ⟨rfl, decide_eq_false (fun e => nomatch e)⟩
theorem dop_eqD {x y : PyData} {Φ : KD} (hx : SeqAt.shaped x = true) (hy : SeqAt.shaped y = true) (q : Φ (.d (.bool (PyData.eqv x y)))) : DOp P (rEqD P.K) (.d x) (.d y) Φ := by
  intro G H u v o ru rv Q k
  exact ⟨x, y, (dp_up o.sub ru).dp, (dp_up o.sub rv).dp, hx, hy, k _ G H (.d (.bool _)) (.refl o) (Dq.bl _) q⟩
theorem dop_neD {x y : PyData} {Φ : KD} (hx : SeqAt.shaped x = true) (hy : SeqAt.shaped y = true) (q : Φ (.d (.bool (!PyData.eqv x y)))) : DOp P (rNeD P.K) (.d x) (.d y) Φ := by
  intro G H u v o ru rv Q k
  exact ⟨x, y, (dp_up o.sub ru).dp, (dp_up o.sub rv).dp, hx, hy, k _ G H (.d (.bool _)) (.refl o) (Dq.bl _) q⟩
theorem dop_lts {r : R2} {c : Str → Str → Bool} {a b : Str} {Φ : KD} (hr : r = fun x y H Q => ∃ i j, x = .str i ∧ y = .str j ∧ Q (.bl (c i j)) H) (q : Φ (.d (.bool (c a b)))) : DOp P r (.d (.str a)) (.d (.str b)) Φ := by
  subst hr
  intro G H u v o ru rv Q k
  cases ru; cases rv
  exact ⟨a, b, rfl, rfl, k _ G H (.d (.bool _)) (.refl o) (Dq.bl _) q⟩
theorem de_isN {te : TE} {Φ : KD} (h : De P te ρ fun x => ∃ d, x = .d d ∧ Φ (.d (.bool (match d with | .none => true | _ => false)))) : De P (tIsN te) ρ Φ := by
  intro H0 G H σ o r Q k
  refine h H0 G H σ o r _ fun v G1 H1 x g1 rv ⟨d, e, p⟩ => ?_
  subst e
  have e : ∀ {d : PyData}, Dq G1 v d → (decide (v = V.non)) = (match d with | .none => true | _ => false) := by
    intro d h
    cases h <;> first | rfl | exact decide_eq_false (fun e => by cases e)
  rw [e rv]
  exact k _ G1 H1 (.d (.bool _)) g1 (Dq.bl _) p
theorem dpA_flat {G : Hp} : ∀ {vs : List V} {ds : List PyData}, DqA G vs ds → ds.all (fun d => match d with | .none => true | .bool _ => true | .int _ => true | .str _ => true | _ => false) = true → vs.all flatV = true
  | _, _, .nil, _ => rfl
  | _, _, .cons h t, e => by
    rw [List.all_cons, Bool.and_eq_true] at e
    rw [List.all_cons, Bool.and_eq_true]
    refine ⟨?_, dpA_flat t e.2⟩
    cases h <;> first | rfl | exact nomatch e.1
/-- x in a row of texts, of whole numbers -/
theorem inV_str {G : Hp} {a : Str} : ∀ {vs : List V} {ds : List Str}, DqA G vs (ds.map .str) → inV (.str a) vs = decide (a ∈ ds)
  | _, [], .nil => rfl
  | _, d :: ds, .cons h t => by
    cases h
    have ih := inV_str (a := a) t
    unfold inV at ih ⊢
    rw [List.any_cons, ih]
    show ((d == a) || decide (a ∈ ds)) = _
    by_cases e : d = a
    · subst e; simp
    · rw [beq_eq_false_iff_ne.mpr e, Bool.false_or]
      exact decide_eq_decide.mpr ⟨fun h => List.mem_cons_of_mem _ h, fun h => (List.mem_cons.mp h).elim (fun z => absurd z.symm e) id⟩
theorem inV_int {G : Hp} {a : Int} : ∀ {vs : List V} {ds : List Int}, DqA G vs (ds.map .int) → inV (.int a) vs = decide (a ∈ ds)
  | _, [], .nil => rfl
  | _, d :: ds, .cons h t => by
    cases h
    have ih := inV_int (a := a) t
    unfold inV at ih ⊢
    rw [List.any_cons, ih]
    show ((d == a) || decide (a ∈ ds)) = _
    by_cases e : d = a
    · subst e; simp
    · rw [beq_eq_false_iff_ne.mpr e, Bool.false_or]
      exact decide_eq_decide.mpr ⟨fun h => List.mem_cons_of_mem _ h, fun h => (List.mem_cons.mp h).elim (fun z => absurd z.symm e) id⟩
/-- a row: a list or a tuple -/
def Row (y : PyData) (ds : List PyData) : Prop := y = .list ds ∨ y = .tuple ds
theorem row_at {G : Hp} {v : V} {y : PyData} {ds : List PyData} (h : Row y ds) (r : Dq G v y) {K : PySem.W.Frag} {H : Hp} (s : Same G H) : ∃ p xs, v = .ref p ∧ (SqL K H p xs ∨ SqT K H p xs) ∧ DqA G xs ds := by
  rcases h with rfl | rfl
  · cases r with
    | lst ha hd => exact ⟨_, _, rfl, .inl (.inl (.inl (s _ _ ha))), hd⟩
  · cases r with
    | tup ha hd => exact ⟨_, _, rfl, .inr (.inl (.inl (s _ _ ha))), hd⟩
theorem dop_inS {neg : Bool} {a : Str} {y : PyData} {ds : List Str} {Φ : KD} (hy : Row y (ds.map .str)) (q : Φ (.d (.bool (if neg then !decide (a ∈ ds) else decide (a ∈ ds))))) : DOp P (rIn P.K neg) (.d (.str a)) (.d y) Φ := by
  intro G H u v o ru rv Q k
  cases ru
  obtain ⟨p, xs, rfl, hs, hd⟩ := row_at (K := P.K) hy rv o.sub
  refine ⟨p, xs, rfl, hs, rfl, dpA_flat hd (by simp), ?_⟩
  rw [inV_str hd]
  exact k _ G H (.d (.bool _)) (.refl o) (Dq.bl _) q
theorem dop_inI {neg : Bool} {a : Int} {y : PyData} {ds : List Int} {Φ : KD} (hy : Row y (ds.map .int)) (q : Φ (.d (.bool (if neg then !decide (a ∈ ds) else decide (a ∈ ds))))) : DOp P (rIn P.K neg) (.d (.int a)) (.d y) Φ := by
  intro G H u v o ru rv Q k
  cases ru
  obtain ⟨p, xs, rfl, hs, hd⟩ := row_at (K := P.K) hy rv o.sub
  refine ⟨p, xs, rfl, hs, rfl, dpA_flat hd (by simp), ?_⟩
  rw [inV_int hd]
  exact k _ G H (.d (.bool _)) (.refl o) (Dq.bl _) q
/-- a row's item -/
theorem dop_ix {y : PyData} {ds : List PyData} {i : Int} {d : PyData} {Φ : KD} (hy : Row y ds) (hi : atI ds i = some d) (q : Φ (.d d)) : DOp P (rIx P.K) (.d y) (.d (.int i)) Φ := by
  intro G H u v o ru rv Q k
  cases rv
  have at_ : ∀ {xs : List V}, DqA G xs ds → ∃ w, atI xs i = some w ∧ Dq G w d := by
    intro xs hd
    unfold atI at hi ⊢
    rw [dpA_len hd]
    cases e : ixN ds.length i with
    | none => rw [e] at hi; exact nomatch hi
    | some j =>
      rw [e] at hi
      obtain ⟨w, h1, h2⟩ := dpA_at hd hi
      exact ⟨w, h1, h2⟩
  rcases hy with rfl | rfl
  · cases ru with
    | lst ha hd =>
      obtain ⟨w, h1, h2⟩ := at_ hd
      exact .inl ⟨_, _, i, w, rfl, rfl, .inl (.inl (o.sub _ _ ha)), h1, k w G H (.d d) (.refl o) h2 q⟩
  · cases ru with
    | tup ha hd =>
      obtain ⟨w, h1, h2⟩ := at_ hd
      exact .inr (.inl ⟨_, _, i, w, rfl, rfl, .inl (.inl (o.sub _ _ ha)), h1, k w G H (.d d) (.refl o) h2 q⟩)
theorem dop_cat {xs ys : List PyData} {Φ : KD} (hl : xs.length + ys.length ≤ sizeLine) (q : Φ (.d (.list (xs ++ ys)))) : DOp P rCat (.d (.list xs)) (.d (.list ys)) Φ := by
  intro G H u v o ru rv Q k
  cases ru with
  | lst ha hd => cases rv with
    | lst hb he =>
      refine ⟨_, _, _, _, rfl, rfl, o.sub _ _ ha, o.sub _ _ hb, by rw [dpA_len hd, dpA_len he]; exact hl, fun p hp => ?_⟩
      exact k _ _ _ (.d (.list (xs ++ ys))) (o.new hp) (.lst upd_same (dpA_up ((o.new hp).same o) (dpA_app hd he))) q
theorem dpA_nil {G : Hp} {ds : List PyData} (h : DqA G [] ds) : ds = [] := by cases h; rfl
theorem dop_catA {xs ys : List PyData} {Φ : KD} (hl : xs.length + ys.length ≤ sizeLine) (q : Φ (.d (.tuple (xs ++ ys)))) : DOp P (rCatA P.K) (.d (.tuple xs)) (.d (.tuple ys)) Φ := by
  intro G H u v o ru rv Q k
  have ru' := ru
  have rv' := rv
  cases ru with
  | tup ha hd => cases rv with
    | tup hb he =>
      refine ⟨_, _, _, _, rfl, rfl, .inl (.inl (o.sub _ _ ha)), .inl (.inl (o.sub _ _ hb)), by rw [dpA_len hd, dpA_len he]; exact hl, fun e => ?_, fun _ e => ?_, fun _ _ p hp => ?_⟩
      · subst e; have := dpA_nil hd; subst this
        exact k _ G H _ (.refl o) rv' q
      · subst e; have := dpA_nil he; subst this
        rw [List.append_nil] at q
        exact k _ G H _ (.refl o) ru' q
      · exact k _ _ _ (.d (.tuple (xs ++ ys))) (o.new hp) (.tup upd_same (dpA_up ((o.new hp).same o) (dpA_app hd he))) q
end Z

/-! # ZRule -/
set_option Elab.async false
set_option linter.all false
set_option maxRecDepth 100000
set_option maxHeartbeats 400000
/-! Built-ins, dicts, what is one's own, dict comprehensions, locks: over plain data. -/
namespace Z
open PySem PySem.Spec PyProof.Rows L2
variable {P : Pm} {ρ : List En} {N : List En → Prop} {R : KD}

theorem dc_len {y : PyData} {ds : List PyData} {Φ : KD} (hy : Row y ds) (q : Φ (.d (.int (ds.length : Nat)))) : DC P (rLen P.K) [.d y] Φ := by
  intro G H vs o rv Q k
  obtain ⟨v, rfl, rv1⟩ := rvL1 rv
  obtain ⟨p, xs, rfl, hs, hd⟩ := row_at (K := P.K) hy rv1 o.sub
  refine ⟨_, ds.length, rfl, ?_, k _ G H (.d (.int _)) (.refl o) (Dq.int _) q⟩
  rcases hs with h | h
  · exact .inl ⟨xs, h, (dpA_len hd).symm⟩
  · exact .inr ⟨xs, h, (dpA_len hd).symm⟩
theorem dc_lens {z : Str} {Φ : KD} (hl : z.length ≤ sizeLine) (q : Φ (.d (.int (z.length : Nat)))) : DC P (rLen P.K) [.d (.str z)] Φ := by
  intro G H vs o rv Q k
  obtain ⟨v, rfl, rv1⟩ := rvL1 rv
  cases rv1
  exact ⟨_, z.length, rfl, ⟨hl, rfl⟩, k _ G H (.d (.int _)) (.refl o) (Dq.int _) q⟩
theorem dc_tupL {ds : List PyData} {Φ : KD} (q : Φ (.d (.tuple ds))) : DC P (fun xs H Q => ∃ p ys, xs = [V.ref p] ∧ ((SqL P.K H p ys ∧ ∀ l, H l = none → Q (.ref l) (upd H l (.tup ys))) ∨ (SqT P.K H p ys ∧ Q (.ref p) H))) [.d (.list ds)] Φ := by
  intro G H vs o rv Q k
  obtain ⟨v, rfl, rv1⟩ := rvL1 rv
  cases rv1 with
  | lst ha hd => exact ⟨_, _, rfl, .inl ⟨.inl (.inl (o.sub _ _ ha)), fun p hp => k _ _ _ (.d (.tuple ds)) (o.new hp) (.tup upd_same (dpA_up ((o.new hp).same o) hd)) q⟩⟩
theorem dc_lst {y : PyData} {ds : List PyData} {Φ : KD} (hy : Row y ds) (q : Φ (.d (.list ds))) : DC P (fun xs H Q => ∃ p ys, xs = [V.ref p] ∧ (SqL P.K H p ys ∨ SqT P.K H p ys) ∧ ∀ l, H l = none → Q (.ref l) (upd H l (.lst ys))) [.d y] Φ := by
  intro G H vs o rv Q k
  obtain ⟨v, rfl, rv1⟩ := rvL1 rv
  obtain ⟨p, xs, rfl, hs, hd⟩ := row_at (K := P.K) hy rv1 o.sub
  exact ⟨_, _, rfl, hs, fun p hp => k _ _ _ (.d (.list ds)) (o.new hp) (.lst upd_same (dpA_up ((o.new hp).same o) hd)) q⟩
theorem dpA_bl {G : Hp} : ∀ {vs : List V} {bs : List Bool}, DqA G vs (bs.map .bool) → vs = bs.map V.bl
  | _, [], .nil => rfl
  | _, _ :: _, .cons h t => by cases h; rw [dpA_bl t]; rfl
theorem dpA_in {G : Hp} : ∀ {vs : List V} {bs : List Int}, DqA G vs (bs.map .int) → vs = bs.map V.int
  | _, [], .nil => rfl
  | _, _ :: _, .cons h t => by cases h; rw [dpA_in t]; rfl
theorem dpA_st {G : Hp} : ∀ {vs : List V} {bs : List Str}, DqA G vs (bs.map .str) → vs = bs.map V.str
  | _, [], .nil => rfl
  | _, _ :: _, .cons h t => by cases h; rw [dpA_st t]; rfl
theorem in_dpA {G : Hp} : ∀ {bs : List Int}, DqA G (bs.map V.int) (bs.map .int)
  | [] => .nil
  | _ :: _ => .cons (.int _) in_dpA
theorem st_dpA {G : Hp} : ∀ {bs : List Str}, DqA G (bs.map V.str) (bs.map .str)
  | [] => .nil
  | _ :: _ => .cons (.str _) st_dpA
theorem dc_all {bs : List Bool} {Φ : KD} (q : Φ (.d (.bool (bs.all id)))) : DC P (rAll P.K) [.d (.list (bs.map .bool))] Φ := by
  intro G H vs o rv Q k
  obtain ⟨v, rfl, rv1⟩ := rvL1 rv
  cases rv1 with
  | lst ha hd =>
    have e := dpA_bl hd
    subst e
    exact ⟨_, bs, rfl, .inl (.inl (o.sub _ _ ha)), k _ G H (.d (.bool _)) (.refl o) (Dq.bl _) q⟩
theorem dc_any {bs : List Bool} {Φ : KD} (q : Φ (.d (.bool (bs.any id)))) : DC P (rAny P.K) [.d (.list (bs.map .bool))] Φ := by
  intro G H vs o rv Q k
  obtain ⟨v, rfl, rv1⟩ := rvL1 rv
  cases rv1 with
  | lst ha hd =>
    have e := dpA_bl hd
    subst e
    exact ⟨_, bs, rfl, .inl (.inl (o.sub _ _ ha)), k _ G H (.d (.bool _)) (.refl o) (Dq.bl _) q⟩
theorem dc_minI {ns : List Int} {Φ : KD} (h0 : 0 < ns.length) (q : ∀ m, m ∈ ns → (∀ y ∈ ns, m ≤ y) → Φ (.d (.int m))) : DC P (rMin P.K) [.d (.list (ns.map .int))] Φ := by
  intro G H vs o rv Q k
  obtain ⟨v, rfl, rv1⟩ := rvL1 rv
  cases rv1 with
  | lst ha hd =>
    have e := dpA_in hd
    subst e
    exact ⟨_, ns, rfl, .inl (.inl (o.sub _ _ ha)), h0, fun m h1 h2 => k _ G H (.d (.int m)) (.refl o) (Dq.int _) (q m h1 h2)⟩
theorem dc_maxI {ns : List Int} {Φ : KD} (h0 : 0 < ns.length) (q : ∀ m, m ∈ ns → (∀ y ∈ ns, y ≤ m) → Φ (.d (.int m))) : DC P (rMax P.K) [.d (.list (ns.map .int))] Φ := by
  intro G H vs o rv Q k
  obtain ⟨v, rfl, rv1⟩ := rvL1 rv
  cases rv1 with
  | lst ha hd =>
    have e := dpA_in hd
    subst e
    exact ⟨_, ns, rfl, .inl (.inl (o.sub _ _ ha)), h0, fun m h1 h2 => k _ G H (.d (.int m)) (.refl o) (Dq.int _) (q m h1 h2)⟩
theorem dc_sortS {ns : List Str} {Φ : KD} (h0 : ns.length < 64) (q : ∀ ys : List Str, ys.Perm ns → sortedS ys = true → Φ (.d (.list (ys.map .str)))) : DC P (rSortedS P.K) [.d (.list (ns.map .str))] Φ := by
  intro G H vs o rv Q k
  obtain ⟨v, rfl, rv1⟩ := rvL1 rv
  cases rv1 with
  | lst ha hd =>
    have e := dpA_st hd
    subst e
    exact ⟨_, ns, rfl, .inl (.inl (o.sub _ _ ha)), h0, fun ys p h1 h2 hp => k _ _ _ (.d (.list (ys.map .str))) (o.new hp) (.lst upd_same st_dpA) (q ys h1 h2)⟩
theorem dc_int {i : Int} {Φ : KD} (q : Φ (.d (.int i))) : DC P (fun xs H Q => (∃ i, xs = [V.int i] ∧ Q (.int i) H) ∨ ∃ k, xs = [V.bl k] ∧ Q (.int (if k = true then 1 else 0)) H) [.d (.int i)] Φ := by
  intro G H vs o rv Q k
  obtain ⟨v, rfl, rv1⟩ := rvL1 rv
  cases rv1
  exact .inl ⟨i, rfl, k _ G H (.d (.int _)) (.refl o) (Dq.int _) q⟩

/-! ### dicts -/
def keyP : Key → PyData
  | .inl i => .int i
  | .inr s => .str s
def valD {κ : Type} [DecidableEq κ] (kvs : List (κ × PyData)) (k : κ) : Option PyData := (kvs.find? fun kv => decide (kv.1 = k)).map (·.2)
def putD {κ : Type} [DecidableEq κ] (kvs : List (κ × PyData)) (k : κ) (d : PyData) : List (κ × PyData) := if (kvs.any fun kv => decide (kv.1 = k)) = true then kvs.map (fun kv => if kv.1 = k then (kv.1, d) else kv) else kvs ++ [(k, d)]
def dropD {κ : Type} [DecidableEq κ] (kvs : List (κ × PyData)) (k : κ) : List (κ × PyData) := kvs.filter fun kv => decide (kv.1 ≠ k)
theorem dq_key {G : Hp} {v : V} {k : Key} (h : Dq G v (keyP k)) : v = kV k := by
  cases k <;> (cases h; rfl)
theorem key_dq {G : Hp} {k : Key} : Dq G (kV k) (keyP k) := by
  cases k
  · exact .int _
  · exact .str _
theorem dq_keys {G : Hp} : ∀ {vs : List V} {ks : List Key}, DqA G vs (ks.map keyP) → vs = ks.map kV
  | _, [], .nil => rfl
  | _, _ :: _, .cons h t => by rw [dq_key h, dq_keys t]; rfl
theorem keys_dq {G : Hp} : ∀ {ks : List Key}, DqA G (ks.map kV) (ks.map keyP)
  | [] => .nil
  | _ :: _ => .cons key_dq keys_dq
section
variable {κ : Type} [DecidableEq κ] {G : Hp}
theorem kvA_len : ∀ {vs : List (κ × V)} {ds : List (κ × PyData)}, KvA G vs ds → vs.length = ds.length
  | _, _, .nil => rfl
  | _, _, .cons _ t => congrArg Nat.succ (kvA_len t)
theorem kvA_keys : ∀ {vs : List (κ × V)} {ds : List (κ × PyData)}, KvA G vs ds → vs.map (·.1) = ds.map (·.1)
  | _, _, .nil => rfl
  | _, _, .cons _ t => by rw [List.map_cons, List.map_cons, kvA_keys t]
theorem kvA_val {k : κ} : ∀ {vs : List (κ × V)} {ds : List (κ × PyData)}, KvA G vs ds → (valD ds k = none ∧ valV vs k = none) ∨ ∃ v d, valD ds k = some d ∧ valV vs k = some v ∧ Dq G v d
  | _, _, .nil => .inl ⟨rfl, rfl⟩
  | _, _, .cons (k := k') (v := v) (x := d) h t => by
    by_cases e : k' = k
    · exact .inr ⟨v, d, by simp [valD, e], by simp [valV, e], h⟩
    · have ih := kvA_val (k := k) t
      unfold valD valV at *
      rw [List.find?_cons_of_neg (by simpa using e), List.find?_cons_of_neg (by simpa using e)]
      exact ih
theorem kvA_app {ws : List (κ × V)} {es : List (κ × PyData)} (h : KvA G ws es) : ∀ {vs : List (κ × V)} {ds : List (κ × PyData)}, KvA G vs ds → KvA G (vs ++ ws) (ds ++ es)
  | _, _, .nil => h
  | _, _, .cons a t => .cons a (kvA_app h t)
theorem kvA_any {k : κ} : ∀ {vs : List (κ × V)} {ds : List (κ × PyData)}, KvA G vs ds → (vs.any fun kv => decide (kv.1 = k)) = (ds.any fun kv => decide (kv.1 = k))
  | _, _, .nil => rfl
  | _, _, .cons _ t => by rw [List.any_cons, List.any_cons, kvA_any t]
theorem kvA_map {k : κ} {v : V} {d : PyData} (hd : Dq G v d) : ∀ {vs : List (κ × V)} {ds : List (κ × PyData)}, KvA G vs ds → KvA G (vs.map fun kv => if kv.1 = k then (kv.1, v) else kv) (ds.map fun kv => if kv.1 = k then (kv.1, d) else kv)
  | _, _, .nil => .nil
  | _, _, .cons (k := k') h t => by
    rw [List.map_cons, List.map_cons]
    by_cases e : k' = k
    · rw [if_pos e, if_pos e]; exact .cons hd (kvA_map hd t)
    · rw [if_neg e, if_neg e]; exact .cons h (kvA_map hd t)
theorem kvA_put {k : κ} {v : V} {d : PyData} (hd : Dq G v d) {vs : List (κ × V)} {ds : List (κ × PyData)} (h : KvA G vs ds) : KvA G (putK vs k v) (putD ds k d) := by
  unfold putK putD
  rw [kvA_any h]
  split
  · exact kvA_map hd h
  · exact kvA_app (.cons hd .nil) h
theorem kvA_drop {k : κ} : ∀ {vs : List (κ × V)} {ds : List (κ × PyData)}, KvA G vs ds → KvA G (dropK vs k) (dropD ds k)
  | _, _, .nil => .nil
  | _, _, .cons (k := k') h t => by
    have ih := kvA_drop (k := k) t
    unfold dropK dropD at *
    by_cases e : k' = k
    · rw [List.filter_cons_of_neg (by simpa using e), List.filter_cons_of_neg (by simpa using e)]; exact ih
    · rw [List.filter_cons_of_pos (by simpa using e), List.filter_cons_of_pos (by simpa using e)]; exact .cons h ih
end
theorem dAt_up' {G H : Hp} (s : Same G H) {lk : Bool} {a : Addr} {u : HO} (h : DAt lk G a u) : Rd H a u := (dAt_up s h).rd
/-- what a dict has at a key -/
def GetD (x y : Dv) (o : Option PyData) : Prop := (∃ lk kvs k, x = .dk lk kvs ∧ y = .d (keyP k) ∧ o = valD kvs k) ∨ (∃ lk kvs ks, x = .dt lk kvs ∧ y = .d (.tuple (ks.map keyP)) ∧ o = valD kvs ks) ∨ (∃ kvs k, x = .dlk kvs ∧ y = .d (keyP k) ∧ o = valD kvs k) ∨ ∃ kvs ks, x = .dlt kvs ∧ y = .d (.tuple (ks.map keyP)) ∧ o = valD kvs ks
theorem dget_K {G H : Hp} (o : Ok P G H) {a : Addr} {v : V} {vs : List (Key × V)} {kvs : List (Key × PyData)} {k : Key} (ha : Rd H a (.dK vs)) (hk : KvA G vs kvs) (rv : Dq G v (keyP k)) : ∃ w, DGet H a v w ∧ ((valD kvs k = none ∧ w = none) ∨ ∃ z d, valD kvs k = some d ∧ w = some z ∧ Dq G z d) := by
  have e := dq_key rv
  subst e
  refine ⟨_, .inl ⟨vs, k, ha, rfl, rfl⟩, ?_⟩
  rcases kvA_val (k := k) hk with ⟨h1, h2⟩ | ⟨v, d, h1, h2, h3⟩
  · exact .inl ⟨h1, h2⟩
  · exact .inr ⟨v, d, h1, h2, h3⟩
theorem dget_T {G H : Hp} (o : Ok P G H) {a : Addr} {v : V} {vs : List (List Key × V)} {kvs : List (List Key × PyData)} {ks : List Key} (ha : Rd H a (.dT vs)) (hk : KvA G vs kvs) (rv : Dq G v (.tuple (ks.map keyP))) : ∃ w, DGet H a v w ∧ ((valD kvs ks = none ∧ w = none) ∨ ∃ z d, valD kvs ks = some d ∧ w = some z ∧ Dq G z d) := by
  cases rv with
  | tup hb hd =>
    have e := dq_keys hd
    subst e
    refine ⟨_, .inr ⟨vs, ks, _, ha, rfl, o.sub _ _ hb, rfl⟩, ?_⟩
    rcases kvA_val (k := ks) hk with ⟨h1, h2⟩ | ⟨v, d, h1, h2, h3⟩
    · exact .inl ⟨h1, h2⟩
    · exact .inr ⟨v, d, h1, h2, h3⟩
theorem dget_at {G H : Hp} (o : Ok P G H) {u v : V} {x y : Dv} {r : Option PyData} (hg : GetD x y r) (ru : Rv P G u x) (rv : Rv P G v y) : ∃ a w, u = .ref a ∧ DGet H a v w ∧ ((r = none ∧ w = none) ∨ ∃ z d, r = some d ∧ w = some z ∧ Dq G z d) := by
  rcases hg with ⟨lk, kvs, k, rfl, rfl, rfl⟩ | ⟨lk, kvs, ks, rfl, rfl, rfl⟩ | ⟨kvs, k, rfl, rfl, rfl⟩ | ⟨kvs, ks, rfl, rfl, rfl⟩
  · obtain ⟨a, vs, rfl, ha, hk⟩ := ru
    obtain ⟨w, h1, h2⟩ := dget_K o (dAt_up' o.sub ha) hk rv
    exact ⟨a, w, rfl, h1, h2⟩
  · obtain ⟨a, vs, rfl, ha, hk⟩ := ru
    obtain ⟨w, h1, h2⟩ := dget_T o (dAt_up' o.sub ha) hk rv
    exact ⟨a, w, rfl, h1, h2⟩
  · obtain ⟨a, vs, od, rfl, ha, hk⟩ := ru
    obtain ⟨w, h1, h2⟩ := dget_K o (.inr ⟨od, o.sub _ _ ha⟩) hk rv
    exact ⟨a, w, rfl, h1, h2⟩
  · obtain ⟨a, vs, od, rfl, ha, hk⟩ := ru
    obtain ⟨w, h1, h2⟩ := dget_T o (.inr ⟨od, o.sub _ _ ha⟩) hk rv
    exact ⟨a, w, rfl, h1, h2⟩
theorem de_dget {td ty : TE} {Φ : KD} (h : De P td ρ fun x => De P ty ρ fun y => ∃ d, GetD x y (some d) ∧ Φ (.d d)) : De P (tDGet td ty) ρ Φ := by
  intro H0 G H σ o rl Q k
  refine h H0 G H σ o rl _ fun u G1 H1 x g1 ru h2 => ?_
  refine h2 H0 G1 H1 σ g1.ok (rl.up o g1) _ fun v G2 H2 y g2 rv ⟨d, hg, q⟩ => ?_
  obtain ⟨a, w, rfl, hw, hh⟩ := dget_at g2.ok hg (rv_up (g2.same g1.ok) ru) rv
  rcases hh with ⟨h1, _⟩ | ⟨z, d', h1, h2, h3⟩
  · exact nomatch h1
  · cases h1
    subst h2
    exact ⟨a, z, rfl, hw, k z G2 H2 (.d d) (g1.trans g2) h3 q⟩
theorem de_din {td ty : TE} {Φ : KD} (h : De P ty ρ fun y => De P td ρ fun x => ∃ o, GetD x y o ∧ Φ (.d (.bool o.isSome))) : De P (tDIn ty td) ρ Φ := by
  intro H0 G H σ o rl Q k
  refine h H0 G H σ o rl _ fun v G1 H1 y g1 rv h2 => ?_
  refine h2 H0 G1 H1 σ g1.ok (rl.up o g1) _ fun u G2 H2 x g2 ru ⟨r, hg, q⟩ => ?_
  obtain ⟨a, w, rfl, hw, hh⟩ := dget_at g2.ok hg ru (rv_up (g2.same g1.ok) rv)
  refine ⟨a, w, rfl, hw, ?_⟩
  have e : w.isSome = r.isSome := by rcases hh with ⟨h1, h2⟩ | ⟨z, d', h1, h2, h3⟩ <;> rw [h1, h2] <;> rfl
  rw [e]
  exact k _ G2 H2 (.d (.bool _)) (g1.trans g2) (Dq.bl _) q
theorem de_dnotin {td ty : TE} {Φ : KD} (h : De P ty ρ fun y => De P td ρ fun x => ∃ o, GetD x y o ∧ Φ (.d (.bool (!o.isSome)))) : De P (tDNotIn ty td) ρ Φ := by
  intro H0 G H σ o rl Q k
  refine h H0 G H σ o rl _ fun v G1 H1 y g1 rv h2 => ?_
  refine h2 H0 G1 H1 σ g1.ok (rl.up o g1) _ fun u G2 H2 x g2 ru ⟨r, hg, q⟩ => ?_
  obtain ⟨a, w, rfl, hw, hh⟩ := dget_at g2.ok hg ru (rv_up (g2.same g1.ok) rv)
  refine ⟨a, w, rfl, hw, ?_⟩
  have e : w.isSome = r.isSome := by rcases hh with ⟨h1, h2⟩ | ⟨z, d', h1, h2, h3⟩ <;> rw [h1, h2] <;> rfl
  rw [e]
  exact k _ G2 H2 (.d (.bool _)) (g1.trans g2) (Dq.bl _) q

/-! ### what is one's own -/
def isOl : En → Bool
  | .ol _ => true
  | _ => false
def isOd : En → Bool
  | .od _ => true
  | _ => false
/-- slot i alone holds a list of its own -/
def OneL (ρ : List En) (i : Nat) : Prop := (ρ.set i .un).all (fun e => !isOl e) = true
def OneD (ρ : List En) (i : Nat) : Prop := (ρ.set i .un).all (fun e => !isOd e) = true
theorem OneL.at_ {i j : Nat} {ds : List PyData} (h : OneL ρ i) (e : ρ[j]? = some (.ol ds)) : j = i := by
  by_cases z : i = j
  · exact z.symm
  · have e2 : (ρ.set i .un)[j]? = some (.ol ds) := by rw [List.getElem?_set_ne z]; exact e
    have := List.all_eq_true.mp h _ (List.mem_of_getElem? e2)
    exact nomatch this
theorem OneD.at_ {i j : Nat} {ds : List (Key × PyData)} (h : OneD ρ i) (e : ρ[j]? = some (.od ds)) : j = i := by
  by_cases z : i = j
  · exact z.symm
  · have e2 : (ρ.set i .un)[j]? = some (.od ds) := by rw [List.getElem?_set_ne z]; exact e
    have := List.all_eq_true.mp h _ (List.mem_of_getElem? e2)
    exact nomatch this
theorem Rel.putL {H0 G H G' H' : Hp} {σ : L2.St} {i : Nat} {ds es : List PyData} {vs us : List V} {p : Addr} (r : Rel P H0 G H ρ σ) (o1 : OneL ρ i) (hi : ρ[i]? = some (.ol ds)) (es_ : σ[i]? = some (some (.ref p))) (h0 : H0 p = none) (h1 : G p = none) (h2 : H p = some (.lst vs)) (hd : DqA G us es) :
    Rel P H0 G (upd H p (.lst us)) (ρ.set i (.ol es)) σ := by
  refine ⟨by rw [List.length_set, r.len], fun j e h => ?_, fun b hb => ?_, r.nof⟩
  · by_cases z : i = j
    · subst z
      have lt : i < ρ.length := (List.getElem?_eq_some_iff.mp hi).1
      rw [List.getElem?_set_self lt] at h
      cases h
      exact ⟨_, es_, p, us, rfl, h0, h1, upd_same, hd⟩
    · rw [List.getElem?_set_ne z] at h
      obtain ⟨s, a, b⟩ := r.at_ j e h
      refine ⟨s, a, ?_⟩
      cases e with
      | un => exact True.intro
      | fz x => exact b
      | ol fs => exact absurd (o1.at_ h).symm z
      | od kvs =>
        obtain ⟨q, ws, e1, e2, e3, e4, e5⟩ := b
        exact ⟨q, ws, e1, e2, e3, by rw [upd_ne (ne_of e4 h2 (fun z => nomatch z))]; exact e4, e5⟩
  · by_cases z : b = p
    · rw [z, upd_same]; exact fun z => nomatch z
    · rw [upd_ne z]; exact r.dom b hb
theorem Rel.putO {H0 G H G' H' : Hp} {σ : L2.St} {i : Nat} {ds es : List (Key × PyData)} {vs us : List (Key × V)} {p : Addr} (r : Rel P H0 G H ρ σ) (o1 : OneD ρ i) (hi : ρ[i]? = some (.od ds)) (es_ : σ[i]? = some (some (.ref p))) (h0 : H0 p = none) (h1 : G p = none) (h2 : H p = some (.dK vs)) (hd : KvA G us es) :
    Rel P H0 G (upd H p (.dK us)) (ρ.set i (.od es)) σ := by
  refine ⟨by rw [List.length_set, r.len], fun j e h => ?_, fun b hb => ?_, r.nof⟩
  · by_cases z : i = j
    · subst z
      have lt : i < ρ.length := (List.getElem?_eq_some_iff.mp hi).1
      rw [List.getElem?_set_self lt] at h
      cases h
      exact ⟨_, es_, p, us, rfl, h0, h1, upd_same, hd⟩
    · rw [List.getElem?_set_ne z] at h
      obtain ⟨s, a, b⟩ := r.at_ j e h
      refine ⟨s, a, ?_⟩
      cases e with
      | un => exact True.intro
      | fz x => exact b
      | od fs => exact absurd (o1.at_ h).symm z
      | ol kvs =>
        obtain ⟨q, ws, e1, e2, e3, e4, e5⟩ := b
        exact ⟨q, ws, e1, e2, e3, by rw [upd_ne (ne_of e4 h2 (fun z => nomatch z))]; exact e4, e5⟩
  · by_cases z : b = p
    · rw [z, upd_same]; exact fun z => nomatch z
    · rw [upd_ne z]; exact r.dom b hb
theorem Grow.putO {G0 H0 G H : Hp} {p : Addr} {u : HO} {σ : L2.St} (o : Ok P G0 H0) (g : Grow P G0 H0 G H) (r : Rel P H0 G H ρ σ) (h0 : H0 p = none) (h1 : G p = none) : Grow P G0 H0 G (upd H p u) :=
  g.put o h0 h1 (fun f => r.nof p f h0)
theorem tyL {K : PySem.W.Frag} {H : Hp} {p : Addr} {xs : List V} (h : H p = some (.lst xs)) : tyV K "list" (.ref p) H := .inl ⟨rfl, xs, .inl (.inl h)⟩
theorem ds_append {i : Nat} {te : TE} {ds : List PyData} (hi : ρ[i]? = some (.ol ds)) (o1 : OneL ρ i) (h : De P te ρ fun x => ∃ d, x = .d d ∧ ds.length < sizeLine ∧ N (ρ.set i (.ol (ds ++ [d])))) : Ds P (tDrop (tBM P.K "list" rAppend (tVar i) (tCons te tNil))) ρ N R := by
  intro G0 H0 G H σ o g r D n q
  obtain ⟨s, hs, p, vs, rfl, h0, h1, h2, hd⟩ := r.at_ i _ hi
  refine ⟨.ref p, hs, tyL h2, ?_⟩
  refine h H0 G H σ g.ok r _ fun v G1 H1 x g1 rv ⟨d, e, hl, hN⟩ => ?_
  subst e
  have f := fun f => r.nof p f h0
  have k1 := g1.hid h1 h2 (fun _ z => nomatch z)
  have k2 := g1.kp _ _ h2 f
  have k3 := dpA_up (g1.same g.ok) hd
  have r1 := r.up g.ok g1
  refine ⟨p, vs, v, rfl, rfl, k2, by rw [dpA_len hd]; exact hl, ?_⟩
  exact n _ σ G1 _ (Grow.putO o (g.trans g1) r1 h0 k1) (g1.same g.ok) (r1.putL (G' := G1) (H' := H1) o1 hi hs h0 k1 k2 (dpA_app k3 (.cons rv .nil))) hN
theorem dpA_snoc {G : Hp} {vs : List V} {ds : List PyData} {d : PyData} (h : DqA G vs (ds ++ [d])) : ∃ v, vs[vs.length - 1]? = some v ∧ Dq G v d ∧ DqA G vs.dropLast ds := by
  have hl := dpA_len h
  rw [List.length_append, List.length_singleton] at hl
  obtain ⟨v, h1, h2⟩ := dpA_at (i := ds.length) (d := d) h (by simp)
  refine ⟨v, by rw [hl]; exact h1, h2, ?_⟩
  have := dpA_take ds.length h
  rw [List.take_left' rfl] at this
  rw [List.dropLast_eq_take, hl]
  exact this
theorem ds_popL {i j : Nat} {ds : List PyData} {d : PyData} (hi : ρ[i]? = some (.ol (ds ++ [d]))) (o1 : OneL ρ i) (h : N ((ρ.set i (.ol ds)).set j (.fz (.d d)))) : Ds P (tAsg (tBM0 P.K "list" rPop (tVar i)) (gName j)) ρ N R := by
  intro G0 H0 G H σ o g r D n q
  obtain ⟨s, hs, p, vs, rfl, h0, h1, h2, hd⟩ := r.at_ i _ hi
  obtain ⟨v, e1, e2, e3⟩ := dpA_snoc hd
  refine ⟨.ref p, hs, tyL h2, p, vs, v, rfl, rfl, h2, e1, ?_⟩
  exact n _ _ G _ (Grow.putO o g r h0 h1) (Same.refl _) ((r.putL (G' := G) (H' := H) o1 hi hs h0 h1 h2 e3).set j (e := .fz (.d d)) ⟨v, rfl, e2⟩) h
theorem ds_dput {i : Nat} {ty tv : TE} {kvs : List (Key × PyData)} (hi : ρ[i]? = some (.od kvs)) (o1 : OneD ρ i) (h : De P tv ρ fun z => De P ty ρ fun y => ∃ k d, z = .d d ∧ y = .d (keyP k) ∧ kvs.length < sizeLine ∧ N (ρ.set i (.od (putD kvs k d)))) : Ds P (sDPut (tVar i) ty tv) ρ N R := by
  intro G0 H0 G H σ o g r D n q
  obtain ⟨s, hs, p, vs, rfl, h0, h1, h2, hd⟩ := r.at_ i _ hi
  refine h H0 G H σ g.ok r _ fun v G1 H1 z g1 rv h' => ⟨.ref p, hs, ?_⟩
  refine h' H0 G1 H1 σ g1.ok (r.up g.ok g1) _ fun w G2 H2 y g2 rw2 ⟨k, d, e, e', hl, hN⟩ => ?_
  subst e; subst e'
  have f := fun f => r.nof p f h0
  have gg := g1.trans g2
  have k1 := gg.hid h1 h2 (fun _ z => nomatch z)
  have k2 := gg.kp _ _ h2 f
  have k3 := kvA_up (gg.same g.ok) hd
  have r1 := r.up g.ok gg
  refine ⟨p, _, rfl, .inl ⟨vs, k, k2, dq_key rw2, by rw [kvA_len hd]; exact hl, rfl⟩, ?_⟩
  exact n _ σ G2 _ (Grow.putO o (g.trans gg) r1 h0 k1) (gg.same g.ok) (r1.putO (G' := G2) (H' := H2) o1 hi hs h0 k1 k2 (kvA_put (dp_up (g2.same g1.ok) rv) k3)) hN
theorem ds_dpop {i : Nat} {ty : TE} {kvs : List (Key × PyData)} (hi : ρ[i]? = some (.od kvs)) (o1 : OneD ρ i) (h : De P ty ρ fun y => ∃ k d, y = .d (keyP k) ∧ valD kvs k = some d ∧ N (ρ.set i (.od (dropD kvs k)))) : Ds P (tDrop (tDPop1 (tVar i) ty)) ρ N R := by
  intro G0 H0 G H σ o g r D n q
  obtain ⟨s, hs, p, vs, rfl, h0, h1, h2, hd⟩ := r.at_ i _ hi
  refine ⟨.ref p, hs, p, rfl, .inl ⟨vs, .inl h2⟩, ?_⟩
  refine h H0 G H σ g.ok r _ fun w G2 H2 y gg rw2 ⟨k, d, e', hv, hN⟩ => ?_
  subst e'
  have f := fun f => r.nof p f h0
  have k1 := gg.hid h1 h2 (fun _ z => nomatch z)
  have k2 := gg.kp _ _ h2 f
  have k3 := kvA_up (gg.same g.ok) hd
  have r1 := r.up g.ok gg
  rcases kvA_val (k := k) k3 with ⟨h3, _⟩ | ⟨v', d', h3, h4, _⟩
  · rw [hv] at h3; exact nomatch h3
  · refine ⟨vs, k, v', k2, dq_key rw2, h4, ?_⟩
    exact n _ σ G2 _ (Grow.putO o (g.trans gg) r1 h0 k1) (gg.same g.ok) (r1.putO (G' := G2) (H' := H2) o1 hi hs h0 k1 k2 (kvA_drop k3)) hN
theorem dw_dnew {Φ : En → Prop} (q : Φ (.od [])) : Dw P tDNewK ρ Φ := fun H0 G H σ o r Q k p hp =>
  k _ G _ (.od []) (o.hid hp) ⟨p, [], rfl, hp, o.none_of hp, upd_same, .nil⟩ q
theorem dw_dict1 {tk tv : TE} {Φ : En → Prop} (h : De P tk ρ fun y => De P tv ρ fun z => ∃ k d, y = .d (keyP k) ∧ z = .d d ∧ Φ (.od [(k, d)])) : Dw P (tDisp [(tk, tv)]) ρ Φ := by
  intro H0 G H σ o r Q k p hp
  have g0 := o.hid (o := .dK []) hp
  have r0 := r.up o g0
  refine h H0 G _ σ g0.ok r0 _ fun w G1 H1 y g1 rw1 h' => ?_
  refine h' H0 G1 H1 σ g1.ok (r0.up g0.ok g1) _ fun v G2 H2 z g2 rv ⟨kk, d, e, e', hΦ⟩ => ?_
  subst e; subst e'
  have gg := g1.trans g2
  have nf := o.nofd hp
  have hG := o.none_of hp
  have k1 := gg.hid hG upd_same (fun _ z => nomatch z)
  have k2 := gg.kp _ _ upd_same nf
  have ek := dq_key rw1
  subst ek
  refine ⟨k2, [(kk, v)], rfl, by simp, ?_⟩
  refine k _ G2 _ (.od [(kk, d)]) ((g0.trans gg).put o hp k1 nf) ⟨p, _, rfl, hp, k1, upd_same, ?_⟩ hΦ
  exact .cons rv .nil

/-! ### a frozen dict, new -/
theorem de_dc {wi : TI} {g : TG} {tt : TT} {tk tv : TE} {vs : List Nat} {Φ : KD} (Inv : Nat → List (Key × PyData) → Prop)
    (h : Di P wi ρ fun xs => xs.length < sizeLine ∧ Inv 0 [] ∧ (∀ (i : Nat) x acc, xs[i]? = some x → Inv i acc → Dg P g x (wipeE ρ vs) vs fun ρ' => Dt P tt ρ' fun b => if b = true then De P tk ρ' fun y => De P tv ρ' fun z => ∃ k d, y = .d (keyP k) ∧ z = .d d ∧ Inv (i + 1) (putD acc k d) else Inv (i + 1) acc) ∧
      ∀ acc, Inv xs.length acc → Φ (.dk false acc)) : De P (tDc wi g tt tk tv vs) ρ Φ := by
  intro H0 G H σ o r Q k
  refine h H0 G H σ o r _ fun J G1 H1 xs g1 y ⟨hl, i0, hs, hd⟩ => fun A nA => ?_
  have fA := g1.ok.nofd nA
  have r1 := r.up o g1
  refine ⟨fun i m H' => m + i = xs.length ∧ ∃ G' us acc, Grow P G1 H1 G' H' ∧ G' A = none ∧ H' A = some (.dK us) ∧ KvA G' us acc ∧ acc.length ≤ i ∧ Inv i acc, ⟨xs.length, rfl, G1, [], [], g1.ok.hid nA, g1.ok.none_of nA, upd_same, .nil, Nat.le_refl _, i0⟩, ?_⟩
  rintro i m H' ⟨em, G', us, acc, g', hG, hH, hA, la, iv⟩
  have s' := g'.same g1.ok
  obtain ⟨y1, y2⟩ := y G' H' g'.ok s'
  by_cases hi : i < xs.length
  · obtain ⟨go, yl⟩ := y1 i xs[i] (List.getElem?_eq_getElem hi)
    refine .inr ⟨go, fun H2 => ∃ G2 us acc, Grow P G1 H1 G2 H2 ∧ G2 A = none ∧ H2 A = some (.dK us) ∧ KvA G2 us acc ∧ acc.length ≤ i + 1 ∧ Inv (i + 1) acc, fun H2 hh => ⟨m - 1, by omega, by omega, hh⟩, fun v H3 hy => ?_⟩
    obtain ⟨G3, g3, rv⟩ := yl v H3 hy
    have rw3 := ((r1.up g1.ok g').up g'.ok g3).wipe vs
    refine hs i _ acc (List.getElem?_eq_getElem hi) iv H0 G3 H3 _ v g3.ok rw3 rv _ fun ρ2 σ2 r2 w2 hb => ?_
    have keep : ∀ G4 H4, Grow P G3 H3 G4 H4 → G4 A = none ∧ H4 A = some (.dK us) ∧ KvA G4 us acc := fun G4 H4 g4 => by
      have a1 := g3.hid hG hH (fun _ z => nomatch z)
      have a2 := g3.kp _ _ hH fA
      exact ⟨g4.hid a1 a2 (fun _ z => nomatch z), g4.kp _ _ a2 fA, kvA_up ((g3.same g'.ok).trans (g4.same g3.ok)) hA⟩
    refine ⟨w2.trans (wipe_idem _ _), ?_⟩
    refine hb H0 G3 H3 σ2 g3.ok r2 _ fun b G4 H4 g4 hb4 => ?_
    obtain ⟨k1, k2, k3⟩ := keep G4 H4 g4
    cases b with
    | false => exact ⟨G4, us, acc, (g'.trans g3).trans g4, k1, k2, k3, by omega, hb4⟩
    | true =>
      refine (hb4 : De P tk ρ2 _) H0 G4 H4 σ2 g4.ok (r2.up g3.ok g4) _ fun w G5 H5 yy g5 ry hb5 => ?_
      refine hb5 H0 G5 H5 σ2 g5.ok ((r2.up g3.ok g4).up g4.ok g5) _ fun w6 G6 H6 z g6 rz ⟨kk, d, e, e', p⟩ => ?_
      subst e; subst e'
      obtain ⟨k1, k2, k3⟩ := keep G6 H6 ((g4.trans g5).trans g6)
      have pl : (putD acc kk d).length ≤ acc.length + 1 := by unfold putD; split <;> simp
      refine ⟨us, kk, dq_key ry, k2, by rw [kvA_len k3]; omega, G6, putK us kk w6, putD acc kk d, ?_, k1, upd_same, kvA_put rz k3, by omega, p⟩
      exact ((((g'.trans g3).trans g4).trans g5).trans g6).put g1.ok nA k1 fA
  · have e : i = xs.length := by omega
    subst e
    refine .inl ⟨y2, k _ (upd G' A (.dK us)) H' (.dk false acc) (g1.trans (g'.show nA hH fA)) ⟨A, us, rfl, upd_same, kvA_up (upd_set hG) hA⟩ (hd acc iv)⟩
end Z

/-! # ZOps -/
set_option Elab.async false
set_option linter.all false
set_option maxRecDepth 100000
set_option maxHeartbeats 400000
/-! More rules over plain data: either of two operators, several targets, dict(pairs), sorted(dict), slices, a star. -/
namespace Z
open PySem PySem.Spec PyProof.Rows L2
section
variable {X : Cx} {k : Nat}
theorem op_eqA (hr : Room k X.A) : OpR X (compareOp .Eq) (fun x y H Q => rEq x y H Q ∨ rEqD X.K x y H Q) := OpR.or op_eq (op_eqD hr.units)
theorem op_neA (hr : Room k X.A) : OpR X (compareOp .NotEq) (fun x y H Q => rNe x y H Q ∨ rNeD X.K x y H Q) := OpR.or op_ne (op_neD hr.units)
def rLtS : R2 := fun x y H Q => ∃ i j, x = .str i ∧ y = .str j ∧ Q (.bl (decide (i.cps.toList < j.cps.toList))) H
def rLeS : R2 := fun x y H Q => ∃ i j, x = .str i ∧ y = .str j ∧ Q (.bl (!decide (j.cps.toList < i.cps.toList))) H
def rGtS : R2 := fun x y H Q => ∃ i j, x = .str i ∧ y = .str j ∧ Q (.bl (decide (j.cps.toList < i.cps.toList))) H
theorem op_addA : OpR X (binaryOp .Add) (fun x y H Q => (rI0 fun i j => .int (i + j)) x y H Q ∨ (rCat x y H Q ∨ rCatA X.K x y H Q)) := OpR.or op_add (OpR.or op_cat op_catA)
theorem op_inA : OpR X (compareOp .In) (rIn X.K false) := op_in_seq
theorem op_ninA : OpR X (compareOp .NotIn) (rIn X.K true) := op_notIn_seq
theorem sl_any : SlR X (fun x lo hi H Q => rSlL X.K x lo hi H Q ∨ rSlA X.K x lo hi H Q) := SlR.or sl_list sl_tupA
theorem op_ltA : OpR X (compareOp .Lt) (fun x y H Q => (rI0 fun i j => .bl (decide (i < j))) x y H Q ∨ rLtS x y H Q) := OpR.or op_lt op_lt_str
theorem op_leA : OpR X (compareOp .LtE) (fun x y H Q => (rI0 fun i j => .bl (decide (i ≤ j))) x y H Q ∨ rLeS x y H Q) := OpR.or op_le op_le_str
theorem op_gtA : OpR X (compareOp .Gt) (fun x y H Q => (rI0 fun i j => .bl (decide (j < i))) x y H Q ∨ rGtS x y H Q) := OpR.or op_gt op_gt_str
end
theorem szn {n : Nat} (h : Nat.ble n 1000 = true) : n ≤ sizeLine := by
  have := Nat.le_of_ble_eq_true h
  rw [sizeLine_eq]; omega
theorem szl {n : Nat} (h : n ≤ 100000) : n ≤ sizeLine := by rw [sizeLine_eq]; omega
theorem szs {n : Nat} (h : n ≤ 100000) : n < sizeLine := by rw [sizeLine_eq]; omega
/-! ### the same rules, K told -/
section
variable {X : Cx} (K : PySem.W.Frag) {k : Nat}
theorem pg_tupK (n : Nat) {pos : Pos} {es : List Expr} {j : Nat} {t : TGs} (h : PGs X es t) (e : X.K = K := by rfl) (hc : X.calm = true := by rfl) (h1 : (assignEach es X.env).length = n := by rfl) (h2 : (assignEach es X.env).findIdx? (fun x => x.1) = none := by rfl) : PG X (.Tuple es j pos) (gTup K n t) := e ▸ pg_tup hc h h1 h2
theorem pi_enTK {e : Expr} {ta : TA} {p pos tp : Pos} {elts : List Expr} {kk : Nat} (hg : Gl X "enumerate") (hm : X.mg "enumerate" = none) (ha : PA X [e] ta) (eK : X.K = K := by rfl) (hs : starEach [e] X.env = [(false, eval e X.env)] := by rfl) : PI X (.Tuple elts kk tp) (.Call (.Name "enumerate" p) [e] [] pos) (iEnT K ta) := eK ▸ pi_enT hg hm ha hs
theorem pi_enumK {e : Expr} {ta : TA} {p pos tp : Pos} {elts : List Expr} {kk : Nat} (hg : Gl X "enumerate") (hm : X.mg "enumerate" = none) (ha : PA X [e] ta) (eK : X.K = K := by rfl) (hs : starEach [e] X.env = [(false, eval e X.env)] := by rfl) : PI X (.Tuple elts kk tp) (.Call (.Name "enumerate" p) [e] [] pos) (iEnum K ta) := eK ▸ pi_enum hg hm ha hs
theorem pi_tupK {tg l : Expr} {tl : TE} (h : PE X l tl) (eK : X.K = K := by rfl) : PI X tg l (iTup K tl) := eK ▸ pi_tup h
theorem pi_listK {tg l : Expr} {tl : TE} (h : PE X l tl) (eK : X.K = K := by rfl) : PI X tg l (iList K tl) := eK ▸ pi_list h
theorem pi_zipK {e e2 : Expr} {ta : TA} {p pos tpos : Pos} {elts : List Expr} {kk : Nat} (hg : Gl X "zip") (hm : X.mg "zip" = none) (ha : PA X [e, e2] ta) (eK : X.K = K := by rfl) (h1 : starEach [e, e2] X.env = (false, eval e X.env) :: starEach [e2] X.env := by rfl) (h2 : ((backTo pos (starEach [e2] X.env)).any fun x => x.1) = false := by rfl) : PI X (.Tuple elts kk tpos) (.Call (.Name "zip" p) [e, e2] [] pos) (RZ.iZipA K ta) := eK ▸ RZ.pi_zipA hg hm ha h1 h2
theorem op_eqK (hr : Room k X.A) (eK : X.K = K := by rfl) : OpR X (compareOp .Eq) (fun x y H Q => rEq x y H Q ∨ rEqD K x y H Q) := eK ▸ op_eqA hr
theorem op_neK (hr : Room k X.A) (eK : X.K = K := by rfl) : OpR X (compareOp .NotEq) (fun x y H Q => rNe x y H Q ∨ rNeD K x y H Q) := eK ▸ op_neA hr
theorem op_addK (eK : X.K = K := by rfl) : OpR X (binaryOp .Add) (fun x y H Q => (rI0 fun i j => .int (i + j)) x y H Q ∨ (rCat x y H Q ∨ rCatA K x y H Q)) := eK ▸ op_addA
theorem op_inK (eK : X.K = K := by rfl) : OpR X (compareOp .In) (rIn K false) := eK ▸ op_in_seq
theorem op_ninK (eK : X.K = K := by rfl) : OpR X (compareOp .NotIn) (rIn K true) := eK ▸ op_notIn_seq
theorem sl_anyK (eK : X.K = K := by rfl) : SlR X (fun x lo hi H Q => rSlL K x lo hi H Q ∨ rSlA K x lo hi H Q) := eK ▸ sl_any
theorem ix_seqK (eK : X.K = K := by rfl) : IxR X (rIx K) := eK ▸ ix_seq
theorem call_lenK (eK : X.K = K := by rfl) : CallR X (.builtin "len") (rLen K) := eK ▸ call_len
theorem cr_allK (eK : X.K = K := by rfl) (hc : X.calm = true := by rfl) : CallR X (.builtin "all") (rAll K) := eK ▸ cr_all hc
theorem cr_anyK (eK : X.K = K := by rfl) (hc : X.calm = true := by rfl) : CallR X (.builtin "any") (rAny K) := eK ▸ cr_any hc
theorem cr_minK' (eK : X.K = K := by rfl) (hc : X.calm = true := by rfl) : CallR X (.builtin "min") (rMin K) := eK ▸ cr_min hc
theorem cr_maxK (eK : X.K = K := by rfl) (hc : X.calm = true := by rfl) : CallR X (.builtin "max") (rMax K) := eK ▸ cr_max hc
theorem call_isiK' (eK : X.K = K := by rfl) : CallR X (.builtin "isinstance") (rIsi K) := eK ▸ call_isi
theorem call_tupK (eK : X.K = K := by rfl) : CallR X (.type "tuple") (fun xs H Q => ∃ p ys, xs = [V.ref p] ∧ ((SqL K H p ys ∧ ∀ l, H l = none → Q (.ref l) (upd H l (.tup ys))) ∨ (SqT K H p ys ∧ Q (.ref p) H))) := eK ▸ call_tuple_of
theorem call_lstK (eK : X.K = K := by rfl) : CallR X (.type "list") (fun xs H Q => ∃ p ys, xs = [V.ref p] ∧ (SqL K H p ys ∨ SqT K H p ys) ∧ ∀ l, H l = none → Q (.ref l) (upd H l (.lst ys))) := eK ▸ call_list_of
theorem call_dictK (eK : X.K = K := by rfl) (hc : X.calm = true := by rfl) : CallR X (.type "dict") (fun xs H Q => ∃ (a : Addr) (ps : List Addr) (kvs : List (Key × V)), xs = [.ref a] ∧ SqL K H a (ps.map V.ref) ∧ Paired (fun p kv => SqT K H p [kV kv.1, kv.2]) ps kvs ∧ ∀ p, H p = none → Q (.ref p) (upd H p (.dK (mergeK [] kvs)))) := eK ▸ call_dictP hc
end
variable {P : Pm} {ρ : List En} {N : List En → Prop} {R : KD}
/-! ### either -/
theorem de_ss {ta tb : TE} {Φ : KD} (h : De P ta ρ fun x => De P tb ρ fun y => ∃ a b, x = .d (.str a) ∧ y = .d (.str b) ∧ Φ (.d (.bool (decide (a = b))))) : De P (tOp (fun x y H Q => rEq x y H Q ∨ rEqD P.K x y H Q) ta tb) ρ Φ :=
  de_op (h.mono fun x h => De.mono h fun y ⟨a, b, e, e', q⟩ => by subst e; subst e'; exact DOp.inl (dop_eq eq_ss q))
theorem de_ii {ta tb : TE} {Φ : KD} (h : De P ta ρ fun x => De P tb ρ fun y => ∃ a b, x = .d (.int a) ∧ y = .d (.int b) ∧ Φ (.d (.bool (decide (a = b))))) : De P (tOp (fun x y H Q => rEq x y H Q ∨ rEqD P.K x y H Q) ta tb) ρ Φ :=
  de_op (h.mono fun x h => De.mono h fun y ⟨a, b, e, e', q⟩ => by subst e; subst e'; exact DOp.inl (dop_eq eq_ii q))
theorem de_nss {ta tb : TE} {Φ : KD} (h : De P ta ρ fun x => De P tb ρ fun y => ∃ a b, x = .d (.str a) ∧ y = .d (.str b) ∧ Φ (.d (.bool (!decide (a = b))))) : De P (tOp (fun x y H Q => rNe x y H Q ∨ rNeD P.K x y H Q) ta tb) ρ Φ :=
  de_op (h.mono fun x h => De.mono h fun y ⟨a, b, e, e', q⟩ => by subst e; subst e'; exact DOp.inl (dop_ne eq_ss q))
theorem de_nii {ta tb : TE} {Φ : KD} (h : De P ta ρ fun x => De P tb ρ fun y => ∃ a b, x = .d (.int a) ∧ y = .d (.int b) ∧ Φ (.d (.bool (!decide (a = b))))) : De P (tOp (fun x y H Q => rNe x y H Q ∨ rNeD P.K x y H Q) ta tb) ρ Φ :=
  de_op (h.mono fun x h => De.mono h fun y ⟨a, b, e, e', q⟩ => by subst e; subst e'; exact DOp.inl (dop_ne eq_ii q))
/-- a row is compared with an empty one of its kind -/
theorem shaped_nil : SeqAt.shaped (.list []) = true ∧ SeqAt.shaped (.tuple []) = true := ⟨by decide +kernel, by decide +kernel⟩
theorem eqv_nil (ds : List PyData) : PyData.eqv (.list ds) (.list []) = ds.isEmpty ∧ PyData.eqv (.tuple ds) (.tuple []) = ds.isEmpty := by
  cases ds <;> exact ⟨rfl, rfl⟩
theorem de_nnil {ta tb : TE} {Φ : KD} (h : De P ta ρ fun x => De P tb ρ fun y => ∃ ds, x = .d (.list ds) ∧ SeqAt.shaped (.list ds) = true ∧ y = .d (.list []) ∧ Φ (.d (.bool (!ds.isEmpty)))) : De P (tOp (fun x y H Q => rNe x y H Q ∨ rNeD P.K x y H Q) ta tb) ρ Φ :=
  de_op (h.mono fun x h => De.mono h fun y ⟨a, e, hs, e', q⟩ => by subst e; subst e'; exact DOp.inr (dop_neD hs shaped_nil.1 (by rw [(eqv_nil a).1]; exact q)))
theorem de_addI {ta tb : TE} {Φ : KD} (h : De P ta ρ fun x => De P tb ρ fun y => ∃ a b, x = .d (.int a) ∧ y = .d (.int b) ∧ Φ (.d (.int (a + b)))) : De P (tOp (fun x y H Q => (rI0 fun i j => .int (i + j)) x y H Q ∨ (rCat x y H Q ∨ rCatA P.K x y H Q)) ta tb) ρ Φ :=
  de_op (h.mono fun x h => De.mono h fun y ⟨a, b, e, e', q⟩ => by subst e; subst e'; exact DOp.inl (dop_i0 (g := fun i j => i + j) q))
theorem de_addL {ta tb : TE} {Φ : KD} (h : De P ta ρ fun x => De P tb ρ fun y => ∃ a b, x = .d (.list a) ∧ y = .d (.list b) ∧ a.length + b.length ≤ sizeLine ∧ Φ (.d (.list (a ++ b)))) : De P (tOp (fun x y H Q => (rI0 fun i j => .int (i + j)) x y H Q ∨ (rCat x y H Q ∨ rCatA P.K x y H Q)) ta tb) ρ Φ :=
  de_op (h.mono fun x h => De.mono h fun y ⟨a, b, e, e', hl, q⟩ => by subst e; subst e'; exact DOp.inr (DOp.inl (dop_cat hl q)))
theorem de_addT {ta tb : TE} {Φ : KD} (h : De P ta ρ fun x => De P tb ρ fun y => ∃ a b, x = .d (.tuple a) ∧ y = .d (.tuple b) ∧ a.length + b.length ≤ sizeLine ∧ Φ (.d (.tuple (a ++ b)))) : De P (tOp (fun x y H Q => (rI0 fun i j => .int (i + j)) x y H Q ∨ (rCat x y H Q ∨ rCatA P.K x y H Q)) ta tb) ρ Φ :=
  de_op (h.mono fun x h => De.mono h fun y ⟨a, b, e, e', hl, q⟩ => by subst e; subst e'; exact DOp.inr (DOp.inr (dop_catA hl q)))
theorem de_ix {ta tb : TE} {Φ : KD} (h : De P ta ρ fun x => De P tb ρ fun y => ∃ z ds i d, x = .d z ∧ y = .d (.int i) ∧ Row z ds ∧ atI ds i = some d ∧ Φ (.d d)) : De P (tOp (rIx P.K) ta tb) ρ Φ :=
  de_op (h.mono fun x h => De.mono h fun y ⟨z, ds, i, d, e, e', hr, ha, q⟩ => by subst e; subst e'; exact dop_ix hr ha q)
theorem de_ltI {ta tb : TE} {Φ : KD} (h : De P ta ρ fun x => De P tb ρ fun y => ∃ a b, x = .d (.int a) ∧ y = .d (.int b) ∧ Φ (.d (.bool (decide (a < b))))) : De P (tOp (fun x y H Q => (rI0 fun i j => .bl (decide (i < j))) x y H Q ∨ rLtS x y H Q) ta tb) ρ Φ :=
  de_op (h.mono fun x h => De.mono h fun y ⟨a, b, e, e', q⟩ => by subst e; subst e'; exact DOp.inl (dop_b0 (g := fun i j => decide (i < j)) q))
theorem de_gtI {ta tb : TE} {Φ : KD} (h : De P ta ρ fun x => De P tb ρ fun y => ∃ a b, x = .d (.int a) ∧ y = .d (.int b) ∧ Φ (.d (.bool (decide (b < a))))) : De P (tOp (fun x y H Q => (rI0 fun i j => .bl (decide (j < i))) x y H Q ∨ rGtS x y H Q) ta tb) ρ Φ :=
  de_op (h.mono fun x h => De.mono h fun y ⟨a, b, e, e', q⟩ => by subst e; subst e'; exact DOp.inl (dop_b0 (g := fun i j => decide (j < i)) q))
theorem de_ltS {ta tb : TE} {Φ : KD} (h : De P ta ρ fun x => De P tb ρ fun y => ∃ a b : Str, x = .d (.str a) ∧ y = .d (.str b) ∧ Φ (.d (.bool (decide (a.cps.toList < b.cps.toList))))) : De P (tOp (fun x y H Q => (rI0 fun i j => .bl (decide (i < j))) x y H Q ∨ rLtS x y H Q) ta tb) ρ Φ :=
  de_op (h.mono fun x h => De.mono h fun y ⟨a, b, e, e', q⟩ => by subst e; subst e'; exact DOp.inr (dop_lts (c := fun i j => decide (i.cps.toList < j.cps.toList)) rfl q))
theorem de_gtS {ta tb : TE} {Φ : KD} (h : De P ta ρ fun x => De P tb ρ fun y => ∃ a b : Str, x = .d (.str a) ∧ y = .d (.str b) ∧ Φ (.d (.bool (decide (b.cps.toList < a.cps.toList))))) : De P (tOp (fun x y H Q => (rI0 fun i j => .bl (decide (j < i))) x y H Q ∨ rGtS x y H Q) ta tb) ρ Φ :=
  de_op (h.mono fun x h => De.mono h fun y ⟨a, b, e, e', q⟩ => by subst e; subst e'; exact DOp.inr (dop_lts (c := fun i j => decide (j.cps.toList < i.cps.toList)) rfl q))

/-! ### several targets -/
def SlL (P : Pm) (H0 G H : Hp) : List En → List V → Prop
  | [], [] => True
  | e :: es, v :: vs => SlE P H0 G H e (some v) ∧ SlL P H0 G H es vs
  | _, _ => False
def Dal (P : Pm) (ta : TA) (ρ : List En) (Φ : List En → Prop) : Prop := ∀ H0 G H σ, Ok P G H → Rel P H0 G H ρ σ → ∀ Q : List V → Hp → Prop, (∀ vs G' H' es, Grow P G H G' H' → SlL P H G' H' es vs → Φ es → Q vs H') → ta σ H Q
theorem dal_nil {Φ : List En → Prop} (q : Φ []) : Dal P tNil ρ Φ := fun _ G H _ o _ _ k => k [] G H [] (.refl o) True.intro q
theorem dal_cons {te : TE} {ta : TA} {Φ : List En → Prop} (h : Dw P te ρ fun x => Dal P ta ρ fun xs => Φ (x :: xs)) : Dal P (tCons te ta) ρ Φ := by
  intro H0 G H σ o rl Q k
  refine h H0 G H σ o rl _ fun u G1 H1 x g1 ru h2 => ?_
  refine h2 H0 G1 H1 σ g1.ok (rl.up o g1) _ fun vs G2 H2 xs g2 rvs h3 => ?_
  have nof : ∀ a, isF P a → H a ≠ none := fun a f => by obtain ⟨c, s, z, t, q⟩ := o.fsome f; rw [q]; exact fun z => nomatch z
  refine k (u :: vs) G2 H2 (x :: xs) (g1.trans g2) ⟨ru.up g1.ok (fun b h => g1.dom h) nof g2, ?_⟩ h3
  clear h3 h2 ru
  revert vs
  induction xs with
  | nil => intro vs h; cases vs with
    | nil => exact True.intro
    | cons => exact h
  | cons e es ih => intro vs h; cases vs with
    | nil => exact h
    | cons v vs => exact ⟨h.1.base (fun b z => by
        cases e0 : H b with
        | none => rfl
        | some u => exact absurd z (g1.dom (by rw [e0]; exact fun z => nomatch z))), ih vs h.2⟩
theorem SlL.len {H0 G H : Hp} : ∀ {es : List En} {vs : List V}, SlL P H0 G H es vs → es.length = vs.length
  | [], [], _ => rfl
  | _ :: _, _ :: _, ⟨_, h⟩ => congrArg Nat.succ h.len
theorem ds_par {i j : Nat} {ta : TA} (h : Dal P ta ρ fun es => ∃ a b, es = [a, b] ∧ N ((ρ.set i a).set j b)) : Ds P (tPar i j ta) ρ N R := by
  intro G0 H0 G H σ o g r D n q
  refine h H0 G H σ g.ok r _ fun vs G1 H1 es g1 rs ⟨a, b, e, hN⟩ => ?_
  subst e
  match vs, rs with
  | [u, v], ⟨ra, rb, _⟩ =>
  have r1 := r.up g.ok g1
  exact ⟨u, v, rfl, n _ _ G1 H1 (g.trans g1) (g1.same g.ok) ((r1.set i (ra.base r.low)).set j (rb.base r.low)) hN⟩
theorem ds_par3 {i j l : Nat} {ta : TA} (h : Dal P ta ρ fun es => ∃ a b c, es = [a, b, c] ∧ N (((ρ.set i a).set j b).set l c)) : Ds P (tPar3 i j l ta) ρ N R := by
  intro G0 H0 G H σ o g r D n q
  refine h H0 G H σ g.ok r _ fun vs G1 H1 es g1 rs ⟨a, b, c, e, hN⟩ => ?_
  subst e
  match vs, rs with
  | [u, v, w], ⟨ra, rb, rc, _⟩ =>
  have r1 := r.up g.ok g1
  exact ⟨u, v, w, rfl, n _ _ G1 H1 (g.trans g1) (g1.same g.ok) (((r1.set i (ra.base r.low)).set j (rb.base r.low)).set l (rc.base r.low)) hN⟩
/-- the same where a tuple is made, which nobody sees -/
theorem ds_tup3 {i j l : Nat} {ta : TA} (h : Dal P ta ρ fun es => ∃ a b c, es = [a, b, c] ∧ N (((ρ.set i a).set j b).set l c)) : Ds P (tAsg (tTup ta) (gTup P.K 3 (gCons (gName i) (gCons (gName j) (gCons (gName l) gNil))))) ρ N R := by
  intro G0 H0 G H σ o g r D n q
  refine h H0 G H σ g.ok r _ fun vs G1 H1 es g1 rs ⟨a, b, c, e, hN⟩ => ?_
  subst e
  match vs, rs with
  | [u, v, w], ⟨ra, rb, rc, _⟩ =>
  refine ⟨by show 3 ≤ sizeLine; rw [sizeLine_eq]; decide, fun T nT => ⟨T, [u, v, w], rfl, .inl (.inl upd_same), rfl, u, _, rfl, v, _, rfl, w, _, rfl, rfl, ?_⟩⟩
  have g2 := g1.ok.hid (o := .tup [u, v, w]) nT
  have r1 := r.up g.ok (g1.trans g2)
  have nof : ∀ a, isF P a → H a ≠ none := fun a f => by obtain ⟨c, s, z, t, q⟩ := g.ok.fsome f; rw [q]; exact fun z => nomatch z
  have u1 : ∀ {e : En} {s : Option V}, SlE P H G1 H1 e s → SlE P H0 G1 (upd H1 T (.tup [u, v, w])) e s := fun h => (h.up g1.ok (fun b h => g1.dom h) nof g2).base r.low
  exact n _ _ G1 _ ((g.trans g1).trans g2) (g1.same g.ok) (((r1.set i (u1 ra)).set j (u1 rb)).set l (u1 rc)) hN
theorem ds_tup2 {i j : Nat} {ta : TA} (h : Dal P ta ρ fun es => ∃ a b, es = [a, b] ∧ N ((ρ.set i a).set j b)) : Ds P (tAsg (tTup ta) (gTup P.K 2 (gCons (gName i) (gCons (gName j) gNil)))) ρ N R := by
  intro G0 H0 G H σ o g r D n q
  refine h H0 G H σ g.ok r _ fun vs G1 H1 es g1 rs ⟨a, b, e, hN⟩ => ?_
  subst e
  match vs, rs with
  | [u, v], ⟨ra, rb, _⟩ =>
  refine ⟨by show 2 ≤ sizeLine; rw [sizeLine_eq]; decide, fun T nT => ⟨T, [u, v], rfl, .inl (.inl upd_same), rfl, u, _, rfl, v, _, rfl, rfl, ?_⟩⟩
  have g2 := g1.ok.hid (o := .tup [u, v]) nT
  have r1 := r.up g.ok (g1.trans g2)
  have nof : ∀ a, isF P a → H a ≠ none := fun a f => by obtain ⟨c, s, z, t, q⟩ := g.ok.fsome f; rw [q]; exact fun z => nomatch z
  have u1 : ∀ {e : En} {s : Option V}, SlE P H G1 H1 e s → SlE P H0 G1 (upd H1 T (.tup [u, v])) e s := fun h => (h.up g1.ok (fun b h => g1.dom h) nof g2).base r.low
  exact n _ _ G1 _ ((g.trans g1).trans g2) (g1.same g.ok) ((r1.set i (u1 ra)).set j (u1 rb)) hN

/-! ### dict(pairs), sorted(dict), list(row): one's own -/
def mergeD (kvs more : List (Key × PyData)) : List (Key × PyData) := more.foldl (fun acc kv => putD acc kv.1 kv.2) kvs
theorem kvA_merge {G : Hp} : ∀ {ms : List (Key × V)} {md : List (Key × PyData)}, KvA G ms md → ∀ {vs : List (Key × V)} {ds : List (Key × PyData)}, KvA G vs ds → KvA G (mergeK vs ms) (mergeD ds md)
  | _, _, .nil, _, _, h => h
  | _, _, .cons a t, _, _, h => kvA_merge t (kvA_put a h)
def pairsP (kvs : List (Key × PyData)) : List PyData := kvs.map fun kv => .tuple [keyP kv.1, kv.2]
theorem pairs_at {K : PySem.W.Frag} {G H : Hp} (s : Same G H) : ∀ {vs : List V} {kvs : List (Key × PyData)}, DqA G vs (pairsP kvs) → ∃ (ps : List Addr) (ws : List (Key × V)), vs = ps.map V.ref ∧ Paired (fun p (kv : Key × V) => SqT K H p [kV kv.1, kv.2]) ps ws ∧ KvA G ws kvs
  | _, [], .nil => ⟨[], [], rfl, .nil, .nil⟩
  | _, (k, d) :: r, .cons h t => by
    obtain ⟨ps, ws, rfl, hp, hk⟩ := pairs_at s t
    cases h with
    | tup ha hd =>
      cases hd with
      | cons h1 hd => cases hd with
        | cons h2 hd => cases hd with
          | nil =>
            have e := dq_key h1
            subst e
            exact ⟨_ :: ps, (k, _) :: ws, rfl, .cons (.inl (.inl (s _ _ ha))) hp, .cons h2 hk⟩
theorem dw_dictP {ta : TA} {Φ : En → Prop} (h : Da P ta ρ fun xs => ∃ kvs, xs = [.d (.list (pairsP kvs))] ∧ Φ (.od (mergeD [] kvs))) : Dw P (tCB (fun xs H Q => ∃ (a : Addr) (ps : List Addr) (kvs : List (Key × V)), xs = [.ref a] ∧ SqL P.K H a (ps.map V.ref) ∧ Paired (fun p kv => SqT P.K H p [kV kv.1, kv.2]) ps kvs ∧ ∀ p, H p = none → Q (.ref p) (upd H p (.dK (mergeK [] kvs)))) ta) ρ Φ := by
  intro H0 G H σ o r Q k
  refine h H0 G H σ o r _ fun vs G1 H1 xs g1 rv ⟨kvs, e, hΦ⟩ => ?_
  subst e
  obtain ⟨v, rfl, rv1⟩ := rvL1 rv
  cases rv1 with
  | lst ha hd =>
    obtain ⟨ps, ws, rfl, hp, hk⟩ := pairs_at (K := P.K) g1.ok.sub hd
    refine ⟨_, ps, ws, rfl, .inl (.inl (g1.ok.sub _ _ ha)), hp, fun p hp => ?_⟩
    have z : H p = none := by
      cases e : H p with
      | none => rfl
      | some u => exact absurd hp (g1.dom (by rw [e]; exact fun z => nomatch z))
    exact k _ G1 _ (.od (mergeD [] kvs)) (g1.trans (g1.ok.hid hp)) ⟨p, _, rfl, z, g1.ok.none_of hp, upd_same, kvA_merge hk .nil⟩ hΦ
theorem de_dictP {ta : TA} {Φ : KD} (h : Da P ta ρ fun xs => ∃ kvs, xs = [.d (.list (pairsP kvs))] ∧ Φ (.dk false (mergeD [] kvs))) : De P (tCB (fun xs H Q => ∃ (a : Addr) (ps : List Addr) (kvs : List (Key × V)), xs = [.ref a] ∧ SqL P.K H a (ps.map V.ref) ∧ Paired (fun p kv => SqT P.K H p [kV kv.1, kv.2]) ps kvs ∧ ∀ p, H p = none → Q (.ref p) (upd H p (.dK (mergeK [] kvs)))) ta) ρ Φ := by
  intro H0 G H σ o r Q k
  refine h H0 G H σ o r _ fun vs G1 H1 xs g1 rv ⟨kvs, e, hΦ⟩ => ?_
  subst e
  obtain ⟨v, rfl, rv1⟩ := rvL1 rv
  cases rv1 with
  | lst ha hd =>
    obtain ⟨ps, ws, rfl, hp, hk⟩ := pairs_at (K := P.K) g1.ok.sub hd
    refine ⟨_, ps, ws, rfl, .inl (.inl (g1.ok.sub _ _ ha)), hp, fun p hp => ?_⟩
    have g2 := g1.ok.new (o := .dK (mergeK [] ws)) hp
    exact k _ _ _ (.dk false (mergeD [] kvs)) (g1.trans g2) ⟨p, _, rfl, upd_same, kvA_up (g2.same g1.ok) (kvA_merge hk .nil)⟩ hΦ
theorem dw_list {ta : TA} {Φ : En → Prop} (h : Da P ta ρ fun xs => ∃ y ds, xs = [.d y] ∧ Row y ds ∧ Φ (.ol ds)) : Dw P (tCB (fun xs H Q => ∃ p ys, xs = [V.ref p] ∧ (SqL P.K H p ys ∨ SqT P.K H p ys) ∧ ∀ l, H l = none → Q (.ref l) (upd H l (.lst ys))) ta) ρ Φ := by
  intro H0 G H σ o r Q k
  refine h H0 G H σ o r _ fun vs G1 H1 xs g1 rv ⟨y, ds, e, hy, hΦ⟩ => ?_
  subst e
  obtain ⟨v, rfl, rv1⟩ := rvL1 rv
  obtain ⟨p, xs, rfl, hs, hd⟩ := row_at (K := P.K) hy rv1 g1.ok.sub
  refine ⟨_, _, rfl, hs, fun p hp => ?_⟩
  have z : H p = none := by
    cases e : H p with
    | none => rfl
    | some u => exact absurd hp (g1.dom (by rw [e]; exact fun z => nomatch z))
  exact k _ G1 _ (.ol ds) (g1.trans (g1.ok.hid hp)) ⟨p, _, rfl, z, g1.ok.none_of hp, upd_same, hd⟩ hΦ
theorem dc_sortD {lk : Bool} {kvs : List (Key × PyData)} {ks : List Str} {Φ : KD} (hk : kvs.map (·.1) = ks.map Sum.inr) (hl : ks.length < 64) (q : ∀ ys : List Str, ys.Perm ks → sortedS ys = true → Φ (.d (.list (ys.map .str)))) :
    DC P (fun xs H Q => ∃ (a : Addr) (kvs : List (Key × V)) (ks : List Str), xs = [.ref a] ∧ Rd H a (.dK kvs) ∧ kvs.map (·.1) = ks.map Sum.inr ∧ ks.length < 64 ∧ ∀ ys p, ys.Perm ks → sortedS ys = true → H p = none → Q (.ref p) (upd H p (.lst (ys.map V.str)))) [.dk lk kvs] Φ := by
  intro G H vs o rv Q k
  obtain ⟨v, rfl, rv1⟩ := rvL1 rv
  obtain ⟨a, ws, rfl, ha, hd⟩ := rv1
  refine ⟨a, ws, ks, rfl, dAt_up' o.sub ha, (kvA_keys hd).trans hk, hl, fun ys p h1 h2 hp => ?_⟩
  exact k _ _ _ (.d (.list (ys.map .str))) (o.new hp) (.lst upd_same st_dpA) (q ys h1 h2)
theorem dc_sortDI {lk : Bool} {kvs : List (Key × PyData)} {ks : List Int} {Φ : KD} (hk : kvs.map (·.1) = ks.map Sum.inl) (hl : ks.length < 64) (q : ∀ ys : List Int, ys.Perm ks → ys.Pairwise (· ≤ ·) → Φ (.d (.list (ys.map .int)))) :
    DC P (fun xs H Q => ∃ (a : Addr) (kvs : List (Key × V)) (ks : List Int), xs = [.ref a] ∧ Rd H a (.dK kvs) ∧ kvs.map (·.1) = ks.map Sum.inl ∧ ks.length < 64 ∧ ∀ (ys : List Int) (p : Addr), ys.Perm ks → ys.Pairwise (· ≤ ·) → H p = none → Q (.ref p) (upd H p (.lst (ys.map V.int)))) [.dk lk kvs] Φ := by
  intro G H vs o rv Q k
  obtain ⟨v, rfl, rv1⟩ := rvL1 rv
  obtain ⟨a, ws, rfl, ha, hd⟩ := rv1
  refine ⟨a, ws, ks, rfl, dAt_up' o.sub ha, (kvA_keys hd).trans hk, hl, fun ys p h1 h2 hp => ?_⟩
  exact k _ _ _ (.d (.list (ys.map .int))) (o.new hp) (.lst upd_same in_dpA) (q ys h1 h2)

/-! ### slices, a star, list.remove -/
def Dpart (P : Pm) (t : TO) (ρ : List En) (Φ : Option Int → Prop) : Prop := ∀ H0 G H σ, Ok P G H → Rel P H0 G H ρ σ → ∀ Q : Option Int → Hp → Prop, (∀ b G' H', Grow P G H G' H' → Φ b → Q b H') → t σ H Q
theorem dp_none {Φ : Option Int → Prop} (q : Φ none) : Dpart P tNoPart ρ Φ := fun _ G H _ o _ _ k => k none G H (.refl o) q
theorem dp_some {te : TE} {Φ : Option Int → Prop} (h : De P te ρ fun x => ∃ i, x = .d (.int i) ∧ Φ (some i)) : Dpart P (tPart te) ρ Φ := by
  intro H0 G H σ o r Q k
  refine h H0 G H σ o r _ fun v G' H' x g rv ⟨i, e, q⟩ => ?_
  subst e
  cases rv
  exact ⟨i, rfl, k _ G' H' g q⟩
def cutD (xs : List PyData) (lo hi : Option Int) : List PyData := (xs.drop (HT.sIx xs.length 0 lo)).take (HT.sIx xs.length xs.length hi - HT.sIx xs.length 0 lo)
theorem dpA_cut {G : Hp} {vs : List V} {ds : List PyData} (h : DqA G vs ds) (lo hi : Option Int) : DqA G (cutV vs lo hi) (cutD ds lo hi) := by
  unfold cutV cutD
  rw [dpA_len h]
  exact dpA_take _ (dpA_drop _ h)
theorem cutD_all {xs : List PyData} {lo hi : Option Int} (h : HT.sIx xs.length 0 lo = 0 ∧ HT.sIx xs.length xs.length hi = xs.length) : cutD xs lo hi = xs := by
  unfold cutD
  rw [h.1, h.2]
  simp
theorem de_sl {te : TE} {tl th : TO} {Φ : KD} (h : De P te ρ fun x => Dpart P tl ρ fun lo => Dpart P th ρ fun hi => ∃ ds, (x = .d (.list ds) ∧ Φ (.d (.list (cutD ds lo hi)))) ∨ (x = .d (.tuple ds) ∧ Φ (.d (.tuple (cutD ds lo hi))))) :
    De P (tSl (fun x lo hi H Q => rSlL P.K x lo hi H Q ∨ rSlA P.K x lo hi H Q) te tl th) ρ Φ := by
  intro H0 G H σ o r Q k
  refine h H0 G H σ o r _ fun v G1 H1 x g1 rv h2 => ?_
  refine h2 H0 G1 H1 σ g1.ok (r.up o g1) _ fun lo G2 H2 g2 h3 => ?_
  refine h3 H0 G2 H2 σ g2.ok ((r.up o g1).up g1.ok g2) _ fun hi G3 H3 g3 ⟨ds, hh⟩ => ?_
  have rv3 := rv_up (g3.same g2.ok) (rv_up (g2.same g1.ok) rv)
  have gg := (g1.trans g2).trans g3
  rcases hh with ⟨e, q⟩ | ⟨e, q⟩
  · subst e
    cases rv3 with
    | lst ha hd => exact .inl ⟨_, _, rfl, .inl (.inl (g3.ok.sub _ _ ha)), fun p hp => k _ _ _ (.d (.list _)) (gg.trans (g3.ok.new hp)) (.lst upd_same (dpA_up ((g3.ok.new hp).same g3.ok) (dpA_cut hd lo hi))) q⟩
  · subst e
    have rv4 := rv3
    cases rv3 with
    | tup ha hd =>
      refine .inr ⟨_, _, rfl, .inl (.inl (g3.ok.sub _ _ ha)), fun e => ?_, fun _ p hp => k _ _ _ (.d (.tuple _)) (gg.trans (g3.ok.new hp)) (.tup upd_same (dpA_up ((g3.ok.new hp).same g3.ok) (dpA_cut hd lo hi))) q⟩
      rw [dpA_len hd] at e
      rw [cutD_all e] at q
      exact k _ G3 H3 (.d (.tuple ds)) gg rv4 q
theorem da_star {te : TE} {ta : TA} {Φ : List Dv → Prop} (h : De P te ρ fun x => ∃ y ds, x = .d y ∧ Row y ds ∧ Da P ta ρ fun xs => Φ (ds.map .d ++ xs)) : Da P (StX.tStar P.K te ta) ρ Φ := by
  intro H0 G H σ o rl Q k
  refine h H0 G H σ o rl _ fun u G1 H1 x g1 ru ⟨y, ds, e, hy, h2⟩ => ?_
  subst e
  obtain ⟨p, ws, rfl, hs, hd⟩ := row_at (K := P.K) hy ru g1.ok.sub
  refine ⟨p, ws, rfl, hs.symm, ?_⟩
  refine h2 H0 G1 H1 σ g1.ok (rl.up o g1) _ fun vs G2 H2 xs g2 rvs h3 => ?_
  exact k (ws ++ vs) G2 H2 (ds.map .d ++ xs) (g1.trans g2) (rvL_app (dpA_rvL (dpA_up (g2.same g1.ok) hd)) rvs) h3
theorem ds_remove {i : Nat} {te : TE} {ns : List Int} (hi : ρ[i]? = some (.ol (ns.map .int))) (o1 : OneL ρ i) (h : De P te ρ fun x => ∃ k j, x = .d (.int k) ∧ ns[j]? = some k ∧ (∀ m, m < j → ns[m]? ≠ some k) ∧ N (ρ.set i (.ol ((ns.eraseIdx j).map .int)))) : Ds P (tDrop (tBM P.K "list" rRemI (tVar i) (tCons te tNil))) ρ N R := by
  intro G0 H0 G H σ o g r D n q
  obtain ⟨s, hs, p, vs, rfl, h0, h1, h2, hd⟩ := r.at_ i _ hi
  refine ⟨.ref p, hs, tyL h2, ?_⟩
  refine h H0 G H σ g.ok r _ fun v G1 H1 x g1 rv ⟨kk, j, e, hj, hm, hN⟩ => ?_
  subst e
  cases rv
  have f := fun f => r.nof p f h0
  have ev := dpA_in hd
  subst ev
  have k1 := g1.hid h1 h2 (fun _ z => nomatch z)
  have k2 := g1.kp _ _ h2 f
  have r1 := r.up g.ok g1
  refine ⟨p, ns, kk, j, rfl, rfl, k2, hj, hm, ?_⟩
  exact n _ σ G1 _ (Grow.putO o (g.trans g1) r1 h0 k1) (g1.same g.ok) (r1.putL (G' := G1) (H' := H1) o1 hi hs h0 k1 k2 in_dpA) hN
end Z

/-! # ZLock -/
set_option Elab.async false
set_option linter.all false
set_option maxRecDepth 100000
set_option maxHeartbeats 400000
/-! A dict that is walked stands locked meanwhile. -/
namespace Z
open PySem PySem.Spec PyProof.Rows L2
variable {P : Pm} {ρ : List En} {N : List En → Prop} {R : KD}
def isDct : HO → Bool
  | .dK _ => true
  | .dT _ => true
  | _ => false
/-- nothing but a dict's place differs -/
structure Off (d : Addr) (G G' : Hp) : Prop where
  eq_ : ∀ b, b ≠ d → G' b = G b
  nl : ∀ xs, G d ≠ some (.lst xs)
  nt : ∀ xs, G d ≠ some (.tup xs)
  ni : ∀ C dx fs, G d ≠ some (.ins C dx fs)
  nz : ∀ o xs, G d ≠ some (.frz o (.tup xs))
section
variable {d : Addr} {G G' : Hp}
theorem Off.at_ (o : Off d G G') {b : Addr} {u : HO} (h : G b = some u) (hu : G d ≠ some u) : G' b = some u := by
  rw [o.eq_ b (fun z => hu (z ▸ h))]; exact h
mutual
theorem dq_off (o : Off d G G') : ∀ {v : V} {x : PyData}, Dq G v x → Dq G' v x
  | _, _, .non => .non
  | _, _, .bl b => .bl b
  | _, _, .int i => .int i
  | _, _, .str x => .str x
  | _, _, .lst h t => .lst (o.at_ h (o.nl _)) (dqA_off o t)
  | _, _, .tup h t => .tup (o.at_ h (o.nt _)) (dqA_off o t)
theorem dqA_off (o : Off d G G') : ∀ {vs : List V} {xs : List PyData}, DqA G vs xs → DqA G' vs xs
  | _, _, .nil => .nil
  | _, _, .cons h t => .cons (dq_off o h) (dqA_off o t)
end
theorem ptAt_off (o : Off d G G') {v : V} {ds : List PyData} (h : PtAt G v ds) : PtAt G' v ds := let ⟨a, xs, z, e, h1, h0, h2, h3⟩ := h; ⟨a, xs, z, e, h1, h0, o.at_ h2 (o.nz _ _), dqA_off o h3⟩
theorem kvA_off {κ : Type} (o : Off d G G') {vs : List (κ × V)} {xs : List (κ × PyData)} (h : KvA G vs xs) : KvA G' vs xs := by
  induction h with
  | nil => exact .nil
  | cons a _ ih => exact .cons (dq_off o a) ih
end
def weakE : En → En
  | .fz (.dk _ kvs) => .fz (.dk true kvs)
  | .fz (.dt _ kvs) => .fz (.dt true kvs)
  | .fz (.dlk kvs) => .fz (.dk true kvs)
  | .fz (.dlt kvs) => .fz (.dt true kvs)
  | e => e
/-- all dicts perhaps behind a lock, the one at slot i surely -/
def lockE (ρ : List En) (i : Nat) : List En := (ρ.map weakE).set i (match ρ[i]? with | some (.fz (.dk _ kvs)) => .fz (.dlk kvs) | some (.fz (.dt _ kvs)) => .fz (.dlt kvs) | _ => .un)
theorem rd_lock {G : Hp} {d a : Addr} {u w : HO} {od : Obj} (hd : G d = some u) (hu : isDct u = true) (h : Rd G a w) : Rd (upd G d (.frz od u)) a w := by
  by_cases z : a = d
  · subst z
    rcases h with h | ⟨o', h⟩
    · rw [hd] at h; cases h; exact .inr ⟨od, upd_same⟩
    · rw [hd] at h; cases h; exact nomatch hu
  · rcases h with h | ⟨o', h⟩
    · exact .inl (by rw [upd_ne z]; exact h)
    · exact .inr ⟨o', by rw [upd_ne z]; exact h⟩
theorem off_lock {G : Hp} {d : Addr} {u : HO} {od : Obj} (hd : G d = some u) (hu : isDct u = true) : Off d G (upd G d (.frz od u)) :=
  ⟨fun b h => upd_ne h, fun xs e => by rw [hd] at e; cases e; exact (nomatch hu), fun xs e => by rw [hd] at e; cases e; exact (nomatch hu), fun C dx fs e => by rw [hd] at e; cases e; exact (nomatch hu), fun o xs e => by rw [hd] at e; cases e; exact (nomatch hu)⟩
theorem Rel.lock {H0 G H : Hp} {σ : L2.St} {i : Nat} {d : Addr} {u : HO} {od : Obj} (o : Ok P G H) (r : Rel P H0 G H ρ σ) (hG : G d = some u) (hu : isDct u = true) (hs : σ[i]? = some (some (.ref d)))
    (hi : (∃ lk kvs vs, ρ[i]? = some (.fz (.dk lk kvs)) ∧ u = .dK vs ∧ KvA G vs kvs) ∨ ∃ lk kvs vs, ρ[i]? = some (.fz (.dt lk kvs)) ∧ u = .dT vs ∧ KvA G vs kvs) :
    Ok P (upd G d (.frz od u)) (upd H d (.frz od u)) ∧ Rel P H0 (upd G d (.frz od u)) (upd H d (.frz od u)) (lockE ρ i) σ := by
  have hH := o.sub _ _ hG
  have nf : ¬ isF P d := fun f => by rw [o.nf d f] at hG; exact nomatch hG
  have off := off_lock (od := od) hG hu
  refine ⟨⟨fun b w e => ?_, fun a c ns e => ?_, fun a f => ?_⟩, ⟨?_, fun j e h => ?_, fun b h => ?_, r.nof⟩⟩
  · by_cases z : b = d
    · rw [z, upd_same] at e ⊢; exact e
    · rw [upd_ne z] at e ⊢; exact o.sub _ _ e
  · obtain ⟨⟨s, q, t, s0, q1⟩, q2⟩ := o.feed a c ns e
    refine ⟨⟨s, q, t, s0, by rw [upd_ne (show a ≠ d from fun z => nf (z ▸ ⟨c, ns, e⟩))]; exact q1⟩, ?_⟩
    rw [upd_ne (show c ≠ d from fun z => by rw [z, hH] at q2; cases q2; exact nomatch hu)]
    exact q2
  · rw [upd_ne (show a ≠ d from fun z => nf (z ▸ f))]; exact o.nf a f
  · rw [lockE, List.length_set, List.length_map, r.len]
  · rw [lockE] at h
    by_cases z : i = j
    · subst z
      have lt : i < (ρ.map weakE).length := by
        have := (List.getElem?_eq_some_iff.mp h).1
        rwa [List.length_set] at this
      rw [List.getElem?_set_self lt] at h
      refine ⟨_, hs, ?_⟩
      rcases hi with ⟨lk, kvs, vs, h1, rfl, hk⟩ | ⟨lk, kvs, vs, h1, rfl, hk⟩
      · rw [h1] at h; cases h
        exact ⟨.ref d, rfl, d, vs, od, rfl, upd_same, kvA_off off hk⟩
      · rw [h1] at h; cases h
        exact ⟨.ref d, rfl, d, vs, od, rfl, upd_same, kvA_off off hk⟩
    · rw [List.getElem?_set_ne z, List.getElem?_map] at h
      cases e0 : ρ[j]? with
      | none => rw [e0] at h; exact nomatch h
      | some e1 =>
        rw [e0] at h
        simp only [Option.map_some, Option.some.injEq] at h
        subst h
        obtain ⟨s, h1, h2⟩ := r.at_ j e1 e0
        refine ⟨s, h1, ?_⟩
        cases e1 with
        | un => exact True.intro
        | ol ds =>
          obtain ⟨p, vs, a1, a2, a3, a4, a5⟩ := h2
          have np : p ≠ d := fun z => by rw [z, hG] at a3; exact nomatch a3
          exact ⟨p, vs, a1, a2, by rw [upd_ne np]; exact a3, by rw [upd_ne np]; exact a4, dqA_off off a5⟩
        | od kvs =>
          obtain ⟨p, vs, a1, a2, a3, a4, a5⟩ := h2
          have np : p ≠ d := fun z => by rw [z, hG] at a3; exact nomatch a3
          exact ⟨p, vs, a1, a2, by rw [upd_ne np]; exact a3, by rw [upd_ne np]; exact a4, kvA_off off a5⟩
        | fz x =>
          obtain ⟨v, a1, a2⟩ := h2
          cases x with
          | d x => exact ⟨v, a1, dq_off off a2⟩
          | dk lk kvs => obtain ⟨a, vs, rfl, b1, b2⟩ := a2; exact ⟨_, a1, a, vs, rfl, rd_lock hG hu b1.rd, kvA_off off b2⟩
          | dt lk kvs => obtain ⟨a, vs, rfl, b1, b2⟩ := a2; exact ⟨_, a1, a, vs, rfl, rd_lock hG hu b1.rd, kvA_off off b2⟩
          | dlk kvs => obtain ⟨a, vs, od', rfl, b1, b2⟩ := a2; exact ⟨_, a1, a, vs, rfl, rd_lock hG hu (.inr ⟨od', b1⟩), kvA_off off b2⟩
          | dlt kvs => obtain ⟨a, vs, od', rfl, b1, b2⟩ := a2; exact ⟨_, a1, a, vs, rfl, rd_lock hG hu (.inr ⟨od', b1⟩), kvA_off off b2⟩
          | ro n r p => obtain ⟨a, dx, v1, v2, v3, rfl, b1, b2, b3, b4⟩ := a2; exact ⟨_, a1, a, dx, v1, v2, v3, rfl, off.at_ b1 (off.ni _ _ _), dq_off off b2, dq_off off b3, ptAt_off off b4⟩
          | pt ds => exact ⟨v, a1, ptAt_off off a2⟩
          | ty s => exact ⟨v, a1, a2⟩
          | cl => exact ⟨v, a1, a2⟩
          | fd => exact ⟨v, a1, a2⟩
  · by_cases z : b = d
    · rw [z, upd_same]; exact fun z => nomatch z
    · rw [upd_ne z]; exact r.dom b h
/-- behind the lock -/
theorem unlock {G H G' H' : Hp} {d : Addr} {u : HO} {od : Obj} (o : Ok P G H) (hG : G d = some u) (hu : isDct u = true) (g : Grow P (upd G d (.frz od u)) (upd H d (.frz od u)) G' H') :
    H' d = some (.frz od u) ∧ G' d = some (.frz od u) ∧ Grow P G H (upd G' d u) (upd H' d u) ∧ Off d G' (upd G' d u) := by
  have hH := o.sub _ _ hG
  have nf : ¬ isF P d := fun f => by rw [o.nf d f] at hG; exact nomatch hG
  have k1 : H' d = some (.frz od u) := g.kp _ _ upd_same nf
  have k2 : G' d = some (.frz od u) := by
    rcases g.eqG d (by rw [upd_same]; exact fun z => nomatch z) with e | ⟨xs, e, _⟩
    · rw [e, upd_same]
    · rw [upd_same] at e; exact nomatch e
  refine ⟨k1, k2, ⟨fun b w e f => ?_, fun b e => ?_, ⟨fun b w e => ?_, fun a c ns e => ?_, fun a f => ?_⟩⟩, ⟨fun b h => upd_ne h, fun xs e => ?_, fun xs e => ?_, fun C dx fs e => ?_, fun o xs e => ?_⟩⟩
  · by_cases z : b = d
    · subst z; rw [upd_same]; rw [hH] at e; exact e
    · rw [upd_ne z]; exact g.kp b w (by rw [upd_ne z]; exact e) f
  · by_cases z : b = d
    · subst z; exact .inl (by rw [upd_same, hG])
    · rw [upd_ne z]
      have := g.eqG b (by rw [upd_ne z]; exact e)
      rwa [upd_ne z, upd_ne z] at this
  · by_cases z : b = d
    · rw [z, upd_same] at e ⊢; exact e
    · rw [upd_ne z] at e ⊢; exact g.ok.sub _ _ e
  · obtain ⟨⟨s, q, t, s0, q1⟩, q2⟩ := g.ok.feed a c ns e
    refine ⟨⟨s, q, t, s0, by rw [upd_ne (show a ≠ d from fun z => nf (z ▸ ⟨c, ns, e⟩))]; exact q1⟩, ?_⟩
    rw [upd_ne (show c ≠ d from fun z => by rw [z, k1] at q2; exact nomatch q2)]
    exact q2
  · rw [upd_ne (show a ≠ d from fun z => nf (z ▸ f))]; exact g.ok.nf a f
  · rw [k2] at e; exact nomatch e
  · rw [k2] at e; exact nomatch e
  · rw [k2] at e; exact nomatch e
  · rw [k2] at e; cases e; exact nomatch hu
def IsDctE (ρ : List En) (i : Nat) : Prop := (∃ kvs, ρ[i]? = some (.fz (.dk false kvs))) ∨ ∃ kvs, ρ[i]? = some (.fz (.dt false kvs))
theorem Rel.dct {H0 G H : Hp} {σ : L2.St} {i : Nat} (r : Rel P H0 G H ρ σ) (h : IsDctE ρ i) : ∃ d u, σ[i]? = some (some (.ref d)) ∧ G d = some u ∧ isDct u = true ∧
    ((∃ lk kvs vs, ρ[i]? = some (.fz (.dk lk kvs)) ∧ u = .dK vs ∧ KvA G vs kvs) ∨ ∃ lk kvs vs, ρ[i]? = some (.fz (.dt lk kvs)) ∧ u = .dT vs ∧ KvA G vs kvs) := by
  rcases h with ⟨kvs, h⟩ | ⟨kvs, h⟩
  · obtain ⟨s, h1, v, rfl, a, vs, rfl, ha, hk⟩ := r.at_ i _ h
    exact ⟨a, _, h1, ha, rfl, .inl ⟨_, _, _, h, rfl, hk⟩⟩
  · obtain ⟨s, h1, v, rfl, a, vs, rfl, ha, hk⟩ := r.at_ i _ h
    exact ⟨a, _, h1, ha, rfl, .inr ⟨_, _, _, h, rfl, hk⟩⟩
theorem mut_dct {u : HO} (h : isDct u = true) : Mut (some u) := by
  cases u <;> first | exact True.intro | exact nomatch h
theorem de_lock {i : Nat} {te : TE} {Φ : KD} (hi : IsDctE ρ i) (h : De P te (lockE ρ i) fun x => ∃ d, x = .d d ∧ Φ x) : De P (tLockE te) ρ Φ := by
  intro H0 G H σ o r Q k
  obtain ⟨d, u, hs, hG, hu, hh⟩ := r.dct hi
  refine ⟨d, u, o.sub _ _ hG, mut_dct hu, fun od => ?_⟩
  obtain ⟨o1, r1⟩ := Rel.lock (od := od) o r hG hu hs hh
  refine h H0 _ _ σ o1 r1 _ fun v G' H' x g rv ⟨y, e, q⟩ => ?_
  subst e
  obtain ⟨k1, k2, g2, off⟩ := unlock o hG hu g
  exact ⟨k1, k v _ _ (.d y) g2 (dq_off off rv) q⟩
theorem di_keys {te : TE} {Ξ : List Dv → Prop} (h : De P te ρ fun x => (∃ kvs, x = .dlk kvs ∧ Ξ (kvs.map fun kv => .d (keyP kv.1))) ∨ ∃ kvs, x = .dlt kvs ∧ Ξ (kvs.map fun kv => .d (.tuple (kv.1.map keyP)))) : Di P (iKeys te) ρ Ξ := by
  intro H0 G H σ o r T k
  refine h H0 G H σ o r _ fun v G1 H1 x g1 rv hh => ?_
  rcases hh with ⟨kvs, e, p⟩ | ⟨kvs, e, p⟩
  · subst e
    obtain ⟨a, vs, od, rfl, ha, hk⟩ := rv
    refine ⟨a, od, rfl, .inl ⟨vs, g1.ok.sub _ _ ha, k _ G1 H1 _ g1 (yl_of walk_keys (by rw [List.length_map, kvA_len hk]) (fun G2 H2 o2 s2 => o2.sub _ _ (s2 _ _ ha)) ?_) p⟩⟩
    intro G2 H2 i x v H3 o2 s2 e y
    obtain ⟨rfl, key, w, e2, rfl⟩ := y
    have e3 := congrArg (fun l => l[i]?) (kvA_keys hk)
    simp only [List.getElem?_map, e2, Option.map_some] at e3
    rw [List.getElem?_map] at e
    cases e1 : kvs[i]? with
    | none => rw [e1] at e3; exact nomatch e3
    | some q =>
      rw [e1] at e e3
      cases e
      simp only [Option.map_some, Option.some.injEq] at e3
      exact ⟨G2, .refl o2, by rw [e3]; exact key_dq⟩
  · subst e
    obtain ⟨a, vs, od, rfl, ha, hk⟩ := rv
    refine ⟨a, od, rfl, .inr ⟨vs, g1.ok.sub _ _ ha, k _ G1 H1 _ g1 (yl_of walk_keysT (by rw [List.length_map, kvA_len hk]) (fun G2 H2 o2 s2 => o2.sub _ _ (s2 _ _ ha)) ?_) p⟩⟩
    intro G2 H2 i x v H3 o2 s2 e y
    obtain ⟨rfl, key, w, q0, e2, rfl, hq⟩ := y
    have e3 := congrArg (fun l => l[i]?) (kvA_keys hk)
    simp only [List.getElem?_map, e2, Option.map_some] at e3
    rw [List.getElem?_map] at e
    cases e1 : kvs[i]? with
    | none => rw [e1] at e3; exact nomatch e3
    | some q =>
      rw [e1] at e e3
      cases e
      simp only [Option.map_some, Option.some.injEq] at e3
      have nf : ¬ isF P q0 := fun f => by obtain ⟨c, s, z, t, w⟩ := o2.fsome f; rw [w] at hq; exact nomatch hq
      refine ⟨upd G2 q0 (.tup (key.map kV)), ⟨fun b u e _ => e, fun b e => ?_, ⟨fun b u e => ?_, o2.feed, fun a f => ?_⟩⟩, ?_⟩
      · by_cases z : b = q0
        · subst z; exact .inr ⟨_, hq, by rw [upd_same, hq]⟩
        · exact .inl (upd_ne z)
      · by_cases z : b = q0
        · subst z; rw [upd_same] at e; rw [hq]; exact e
        · rw [upd_ne z] at e; exact o2.sub _ _ e
      · rw [upd_ne (show a ≠ q0 from fun z => nf (z ▸ f))]; exact o2.nf a f
      · show Dq _ _ (.tuple (q.1.map keyP))
        rw [← e3]
        exact .tup upd_same keys_dq
end Z

/-! # ZKit -/
set_option Elab.async false
set_option linter.all false
set_option maxRecDepth 100000
set_option maxHeartbeats 400000
/-! isinstance, zip, the order of data, defaults: over plain data. -/
namespace Z
open PySem PySem.Spec PyProof.Rows L2
section
variable {X : Cx} {k : Nat}
/-- x >= y for data that are alike -/
def rGeD (K : PySem.W.Frag) : R2 := fun x y H Q => ∃ d e, Dp K H x d ∧ Dp K H y e ∧ PySem.W.alike d e = true ∧ d ≠ .none ∧ d.depth ≤ 8 ∧ Q (.bl (!PySem.W.dataLt d e)) H
theorem op_geD (hr : Room k X.A) : OpR X (compareOp .GtE) (rGeD X.K) := by
  intro pins s σ H x y v u Q I rx ry h
  obtain ⟨d, e, hd, he, ha, hn, hp, q⟩ := h
  obtain ⟨as, r1⟩ := Dp.reads I d _ _ hd rx
  obtain ⟨bs, r2⟩ := Dp.reads I e _ _ he ry
  have := hr.units
  exact PySem.W.ge_data r1 r2 ha hn (by omega) ⟨.bl _, H, I, rfl, q⟩
theorem op_geK (K : PySem.W.Frag) (hr : Room k X.A) (eK : X.K = K := by rfl) : OpR X (compareOp .GtE) (fun x y H Q => (rI0 fun i j => .bl (decide (j ≤ i))) x y H Q ∨ rGeD K x y H Q) := eK ▸ OpR.or op_ge (op_geD hr)
end
variable {P : Pm} {ρ : List En} {N : List En → Prop} {R : KD}
theorem de_geI {ta tb : TE} {Φ : KD} (h : De P ta ρ fun x => De P tb ρ fun y => ∃ a b, x = .d (.int a) ∧ y = .d (.int b) ∧ Φ (.d (.bool (decide (b ≤ a))))) : De P (tOp (fun x y H Q => (rI0 fun i j => .bl (decide (j ≤ i))) x y H Q ∨ rGeD P.K x y H Q) ta tb) ρ Φ :=
  de_op (h.mono fun x h => De.mono h fun y ⟨a, b, e, e', q⟩ => by subst e; subst e'; exact DOp.inl (dop_b0 (g := fun i j => decide (j ≤ i)) q))
theorem de_geD {ta tb : TE} {Φ : KD} (h : De P ta ρ fun x => De P tb ρ fun y => ∃ a b, x = .d a ∧ y = .d b ∧ PySem.W.alike a b = true ∧ a ≠ .none ∧ a.depth ≤ 8 ∧ Φ (.d (.bool (!PySem.W.dataLt a b)))) : De P (tOp (fun x y H Q => (rI0 fun i j => .bl (decide (j ≤ i))) x y H Q ∨ rGeD P.K x y H Q) ta tb) ρ Φ :=
  de_op (h.mono fun x h => De.mono h fun y ⟨a, b, e, e', ha, hn, hd, q⟩ => by
    subst e; subst e'
    refine DOp.inr fun G H u v o ru rv Q k => ⟨a, b, (dp_up o.sub ru).dp, (dp_up o.sub rv).dp, ha, hn, hd, k _ G H (.d (.bool _)) (.refl o) (Dq.bl _) q⟩)

/-! ### isinstance -/
def tyN : PyData → String
  | .none => "NoneType"
  | .bool _ => "bool"
  | .int _ => "int"
  | .str _ => "str"
  | .list _ => "list"
  | .tuple _ => "tuple"
  | .dict _ => "dict"
theorem tyX_of {K : PySem.W.Frag} {H : Hp} {v : V} {x : PyData} (h : Dq H v x) : TyX K H v (.type (tyN x)) := by
  cases h with
  | non => exact .base .non
  | bl b => exact .base (.bl b)
  | int i => exact .base (.int i)
  | str s => exact .base (.str s)
  | lst ha _ => exact .base (.lst ha)
  | tup ha _ => exact .base (.tup ha)
theorem de_ty {s : String} {Φ : KD} (q : Φ (.ty s)) : De P (tC (.ty s)) ρ Φ := de_c (x := .ty s) (fun _ => rfl) q
theorem de_cl {Φ : KD} (q : Φ .cl) : De P (tC (.ref P.C)) ρ Φ := de_c (x := .cl) (fun _ => rfl) q
theorem dc_isi {x : PyData} {s : String} {b : Bool} {Φ : KD} (hk : kitB (tyN x) s = some b) (q : Φ (.d (.bool b))) : DC P (rIsi P.K) [.d x, .ty s] Φ := by
  intro G H vs o rv Q k
  obtain ⟨v, u, rfl, rv1, rv2⟩ := rvL2 rv
  have e : u = .ty s := rv2
  subst e
  exact ⟨v, .ty s, _, _, b, rfl, .ty s, tyX_of (dp_up o.sub rv1), kit_ty hk, k _ G H (.d (.bool _)) (.refl o) (Dq.bl _) q⟩
def isTup : PyData → Bool
  | .tuple _ => true
  | _ => false
def isStr : PyData → Bool
  | .str _ => true
  | _ => false
def isInt : PyData → Bool
  | .int _ => true
  | .bool _ => true
  | _ => false
def isBoo : PyData → Bool
  | .bool _ => true
  | _ => false
theorem kit_tup (x : PyData) : kitB (tyN x) "tuple" = some (isTup x) := by
  cases x with
  | none => show kitB "NoneType" "tuple" = some false; decide +kernel
  | bool => show kitB "bool" "tuple" = some false; decide +kernel
  | int => show kitB "int" "tuple" = some false; decide +kernel
  | str => show kitB "str" "tuple" = some false; decide +kernel
  | list => show kitB "list" "tuple" = some false; decide +kernel
  | tuple => show kitB "tuple" "tuple" = some true; decide +kernel
  | dict => show kitB "dict" "tuple" = some false; decide +kernel
theorem kit_str (x : PyData) : kitB (tyN x) "str" = some (isStr x) := by
  cases x with
  | none => show kitB "NoneType" "str" = some false; decide +kernel
  | bool => show kitB "bool" "str" = some false; decide +kernel
  | int => show kitB "int" "str" = some false; decide +kernel
  | str => show kitB "str" "str" = some true; decide +kernel
  | list => show kitB "list" "str" = some false; decide +kernel
  | tuple => show kitB "tuple" "str" = some false; decide +kernel
  | dict => show kitB "dict" "str" = some false; decide +kernel
theorem kit_int (x : PyData) : kitB (tyN x) "int" = some (isInt x) := by
  cases x with
  | none => show kitB "NoneType" "int" = some false; decide +kernel
  | bool => show kitB "bool" "int" = some true; decide +kernel
  | int => show kitB "int" "int" = some true; decide +kernel
  | str => show kitB "str" "int" = some false; decide +kernel
  | list => show kitB "list" "int" = some false; decide +kernel
  | tuple => show kitB "tuple" "int" = some false; decide +kernel
  | dict => show kitB "dict" "int" = some false; decide +kernel
theorem kit_boo (x : PyData) : kitB (tyN x) "bool" = some (isBoo x) := by
  cases x with
  | none => show kitB "NoneType" "bool" = some false; decide +kernel
  | bool => show kitB "bool" "bool" = some true; decide +kernel
  | int => show kitB "int" "bool" = some false; decide +kernel
  | str => show kitB "str" "bool" = some false; decide +kernel
  | list => show kitB "list" "bool" = some false; decide +kernel
  | tuple => show kitB "tuple" "bool" = some false; decide +kernel
  | dict => show kitB "dict" "bool" = some false; decide +kernel

/-! ### zip -/
theorem walk_zT {K : PySem.W.Frag} {a b : Addr} {xs ys : List V} : Walk (RZ.ItzT K a b) (min xs.length ys.length) (fun H => SqT K H a xs ∧ SqT K H b ys) (YPair (fun i => xs[i]?) (fun i => ys[i]?)) := by
  refine ⟨fun i H hi ⟨h1, h2⟩ => ?_, fun H ⟨h1, h2⟩ => ?_, fun i H v H' hi ⟨h1, h2⟩ h => ?_⟩
  · exact ⟨xs, ys, xs[i]'(by omega), ys[i]'(by omega), h1, h2, List.getElem?_eq_getElem _, List.getElem?_eq_getElem _⟩
  · exact ⟨xs, ys, h1, h2, by omega⟩
  · obtain ⟨T, x, y, rfl, hT, rfl, hx, hy⟩ := h
    exact ⟨T, x, y, rfl, hT, rfl, hx xs h1, hy ys h2⟩
theorem di_zipT {ta : TA} {Ξ : List Dv → Prop} (h : Da P ta ρ fun xs => ∃ as bs, xs = [.d (.tuple as), .d (.tuple bs)] ∧ Ξ ((zipD as bs).map .d)) : Di P (RZ.iZipA P.K ta) ρ Ξ := by
  intro H0 G H σ o r T k
  refine h H0 G H σ o r _ fun vs G1 H1 x g1 rv ⟨as, bs, e, p⟩ => ?_
  subst e
  obtain ⟨v, u, rfl, rv1, rv2⟩ := rvL2 rv
  cases rv1 with
  | @tup a xs _ ha hd =>
    cases rv2 with
    | @tup b ys _ hb he =>
      refine ⟨a, b, xs, ys, rfl, .inr ⟨.inl (.inl (g1.ok.sub _ _ ha)), .inl (.inl (g1.ok.sub _ _ hb)), k _ G1 H1 _ g1 (yl_pair walk_zT ?_ (fun G2 H2 o2 s2 => ⟨.inl (.inl (o2.sub _ _ (s2 _ _ ha))), .inl (.inl (o2.sub _ _ (s2 _ _ hb)))⟩) ?_) p⟩⟩
      · rw [zipD, List.length_map, List.length_zip, dpA_len hd, dpA_len he]
      · intro i a' b' q eq ea eb
        obtain ⟨x, y, e1, e2, rfl⟩ := zipD_at eq
        obtain ⟨v1, f1, g1'⟩ := dpA_at hd e1
        obtain ⟨v2, f2, g2'⟩ := dpA_at he e2
        rw [ea] at f1; cases f1
        rw [eb] at f2; cases f2
        exact ⟨x, y, rfl, g1', g2'⟩
theorem cut_one (ds : List PyData) : cutD ds (some 1) none = ds.drop 1 := by
  unfold cutD
  rw [HT.sIx_none, show HT.sIx ds.length 0 (some 1) = min 1 ds.length from HT.sIx_nat ds.length 0 1]
  cases ds with
  | nil => rfl
  | cons d r =>
    rw [show min 1 (d :: r).length = 1 by rw [List.length_cons]; omega]
    show (List.take ((d :: r).length - 1) r) = r
    rw [List.length_cons, Nat.add_sub_cancel]
    exact List.take_length
/-- a place told by a difference -/
theorem ds_never_if {tt : TT} {u : TS} (h : Dt P tt ρ fun b => b = false ∧ Ds P u ρ N R) : Ds P (tIfS tt tNever u) ρ N R :=
  ds_if (h.mono fun b ⟨e, q⟩ => by subst e; exact q)
end Z

/-! # ZPair -/
set_option Elab.async false
set_option linter.all false
set_option maxRecDepth 100000
set_option maxHeartbeats 400000
/-! The order of pairs; min of them. -/
namespace Z
open PySem PySem.Spec PyProof.Rows L2
theorem str_ext {a b : Str} (h : a.cps.toList = b.cps.toList) : a = b := by
  cases a with
  | mk x => cases b with
    | mk y =>
      have : x = y := by
        have := congrArg List.toArray h
        simpa using this
      rw [this]
def slt (a b : Str) : Bool := decide (a.cps.toList < b.cps.toList)
theorem slt_irr (a : Str) : slt a a = false := decide_eq_false (List.lt_irrefl _)
theorem slt_tr {a b c : Str} (h1 : slt a b = true) (h2 : slt b c = true) : slt a c = true := decide_eq_true (List.lt_trans (of_decide_eq_true h1) (of_decide_eq_true h2))
theorem slt_tri (a b : Str) : slt a b = true ∨ a = b ∨ slt b a = true := by
  by_cases h : a.cps.toList < b.cps.toList
  · exact .inl (decide_eq_true h)
  · by_cases h2 : b.cps.toList < a.cps.toList
    · exact .inr (.inr (decide_eq_true h2))
    · refine .inr (.inl (str_ext ?_))
      exact List.le_antisymm (List.not_lt.mp h2) (List.not_lt.mp h)
/-- a number and a name -/
def nsD (p : Int × Str) : PyData := .tuple [.int p.1, .str p.2]
def nsLt (p q : Int × Str) : Bool := if p.1 = q.1 then (if p.2 = q.2 then false else slt p.2 q.2) else decide (p.1 < q.1)
theorem ns_lt (p q : Int × Str) : PySem.W.dataLt (nsD p) (nsD q) = nsLt p q := by
  unfold nsD nsLt
  rw [PySem.W.dataLt_pair (by first | rfl | decide +kernel) (by first | rfl | decide +kernel), PySem.W.dataLt_int, PySem.W.dataLt_str, PyData.eqv.eq_5, PyData.eqv.eq_6]
  by_cases e : p.1 = q.1
  · rw [e, beq_self_eq_true, if_pos rfl, if_pos rfl]
    by_cases e2 : p.2 = q.2
    · rw [e2, beq_self_eq_true, if_pos rfl, if_pos rfl]
    · rw [beq_eq_false_iff_ne.mpr e2, if_neg (by decide), if_neg e2]; rfl
  · rw [beq_eq_false_iff_ne.mpr e, if_neg (by decide), if_neg e]
theorem nsLt_t {p q : Int × Str} : nsLt p q = true ↔ p.1 < q.1 ∨ (p.1 = q.1 ∧ slt p.2 q.2 = true) := by
  unfold nsLt
  by_cases e : p.1 = q.1
  · rw [if_pos e]
    by_cases e2 : p.2 = q.2
    · rw [if_pos e2, e2, slt_irr]; simp [e]
    · rw [if_neg e2]; simp [e]
  · rw [if_neg e]; simp [e]
theorem nsLt_f {p q : Int × Str} : nsLt p q = false ↔ q.1 < p.1 ∨ (p.1 = q.1 ∧ slt p.2 q.2 = false) := by
  rw [← Bool.not_eq_true, nsLt_t]
  constructor
  · intro h
    by_cases e : p.1 = q.1
    · exact .inr ⟨e, by cases hh : slt p.2 q.2 with | false => rfl | true => exact absurd (.inr ⟨e, hh⟩) h⟩
    · left
      have : ¬ p.1 < q.1 := fun z => h (.inl z)
      omega
  · rintro (h | ⟨e, h⟩) (h' | ⟨e', h'⟩)
    · omega
    · omega
    · omega
    · rw [h] at h'; exact nomatch h'
theorem slt_ntr {a b c : Str} (h1 : slt a b = false) (h2 : slt b c = false) : slt a c = false := by
  cases h : slt a c with
  | false => rfl
  | true =>
    rcases slt_tri b c with z | z | z
    · rw [h2] at z; exact nomatch z
    · rw [← z, h1] at h; exact nomatch h
    · have := slt_tr h z; rw [h1] at this; exact nomatch this
theorem nsLt_ntr {p q r : Int × Str} (h1 : nsLt p q = false) (h2 : nsLt q r = false) : nsLt p r = false := by
  rw [nsLt_f] at *
  rcases h1 with h1 | ⟨e1, h1⟩ <;> rcases h2 with h2 | ⟨e2, h2⟩
  · left; omega
  · left; omega
  · left; omega
  · exact .inr ⟨e1.trans e2, slt_ntr h1 h2⟩
theorem nsLt_tot {p q : Int × Str} (h : nsLt p q = true) : nsLt q p = false := by
  rw [nsLt_t] at h
  rw [nsLt_f]
  rcases h with h | ⟨e, h⟩
  · exact .inl h
  · refine .inr ⟨e.symm, ?_⟩
    cases hh : slt q.2 p.2 with
    | false => rfl
    | true => have := slt_tr h hh; rw [slt_irr] at this; exact nomatch this
theorem lessOk_ns (ps : List (Int × Str)) : LessOk (ps.map nsD) where
  alike := fun x hx y hy => by
    obtain ⟨p, _, rfl⟩ := List.mem_map.mp hx
    obtain ⟨q, _, rfl⟩ := List.mem_map.mp hy
    first | rfl | decide +kernel
  some_ := fun x hx e => by obtain ⟨p, _, rfl⟩ := List.mem_map.mp hx; exact nomatch e
  deep := fun x hx => by
    obtain ⟨p, _, rfl⟩ := List.mem_map.mp hx
    unfold nsD
    rw [PyData.depth.eq_2, PyData.depthAll.eq_2, PyData.depthAll.eq_2, PyData.depthAll.eq_1, PyData.depth.eq_7, PyData.depth.eq_6]
    decide
  trans := fun x hx y hy z hz h1 h2 => by
    obtain ⟨p, _, rfl⟩ := List.mem_map.mp hx
    obtain ⟨q, _, rfl⟩ := List.mem_map.mp hy
    obtain ⟨r, _, rfl⟩ := List.mem_map.mp hz
    rw [ns_lt] at *
    exact nsLt_ntr h1 h2
  refl := fun x hx => by
    obtain ⟨p, _, rfl⟩ := List.mem_map.mp hx
    rw [ns_lt, nsLt_f]
    exact .inr ⟨rfl, slt_irr _⟩
  tot := fun x hx y hy h => by
    obtain ⟨p, _, rfl⟩ := List.mem_map.mp hx
    obtain ⟨q, _, rfl⟩ := List.mem_map.mp hy
    rw [ns_lt] at *
    exact nsLt_tot h
section
variable {X : Cx} {k : Nat}
theorem call_minK (K : PySem.W.Frag) (hr : Room k X.A) (eK : X.K = K := by rfl) : CallR X (.builtin "min") (rMinD K) := eK ▸ call_minD hr
end
variable {P : Pm} {ρ : List En}
/-- min of rows of numbers and names: one of them, and no number is less -/
theorem dc_minNs {ps : List (Int × Str)} {Φ : KD} (h0 : ps ≠ []) (q : ∀ p ∈ ps, (∀ r ∈ ps, p.1 ≤ r.1) → Φ (.d (nsD p))) : DC P (rMinD P.K) [.d (.list (ps.map nsD))] Φ := by
  intro G H vs o rv Q k
  obtain ⟨v, rfl, rv1⟩ := rvL1 rv
  cases rv1 with
  | @lst a xs _ ha hd =>
    have hl := dpA_len hd
    refine ⟨a, xs, ps.map nsD, rfl, .inl (.inl (o.sub _ _ ha)), (dpA_up o.sub hd).dp, lessOk_ns ps, fun e => ?_, fun j v hm hv => ?_⟩
    · rw [e, List.length_map] at hl
      exact h0 (List.eq_nil_of_length_eq_zero hl.symm)
    · obtain ⟨lt, hm⟩ := hm
      rw [List.length_map] at lt
      have ej : (ps.map nsD)[j]? = some (nsD ps[j]) := by rw [List.getElem?_map, List.getElem?_eq_getElem lt]; rfl
      obtain ⟨v', e1, e2⟩ := dpA_at hd ej
      rw [hv] at e1; cases e1
      refine k v G H (.d (nsD ps[j])) (.refl o) e2 (q _ (List.getElem_mem lt) fun r hr => ?_)
      obtain ⟨i, hi, rfl⟩ := List.getElem_of_mem hr
      have := hm i (by rw [List.length_map]; exact hi)
      rw [List.getD_eq_getElem?_getD, List.getD_eq_getElem?_getD, ej, List.getElem?_map, List.getElem?_eq_getElem hi] at this
      have : nsLt ps[i] ps[j] = false := by rw [← ns_lt]; exact this
      rw [nsLt_f] at this
      omega
end Z

/-! # ZRo -/
set_option Elab.async false
set_option linter.all false
set_option maxRecDepth 100000
set_option maxHeartbeats 400000
/-! Rules for the class: its fields, its properties, min with a default, dict of a tuple of pairs. -/
namespace Z
open PySem PySem.Spec PyProof.Rows L2
structure Tc (K : PySem.W.Frag) (C : Addr) : Prop where
  cl : Cls K C
  n1 : NoAttr K C "held_net"
  n2 : NoAttr K C "held_root"
  n3 : NoAttr K C "held_pairs"
/-- a property of the class, by its getter's promise -/
structure Prp (P : Program) (w : World) (K : PySem.W.Frag) (mg : Str → Option Value) (base : Heap) (k : Nat) (C : Addr) (m : Str) (sp : Sp) : Prop where
  ex : ∃ p g fd, Cls K C ∧ PropOf K C m p g ∧ FnOk P w K mg base CX0 k g fd ["self"] sp ∧ L2.Binds K fd ["self"] []
section
variable {X : Cx} {k j : Nat} {C : Addr} {sp : Sp}
theorem pe_prp {m : Str} {e : Expr} {pos : Pos} {ta : TE} (c : Prp X.prog X.w X.K X.mg X.base k C m sp) (hr : Room j X.A) (hk : k + 1 ≤ j) (ha : PE X e ta) (hb : attributeBase e m X.env (eval e X.env) = eval e X.env := by rfl) : PE X (.Attribute e m pos) (tProp C sp [] E0 ta) := by
  obtain ⟨p, g, fd, cl, po, F, b⟩ := c.ex
  exact pe_prop ha cl po F (hr.mono hk) b .nil pass0 hb
theorem call_minDefK (K : PySem.W.Frag) (hr : Room k X.A) (eK : X.K = K := by rfl) : CallRK X (.builtin "min") ["default"] (rMinDef K) := eK ▸ call_minDef hr
end
variable {P : Pm} {ρ : List En}
theorem de_fnet {te : TE} {Φ : KD} (c : Tc P.K P.C) (h : De P te ρ fun x => ∃ n r p, x = .ro n r p ∧ Φ (.d n)) : De P (tFld P.K te "held_net") ρ Φ :=
  de_fld c.cl c.n1 (h.mono fun x ⟨n, r, p, e, q⟩ => ⟨n, r, p, .d n, e, by first | rfl | simp, q⟩)
theorem de_froot {te : TE} {Φ : KD} (c : Tc P.K P.C) (h : De P te ρ fun x => ∃ n r p, x = .ro n r p ∧ Φ (.d r)) : De P (tFld P.K te "held_root") ρ Φ :=
  de_fld c.cl c.n2 (h.mono fun x ⟨n, r, p, e, q⟩ => ⟨n, r, p, .d r, e, by first | rfl | simp, q⟩)
theorem de_fpairs {te : TE} {Φ : KD} (c : Tc P.K P.C) (h : De P te ρ fun x => ∃ n r p, x = .ro n r p ∧ Φ (.pt p)) : De P (tFld P.K te "held_pairs") ρ Φ :=
  de_fld c.cl c.n3 (h.mono fun x ⟨n, r, p, e, q⟩ => ⟨n, r, p, .pt p, e, by first | rfl | simp, q⟩)

/-! ### min(.., default=None) of whole numbers -/
theorem int_less (ns : List Int) : LessOk (ns.map .int) where
  alike := fun x hx y hy => by
    obtain ⟨p, _, rfl⟩ := List.mem_map.mp hx
    obtain ⟨q, _, rfl⟩ := List.mem_map.mp hy
    first | rfl | decide +kernel
  some_ := fun x hx e => by obtain ⟨p, _, rfl⟩ := List.mem_map.mp hx; exact nomatch e
  deep := fun x hx => by
    obtain ⟨p, _, rfl⟩ := List.mem_map.mp hx
    rw [PyData.depth.eq_6]; decide
  trans := fun x hx y hy z hz h1 h2 => by
    obtain ⟨p, _, rfl⟩ := List.mem_map.mp hx
    obtain ⟨q, _, rfl⟩ := List.mem_map.mp hy
    obtain ⟨r, _, rfl⟩ := List.mem_map.mp hz
    rw [PySem.W.dataLt_int] at *
    rw [decide_eq_false_iff_not] at *
    omega
  refl := fun x hx => by
    obtain ⟨p, _, rfl⟩ := List.mem_map.mp hx
    rw [PySem.W.dataLt_int, decide_eq_false_iff_not]; omega
  tot := fun x hx y hy h => by
    obtain ⟨p, _, rfl⟩ := List.mem_map.mp hx
    obtain ⟨q, _, rfl⟩ := List.mem_map.mp hy
    rw [PySem.W.dataLt_int] at *
    rw [decide_eq_false_iff_not]
    have := of_decide_eq_true h
    omega
theorem de_minDef {ta : TA} {Φ : KD} (h : Da P ta ρ fun xs => ∃ ns : List Int, xs = [.d (.list (ns.map .int))] ∧ (ns = [] → Φ (.d .none)) ∧ ∀ m ∈ ns, (∀ y ∈ ns, m ≤ y) → Φ (.d (.int m))) : De P (tCKw (rMinDef P.K) ta (tCons (tC .non) tNil)) ρ Φ := by
  intro H0 G H σ o r Q k
  refine h H0 G H σ o r _ fun vs G1 H1 xs g1 rv ⟨ns, e, q0, q⟩ => ?_
  subst e
  obtain ⟨v, rfl, rv1⟩ := rvL1 rv
  cases rv1 with
  | @lst a xs _ ha hd =>
    have hl := dpA_len hd
    rw [List.length_map] at hl
    refine ⟨a, xs, ns.map .int, .non, rfl, rfl, .inl (.inl (g1.ok.sub _ _ ha)), (dpA_up g1.ok.sub hd).dp, int_less ns, fun e => ?_, fun j v hm hv => ?_⟩
    · rw [e] at hl
      exact k .non G1 H1 (.d .none) g1 .non (q0 (List.eq_nil_of_length_eq_zero hl.symm))
    · obtain ⟨lt, hm⟩ := hm
      rw [List.length_map] at lt
      have ej : (ns.map PyData.int)[j]? = some (.int ns[j]) := by rw [List.getElem?_map, List.getElem?_eq_getElem lt]; rfl
      obtain ⟨v', e1, e2⟩ := dpA_at hd ej
      rw [hv] at e1; cases e1
      refine k v G1 H1 (.d (.int ns[j])) g1 e2 (q _ (List.getElem_mem lt) fun r hr => ?_)
      obtain ⟨i, hi, rfl⟩ := List.getElem_of_mem hr
      have := hm i (by rw [List.length_map]; exact hi)
      rw [List.getD_eq_getElem?_getD, List.getD_eq_getElem?_getD, ej, List.getElem?_map, List.getElem?_eq_getElem hi] at this
      have : PySem.W.dataLt (.int ns[i]) (.int ns[j]) = false := this
      rw [PySem.W.dataLt_int, decide_eq_false_iff_not] at this
      omega

/-! ### the tuple of pairs: made, walked, told of, as a dict -/
section
variable {X : Cx} {k : Nat}
def rTupF (K : PySem.W.Frag) : List V → Hp → VK → Prop := fun xs H Q => ∃ p ys, xs = [V.ref p] ∧ SqL K H p ys ∧ ∀ l, ∀ o : Obj, o.dict = none → o.cls = .type "tuple" → H l = none → Q (.ref l) (upd H l (.frz o (.tup ys)))
theorem call_tupF (K : PySem.W.Frag) (eK : X.K = K := by rfl) : CallR X (.type "tuple") (rTupF K) := by
  subst eK
  intro pins s σ H xs us Q I r h
  obtain ⟨p, ys, rfl, hq, q⟩ := h
  obtain rfl := Vals.ref1 r
  obtain ⟨its, rv, pl, hz⟩ := I.list hq
  have hl := rv.length
  refine call_tuple_list (PlainL.isList pl) (fun h' kp => ?_) (by rw [List.size_toArray]; omega)
  have I1 := I.kept (t' := s.toks) kp
  have I2 := I1.laid (h' := h'.push { cls := .type "tuple", data := .seq its.toArray 0 }) (t' := s.toks) (o := .frz { cls := .type "tuple", data := .seq its.toArray 0 } (.tup ys)) (fun b o e => Heap.get?_push_of_some _ e) (Nat.le_refl _)
    (by
      have h2 : ObjOk X.prog X.w (upd H h'.objs.size (.frz { cls := .type "tuple", data := .seq its.toArray 0 } (.tup ys))) (h'.push { cls := .type "tuple", data := .seq its.toArray 0 }) h'.objs.size (.tup ys) := ⟨hz, its, rv, IsTup.new h' its.toArray⟩
      exact ⟨Heap.get?_push_size _ rfl, h2⟩)
  exact ⟨.ref h'.objs.size, _, I2, rfl, q _ _ rfl rfl (I1.hok.fresh (Nat.le_refl _))⟩
end
theorem de_tupF {ta : TA} {Φ : KD} (h : Da P ta ρ fun xs => ∃ ds, xs = [.d (.list ds)] ∧ Φ (.pt ds)) : De P (tCB (rTupF P.K) ta) ρ Φ := by
  intro H0 G H σ o r Q k
  refine h H0 G H σ o r _ fun vs G1 H1 xs g1 rv ⟨ds, e, q⟩ => ?_
  subst e
  obtain ⟨v, rfl, rv1⟩ := rvL1 rv
  cases rv1 with
  | lst ha hd => exact ⟨_, _, rfl, .inl (.inl (g1.ok.sub _ _ ha)), fun l z e1 e2 hl => k _ _ _ (.pt ds) (g1.trans (g1.ok.new hl)) ⟨l, _, z, rfl, e1, e2, upd_same, dpA_up ((g1.ok.new hl).same g1.ok) hd⟩ q⟩
theorem di_pt {te : TE} {Ξ : List Dv → Prop} (h : De P te ρ fun x => ∃ ds, x = .pt ds ∧ Ξ (ds.map .d)) : Di P (iTup P.K te) ρ Ξ := by
  intro H0 G H σ o r T k
  refine h H0 G H σ o r _ fun v G1 H1 x g1 rv ⟨ds, e, p⟩ => ?_
  subst e
  obtain ⟨a, xs, z, rfl, _, _, ha, hd⟩ := rv
  refine ⟨a, rfl, ⟨xs, .inl (.inr ⟨z, g1.ok.sub _ _ ha⟩)⟩, k _ G1 H1 _ g1 (yl_of walk_tup (by rw [List.length_map, dpA_len hd]) (fun G2 H2 o2 s2 => .inl (.inr ⟨z, o2.sub _ _ (s2 _ _ ha)⟩)) ?_) p⟩
  intro G2 H2 i x v H3 o2 s2 e y
  obtain ⟨rfl, e2⟩ := y
  rw [List.getElem?_map] at e
  cases e1 : ds[i]? with
  | none => rw [e1] at e; exact nomatch e
  | some d =>
    rw [e1] at e; cases e
    obtain ⟨w, e3, hw⟩ := dpA_at hd e1
    rw [e2] at e3; cases e3
    exact ⟨G2, .refl o2, dp_up s2 hw⟩
theorem dc_lenP {ds : List PyData} {Φ : KD} (q : Φ (.d (.int (ds.length : Nat)))) : DC P (rLen P.K) [.pt ds] Φ := by
  intro G H vs o rv Q k
  obtain ⟨v, rfl, rv1⟩ := rvL1 rv
  obtain ⟨a, xs, z, rfl, _, _, ha, hd⟩ := rv1
  exact ⟨_, ds.length, rfl, .inr ⟨xs, .inl (.inr ⟨z, o.sub _ _ ha⟩), (dpA_len hd).symm⟩, k _ G H (.d (.int _)) (.refl o) (Dq.int _) q⟩

/-! ### dict of that tuple -/
section
variable {X : Cx} {pins : List (Addr × Obj)} {σ : L2.St} {H : Hp} {s : Shared}
theorem pairs_vals (I : Inv X pins σ H s) : ∀ {ps : List Addr} {kvs : List (Key × V)}, Paired (fun p kv => SqT X.K H p [kV kv.1, kv.2]) ps kvs →
    ∃ (prs : List (Key × Value)) (qs : List (Value × Value)), KV kvs prs ∧ qs.length = ps.length ∧ prs.length = ps.length ∧ ∀ (j : Nat) k v, qs[j]? = some (k, v) → (∃ key, prs[j]? = some (key, v) ∧ (mixKind X.prog X.w).is key k = true) ∧ ∃ b, ps[j]? = some b ∧ IsTup s.heap b #[k, v]
  | _, _, .nil => ⟨[], [], .nil, rfl, rfl, fun j k v h => nomatch h⟩
  | _, _, .cons (a := p) (b := kv) h t => by
    obtain ⟨prs, qs, r, l1, l2, at_⟩ := pairs_vals I t
    obtain ⟨its, rv, pt, _⟩ := I.tuple h
    cases rv with
    | cons r1 rv => cases rv with
      | cons r2 rv => cases rv with
        | nil =>
          rename_i u1 u2
          refine ⟨(kv.1, u2) :: prs, (u1, u2) :: qs, .cons ⟨rfl, r2⟩ r, by rw [List.length_cons, List.length_cons, l1], by rw [List.length_cons, List.length_cons, l2], fun j k v e => ?_⟩
          cases j with
          | zero => cases e; exact ⟨⟨kv.1, rfl, kV_is r1⟩, p, rfl, pt⟩
          | succ j => exact at_ j k v e
end
section
variable {X : Cx}
def rDictT : List V → Hp → VK → Prop := fun xs H Q => ∃ (a : Addr) (ps : List Addr) (kvs : List (Key × V)) (o : Obj), xs = [.ref a] ∧ o.dict = none ∧ o.cls = .type "tuple" ∧ H a = some (.frz o (.tup (ps.map V.ref))) ∧ Paired (fun p kv => H p = some (.tup [kV kv.1, kv.2])) ps kvs ∧ ps.length ≤ 1000 ∧ ∀ p, H p = none → Q (.ref p) (upd H p (.dK (mergeK [] kvs)))
theorem call_dictT (hc : X.calm = true := by rfl) : CallR X (.type "dict") rDictT := by
  intro pins s σ H xs us Q I r h
  obtain ⟨a, ps, kvs, o, rfl, ho, hcl, ha, hp, hl, q⟩ := h
  obtain rfl := Vals.ref1 r
  have hp' : Paired (fun p (kv : Key × V) => SqT X.K H p [kV kv.1, kv.2]) ps kvs := by
    clear q hl ha
    induction hp with
    | nil => exact .nil
    | cons h _ ih => exact .cons (.inl (.inl h)) ih
  obtain ⟨prs, qs, rel, l1, l2, at_⟩ := pairs_vals I hp'
  have hobj : s.heap.get? a = some o := (I.hok a _ ha).1
  obtain ⟨its, rv, ⟨o', ho', hc', n, hd'⟩, hz⟩ := I.tuple (xs := ps.map V.ref) (.inl (.inr ⟨o, ha⟩))
  rw [hobj] at ho'; cases ho'
  have ei : its = ps.map Value.ref := refs_at rv
  subst ei
  have big : (1000 : Nat) ≤ sizeLine := by rw [sizeLine_eq]; decide
  refine PySem.call_dict_pairs (knd := mixKind X.prog X.w) (kvs := prs) (PairArg.tuple a (ps.map Value.ref).toArray (fun j => ps.getD j 0) qs) (I.ok.hd hc) ⟨⟨o, n, hobj, hcl, ho, hd'⟩, by simp [l1], fun j k v e => ?_⟩ ⟨by rw [l2, l1], fun j k v e => ?_⟩ (by rw [l1]; omega) fun h' tk hdo kp => ?_
  · obtain ⟨_, b, e1, e2⟩ := at_ j k v e
    refine ⟨by simp [e1], .inl ?_⟩
    have : ps.getD j 0 = b := by simp [e1]
    show s.heap.IsTuple (ps.getD j 0) #[k, v]
    rw [this]; exact e2
  · exact (at_ j k v e).1
  · have hm : (s.heap.objs.size == sysModules) = false := beq_eq_false_iff_ne.mpr (Nat.ne_of_gt (Inv.big I))
    have lk := KV.length rel
    have I2 := I.laid (h' := h') (t' := tk) (a := s.heap.objs.size) (o := .dK (mergeK [] kvs)) (fun b u e => kp b u (by simp) e) (Nat.le_refl _) ⟨Nat.le_trans (length_mergeK kvs []) (by rw [List.length_nil, Nat.zero_add, lk, l2]; omega), hm, merged [] prs, KV.merge rel .nil, hdo⟩
    exact ⟨.ref s.heap.objs.size, _, I2, rfl, q _ (I.hok.fresh (Nat.le_refl _))⟩
end
theorem de_dictT {ta : TA} {Φ : KD} (h : Da P ta ρ fun xs => ∃ kvs, xs = [.pt (pairsP kvs)] ∧ kvs.length ≤ 1000 ∧ Φ (.dk false (mergeD [] kvs))) : De P (tCB rDictT ta) ρ Φ := by
  intro H0 G H σ o r Q k
  refine h H0 G H σ o r _ fun vs G1 H1 xs g1 rv ⟨kvs, e, hl, q⟩ => ?_
  subst e
  obtain ⟨v, rfl, rv1⟩ := rvL1 rv
  obtain ⟨a, xs, z, rfl, z1, z2, ha, hd⟩ := rv1
  have pr : ∀ {vs : List V} {kvs : List (Key × PyData)}, DqA G1 vs (pairsP kvs) → ∃ (ps : List Addr) (ws : List (Key × V)), vs = ps.map V.ref ∧ Paired (fun p (kv : Key × V) => H1 p = some (.tup [kV kv.1, kv.2])) ps ws ∧ KvA G1 ws kvs ∧ ps.length = kvs.length := by
    intro vs kvs
    induction kvs generalizing vs with
    | nil => intro h; cases h; exact ⟨[], [], rfl, .nil, .nil, rfl⟩
    | cons kd r ih =>
      obtain ⟨key, d⟩ := kd
      intro h
      cases h with
      | cons h t =>
        obtain ⟨ps, ws, rfl, hp, hk, hl⟩ := ih t
        cases h with
        | tup ha hd => cases hd with
          | cons h1 hd => cases hd with
            | cons h2 hd => cases hd with
              | nil =>
                have e := dq_key h1
                subst e
                exact ⟨_ :: ps, (key, _) :: ws, rfl, .cons (g1.ok.sub _ _ ha) hp, .cons h2 hk, by rw [List.length_cons, List.length_cons, hl]⟩
  obtain ⟨ps, ws, rfl, hp, hk, hl2⟩ := pr hd
  refine ⟨a, ps, ws, z, rfl, z1, z2, g1.ok.sub _ _ ha, hp, by omega, fun p hp => ?_⟩
  have g2 := g1.ok.new (o := .dK (mergeK [] ws)) hp
  exact k _ _ _ (.dk false (mergeD [] kvs)) (g1.trans g2) ⟨p, _, rfl, upd_same, kvA_up (g2.same g1.ok) (kvA_merge hk .nil)⟩ q
end Z

/-! # ZDefs -/
set_option Elab.async false
set_option linter.all false
set_option maxRecDepth 100000
set_option maxHeartbeats 1000000
/-! The defs of the text, one by one. -/
namespace Z
open PySem PySem.Spec PyProof.Rows L2
abbrev FnP (K : PySem.W.Frag) (x : Str) (st : Stmt) (dvs : List V) (f : Addr) (fd : FuncData) : Prop := FunD K x x (defArgs st) (defBody st) (defScope st) dvs [] f fd
/-- what the text's names hold -/
structure Tx (K : PySem.W.Frag) (mg : Str → Option Value) (C : Addr) : Prop where
  m_len : mg "len" = none
  m_isinstance : mg "isinstance" = none
  m_tuple : mg "tuple" = none
  m_list : mg "list" = none
  m_dict : mg "dict" = none
  m_sorted : mg "sorted" = none
  m_min : mg "min" = none
  m_max : mg "max" = none
  m_all : mg "all" = none
  m_any : mg "any" = none
  m_enumerate : mg "enumerate" = none
  m_zip : mg "zip" = none
  m_range : mg "range" = none
  m_int : mg "int" = none
  m_str : mg "str" = none
  m_bool : mg "bool" = none
  m_iter : mg "iter" = none
  m_repr : mg "repr" = none
  m_set : mg "set" = none
  gAL : ∃ t, mg "ALONE" = some t ∧ RelV (.str "alone") t
  gC : mg "Rooted" = some (.ref C)
section
variable {P : Pm} {ρ : List En} {N : List En → Prop} {R : KD}
theorem de_lcA {α : Type} (items : List α) (F : α → Dv) (f : α → Option PyData) {wi : TI} {g : TG} {tt : TT} {te : TE} {vs : List Nat} {Φ : KD} (h : Di P wi ρ fun xs => xs = items.map F ∧ items.length < sizeLine)
    (hs : ∀ a ∈ items, Dg P g (F a) (wipeE ρ vs) vs fun ρ' => Dt P tt ρ' fun b => if b = true then De P te ρ' fun y => ∃ d, y = .d d ∧ f a = some d else f a = none) (q : Φ (.d (.list (items.filterMap f)))) : De P (tLc wi g tt te vs) ρ Φ := by
  refine de_lc (fun i acc => acc = (items.take i).filterMap f) ?_
  intro H0 G H σ o r T k
  refine h H0 G H σ o r T fun J G' H' xs gr y ⟨e, hl⟩ => k J G' H' xs gr y ?_
  subst e
  refine ⟨by rw [List.length_map]; exact hl, by simp, fun i x acc ex ea => ?_, fun acc ea => ?_⟩
  · rw [List.getElem?_map] at ex
    cases e1 : items[i]? with
    | none => rw [e1] at ex; exact nomatch ex
    | some a =>
      rw [e1] at ex; cases ex
      have hi := (List.getElem?_eq_some_iff.mp e1).1
      have tk : items.take (i + 1) = items.take i ++ [a] := by
        rw [List.take_succ_eq_append_getElem hi, (List.getElem?_eq_some_iff.mp e1).2]
      intro H0 G H σ v o r rv Q k
      refine hs a (List.mem_of_getElem? e1) H0 G H σ v o r rv Q fun ρ' σ' r' w hN => k ρ' σ' r' w ?_
      refine hN.mono fun b hb => ?_
      cases b with
      | true =>
        refine De.mono hb fun y ⟨d, e, ef⟩ => ⟨d, e, ?_⟩
        rw [tk, List.filterMap_append, ea]
        simp [ef]
      | false =>
        show acc = _
        have ef : f a = none := hb
        rw [tk, List.filterMap_append, ea]
        simp [ef]
  · rw [List.length_map, List.take_length] at ea
    rw [ea]; exact q
theorem de_lcB {α : Type} (items : List α) (F : α → Dv) (f : α → PyData) {wi : TI} {g : TG} {te : TE} {vs : List Nat} {Φ : KD} (h : Di P wi ρ fun xs => xs = items.map F ∧ items.length < sizeLine)
    (hs : ∀ a ∈ items, Dg P g (F a) (wipeE ρ vs) vs fun ρ' => De P te ρ' fun y => y = .d (f a)) (q : Φ (.d (.list (items.map f)))) : De P (tLc wi g tYes te vs) ρ Φ := by
  refine de_lcA items F (fun a => some (f a)) h (fun a ha => ?_) (by rw [List.filterMap_eq_map']; exact q)
  intro H0 G H σ v o r rv Q k
  refine hs a ha H0 G H σ v o r rv Q fun ρ' σ' r' w hN => k ρ' σ' r' w ?_
  exact dt_yes (show if true = true then _ else _ from by rw [if_pos rfl]; exact De.mono hN fun y e => ⟨_, e, rfl⟩)
end
section
variable {P : Pm} {ρ : List En} {vs : List Nat} {N : List En → Prop}
theorem dg2 {i j : Nat} {a b : PyData} (hi : i ∈ vs) (hj : j ∈ vs) (q : N ((ρ.set i (.fz (.d a))).set j (.fz (.d b)))) : Dg P (gTup P.K 2 (gCons (gName i) (gCons (gName j) gNil))) (.d (.tuple [a, b])) ρ vs N :=
  dg_tup rfl (dgs_cons (dg_name hi (dgs_cons (dg_name hj (dgs_nil q)))))
theorem dg12 {i j k : Nat} {a b c : PyData} (hi : i ∈ vs) (hj : j ∈ vs) (hk : k ∈ vs) (q : N (((ρ.set i (.fz (.d a))).set j (.fz (.d b))).set k (.fz (.d c)))) : Dg P (gTup P.K 2 (gCons (gName i) (gCons (gTup P.K 2 (gCons (gName j) (gCons (gName k) gNil))) gNil))) (.d (.tuple [a, .tuple [b, c]])) ρ vs N :=
  dg_tup rfl (dgs_cons (dg_name hi (dgs_cons (dg_tup rfl (dgs_cons (dg_name hj (dgs_cons (dg_name hk (dgs_nil (dgs_nil q))))))))))
theorem dg3 {i j k : Nat} {a b c : PyData} (hi : i ∈ vs) (hj : j ∈ vs) (hk : k ∈ vs) (q : N (((ρ.set i (.fz (.d a))).set j (.fz (.d b))).set k (.fz (.d c)))) : Dg P (gTup P.K 3 (gCons (gName i) (gCons (gName j) (gCons (gName k) gNil)))) (.d (.tuple [a, b, c])) ρ vs N :=
  dg_tup rfl (dgs_cons (dg_name hi (dgs_cons (dg_name hj (dgs_cons (dg_name hk (dgs_nil q)))))))
end
/-! ### the data -/
def prD (e : Str × Str) : PyData := .tuple [.str e.1, .str e.2]
def wiD (ws : List (Str × Str)) : PyData := .tuple (ws.map prD)
def tkD (T : List Nat) : List (Key × PyData) := T.map fun (i : Nat) => (.inl (i : Int), .bool true)
def stD (p : Nat × Str) : PyData := .tuple [.int (p.1 : Nat), .str p.2]
theorem enum_map {α : Type} (xs : List α) (f : α → PyData) : enumD (xs.map f) = xs.zipIdx.map fun p => .tuple [.int (p.2 : Nat), f p.1] := by
  rw [enumD, List.zipIdx_map, List.map_map]; rfl
theorem valD_tk (T : List Nat) (i : Nat) : (valD (tkD T) (Sum.inl (i : Int))).isSome = decide (i ∈ T) := by
  unfold valD tkD
  induction T with
  | nil => rfl
  | cons j r ih =>
    rw [List.map_cons]
    by_cases e : j = i
    · subst e
      simp
    · rw [List.find?_cons_of_neg (by simpa using fun z : (j : Int) = (i : Int) => e (by omega))]
      rw [ih]
      exact decide_eq_decide.mpr ⟨fun h => List.mem_cons_of_mem _ h, fun h => (List.mem_cons.mp h).elim (fun z => absurd z.symm e) id⟩

/-! ### steps_on -/
def stepsOn (ws : List (Str × Str)) (T : List Nat) (x : Str) : List (Nat × Str) :=
  (ws.zipIdx.filterMap fun p => if p.1.1 = x ∧ p.2 ∉ T then some (p.2, p.1.2) else none) ++ (ws.zipIdx.filterMap fun p => if p.1.2 = x ∧ p.2 ∈ T then some (p.2, p.1.1) else none)
def L_steps : Law := fun xs Φ => ∃ ws lk T x, xs = [.d (wiD ws), .dk lk (tkD T), .d (.str x)] ∧ ws.length ≤ 1000 ∧ Φ (.d (.list ((stepsOn ws T x).map stD)))
abbrev N_steps_on : List Str := ["wires", "taken", "here", "found", "index", "tail", "head", "back"]
theorem sc_steps_on : FnScope N_steps_on ["wires", "taken", "here"] (defScope (top 2)) := ⟨rfl, rfl, rfl, by decide +kernel, rfl, by decide +kernel, by decide +kernel⟩
section
variable {Pr : Program} {w : World} {K : PySem.W.Frag} {mg : Str → Option Value} {base : Heap} {C : Addr} {f : Addr} {fd : FuncData}
/-- a def that takes its arguments by place -/
theorem calN {x q : Str} {params : Arguments} {body : List Stmt} {scope : Scope} {ps : List Str} {sp : Sp} {k : Nat} (F : FunD K x q params body scope [] [] f fd) (g : mg x = some (.ref f))
    (b : ∀ (kV doc pm : Value) (an : Option Addr) (cdv ct : Value) (us : List Value), us.length = ps.length → bindArgs (PySem.W.fnOf x q params body scope .none kV doc pm an cdv ct) ⟨us, []⟩ = pure (ps.zip us))
    (ok : FnOk Pr w K mg base CX0 k f fd ps sp) : C8.Cal Pr w K mg base k x sp [] := ⟨f, fd, ps, [], ok, g, F.kp, F.bindsN b, .nil⟩
theorem c_steps_on (T : Tx K mg C) (F : FnP K "steps_on" (top 2) [] f fd) (g : mg "steps_on" = some (.ref f)) : C8.Cal Pr w K mg base 1 "steps_on" (mkSp K C L_steps) [] := by
  have sc := sc_steps_on
  refine calN F g (fun _ _ _ _ _ _ us hl => match us, hl with | [_, _, _], _ => rfl) (okD F sc (fun xs Φ h => by obtain ⟨ws, lk, T, x, rfl, _⟩ := h; rfl) (fun cdv A outer s H E hr => ?_))
  refine ⟨_, (pss_cons (ps_setLc (i := 3) (own := [("index", 4), ("tail", 5), ("head", 6)]) rfl sc.nd rfl rfl (sw_true rfl rfl rfl (by exact rfl)) (pi_enTK K (by rfl) T.m_enumerate (pa_cons (pv 0) pa_nil)) (blkOk_by (by exact rfl)) (fun _ _ _ _ _ => (pg_tupK K 2 (pgs_cons (pg_name (i := 4) sc.nd rfl (.inl rfl)) (pgs_cons (pg_tupK K 2 (pgs_cons (pg_name (i := 5) sc.nd rfl (.inl rfl)) (pgs_cons (pg_name (i := 6) sc.nd rfl (.inl rfl)) pgs_nil))) pgs_nil)))) (fun _ _ _ _ _ => pts_one (PW.pt (pw_and (pt_cmpR (op_eqK K hr) (pv 5) (pv 2) (nomark _)) (pw_and1 (pt_cmp (pc_dnotin (hu_of hr) (pv 4) (pv 1)) rfl))))) (fun _ _ _ _ _ => (pe_tup (pa_cons (pv 4) (pa_cons (pv 6) pa_nil)))))
      (pss_cons (ps_setLc (i := 7) (own := [("index", 4), ("tail", 5), ("head", 6)]) rfl sc.nd rfl rfl (sw_true rfl rfl rfl (by exact rfl)) (pi_enTK K (by rfl) T.m_enumerate (pa_cons (pv 0) pa_nil)) (blkOk_by (by exact rfl)) (fun _ _ _ _ _ => (pg_tupK K 2 (pgs_cons (pg_name (i := 4) sc.nd rfl (.inl rfl)) (pgs_cons (pg_tupK K 2 (pgs_cons (pg_name (i := 5) sc.nd rfl (.inl rfl)) (pgs_cons (pg_name (i := 6) sc.nd rfl (.inl rfl)) pgs_nil))) pgs_nil)))) (fun _ _ _ _ _ => pts_one (PW.pt (pw_and (pt_cmpR (op_eqK K hr) (pv 6) (pv 2) (nomark _)) (pw_and1 (pt_cmp (pc_din (hu_of hr) (pv 4) (pv 1)) rfl))))) (fun _ _ _ _ _ => (pe_tup (pa_cons (pv 4) (pa_cons (pv 5) pa_nil)))))
      (pss_one (ps_ret (pe_op (op_addK K) (pv 3) (pv 7)))))), fun fd' xs Φ h => ?_⟩
  obtain ⟨ws, lk, T, x, rfl, hl, q⟩ := h
  have hz : ws.zipIdx.length < sizeLine := by rw [List.length_zipIdx, sizeLine_eq]; omega
  refine ds_seq (ds_setz (de_lcA ws.zipIdx (fun p => .d (.tuple [.int (p.2 : Nat), prD p.1])) (fun p => if p.1.1 = x ∧ p.2 ∉ T then some (stD (p.2, p.1.2)) else none) ?_ ?_ ?_))
  · exact di_enT (da_cons (de_var rfl (da_nil ⟨ws.map prD, rfl, by rw [enum_map, List.map_map]; exact ⟨rfl, hz⟩⟩)))
  · intro p hp
    refine dg12 (by decide) (by decide) (by decide) ?_
    refine dt_and (dt_test (de_ss (de_var rfl (de_var rfl ⟨p.1.1, x, rfl, rfl, _, rfl, ?_⟩))))
    by_cases e : p.1.1 = x
    · rw [decide_eq_true e]
      refine dt_b (de_dnotin (de_var rfl (de_var rfl ⟨_, .inl ⟨lk, tkD T, .inl (p.2 : Nat), rfl, rfl, rfl⟩, _, rfl, ?_⟩)))
      rw [valD_tk]
      by_cases e2 : p.2 ∈ T
      · rw [decide_eq_true e2]; exact if_neg (fun z => z.2 e2)
      · rw [decide_eq_false e2]
        exact de_tup (da_cons (de_var rfl (da_cons (de_var rfl (da_nil ⟨[.int (p.2 : Nat), .str p.1.2], rfl, szn rfl, _, rfl, if_pos ⟨e, e2⟩⟩)))))
    · rw [decide_eq_false e]; exact if_neg (fun z => e z.1)
  refine ds_seq (ds_setz (de_lcA ws.zipIdx (fun p => .d (.tuple [.int (p.2 : Nat), prD p.1])) (fun p => if p.1.2 = x ∧ p.2 ∈ T then some (stD (p.2, p.1.1)) else none) ?_ ?_ ?_))
  · exact di_enT (da_cons (de_var rfl (da_nil ⟨ws.map prD, rfl, by rw [enum_map, List.map_map]; exact ⟨rfl, hz⟩⟩)))
  · intro p hp
    refine dg12 (by decide) (by decide) (by decide) ?_
    refine dt_and (dt_test (de_ss (de_var rfl (de_var rfl ⟨p.1.2, x, rfl, rfl, _, rfl, ?_⟩))))
    by_cases e : p.1.2 = x
    · rw [decide_eq_true e]
      refine dt_b (de_din (de_var rfl (de_var rfl ⟨_, .inl ⟨lk, tkD T, .inl (p.2 : Nat), rfl, rfl, rfl⟩, _, rfl, ?_⟩)))
      rw [valD_tk]
      by_cases e2 : p.2 ∈ T
      · rw [decide_eq_true e2]
        exact de_tup (da_cons (de_var rfl (da_cons (de_var rfl (da_nil ⟨[.int (p.2 : Nat), .str p.1.1], rfl, szn rfl, _, rfl, if_pos ⟨e, e2⟩⟩)))))
      · rw [decide_eq_false e2]; exact if_neg (fun z => e2 z.2)
    · rw [decide_eq_false e]; exact if_neg (fun z => e z.1)
  refine ds_ret (de_addL (de_var rfl (de_var rfl ⟨_, _, rfl, rfl, ?_, ?_⟩)))
  · have h1 := List.length_filterMap_le (fun p => if p.1.1 = x ∧ p.2 ∉ T then some (stD (p.2, p.1.2)) else none) ws.zipIdx
    have h2 := List.length_filterMap_le (fun p => if p.1.2 = x ∧ p.2 ∈ T then some (stD (p.2, p.1.1)) else none) ws.zipIdx
    rw [List.length_zipIdx] at h1 h2
    rw [sizeLine_eq]; omega
  · have e : (stepsOn ws T x).map stD = (ws.zipIdx.filterMap fun p => if p.1.1 = x ∧ p.2 ∉ T then some (stD (p.2, p.1.2)) else none) ++ (ws.zipIdx.filterMap fun p => if p.1.2 = x ∧ p.2 ∈ T then some (stD (p.2, p.1.1)) else none) := by
      rw [stepsOn, List.map_append, List.map_filterMap, List.map_filterMap]
      congr 1 <;> (congr 1; funext p; split <;> rfl)
    rw [← e]; exact q
end
end Z

/-! # ZF1 -/
set_option Elab.async false
set_option linter.all false
set_option maxRecDepth 100000
set_option maxHeartbeats 1000000
namespace Z
open PySem PySem.Spec PyProof.Rows L2 Fl
/-! ### steps, as they are listed -/
theorem mem_stepsOn {ws : List (Str × Str)} {T : List Nat} {x y : Str} {i : Nat} : (i, y) ∈ stepsOn ws T x ↔ Fl.Step ws T i x y := by
  unfold stepsOn Fl.Step
  rw [List.mem_append, List.mem_filterMap, List.mem_filterMap]
  constructor
  · rintro (⟨⟨⟨a, b⟩, j⟩, hm, e⟩ | ⟨⟨⟨a, b⟩, j⟩, hm, e⟩)
    · rw [List.mem_zipIdx_iff_getElem?] at hm
      simp only [Option.ite_none_right_eq_some, Option.some.injEq, Prod.mk.injEq] at e
      obtain ⟨⟨rfl, h2⟩, rfl, rfl⟩ := e
      exact .inl ⟨hm, h2⟩
    · rw [List.mem_zipIdx_iff_getElem?] at hm
      simp only [Option.ite_none_right_eq_some, Option.some.injEq, Prod.mk.injEq] at e
      obtain ⟨⟨rfl, h2⟩, rfl, rfl⟩ := e
      exact .inr ⟨hm, h2⟩
  · rintro (⟨h1, h2⟩ | ⟨h1, h2⟩)
    · exact .inl ⟨((x, y), i), List.mem_zipIdx_iff_getElem?.mpr h1, by simp [h2]⟩
    · exact .inr ⟨((y, x), i), List.mem_zipIdx_iff_getElem?.mpr h1, by simp [h2]⟩
theorem stepsOn_len {ws : List (Str × Str)} {T : List Nat} {x : Str} : (stepsOn ws T x).length ≤ 2 * ws.length := by
  unfold stepsOn
  rw [List.length_append]
  have h1 := List.length_filterMap_le (fun p : (Str × Str) × Nat => if p.1.1 = x ∧ p.2 ∉ T then some (p.2, p.1.2) else none) ws.zipIdx
  have h2 := List.length_filterMap_le (fun p : (Str × Str) × Nat => if p.1.2 = x ∧ p.2 ∈ T then some (p.2, p.1.1) else none) ws.zipIdx
  rw [List.length_zipIdx] at h1 h2
  omega
def stepsBefore (ws : List (Str × Str)) (T : List Nat) (x : Str) : List Str :=
  (ws.zipIdx.filterMap fun p => if p.1.2 = x ∧ p.2 ∉ T then some p.1.1 else none) ++ (ws.zipIdx.filterMap fun p => if p.1.1 = x ∧ p.2 ∈ T then some p.1.2 else none)
theorem mem_stepsBefore {ws : List (Str × Str)} {T : List Nat} {x y : Str} : y ∈ stepsBefore ws T x ↔ ∃ i, Fl.Step ws T i y x := by
  unfold stepsBefore Fl.Step
  rw [List.mem_append, List.mem_filterMap, List.mem_filterMap]
  constructor
  · rintro (⟨⟨⟨a, b⟩, j⟩, hm, e⟩ | ⟨⟨⟨a, b⟩, j⟩, hm, e⟩)
    · rw [List.mem_zipIdx_iff_getElem?] at hm
      simp only [Option.ite_none_right_eq_some, Option.some.injEq] at e
      obtain ⟨⟨rfl, h2⟩, rfl⟩ := e
      exact ⟨j, .inl ⟨hm, h2⟩⟩
    · rw [List.mem_zipIdx_iff_getElem?] at hm
      simp only [Option.ite_none_right_eq_some, Option.some.injEq] at e
      obtain ⟨⟨rfl, h2⟩, rfl⟩ := e
      exact ⟨j, .inr ⟨hm, h2⟩⟩
  · rintro ⟨i, ⟨h1, h2⟩ | ⟨h1, h2⟩⟩
    · exact .inl ⟨((y, x), i), List.mem_zipIdx_iff_getElem?.mpr h1, by simp [h2]⟩
    · exact .inr ⟨((x, y), i), List.mem_zipIdx_iff_getElem?.mpr h1, by simp [h2]⟩
theorem stepsBefore_len {ws : List (Str × Str)} {T : List Nat} {x : Str} : (stepsBefore ws T x).length ≤ 2 * ws.length := by
  unfold stepsBefore
  rw [List.length_append]
  have h1 := List.length_filterMap_le (fun p : (Str × Str) × Nat => if p.1.2 = x ∧ p.2 ∉ T then some p.1.1 else none) ws.zipIdx
  have h2 := List.length_filterMap_le (fun p : (Str × Str) × Nat => if p.1.1 = x ∧ p.2 ∈ T then some p.1.2 else none) ws.zipIdx
  rw [List.length_zipIdx] at h1 h2
  omega

/-! ### steps_before -/
def L_before : Law := fun xs Φ => ∃ ws lk T x, xs = [.d (wiD ws), .dk lk (tkD T), .d (.str x)] ∧ ws.length ≤ 1000 ∧ Φ (.d (.list ((stepsBefore ws T x).map .str)))
abbrev N_steps_before : List Str := ["wires", "taken", "here", "found", "index", "tail", "head"]
theorem sc_steps_before : FnScope N_steps_before ["wires", "taken", "here"] (defScope (top 3)) := ⟨rfl, rfl, rfl, by decide +kernel, rfl, by decide +kernel, by decide +kernel⟩
section
variable {Pr : Program} {w : World} {K : PySem.W.Frag} {mg : Str → Option Value} {base : Heap} {C : Addr} {f : Addr} {fd : FuncData}
theorem c_steps_before (T : Tx K mg C) (F : FnP K "steps_before" (top 3) [] f fd) (g : mg "steps_before" = some (.ref f)) : C8.Cal Pr w K mg base 1 "steps_before" (mkSp K C L_before) [] := by
  have sc := sc_steps_before
  refine calN F g (fun _ _ _ _ _ _ us hl => match us, hl with | [_, _, _], _ => rfl) (okD F sc (fun xs Φ h => by obtain ⟨ws, lk, T, x, rfl, _⟩ := h; rfl) (fun cdv A outer s H E hr => ?_))
  refine ⟨_, (pss_cons (ps_setLc (i := 3) (own := [("index", 4), ("tail", 5), ("head", 6)]) rfl sc.nd rfl rfl (sw_true rfl rfl rfl (by exact rfl)) (pi_enTK K (by rfl) T.m_enumerate (pa_cons (pv 0) pa_nil)) (blkOk_by (by exact rfl)) (fun _ _ _ _ _ => (pg_tupK K 2 (pgs_cons (pg_name (i := 4) sc.nd rfl (.inl rfl)) (pgs_cons (pg_tupK K 2 (pgs_cons (pg_name (i := 5) sc.nd rfl (.inl rfl)) (pgs_cons (pg_name (i := 6) sc.nd rfl (.inl rfl)) pgs_nil))) pgs_nil)))) (fun _ _ _ _ _ => pts_one (PW.pt (pw_and (pt_cmpR (op_eqK K hr) (pv 6) (pv 2) (nomark _)) (pw_and1 (pt_cmp (pc_dnotin (hu_of hr) (pv 4) (pv 1)) rfl))))) (fun _ _ _ _ _ => (pv 5)))
      (pss_one (ps_ret (pe_op (op_addK K) (pv 3) (pe_lc (own := [("index", 4), ("tail", 5), ("head", 6)]) rfl sc.nd (pi_enTK K (by rfl) T.m_enumerate (pa_cons (pv 0) pa_nil)) (blkOk_by (by exact rfl)) (fun _ _ _ _ _ => (pg_tupK K 2 (pgs_cons (pg_name (i := 4) sc.nd rfl (.inl rfl)) (pgs_cons (pg_tupK K 2 (pgs_cons (pg_name (i := 5) sc.nd rfl (.inl rfl)) (pgs_cons (pg_name (i := 6) sc.nd rfl (.inl rfl)) pgs_nil))) pgs_nil)))) (fun _ _ _ _ _ => pts_one (PW.pt (pw_and (pt_cmpR (op_eqK K hr) (pv 5) (pv 2) (nomark _)) (pw_and1 (pt_cmp (pc_din (hu_of hr) (pv 4) (pv 1)) rfl))))) (fun _ _ _ _ _ => (pv 6))))))), fun fd' xs Φ h => ?_⟩
  obtain ⟨ws, lk, T, x, rfl, hl, q⟩ := h
  have hz : ws.zipIdx.length < sizeLine := by rw [List.length_zipIdx]; exact szs (by omega)
  have l1 := List.length_filterMap_le (fun p : (Str × Str) × Nat => if p.1.2 = x ∧ p.2 ∉ T then some (PyData.str p.1.1) else none) ws.zipIdx
  have l2 := List.length_filterMap_le (fun p : (Str × Str) × Nat => if p.1.1 = x ∧ p.2 ∈ T then some (PyData.str p.1.2) else none) ws.zipIdx
  rw [List.length_zipIdx] at l1 l2
  refine ds_seq (ds_setz (de_lcA ws.zipIdx (fun p => .d (.tuple [.int (p.2 : Nat), prD p.1])) (fun p => if p.1.2 = x ∧ p.2 ∉ T then some (.str p.1.1) else none) ?_ ?_ ?_))
  · exact di_enT (da_cons (de_var rfl (da_nil ⟨ws.map prD, rfl, by rw [enum_map, List.map_map]; exact ⟨rfl, hz⟩⟩)))
  · intro p hp
    refine dg12 (by decide) (by decide) (by decide) ?_
    refine dt_and (dt_test (de_ss (de_var rfl (de_var rfl ⟨p.1.2, x, rfl, rfl, _, rfl, ?_⟩))))
    by_cases e : p.1.2 = x
    · rw [decide_eq_true e]
      refine dt_b (de_dnotin (de_var rfl (de_var rfl ⟨_, .inl ⟨lk, tkD T, .inl (p.2 : Nat), rfl, rfl, rfl⟩, _, rfl, ?_⟩)))
      rw [valD_tk]
      by_cases e2 : p.2 ∈ T
      · rw [decide_eq_true e2]; exact if_neg (fun z => z.2 e2)
      · rw [decide_eq_false e2]
        exact de_var rfl ⟨.str p.1.1, rfl, if_pos ⟨e, e2⟩⟩
    · rw [decide_eq_false e]; exact if_neg (fun z => e z.1)
  refine ds_ret (de_addL (de_var rfl (de_lcA ws.zipIdx (fun p => .d (.tuple [.int (p.2 : Nat), prD p.1])) (fun p => if p.1.1 = x ∧ p.2 ∈ T then some (.str p.1.2) else none) ?_ ?_ ⟨_, _, rfl, rfl, szl (by omega), ?_⟩)))
  · exact di_enT (da_cons (de_var rfl (da_nil ⟨ws.map prD, rfl, by rw [enum_map, List.map_map]; exact ⟨rfl, hz⟩⟩)))
  · intro p hp
    refine dg12 (by decide) (by decide) (by decide) ?_
    refine dt_and (dt_test (de_ss (de_var rfl (de_var rfl ⟨p.1.1, x, rfl, rfl, _, rfl, ?_⟩))))
    by_cases e : p.1.1 = x
    · rw [decide_eq_true e]
      refine dt_b (de_din (de_var rfl (de_var rfl ⟨_, .inl ⟨lk, tkD T, .inl (p.2 : Nat), rfl, rfl, rfl⟩, _, rfl, ?_⟩)))
      rw [valD_tk]
      by_cases e2 : p.2 ∈ T
      · rw [decide_eq_true e2]
        exact de_var rfl ⟨.str p.1.2, rfl, if_pos ⟨e, e2⟩⟩
      · rw [decide_eq_false e2]; exact if_neg (fun z => e2 z.2)
    · rw [decide_eq_false e]; exact if_neg (fun z => e z.1)
  · have e : (stepsBefore ws T x).map PyData.str = (ws.zipIdx.filterMap fun p => if p.1.2 = x ∧ p.2 ∉ T then some (.str p.1.1) else none) ++ (ws.zipIdx.filterMap fun p => if p.1.1 = x ∧ p.2 ∈ T then some (.str p.1.2) else none) := by
      rw [stepsBefore, List.map_append, List.map_filterMap, List.map_filterMap]
      congr 1 <;> (congr 1; funext p; split <;> rfl)
    rw [← e]; exact q

/-! ### comings -/
def fdO : Option Nat → PyData
  | none => .none
  | some i => .int (i : Int)
def fdD (fs : Fd Str) : List (Key × PyData) := fs.map fun p => (.inr p.1, fdO p.2)
theorem fdD_any (fs : Fd Str) (y : Str) : ((fdD fs).any fun kv => decide (kv.1 = Sum.inr y)) = decide (y ∈ keys fs) := by
  induction fs with
  | nil => rfl
  | cons p r ih =>
    show (decide ((Sum.inr p.1 : Key) = Sum.inr y) || (fdD r).any _) = _
    rw [ih]
    by_cases e : p.1 = y
    · subst e; simp [keys]
    · have e2 : (Sum.inr p.1 : Key) ≠ Sum.inr y := fun z => e (Sum.inr.inj z)
      rw [decide_eq_false e2, Bool.false_or]
      exact decide_eq_decide.mpr ⟨fun h => List.mem_cons_of_mem _ h, fun h => (List.mem_cons.mp h).elim (fun z => absurd z.symm e) id⟩
theorem valD_some {κ : Type} [DecidableEq κ] (kvs : List (κ × PyData)) (k : κ) : (valD kvs k).isSome = kvs.any fun kv => decide (kv.1 = k) := by
  unfold valD
  rw [Option.isSome_map]
  induction kvs with
  | nil => rfl
  | cons p r ih =>
    rw [List.any_cons]
    by_cases e : p.1 = k
    · simp [e]
    · rw [List.find?_cons_of_neg (by simpa using e), ih, decide_eq_false e, Bool.false_or]
theorem fdD_val (fs : Fd Str) (y : Str) : (valD (fdD fs) (Sum.inr y)).isSome = decide (y ∈ keys fs) := by rw [valD_some, fdD_any]
theorem fdD_put {fs : Fd Str} {y : Str} (h : y ∉ keys fs) (i : Nat) : putD (fdD fs) (Sum.inr y) (.int (i : Int)) = fdD (fs ++ [(y, some i)]) := by
  unfold putD
  rw [fdD_any, if_neg (by simpa using h)]
  simp [fdD, fdO]
theorem nil_or_snoc {α : Type} (l : List α) : l = [] ∨ ∃ r x, l = r ++ [x] := by
  rcases List.eq_nil_or_concat l with h | ⟨r, x, h⟩
  · exact .inl h
  · exact .inr ⟨r, x, by rw [h, List.concat_eq_append]⟩
def OkS (s : Str) : Prop := PyData.strOk s = true
def OkW (ws : List (Str × Str)) : Prop := ∀ e ∈ ws, OkS e.1 ∧ OkS e.2
theorem lay_all {ds : List PyData} : (∀ d ∈ ds, d.canLay0 = true) → PyData.canLayAll0 ds = true := by
  induction ds with
  | nil => intro _; exact PyData.canLayAll0.eq_1
  | cons d r ih => intro h; rw [PyData.canLayAll0.eq_2, h d List.mem_cons_self, ih fun x hx => h x (List.mem_cons_of_mem _ hx)]; rfl
theorem depth_all {n : Nat} {ds : List PyData} : (∀ d ∈ ds, d.depth ≤ n) → PyData.depthAll ds ≤ n := by
  induction ds with
  | nil => intro _; rw [PyData.depthAll.eq_1]; omega
  | cons d r ih =>
    intro h
    rw [PyData.depthAll.eq_2]
    have h1 := h d List.mem_cons_self
    have h2 := ih fun x hx => h x (List.mem_cons_of_mem _ hx)
    omega
theorem lay_strs {l : List Str} (h : ∀ s ∈ l, OkS s) : PyData.canLayAll0 (l.map .str) = true := lay_all fun d hd => by
  obtain ⟨s, hs, rfl⟩ := List.mem_map.mp hd
  rw [PyData.canLay0.eq_4]; exact h s hs
theorem depth_strs (l : List Str) : PyData.depthAll (l.map .str) ≤ 0 := depth_all fun d hd => by
  obtain ⟨s, hs, rfl⟩ := List.mem_map.mp hd
  rw [PyData.depth.eq_7]; omega
theorem shaped_strs {l : List Str} (h : ∀ s ∈ l, OkS s) : SeqAt.shaped (.list (l.map .str)) = true := by
  unfold SeqAt.shaped
  have := depth_strs l
  rw [PyData.canLay0.eq_5, PyData.depth.eq_1, lay_strs h, Bool.true_and]
  exact decide_eq_true (by omega)
def L_comings : Law := fun xs Φ => ∃ ws lk T b, xs = [.d (wiD ws), .dk lk (tkD T), .d (.str b)] ∧ ws.length ≤ 1000 ∧ OkW ws ∧ OkS b ∧ ∀ fs, Tree ws T b fs → (∀ x, x ∈ keys fs ↔ Reach ws T b x) → Φ (.dk false (fdD fs))
abbrev N_comings : List Str := ["wires", "taken", "begin", "found", "rest", "here", "index", "house"]
theorem sc_comings : FnScope N_comings ["wires", "taken", "begin"] (defScope (top 4)) := ⟨rfl, rfl, rfl, by decide +kernel, rfl, by decide +kernel, by decide +kernel⟩
theorem tree_len {ws : List (Str × Str)} {T : List Nat} {b : Str} {fs : Fd Str} (t : Tree ws T b fs) : fs.length ≤ 2 * ws.length + 1 := by
  have h := nodup_le t.nd (m := ends ws b) fun x hx => ?_
  · rw [ends_len, List.length_map] at h; exact h
  · have r := t.reach x hx
    cases r with
    | refl => unfold ends; exact List.mem_cons_self
    | step _ s =>
      rcases s with ⟨e, _⟩ | ⟨e, _⟩
      · exact (mem_ends e).2
      · exact (mem_ends e).1
theorem c_comings (T : Tx K mg C) (c_steps_on : C8.Cal Pr w K mg base 1 "steps_on" (mkSp K C L_steps) []) (F : FnP K "comings" (top 4) [] f fd) (g : mg "comings" = some (.ref f)) : C8.Cal Pr w K mg base 2 "comings" (mkSp K C L_comings) [] := by
  have sc := sc_comings
  refine calN F g (fun _ _ _ _ _ _ us hl => match us, hl with | [_, _, _], _ => rfl) (okD F sc (fun xs Φ h => by obtain ⟨ws, lk, T, x, rfl, _⟩ := h; rfl) (fun cdv A outer s H E hr => ?_))
  refine ⟨_, (pss_cons (ps_set (i := 3) sc.nd rfl (.inl rfl) (pe_callTy (call_dictK K) (by rfl) T.m_dict boot_dict (pa_cons (pe_lst (pa_cons (pe_tup (pa_cons (pv 2) (pa_cons pe_non pa_nil))) pa_nil)) pa_nil)))
      (pss_cons (ps_set (i := 4) sc.nd rfl (.inl rfl) (pe_lst (pa_cons (pv 2) pa_nil)))
      (pss_cons (ps_while PassesOwn.never (pt_cmpR (op_neK K hr) (pv 4) (pe_lst pa_nil) (nomark _)) (pss_cons (ps_set (i := 5) sc.nd rfl (.inl rfl) (pe_bm0 PySem.F.plainAttrs_list PySem.F.slot_list_pop PySem.F.type_list_pop mt_pop (pv 4)))
      (pss_one (ps_for PassesOwn.never rfl (pi_listK K (C8.pe_c c_steps_on hr (by decide) (by rfl) (pa_cons (pv 0) (pa_cons (pv 1) (pa_cons (pv 5) pa_nil))))) (pg_tupK K 2 (pgs_cons (pg_name (i := 6) sc.nd rfl (.inl rfl)) (pgs_cons (pg_name (i := 7) sc.nd rfl (.inl rfl)) pgs_nil))) (pss_one (ps_if (pt_cmp (pc_dnotin (hu_of hr) (pv 7) (pv 3)) rfl) (pss_cons (ps_dput (hu_of hr) (pv 3) (pv 7) (pv 6) rfl)
      (pss_one (ps_expr (pe_bm PySem.F.plainAttrs_list PySem.F.slot_list_append PySem.F.type_list_append mt_append (pv 4) (pa_cons (pv 7) pa_nil))))) pss_nil))))))
      (pss_one (ps_ret (pv 3)))))), fun fd' xs Φ h => ?_⟩
  obtain ⟨ws, lk, T, b, rfl, hl, ow, ob, q⟩ := h
  let V0 : En := .fz (.d (wiD ws))
  let V1 : En := .fz (.dk lk (tkD T))
  let V2 : En := .fz (.d (.str b))
  let R : Str → Str → Prop := fun x y => ∃ i, Fl.Step ws T i x y
  have okk : ∀ {fs : Fd Str}, Tree ws T b fs → ∀ s ∈ keys fs, OkS s := fun t s hs => by
    cases t.reach s hs with
    | refl => exact ob
    | step _ st =>
      rcases st with ⟨e, _⟩ | ⟨e, _⟩
      · exact (ow _ (List.mem_of_getElem? e)).2
      · exact (ow _ (List.mem_of_getElem? e)).1
  refine ds_seq (ds_set (dw_dictP (da_cons (de_lst (da_cons (de_tup (da_cons (de_var rfl (da_cons (de_non (da_nil ⟨[.str b, .none], rfl, szn rfl, da_nil ⟨[.tuple [.str b, .none]], rfl, szn rfl, da_nil ⟨[(.inr b, .none)], rfl, ?_⟩⟩⟩)))))))))))
  refine ds_seq (ds_set (dw_lst (da_cons (de_var rfl (da_nil ⟨[.str b], rfl, szn rfl, ?_⟩)))))
  refine ds_seq (ds_whileW [5, 6, 7] (fun m ρ' => ∃ fs rest, ρ' = [V0, V1, V2, .od (fdD fs), .ol (rest.map .str), .un, .un, .un] ∧ Tree ws T b fs ∧ Srch R b (keys fs) rest ∧ rest.length ≤ fs.length ∧ m = 2 * (2 * ws.length + 1 - fs.length) + rest.length) (2 * (2 * ws.length + 1 - 1) + 1)
    ⟨[(b, none)], [b], rfl, .one, Srch.start, Nat.le_refl _, rfl⟩ fun m ρ' hI => ?_)
  obtain ⟨fs, rest, rfl, tr, sr, lr, em⟩ := hI
  refine dt_lend (dt_test (de_nnil (de_var rfl (de_lst (da_nil ⟨[], rfl, szn rfl, rest.map .str, rfl, shaped_strs (fun s hs => okk tr s (sr.sub s hs)), rfl, _, rfl, ?_⟩)))))
  rcases nil_or_snoc rest with rfl | ⟨r, x, rfl⟩
  · -- all found
    show Ds _ _ _ _ _
    refine ds_frz (ds_ret (de_var rfl (q fs tr fun x => ⟨tr.reach x, fun rc => reach_in tr.first (fun x hx y hy => sr.all x hx y hy) rc⟩)))
  · rw [List.length_append, List.length_singleton] at lr
    have e1 : (r ++ [x]).map PyData.str = r.map .str ++ [.str x] := by rw [List.map_append]; rfl
    rw [if_pos (by simp)]
    refine ds_seq (ds_popL (ds := r.map .str) (d := .str x) (congrArg (fun z => some (En.ol z)) e1) rfl ?_)
    have s1 := sr.pop
    refine ds_forW [6, 7] (fun i ρ2 => ∃ fs2 r2, ρ2 = [V0, V1, V2, .od (fdD fs2), .ol (r2.map .str), .fz (.d (.str x)), .un, .un] ∧ Tree ws T b fs2 ∧ SrchIn R b x (keys fs2) r2 ∧ fs2.length + r.length = fs.length + r2.length ∧ fs.length ≤ fs2.length ∧ ∀ (j : Nat) (p : Nat × Str), j < i → (stepsOn ws T x)[j]? = some p → p.2 ∈ keys fs2) ?_
    refine di_list (de_call0 (da_cons (de_var rfl (da_cons (de_var rfl (da_cons (de_var rfl (da_nil ⟨ws, lk, T, x, rfl, hl, _, rfl, [6, 7], ⟨fs, r, rfl, tr, s1, rfl, Nat.le_refl _, fun j p h => absurd h (Nat.not_lt_zero _)⟩, ?_, ?_⟩))))))))
    · rintro i v ρ2 hv ⟨fs2, r2, rfl, tr2, s2, el, le, all⟩
      rw [List.map_map, List.getElem?_map] at hv
      cases hp : (stepsOn ws T x)[i]? with
      | none => rw [hp] at hv; exact nomatch hv
      | some p =>
        rw [hp] at hv; cases hv
        have st : Fl.Step ws T p.1 x p.2 := mem_stepsOn.mp (List.mem_of_getElem? hp)
        refine dg2 (by decide) (by decide) ?_
        refine ds_if (dt_lend (dt_b (de_dnotin (de_var rfl (de_var rfl ⟨_, .inl ⟨false, fdD fs2, .inr p.2, rfl, rfl, rfl⟩, _, rfl, ?_⟩)))))
        rw [fdD_val]
        by_cases hin : p.2 ∈ keys fs2
        · rw [decide_eq_true hin]
          refine ds_next ⟨fs2, r2, rfl, tr2, s2, el, le, fun j p' hj hj' => ?_⟩
          rcases Nat.lt_succ_iff_lt_or_eq.mp hj with h | rfl
          · exact all j p' h hj'
          · rw [hp] at hj'; cases hj'; exact hin
        · rw [decide_eq_false hin]
          have tr3 : Tree ws T b (fs2 ++ [(p.2, some p.1)]) := .snoc tr2 s2.me hin st
          have ln := tree_len tr3
          rw [List.length_append, List.length_singleton] at ln
          refine ds_seq (ds_dput (kvs := fdD fs2) rfl rfl (de_var rfl (de_var rfl ⟨.inr p.2, .int (p.1 : Nat), rfl, rfl, ?_, ?_⟩)))
          · rw [fdD, List.length_map]; exact szs (by omega)
          rw [fdD_put hin]
          refine ds_append (ds := r2.map .str) rfl rfl (de_var rfl ⟨.str p.2, rfl, ?_, ?_⟩)
          · rw [List.length_map]; exact szs (by omega)
          have e2 : r2.map PyData.str ++ [.str p.2] = (r2 ++ [p.2]).map .str := by rw [List.map_append]; rfl
          rw [e2]
          refine ⟨fs2 ++ [(p.2, some p.1)], r2 ++ [p.2], rfl, tr3, ?_, ?_, ?_, fun j p' hj hj' => ?_⟩
          · have := s2.push hin; rwa [show keys (fs2 ++ [(p.2, some p.1)]) = keys fs2 ++ [p.2] by rw [keys, List.map_append]; rfl]
          · rw [List.length_append, List.length_append, List.length_singleton, List.length_singleton]; omega
          · rw [List.length_append]; omega
          · rw [keys, List.map_append]
            rcases Nat.lt_succ_iff_lt_or_eq.mp hj with h | rfl
            · exact List.mem_append_left _ (all j p' h hj')
            · rw [hp] at hj'; cases hj'; exact List.mem_append_right _ (by simp)
    · rintro ρ2 ⟨fs2, r2, rfl, tr2, s2, el, le, all⟩
      have ln := tree_len tr2
      refine ⟨2 * (2 * ws.length + 1 - fs2.length) + r2.length, ?_, fs2, r2, rfl, tr2, s2.done (fun y hy => ?_), by omega, rfl⟩
      · rw [em, List.length_append, List.length_singleton]; omega
      · obtain ⟨i, st⟩ := hy
        obtain ⟨j, hj, hj'⟩ := List.getElem_of_mem (mem_stepsOn.mpr st)
        have lj : j < (((stepsOn ws T x).map stD).map Dv.d).length := by rw [List.length_map, List.length_map]; exact hj
        exact all j (i, y) lj (by rw [List.getElem?_eq_getElem hj, hj'])
end
end Z

/-! # ZF2 -/
set_option Elab.async false
set_option linter.all false
set_option maxRecDepth 100000
set_option maxHeartbeats 1000000
namespace Z
open PySem PySem.Spec PyProof.Rows L2 Fl
theorem valD_fd {fs : Fd Str} {y : Str} {o : Option Nat} (h : fs.lookup y = some o) : valD (fdD fs) (Sum.inr y) = some (fdO o) := by
  induction fs with
  | nil => exact nomatch h
  | cons p r ih =>
    rw [List.lookup_cons] at h
    unfold valD fdD at *
    rw [List.map_cons]
    by_cases e : p.1 = y
    · subst e
      rw [beq_self_eq_true] at h
      cases h
      simp
    · have e1 : (y == p.1) = false := beq_eq_false_iff_ne.mpr (Ne.symm e)
      rw [e1] at h
      rw [List.find?_cons_of_neg (by simpa using e)]
      exact ih h
theorem valD_tk_in {T : List Nat} {i : Nat} (h : i ∈ T) : valD (tkD T) (Sum.inl (i : Int)) = some (.bool true) := by
  have h1 := valD_tk T i
  rw [decide_eq_true h] at h1
  cases e : valD (tkD T) (Sum.inl (i : Int)) with
  | none => rw [e] at h1; exact nomatch h1
  | some d =>
    unfold valD tkD at e
    cases e2 : (T.map fun (i : Nat) => ((Sum.inl (i : Int) : Key), PyData.bool true)).find? fun kv => decide (kv.1 = Sum.inl (i : Int)) with
    | none => rw [e2] at e; exact nomatch e
    | some q =>
      rw [e2] at e
      obtain ⟨j, _, e3⟩ := List.mem_map.mp (List.mem_of_find?_eq_some e2)
      subst e3
      exact e.symm
theorem tkD_any (T : List Nat) (i : Nat) : ((tkD T).any fun kv => decide (kv.1 = Sum.inl (i : Int))) = decide (i ∈ T) := by
  rw [← valD_some, valD_tk]
theorem tkD_put {T : List Nat} {i : Nat} (h : i ∉ T) : putD (tkD T) (Sum.inl (i : Int)) (.bool true) = tkD (T ++ [i]) := by
  unfold putD
  rw [tkD_any, if_neg (by simpa using h)]
  simp [tkD]
theorem tkD_drop (T : List Nat) (i : Nat) : dropD (tkD T) (Sum.inl (i : Int)) = tkD (T.filter fun j => decide (j ≠ i)) := by
  unfold dropD tkD
  rw [List.filter_map]
  congr 1
  refine List.filter_congr fun j _ => ?_
  show decide ((Sum.inl (j : Int) : Key) ≠ Sum.inl (i : Int)) = decide (j ≠ i)
  exact decide_eq_decide.mpr (not_congr ⟨fun e => by have := Sum.inl.inj e; omega, fun e => by rw [e]⟩)
theorem tkD_merge : ∀ (more acc : List Nat), (acc ++ more).Nodup → mergeD (tkD acc) (tkD more) = tkD (acc ++ more)
  | [], acc, _ => by rw [List.append_nil]; rfl
  | i :: r, acc, h => by
    have hi : i ∉ acc := fun hm => by
      rw [List.nodup_append] at h
      exact h.2.2 i hm i List.mem_cons_self rfl
    show mergeD (putD (tkD acc) (Sum.inl (i : Int)) (.bool true)) (tkD r) = _
    rw [tkD_put hi, tkD_merge r (acc ++ [i]) (by rw [List.append_assoc]; exact h), List.append_assoc]; rfl
theorem atI_ofNat {α : Type} {xs : List α} {i : Nat} {d : α} (h : xs[i]? = some d) : atI xs (i : Int) = some d := atI_nat h
theorem wi_at {ws : List (Str × Str)} {i : Nat} {e : Str × Str} (h : ws[i]? = some e) : atI (ws.map prD) (i : Int) = some (prD e) := atI_nat (by rw [List.getElem?_map, h]; rfl)
section
variable {P : Pm} {ρ : List En} {N : List En → Prop} {R : KD}
/-- one end of a wire -/
theorem de_end {ta tb : TE} {q : Int} {Φ : KD} (h : De P ta ρ fun x => De P tb ρ fun y => ∃ (ws : List (Str × Str)) (i : Nat) (e : Str × Str), x = .d (wiD ws) ∧ y = .d (.int (i : Nat)) ∧ ws[i]? = some e ∧ ((q = 0 ∧ Φ (.d (.str e.1))) ∨ (q = 1 ∧ Φ (.d (.str e.2))))) : De P (tOp (rIx P.K) (tOp (rIx P.K) ta tb) (tC (.int q))) ρ Φ := by
  refine de_ix (de_ix (h.mono fun x h => De.mono h fun y ⟨ws, i, e, e1, e2, hi, hq⟩ => ⟨_, _, _, _, e1, e2, .inr rfl, wi_at hi, de_int ?_⟩))
  rcases hq with ⟨rfl, hq⟩ | ⟨rfl, hq⟩
  · exact ⟨_, [.str e.1, .str e.2], 0, .str e.1, rfl, rfl, .inr rfl, rfl, hq⟩
  · exact ⟨_, [.str e.1, .str e.2], 1, .str e.2, rfl, rfl, .inr rfl, rfl, hq⟩
end

/-! ### one_way_more -/
def L_oneway : Law := fun xs Φ => ∃ ws T fs k b g, xs = [.d (wiD ws), .dk false (tkD T), .dk false (fdD fs), .d (.str b), .d (.str g)] ∧ ws.length ≤ 30 ∧ Flow ws b g T k ∧ Tree ws T b fs ∧ g ∈ keys fs ∧ ∀ late, Flow ws b g late (k + 1) → Φ (.dk false (tkD late))
abbrev N_one_way_more : List Str := ["wires", "taken", "found", "begin", "goal", "late", "index", "here"]
theorem sc_one_way_more : FnScope N_one_way_more ["wires", "taken", "found", "begin", "goal"] (defScope (top 5)) := ⟨rfl, rfl, rfl, by decide +kernel, rfl, by decide +kernel, by decide +kernel⟩
section
variable {Pr : Program} {w : World} {K : PySem.W.Frag} {mg : Str → Option Value} {base : Heap} {C : Addr} {f : Addr} {fd : FuncData}
theorem ix_len {ws : List (Str × Str)} {T : List Nat} (I : Ix ws T) : T.length ≤ ws.length := by
  have h := nodup_le I.nd (m := List.range ws.length) fun x hx => List.mem_range.mpr (I.lt x hx)
  rwa [List.length_range] at h
theorem c_one_way_more (T : Tx K mg C) (F : FnP K "one_way_more" (top 5) [] f fd) (g : mg "one_way_more" = some (.ref f)) : C8.Cal Pr w K mg base 1 "one_way_more" (mkSp K C L_oneway) [] := by
  have sc := sc_one_way_more
  refine calN F g (fun _ _ _ _ _ _ us hl => match us, hl with | [_, _, _, _, _], _ => rfl) (okD F sc (fun xs Φ h => by obtain ⟨ws, T, fs, k, b, g, rfl, _⟩ := h; rfl) (fun cdv A outer s H E hr => ?_))
  refine ⟨_, (pss_cons (ps_set (i := 5) sc.nd rfl (.inl rfl) (pe_callTy (call_dictK K) (by rfl) T.m_dict boot_dict (pa_cons (pe_lock (pe_lc (own := [("index", 6)]) rfl sc.nd (pi_keys (pv 1)) (blkOk_by (by exact rfl)) (fun _ _ _ _ _ => (pg_name (i := 6) sc.nd rfl (.inl rfl))) (fun _ _ _ _ _ => pts_nil) (fun _ _ _ _ _ => (pe_tup (pa_cons (pv 6) (pa_cons pe_bl pa_nil)))))) pa_nil)))
      (pss_cons (ps_set (i := 7) sc.nd rfl (.inl rfl) (pv 4))
      (pss_cons (ps_while PassesOwn.never (pt_cmpR (op_neK K hr) (pv 7) (pv 3) (nomark _)) (pss_cons (ps_set (i := 6) sc.nd rfl (.inl rfl) (pe_dget (hu_of hr) (pv 2) (pv 7) (fun _ _ => rfl)))
      (pss_one (ps_if (pt_cmp (pc_din (hu_of hr) (pv 6) (pv 1)) rfl) (pss_cons (ps_expr (pe_dpop1 (pv 5) (pv 6) ⟨by rfl, by rfl, by rfl, by rfl⟩))
      (pss_one (ps_set (i := 7) sc.nd rfl (.inl rfl) (pe_ix (ix_seqK K) (pe_ix (ix_seqK K) (pv 0) (pv 6) (fun _ _ => rfl)) pe_int (fun _ _ => rfl))))) (pss_cons (ps_dput (hu_of hr) (pv 5) (pv 6) pe_bl rfl)
      (pss_one (ps_set (i := 7) sc.nd rfl (.inl rfl) (pe_ix (ix_seqK K) (pe_ix (ix_seqK K) (pv 0) (pv 6) (fun _ _ => rfl)) pe_int (fun _ _ => rfl)))))))))
      (pss_one (ps_ret (pv 5)))))), fun fd' xs Φ h => ?_⟩
  obtain ⟨ws, T, fs, k, b, g, rfl, hl, F, tr, hg, q⟩ := h
  have lT := ix_len F.toIx
  refine ds_seq (ds_set (dw_dictP (da_cons (de_lock (i := 1) (.inl ⟨_, rfl⟩) (de_lcB T (fun (i : Nat) => .d (.int (i : Int))) (fun (i : Nat) => .tuple [.int (i : Int), .bool true]) (di_keys (de_var rfl (.inl ⟨_, rfl, by rw [show (tkD T).map (fun kv => Dv.d (keyP kv.1)) = T.map (fun (i : Nat) => Dv.d (.int (i : Int))) by rw [tkD, List.map_map]; rfl]; exact ⟨rfl, szs (by omega)⟩⟩))) (fun i hi => dg_name (by decide) (de_tup (da_cons (de_var rfl (da_cons (de_bl (da_nil ⟨[_, _], rfl, szn rfl, rfl⟩))))))) ⟨_, rfl, da_nil ⟨tkD T, ?_, ?_⟩⟩)))))
  · simp [pairsP, tkD, keyP]
  have e1 : mergeD [] (tkD T) = tkD T := tkD_merge T [] F.nd
  rw [e1]
  refine ds_seq (ds_setz (de_var rfl ?_))
  let V0 : En := .fz (.d (wiD ws))
  let V1 : En := .fz (.dk false (tkD T))
  let V2 : En := .fz (.dk false (fdD fs))
  refine ds_seq (ds_whileW [6] (fun m ρ' => ∃ late x, ρ' = [V0, V1, V2, .fz (.d (.str b)), .fz (.d (.str g)), .od (tkD late), .un, .fz (.d (.str x))] ∧ Half ws T b g fs late x m) fs.length ⟨T, g, rfl, Half.start F.toIx tr hg⟩ fun m ρ' hI => ?_)
  obtain ⟨late, x, rfl, hh⟩ := hI
  refine dt_test (de_nss (de_var rfl (de_var rfl ⟨x, b, rfl, rfl, _, rfl, ?_⟩)))
  by_cases hb : x = b
  · subst hb
    rw [decide_eq_true rfl]
    exact ds_frz (ds_ret (de_var rfl (q late (hh.done F))))
  · rw [decide_eq_false hb]
    obtain ⟨i, y, e1, hc⟩ := hh.turn hb
    refine ds_seq (ds_setz (de_dget (de_var rfl (de_var rfl ⟨.int (i : Nat), .inl ⟨false, fdD fs, .inr x, rfl, rfl, (valD_fd e1).symm⟩, ?_⟩))))
    refine ds_if (dt_b (de_din (de_var rfl (de_var rfl ⟨_, .inl ⟨false, tkD T, .inl (i : Nat), rfl, rfl, rfl⟩, _, rfl, ?_⟩))))
    rw [valD_tk]
    rcases hc with ⟨hT, hL, ew, m', lt, h2⟩ | ⟨hT, hL, ew, m', lt, h2⟩
    · rw [decide_eq_true hT]
      refine ds_seq (ds_dpop (kvs := tkD late) rfl rfl (de_var rfl ⟨.inl (i : Nat), .bool true, rfl, valD_tk_in hL, ?_⟩))
      rw [tkD_drop]
      refine ds_setz (de_end (de_var rfl (de_var rfl ⟨ws, i, _, rfl, rfl, ew, .inr ⟨rfl, ?_⟩⟩)))
      exact ⟨m', lt, _, y, rfl, h2⟩
    · rw [decide_eq_false hT]
      have ll := ix_len hh.toIx
      refine ds_seq (ds_dput (kvs := tkD late) rfl rfl (de_bl (de_var rfl ⟨.inl (i : Nat), .bool true, rfl, rfl, by rw [tkD, List.length_map]; exact szs (by omega), ?_⟩)))
      rw [tkD_put hL]
      refine ds_setz (de_end (de_var rfl (de_var rfl ⟨ws, i, _, rfl, rfl, ew, .inl ⟨rfl, ?_⟩⟩)))
      exact ⟨m', lt, _, y, rfl, h2⟩

/-! ### taken_by -/
def L_taken : Law := fun xs Φ => ∃ ws b g, xs = [.d (wiD ws), .d (.str b), .d (.str g)] ∧ ws.length ≤ 30 ∧ OkW ws ∧ OkS b ∧ b ≠ g ∧ ∀ T k, MaxFlow ws b g T k → Φ (.dk false (tkD T))
abbrev N_taken_by : List Str := ["wires", "begin", "goal", "taken", "found"]
theorem sc_taken_by : FnScope N_taken_by ["wires", "begin", "goal"] (defScope (top 6)) := ⟨rfl, rfl, rfl, by decide +kernel, rfl, by decide +kernel, by decide +kernel⟩
theorem c_taken_by (T : Tx K mg C) (c_comings : C8.Cal Pr w K mg base 2 "comings" (mkSp K C L_comings) []) (c_one_way_more : C8.Cal Pr w K mg base 1 "one_way_more" (mkSp K C L_oneway) []) (F : FnP K "taken_by" (top 6) [] f fd) (g : mg "taken_by" = some (.ref f)) : C8.Cal Pr w K mg base 3 "taken_by" (mkSp K C L_taken) [] := by
  have sc := sc_taken_by
  refine calN F g (fun _ _ _ _ _ _ us hl => match us, hl with | [_, _, _], _ => rfl) (okD F sc (fun xs Φ h => by obtain ⟨ws, b, g, rfl, _⟩ := h; rfl) (fun cdv A outer s H E hr => ?_))
  refine ⟨_, (pss_cons (ps_set (i := 3) sc.nd rfl (.inl rfl) (pe_callTy (call_dictK K) (by rfl) T.m_dict boot_dict (pa_cons (pe_lst pa_nil) pa_nil)))
      (pss_cons (ps_set (i := 4) sc.nd rfl (.inl rfl) (C8.pe_c c_comings hr (by decide) (by rfl) (pa_cons (pv 0) (pa_cons (pv 3) (pa_cons (pv 1) pa_nil)))))
      (pss_cons (ps_while PassesOwn.never (pt_cmp (pc_din (hu_of hr) (pv 2) (pv 4)) rfl) (pss_cons (ps_set (i := 3) sc.nd rfl (.inl rfl) (C8.pe_c c_one_way_more hr (by decide) (by rfl) (pa_cons (pv 0) (pa_cons (pv 3) (pa_cons (pv 4) (pa_cons (pv 1) (pa_cons (pv 2) pa_nil)))))))
      (pss_one (ps_set (i := 4) sc.nd rfl (.inl rfl) (C8.pe_c c_comings hr (by decide) (by rfl) (pa_cons (pv 0) (pa_cons (pv 3) (pa_cons (pv 1) pa_nil))))))))
      (pss_one (ps_ret (pv 3)))))), fun fd' xs Φ h => ?_⟩
  obtain ⟨ws, b, g, rfl, hl, ow, ob, bg, q⟩ := h
  refine ds_seq (ds_setz (de_dictP (da_cons (de_lst (da_nil ⟨[], rfl, szn rfl, da_nil ⟨[], rfl, ?_⟩⟩)))))
  refine ds_seq (ds_setz (de_call0 (da_cons (de_var rfl (da_cons (de_var rfl (da_cons (de_var rfl (da_nil ⟨ws, false, [], b, rfl, by omega, ow, ob, fun fs tr hr => ?_⟩)))))))))
  refine ds_seq (ds_whileW [] (fun m ρ' => ∃ T fs k, ρ' = [.fz (.d (wiD ws)), .fz (.d (.str b)), .fz (.d (.str g)), .fz (.dk false (tkD T)), .fz (.dk false (fdD fs))] ∧ Flow ws b g T k ∧ Tree ws T b fs ∧ (∀ x, x ∈ keys fs ↔ Reach ws T b x) ∧ m + k = ws.length) ws.length ⟨[], fs, 0, rfl, Flow.zero ws b g, tr, hr, rfl⟩ fun m ρ' hI => ?_)
  obtain ⟨T, fs, k, rfl, F, tr, hr, em⟩ := hI
  refine dt_b (de_din (de_var rfl (de_var rfl ⟨_, .inl ⟨false, fdD fs, .inr g, rfl, rfl, rfl⟩, _, rfl, ?_⟩)))
  rw [fdD_val]
  by_cases hg : g ∈ keys fs
  · rw [decide_eq_true hg]
    refine ds_seq (ds_setz (de_call0 (da_cons (de_var rfl (da_cons (de_var rfl (da_cons (de_var rfl (da_cons (de_var rfl (da_cons (de_var rfl (da_nil ⟨ws, T, fs, k, b, g, rfl, hl, F, tr, hg, fun late F2 => ?_⟩)))))))))))))
    refine ds_setz (de_call0 (da_cons (de_var rfl (da_cons (de_var rfl (da_cons (de_var rfl (da_nil ⟨ws, false, late, b, rfl, by omega, ow, ob, fun fs2 tr2 hr2 => ?_⟩))))))))
    have := F2.bound bg
    exact ⟨ws.length - (k + 1), by omega, late, fs2, k + 1, rfl, F2, tr2, hr2, by omega⟩
  · rw [decide_eq_false hg]
    exact ds_ret (de_var rfl (q T k ⟨F, fun r => hg ((hr g).mpr r)⟩))

/-! ### many_of -/
def L_many : Law := fun xs Φ => ∃ ws T k b g, xs = [.d (wiD ws), .dk false (tkD T), .d (.str b)] ∧ ws.length ≤ 30 ∧ b ≠ g ∧ Flow ws b g T k ∧ Φ (.d (.int (k : Nat)))
abbrev N_many_of : List Str := ["wires", "taken", "begin", "leaving", "index"]
theorem sc_many_of : FnScope N_many_of ["wires", "taken", "begin"] (defScope (top 7)) := ⟨rfl, rfl, rfl, by decide +kernel, rfl, by decide +kernel, by decide +kernel⟩
theorem c_many_of (T : Tx K mg C) (F : FnP K "many_of" (top 7) [] f fd) (g : mg "many_of" = some (.ref f)) : C8.Cal Pr w K mg base 1 "many_of" (mkSp K C L_many) [] := by
  have sc := sc_many_of
  refine calN F g (fun _ _ _ _ _ _ us hl => match us, hl with | [_, _, _], _ => rfl) (okD F sc (fun xs Φ h => by obtain ⟨ws, T, k, b, g, rfl, _⟩ := h; rfl) (fun cdv A outer s H E hr => ?_))
  refine ⟨_, (pss_cons (ps_set (i := 3) sc.nd rfl (.inl rfl) (pe_callB (call_lenK K) (by rfl) T.m_len boot_len (pa_cons (pe_lock (pe_lc (own := [("index", 4)]) rfl sc.nd (pi_keys (pv 1)) (blkOk_by (by exact rfl)) (fun _ _ _ _ _ => (pg_name (i := 4) sc.nd rfl (.inl rfl))) (fun _ _ _ _ _ => pts_one (pt_cmpR (op_eqK K hr) (pe_ix (ix_seqK K) (pe_ix (ix_seqK K) (pv 0) (pv 4) (fun _ _ => rfl)) pe_int (fun _ _ => rfl)) (pv 2) (nomark _))) (fun _ _ _ _ _ => (pv 4)))) pa_nil)))
      (pss_one (ps_ret (pe_op op_sub (pv 3) (pe_callB (call_lenK K) (by rfl) T.m_len boot_len (pa_cons (pe_lock (pe_lc (own := [("index", 4)]) rfl sc.nd (pi_keys (pv 1)) (blkOk_by (by exact rfl)) (fun _ _ _ _ _ => (pg_name (i := 4) sc.nd rfl (.inl rfl))) (fun _ _ _ _ _ => pts_one (pt_cmpR (op_eqK K hr) (pe_ix (ix_seqK K) (pe_ix (ix_seqK K) (pv 0) (pv 4) (fun _ _ => rfl)) pe_int (fun _ _ => rfl)) (pv 2) (nomark _))) (fun _ _ _ _ _ => (pv 4)))) pa_nil)))))), fun fd' xs Φ h => ?_⟩
  obtain ⟨ws, T, k, b, g, rfl, hl, bg, F, q⟩ := h
  have lT := ix_len F.toIx
  have cnt : ∀ (pr : Str × Str → Str), (T.filterMap fun (i : Nat) => if ws[i]?.map pr = some b then some (PyData.int (i : Int)) else none).length = (T.filter fun i => decide (ws[i]?.map pr = some b)).length := by
    intro pr
    clear q F lT hl
    induction T with
    | nil => rfl
    | cons i r ih =>
      rw [List.filterMap_cons, List.filter_cons]
      by_cases e : ws[i]?.map pr = some b
      · rw [if_pos e, decide_eq_true e, if_pos rfl, List.length_cons, List.length_cons, ih]
      · rw [if_neg e, decide_eq_false e, if_neg (by decide), ih]
  have em := F.many bg
  have ek : (tkD T).map (fun kv => Dv.d (keyP kv.1)) = T.map (fun (i : Nat) => Dv.d (.int (i : Int))) := by rw [tkD, List.map_map]; rfl
  refine ds_seq (ds_setz (de_cb (da_cons (de_lock (i := 1) (.inl ⟨_, rfl⟩) (de_lcA T (fun (i : Nat) => .d (.int (i : Int))) (fun (i : Nat) => if ws[i]?.map Prod.fst = some b then some (.int (i : Int)) else none) (di_keys (de_var rfl (.inl ⟨_, rfl, by rw [ek]; exact ⟨rfl, szs (by omega)⟩⟩))) (fun i hi => dg_name (by decide) (dt_test (de_ss (de_end (de_var rfl (de_var rfl ⟨ws, i, _, rfl, rfl, List.getElem?_eq_getElem (F.lt i hi), .inl ⟨rfl, de_var rfl ⟨_, b, rfl, rfl, _, rfl, ?_⟩⟩⟩)))))) ⟨_, rfl, da_nil (dc_len (.inl rfl) ?_)⟩)))))
  · have lt := F.lt i hi
    rw [List.getElem?_eq_getElem lt, Option.map_some]
    by_cases e : ws[i].1 = b
    · rw [decide_eq_true e, if_pos rfl, if_pos (by rw [e])]; exact de_var rfl ⟨_, rfl, rfl⟩
    · rw [decide_eq_false e, if_neg (by decide), if_neg (fun z => e (Option.some.inj z))]
  rw [cnt Prod.fst]
  refine ds_ret (de_op (de_var rfl (de_cb (da_cons (de_lock (i := 1) (.inl ⟨_, rfl⟩) (de_lcA T (fun (i : Nat) => .d (.int (i : Int))) (fun (i : Nat) => if ws[i]?.map Prod.snd = some b then some (.int (i : Int)) else none) (di_keys (de_var rfl (.inl ⟨_, rfl, by rw [ek]; exact ⟨rfl, szs (by omega)⟩⟩))) (fun i hi => dg_name (by decide) (dt_test (de_ss (de_end (de_var rfl (de_var rfl ⟨ws, i, _, rfl, rfl, List.getElem?_eq_getElem (F.lt i hi), .inr ⟨rfl, de_var rfl ⟨_, b, rfl, rfl, _, rfl, ?_⟩⟩⟩)))))) ⟨_, rfl, da_nil (dc_len (.inl rfl) (dop_i0 (g := fun i j => i - j) ?_))⟩))))))
  · have lt := F.lt i hi
    rw [List.getElem?_eq_getElem lt, Option.map_some]
    by_cases e : ws[i].2 = b
    · rw [decide_eq_true e, if_pos rfl, if_pos (by rw [e])]; exact de_var rfl ⟨_, rfl, rfl⟩
    · rw [decide_eq_false e, if_neg (by decide), if_neg (fun z => e (Option.some.inj z))]
  rw [cnt Prod.snd, em]
  exact q
end
end Z

/-! # ZF3 -/
set_option Elab.async false
set_option linter.all false
set_option maxRecDepth 100000
set_option maxHeartbeats 1000000
namespace Z
open PySem PySem.Spec PyProof.Rows L2 Fl
/-! ### sets of houses as dicts -/
def bkD (ks : List Str) : List (Key × PyData) := ks.map fun s => (.inr s, .bool true)
theorem bkD_any (ks : List Str) (y : Str) : ((bkD ks).any fun kv => decide (kv.1 = Sum.inr y)) = decide (y ∈ ks) := by
  induction ks with
  | nil => rfl
  | cons p r ih =>
    show (decide ((Sum.inr p : Key) = Sum.inr y) || (bkD r).any _) = _
    rw [ih]
    by_cases e : p = y
    · subst e; simp
    · have e2 : (Sum.inr p : Key) ≠ Sum.inr y := fun z => e (Sum.inr.inj z)
      rw [decide_eq_false e2, Bool.false_or]
      exact decide_eq_decide.mpr ⟨fun h => List.mem_cons_of_mem _ h, fun h => (List.mem_cons.mp h).elim (fun z => absurd z.symm e) id⟩
theorem bkD_val (ks : List Str) (y : Str) : (valD (bkD ks) (Sum.inr y)).isSome = decide (y ∈ ks) := by rw [valD_some, bkD_any]
theorem bkD_put {ks : List Str} {y : Str} (h : y ∉ ks) : putD (bkD ks) (Sum.inr y) (.bool true) = bkD (ks ++ [y]) := by
  unfold putD
  rw [bkD_any, if_neg (by simpa using h)]
  simp [bkD]
theorem back_ends {ws : List (Str × Str)} {T : List Nat} {g x : Str} (r : Reach ws T x g) : x ∈ ends ws g := by
  have : ∀ z, Reach ws T x z → z ∈ ends ws g → x ∈ ends ws g := by
    intro z r
    induction r with
    | refl => exact id
    | @step i y z _ s ih =>
      intro _
      refine ih ?_
      rcases s with ⟨e, _⟩ | ⟨e, _⟩
      · have := (mem_ends (b := g) e).1; exact this
      · have := (mem_ends (b := g) e).2; exact this
  exact this g r (by unfold ends; exact List.mem_cons_self)
theorem back_len {ws : List (Str × Str)} {T : List Nat} {g : Str} {ks : List Str} (nd : ks.Nodup) (h : ∀ x ∈ ks, Reach ws T x g) : ks.length ≤ 2 * ws.length + 1 := by
  have h := nodup_le nd (m := ends ws g) fun x hx => back_ends (h x hx)
  rwa [ends_len] at h
theorem back_ok {ws : List (Str × Str)} {T : List Nat} {g x : Str} (ow : OkW ws) (og : OkS g) (r : Reach ws T x g) : OkS x := by
  have h := back_ends r
  unfold ends at h
  rcases List.mem_cons.mp h with rfl | h
  · exact og
  · obtain ⟨e, he, h⟩ := List.mem_flatMap.mp h
    rcases List.mem_cons.mp h with rfl | h
    · exact (ow e he).1
    · rcases List.mem_cons.mp h with rfl | h
      · exact (ow e he).2
      · exact nomatch h

/-! ### least_side -/
def L_least : Law := fun xs Φ => ∃ ws b g, xs = [.d (wiD ws), .d (.str b), .d (.str g)] ∧ ws.length ≤ 30 ∧ OkW ws ∧ OkS b ∧ OkS g ∧ b ≠ g ∧ ∀ T k ys, MaxFlow ws b g T k → sortedS ys = true → ys.Nodup → (∀ x, x ∈ ys ↔ Reach ws T x g) → Φ (.d (.tuple (ys.map .str)))
abbrev N_least_side : List Str := ["wires", "begin", "goal", "taken", "found", "rest", "here", "house"]
theorem sc_least_side : FnScope N_least_side ["wires", "begin", "goal"] (defScope (top 8)) := ⟨rfl, rfl, rfl, by decide +kernel, rfl, by decide +kernel, by decide +kernel⟩
section
variable {Pr : Program} {w : World} {K : PySem.W.Frag} {mg : Str → Option Value} {base : Heap} {C : Addr} {f : Addr} {fd : FuncData}
theorem c_least_side (T : Tx K mg C) (c_taken_by : C8.Cal Pr w K mg base 3 "taken_by" (mkSp K C L_taken) []) (c_steps_before : C8.Cal Pr w K mg base 1 "steps_before" (mkSp K C L_before) []) (F : FnP K "least_side" (top 8) [] f fd) (g : mg "least_side" = some (.ref f)) : C8.Cal Pr w K mg base 4 "least_side" (mkSp K C L_least) [] := by
  have sc := sc_least_side
  refine calN F g (fun _ _ _ _ _ _ us hl => match us, hl with | [_, _, _], _ => rfl) (okD F sc (fun xs Φ h => by obtain ⟨ws, b, g, rfl, _⟩ := h; rfl) (fun cdv A outer s H E hr => ?_))
  refine ⟨_, (pss_cons (ps_set (i := 3) sc.nd rfl (.inl rfl) (C8.pe_c c_taken_by hr (by decide) (by rfl) (pa_cons (pv 0) (pa_cons (pv 1) (pa_cons (pv 2) pa_nil)))))
      (pss_cons (ps_set (i := 4) sc.nd rfl (.inl rfl) (pe_callTy (call_dictK K) (by rfl) T.m_dict boot_dict (pa_cons (pe_lst (pa_cons (pe_tup (pa_cons (pv 2) (pa_cons pe_bl pa_nil))) pa_nil)) pa_nil)))
      (pss_cons (ps_set (i := 5) sc.nd rfl (.inl rfl) (pe_lst (pa_cons (pv 2) pa_nil)))
      (pss_cons (ps_while PassesOwn.never (pt_cmpR (op_neK K hr) (pv 5) (pe_lst pa_nil) (nomark _)) (pss_cons (ps_set (i := 6) sc.nd rfl (.inl rfl) (pe_bm0 PySem.F.plainAttrs_list PySem.F.slot_list_pop PySem.F.type_list_pop mt_pop (pv 5)))
      (pss_one (ps_for PassesOwn.never rfl (pi_listK K (C8.pe_c c_steps_before hr (by decide) (by rfl) (pa_cons (pv 0) (pa_cons (pv 3) (pa_cons (pv 6) pa_nil))))) (pg_name (i := 7) sc.nd rfl (.inl rfl)) (pss_one (ps_if (pt_cmp (pc_dnotin (hu_of hr) (pv 7) (pv 4)) rfl) (pss_cons (ps_dput (hu_of hr) (pv 4) (pv 7) pe_bl rfl)
      (pss_one (ps_expr (pe_bm PySem.F.plainAttrs_list PySem.F.slot_list_append PySem.F.type_list_append mt_append (pv 5) (pa_cons (pv 7) pa_nil))))) pss_nil))))))
      (pss_one (ps_ret (pe_callTy (call_tupK K) (by rfl) T.m_tuple boot_tuple (pa_cons (pe_callB (call_sortedD rfl) (by rfl) T.m_sorted boot_sorted (pa_cons (pv 4) pa_nil)) pa_nil)))))))), fun fd' xs Φ h => ?_⟩
  obtain ⟨ws, b, g, rfl, hl, ow, ob, og, bg, q⟩ := h
  refine ds_seq (ds_setz (de_call0 (da_cons (de_var rfl (da_cons (de_var rfl (da_cons (de_var rfl (da_nil ⟨ws, b, g, rfl, hl, ow, ob, bg, fun T k M => ?_⟩)))))))))
  let V0 : En := .fz (.d (wiD ws))
  let V1 : En := .fz (.d (.str b))
  let V2 : En := .fz (.d (.str g))
  let V3 : En := .fz (.dk false (tkD T))
  let R : Str → Str → Prop := fun x y => ∃ i, Fl.Step ws T i y x
  refine ds_seq (ds_set (dw_dictP (da_cons (de_lst (da_cons (de_tup (da_cons (de_var rfl (da_cons (de_bl (da_nil ⟨[.str g, .bool true], rfl, szn rfl, da_nil ⟨[.tuple [.str g, .bool true]], rfl, szn rfl, da_nil ⟨[(.inr g, .bool true)], rfl, ?_⟩⟩⟩)))))))))))
  refine ds_seq (ds_set (dw_lst (da_cons (de_var rfl (da_nil ⟨[.str g], rfl, szn rfl, ?_⟩)))))
  refine ds_seq (ds_whileW [6, 7] (fun m ρ' => ∃ ks rest, ρ' = [V0, V1, V2, V3, .od (bkD ks), .ol (rest.map .str), .un, .un] ∧ (∀ x ∈ ks, Reach ws T x g) ∧ Srch R g ks rest ∧ rest.length ≤ ks.length ∧ m = 2 * (2 * ws.length + 1 - ks.length) + rest.length) (2 * (2 * ws.length + 1 - 1) + 1)
    ⟨[g], [g], rfl, fun x hx => by rw [List.mem_singleton.mp hx]; exact .refl, Srch.start, Nat.le_refl _, rfl⟩ fun m ρ' hI => ?_)
  obtain ⟨ks, rest, rfl, tr, sr, lr, em⟩ := hI
  refine dt_lend (dt_test (de_nnil (de_var rfl (de_lst (da_nil ⟨[], rfl, szn rfl, rest.map .str, rfl, shaped_strs (fun s hs => back_ok ow og (tr s (sr.sub s hs))), rfl, _, rfl, ?_⟩)))))
  rcases nil_or_snoc rest with rfl | ⟨r, x, rfl⟩
  · show Ds _ _ _ _ _
    have ln := back_len sr.nd tr
    refine ds_frz (ds_ret (de_cb (da_cons (de_cb (da_cons (de_var rfl (da_nil (dc_sortD (ks := ks) ?_ (by omega) fun ys hp hs => da_nil (dc_tupL ?_)))))))))
    · rw [bkD, List.map_map]; rfl
    · refine q T k ys M hs (hp.nodup_iff.mpr sr.nd) fun x => ⟨fun hx => tr x (hp.mem_iff.mp hx), fun rc => hp.mem_iff.mpr (reach_back sr.fst (fun x hx y hy => sr.all x hx y hy) rc)⟩
  · rw [List.length_append, List.length_singleton] at lr
    have e1 : (r ++ [x]).map PyData.str = r.map .str ++ [.str x] := by rw [List.map_append]; rfl
    rw [if_pos (by simp)]
    refine ds_seq (ds_popL (ds := r.map .str) (d := .str x) (congrArg (fun z => some (En.ol z)) e1) rfl ?_)
    have s1 := sr.pop
    refine ds_forW [7] (fun i ρ2 => ∃ fs2 r2, ρ2 = [V0, V1, V2, V3, .od (bkD fs2), .ol (r2.map .str), .fz (.d (.str x)), .un] ∧ (∀ x ∈ fs2, Reach ws T x g) ∧ SrchIn R g x fs2 r2 ∧ fs2.length + r.length = ks.length + r2.length ∧ ks.length ≤ fs2.length ∧ ∀ (j : Nat) (p : Str), j < i → (stepsBefore ws T x)[j]? = some p → p ∈ fs2) ?_
    refine di_list (de_call0 (da_cons (de_var rfl (da_cons (de_var rfl (da_cons (de_var rfl (da_nil ⟨ws, _, T, x, rfl, by omega, _, rfl, [7], ⟨ks, r, rfl, tr, s1, rfl, Nat.le_refl _, fun j p h => absurd h (Nat.not_lt_zero _)⟩, ?_, ?_⟩))))))))
    · rintro i v ρ2 hv ⟨fs2, r2, rfl, tr2, s2, el, le, all⟩
      rw [List.map_map, List.getElem?_map] at hv
      cases hp : (stepsBefore ws T x)[i]? with
      | none => rw [hp] at hv; exact nomatch hv
      | some p =>
        rw [hp] at hv; cases hv
        obtain ⟨si, st⟩ := mem_stepsBefore.mp (List.mem_of_getElem? hp)
        refine dg_name (by decide) ?_
        refine ds_if (dt_lend (dt_b (de_dnotin (de_var rfl (de_var rfl ⟨_, .inl ⟨false, bkD fs2, .inr p, rfl, rfl, rfl⟩, _, rfl, ?_⟩)))))
        rw [bkD_val]
        by_cases hin : p ∈ fs2
        · rw [decide_eq_true hin]
          refine ds_next ⟨fs2, r2, rfl, tr2, s2, el, le, fun j p' hj hj' => ?_⟩
          rcases Nat.lt_succ_iff_lt_or_eq.mp hj with h | rfl
          · exact all j p' h hj'
          · rw [hp] at hj'; cases hj'; exact hin
        · rw [decide_eq_false hin]
          have tr3 : ∀ y ∈ fs2 ++ [p], Reach ws T y g := fun y hy => by
            rcases List.mem_append.mp hy with h | h
            · exact tr2 y h
            · rw [List.mem_singleton.mp h]; exact (tr2 x s2.me).head st
          have s3 := s2.push hin
          have ln := back_len s3.nd tr3
          rw [List.length_append, List.length_singleton] at ln
          refine ds_seq (ds_dput (kvs := bkD fs2) rfl rfl (de_bl (de_var rfl ⟨.inr p, .bool true, rfl, rfl, ?_, ?_⟩)))
          · rw [bkD, List.length_map]; exact szs (by omega)
          rw [bkD_put hin]
          refine ds_append (ds := r2.map .str) rfl rfl (de_var rfl ⟨.str p, rfl, ?_, ?_⟩)
          · rw [List.length_map]; exact szs (by omega)
          have e2 : r2.map PyData.str ++ [.str p] = (r2 ++ [p]).map .str := by rw [List.map_append]; rfl
          rw [e2]
          refine ⟨fs2 ++ [p], r2 ++ [p], rfl, tr3, s3, ?_, ?_, fun j p' hj hj' => ?_⟩
          · simp only [List.length_append, List.length_singleton]; omega
          · rw [List.length_append]; omega
          · rcases Nat.lt_succ_iff_lt_or_eq.mp hj with h | rfl
            · exact List.mem_append_left _ (all j p' h hj')
            · rw [hp] at hj'; cases hj'; exact List.mem_append_right _ (by simp)
    · rintro ρ2 ⟨fs2, r2, rfl, tr2, s2, el, le, all⟩
      have ln := back_len s2.nd tr2
      refine ⟨2 * (2 * ws.length + 1 - fs2.length) + r2.length, ?_, fs2, r2, rfl, tr2, s2.done (fun y hy => ?_), by omega, rfl⟩
      · rw [em, List.length_append, List.length_singleton]; omega
      · obtain ⟨j, hj, hj'⟩ := List.getElem_of_mem (mem_stepsBefore.mpr hy)
        have lj : j < (((stepsBefore ws T x).map PyData.str).map Dv.d).length := by rw [List.length_map, List.length_map]; exact hj
        exact all j y lj (by rw [List.getElem?_eq_getElem hj, hj'])

/-! ### greatest_side -/
def hoD (hs : List Str) : PyData := .tuple (hs.map .str)
def L_greatest : Law := fun xs Φ => ∃ hs ws b g, xs = [.d (hoD hs), .d (wiD ws), .d (.str b), .d (.str g)] ∧ hs.length ≤ 1000 ∧ ws.length ≤ 30 ∧ OkW ws ∧ OkS b ∧ b ≠ g ∧ ∀ T k (p : Str → Bool), MaxFlow ws b g T k → (∀ x, p x = true ↔ ¬ Reach ws T b x) → Φ (.d (hoD (hs.filter p)))
abbrev N_greatest_side : List Str := ["houses", "wires", "begin", "goal", "found", "house"]
theorem sc_greatest_side : FnScope N_greatest_side ["houses", "wires", "begin", "goal"] (defScope (top 9)) := ⟨rfl, rfl, rfl, by decide +kernel, rfl, by decide +kernel, by decide +kernel⟩
theorem c_greatest_side (T : Tx K mg C) (c_taken_by : C8.Cal Pr w K mg base 3 "taken_by" (mkSp K C L_taken) []) (c_comings : C8.Cal Pr w K mg base 2 "comings" (mkSp K C L_comings) []) (F : FnP K "greatest_side" (top 9) [] f fd) (g : mg "greatest_side" = some (.ref f)) : C8.Cal Pr w K mg base 4 "greatest_side" (mkSp K C L_greatest) [] := by
  have sc := sc_greatest_side
  refine calN F g (fun _ _ _ _ _ _ us hl => match us, hl with | [_, _, _, _], _ => rfl) (okD F sc (fun xs Φ h => by obtain ⟨hs, ws, b, g, rfl, _⟩ := h; rfl) (fun cdv A outer s H E hr => ?_))
  refine ⟨_, (pss_cons (ps_set (i := 4) sc.nd rfl (.inr rfl) (C8.pe_c c_comings hr (by decide) (by rfl) (pa_cons (pv 1) (pa_cons (C8.pe_c c_taken_by hr (by decide) (by rfl) (pa_cons (pv 1) (pa_cons (pv 2) (pa_cons (pv 3) pa_nil)))) (pa_cons (pv 2) pa_nil)))))
      (pss_one (ps_ret (pe_callTy (call_tupK K) (by rfl) T.m_tuple boot_tuple (pa_cons (pe_lc (own := [("house", 5)]) rfl sc.nd (pi_tupK K (pv 0)) (blkOk_by (by exact rfl)) (fun _ _ _ _ _ => (pg_name (i := 5) sc.nd rfl (.inl rfl))) (fun _ _ _ _ _ => pts_one (pt_cmp (pc_dnotin (hu_of hr) (pv 5) (pv 4)) rfl)) (fun _ _ _ _ _ => (pv 5))) pa_nil))))), fun fd' xs Φ h => ?_⟩
  obtain ⟨hs, ws, b, g, rfl, hh, hl, ow, ob, bg, q⟩ := h
  refine ds_seq (ds_setz (de_call0 (da_cons (de_var rfl (da_cons (de_call0 (da_cons (de_var rfl (da_cons (de_var rfl (da_cons (de_var rfl (da_nil ⟨ws, b, g, rfl, hl, ow, ob, bg, fun T k M => da_cons (de_var rfl (da_nil ⟨ws, _, T, b, rfl, by omega, ow, ob, fun fs tr hr => ?_⟩))⟩)))))))))))))
  refine ds_ret (de_cb (da_cons (de_lcA hs (fun s => .d (.str s)) (fun s => if s ∈ keys fs then none else some (.str s)) (di_tup (de_var rfl ⟨hs.map .str, rfl, by rw [List.map_map]; rfl, szs (by omega)⟩)) (fun s hs' => dg_name (by decide) (dt_b (de_dnotin (de_var rfl (de_var rfl ⟨_, .inl ⟨false, fdD fs, .inr s, rfl, rfl, rfl⟩, _, rfl, ?_⟩))))) (da_nil (dc_tupL ?_)))))
  · rw [fdD_val]
    by_cases e : s ∈ keys fs
    · rw [decide_eq_true e]; exact if_pos e
    · rw [decide_eq_false e]; exact de_var rfl ⟨_, rfl, if_neg e⟩
  · have h2 := q T k (fun x => !decide (x ∈ keys fs)) M fun x => by rw [← hr x]; simp
    have e : hs.filterMap (fun s => if s ∈ keys fs then none else some (PyData.str s)) = (hs.filter fun x => !decide (x ∈ keys fs)).map .str := by
      clear q h2 hh
      induction hs with
      | nil => rfl
      | cons s r ih =>
        rw [List.filterMap_cons, List.filter_cons]
        by_cases e : s ∈ keys fs
        · rw [if_pos e, decide_eq_true e, ih]; rfl
        · rw [if_neg e, decide_eq_false e]; exact congrArg _ ih
    rw [e]; exact h2

/-! ### shortened -/
def ixD (r : List Nat) : List PyData := r.map fun (i : Nat) => .int (i : Int)
def L_short : Law := fun xs Φ => ∃ ws row x, xs = [.d (wiD ws), .d (.list (ixD row)), .d (.str x)] ∧ (∀ i ∈ row, i < ws.length) ∧ row.length ≤ 1000 ∧ Φ (.d (.list (ixD (row.takeWhile fun i => !decide (ws[i]?.map Prod.fst = some x)))))
abbrev N_shortened : List Str := ["wires", "row", "here", "k", "index"]
theorem sc_shortened : FnScope N_shortened ["wires", "row", "here"] (defScope (top 10)) := ⟨rfl, rfl, rfl, by decide +kernel, rfl, by decide +kernel, by decide +kernel⟩
theorem takeWhile_cut {p : Nat → Bool} : ∀ {row : List Nat} {k i : Nat}, row[k]? = some i → p i = false → (∀ j l, j < k → row[j]? = some l → p l = true) → row.takeWhile p = row.take k
  | [], _, _, h, _, _ => nomatch h
  | a :: r, 0, i, h, hp, _ => by cases h; rw [List.takeWhile_cons, hp]; rfl
  | a :: r, k + 1, i, h, hp, hq => by
    rw [List.takeWhile_cons, hq 0 a (by omega) rfl, List.take_succ_cons]
    show a :: _ = a :: _
    rw [takeWhile_cut (row := r) h hp fun j l hj hl => hq (j + 1) l (by omega) hl]
theorem takeWhile_all {p : Nat → Bool} : ∀ {row : List Nat}, (∀ j l : Nat, row[j]? = some l → p l = true) → row.takeWhile p = row
  | [], _ => rfl
  | a :: r, h => by rw [List.takeWhile_cons, h 0 a rfl, takeWhile_all (row := r) fun j l hl => h (j + 1) l hl]; rfl
theorem c_shortened (T : Tx K mg C) (F : FnP K "shortened" (top 10) [] f fd) (g : mg "shortened" = some (.ref f)) : C8.Cal Pr w K mg base 1 "shortened" (mkSp K C L_short) [] := by
  have sc := sc_shortened
  refine calN F g (fun _ _ _ _ _ _ us hl => match us, hl with | [_, _, _], _ => rfl) (okD F sc (fun xs Φ h => by obtain ⟨ws, row, x, rfl, _⟩ := h; rfl) (fun cdv A outer s H E hr => ?_))
  refine ⟨_, (pss_cons (ps_for PassesOwn.never rfl (pi_enumK K (by rfl) T.m_enumerate (pa_cons (pv 1) pa_nil)) (pg_tupK K 2 (pgs_cons (pg_name (i := 3) sc.nd rfl (.inl rfl)) (pgs_cons (pg_name (i := 4) sc.nd rfl (.inl rfl)) pgs_nil))) (pss_one (ps_if (pt_cmpR (op_eqK K hr) (pe_ix (ix_seqK K) (pe_ix (ix_seqK K) (pv 0) (pv 4) (fun _ _ => rfl)) pe_int (fun _ _ => rfl)) (pv 2) (nomark _)) (pss_one (ps_ret (pe_slice (sl_anyK K) (pv 1) po_none (po_some (pv 3))))) pss_nil)))
      (pss_one (ps_ret (pv 1)))), fun fd' xs Φ h => ?_⟩
  obtain ⟨ws, row, x, rfl, hi, hl, q⟩ := h
  refine ds_seq (ds_forW [3, 4] (fun i ρ' => ρ' = [.fz (.d (wiD ws)), .fz (.d (.list (ixD row))), .fz (.d (.str x)), .un, .un] ∧ ∀ (j l : Nat), j < i → row[j]? = some l → (!decide (ws[l]?.map Prod.fst = some x)) = true)
    (di_enum (da_cons (de_var rfl (da_nil ⟨ixD row, rfl, [3, 4], ⟨rfl, fun j l h => absurd h (Nat.not_lt_zero _)⟩, ?_, ?_⟩)))))
  · rintro i v ρ2 hv ⟨rfl, hq⟩
    rw [List.getElem?_map, enumD_at, ixD, List.getElem?_map] at hv
    cases hp : row[i]? with
    | none => rw [hp] at hv; exact nomatch hv
    | some l =>
      rw [hp] at hv; cases hv
      have ll := hi l (List.mem_of_getElem? hp)
      refine dg2 (by decide) (by decide) (ds_if (dt_test (de_ss (de_end (de_var rfl (de_var rfl ⟨ws, l, _, rfl, rfl, List.getElem?_eq_getElem ll, .inl ⟨rfl, de_var rfl ⟨_, x, rfl, rfl, _, rfl, ?_⟩⟩⟩))))))
      by_cases e : ws[l].1 = x
      · rw [decide_eq_true e]
        refine ds_ret (de_sl (de_var rfl (dp_none (dp_some (de_var rfl ⟨_, rfl, ixD row, .inl ⟨rfl, ?_⟩⟩)))))
        have hk := (List.getElem?_eq_some_iff.mp hp).1
        have e2 : cutD (ixD row) none (some (i : Int)) = ixD (row.take i) := by
          unfold cutD
          rw [HT.sIx_none, HT.sIx_nat, ixD, List.length_map, Nat.min_eq_left (by omega), List.drop_zero, Nat.sub_zero, ← List.map_take]; rfl
        rw [e2]
        rw [takeWhile_cut hp (by rw [List.getElem?_eq_getElem ll, Option.map_some, e]; simp) hq] at q
        exact q
      · rw [decide_eq_false e]
        refine ds_next ⟨rfl, fun j l' hj hl' => ?_⟩
        rcases Nat.lt_succ_iff_lt_or_eq.mp hj with h | rfl
        · exact hq j l' h hl'
        · rw [hp] at hl'; cases hl'
          rw [List.getElem?_eq_getElem ll, Option.map_some]
          simp [e]
  · rintro ρ2 ⟨rfl, hq⟩
    refine ds_ret (de_var rfl ?_)
    rw [takeWhile_all fun j l hl => hq j l (by rw [List.length_map, enumD_len, ixD, List.length_map]; exact (List.getElem?_eq_some_iff.mp hl).1) hl] at q
    exact q
end
end Z

/-! # ZF4 -/
set_option Elab.async false
set_option linter.all false
set_option maxRecDepth 100000
set_option maxHeartbeats 1000000
namespace Z
open PySem PySem.Spec PyProof.Rows L2 Fl
theorem tw_split {p : Nat → Bool} : ∀ q : List Nat, (q.takeWhile p = q ∧ ∀ i ∈ q, p i = true) ∨ ∃ (k : Nat) (i : Nat), q[k]? = some i ∧ p i = false ∧ q.takeWhile p = q.take k
  | [] => .inl ⟨rfl, fun _ h => nomatch h⟩
  | a :: r => by
    cases e : p a with
    | false => exact .inr ⟨0, a, rfl, e, by rw [List.takeWhile_cons, e]; rfl⟩
    | true =>
      rcases tw_split (p := p) r with ⟨h1, h2⟩ | ⟨k, i, h1, h2, h3⟩
      · exact .inl ⟨by rw [List.takeWhile_cons, e, h1]; rfl, fun i hi => (List.mem_cons.mp hi).elim (fun z => z ▸ e) (h2 i)⟩
      · exact .inr ⟨k + 1, i, h1, h2, by rw [List.takeWhile_cons, e, h3]; rfl⟩
theorem way_short {ws : List (Str × Str)} {b y : Str} {q : List Nat} (p : Path ws b q y) (nd : (tails ws q).Nodup) : Way ws b (q.takeWhile fun i => !decide (ws[i]?.map Prod.fst = some y)) y := by
  rcases tw_split (p := fun i => !decide (ws[i]?.map Prod.fst = some y)) q with ⟨h1, h2⟩ | ⟨k, i, h1, h2, h3⟩
  · rw [h1]
    exact Way.uncut p nd fun i hi e => by have := h2 i hi; simp [e] at this
  · rw [h3]
    have e : ws[i]?.map Prod.fst = some y := by simpa using h2
    cases e0 : ws[i]? with
    | none => rw [e0] at e; exact nomatch e
    | some pr =>
      rw [e0] at e
      obtain ⟨a, c⟩ := pr
      have : a = y := Option.some.inj e
      subst this
      exact Way.cut p nd h1 e0
theorem way_nd {ws : List (Str × Str)} {b y : Str} {r : List Nat} (w : Way ws b r y) : r.Nodup := by
  have h := w.nd
  unfold tails at h
  exact List.Pairwise.of_map (S := (· ≠ ·)) (fun i => ws[i]?.map Prod.fst) (fun a b h e => h (by rw [e])) h
theorem way_len {ws : List (Str × Str)} {b y : Str} {r : List Nat} (w : Way ws b r y) : r.length ≤ ws.length := by
  have h := nodup_le (way_nd w) (m := List.range ws.length) fun x hx => List.mem_range.mpr (w.path.lt x hx)
  rwa [List.length_range] at h
def inI (r : List Nat) : List Int := r.map fun (i : Nat) => (i : Int)
theorem ixD_in (r : List Nat) : ixD r = (inI r).map .int := by rw [ixD, inI, List.map_map]; rfl
theorem erase_at : ∀ {r : List Nat} {i : Nat}, i ∈ r → ∃ j, (inI r)[j]? = some (i : Int) ∧ (∀ m, m < j → (inI r)[m]? ≠ some (i : Int)) ∧ (inI r).eraseIdx j = inI (r.erase i)
  | [], _, h => nomatch h
  | a :: r, i, h => by
    by_cases e : a = i
    · subst e
      exact ⟨0, rfl, fun m h => absurd h (Nat.not_lt_zero _), by rw [List.erase_cons_head]; rfl⟩
    · have hr : i ∈ r := (List.mem_cons.mp h).elim (fun z => absurd z.symm e) id
      obtain ⟨j, h1, h2, h3⟩ := erase_at hr
      refine ⟨j + 1, h1, fun m hm => ?_, ?_⟩
      · cases m with
        | zero => intro z; exact e (by have z2 : (a : Int) = (i : Int) := Option.some.inj z; omega)
        | succ m => exact h2 m (by omega)
      · rw [List.erase_cons_tail (by simpa using e)]
        show ((a : Int) :: (inI r)).eraseIdx (j + 1) = (a : Int) :: inI (r.erase i)
        rw [List.eraseIdx_cons_succ, h3]
/-! ### first_way -/
def L_first : Law := fun xs Φ => ∃ ws left b g k, xs = [.d (wiD ws), .d (.list (ixD left)), .d (.str b), .d (.str g)] ∧ ws.length ≤ 30 ∧ Flow ws b g left (k + 1) ∧
  ∀ way late, Way ws b way g → (∀ i ∈ way, i ∈ left ∧ i ∉ late) → (∀ i ∈ late, i ∈ left) → Flow ws b g late k → Φ (.d (.tuple [.tuple (ixD way), .list (ixD late)]))
abbrev N_first_way : List Str := ["wires", "left", "begin", "goal", "late", "row", "here", "index", "own"]
theorem sc_first_way : FnScope N_first_way ["wires", "left", "begin", "goal"] (defScope (top 11)) := ⟨rfl, rfl, rfl, by decide +kernel, rfl, by decide +kernel, by decide +kernel⟩
section
variable {Pr : Program} {w : World} {K : PySem.W.Frag} {mg : Str → Option Value} {base : Heap} {C : Addr} {f : Addr} {fd : FuncData}
theorem c_first_way (T : Tx K mg C) (c_shortened : C8.Cal Pr w K mg base 1 "shortened" (mkSp K C L_short) []) (F : FnP K "first_way" (top 11) [] f fd) (g : mg "first_way" = some (.ref f)) : C8.Cal Pr w K mg base 2 "first_way" (mkSp K C L_first) [] := by
  have sc := sc_first_way
  refine calN F g (fun _ _ _ _ _ _ us hl => match us, hl with | [_, _, _, _], _ => rfl) (okD F sc (fun xs Φ h => by obtain ⟨ws, left, b, g, k, rfl, _⟩ := h; rfl) (fun cdv A outer s H E hr => ?_))
  refine ⟨_, (pss_cons (ps_asg (pe_tup (pa_cons (pe_callTy (call_lstK K) (by rfl) T.m_list boot_list (pa_cons (pv 1) pa_nil)) (pa_cons (pe_lst pa_nil) (pa_cons (pv 2) pa_nil)))) (pg_tupK K 3 (pgs_cons (pg_name (i := 4) sc.nd rfl (.inl rfl)) (pgs_cons (pg_name (i := 5) sc.nd rfl (.inl rfl)) (pgs_cons (pg_name (i := 6) sc.nd rfl (.inr rfl)) pgs_nil)))))
      (pss_cons (ps_while PassesOwn.never (pt_cmpR (op_neK K hr) (pv 6) (pv 3) (nomark _)) (pss_cons (ps_set (i := 7) sc.nd rfl (.inl rfl) (pe_ix (ix_seqK K) (pe_lc (own := [("own", 8)]) rfl sc.nd (pi_listK K (pv 4)) (blkOk_by (by exact rfl)) (fun _ _ _ _ _ => (pg_name (i := 8) sc.nd rfl (.inl rfl))) (fun _ _ _ _ _ => pts_one (pt_cmpR (op_eqK K hr) (pe_ix (ix_seqK K) (pe_ix (ix_seqK K) (pv 0) (pv 8) (fun _ _ => rfl)) pe_int (fun _ _ => rfl)) (pv 6) (nomark _))) (fun _ _ _ _ _ => (pv 8))) pe_int (fun _ _ => rfl)))
      (pss_cons (ps_expr (pe_bm PySem.F.plainAttrs_list PySem.F.slot_list_remove PySem.F.type_list_remove mt_remove (pv 4) (pa_cons (pv 7) pa_nil)))
      (pss_cons (ps_set (i := 6) sc.nd rfl (.inr rfl) (pe_ix (ix_seqK K) (pe_ix (ix_seqK K) (pv 0) (pv 7) (fun _ _ => rfl)) pe_int (fun _ _ => rfl)))
      (pss_one (ps_set (i := 5) sc.nd rfl (.inl rfl) (C8.pe_c c_shortened hr (by decide) (by rfl) (pa_cons (pv 0) (pa_cons (pe_lst (StX.pa_star (pv 5) (pa_cons (pv 7) pa_nil))) (pa_cons (pv 6) pa_nil))))))))))
      (pss_one (ps_ret (pe_tup (pa_cons (pe_callTy (call_tupK K) (by rfl) T.m_tuple boot_tuple (pa_cons (pv 5) pa_nil)) (pa_cons (pv 4) pa_nil))))))), fun fd' xs Φ h => ?_⟩
  obtain ⟨ws, left, b, g, k, rfl, hl, F, q⟩ := h
  let V0 : En := .fz (.d (wiD ws))
  let V1 : En := .fz (.d (.list (ixD left)))
  let V2 : En := .fz (.d (.str b))
  let V3 : En := .fz (.d (.str g))
  refine ds_seq (ds_tup3 (dal_cons (dw_list (da_cons (de_var rfl (da_nil ⟨_, ixD left, rfl, .inl rfl, dal_cons (dw_of (de_lst (da_nil ⟨[], rfl, szn rfl, dal_cons (dw_of (de_var rfl (dal_nil ⟨_, _, _, rfl, ?_⟩)))⟩)))⟩))))))
  refine ds_seq (ds_whileW [7, 8] (fun m ρ' => ∃ late row x, ρ' = [V0, V1, V2, V3, .ol (ixD late), .fz (.d (.list (ixD row))), .fz (.d (.str x)), .un, .un] ∧ Rest ws b g (k + 1) x late ∧ Way ws b row x ∧ (∀ i ∈ row, i ∈ left ∧ i ∉ late) ∧ (∀ i ∈ late, i ∈ left) ∧ m = late.length) left.length
    ⟨left, [], b, rfl, Rest.start F, Way.nil ws b, fun i h => (nomatch h), fun i h => h, rfl⟩ fun m ρ' hI => ?_)
  obtain ⟨late, row, x, rfl, hR, hW, hd, hs, em⟩ := hI
  refine dt_test (de_nss (de_var rfl (de_var rfl ⟨x, g, rfl, rfl, _, rfl, ?_⟩)))
  by_cases hx : x = g
  · subst hx
    rw [decide_eq_true rfl]
    refine ds_frz (ds_ret (de_tup (da_cons (de_cb (da_cons (de_var rfl (da_nil (dc_tupL (da_cons (de_var rfl (da_nil ⟨[_, _], rfl, szn rfl, ?_⟩)))))))))))
    exact q row late hW hd hs hR.done
  · rw [decide_eq_false hx]
    have lL := ix_len hR.toIx
    have lR := way_len hW
    let fm : Nat → Option PyData := fun i => if ws[i]?.map Prod.fst = some x then some (.int (i : Int)) else none
    obtain ⟨i0, h0, e0⟩ := hR.next hx
    have first : ∀ {late : List Nat}, (∃ i ∈ late, ws[i]?.map Prod.fst = some x) → ∃ i1, i1 ∈ late ∧ ws[i1]?.map Prod.fst = some x ∧ (late.filterMap fm)[0]? = some (.int (i1 : Int)) := by
      intro late
      induction late with
      | nil => rintro ⟨_, h, _⟩; exact nomatch h
      | cons a r ih =>
        rintro ⟨i, hi, e⟩
        by_cases ea : ws[a]?.map Prod.fst = some x
        · exact ⟨a, List.mem_cons_self, ea, by rw [List.filterMap_cons]; simp [fm, ea]⟩
        · obtain ⟨i1, h1, h2, h3⟩ := ih ⟨i, (List.mem_cons.mp hi).elim (fun z => absurd (z ▸ e) ea) id, e⟩
          refine ⟨i1, List.mem_cons_of_mem _ h1, h2, ?_⟩
          rw [List.filterMap_cons]
          have : fm a = none := if_neg ea
          rw [this]; exact h3
    obtain ⟨i1, h1, e1, hf⟩ := first ⟨i0, h0, e0⟩
    have lt1 := hR.lt i1 h1
    obtain ⟨⟨t, y⟩, ew⟩ : ∃ e, ws[i1]? = some e := ⟨_, List.getElem?_eq_getElem lt1⟩
    rw [ew] at e1
    have et : t = x := Option.some.inj e1
    subst et
    refine ds_seq (ds_setz (de_lend (de_ix (de_lcA late (fun (i : Nat) => .d (.int (i : Int))) fm (di_list (de_var rfl ⟨ixD late, rfl, by rw [ixD, List.map_map]; rfl, szs (by omega)⟩)) (fun i hi => dg_name (by decide) (dt_test (de_ss (de_end (de_var rfl (de_var rfl ⟨ws, i, _, rfl, rfl, List.getElem?_eq_getElem (hR.lt i hi), .inl ⟨rfl, de_var rfl ⟨_, t, rfl, rfl, _, rfl, ?_⟩⟩⟩)))))) (de_int ⟨_, _, 0, .int (i1 : Int), rfl, rfl, .inl rfl, atI_nat (j := 0) hf, True.intro, ?_⟩)))))
    · have lt := hR.lt i hi
      by_cases e : ws[i].1 = t
      · rw [decide_eq_true e]; exact de_var rfl ⟨_, rfl, if_pos (by rw [List.getElem?_eq_getElem lt, Option.map_some, e])⟩
      · rw [decide_eq_false e]; exact if_neg (fun z => e (by rw [List.getElem?_eq_getElem lt, Option.map_some] at z; exact Option.some.inj z))
    obtain ⟨j, j1, j2, j3⟩ := erase_at h1
    refine ds_seq (ds_remove (ns := inI late) (congrArg (fun z => some (En.ol z)) (ixD_in late)) rfl (de_var rfl ⟨(i1 : Int), j, rfl, j1, j2, ?_⟩))
    rw [j3, ← ixD_in]
    refine ds_seq (ds_setz (de_end (de_var rfl (de_var rfl ⟨ws, i1, _, rfl, rfl, ew, .inr ⟨rfl, ?_⟩⟩))))
    obtain ⟨pp, nn⟩ := hW.path_snoc ew
    have allq : ∀ i ∈ row ++ [i1], i ∈ left ∧ i ∉ late.erase i1 := fun i hi => by
      rcases List.mem_append.mp hi with h | h
      · exact ⟨(hd i h).1, fun z => (hd i h).2 (List.mem_of_mem_erase z)⟩
      · rw [List.mem_singleton.mp h]; exact ⟨hs i1 h1, fun z => (List.Nodup.mem_erase_iff hR.nd).mp z |>.1 rfl⟩
    refine ds_setz (de_call0 (da_cons (de_var rfl (da_cons (de_lst (da_star (de_var rfl ⟨_, ixD row, rfl, .inl rfl, da_cons (de_var rfl (da_nil ⟨ixD (row ++ [i1]), ?_, ?_, da_cons (de_var rfl (da_nil ⟨ws, row ++ [i1], y, rfl, ?_, ?_, ?_⟩))⟩))⟩)))))))
    · rw [ixD, ixD, List.map_append, List.map_append]; rfl
    · rw [ixD, List.length_map, List.length_append, List.length_singleton]; exact szl (by omega)
    · exact fun i hi => F.lt i (allq i hi).1
    · rw [List.length_append, List.length_singleton]; omega
    · have hlen : (late.erase i1).length < late.length := by rw [List.length_erase_of_mem h1]; have := List.length_pos_of_mem h1; omega
      refine ⟨(late.erase i1).length, by omega, _, _, y, rfl, hR.go h1 ew, way_short pp nn, fun i hi => allq i ((List.takeWhile_sublist _).subset hi), fun i hi => hs i (List.mem_of_mem_erase hi), rfl⟩

/-! ### ways_of -/
def wyD (w : List Nat) : PyData := .tuple (ixD w)
def L_ways : Law := fun xs Φ => ∃ ws b g, xs = [.d (wiD ws), .d (.str b), .d (.str g)] ∧ ws.length ≤ 30 ∧ OkW ws ∧ OkS b ∧ b ≠ g ∧
  ∀ T k (wys : List (List Nat)), MaxFlow ws b g T k → wys.length = k → (∀ w ∈ wys, Way ws b w g) → wys.flatten.Nodup → Φ (.d (.tuple (wys.map wyD)))
abbrev N_ways_of : List Str := ["wires", "begin", "goal", "taken", "left", "found", "lap", "way"]
theorem sc_ways_of : FnScope N_ways_of ["wires", "begin", "goal"] (defScope (top 12)) := ⟨rfl, rfl, rfl, by decide +kernel, rfl, by decide +kernel, by decide +kernel⟩
theorem flow_perm {ws : List (Str × Str)} {b g : Str} {T U : List Nat} {k : Nat} (F : Flow ws b g T k) (p : U.Perm T) : Flow ws b g U k :=
  ⟨⟨p.nodup_iff.mpr F.nd, fun i hi => F.lt i (p.mem_iff.mp hi)⟩, fun f => by rw [pot_perm p, F.bal]⟩
theorem c_ways_of (T : Tx K mg C) (c_taken_by : C8.Cal Pr w K mg base 3 "taken_by" (mkSp K C L_taken) []) (c_many_of : C8.Cal Pr w K mg base 1 "many_of" (mkSp K C L_many) []) (c_first_way : C8.Cal Pr w K mg base 2 "first_way" (mkSp K C L_first) []) (F : FnP K "ways_of" (top 12) [] f fd) (g : mg "ways_of" = some (.ref f)) : C8.Cal Pr w K mg base 4 "ways_of" (mkSp K C L_ways) [] := by
  have sc := sc_ways_of
  refine calN F g (fun _ _ _ _ _ _ us hl => match us, hl with | [_, _, _], _ => rfl) (okD F sc (fun xs Φ h => by obtain ⟨ws, b, g, rfl, _⟩ := h; rfl) (fun cdv A outer s H E hr => ?_))
  refine ⟨_, (pss_cons (ps_set (i := 3) sc.nd rfl (.inl rfl) (C8.pe_c c_taken_by hr (by decide) (by rfl) (pa_cons (pv 0) (pa_cons (pv 1) (pa_cons (pv 2) pa_nil)))))
      (pss_cons (ps_par (i := 4) (j := 5) rfl sc.nd rfl rfl (by decide) rfl rfl (pa_cons (pe_callB (call_sortedDI rfl) (by rfl) T.m_sorted boot_sorted (pa_cons (pv 3) pa_nil)) (pa_cons (pe_lst pa_nil) pa_nil)) (by rfl))
      (pss_cons (ps_for PassesOwn.never rfl (pi_range1 (by rfl) T.m_range (pa_cons (C8.pe_c c_many_of hr (by decide) (by rfl) (pa_cons (pv 0) (pa_cons (pv 3) (pa_cons (pv 1) pa_nil)))) pa_nil)) (pg_name (i := 6) sc.nd rfl (.inl rfl)) (pss_cons (ps_asg (C8.pe_c c_first_way hr (by decide) (by rfl) (pa_cons (pv 0) (pa_cons (pv 4) (pa_cons (pv 1) (pa_cons (pv 2) pa_nil))))) (pg_tupK K 2 (pgs_cons (pg_name (i := 7) sc.nd rfl (.inl rfl)) (pgs_cons (pg_name (i := 4) sc.nd rfl (.inl rfl)) pgs_nil))))
      (pss_one (ps_expr (pe_bm PySem.F.plainAttrs_list PySem.F.slot_list_append PySem.F.type_list_append mt_append (pv 5) (pa_cons (pv 7) pa_nil))))))
      (pss_one (ps_ret (pe_callTy (call_tupK K) (by rfl) T.m_tuple boot_tuple (pa_cons (pv 5) pa_nil))))))), fun fd' xs Φ h => ?_⟩
  obtain ⟨ws, b, g, rfl, hl, ow, ob, bg, q⟩ := h
  refine ds_seq (ds_setz (de_call0 (da_cons (de_var rfl (da_cons (de_var rfl (da_cons (de_var rfl (da_nil ⟨ws, b, g, rfl, hl, ow, ob, bg, fun T k M => ?_⟩)))))))))
  have lT := ix_len M.toIx
  have kb := M.toFlow.bound bg
  refine ds_seq (ds_par (dal_cons (dw_of (de_cb (da_cons (de_var rfl (da_nil (dc_sortDI (ks := inI T) ?_ ?_ fun zs hp _ => dal_cons (dw_lst (da_nil ⟨[], rfl, szn rfl, dal_nil ⟨_, _, rfl, ?_⟩⟩))))))))))
  · rw [tkD, inI, List.map_map, List.map_map]; rfl
  · rw [inI, List.length_map]; omega
  obtain ⟨ys, rfl, hq⟩ : ∃ ys : List Nat, zs = inI ys ∧ ys.Perm T := by
    refine ⟨zs.map Int.toNat, ?_, ?_⟩
    · rw [inI, List.map_map]
      refine (List.map_id zs).symm.trans (List.map_congr_left fun z hz => ?_)
      have := hp.mem_iff.mp hz
      rw [inI] at this
      obtain ⟨i, _, rfl⟩ := List.mem_map.mp this
      rfl
    · have := hp.map Int.toNat
      rw [inI, List.map_map] at this
      rwa [show T.map (Int.toNat ∘ fun (i : Nat) => (i : Int)) = T from (List.map_congr_left fun i _ => rfl).trans (List.map_id T)] at this
  rw [← ixD_in]
  have F0 := flow_perm M.toFlow hq
  refine ds_seq (ds_forW [6, 7] (fun i ρ' => ∃ left wys, ρ' = [.fz (.d (wiD ws)), .fz (.d (.str b)), .fz (.d (.str g)), .fz (.dk false (tkD T)), .fz (.d (.list (ixD left))), .ol (wys.map wyD), .un, .un] ∧ Flow ws b g left (k - i) ∧ wys.length = i ∧ (∀ w ∈ wys, Way ws b w g) ∧ wys.flatten.Nodup ∧ ∀ w ∈ wys, ∀ j ∈ w, j ∉ left)
    (di_rng (da_cons (de_call0 (da_cons (de_var rfl (da_cons (de_var rfl (da_cons (de_var rfl (da_nil ⟨ws, T, k, b, g, rfl, hl, bg, M.toFlow, da_nil ⟨k, rfl, by omega, by omega, [6], ⟨ys, [], rfl, F0, rfl, fun w h => (nomatch h), List.nodup_nil, fun w h => (nomatch h)⟩, ?_, ?_⟩⟩)))))))))))
  · rintro i v ρ2 hv ⟨left, wys, rfl, F1, el, hw, nd, hdis⟩
    have hi : i < k := by
      have := (List.getElem?_eq_some_iff.mp hv).1
      simpa using this
    have ek : k - i = (k - i - 1) + 1 := by omega
    rw [ek] at F1
    refine dg_name (by decide) ?_
    refine ds_seq (ds_asg (vs := [7, 4]) (de_call0 (da_cons (de_var rfl (da_cons (de_var rfl (da_cons (de_var rfl (da_cons (de_var rfl (da_nil ⟨ws, left, b, g, k - i - 1, rfl, hl, F1, fun way late W hd hs F2 => ?_⟩)))))))))))
    refine dg2 (by decide) (by decide) ?_
    refine ds_append (ds := wys.map wyD) rfl rfl (de_var rfl ⟨wyD way, rfl, by rw [List.length_map]; exact szs (by omega), ?_⟩)
    have e2 : wys.map wyD ++ [wyD way] = (wys ++ [way]).map wyD := by rw [List.map_append]; rfl
    rw [e2]
    refine ⟨late, wys ++ [way], rfl, by rw [show k - (i + 1) = k - i - 1 by omega]; exact F2, by rw [List.length_append, el]; rfl, fun w hw' => ?_, ?_, fun w hw' j hj => ?_⟩
    · rcases List.mem_append.mp hw' with h | h
      · exact hw w h
      · rw [List.mem_singleton.mp h]; exact W
    · rw [List.flatten_append, List.nodup_append]
      refine ⟨nd, by simpa using way_nd W, fun a ha c hc e => ?_⟩
      subst e
      obtain ⟨w, hw1, hw2⟩ := List.mem_flatten.mp ha
      have hc : a ∈ way := by simpa using hc
      exact hdis w hw1 a hw2 (hd a hc).1
    · rcases List.mem_append.mp hw' with h | h
      · exact fun z => hdis w h j hj (hs j z)
      · rw [List.mem_singleton.mp h] at hj; exact (hd j hj).2
  · rintro ρ2 ⟨left, wys, rfl, F1, el, hw, nd, hdis⟩
    refine ds_frz (ds_ret (de_cb (da_cons (de_var rfl (da_nil (dc_tupL (q T k wys M (by rw [el]; simp) hw nd)))))))
end
end Z

/-! # ZK1 -/
set_option Elab.async false
set_option linter.all false
set_option maxRecDepth 100000
set_option maxHeartbeats 1000000
namespace Z
open PySem PySem.Spec PyProof.Rows L2 Fl
/-! ### names -/
def nameS (s : Str) : Bool := decide (0 < s.length) && decide (s.length < 9) && s.cps.toList.all fun c => decide (97 ≤ c) && decide (c ≤ 122)
def nameB : PyData → Bool
  | .str s => nameS s
  | _ => false
def Sm (x : PyData) : Prop := ∀ s, x = .str s → s.length ≤ 100000
theorem lex1 (a b : Nat) : decide ([a] < [b]) = decide (a < b) := by
  refine decide_eq_decide.mpr ?_
  constructor
  · intro h
    cases h with
    | rel h => exact h
    | cons h => exact nomatch h
  · exact fun h => .rel h
def L_isname : Law := fun xs Φ => ∃ x, xs = [.d x] ∧ Sm x ∧ Φ (.d (.bool (nameB x)))
abbrev N_is_name : List Str := ["thing", "sign"]
theorem sc_is_name : FnScope N_is_name ["thing"] (defScope (top 22)) := ⟨rfl, rfl, rfl, by decide +kernel, rfl, by decide +kernel, by decide +kernel⟩
section
variable {Pr : Program} {w : World} {K : PySem.W.Frag} {mg : Str → Option Value} {base : Heap} {C : Addr} {f : Addr} {fd : FuncData}
theorem c_is_name (T : Tx K mg C) (F : FnP K "is_name" (top 22) [] f fd) (g : mg "is_name" = some (.ref f)) : C8.Cal Pr w K mg base 1 "is_name" (mkSp K C L_isname) [] := by
  have sc := sc_is_name
  refine calN F g (fun _ _ _ _ _ _ us hl => match us, hl with | [_], _ => rfl) (okD F sc (fun xs Φ h => by obtain ⟨x, rfl, _⟩ := h; rfl) (fun cdv A outer s H E hr => ?_))
  refine ⟨_, (pss_cons (ps_if (PW.pt (pw_or (pt_not (pt_val (pe_callB (call_isiK' K) (by rfl) T.m_isinstance boot_isinstance (pa_cons (pv 0) (pa_cons (pe_bltn (v := .ty "str") (by rfl) T.m_str boot_str rfl) pa_nil))))) (pw_or1 (pt_not (pt_chain op_ltA op_ltA pe_int (pe_callB (call_lenK K) (by rfl) T.m_len boot_len (pa_cons (pv 0) pa_nil)) pe_int))))) (pss_one (ps_ret pe_bl)) pss_nil)
      (pss_one (ps_ret (pe_callB (cr_allK K) (by rfl) T.m_all boot_all (pa_cons (pe_lc (own := [("sign", 1)]) rfl sc.nd (pi_str (pv 0)) (blkOk_by (by exact rfl)) (fun _ _ _ _ _ => (pg_name (i := 1) sc.nd rfl (.inl rfl))) (fun _ _ _ _ _ => pts_nil) (fun _ _ _ _ _ => (pe_chain op_leA op_leA pe_str (pv 1) pe_str))) pa_nil))))), fun fd' xs Φ h => ?_⟩
  obtain ⟨x, rfl, sm, q⟩ := h
  refine ds_seq (ds_if (dt_or (dt_not (dt_b (de_cb (da_cons (de_var rfl (da_cons (de_ty (da_nil (dc_isi (kit_str x) ⟨_, rfl, ?_⟩)))))))))))
  cases x with
  | str s =>
    show Dt _ _ _ _
    refine dt_not (dt_test (de_chain (de_int (de_cb (da_cons (de_var rfl (da_nil (dc_lens (szl (sm s rfl)) (DOp.inl (dop_b0 (g := fun i j => decide (i < j)) ⟨_, rfl, ?_⟩))))))))))
    have ret : (nameS s = false → Φ (.d (.bool false))) := fun e => by
      have : nameB (.str s) = false := e
      rw [this] at q; exact q
    by_cases h0 : (0 : Int) < (s.length : Nat)
    · rw [decide_eq_true h0]
      refine de_int (DOp.inl (dop_b0 (g := fun i j => decide (i < j)) ⟨_, rfl, ?_⟩))
      by_cases h9 : ((s.length : Nat) : Int) < 9
      · rw [decide_eq_true h9]
        show Ds _ _ _ _ _
        refine ds_next (ds_ret (de_cb (da_cons (de_lcB s.cps.toList (fun c => .d (.str ⟨#[c]⟩)) (fun c => .bool (decide (97 ≤ c) && decide (c ≤ 122))) (di_str (de_var rfl ⟨s, rfl, rfl, ?_⟩)) (fun c hc => dg_name (by decide) (de_chain (de_str (de_var rfl (DOp.inr (dop_lts (c := fun i j => !decide (j.cps.toList < i.cps.toList)) rfl ⟨_, rfl, ?_⟩)))))) (da_nil ?_)))))
        · have := sm s rfl
          rw [Array.length_toList]
          exact szs this
        · have e1 : (!decide ([c] < [97])) = decide (97 ≤ c) := by rw [lex1]; by_cases h : c < 97 <;> simp [h] <;> omega
          show if (!decide ([c] < [97])) = true then _ else _
          rw [e1]
          by_cases h : 97 ≤ c
          · rw [decide_eq_true h]
            refine de_str (DOp.inr (dop_lts (c := fun i j => !decide (j.cps.toList < i.cps.toList)) rfl ?_))
            show Dv.d (.bool (!decide ([122] < [c]))) = _
            rw [lex1]
            by_cases h2 : c ≤ 122
            · rw [decide_eq_true h2, decide_eq_false (by omega)]; rfl
            · rw [decide_eq_false h2, decide_eq_true (by omega)]; rfl
          · rw [decide_eq_false h]; rfl
        · have e1 : (s.cps.toList.map fun c => PyData.bool (decide (97 ≤ c) && decide (c ≤ 122))) = (s.cps.toList.map fun c => decide (97 ≤ c) && decide (c ≤ 122)).map .bool := by rw [List.map_map]; rfl
          rw [e1]
          refine dc_all ?_
          have e2 : nameB (.str s) = (s.cps.toList.map fun c => decide (97 ≤ c) && decide (c ≤ 122)).all id := by
            show nameS s = _
            unfold nameS
            rw [decide_eq_true (by omega : 0 < s.length), decide_eq_true (by omega : s.length < 9), List.all_map]
            rfl
          rw [← e2]; exact q
      · rw [decide_eq_false h9]
        show Ds _ _ _ _ _
        exact ds_ret (de_bl (ret (by unfold nameS; rw [decide_eq_false (by omega : ¬ s.length < 9)]; simp)))
    · rw [decide_eq_false h0, if_neg (by decide)]
      refine ⟨_, rfl, ?_⟩
      exact ds_ret (de_bl (ret (by unfold nameS; rw [decide_eq_false (by omega : ¬ 0 < s.length)]; simp)))
  | none => exact ds_ret (de_bl q)
  | bool => exact ds_ret (de_bl q)
  | int => exact ds_ret (de_bl q)
  | list => exact ds_ret (de_bl q)
  | tuple => exact ds_ret (de_bl q)
  | dict => exact ds_ret (de_bl q)

/-! ### is_integer, is_number, is_pair -/
def numB : PyData → Bool
  | .int i => decide (0 ≤ i)
  | _ => false
def L_isint : Law := fun xs Φ => ∃ x, xs = [.d x] ∧ Φ (.d (.bool (isInt x && !isBoo x)))
abbrev N_is_integer : List Str := ["thing"]
theorem sc_is_integer : FnScope N_is_integer ["thing"] (defScope (top 20)) := ⟨rfl, rfl, rfl, by decide +kernel, rfl, by decide +kernel, by decide +kernel⟩
theorem c_is_integer (T : Tx K mg C) (F : FnP K "is_integer" (top 20) [] f fd) (g : mg "is_integer" = some (.ref f)) : C8.Cal Pr w K mg base 1 "is_integer" (mkSp K C L_isint) [] := by
  have sc := sc_is_integer
  refine calN F g (fun _ _ _ _ _ _ us hl => match us, hl with | [_], _ => rfl) (okD F sc (fun xs Φ h => by obtain ⟨x, rfl, _⟩ := h; rfl) (fun cdv A outer s H E hr => ?_))
  refine ⟨_, (pss_one (ps_ret (pe_and (pe_callB (call_isiK' K) (by rfl) T.m_isinstance boot_isinstance (pa_cons (pv 0) (pa_cons (pe_bltn (v := .ty "int") (by rfl) T.m_int boot_int rfl) pa_nil))) (pe_one (pe_not (pe_callB (call_isiK' K) (by rfl) T.m_isinstance boot_isinstance (pa_cons (pv 0) (pa_cons (pe_bltn (v := .ty "bool") (by rfl) T.m_bool boot_bool rfl) pa_nil)))))))), fun fd' xs Φ h => ?_⟩
  obtain ⟨x, rfl, q⟩ := h
  refine ds_ret (de_and (de_cb (da_cons (de_var rfl (da_cons (de_ty (da_nil (dc_isi (kit_int x) ⟨_, rfl, ?_⟩))))))))
  cases e : isInt x with
  | true => rw [e] at q; exact de_not (de_cb (da_cons (de_var rfl (da_cons (de_ty (da_nil (dc_isi (kit_boo x) ⟨_, rfl, q⟩)))))))
  | false => rw [e] at q; exact q
def L_isnum : Law := fun xs Φ => ∃ x, xs = [.d x] ∧ Φ (.d (.bool (numB x)))
abbrev N_is_number : List Str := ["thing"]
theorem sc_is_number : FnScope N_is_number ["thing"] (defScope (top 21)) := ⟨rfl, rfl, rfl, by decide +kernel, rfl, by decide +kernel, by decide +kernel⟩
theorem c_is_number (T : Tx K mg C) (c_is_integer : C8.Cal Pr w K mg base 1 "is_integer" (mkSp K C L_isint) []) (F : FnP K "is_number" (top 21) [] f fd) (g : mg "is_number" = some (.ref f)) : C8.Cal Pr w K mg base 2 "is_number" (mkSp K C L_isnum) [] := by
  have sc := sc_is_number
  refine calN F g (fun _ _ _ _ _ _ us hl => match us, hl with | [_], _ => rfl) (okD F sc (fun xs Φ h => by obtain ⟨x, rfl, _⟩ := h; rfl) (fun cdv A outer s H E hr => ?_))
  refine ⟨_, (pss_one (ps_ret (pe_and (C8.pe_c c_is_integer hr (by decide) (by rfl) (pa_cons (pv 0) pa_nil)) (pe_one (pe_cmpR (op_geK K hr) (pv 0) pe_int (nomark _)))))), fun fd' xs Φ h => ?_⟩
  obtain ⟨x, rfl, q⟩ := h
  refine ds_ret (de_and (de_call0 (da_cons (de_var rfl (da_nil ⟨x, rfl, _, rfl, ?_⟩)))))
  cases x with
  | int i => exact de_geI (de_var rfl (de_int ⟨i, 0, rfl, rfl, q⟩))
  | none => exact q
  | bool => exact q
  | str => exact q
  | list => exact q
  | tuple => exact q
  | dict => exact q
def pairB : PyData → Bool
  | .tuple ds => decide (ds.length = 2)
  | _ => false
def L_ispair : Law := fun xs Φ => ∃ x, xs = [.d x] ∧ Φ (.d (.bool (pairB x)))
abbrev N_is_pair : List Str := ["thing"]
theorem sc_is_pair : FnScope N_is_pair ["thing"] (defScope (top 23)) := ⟨rfl, rfl, rfl, by decide +kernel, rfl, by decide +kernel, by decide +kernel⟩
theorem c_is_pair (T : Tx K mg C) (F : FnP K "is_pair" (top 23) [] f fd) (g : mg "is_pair" = some (.ref f)) : C8.Cal Pr w K mg base 1 "is_pair" (mkSp K C L_ispair) [] := by
  have sc := sc_is_pair
  refine calN F g (fun _ _ _ _ _ _ us hl => match us, hl with | [_], _ => rfl) (okD F sc (fun xs Φ h => by obtain ⟨x, rfl, _⟩ := h; rfl) (fun cdv A outer s H E hr => ?_))
  refine ⟨_, (pss_one (ps_ret (pe_and (pe_callB (call_isiK' K) (by rfl) T.m_isinstance boot_isinstance (pa_cons (pv 0) (pa_cons (pe_bltn (v := .ty "tuple") (by rfl) T.m_tuple boot_tuple rfl) pa_nil))) (pe_one (pe_cmpR (op_eqK K hr) (pe_callB (call_lenK K) (by rfl) T.m_len boot_len (pa_cons (pv 0) pa_nil)) pe_int (nomark _)))))), fun fd' xs Φ h => ?_⟩
  obtain ⟨x, rfl, q⟩ := h
  refine ds_ret (de_and (de_cb (da_cons (de_var rfl (da_cons (de_ty (da_nil (dc_isi (kit_tup x) ⟨_, rfl, ?_⟩))))))))
  cases x with
  | tuple ds =>
    refine de_ii (de_cb (da_cons (de_var rfl (da_nil (dc_len (.inr rfl) (de_int ⟨_, _, rfl, rfl, ?_⟩))))))
    have e : decide (((ds.length : Nat) : Int) = 2) = decide (ds.length = 2) := decide_eq_decide.mpr (by omega)
    rw [e]; exact q
  | none => exact q
  | bool => exact q
  | str => exact q
  | list => exact q
  | int => exact q
  | dict => exact q

/-! ### is_name_set, is_houses -/
def ltP : PyData → Bool
  | .tuple [.str a, .str b] => decide (a.cps.toList < b.cps.toList)
  | _ => false
def setB : PyData → Bool
  | .tuple ds => ds.all nameB && (zipD ds (ds.drop 1)).all ltP
  | _ => false
def SmT (x : PyData) : Prop := ∀ ds, x = .tuple ds → ds.length ≤ 1000 ∧ ∀ d ∈ ds, Sm d
def L_isset : Law := fun xs Φ => ∃ x, xs = [.d x] ∧ SmT x ∧ Φ (.d (.bool (setB x)))
abbrev N_is_name_set : List Str := ["thing", "one", "other"]
theorem sc_is_name_set : FnScope N_is_name_set ["thing"] (defScope (top 24)) := ⟨rfl, rfl, rfl, by decide +kernel, rfl, by decide +kernel, by decide +kernel⟩
theorem names_strs : ∀ {ds : List PyData}, ds.all nameB = true → ∃ ss : List Str, ds = ss.map .str ∧ ∀ s ∈ ss, nameS s = true
  | [], _ => ⟨[], rfl, fun _ h => nomatch h⟩
  | d :: r, h => by
    rw [List.all_cons, Bool.and_eq_true] at h
    obtain ⟨ss, e, hs⟩ := names_strs h.2
    cases d with
    | str s => exact ⟨s :: ss, by rw [e]; rfl, fun x hx => (List.mem_cons.mp hx).elim (fun z => z ▸ h.1) (hs x)⟩
    | _ => exact nomatch h.1
theorem c_is_name_set (T : Tx K mg C) (c_is_name : C8.Cal Pr w K mg base 1 "is_name" (mkSp K C L_isname) []) (F : FnP K "is_name_set" (top 24) [] f fd) (g : mg "is_name_set" = some (.ref f)) : C8.Cal Pr w K mg base 2 "is_name_set" (mkSp K C L_isset) [] := by
  have sc := sc_is_name_set
  refine calN F g (fun _ _ _ _ _ _ us hl => match us, hl with | [_], _ => rfl) (okD F sc (fun xs Φ h => by obtain ⟨x, rfl, _⟩ := h; rfl) (fun cdv A outer s H E hr => ?_))
  refine ⟨_, (pss_cons (ps_if (PW.pt (pw_or (pt_not (pt_val (pe_callB (call_isiK' K) (by rfl) T.m_isinstance boot_isinstance (pa_cons (pv 0) (pa_cons (pe_bltn (v := .ty "tuple") (by rfl) T.m_tuple boot_tuple rfl) pa_nil))))) (pw_or1 (pt_not (pt_val (pe_callB (cr_allK K) (by rfl) T.m_all boot_all (pa_cons (pe_lc (own := [("one", 1)]) rfl sc.nd (pi_tupK K (pv 0)) (blkOk_by (by exact rfl)) (fun _ _ _ _ _ => (pg_name (i := 1) sc.nd rfl (.inl rfl))) (fun _ _ _ _ _ => pts_nil) (fun _ _ _ _ _ => (C8.pe_c c_is_name hr (by decide) (by rfl) (pa_cons (pv 1) pa_nil)))) pa_nil))))))) (pss_one (ps_ret pe_bl)) pss_nil)
      (pss_one (ps_ret (pe_callB (cr_allK K) (by rfl) T.m_all boot_all (pa_cons (pe_lc (own := [("one", 1), ("other", 2)]) rfl sc.nd (pi_zipK K (by rfl) T.m_zip (pa_cons (pv 0) (pa_cons (pe_slice (sl_anyK K) (pv 0) (po_some pe_int) po_none) pa_nil))) (blkOk_by (by exact rfl)) (fun _ _ _ _ _ => (pg_tupK K 2 (pgs_cons (pg_name (i := 1) sc.nd rfl (.inl rfl)) (pgs_cons (pg_name (i := 2) sc.nd rfl (.inl rfl)) pgs_nil)))) (fun _ _ _ _ _ => pts_nil) (fun _ _ _ _ _ => (pe_cmpR op_ltA (pv 1) (pv 2) (nomark _)))) pa_nil))))), fun fd' xs Φ h => ?_⟩
  obtain ⟨x, rfl, sm, q⟩ := h
  refine ds_seq (ds_if (dt_or (dt_not (dt_b (de_cb (da_cons (de_var rfl (da_cons (de_ty (da_nil (dc_isi (kit_tup x) ⟨_, rfl, ?_⟩)))))))))))
  cases x with
  | tuple ds =>
    obtain ⟨hl, hs⟩ := sm ds rfl
    show Dt _ _ _ _
    refine dt_not (dt_b (de_cb (da_cons (de_lcB ds .d (fun d => .bool (nameB d)) (di_tup (de_var rfl ⟨ds, rfl, rfl, szs (by omega)⟩)) (fun d hd => dg_name (by decide) (de_call0 (da_cons (de_var rfl (da_nil ⟨d, rfl, hs d hd, rfl⟩))))) (da_nil ?_)))))
    have e1 : (ds.map fun d => PyData.bool (nameB d)) = (ds.map nameB).map .bool := by rw [List.map_map]; rfl
    rw [e1]
    refine dc_all ⟨_, rfl, ?_⟩
    rw [List.all_map]
    cases e : ds.all (id ∘ nameB) with
    | false =>
      have e2 : setB (.tuple ds) = false := by
        show (ds.all nameB && _) = false
        rw [show ds.all nameB = false from e, Bool.false_and]
      rw [e2] at q
      exact ds_ret (de_bl q)
    | true =>
      obtain ⟨ss, rfl, hn⟩ := names_strs (show ds.all nameB = true from e)
      refine ds_next (ds_ret (de_cb (da_cons (de_lcB (zipD (ss.map .str) ((ss.map .str).drop 1)) .d (fun d => .bool (ltP d)) ?_ (fun d hd => ?_) (da_nil ?_)))))
      · refine di_zipT (da_cons (de_var rfl (da_cons (de_sl (de_var rfl (dp_some (de_int ⟨1, rfl, dp_none ⟨ss.map .str, .inr ⟨rfl, da_nil ⟨_, _, rfl, by rw [cut_one], ?_⟩⟩⟩⟩)))))))
        have : (zipD (ss.map PyData.str) ((ss.map PyData.str).drop 1)).length ≤ 1000 := by
          rw [zipD, List.length_map, List.length_zip]; omega
        exact szs (by omega)
      · obtain ⟨j, hj, e2⟩ := List.getElem_of_mem hd
        obtain ⟨a, b, h1, h2, e3⟩ := zipD_at (by rw [List.getElem?_eq_getElem hj, e2] : (zipD (ss.map PyData.str) ((ss.map PyData.str).drop 1))[j]? = some d)
        have m1 := List.mem_of_getElem? h1
        have m2 := List.mem_of_mem_drop (List.mem_of_getElem? h2)
        obtain ⟨s1, _, rfl⟩ := List.mem_map.mp m1
        obtain ⟨s2, _, rfl⟩ := List.mem_map.mp m2
        subst e3
        exact dg2 (by decide) (by decide) (de_ltS (de_var rfl (de_var rfl ⟨s1, s2, rfl, rfl, rfl⟩)))
      · have e1 : ((zipD (ss.map PyData.str) ((ss.map PyData.str).drop 1)).map fun d => PyData.bool (ltP d)) = ((zipD (ss.map PyData.str) ((ss.map PyData.str).drop 1)).map ltP).map .bool := by rw [List.map_map]; rfl
        rw [e1]
        refine dc_all ?_
        rw [List.all_map]
        have e2 : setB (.tuple (ss.map .str)) = (zipD (ss.map PyData.str) ((ss.map PyData.str).drop 1)).all (id ∘ ltP) := by
          show ((ss.map PyData.str).all nameB && _) = _
          rw [show (ss.map PyData.str).all nameB = true from e, Bool.true_and]; rfl
        rw [← e2]; exact q
  | none => exact ds_ret (de_bl q)
  | bool => exact ds_ret (de_bl q)
  | int => exact ds_ret (de_bl q)
  | list => exact ds_ret (de_bl q)
  | str => exact ds_ret (de_bl q)
  | dict => exact ds_ret (de_bl q)
def housesB (x : PyData) : Bool := setB x && (match x with | .tuple ds => decide (0 < ds.length) | _ => false)
def L_ishouses : Law := fun xs Φ => ∃ x, xs = [.d x] ∧ SmT x ∧ Φ (.d (.bool (housesB x)))
abbrev N_is_houses : List Str := ["thing"]
theorem sc_is_houses : FnScope N_is_houses ["thing"] (defScope (top 25)) := ⟨rfl, rfl, rfl, by decide +kernel, rfl, by decide +kernel, by decide +kernel⟩
theorem c_is_houses (T : Tx K mg C) (c_is_name_set : C8.Cal Pr w K mg base 2 "is_name_set" (mkSp K C L_isset) []) (F : FnP K "is_houses" (top 25) [] f fd) (g : mg "is_houses" = some (.ref f)) : C8.Cal Pr w K mg base 3 "is_houses" (mkSp K C L_ishouses) [] := by
  have sc := sc_is_houses
  refine calN F g (fun _ _ _ _ _ _ us hl => match us, hl with | [_], _ => rfl) (okD F sc (fun xs Φ h => by obtain ⟨x, rfl, _⟩ := h; rfl) (fun cdv A outer s H E hr => ?_))
  refine ⟨_, (pss_one (ps_ret (pe_and (C8.pe_c c_is_name_set hr (by decide) (by rfl) (pa_cons (pv 0) pa_nil)) (pe_one (pe_cmpR op_gtA (pe_callB (call_lenK K) (by rfl) T.m_len boot_len (pa_cons (pv 0) pa_nil)) pe_int (nomark _)))))), fun fd' xs Φ h => ?_⟩
  obtain ⟨x, rfl, sm, q⟩ := h
  refine ds_ret (de_and (de_call0 (da_cons (de_var rfl (da_nil ⟨x, rfl, sm, _, rfl, ?_⟩)))))
  unfold housesB at q
  cases e : setB x with
  | false => rw [e] at q; exact q
  | true =>
    rw [e] at q
    cases x with
    | tuple ds =>
      refine de_gtI (de_cb (da_cons (de_var rfl (da_nil (dc_len (.inr rfl) (de_int ⟨_, _, rfl, rfl, ?_⟩))))))
      have e2 : decide ((0 : Int) < ((ds.length : Nat) : Int)) = decide (0 < ds.length) := decide_eq_decide.mpr (by omega)
      rw [e2]; exact q
    | _ => exact nomatch e
end
end Z

/-! # ZK2 -/
set_option Elab.async false
set_option linter.all false
set_option maxRecDepth 100000
set_option maxHeartbeats 1000000
namespace Z
open PySem PySem.Spec PyProof.Rows L2 Fl
/-! ### nets -/
abbrev SLt (a b : Str) : Prop := a.cps.toList < b.cps.toList
structure GN (hs : List Str) (ws : List (Str × Str)) : Prop where
  nm : ∀ h ∈ hs, nameS h = true
  lh : hs.length ≤ 20
  h0 : 0 < hs.length
  inc : hs.Pairwise SLt
  lw : ws.length ≤ 18
  wi : ∀ e ∈ ws, e.1 ∈ hs ∧ e.2 ∈ hs ∧ e.1 ≠ e.2
  so : ws.Pairwise fun a b => PySem.W.dataLt (prD b) (prD a) = false
def netD (hs : List Str) (ws : List (Str × Str)) : PyData := .tuple [hoD hs, wiD ws]
theorem sLt_irr (a : Str) : ¬ SLt a a := fun h => List.lt_irrefl _ h
theorem slt_nd {hs : List Str} (h : hs.Pairwise SLt) : hs.Nodup := List.Pairwise.imp (R := SLt) (S := fun a b => a ≠ b) (fun {a b} h e => sLt_irr b (by rw [e] at h; exact h)) h
theorem GN.nd {hs : List Str} {ws : List (Str × Str)} (g : GN hs ws) : hs.Nodup := slt_nd g.inc
theorem nd_ix {α : Type} {l : List α} (hN : l.Nodup) {i j : Nat} {x : α} (a : l[i]? = some x) (b : l[j]? = some x) : i = j := L2.nd_ix hN a b
theorem name_ok {s : Str} (h : nameS s = true) : OkS s := by
  unfold nameS at h
  simp only [Bool.and_eq_true, List.all_eq_true, decide_eq_true_eq] at h
  unfold OkS PyData.strOk
  rw [← Array.all_toList, List.all_eq_true]
  intro c hc
  have := h.2 c hc
  exact decide_eq_true (by omega)
theorem GN.ok {hs : List Str} {ws : List (Str × Str)} (g : GN hs ws) : OkW ws := fun e he => ⟨name_ok (g.nm _ (g.wi e he).1), name_ok (g.nm _ (g.wi e he).2.1)⟩
theorem name_sm {s : Str} (h : nameS s = true) : Sm (.str s) := fun t e => by
  cases e
  unfold nameS at h
  simp only [Bool.and_eq_true, decide_eq_true_eq] at h
  omega
section
variable {Pr : Program} {w : World} {K : PySem.W.Frag} {mg : Str → Option Value} {base : Heap} {C : Addr} {f : Addr} {fd : FuncData}
/-! ### need, want -/
def L_need : Law := fun xs Φ => ∃ a b, xs = [.d (.bool true), a, b] ∧ Φ (.d .none)
abbrev N_need : List Str := ["is_right", "word", "at"]
theorem sc_need : FnScope N_need ["is_right", "word", "at"] (defScope (top 28)) := ⟨rfl, rfl, rfl, by decide +kernel, rfl, by decide +kernel, by decide +kernel⟩
abbrev N_want : List Str := ["is_right", "word", "at"]
theorem sc_want : FnScope N_want ["is_right", "word", "at"] (defScope (top 33)) := ⟨rfl, rfl, rfl, by decide +kernel, rfl, by decide +kernel, by decide +kernel⟩
/-- a def of three parameters whose last one has a value -/
theorem cal3 {x : Str} {st : Stmt} {p1 p2 p3 : Str} {d : V} {sp : Sp} {k : Nat} (F : FnP K x st [d] f fd) (g : mg x = some (.ref f)) (hf : FnOk Pr w K mg base CX0 k f fd [p1, p2, p3] sp)
    (hb : ∀ (T : Addr) (kV doc pm : Value) (an : Option Addr) (cdv ct : Value) (a b c e : Value), (∃ q, bindArgs (PySem.W.fnOf x x (defArgs st) (defBody st) (defScope st) (.ref T) kV doc pm an cdv ct) ⟨[a, b, c], []⟩ = seqItems? (.ref T) >>= q ∧ q (some #[e]) = pure [(p1, a), (p2, b), (p3, c)]) ∧
      ∃ q, bindArgs (PySem.W.fnOf x x (defArgs st) (defBody st) (defScope st) (.ref T) kV doc pm an cdv ct) ⟨[a, b], []⟩ = seqItems? (.ref T) >>= q ∧ q (some #[e]) = pure [(p1, a), (p2, b), (p3, e)]) :
    C8.Cal Pr w K mg base k x sp [] ∧ C8.Cal Pr w K mg base k x sp [d] := by
  constructor
  · obtain ⟨ds, hv, b⟩ := FunD.binds1 (ps := [p1, p2, p3]) F 3 1 (List.cons_ne_nil _ _) rfl fun T kV doc pm an cdv ct us its h1 h2 => by
      match us, its with
      | [a, b, c], [e] => exact (hb T kV doc pm an cdv ct a b c e).1
    exact ⟨f, fd, _, ds, hf, g, F.kp, b, hv⟩
  · obtain ⟨ds, hv, b⟩ := FunD.binds1 (ps := [p1, p2, p3]) F 2 0 (List.cons_ne_nil _ _) rfl fun T kV doc pm an cdv ct us its h1 h2 => by
      match us, its with
      | [a, b], [e] => exact (hb T kV doc pm an cdv ct a b a e).2
    exact ⟨f, fd, _, ds, hf, g, F.kp, b, hv⟩
theorem c_need (T : Tx K mg C) (F : FnP K "need" (top 28) [.int (-1)] f fd) (g : mg "need" = some (.ref f)) : C8.Cal Pr w K mg base 1 "need" (mkSp K C L_need) [] ∧ C8.Cal Pr w K mg base 1 "need" (mkSp K C L_need) [.int (-1)] := by
  have sc := sc_need
  refine cal3 F g (okD F sc (fun xs Φ h => by obtain ⟨a, b, rfl, _⟩ := h; rfl) (fun cdv A outer s H E hr => ?_)) (fun T kV doc pm an cdv ct a b c e => ⟨⟨_, rfl, rfl⟩, ⟨_, rfl, rfl⟩⟩)
  refine ⟨_, (pss_one (ps_if (pt_not (pt_val (pv 0))) (pss_one ps_never) pss_nil)), fun fd' xs Φ h => ?_⟩
  obtain ⟨a, b, rfl, q⟩ := h
  exact ds_if (dt_not (dt_b (de_var rfl ⟨true, rfl, ds_next q⟩)))
theorem c_want (T : Tx K mg C) (F : FnP K "want" (top 33) [.int (-1)] f fd) (g : mg "want" = some (.ref f)) : C8.Cal Pr w K mg base 1 "want" (mkSp K C L_need) [] ∧ C8.Cal Pr w K mg base 1 "want" (mkSp K C L_need) [.int (-1)] := by
  have sc := sc_want
  refine cal3 F g (okD F sc (fun xs Φ h => by obtain ⟨a, b, rfl, _⟩ := h; rfl) (fun cdv A outer s H E hr => ?_)) (fun T kV doc pm an cdv ct a b c e => ⟨⟨_, rfl, rfl⟩, ⟨_, rfl, rfl⟩⟩)
  refine ⟨_, (pss_one (ps_if (pt_not (pt_val (pv 0))) (pss_one ps_never) pss_nil)), fun fd' xs Φ h => ?_⟩
  obtain ⟨a, b, rfl, q⟩ := h
  exact ds_if (dt_not (dt_b (de_var rfl ⟨true, rfl, ds_next q⟩)))

/-! ### is_wire_of, are_two_tuples -/
def L_wireof : Law := fun xs Φ => ∃ ks e, xs = [.dk false (bkD ks), .d (prD e)] ∧ e.1 ∈ ks ∧ e.2 ∈ ks ∧ e.1 ≠ e.2 ∧ nameS e.1 = true ∧ nameS e.2 = true ∧ Φ (.d (.bool true))
abbrev N_is_wire_of : List Str := ["houses", "thing"]
theorem sc_is_wire_of : FnScope N_is_wire_of ["houses", "thing"] (defScope (top 26)) := ⟨rfl, rfl, rfl, by decide +kernel, rfl, by decide +kernel, by decide +kernel⟩
theorem c_is_wire_of (T : Tx K mg C) (c_is_pair : C8.Cal Pr w K mg base 1 "is_pair" (mkSp K C L_ispair) []) (c_is_name : C8.Cal Pr w K mg base 1 "is_name" (mkSp K C L_isname) []) (F : FnP K "is_wire_of" (top 26) [] f fd) (g : mg "is_wire_of" = some (.ref f)) : C8.Cal Pr w K mg base 2 "is_wire_of" (mkSp K C L_wireof) [] := by
  have sc := sc_is_wire_of
  refine calN F g (fun _ _ _ _ _ _ us hl => match us, hl with | [_, _], _ => rfl) (okD F sc (fun xs Φ h => by obtain ⟨x, e, rfl, _⟩ := h; rfl) (fun cdv A outer s H E hr => ?_))
  refine ⟨_, (pss_cons (ps_if (PW.pt (pw_or (pt_not (pt_val (C8.pe_c c_is_pair hr (by decide) (by rfl) (pa_cons (pv 1) pa_nil)))) (pw_or (pt_not (pt_val (C8.pe_c c_is_name hr (by decide) (by rfl) (pa_cons (pe_ix (ix_seqK K) (pv 1) pe_int (fun _ _ => rfl)) pa_nil)))) (pw_or1 (pt_not (pt_val (C8.pe_c c_is_name hr (by decide) (by rfl) (pa_cons (pe_ix (ix_seqK K) (pv 1) pe_int (fun _ _ => rfl)) pa_nil)))))))) (pss_one (ps_ret pe_bl)) pss_nil)
      (pss_one (ps_ret (pe_and (pe_cmp (pc_din (hu_of hr) (pe_ix (ix_seqK K) (pv 1) pe_int (fun _ _ => rfl)) (pv 0)) rfl) (pe_and (pe_cmp (pc_din (hu_of hr) (pe_ix (ix_seqK K) (pv 1) pe_int (fun _ _ => rfl)) (pv 0)) rfl) (pe_one (pe_cmpR (op_neK K hr) (pe_ix (ix_seqK K) (pv 1) pe_int (fun _ _ => rfl)) (pe_ix (ix_seqK K) (pv 1) pe_int (fun _ _ => rfl)) (nomark _)))))))), fun fd' xs Φ h => ?_⟩
  obtain ⟨ks, e, rfl, h1, h2, hn, n1, n2, q⟩ := h
  have i0 : ∀ {ρ : List En} {Φ : KD} {P : Pm}, ρ[1]? = some (.fz (.d (prD e))) → Φ (.d (.str e.1)) → De P (tOp (rIx P.K) (tVar 1) (tC (.int 0))) ρ Φ := fun hr hq => de_ix (de_var hr (de_int ⟨_, [.str e.1, .str e.2], 0, .str e.1, rfl, rfl, .inr rfl, rfl, hq⟩))
  have i1 : ∀ {ρ : List En} {Φ : KD} {P : Pm}, ρ[1]? = some (.fz (.d (prD e))) → Φ (.d (.str e.2)) → De P (tOp (rIx P.K) (tVar 1) (tC (.int 1))) ρ Φ := fun hr hq => de_ix (de_var hr (de_int ⟨_, [.str e.1, .str e.2], 1, .str e.2, rfl, rfl, .inr rfl, rfl, hq⟩))
  refine ds_seq (ds_if (dt_or (dt_not (dt_b (de_call0 (da_cons (de_var rfl (da_nil ⟨_, rfl, true, rfl, ?_⟩))))))))
  show Dt _ _ _ _
  refine dt_or (dt_not (dt_b (de_call0 (da_cons (i0 rfl (da_nil ⟨_, rfl, name_sm n1, _, rfl, ?_⟩))))))
  show if (!nameS e.1) = true then _ else _
  rw [n1]
  show Dt _ _ _ _
  refine dt_not (dt_b (de_call0 (da_cons (i1 rfl (da_nil ⟨_, rfl, name_sm n2, _, rfl, ?_⟩)))))
  show if (!nameS e.2) = true then _ else _
  rw [n2]
  refine ds_next (ds_ret (de_and (de_din (i0 rfl (de_var rfl ⟨_, .inl ⟨false, bkD ks, .inr e.1, rfl, rfl, rfl⟩, _, rfl, ?_⟩)))))
  rw [bkD_val, decide_eq_true h1]
  refine de_and (de_din (i1 rfl (de_var rfl ⟨_, .inl ⟨false, bkD ks, .inr e.2, rfl, rfl, rfl⟩, _, rfl, ?_⟩)))
  rw [bkD_val, decide_eq_true h2]
  refine de_nss (i0 rfl (i1 rfl ⟨e.1, e.2, rfl, rfl, ?_⟩))
  rw [decide_eq_false hn]; exact q
def L_two : Law := fun xs Φ => ∃ hs ws, xs = [.d (netD hs ws)] ∧ 0 < hs.length ∧ Φ (.d (.bool true))
abbrev N_are_two_tuples : List Str := ["thing"]
theorem sc_are_two_tuples : FnScope N_are_two_tuples ["thing"] (defScope (top 29)) := ⟨rfl, rfl, rfl, by decide +kernel, rfl, by decide +kernel, by decide +kernel⟩
theorem c_are_two_tuples (T : Tx K mg C) (c_is_pair : C8.Cal Pr w K mg base 1 "is_pair" (mkSp K C L_ispair) []) (F : FnP K "are_two_tuples" (top 29) [] f fd) (g : mg "are_two_tuples" = some (.ref f)) : C8.Cal Pr w K mg base 2 "are_two_tuples" (mkSp K C L_two) [] := by
  have sc := sc_are_two_tuples
  refine calN F g (fun _ _ _ _ _ _ us hl => match us, hl with | [_], _ => rfl) (okD F sc (fun xs Φ h => by obtain ⟨x, e, rfl, _⟩ := h; rfl) (fun cdv A outer s H E hr => ?_))
  refine ⟨_, (pss_one (ps_ret (pe_and (C8.pe_c c_is_pair hr (by decide) (by rfl) (pa_cons (pv 0) pa_nil)) (pe_and (pe_callB (call_isiK' K) (by rfl) T.m_isinstance boot_isinstance (pa_cons (pe_ix (ix_seqK K) (pv 0) pe_int (fun _ _ => rfl)) (pa_cons (pe_bltn (v := .ty "tuple") (by rfl) T.m_tuple boot_tuple rfl) pa_nil))) (pe_and (pe_cmpR op_gtA (pe_callB (call_lenK K) (by rfl) T.m_len boot_len (pa_cons (pe_ix (ix_seqK K) (pv 0) pe_int (fun _ _ => rfl)) pa_nil)) pe_int (nomark _)) (pe_one (pe_callB (call_isiK' K) (by rfl) T.m_isinstance boot_isinstance (pa_cons (pe_ix (ix_seqK K) (pv 0) pe_int (fun _ _ => rfl)) (pa_cons (pe_bltn (v := .ty "tuple") (by rfl) T.m_tuple boot_tuple rfl) pa_nil))))))))), fun fd' xs Φ h => ?_⟩
  obtain ⟨hs, ws, rfl, h0, q⟩ := h
  refine ds_ret (de_and (de_call0 (da_cons (de_var rfl (da_nil ⟨_, rfl, true, rfl, ?_⟩)))))
  refine de_and (de_cb (da_cons (de_ix (de_var rfl (de_int ⟨_, [hoD hs, wiD ws], 0, hoD hs, rfl, rfl, .inr rfl, rfl, da_cons (de_ty (da_nil (dc_isi (kit_tup _) ⟨true, rfl, ?_⟩)))⟩)))))
  refine de_and (de_gtI (de_cb (da_cons (de_ix (de_var rfl (de_int ⟨_, [hoD hs, wiD ws], 0, hoD hs, rfl, rfl, .inr rfl, rfl, da_nil (dc_len (.inr rfl) (de_int ⟨_, _, rfl, rfl, true, ?_, ?_⟩))⟩))))))
  · rw [List.length_map, decide_eq_true (by omega)]
  exact de_cb (da_cons (de_ix (de_var rfl (de_int ⟨_, [hoD hs, wiD ws], 1, wiD ws, rfl, rfl, .inr rfl, rfl, da_cons (de_ty (da_nil (dc_isi (kit_tup _) q)))⟩))))

/-! ### accept_houses -/
def L_accept : Law := fun xs Φ => ∃ hs, xs = [.d (hoD hs)] ∧ (∀ h ∈ hs, nameS h = true) ∧ hs.length ≤ 20 ∧ hs.Pairwise SLt ∧ Φ (.dk false (bkD hs))
abbrev N_accept_houses : List Str := ["houses", "known", "k", "house"]
theorem sc_accept_houses : FnScope N_accept_houses ["houses"] (defScope (top 30)) := ⟨rfl, rfl, rfl, by decide +kernel, rfl, by decide +kernel, by decide +kernel⟩
theorem c_accept_houses (T : Tx K mg C) (c_need : C8.Cal Pr w K mg base 1 "need" (mkSp K C L_need) []) (c_is_name : C8.Cal Pr w K mg base 1 "is_name" (mkSp K C L_isname) []) (F : FnP K "accept_houses" (top 30) [] f fd) (g : mg "accept_houses" = some (.ref f)) : C8.Cal Pr w K mg base 2 "accept_houses" (mkSp K C L_accept) [] := by
  have sc := sc_accept_houses
  refine calN F g (fun _ _ _ _ _ _ us hl => match us, hl with | [_], _ => rfl) (okD F sc (fun xs Φ h => by obtain ⟨x, rfl, _⟩ := h; rfl) (fun cdv A outer s H E hr => ?_))
  refine ⟨_, (pss_cons (ps_set (i := 1) sc.nd rfl (.inl rfl) pe_dnewK)
      (pss_cons (ps_for PassesOwn.never rfl (pi_enTK K (by rfl) T.m_enumerate (pa_cons (pv 0) pa_nil)) (pg_tupK K 2 (pgs_cons (pg_name (i := 2) sc.nd rfl (.inl rfl)) (pgs_cons (pg_name (i := 3) sc.nd rfl (.inl rfl)) pgs_nil))) (pss_cons (ps_expr (C8.pe_c c_need hr (by decide) (by rfl) (pa_cons (pe_and (C8.pe_c c_is_name hr (by decide) (by rfl) (pa_cons (pv 3) pa_nil)) (pe_one (pe_or (pe_cmpR (op_eqK K hr) (pv 2) pe_int (nomark _)) (pe_one (pe_cmpR op_gtA (pv 3) (pe_ix (ix_seqK K) (pv 0) (pe_op op_sub (pv 2) pe_int) (fun _ _ => rfl)) (nomark _)))))) (pa_cons pe_str (pa_cons (pv 2) pa_nil)))))
      (pss_one (ps_dput (hu_of hr) (pv 1) (pv 3) pe_bl rfl))))
      (pss_one (ps_ret (pv 1))))), fun fd' xs Φ h => ?_⟩
  obtain ⟨hs, rfl, hn, hl, inc, q⟩ := h
  have nd : hs.Nodup := slt_nd inc
  refine ds_seq (ds_set (dw_dnew ?_))
  refine ds_seq (ds_forW [2, 3] (fun i ρ' => ρ' = [.fz (.d (hoD hs)), .od (bkD (hs.take i)), .un, .un])
    (di_enT (da_cons (de_var rfl (da_nil ⟨hs.map .str, rfl, [2, 3], rfl, ?_, ?_⟩)))))
  · rintro i v ρ2 hv rfl
    rw [List.getElem?_map, enumD_at, List.getElem?_map] at hv
    cases hp : hs[i]? with
    | none => rw [hp] at hv; exact nomatch hv
    | some h =>
      rw [hp] at hv; cases hv
      have mh := List.mem_of_getElem? hp
      have lt := (List.getElem?_eq_some_iff.mp hp).1
      refine dg2 (by decide) (by decide) ?_
      refine ds_seq (ds_drop (de_call0 (da_cons (de_and (de_call0 (da_cons (de_var rfl (da_nil ⟨_, rfl, name_sm (hn h mh), _, rfl, ?_⟩))))))))
      show if nameS h = true then _ else _
      rw [hn h mh, if_pos rfl]
      have go : ∀ {Φ : KD} {P : Pm} {ρ : List En} (tb : TE), (i = 0 → Φ (.d (.bool true))) → (i ≠ 0 → De P tb ρ Φ) → ρ[2]? = some (.fz (.d (.int (i : Nat)))) → De P (tOrV (tOp (fun x y H Q => rEq x y H Q ∨ rEqD P.K x y H Q) (tVar 2) (tC (.int 0))) tb) ρ Φ := by
        intro Φ P ρ tb z1 z2 hr
        refine de_or (de_ii (de_var hr (de_int ⟨_, _, rfl, rfl, _, rfl, ?_⟩)))
        by_cases e : i = 0
        · subst e; exact z1 rfl
        · rw [decide_eq_false (by omega)]; exact z2 e
      have rest : Ds ⟨K, C, fd'⟩ (sDPut (tVar 1) (tVar 3) (tC (.bl true))) [.fz (.d (hoD hs)), .od (bkD (hs.take i)), .fz (.d (.int (i : Nat))), .fz (.d (.str h))] (fun ρ3 => wipeE ρ3 [2, 3] = [.fz (.d (hoD hs)), .od (bkD (hs.take (i + 1))), .un, .un]) Φ := by
        refine ds_dput (kvs := bkD (hs.take i)) rfl rfl (de_bl (de_var rfl ⟨.inr h, .bool true, rfl, rfl, ?_, ?_⟩))
        · rw [bkD, List.length_map, List.length_take]; exact szs (by omega)
        · have ni : h ∉ hs.take i := fun hm => by
            obtain ⟨j, hj, e⟩ := List.getElem_of_mem hm
            rw [List.getElem_take] at e
            rw [List.length_take] at hj
            have := Z.nd_ix nd (i := j) (j := i) (by rw [List.getElem?_eq_getElem (by omega), e]) hp
            omega
          rw [bkD_put ni]
          have e2 : hs.take (i + 1) = hs.take i ++ [h] := by rw [List.take_succ_eq_append_getElem lt, (List.getElem?_eq_some_iff.mp hp).2]
          rw [e2]; rfl
      refine go _ (fun _ => da_cons (de_str (da_cons (de_var rfl (da_nil ⟨_, _, rfl, rest⟩))))) (fun e => ?_) rfl
      have hp' : hs[i - 1]? = some hs[i - 1] := List.getElem?_eq_getElem (by omega)
      refine de_gtS (de_var rfl (de_ix (de_var rfl (de_op (de_var rfl (de_int (dop_i0 (g := fun i j => i - j) ⟨_, hs.map .str, _, .str hs[i - 1], rfl, rfl, .inr rfl, ?_, h, hs[i - 1], rfl, rfl, da_cons (de_str (da_cons (de_var rfl (da_nil ⟨.d (.str "house"), .d (.int (i : Nat)), ?_, rest⟩))))⟩)))))))
      · have e3 : ((i : Nat) : Int) - 1 = ((i - 1 : Nat) : Int) := by omega
        rw [e3]; exact atI_nat (by rw [List.getElem?_map, hp']; rfl)
      · have := List.pairwise_iff_getElem.mp inc (i - 1) i (by omega) lt (by omega)
        rw [(List.getElem?_eq_some_iff.mp hp).2] at this
        rw [decide_eq_true this]
  · rintro ρ2 rfl
    have e : hs.take ((enumD (hs.map PyData.str)).map Dv.d).length = hs := by rw [List.length_map, enumD_len, List.length_map, List.take_length]
    rw [e]
    exact ds_frz (ds_ret (de_var rfl q))

/-! ### lets_net -/
def L_letsnet : Law := fun xs Φ => ∃ hs ws, xs = [.d (netD hs ws)] ∧ GN hs ws ∧ Φ (.d (.int (ws.length : Nat)))
abbrev N_lets_net : List Str := ["thing", "houses", "wires", "known", "k", "wire"]
theorem sc_lets_net : FnScope N_lets_net ["thing"] (defScope (top 31)) := ⟨rfl, rfl, rfl, by decide +kernel, rfl, by decide +kernel, by decide +kernel⟩
theorem alike_pr (a b : Str × Str) : PySem.W.alike (prD a) (prD b) = true := by first | rfl | decide +kernel
theorem depth_pr (a : Str × Str) : (prD a).depth ≤ 8 := by
  unfold prD
  rw [PyData.depth.eq_2, PyData.depthAll.eq_2, PyData.depthAll.eq_2, PyData.depthAll.eq_1, PyData.depth.eq_7, PyData.depth.eq_7]
  decide
theorem c_lets_net (T : Tx K mg C) (c_need : C8.Cal Pr w K mg base 1 "need" (mkSp K C L_need) []) (c_need_d : C8.Cal Pr w K mg base 1 "need" (mkSp K C L_need) [.int (-1)]) (c_are_two_tuples : C8.Cal Pr w K mg base 2 "are_two_tuples" (mkSp K C L_two) []) (c_accept_houses : C8.Cal Pr w K mg base 2 "accept_houses" (mkSp K C L_accept) []) (c_is_wire_of : C8.Cal Pr w K mg base 2 "is_wire_of" (mkSp K C L_wireof) [])
    (F : FnP K "lets_net" (top 31) [] f fd) (g : mg "lets_net" = some (.ref f)) : C8.Cal Pr w K mg base 3 "lets_net" (mkSp K C L_letsnet) [] := by
  have sc := sc_lets_net
  refine calN F g (fun _ _ _ _ _ _ us hl => match us, hl with | [_], _ => rfl) (okD F sc (fun xs Φ h => by obtain ⟨a, b, rfl, _⟩ := h; rfl) (fun cdv A outer s H E hr => ?_))
  refine ⟨_, (pss_cons (ps_expr (C8.pe_c c_need_d hr (by decide) (by rfl) (pa_cons (C8.pe_c c_are_two_tuples hr (by decide) (by rfl) (pa_cons (pv 0) pa_nil)) (pa_cons pe_str pa_nil))))
      (pss_cons (ps_asg (pv 0) (pg_tupK K 2 (pgs_cons (pg_name (i := 1) sc.nd rfl (.inl rfl)) (pgs_cons (pg_name (i := 2) sc.nd rfl (.inl rfl)) pgs_nil))))
      (pss_cons (ps_set (i := 3) sc.nd rfl (.inl rfl) (C8.pe_c c_accept_houses hr (by decide) (by rfl) (pa_cons (pv 1) pa_nil)))
      (pss_cons (ps_for PassesOwn.never rfl (pi_enTK K (by rfl) T.m_enumerate (pa_cons (pv 2) pa_nil)) (pg_tupK K 2 (pgs_cons (pg_name (i := 4) sc.nd rfl (.inl rfl)) (pgs_cons (pg_name (i := 5) sc.nd rfl (.inl rfl)) pgs_nil))) (pss_cons (ps_expr (C8.pe_c c_need hr (by decide) (by rfl) (pa_cons (C8.pe_c c_is_wire_of hr (by decide) (by rfl) (pa_cons (pv 3) (pa_cons (pv 5) pa_nil))) (pa_cons pe_str (pa_cons (pv 4) pa_nil)))))
      (pss_one (ps_expr (C8.pe_c c_need hr (by decide) (by rfl) (pa_cons (pe_or (pe_cmpR (op_eqK K hr) (pv 4) pe_int (nomark _)) (pe_one (pe_cmpR (op_geK K hr) (pv 5) (pe_ix (ix_seqK K) (pv 2) (pe_op op_sub (pv 4) pe_int) (fun _ _ => rfl)) (nomark _)))) (pa_cons pe_str (pa_cons (pv 4) pa_nil))))))))
      (pss_one (ps_ret (pe_callB (call_lenK K) (by rfl) T.m_len boot_len (pa_cons (pv 2) pa_nil)))))))), fun fd' xs Φ h => ?_⟩
  obtain ⟨hs, ws, rfl, gn, q⟩ := h
  refine ds_seq (ds_drop (de_call (dxs := [.d (.int (-1))]) (fun _ => ⟨.int _, True.intro⟩) (da_cons (de_call0 (da_cons (de_var rfl (da_nil ⟨hs, ws, rfl, gn.h0, da_cons (de_str (da_nil ⟨_, _, rfl, ?_⟩))⟩)))))))
  refine ds_seq (ds_asg (vs := [1, 2]) (de_var rfl (dg2 (a := hoD hs) (b := wiD ws) (by decide) (by decide) ?_)))
  refine ds_seq (ds_setz (de_call0 (da_cons (de_var rfl (da_nil ⟨hs, rfl, gn.nm, gn.lh, gn.inc, ?_⟩)))))
  refine ds_seq (ds_forW [4, 5] (fun i ρ' => ρ' = [.fz (.d (netD hs ws)), .fz (.d (hoD hs)), .fz (.d (wiD ws)), .fz (.dk false (bkD hs)), .un, .un])
    (di_enT (da_cons (de_var rfl (da_nil ⟨ws.map prD, rfl, [4, 5], rfl, ?_, ?_⟩)))))
  · rintro i v ρ2 hv rfl
    rw [List.getElem?_map, enumD_at, List.getElem?_map] at hv
    cases hp : ws[i]? with
    | none => rw [hp] at hv; exact nomatch hv
    | some e =>
      rw [hp] at hv; cases hv
      have me := List.mem_of_getElem? hp
      have lt := (List.getElem?_eq_some_iff.mp hp).1
      obtain ⟨w1, w2, w3⟩ := gn.wi e me
      refine dg2 (by decide) (by decide) ?_
      refine ds_seq (ds_drop (de_call0 (da_cons (de_call0 (da_cons (de_var rfl (da_cons (de_var rfl (da_nil ⟨hs, e, rfl, w1, w2, w3, gn.nm _ w1, gn.nm _ w2, da_cons (de_str (da_cons (de_var rfl (da_nil ⟨_, _, rfl, ?_⟩))))⟩)))))))))
      refine ds_drop (de_call0 (da_cons (de_or (de_ii (de_var rfl (de_int ⟨_, _, rfl, rfl, _, rfl, ?_⟩))))))
      by_cases e0 : i = 0
      · subst e0
        exact da_cons (de_str (da_cons (de_var rfl (da_nil ⟨_, _, rfl, rfl⟩))))
      · rw [decide_eq_false (by omega)]
        have hp' : ws[i - 1]? = some ws[i - 1] := List.getElem?_eq_getElem (by omega)
        refine de_geD (de_var rfl (de_ix (de_var rfl (de_op (de_var rfl (de_int (dop_i0 (g := fun i j => i - j) ⟨_, ws.map prD, _, prD ws[i - 1], rfl, rfl, .inr rfl, ?_, prD e, prD ws[i - 1], rfl, rfl, alike_pr _ _, fun z => (nomatch z), depth_pr _, da_cons (de_str (da_cons (de_var rfl (da_nil ⟨.d (.str "order"), .d (.int (i : Nat)), ?_, rfl⟩))))⟩)))))))
        · have e3 : ((i : Nat) : Int) - 1 = ((i - 1 : Nat) : Int) := by omega
          rw [e3]; exact atI_nat (by rw [List.getElem?_map, hp']; rfl)
        · have := List.pairwise_iff_getElem.mp gn.so (i - 1) i (by omega) lt (by omega)
          rw [(List.getElem?_eq_some_iff.mp hp).2] at this
          rw [this]; rfl
  · rintro ρ2 rfl
    refine ds_ret (de_cb (da_cons (de_var rfl (da_nil (dc_len (.inr rfl) ?_)))))
    rw [List.length_map]; exact q

/-! ### want_net, want_house, want_root, want_lot, want_other -/
def L_wnet : Law := fun xs Φ => ∃ hs ws, xs = [.d (netD hs ws)] ∧ GN hs ws ∧ Φ (.d .none)
abbrev N_want_net : List Str := ["net"]
theorem sc_want_net : FnScope N_want_net ["net"] (defScope (top 34)) := ⟨rfl, rfl, rfl, by decide +kernel, rfl, by decide +kernel, by decide +kernel⟩
theorem c_want_net (T : Tx K mg C) (c_lets_net : C8.Cal Pr w K mg base 3 "lets_net" (mkSp K C L_letsnet) []) (F : FnP K "want_net" (top 34) [] f fd) (g : mg "want_net" = some (.ref f)) : C8.Cal Pr w K mg base 4 "want_net" (mkSp K C L_wnet) [] := by
  have sc := sc_want_net
  refine calN F g (fun _ _ _ _ _ _ us hl => match us, hl with | [_], _ => rfl) (okD F sc (fun xs Φ h => by obtain ⟨a, b, rfl, _⟩ := h; rfl) (fun cdv A outer s H E hr => ?_))
  refine ⟨_, (pss_one (ps_try_thru0 (pss_one (ps_expr (C8.pe_c c_lets_net hr (by decide) (by rfl) (pa_cons (pv 0) pa_nil)))))), fun fd' xs Φ h => ?_⟩
  obtain ⟨hs, ws, rfl, gn, q⟩ := h
  exact ds_drop (de_call0 (da_cons (de_var rfl (da_nil ⟨hs, ws, rfl, gn, q⟩))))
def L_whouse : Law := fun xs Φ => ∃ hs ws h z, xs = [.d (netD hs ws), .d (.str h), z] ∧ GN hs ws ∧ h ∈ hs ∧ Φ (.d .none)
abbrev N_want_house : List Str := ["net", "house", "word"]
theorem sc_want_house : FnScope N_want_house ["net", "house", "word"] (defScope (top 35)) := ⟨rfl, rfl, rfl, by decide +kernel, rfl, by decide +kernel, by decide +kernel⟩
theorem de_net0 {P : Pm} {ρ : List En} {te : TE} {hs : List Str} {ws : List (Str × Str)} {Φ : KD} (h : De P te ρ fun x => x = .d (netD hs ws) ∧ Φ (.d (hoD hs))) : De P (tOp (rIx P.K) te (tC (.int 0))) ρ Φ :=
  de_ix (h.mono fun x ⟨e, q⟩ => de_int ⟨_, [hoD hs, wiD ws], 0, hoD hs, e, rfl, .inr rfl, rfl, q⟩)
theorem de_net1 {P : Pm} {ρ : List En} {te : TE} {hs : List Str} {ws : List (Str × Str)} {Φ : KD} (h : De P te ρ fun x => x = .d (netD hs ws) ∧ Φ (.d (wiD ws))) : De P (tOp (rIx P.K) te (tC (.int 1))) ρ Φ :=
  de_ix (h.mono fun x ⟨e, q⟩ => de_int ⟨_, [hoD hs, wiD ws], 1, wiD ws, e, rfl, .inr rfl, rfl, q⟩)
theorem de_inH {P : Pm} {ρ : List En} {ta tb : TE} {Φ : KD} (h : De P ta ρ fun x => De P tb ρ fun y => ∃ (a : Str) (ds : List Str) (z : PyData), x = .d (.str a) ∧ y = .d z ∧ Row z (ds.map .str) ∧ Φ (.d (.bool (decide (a ∈ ds))))) : De P (tOp (rIn P.K false) ta tb) ρ Φ :=
  de_op (h.mono fun x h => De.mono h fun y ⟨a, ds, z, e, e', hr, q⟩ => by subst e; subst e'; exact dop_inS hr (by rw [if_neg (by decide)]; exact q))
theorem de_ninH {P : Pm} {ρ : List En} {ta tb : TE} {Φ : KD} (h : De P ta ρ fun x => De P tb ρ fun y => ∃ (a : Str) (ds : List Str) (z : PyData), x = .d (.str a) ∧ y = .d z ∧ Row z (ds.map .str) ∧ Φ (.d (.bool (!decide (a ∈ ds))))) : De P (tOp (rIn P.K true) ta tb) ρ Φ :=
  de_op (h.mono fun x h => De.mono h fun y ⟨a, ds, z, e, e', hr, q⟩ => by subst e; subst e'; exact dop_inS hr (by rw [if_pos rfl]; exact q))
theorem c_want_house (T : Tx K mg C) (c_want : C8.Cal Pr w K mg base 1 "want" (mkSp K C L_need) []) (c_is_name : C8.Cal Pr w K mg base 1 "is_name" (mkSp K C L_isname) []) (F : FnP K "want_house" (top 35) [.str "house"] f fd) (g : mg "want_house" = some (.ref f)) : C8.Cal Pr w K mg base 2 "want_house" (mkSp K C L_whouse) [] ∧ C8.Cal Pr w K mg base 2 "want_house" (mkSp K C L_whouse) [.str "house"] := by
  have sc := sc_want_house
  refine cal3 F g (okD F sc (fun xs Φ h => by obtain ⟨a, b, c, d, rfl, _⟩ := h; rfl) (fun cdv A outer s H E hr => ?_)) (fun T kV doc pm an cdv ct a b c e => ⟨⟨_, rfl, rfl⟩, ⟨_, rfl, rfl⟩⟩)
  refine ⟨_, (pss_one (ps_expr (C8.pe_c c_want hr (by decide) (by rfl) (pa_cons (pe_and (C8.pe_c c_is_name hr (by decide) (by rfl) (pa_cons (pv 1) pa_nil)) (pe_one (pe_cmpR (op_inK K) (pv 1) (pe_ix (ix_seqK K) (pv 0) pe_int (fun _ _ => rfl)) rfl))) (pa_cons (pv 2) (pa_cons (pv 1) pa_nil)))))), fun fd' xs Φ h => ?_⟩
  obtain ⟨hs, ws, h, z, rfl, gn, hm, q⟩ := h
  refine ds_drop (de_call0 (da_cons (de_and (de_call0 (da_cons (de_var rfl (da_nil ⟨_, rfl, name_sm (gn.nm h hm), _, rfl, ?_⟩)))))))
  show if nameS h = true then _ else _
  rw [gn.nm h hm, if_pos rfl]
  refine de_inH (de_var rfl (de_net0 (hs := hs) (ws := ws) (de_var rfl ⟨rfl, h, hs, _, rfl, rfl, .inr rfl, da_cons (de_var rfl (da_cons (de_var rfl (da_nil ⟨z, .d (.str h), ?_, q⟩))))⟩)))
  rw [decide_eq_true hm]
def L_wroot : Law := fun xs Φ => ∃ hs ws r, xs = [.d (netD hs ws), .d (.str r)] ∧ GN hs ws ∧ r ∈ hs ∧ Φ (.d .none)
abbrev N_want_root : List Str := ["net", "root"]
theorem sc_want_root : FnScope N_want_root ["net", "root"] (defScope (top 36)) := ⟨rfl, rfl, rfl, by decide +kernel, rfl, by decide +kernel, by decide +kernel⟩
theorem c_want_root (T : Tx K mg C) (c_want_net : C8.Cal Pr w K mg base 4 "want_net" (mkSp K C L_wnet) []) (c_want_house : C8.Cal Pr w K mg base 2 "want_house" (mkSp K C L_whouse) []) (F : FnP K "want_root" (top 36) [] f fd) (g : mg "want_root" = some (.ref f)) : C8.Cal Pr w K mg base 5 "want_root" (mkSp K C L_wroot) [] := by
  have sc := sc_want_root
  refine calN F g (fun _ _ _ _ _ _ us hl => match us, hl with | [_, _], _ => rfl) (okD F sc (fun xs Φ h => by obtain ⟨a, b, c, rfl, _⟩ := h; rfl) (fun cdv A outer s H E hr => ?_))
  refine ⟨_, (pss_cons (ps_expr (C8.pe_c c_want_net hr (by decide) (by rfl) (pa_cons (pv 0) pa_nil)))
      (pss_one (ps_expr (C8.pe_c c_want_house hr (by decide) (by rfl) (pa_cons (pv 0) (pa_cons (pv 1) (pa_cons pe_str pa_nil))))))), fun fd' xs Φ h => ?_⟩
  obtain ⟨hs, ws, r, rfl, gn, hm, q⟩ := h
  refine ds_seq (ds_drop (de_call0 (da_cons (de_var rfl (da_nil ⟨hs, ws, rfl, gn, ?_⟩))))) 
  exact ds_drop (de_call0 (da_cons (de_var rfl (da_cons (de_var rfl (da_cons (de_str (da_nil ⟨hs, ws, r, _, rfl, gn, hm, q⟩))))))))
structure LotOf (hs : List Str) (r : Str) (l : List Str) : Prop where
  ne : l ≠ []
  inc : l.Pairwise SLt
  sub : ∀ x ∈ l, x ∈ hs ∧ x ≠ r
theorem inc_all : ∀ {l : List Str}, l.Pairwise SLt → (zipD (l.map PyData.str) ((l.map PyData.str).drop 1)).all ltP = true
  | [], _ => rfl
  | [_], _ => rfl
  | a :: b :: r, h => by
    have h2 := List.pairwise_cons.mp h
    have ih := inc_all h2.2
    show (decide (a.cps.toList < b.cps.toList) && _) = true
    rw [decide_eq_true (h2.1 b List.mem_cons_self), Bool.true_and]
    exact ih
theorem lot_len {hs : List Str} {ws : List (Str × Str)} {r : Str} {l : List Str} (gn : GN hs ws) (L : LotOf hs r l) : l.length ≤ 20 := by
  have := nodup_le (slt_nd L.inc) (m := hs) fun x hx => (L.sub x hx).1
  have := gn.lh
  omega
theorem lot_set {hs : List Str} {ws : List (Str × Str)} {r : Str} {l : List Str} (gn : GN hs ws) (L : LotOf hs r l) : housesB (hoD l) = true ∧ SmT (hoD l) := by
  have hn : ∀ x ∈ l, nameS x = true := fun x hx => gn.nm x (L.sub x hx).1
  constructor
  · unfold housesB setB hoD
    have h1 : (l.map PyData.str).all nameB = true := by
      rw [List.all_map, List.all_eq_true]
      exact fun x hx => hn x hx
    have h0 : 0 < l.length := List.length_pos_iff.mpr L.ne
    show (((l.map PyData.str).all nameB && (zipD (l.map PyData.str) ((l.map PyData.str).drop 1)).all ltP) && decide (0 < (l.map PyData.str).length)) = true
    rw [h1, inc_all L.inc, List.length_map, decide_eq_true h0]; rfl
  · intro ds e
    cases e
    have := lot_len gn L
    refine ⟨by rw [List.length_map]; omega, fun d hd => ?_⟩
    obtain ⟨x, hx, rfl⟩ := List.mem_map.mp hd
    exact name_sm (hn x hx)
def L_wlot : Law := fun xs Φ => ∃ hs ws r l, xs = [.d (netD hs ws), .d (.str r), .d (hoD l)] ∧ GN hs ws ∧ LotOf hs r l ∧ Φ (.d .none)
abbrev N_want_lot : List Str := ["net", "root", "lot", "house"]
theorem sc_want_lot : FnScope N_want_lot ["net", "root", "lot"] (defScope (top 37)) := ⟨rfl, rfl, rfl, by decide +kernel, rfl, by decide +kernel, by decide +kernel⟩
theorem c_want_lot (T : Tx K mg C) (c_want_d : C8.Cal Pr w K mg base 1 "want" (mkSp K C L_need) [.int (-1)]) (c_is_houses : C8.Cal Pr w K mg base 3 "is_houses" (mkSp K C L_ishouses) []) (F : FnP K "want_lot" (top 37) [] f fd) (g : mg "want_lot" = some (.ref f)) : C8.Cal Pr w K mg base 4 "want_lot" (mkSp K C L_wlot) [] := by
  have sc := sc_want_lot
  refine calN F g (fun _ _ _ _ _ _ us hl => match us, hl with | [_, _, _], _ => rfl) (okD F sc (fun xs Φ h => by obtain ⟨a, b, c, d, rfl, _⟩ := h; rfl) (fun cdv A outer s H E hr => ?_))
  refine ⟨_, (pss_one (ps_expr (C8.pe_c c_want_d hr (by decide) (by rfl) (pa_cons (pe_and (C8.pe_c c_is_houses hr (by decide) (by rfl) (pa_cons (pv 2) pa_nil)) (pe_one (pe_callB (cr_allK K) (by rfl) T.m_all boot_all (pa_cons (pe_lc (own := [("house", 3)]) rfl sc.nd (pi_tupK K (pv 2)) (blkOk_by (by exact rfl)) (fun _ _ _ _ _ => (pg_name (i := 3) sc.nd rfl (.inl rfl))) (fun _ _ _ _ _ => pts_nil) (fun _ _ _ _ _ => (pe_and (pe_cmpR (op_inK K) (pv 3) (pe_ix (ix_seqK K) (pv 0) pe_int (fun _ _ => rfl)) rfl) (pe_one (pe_cmpR (op_neK K hr) (pv 3) (pv 1) (nomark _)))))) pa_nil)))) (pa_cons pe_str pa_nil))))), fun fd' xs Φ h => ?_⟩
  obtain ⟨hs, ws, r, l, rfl, gn, L, q⟩ := h
  obtain ⟨s1, s2⟩ := lot_set gn L
  have ll := lot_len gn L
  refine ds_drop (de_call (dxs := [.d (.int (-1))]) (fun _ => ⟨.int _, True.intro⟩) (da_cons (de_and (de_call0 (da_cons (de_var rfl (da_nil ⟨hoD l, rfl, s2, true, by rw [s1], ?_⟩)))))))
  rw [if_pos rfl]
  refine de_cb (da_cons (de_lcB l (fun h => .d (.str h)) (fun _ => .bool true) (di_tup (de_var rfl ⟨l.map .str, rfl, by rw [List.map_map]; rfl, szs (by omega)⟩)) (fun h hh => dg_name (by decide) ?_) (da_nil ?_)))
  · obtain ⟨m1, m2⟩ := L.sub h hh
    refine de_and (de_inH (de_var rfl (de_net0 (hs := hs) (ws := ws) (de_var rfl ⟨rfl, h, hs, _, rfl, rfl, .inr rfl, _, rfl, ?_⟩))))
    rw [decide_eq_true m1, if_pos rfl]
    refine de_nss (de_var rfl (de_var rfl ⟨h, r, rfl, rfl, ?_⟩))
    rw [decide_eq_false m2]; rfl
  · have e1 : (l.map fun _ => PyData.bool true) = (l.map fun _ => true).map .bool := by rw [List.map_map]; rfl
    rw [e1]
    refine dc_all (da_cons (de_str (da_nil ⟨.d (.str "lot"), .d (.int (-1)), ?_, q⟩)))
    rw [show (l.map fun _ => true).all id = true from by rw [List.all_map]; simp]; rfl
def L_wother : Law := fun xs Φ => ∃ hs ws r h, xs = [.d (netD hs ws), .d (.str r), .d (.str h)] ∧ GN hs ws ∧ r ∈ hs ∧ h ∈ hs ∧ h ≠ r ∧ Φ (.d .none)
abbrev N_want_other : List Str := ["net", "root", "house"]
theorem sc_want_other : FnScope N_want_other ["net", "root", "house"] (defScope (top 41)) := ⟨rfl, rfl, rfl, by decide +kernel, rfl, by decide +kernel, by decide +kernel⟩
theorem c_want_other (T : Tx K mg C) (c_want : C8.Cal Pr w K mg base 1 "want" (mkSp K C L_need) []) (c_want_root : C8.Cal Pr w K mg base 5 "want_root" (mkSp K C L_wroot) []) (c_want_house_d : C8.Cal Pr w K mg base 2 "want_house" (mkSp K C L_whouse) [.str "house"]) (F : FnP K "want_other" (top 41) [] f fd) (g : mg "want_other" = some (.ref f)) : C8.Cal Pr w K mg base 6 "want_other" (mkSp K C L_wother) [] := by
  have sc := sc_want_other
  refine calN F g (fun _ _ _ _ _ _ us hl => match us, hl with | [_, _, _], _ => rfl) (okD F sc (fun xs Φ h => by obtain ⟨a, b, c, d, rfl, _⟩ := h; rfl) (fun cdv A outer s H E hr => ?_))
  refine ⟨_, (pss_cons (ps_expr (C8.pe_c c_want_root hr (by decide) (by rfl) (pa_cons (pv 0) (pa_cons (pv 1) pa_nil))))
      (pss_cons (ps_expr (C8.pe_c c_want_house_d hr (by decide) (by rfl) (pa_cons (pv 0) (pa_cons (pv 2) pa_nil))))
      (pss_one (ps_expr (C8.pe_c c_want hr (by decide) (by rfl) (pa_cons (pe_cmpR (op_neK K hr) (pv 2) (pv 1) (nomark _)) (pa_cons pe_str (pa_cons (pv 2) pa_nil)))))))), fun fd' xs Φ h => ?_⟩
  obtain ⟨hs, ws, r, h, rfl, gn, rm, hm, hr', q⟩ := h
  refine ds_seq (ds_drop (de_call0 (da_cons (de_var rfl (da_cons (de_var rfl (da_nil ⟨hs, ws, r, rfl, gn, rm, ?_⟩)))))))
  refine ds_seq (ds_drop (de_call (dxs := [.d (.str "house")]) (fun _ => ⟨.str _, True.intro⟩) (da_cons (de_var rfl (da_cons (de_var rfl (da_nil ⟨hs, ws, h, _, rfl, gn, hm, ?_⟩)))))))
  refine ds_drop (de_call0 (da_cons (de_nss (de_var rfl (de_var rfl ⟨h, r, rfl, rfl, da_cons (de_str (da_cons (de_var rfl (da_nil ⟨.d (.str "house"), .d (.str h), ?_, q⟩))))⟩)))))
  rw [decide_eq_false hr']; rfl
end
end Z

/-! # ZK3 -/
set_option Elab.async false
set_option linter.all false
set_option maxRecDepth 100000
set_option maxHeartbeats 1000000
namespace Z
open PySem PySem.Spec PyProof.Rows L2 Fl
/-! ### the number of a house -/
open Classical in
theorem mf_le {ws : List (Str × Str)} {b g : Str} {T T' : List Nat} {k k' : Nat} (bg : b ≠ g) (M : MaxFlow ws b g T k) (F : Flow ws b g T' k') : k' ≤ k := by
  let S : Str → Bool := fun x => decide (¬ Reach ws T b x)
  have hb : S b = false := decide_eq_false (fun h => h .refl)
  obtain ⟨hg, hc⟩ := great_tight M (S := S) (fun x _ => by simp [S]) hb
  rw [← hc]
  exact cut_ge F hg hb
theorem mf_eq {ws : List (Str × Str)} {b g : Str} {T T' : List Nat} {k k' : Nat} (bg : b ≠ g) (M : MaxFlow ws b g T k) (M' : MaxFlow ws b g T' k') : k = k' :=
  Nat.le_antisymm (mf_le bg M' M.toFlow) (mf_le bg M M'.toFlow)
open Classical in
noncomputable def aK (ws : List (Str × Str)) (b g : Str) : Nat := if h : ∃ k T, MaxFlow ws b g T k then choose h else 0
theorem aK_eq {ws : List (Str × Str)} {b g : Str} {T : List Nat} {k : Nat} (bg : b ≠ g) (M : MaxFlow ws b g T k) : aK ws b g = k := by
  have h : ∃ k T, MaxFlow ws b g T k := ⟨k, T, M⟩
  unfold aK
  rw [dif_pos h]
  obtain ⟨T', M'⟩ := Classical.choose_spec h
  exact mf_eq bg M' M
section
variable {Pr : Program} {w : World} {K : PySem.W.Frag} {mg : Str → Option Value} {base : Heap} {C : Addr} {f : Addr} {fd : FuncData}
def L_aloneby : Law := fun xs Φ => ∃ hs ws r h, xs = [.d (netD hs ws), .d (.str r), .d (.str h)] ∧ GN hs ws ∧ r ∈ hs ∧ r ≠ h ∧ Φ (.d (.int (aK ws r h : Nat)))
abbrev N_alone_by : List Str := ["net", "root", "house"]
theorem sc_alone_by : FnScope N_alone_by ["net", "root", "house"] (defScope (top 61)) := ⟨rfl, rfl, rfl, by decide +kernel, rfl, by decide +kernel, by decide +kernel⟩
theorem c_alone_by (T : Tx K mg C) (c_many_of : C8.Cal Pr w K mg base 1 "many_of" (mkSp K C L_many) []) (c_taken_by : C8.Cal Pr w K mg base 3 "taken_by" (mkSp K C L_taken) []) (F : FnP K "alone_by" (top 61) [] f fd) (g : mg "alone_by" = some (.ref f)) : C8.Cal Pr w K mg base 4 "alone_by" (mkSp K C L_aloneby) [] := by
  have sc := sc_alone_by
  refine calN F g (fun _ _ _ _ _ _ us hl => match us, hl with | [_, _, _], _ => rfl) (okD F sc (fun xs Φ h => by obtain ⟨a, b, c, d, rfl, _⟩ := h; rfl) (fun cdv A outer s H E hr => ?_))
  refine ⟨_, (pss_one (ps_ret (C8.pe_c c_many_of hr (by decide) (by rfl) (pa_cons (pe_ix (ix_seqK K) (pv 0) pe_int (fun _ _ => rfl)) (pa_cons (C8.pe_c c_taken_by hr (by decide) (by rfl) (pa_cons (pe_ix (ix_seqK K) (pv 0) pe_int (fun _ _ => rfl)) (pa_cons (pv 1) (pa_cons (pv 2) pa_nil)))) (pa_cons (pv 1) pa_nil)))))), fun fd' xs Φ h => ?_⟩
  obtain ⟨hs, ws, r, h, rfl, gn, rm, rh, q⟩ := h
  have lw : ws.length ≤ 30 := Nat.le_trans gn.lw (by decide)
  refine ds_ret (de_call0 (da_cons (de_net1 (hs := hs) (ws := ws) (de_var rfl ⟨rfl, da_cons (de_call0 (da_cons (de_net1 (hs := hs) (ws := ws) (de_var rfl ⟨rfl, da_cons (de_var rfl (da_cons (de_var rfl (da_nil ⟨ws, r, h, rfl, lw, gn.ok, name_ok (gn.nm r rm), rh, fun T k M => da_cons (de_var rfl (da_nil ⟨ws, T, k, r, h, rfl, lw, rh, M.toFlow, ?_⟩))⟩))))⟩))))⟩))))
  rw [← aK_eq rh M]; exact q
def oth (hs : List Str) (r : Str) : List Str := hs.filter fun h => !decide (h = r)
theorem mem_oth {hs : List Str} {r h : Str} : h ∈ oth hs r ↔ h ∈ hs ∧ h ≠ r := by unfold oth; simp
def L_others : Law := fun xs Φ => ∃ hs ws r, xs = [.d (netD hs ws), .d (.str r)] ∧ hs.length ≤ 1000 ∧ Φ (.d (hoD (oth hs r)))
abbrev N_others_of : List Str := ["net", "root", "house"]
theorem sc_others_of : FnScope N_others_of ["net", "root"] (defScope (top 62)) := ⟨rfl, rfl, rfl, by decide +kernel, rfl, by decide +kernel, by decide +kernel⟩
theorem filterMap_if {α β : Type} (p : α → Bool) (f : α → β) : ∀ l : List α, l.filterMap (fun x => if p x = true then some (f x) else none) = (l.filter p).map f
  | [] => rfl
  | a :: r => by
    rw [List.filterMap_cons, List.filter_cons]
    cases p a with
    | true => exact congrArg _ (filterMap_if p f r)
    | false => exact filterMap_if p f r
theorem c_others_of (T : Tx K mg C) (F : FnP K "others_of" (top 62) [] f fd) (g : mg "others_of" = some (.ref f)) : C8.Cal Pr w K mg base 1 "others_of" (mkSp K C L_others) [] := by
  have sc := sc_others_of
  refine calN F g (fun _ _ _ _ _ _ us hl => match us, hl with | [_, _], _ => rfl) (okD F sc (fun xs Φ h => by obtain ⟨a, b, c, rfl, _⟩ := h; rfl) (fun cdv A outer s H E hr => ?_))
  refine ⟨_, (pss_one (ps_ret (pe_callTy (call_tupK K) (by rfl) T.m_tuple boot_tuple (pa_cons (pe_lc (own := [("house", 2)]) rfl sc.nd (pi_tupK K (pe_ix (ix_seqK K) (pv 0) pe_int (fun _ _ => rfl))) (blkOk_by (by exact rfl)) (fun _ _ _ _ _ => (pg_name (i := 2) sc.nd rfl (.inl rfl))) (fun _ _ _ _ _ => pts_one (pt_cmpR (op_neK K hr) (pv 2) (pv 1) (nomark _))) (fun _ _ _ _ _ => (pv 2))) pa_nil)))), fun fd' xs Φ h => ?_⟩
  obtain ⟨hs, ws, r, rfl, hl, q⟩ := h
  refine ds_ret (de_cb (da_cons (de_lcA hs (fun h => .d (.str h)) (fun h => if (!decide (h = r)) = true then some (.str h) else none) (di_tup (de_net0 (hs := hs) (ws := ws) (de_var rfl ⟨rfl, hs.map .str, rfl, by rw [List.map_map]; rfl, szs (by omega)⟩))) (fun h hh => dg_name (by decide) (dt_test (de_nss (de_var rfl (de_var rfl ⟨h, r, rfl, rfl, _, rfl, ?_⟩))))) (da_nil (dc_tupL ?_)))))
  · by_cases e : h = r
    · rw [decide_eq_true e]; rfl
    · rw [decide_eq_false e]; exact de_var rfl ⟨_, rfl, rfl⟩
  · rw [filterMap_if]; exact q

/-! ### entered_by -/
def L_entered : Law := fun xs Φ => ∃ hs ws l, xs = [.d (netD hs ws), .d (hoD l)] ∧ l.Nodup ∧ l.length ≤ 1000 ∧ ws.length ≤ 1000 ∧ ∀ r : List Nat, r.length = cut ws (fun x => decide (x ∈ l)) → Φ (.d (.tuple (ixD r)))
abbrev N_entered_by : List Str := ["net", "lot", "inside", "house", "index", "wire"]
theorem sc_entered_by : FnScope N_entered_by ["net", "lot"] (defScope (top 46)) := ⟨rfl, rfl, rfl, by decide +kernel, rfl, by decide +kernel, by decide +kernel⟩
theorem de_inside {P : Pm} {ρ : List En} {te : TE} {i : Nat} {l : List Str} {Φ : KD} (nd : l.Nodup) (hl : l.length ≤ 1000) (h : De P te ρ fun x => x = .d (hoD l)) (hi : (wipeE ρ [i]).length = ρ.length ∧ i < ρ.length) (q : Φ (.dk false (bkD l))) : De P (tDc (iTup P.K te) (gName i) tYes (tVar i) (tC (.bl true)) [i]) ρ Φ := by
  refine de_dc (fun j acc => acc = bkD (l.take j)) (di_tup (h.mono fun x e => ⟨l.map .str, e, ?_, rfl, fun j x acc hx ea => ?_, fun acc ea => ?_⟩))
  · rw [List.length_map, List.length_map]; exact szs (by omega)
  · subst ea
    rw [List.map_map, List.getElem?_map] at hx
    cases hp : l[j]? with
    | none => rw [hp] at hx; exact nomatch hx
    | some s =>
      rw [hp] at hx; cases hx
      have lt := (List.getElem?_eq_some_iff.mp hp).1
      have e1 : ((wipeE ρ [i]).set i (.fz (.d (.str s))))[i]? = some (.fz (.d (.str s))) := List.getElem?_set_self (by rw [hi.1]; exact hi.2)
      refine dg_name (by simp) (dt_yes (show if true = true then _ else _ from by
        rw [if_pos rfl]
        refine de_var e1 (de_bl ⟨.inr s, .bool true, rfl, rfl, ?_⟩)
        have ni : s ∉ l.take j := fun hm => by
          obtain ⟨j', hj, e⟩ := List.getElem_of_mem hm
          rw [List.getElem_take] at e
          rw [List.length_take] at hj
          have := Z.nd_ix nd (i := j') (j := j) (by rw [List.getElem?_eq_getElem (by omega), e]) hp
          omega
        rw [bkD_put ni]
        rw [List.take_succ_eq_append_getElem lt, (List.getElem?_eq_some_iff.mp hp).2]))
  · rw [List.length_map, List.length_map, List.take_length] at ea
    rw [ea]; exact q
theorem c_entered_by (T : Tx K mg C) (F : FnP K "entered_by" (top 46) [] f fd) (g : mg "entered_by" = some (.ref f)) : C8.Cal Pr w K mg base 1 "entered_by" (mkSp K C L_entered) [] := by
  have sc := sc_entered_by
  refine calN F g (fun _ _ _ _ _ _ us hl => match us, hl with | [_, _], _ => rfl) (okD F sc (fun xs Φ h => by obtain ⟨a, b, c, rfl, _⟩ := h; rfl) (fun cdv A outer s H E hr => ?_))
  refine ⟨_, (pss_cons (ps_set (i := 2) sc.nd rfl (.inr rfl) (pe_dc (own := [("house", 3)]) rfl sc.nd (pi_tupK K (pv 1)) (blkOk_by (by exact rfl)) (fun _ _ _ _ _ => (pg_name (i := 3) sc.nd rfl (.inl rfl))) (fun _ _ _ _ _ => pts_nil) (fun _ _ _ _ _ => (pv 3)) (fun _ _ _ _ _ => pe_bl)))
      (pss_one (ps_ret (pe_callTy (call_tupK K) (by rfl) T.m_tuple boot_tuple (pa_cons (pe_lc (own := [("index", 4), ("wire", 5)]) rfl sc.nd (pi_enTK K (by rfl) T.m_enumerate (pa_cons (pe_ix (ix_seqK K) (pv 0) pe_int (fun _ _ => rfl)) pa_nil)) (blkOk_by (by exact rfl)) (fun _ _ _ _ _ => (pg_tupK K 2 (pgs_cons (pg_name (i := 4) sc.nd rfl (.inl rfl)) (pgs_cons (pg_name (i := 5) sc.nd rfl (.inl rfl)) pgs_nil)))) (fun _ _ _ _ _ => pts_one (PW.pt (pw_and (pt_cmp (pc_din (hu_of hr) (pe_ix (ix_seqK K) (pv 5) pe_int (fun _ _ => rfl)) (pv 2)) rfl) (pw_and1 (pt_cmp (pc_dnotin (hu_of hr) (pe_ix (ix_seqK K) (pv 5) pe_int (fun _ _ => rfl)) (pv 2)) rfl))))) (fun _ _ _ _ _ => (pv 4))) pa_nil))))), fun fd' xs Φ h => ?_⟩
  obtain ⟨hs, ws, l, rfl, nd, hl, hw, q⟩ := h
  refine ds_seq (ds_setz (de_inside nd hl (de_var rfl rfl) ⟨rfl, by show 3 < 6; decide⟩ ?_))
  refine ds_ret (de_cb (da_cons (de_lcA ws.zipIdx (fun p => .d (.tuple [.int (p.2 : Nat), prD p.1])) (fun p => if enters (fun x => decide (x ∈ l)) p.1 = true then some (.int (p.2 : Nat)) else none) ?_ (fun p hp => dg2 (by decide) (by decide) (dt_and (dt_b (de_din (de_ix (de_var rfl (de_int ⟨prD p.1, [.str p.1.1, .str p.1.2], 1, .str p.1.2, rfl, rfl, .inr rfl, rfl, de_var rfl ⟨_, .inl ⟨false, bkD l, .inr p.1.2, rfl, rfl, rfl⟩, _, rfl, ?_⟩⟩))))))) (da_nil (dc_tupL ?_)))))
  · exact di_enT (da_cons (de_net1 (hs := hs) (ws := ws) (de_var rfl ⟨rfl, da_nil ⟨ws.map prD, rfl, by rw [enum_map, List.map_map]; exact ⟨rfl, by rw [List.length_zipIdx]; exact szs (by omega)⟩⟩⟩)))
  · rw [bkD_val]
    by_cases e : p.1.2 ∈ l
    · rw [decide_eq_true e]
      refine dt_b (de_dnotin (de_ix (de_var rfl (de_int ⟨prD p.1, [.str p.1.1, .str p.1.2], 0, .str p.1.1, rfl, rfl, .inr rfl, rfl, de_var rfl ⟨_, .inl ⟨false, bkD l, .inr p.1.1, rfl, rfl, rfl⟩, _, rfl, ?_⟩⟩))))
      rw [bkD_val]
      by_cases e2 : p.1.1 ∈ l
      · rw [decide_eq_true e2]; exact if_neg (by unfold enters; simp [e2])
      · rw [decide_eq_false e2]; exact de_var rfl ⟨_, rfl, if_pos (by unfold enters; simp [e, e2])⟩
    · rw [decide_eq_false e]; exact if_neg (by unfold enters; simp [e])
  · rw [filterMap_if (fun p : (Str × Str) × Nat => enters (fun x => decide (x ∈ l)) p.1) (fun p => PyData.int (p.2 : Nat))]
    have := q ((ws.zipIdx.filter fun p => enters (fun x => decide (x ∈ l)) p.1).map (·.2)) ?_
    · rw [ixD, List.map_map] at this; exact this
    · rw [List.length_map]
      unfold cut
      have e : ws.filter (enters fun x => decide (x ∈ l)) = (ws.zipIdx.filter fun p => enters (fun x => decide (x ∈ l)) p.1).map (·.1) := by
        have e0 : ws.zipIdx.map Prod.fst = ws := List.zipIdx_map_fst ..
        have e1 := List.filter_map (f := Prod.fst) (p := enters fun x => decide (x ∈ l)) (l := ws.zipIdx)
        rw [e0] at e1
        exact e1
      rw [e, List.length_map]

/-! ### is_lot -/
def inNet (hs : List Str) (r : Str) : PyData → Bool
  | .str s => decide (s ∈ hs) && !decide (s = r)
  | _ => false
def lotB (hs : List Str) (r : Str) (x : PyData) : Bool := housesB x && (match x with | .tuple ds => ds.all (inNet hs r) | _ => false)
def L_islot : Law := fun xs Φ => ∃ hs ws r x, xs = [.d (netD hs ws), .d (.str r), .d x] ∧ GN hs ws ∧ SmT x ∧ Φ (.d (.bool (lotB hs r x)))
abbrev N_is_lot : List Str := ["net", "root", "thing", "known", "house"]
theorem sc_is_lot : FnScope N_is_lot ["net", "root", "thing"] (defScope (top 50)) := ⟨rfl, rfl, rfl, by decide +kernel, rfl, by decide +kernel, by decide +kernel⟩
theorem c_is_lot (T : Tx K mg C) (c_is_houses : C8.Cal Pr w K mg base 3 "is_houses" (mkSp K C L_ishouses) []) (F : FnP K "is_lot" (top 50) [] f fd) (g : mg "is_lot" = some (.ref f)) : C8.Cal Pr w K mg base 4 "is_lot" (mkSp K C L_islot) [] := by
  have sc := sc_is_lot
  refine calN F g (fun _ _ _ _ _ _ us hl => match us, hl with | [_, _, _], _ => rfl) (okD F sc (fun xs Φ h => by obtain ⟨a, b, c, d, rfl, _⟩ := h; rfl) (fun cdv A outer s H E hr => ?_))
  refine ⟨_, (pss_cons (ps_if (pt_not (pt_val (C8.pe_c c_is_houses hr (by decide) (by rfl) (pa_cons (pv 2) pa_nil)))) (pss_one (ps_ret pe_bl)) pss_nil)
      (pss_cons (ps_set (i := 3) sc.nd rfl (.inr rfl) (pe_dc (own := [("house", 4)]) rfl sc.nd (pi_tupK K (pe_ix (ix_seqK K) (pv 0) pe_int (fun _ _ => rfl))) (blkOk_by (by exact rfl)) (fun _ _ _ _ _ => (pg_name (i := 4) sc.nd rfl (.inl rfl))) (fun _ _ _ _ _ => pts_nil) (fun _ _ _ _ _ => (pv 4)) (fun _ _ _ _ _ => pe_bl)))
      (pss_one (ps_ret (pe_callB (cr_allK K) (by rfl) T.m_all boot_all (pa_cons (pe_lc (own := [("house", 4)]) rfl sc.nd (pi_tupK K (pv 2)) (blkOk_by (by exact rfl)) (fun _ _ _ _ _ => (pg_name (i := 4) sc.nd rfl (.inl rfl))) (fun _ _ _ _ _ => pts_nil) (fun _ _ _ _ _ => (pe_and (pe_cmp (pc_din (hu_of hr) (pv 4) (pv 3)) rfl) (pe_one (pe_cmpR (op_neK K hr) (pv 4) (pv 1) (nomark _)))))) pa_nil)))))), fun fd' xs Φ h => ?_⟩
  obtain ⟨hs, ws, r, x, rfl, gn, sm, q⟩ := h
  refine ds_seq (ds_if (dt_not (dt_b (de_call0 (da_cons (de_var rfl (da_nil ⟨x, rfl, sm, _, rfl, ?_⟩)))))))
  unfold lotB at q
  cases e : housesB x with
  | false => rw [e] at q; exact ds_ret (de_bl q)
  | true =>
    rw [e, Bool.true_and] at q
    cases x with
    | tuple ds =>
      have hs' : setB (.tuple ds) = true := by
        unfold housesB at e
        rw [Bool.and_eq_true] at e; exact e.1
      have hn : ds.all nameB = true := by
        have : (ds.all nameB && _) = true := hs'
        rw [Bool.and_eq_true] at this; exact this.1
      obtain ⟨ss, rfl, hn⟩ := names_strs hn
      have hl := (sm _ rfl).1
      rw [List.length_map] at hl
      have lh := gn.lh
      refine ds_next (ds_seq (ds_setz (de_inside (slt_nd gn.inc) (by omega) (de_net0 (hs := hs) (ws := ws) (de_var rfl ⟨rfl, rfl⟩)) ⟨rfl, by show 4 < 5; decide⟩ ?_)))
      refine ds_ret (de_cb (da_cons (de_lcB ss (fun s => .d (.str s)) (fun s => .bool (decide (s ∈ hs) && !decide (s = r))) (di_tup (de_var rfl ⟨ss.map .str, rfl, by rw [List.map_map]; rfl, szs (by omega)⟩)) (fun s hm => dg_name (by decide) (de_and (de_din (de_var rfl (de_var rfl ⟨_, .inl ⟨false, bkD hs, .inr s, rfl, rfl, rfl⟩, _, rfl, ?_⟩))))) (da_nil ?_))))
      · rw [bkD_val]
        by_cases e1 : s ∈ hs
        · rw [decide_eq_true e1]
          exact de_nss (de_var rfl (de_var rfl ⟨s, r, rfl, rfl, rfl⟩))
        · rw [decide_eq_false e1]; rfl
      · have e1 : (ss.map fun s => PyData.bool (decide (s ∈ hs) && !decide (s = r))) = (ss.map fun s => decide (s ∈ hs) && !decide (s = r)).map .bool := by rw [List.map_map]; rfl
        rw [e1]
        refine dc_all ?_
        rw [List.all_map]
        have e2 : (ss.map PyData.str).all (inNet hs r) = ss.all (id ∘ fun s => decide (s ∈ hs) && !decide (s = r)) := by rw [List.all_map]; rfl
        rw [← e2]; exact q
    | _ => exact nomatch e
theorem lotB_of {hs : List Str} {ws : List (Str × Str)} {r : Str} {l : List Str} (gn : GN hs ws) (L : LotOf hs r l) : lotB hs r (hoD l) = true := by
  unfold lotB
  rw [(lot_set gn L).1, Bool.true_and]
  show (l.map PyData.str).all (inNet hs r) = true
  rw [List.all_map, List.all_eq_true]
  intro x hx
  have := L.sub x hx
  show (decide (x ∈ hs) && !decide (x = r)) = true
  rw [decide_eq_true this.1, decide_eq_false this.2]; rfl

/-! ### narrow_by, narrow_lot -/
def L_narrowby : Law := fun xs Φ => ∃ hs ws r, xs = [.d (netD hs ws), .d (.str r)] ∧ GN hs ws ∧ r ∈ hs ∧ (oth hs r = [] → Φ (.d .none)) ∧
  ∀ h T k (p : Str → Bool), h ∈ oth hs r → (∀ h' ∈ oth hs r, aK ws r h ≤ aK ws r h') → MaxFlow ws r h T k → (∀ x, p x = true ↔ ¬ Reach ws T r x) → Φ (.d (.tuple [.int (aK ws r h : Nat), hoD (hs.filter p)]))
abbrev N_narrow_by : List Str := ["net", "root", "numbers", "house", "many"]
theorem sc_narrow_by : FnScope N_narrow_by ["net", "root"] (defScope (top 63)) := ⟨rfl, rfl, rfl, by decide +kernel, rfl, by decide +kernel, by decide +kernel⟩
theorem shaped_ns {ps : List (Int × Str)} (h : ∀ p ∈ ps, OkS p.2) : SeqAt.shaped (.list (ps.map nsD)) = true := by
  unfold SeqAt.shaped
  have h1 : PyData.canLayAll0 (ps.map nsD) = true := lay_all fun d hd => by
    obtain ⟨p, hp, rfl⟩ := List.mem_map.mp hd
    unfold nsD
    rw [PyData.canLay0.eq_6, PyData.canLayAll0.eq_2, PyData.canLayAll0.eq_2, PyData.canLayAll0.eq_1, PyData.canLay0.eq_3, PyData.canLay0.eq_4, h p hp]; rfl
  have h2 : PyData.depthAll (ps.map nsD) ≤ 1 := depth_all fun d hd => by
    obtain ⟨p, hp, rfl⟩ := List.mem_map.mp hd
    unfold nsD
    rw [PyData.depth.eq_2, PyData.depthAll.eq_2, PyData.depthAll.eq_2, PyData.depthAll.eq_1, PyData.depth.eq_7, PyData.depth.eq_6]
    decide
  rw [PyData.canLay0.eq_5, PyData.depth.eq_1, h1, Bool.true_and]
  exact decide_eq_true (by omega)
theorem de_eqnil {P : Pm} {ρ : List En} {ta tb : TE} {Φ : KD} (h : De P ta ρ fun x => De P tb ρ fun y => ∃ ds, x = .d (.list ds) ∧ SeqAt.shaped (.list ds) = true ∧ y = .d (.list []) ∧ Φ (.d (.bool ds.isEmpty))) : De P (tOp (fun x y H Q => rEq x y H Q ∨ rEqD P.K x y H Q) ta tb) ρ Φ :=
  de_op (h.mono fun x h => De.mono h fun y ⟨a, e, hs, e', q⟩ => by subst e; subst e'; exact DOp.inr (dop_eqD hs shaped_nil.1 (by rw [(eqv_nil a).1]; exact q)))
theorem c_narrow_by (T : Tx K mg C) (c_others_of : C8.Cal Pr w K mg base 1 "others_of" (mkSp K C L_others) []) (c_alone_by : C8.Cal Pr w K mg base 4 "alone_by" (mkSp K C L_aloneby) []) (c_greatest_side : C8.Cal Pr w K mg base 4 "greatest_side" (mkSp K C L_greatest) []) (F : FnP K "narrow_by" (top 63) [] f fd) (g : mg "narrow_by" = some (.ref f)) : C8.Cal Pr w K mg base 5 "narrow_by" (mkSp K C L_narrowby) [] := by
  have sc := sc_narrow_by
  refine calN F g (fun _ _ _ _ _ _ us hl => match us, hl with | [_, _], _ => rfl) (okD F sc (fun xs Φ h => by obtain ⟨a, b, c, rfl, _⟩ := h; rfl) (fun cdv A outer s H E hr => ?_))
  refine ⟨_, (pss_cons (ps_setLc (i := 2) (own := [("house", 3)]) rfl sc.nd rfl rfl (sw_true rfl rfl rfl (by exact rfl)) (pi_tupK K (C8.pe_c c_others_of hr (by decide) (by rfl) (pa_cons (pv 0) (pa_cons (pv 1) pa_nil)))) (blkOk_by (by exact rfl)) (fun _ _ _ _ _ => (pg_name (i := 3) sc.nd rfl (.inl rfl))) (fun _ _ _ _ _ => pts_nil) (fun _ _ _ _ _ => (pe_tup (pa_cons (C8.pe_c c_alone_by hr (by decide) (by rfl) (pa_cons (pv 0) (pa_cons (pv 1) (pa_cons (pv 3) pa_nil)))) (pa_cons (pv 3) pa_nil)))))
      (pss_cons (ps_if (pt_cmpR (op_eqK K hr) (pv 2) (pe_lst pa_nil) (nomark _)) (pss_one (ps_ret pe_non)) pss_nil)
      (pss_cons (ps_asg (pe_callB (call_minK K hr) (by rfl) T.m_min boot_min (pa_cons (pv 2) pa_nil)) (pg_tupK K 2 (pgs_cons (pg_name (i := 4) sc.nd rfl (.inl rfl)) (pgs_cons (pg_name (i := 3) sc.nd rfl (.inl rfl)) pgs_nil))))
      (pss_one (ps_ret (pe_tup (pa_cons (pv 4) (pa_cons (C8.pe_c c_greatest_side hr (by decide) (by rfl) (pa_cons (pe_ix (ix_seqK K) (pv 0) pe_int (fun _ _ => rfl)) (pa_cons (pe_ix (ix_seqK K) (pv 0) pe_int (fun _ _ => rfl)) (pa_cons (pv 1) (pa_cons (pv 3) pa_nil))))) pa_nil)))))))), fun fd' xs Φ h => ?_⟩
  obtain ⟨hs, ws, r, rfl, gn, rm, q0, q⟩ := h
  have lh := gn.lh
  have lo : (oth hs r).length ≤ 20 := Nat.le_trans (List.length_filter_le _ _) lh
  have lw : ws.length ≤ 30 := Nat.le_trans gn.lw (by decide)
  refine ds_seq (ds_setz (de_lcB (oth hs r) (fun h => .d (.str h)) (fun h => nsD ((aK ws r h : Nat), h)) ?_ (fun h hh => dg_name (by decide) ?_) ?_))
  · exact di_tup (de_call0 (da_cons (de_var rfl (da_cons (de_var rfl (da_nil ⟨hs, ws, r, rfl, by omega, _, rfl, by rw [List.map_map]; rfl, szs (by omega)⟩))))))
  · obtain ⟨m1, m2⟩ := mem_oth.mp hh
    exact de_tup (da_cons (de_call0 (da_cons (de_var rfl (da_cons (de_var rfl (da_cons (de_var rfl (da_nil ⟨hs, ws, r, h, rfl, gn, rm, fun e => m2 e.symm, da_cons (de_var rfl (da_nil ⟨[_, _], rfl, szn rfl, rfl⟩))⟩)))))))))
  have e1 : (oth hs r).map (fun h => nsD ((aK ws r h : Nat), h)) = ((oth hs r).map fun h => (((aK ws r h : Nat) : Int), h)).map nsD := by rw [List.map_map]; rfl
  rw [e1]
  refine ds_seq (ds_if (dt_test (de_eqnil (de_var rfl (de_lst (da_nil ⟨[], rfl, szn rfl, _, rfl, shaped_ns (fun p hp => ?_), rfl, _, rfl, ?_⟩))))))
  · obtain ⟨h, hh, rfl⟩ := List.mem_map.mp hp
    exact name_ok (gn.nm h (mem_oth.mp hh).1)
  by_cases e0 : oth hs r = []
  · rw [e0]
    exact ds_ret (de_non (q0 e0))
  · have e2 : (((oth hs r).map fun h => (((aK ws r h : Nat) : Int), h)).map nsD).isEmpty = false := by simpa using e0
    rw [e2]
    refine ds_next (ds_seq (ds_asg (vs := [4, 3]) (de_cb (da_cons (de_var rfl (da_nil (dc_minNs (by simpa using e0) fun p hp hmin => ?_)))))))
    obtain ⟨h, hh, rfl⟩ := List.mem_map.mp hp
    obtain ⟨m1, m2⟩ := mem_oth.mp hh
    refine dg2 (by decide) (by decide) ?_
    refine ds_ret (de_tup (da_cons (de_var rfl (da_cons (de_call0 (da_cons (de_net0 (hs := hs) (ws := ws) (de_var rfl ⟨rfl, da_cons (de_net1 (hs := hs) (ws := ws) (de_var rfl ⟨rfl, da_cons (de_var rfl (da_cons (de_var rfl (da_nil ⟨hs, ws, r, h, rfl, by omega, lw, gn.ok, name_ok (gn.nm r rm), fun e => m2 e.symm, fun T k p M hp => da_nil ⟨[.int (aK ws r h : Nat), hoD (hs.filter p)], rfl, szn rfl, ?_⟩⟩))))⟩))⟩))))))))
    refine q h T k p hh (fun h' hh' => ?_) M hp
    have := hmin (((aK ws r h' : Nat) : Int), h') (List.mem_map.mpr ⟨h', hh', rfl⟩)
    simpa using this
def L_narrow : Law := fun xs Φ => ∃ hs ws r, xs = [.d (netD hs ws), .d (.str r)] ∧ GN hs ws ∧ r ∈ hs ∧ (oth hs r = [] → Φ (.d .none)) ∧
  ∀ h T k (p : Str → Bool), h ∈ oth hs r → (∀ h' ∈ oth hs r, aK ws r h ≤ aK ws r h') → MaxFlow ws r h T k → (∀ x, p x = true ↔ ¬ Reach ws T r x) → Φ (.d (hoD (hs.filter p)))
abbrev N_narrow_lot : List Str := ["net", "root", "found"]
theorem sc_narrow_lot : FnScope N_narrow_lot ["net", "root"] (defScope (top 65)) := ⟨rfl, rfl, rfl, by decide +kernel, rfl, by decide +kernel, by decide +kernel⟩
theorem c_narrow_lot (T : Tx K mg C) (c_want_root : C8.Cal Pr w K mg base 5 "want_root" (mkSp K C L_wroot) []) (c_narrow_by : C8.Cal Pr w K mg base 5 "narrow_by" (mkSp K C L_narrowby) []) (F : FnP K "narrow_lot" (top 65) [] f fd) (g : mg "narrow_lot" = some (.ref f)) : C8.Cal Pr w K mg base 6 "narrow_lot" (mkSp K C L_narrow) [] := by
  have sc := sc_narrow_lot
  refine calN F g (fun _ _ _ _ _ _ us hl => match us, hl with | [_, _], _ => rfl) (okD F sc (fun xs Φ h => by obtain ⟨a, b, c, rfl, _⟩ := h; rfl) (fun cdv A outer s H E hr => ?_))
  refine ⟨_, (pss_cons (ps_expr (C8.pe_c c_want_root hr (by decide) (by rfl) (pa_cons (pv 0) (pa_cons (pv 1) pa_nil))))
      (pss_cons (ps_set (i := 2) sc.nd rfl (.inl rfl) (C8.pe_c c_narrow_by hr (by decide) (by rfl) (pa_cons (pv 0) (pa_cons (pv 1) pa_nil))))
      (pss_one (ps_ret (pe_ifExp (pt_cmp (pc_isN (pv 2)) rfl) pe_non (pe_ix (ix_seqK K) (pv 2) pe_int (fun _ _ => rfl))))))), fun fd' xs Φ h => ?_⟩
  obtain ⟨hs, ws, r, rfl, gn, rm, q0, q⟩ := h
  refine ds_seq (ds_drop (de_call0 (da_cons (de_var rfl (da_cons (de_var rfl (da_nil ⟨hs, ws, r, rfl, gn, rm, ?_⟩)))))))
  refine ds_seq (ds_setz (de_call0 (da_cons (de_var rfl (da_cons (de_var rfl (da_nil ⟨hs, ws, r, rfl, gn, rm, fun e => ?_, fun h T k p hh hm M hp => ?_⟩)))))))
  · exact ds_ret (de_if (dt_b (de_isN (de_var rfl ⟨.none, rfl, true, rfl, de_non (q0 e)⟩))))
  · refine ds_ret (de_if (dt_b (de_isN (de_var rfl ⟨_, rfl, false, rfl, de_ix (de_var rfl (de_int ⟨_, [.int (aK ws r h : Nat), hoD (hs.filter p)], 1, hoD (hs.filter p), rfl, rfl, .inr rfl, rfl, q h T k p hh hm M hp⟩))⟩))))
end
end Z

/-! # ZK4 -/
set_option Elab.async false
set_option linter.all false
set_option maxRecDepth 100000
set_option maxHeartbeats 1000000
namespace Z
open PySem PySem.Spec PyProof.Rows L2 Fl
/-! ### is_way -/
theorem de_lendD {P : Pm} {ρ : List En} {te : TE} {Φ : Prop} (h : De P te (frzA ρ) fun x => Flat x ∧ Φ) : De P te ρ fun _ => Φ := de_lend h
theorem path_end {ws : List (Str × Str)} {b : Str} {q : List Nat} {a : Str} (h : Path ws b q a) : a = match q.getLast? with | none => b | some i => (ws[i]?.map Prod.snd).getD b := by
  cases h with
  | nil => rfl
  | snoc p e => simp [e]
theorem path_uni {ws : List (Str × Str)} {b : Str} {q : List Nat} {a c : Str} (h1 : Path ws b q a) (h2 : Path ws b q c) : a = c := (path_end h1).trans (path_end h2).symm
theorem fl_sub (l : List (List Nat)) (i : Nat) : (l.take i).flatten.Sublist l.flatten := by
  have h : l.flatten = (l.take i).flatten ++ (l.drop i).flatten := by rw [← List.flatten_append, List.take_append_drop]
  rw [h]
  exact List.sublist_append_left _ _
/-- where one stands after i wires of a way, and which houses one was at -/
theorem way_at {ws : List (Str × Str)} {b g : Str} {r : List Nat} (W : Way ws b r g) : ∀ i, i ≤ r.length → ∃ (x : Str) (vis : List Str), Path ws b (r.take i) x ∧ vis.map some = tails ws (r.take i) ++ [some x]
  | 0, _ => ⟨b, [b], by rw [List.take_zero]; exact .nil b, by rw [List.take_zero]; rfl⟩
  | i + 1, h => by
    obtain ⟨x, vis, p, e⟩ := way_at W i (by omega)
    have hr : r[i]? = some r[i] := List.getElem?_eq_getElem (by omega)
    have lt := W.path.lt r[i] (List.getElem_mem _)
    obtain ⟨⟨t, h⟩, ew⟩ : ∃ e, ws[r[i]]? = some e := ⟨_, List.getElem?_eq_getElem lt⟩
    have p2 := W.path.take i r[i] t h hr ew
    have tk : r.take (i + 1) = r.take i ++ [r[i]] := by rw [List.take_succ_eq_append_getElem (by omega)]
    have ext : t = x := by
      exact path_uni p2 p
    subst ext
    refine ⟨h, vis ++ [h], by rw [tk]; exact .snoc p ew, ?_⟩
    rw [List.map_append, e, tk, tails_append]
    simp [tails, ew]
def L_isway : Law := fun xs Φ => ∃ hs ws b g r, xs = [.d (netD hs ws), .d (.str b), .d (.str g), .d (wyD r)] ∧ ws.length ≤ 1000 ∧ Way ws b r g ∧ Φ (.d (.bool true))
abbrev N_is_way : List Str := ["net", "begin", "goal", "thing", "index", "known", "here", "tail", "head"]
theorem sc_is_way : FnScope N_is_way ["net", "begin", "goal", "thing"] (defScope (top 49)) := ⟨rfl, rfl, rfl, by decide +kernel, rfl, by decide +kernel, by decide +kernel⟩
section
variable {Pr : Program} {w : World} {K : PySem.W.Frag} {mg : Str → Option Value} {base : Heap} {C : Addr} {f : Addr} {fd : FuncData}
theorem c_is_way (T : Tx K mg C) (c_is_number : C8.Cal Pr w K mg base 2 "is_number" (mkSp K C L_isnum) []) (F : FnP K "is_way" (top 49) [] f fd) (g : mg "is_way" = some (.ref f)) : C8.Cal Pr w K mg base 3 "is_way" (mkSp K C L_isway) [] := by
  have sc := sc_is_way
  refine calN F g (fun _ _ _ _ _ _ us hl => match us, hl with | [_, _, _, _], _ => rfl) (okD F sc (fun xs Φ h => by obtain ⟨a, b, c, d, e, rfl, _⟩ := h; rfl) (fun cdv A outer s H E hr => ?_))
  refine ⟨_, (pss_cons (ps_if (PW.pt (pw_or (pt_not (pt_val (pe_callB (call_isiK' K) (by rfl) T.m_isinstance boot_isinstance (pa_cons (pv 3) (pa_cons (pe_bltn (v := .ty "tuple") (by rfl) T.m_tuple boot_tuple rfl) pa_nil))))) (pw_or1 (pt_not (pt_val (pe_callB (cr_allK K) (by rfl) T.m_all boot_all (pa_cons (pe_lc (own := [("index", 4)]) rfl sc.nd (pi_tupK K (pv 3)) (blkOk_by (by exact rfl)) (fun _ _ _ _ _ => (pg_name (i := 4) sc.nd rfl (.inl rfl))) (fun _ _ _ _ _ => pts_nil) (fun _ _ _ _ _ => (pe_and (C8.pe_c c_is_number hr (by decide) (by rfl) (pa_cons (pv 4) pa_nil)) (pe_one (pe_cmpR op_ltA (pv 4) (pe_callB (call_lenK K) (by rfl) T.m_len boot_len (pa_cons (pe_ix (ix_seqK K) (pv 0) pe_int (fun _ _ => rfl)) pa_nil)) (nomark _)))))) pa_nil))))))) (pss_one (ps_ret pe_bl)) pss_nil)
      (pss_cons (ps_par (i := 5) (j := 6) rfl sc.nd rfl rfl (by decide) rfl rfl (pa_cons (pe_disp (pps_cons (pv 1) pe_bl pps_nil) (by rfl) (by rfl) (fun z => by cases z) (by decide)) (pa_cons (pv 1) pa_nil)) (by rfl))
      (pss_cons (ps_for PassesOwn.never rfl (pi_tupK K (pv 3)) (pg_name (i := 4) sc.nd rfl (.inl rfl)) (pss_cons (ps_asg (pe_ix (ix_seqK K) (pe_ix (ix_seqK K) (pv 0) pe_int (fun _ _ => rfl)) (pv 4) (fun _ _ => rfl)) (pg_tupK K 2 (pgs_cons (pg_name (i := 7) sc.nd rfl (.inl rfl)) (pgs_cons (pg_name (i := 8) sc.nd rfl (.inl rfl)) pgs_nil))))
      (pss_cons (ps_if (PW.pt (pw_or (pt_cmpR (op_neK K hr) (pv 7) (pv 6) (nomark _)) (pw_or1 (pt_cmp (pc_din (hu_of hr) (pv 8) (pv 5)) rfl)))) (pss_one (ps_ret pe_bl)) pss_nil)
      (pss_cons (ps_dput (hu_of hr) (pv 5) (pv 8) pe_bl rfl)
      (pss_one (ps_set (i := 6) sc.nd rfl (.inl rfl) (pv 8)))))))
      (pss_one (ps_ret (pe_cmpR (op_eqK K hr) (pv 6) (pv 2) (nomark _))))))), fun fd' xs Φ h => ?_⟩
  obtain ⟨hs, ws, b, g, r, rfl, lw, W, q⟩ := h
  have lr := way_len W
  refine ds_seq (ds_if (dt_or (dt_not (dt_b (de_cb (da_cons (de_var rfl (da_cons (de_ty (da_nil (dc_isi (kit_tup _) ⟨true, rfl, ?_⟩)))))))))))
  show Dt _ _ _ _
  refine dt_not (dt_b (de_cb (da_cons (de_lcB r (fun (i : Nat) => .d (.int (i : Int))) (fun _ => .bool true) (di_tup (de_var rfl ⟨ixD r, rfl, by rw [ixD, List.map_map]; rfl, szs (by omega)⟩)) (fun i hi => dg_name (by decide) (de_and (de_call0 (da_cons (de_var rfl (da_nil ⟨_, rfl, _, rfl, ?_⟩)))))) (da_nil ?_)))))
  · show if decide ((0 : Int) ≤ (i : Nat)) = true then _ else _
    rw [decide_eq_true (by omega : (0 : Int) ≤ (i : Nat)), if_pos rfl]
    refine de_ltI (de_var rfl (de_cb (da_cons (de_net1 (hs := hs) (ws := ws) (de_var rfl ⟨rfl, da_nil (dc_len (.inr rfl) ⟨_, _, rfl, rfl, ?_⟩)⟩)))))
    have := W.path.lt i hi
    rw [List.length_map, decide_eq_true (by omega)]
  have e1 : (r.map fun _ => PyData.bool true) = (r.map fun _ => true).map .bool := by rw [List.map_map]; rfl
  rw [e1]
  refine dc_all ⟨true, by rw [show (r.map fun _ => true).all id = true by rw [List.all_map]; simp], ?_⟩
  refine ds_next (ds_seq (ds_par (dal_cons (dw_dict1 (de_var rfl (de_bl ⟨.inr b, .bool true, rfl, rfl, dal_cons (dw_of (de_var rfl (dal_nil ⟨_, _, rfl, ?_⟩)))⟩))))))
  let V0 : En := .fz (.d (netD hs ws))
  let V1 : En := .fz (.d (.str b))
  let V2 : En := .fz (.d (.str g))
  let V3 : En := .fz (.d (wyD r))
  refine ds_seq (ds_forW [4, 7, 8] (fun i ρ' => ∃ x vis, ρ' = [V0, V1, V2, V3, .un, .od (bkD vis), .fz (.d (.str x)), .un, .un] ∧ Path ws b (r.take i) x ∧ vis.map some = tails ws (r.take i) ++ [some x] ∧ vis.length ≤ i + 1)
    (di_tup (de_var rfl ⟨ixD r, rfl, [4], ⟨b, [b], rfl, by rw [List.take_zero]; exact .nil b, by rw [List.take_zero]; rfl, by simp⟩, ?_, ?_⟩)))
  · rintro i v ρ2 hv ⟨x, vis, rfl, p, ev, lv⟩
    rw [List.getElem?_map, ixD, List.getElem?_map] at hv
    cases hp : r[i]? with
    | none => rw [hp] at hv; exact nomatch hv
    | some l =>
      rw [hp] at hv; cases hv
      have li := (List.getElem?_eq_some_iff.mp hp).1
      have ll := W.path.lt l (List.mem_of_getElem? hp)
      obtain ⟨⟨t, h⟩, ew⟩ : ∃ e, ws[l]? = some e := ⟨_, List.getElem?_eq_getElem ll⟩
      have tk : r.take (i + 1) = r.take i ++ [l] := by rw [List.take_succ_eq_append_getElem li, (List.getElem?_eq_some_iff.mp hp).2]
      obtain ⟨x2, vis2, p2, ev2⟩ := way_at W (i + 1) (by omega)
      -- the wire leaves where one stands
      have hx : t = x := by
        have q1 := W.path.take i l t h hp ew
        obtain ⟨x3, vis3, p3, ev3⟩ := way_at W i (by omega)
        exact path_uni q1 p
      subst hx
      refine dg_name (by decide) ?_
      refine ds_seq (ds_asg (vs := [7, 8]) (de_ix (de_net1 (hs := hs) (ws := ws) (de_var rfl ⟨rfl, de_var rfl ⟨wiD ws, ws.map prD, (l : Nat), prD (t, h), rfl, rfl, .inr rfl, wi_at ew, ?_⟩⟩))))
      refine dg2 (a := .str t) (b := .str h) (by decide) (by decide) ?_
      have fresh : h ∉ vis := by
        intro hm
        have hm2 : some h ∈ tails ws (r.take i) ++ [some t] := by rw [← ev]; exact List.mem_map.mpr ⟨h, hm, rfl⟩
        have hm3 : some h ∈ tails ws (r.take (i + 1)) := by rw [tk, tails_append]; simpa [tails, ew] using hm2
        by_cases e : i + 1 < r.length
        · have hr : r[i + 1]? = some r[i + 1] := List.getElem?_eq_getElem e
          have l2 := W.path.lt r[i + 1] (List.getElem_mem _)
          obtain ⟨⟨t2, h2⟩, ew2⟩ : ∃ e, ws[r[i + 1]]? = some e := ⟨_, List.getElem?_eq_getElem l2⟩
          have q2 := W.path.take (i + 1) r[i + 1] t2 h2 hr ew2
          have q3 : Path ws b (r.take (i + 1)) h := by rw [tk]; exact .snoc p ew
          have e2 := path_uni q2 q3
          subst e2
          have nd := W.nd
          have e3 : (tails ws r)[i + 1]? = some (some t2) := by unfold tails; rw [List.getElem?_map, hr]; simp [ew2]
          obtain ⟨j, hj, e4⟩ := List.getElem_of_mem hm3
          have e5 : tails ws (r.take (i + 1)) = (tails ws r).take (i + 1) := by simp [tails]
          have lj : j < i + 1 := by
            rw [e5, List.length_take] at hj; omega
          have e6 : (tails ws r)[j]? = some (some t2) := by
            have : (tails ws (r.take (i + 1)))[j]? = some (some t2) := by rw [List.getElem?_eq_getElem hj, e4]
            rw [e5, List.getElem?_take_of_lt lj] at this
            exact this
          have := Z.nd_ix nd e3 e6
          omega
        · have e7 : r.take (i + 1) = r := List.take_of_length_le (by omega)
          have q3 : Path ws b (r.take (i + 1)) h := by rw [tk]; exact .snoc p ew
          rw [e7] at q3 hm3
          have := path_uni q3 W.path
          subst this
          exact W.new hm3
      refine ds_seq (ds_if (dt_or (dt_test (de_nss (de_var rfl (de_var rfl ⟨t, t, rfl, rfl, _, rfl, ?_⟩))))))
      rw [decide_eq_true rfl]
      refine dt_lend (dt_b (de_din (de_var rfl (de_var rfl ⟨_, .inl ⟨false, bkD vis, .inr h, rfl, rfl, rfl⟩, _, rfl, ?_⟩))))
      rw [bkD_val, decide_eq_false fresh]
      refine ds_next (ds_seq (ds_dput (kvs := bkD vis) rfl rfl (de_bl (de_var rfl ⟨.inr h, .bool true, rfl, rfl, by rw [bkD, List.length_map]; exact szs (by omega), ?_⟩))))
      rw [bkD_put fresh]
      refine ds_setz (de_var rfl ⟨h, vis ++ [h], rfl, by rw [tk]; exact .snoc p ew, ?_, by rw [List.length_append, List.length_singleton]; omega⟩)
      rw [List.map_append, ev, tk, tails_append]
      simp [tails, ew]
  · rintro ρ2 ⟨x, vis, rfl, p, ev, lv⟩
    rw [List.length_map, ixD, List.length_map, List.take_length] at p
    have := path_uni p W.path
    subst this
    refine ds_ret (de_ss (de_var rfl (de_var rfl ⟨x, x, rfl, rfl, ?_⟩)))
    rw [decide_eq_true rfl]; exact q

/-! ### is_alone_shape, need_ways, lets_alone -/
def paD (wys : List (List Nat)) (l : List Str) : PyData := .tuple [.str "alone", .tuple (wys.map wyD), hoD l]
def L_shape : Law := fun xs Φ => ∃ (wys : List (List Nat)) (l : List Str), xs = [.d (paD wys l)] ∧ Φ (.d (.bool true))
abbrev N_is_alone_shape : List Str := ["thing"]
theorem sc_is_alone_shape : FnScope N_is_alone_shape ["thing"] (defScope (top 52)) := ⟨rfl, rfl, rfl, by decide +kernel, rfl, by decide +kernel, by decide +kernel⟩
theorem c_is_alone_shape (T : Tx K mg C) (F : FnP K "is_alone_shape" (top 52) [] f fd) (g : mg "is_alone_shape" = some (.ref f)) : C8.Cal Pr w K mg base 1 "is_alone_shape" (mkSp K C L_shape) [] := by
  have sc := sc_is_alone_shape
  refine calN F g (fun _ _ _ _ _ _ us hl => match us, hl with | [_], _ => rfl) (okD F sc (fun xs Φ h => by obtain ⟨a, b, rfl, _⟩ := h; rfl) (fun cdv A outer s H E hr => ?_))
  refine ⟨_, (pss_cons (ps_if (PW.pt (pw_or (pt_not (pt_val (pe_callB (call_isiK' K) (by rfl) T.m_isinstance boot_isinstance (pa_cons (pv 0) (pa_cons (pe_bltn (v := .ty "tuple") (by rfl) T.m_tuple boot_tuple rfl) pa_nil))))) (pw_or (pt_cmpR (op_neK K hr) (pe_callB (call_lenK K) (by rfl) T.m_len boot_len (pa_cons (pv 0) pa_nil)) pe_int (nomark _)) (pw_or1 (pt_not (pt_val (pe_callB (call_isiK' K) (by rfl) T.m_isinstance boot_isinstance (pa_cons (pe_ix (ix_seqK K) (pv 0) pe_int (fun _ _ => rfl)) (pa_cons (pe_bltn (v := .ty "str") (by rfl) T.m_str boot_str rfl) pa_nil))))))))) (pss_one (ps_ret pe_bl)) pss_nil)
      (pss_one (ps_ret (pe_and (pe_cmpR (op_eqK K hr) (pe_ix (ix_seqK K) (pv 0) pe_int (fun _ _ => rfl)) (C8.pe_gc (v := .str "alone") (by rfl) T.gAL) (nomark _)) (pe_and (pe_callB (call_isiK' K) (by rfl) T.m_isinstance boot_isinstance (pa_cons (pe_ix (ix_seqK K) (pv 0) pe_int (fun _ _ => rfl)) (pa_cons (pe_bltn (v := .ty "tuple") (by rfl) T.m_tuple boot_tuple rfl) pa_nil))) (pe_one (pe_callB (call_isiK' K) (by rfl) T.m_isinstance boot_isinstance (pa_cons (pe_ix (ix_seqK K) (pv 0) pe_int (fun _ _ => rfl)) (pa_cons (pe_bltn (v := .ty "tuple") (by rfl) T.m_tuple boot_tuple rfl) pa_nil))))))))), fun fd' xs Φ h => ?_⟩
  obtain ⟨wys, l, rfl, q⟩ := h
  refine ds_seq (ds_if (dt_or (dt_not (dt_b (de_cb (da_cons (de_var rfl (da_cons (de_ty (da_nil (dc_isi (kit_tup _) ⟨true, rfl, ?_⟩)))))))))))
  refine dt_or (dt_test (de_nii (de_cb (da_cons (de_var rfl (da_nil (dc_len (.inr rfl) (de_int ⟨3, 3, rfl, rfl, false, rfl, ?_⟩))))))))
  refine dt_not (dt_b (de_cb (da_cons (de_ix (de_var rfl (de_int ⟨_, [.str "alone", .tuple (wys.map wyD), hoD l], 0, _, rfl, rfl, .inr rfl, rfl, da_cons (de_ty (da_nil (dc_isi (kit_str _) ⟨true, rfl, ?_⟩)))⟩))))))
  refine ds_next (ds_ret (de_and (de_ss (de_ix (de_var rfl (de_int ⟨_, [.str "alone", .tuple (wys.map wyD), hoD l], 0, _, rfl, rfl, .inr rfl, rfl, de_str ⟨"alone", "alone", rfl, rfl, true, by rw [decide_eq_true rfl], ?_⟩⟩))))))
  refine de_and (de_cb (da_cons (de_ix (de_var rfl (de_int ⟨_, [.str "alone", .tuple (wys.map wyD), hoD l], 1, _, rfl, rfl, .inr rfl, rfl, da_cons (de_ty (da_nil (dc_isi (kit_tup _) ⟨true, rfl, ?_⟩)))⟩)))))
  exact de_cb (da_cons (de_ix (de_var rfl (de_int ⟨_, [.str "alone", .tuple (wys.map wyD), hoD l], 2, _, rfl, rfl, .inr rfl, rfl, da_cons (de_ty (da_nil (dc_isi (kit_tup _) q)))⟩))))
def L_needways : Law := fun xs Φ => ∃ (hs : List Str) (ws : List (Str × Str)) (r h : Str) (wys : List (List Nat)), xs = [.d (netD hs ws), .d (.str r), .d (.str h), .d (.tuple (wys.map wyD))] ∧ ws.length ≤ 1000 ∧ wys.length ≤ 1000 ∧ (∀ w ∈ wys, Way ws r w h) ∧ wys.flatten.Nodup ∧ Φ (.d .none)
abbrev N_need_ways : List Str := ["net", "root", "house", "ways", "known", "k", "way", "index"]
theorem sc_need_ways : FnScope N_need_ways ["net", "root", "house", "ways"] (defScope (top 53)) := ⟨rfl, rfl, rfl, by decide +kernel, rfl, by decide +kernel, by decide +kernel⟩
theorem c_need_ways (T : Tx K mg C) (c_need : C8.Cal Pr w K mg base 1 "need" (mkSp K C L_need) []) (c_is_way : C8.Cal Pr w K mg base 3 "is_way" (mkSp K C L_isway) []) (F : FnP K "need_ways" (top 53) [] f fd) (g : mg "need_ways" = some (.ref f)) : C8.Cal Pr w K mg base 4 "need_ways" (mkSp K C L_needways) [] := by
  have sc := sc_need_ways
  refine calN F g (fun _ _ _ _ _ _ us hl => match us, hl with | [_, _, _, _], _ => rfl) (okD F sc (fun xs Φ h => by obtain ⟨a, b, c, d, e, rfl, _⟩ := h; rfl) (fun cdv A outer s H E hr => ?_))
  refine ⟨_, (pss_cons (ps_set (i := 4) sc.nd rfl (.inr rfl) pe_dnewK)
      (pss_one (ps_for PassesOwn.never rfl (pi_enTK K (by rfl) T.m_enumerate (pa_cons (pv 3) pa_nil)) (pg_tupK K 2 (pgs_cons (pg_name (i := 5) sc.nd rfl (.inl rfl)) (pgs_cons (pg_name (i := 6) sc.nd rfl (.inl rfl)) pgs_nil))) (pss_cons (ps_expr (C8.pe_c c_need hr (by decide) (by rfl) (pa_cons (C8.pe_c c_is_way hr (by decide) (by rfl) (pa_cons (pv 0) (pa_cons (pv 1) (pa_cons (pv 2) (pa_cons (pv 6) pa_nil))))) (pa_cons pe_str (pa_cons (pv 5) pa_nil)))))
      (pss_cons (ps_expr (C8.pe_c c_need hr (by decide) (by rfl) (pa_cons (pe_not (pe_callB (cr_anyK K) (by rfl) T.m_any boot_any (pa_cons (pe_lc (own := [("index", 7)]) rfl sc.nd (pi_tupK K (pv 6)) (blkOk_by (by exact rfl)) (fun _ _ _ _ _ => (pg_name (i := 7) sc.nd rfl (.inl rfl))) (fun _ _ _ _ _ => pts_nil) (fun _ _ _ _ _ => (pe_cmp (pc_din (hu_of hr) (pv 7) (pv 4)) rfl))) pa_nil))) (pa_cons pe_str (pa_cons (pv 5) pa_nil)))))
      (pss_one (ps_for PassesOwn.never rfl (pi_tupK K (pv 6)) (pg_name (i := 7) sc.nd rfl (.inl rfl)) (pss_one (ps_dput (hu_of hr) (pv 4) (pv 7) pe_bl rfl))))))))), fun fd' xs Φ h => ?_⟩
  obtain ⟨hs, ws, r, h, wys, rfl, lw, ly, hW, nd, q⟩ := h
  let V0 : En := .fz (.d (netD hs ws))
  let V1 : En := .fz (.d (.str r))
  let V2 : En := .fz (.d (.str h))
  let V3 : En := .fz (.d (.tuple (wys.map wyD)))
  have fl : ∀ {u : List Nat}, u.Nodup → (∀ i ∈ u, i < ws.length) → u.length ≤ 1000 := fun hn hl => Nat.le_trans (ix_len ⟨hn, hl⟩) lw
  have flt : ∀ i ∈ wys.flatten, i < ws.length := fun i hi => by
    obtain ⟨w, h1, h2⟩ := List.mem_flatten.mp hi
    exact (hW w h1).path.lt i h2
  refine ds_seq (ds_set (dw_dnew ?_))
  refine ds_forW [5, 6, 7] (fun i ρ' => ρ' = [V0, V1, V2, V3, .od (tkD (wys.take i).flatten), .un, .un, .un])
    (di_enT (da_cons (de_var rfl (da_nil ⟨wys.map wyD, rfl, [5, 6], rfl, ?_, ?_⟩))))
  · rintro i v ρ2 hv rfl
    rw [List.getElem?_map, enumD_at, List.getElem?_map] at hv
    cases hp : wys[i]? with
    | none => rw [hp] at hv; exact nomatch hv
    | some y =>
      rw [hp] at hv; cases hv
      have my := List.mem_of_getElem? hp
      have li := (List.getElem?_eq_some_iff.mp hp).1
      have tk : wys.take (i + 1) = wys.take i ++ [y] := by rw [List.take_succ_eq_append_getElem li, (List.getElem?_eq_some_iff.mp hp).2]
      have pre : ((wys.take i).flatten ++ y).Nodup := by
        have h1 : (wys.take (i + 1)).flatten = (wys.take i).flatten ++ y := by rw [tk, List.flatten_append]; simp
        rw [← h1]
        exact nd.sublist (fl_sub _ _)
      have Wy := hW y my
      have ly2 := way_len Wy
      refine dg2 (by decide) (by decide) ?_
      refine ds_seq (ds_drop (de_call0 (da_cons (de_call0 (da_cons (de_var rfl (da_cons (de_var rfl (da_cons (de_var rfl (da_cons (de_var rfl (da_nil ⟨hs, ws, r, h, y, rfl, lw, Wy, da_cons (de_str (da_cons (de_var rfl (da_nil ⟨_, _, rfl, ?_⟩))))⟩)))))))))))))
      refine ds_seq (ds_drop (de_lendD ?_))
      refine de_call0 (da_cons (de_not (de_cb (da_cons (de_lcB y (fun (j : Nat) => .d (.int (j : Int))) (fun _ => .bool false) (di_tup (de_var rfl ⟨ixD y, rfl, by rw [ixD, List.map_map]; rfl, szs (by omega)⟩)) ?_ (da_nil ?_))))))
      · refine fun j hj => dg_name (by decide) (de_din (de_var rfl (de_var rfl ⟨_, .inl ⟨false, tkD (wys.take i).flatten, .inl (j : Nat), rfl, rfl, rfl⟩, ?_⟩)))
        show Dv.d (.bool _) = _
        rw [valD_tk, decide_eq_false]
        intro hm
        rw [List.nodup_append] at pre
        exact pre.2.2 j hm j hj rfl
      have e1 : (y.map fun _ => PyData.bool false) = (y.map fun _ => false).map .bool := by rw [List.map_map]; rfl
      rw [e1]
      refine dc_any ⟨false, by rw [show (y.map fun _ => false).any id = false by rw [List.any_map]; simp], da_cons (de_str (da_cons (de_var rfl (da_nil ⟨_, _, rfl, True.intro, ?_⟩))))⟩
      refine ds_forW [7] (fun j ρ' => ρ' = [V0, V1, V2, V3, .od (tkD ((wys.take i).flatten ++ y.take j)), .fz (.d (.int (i : Nat))), .fz (.d (wyD y)), .un])
        (di_tup (de_var rfl ⟨ixD y, rfl, [7], by rw [List.take_zero, List.append_nil]; rfl, ?_, ?_⟩))
      · rintro j v ρ2 hv rfl
        rw [List.getElem?_map, ixD, List.getElem?_map] at hv
        cases hq : y[j]? with
        | none => rw [hq] at hv; exact nomatch hv
        | some l =>
          rw [hq] at hv; cases hv
          have lj := (List.getElem?_eq_some_iff.mp hq).1
          have tk2 : y.take (j + 1) = y.take j ++ [l] := by rw [List.take_succ_eq_append_getElem lj, (List.getElem?_eq_some_iff.mp hq).2]
          have pr2 : ((wys.take i).flatten ++ y.take j ++ [l]).Nodup := by
            rw [List.append_assoc, ← tk2]
            exact pre.sublist ((List.Sublist.refl _).append (List.take_sublist _ _))
          have ni : l ∉ (wys.take i).flatten ++ y.take j := fun hm => by
            rw [List.nodup_append] at pr2
            exact pr2.2.2 l hm l (by simp) rfl
          have lu : ((wys.take i).flatten ++ y.take j).length ≤ 1000 := fl (pr2.sublist (List.sublist_append_left _ _)) fun a ha => by
            rcases List.mem_append.mp ha with h | h
            · exact flt a ((fl_sub _ _).subset h)
            · exact Wy.path.lt a ((List.take_sublist _ _).subset h)
          refine dg_name (by decide) (ds_dput (kvs := tkD ((wys.take i).flatten ++ y.take j)) rfl rfl (de_bl (de_var rfl ⟨.inl (l : Nat), .bool true, rfl, rfl, by rw [tkD, List.length_map]; exact szs (by omega), ?_⟩)))
          rw [tkD_put ni, List.append_assoc, ← tk2]; rfl
      · rintro ρ2 rfl
        rw [List.length_map, ixD, List.length_map, List.take_length]
        have e2 : (wys.take (i + 1)).flatten = (wys.take i).flatten ++ y := by rw [tk, List.flatten_append]; simp
        rw [e2]; rfl
  · rintro ρ2 rfl
    exact q
end
end Z

/-! # ZK5 -/
set_option Elab.async false
set_option linter.all false
set_option maxRecDepth 100000
set_option maxHeartbeats 1000000
namespace Z
open PySem PySem.Spec PyProof.Rows L2 Fl
section
variable {Pr : Program} {w : World} {K : PySem.W.Frag} {mg : Str → Option Value} {base : Heap} {C : Addr} {f : Addr} {fd : FuncData}
theorem lot_smT {hs : List Str} {ws : List (Str × Str)} {r : Str} {l : List Str} (gn : GN hs ws) (L : LotOf hs r l) : SmT (hoD l) := (lot_set gn L).2
def L_letsalone : Law := fun xs Φ => ∃ (hs : List Str) (ws : List (Str × Str)) (r h : Str) (wys : List (List Nat)) (l : List Str), xs = [.d (netD hs ws), .d (.str r), .d (.str h), .d (paD wys l)] ∧ GN hs ws ∧ r ∈ hs ∧ h ∈ hs ∧ h ≠ r ∧
  (∀ w ∈ wys, Way ws r w h) ∧ wys.flatten.Nodup ∧ LotOf hs r l ∧ h ∈ l ∧ cut ws (fun x => decide (x ∈ l)) = wys.length ∧ Φ (.d (.int (wys.length : Nat)))
abbrev N_lets_alone : List Str := ["net", "root", "house", "thing", "word", "ways", "lot"]
theorem sc_lets_alone : FnScope N_lets_alone ["net", "root", "house", "thing"] (defScope (top 54)) := ⟨rfl, rfl, rfl, by decide +kernel, rfl, by decide +kernel, by decide +kernel⟩
theorem c_lets_alone (T : Tx K mg C) (c_want_other : C8.Cal Pr w K mg base 6 "want_other" (mkSp K C L_wother) []) (c_need_d : C8.Cal Pr w K mg base 1 "need" (mkSp K C L_need) [.int (-1)]) (c_is_alone_shape : C8.Cal Pr w K mg base 1 "is_alone_shape" (mkSp K C L_shape) []) (c_need_ways : C8.Cal Pr w K mg base 4 "need_ways" (mkSp K C L_needways) []) (c_is_lot : C8.Cal Pr w K mg base 4 "is_lot" (mkSp K C L_islot) []) (c_entered_by : C8.Cal Pr w K mg base 1 "entered_by" (mkSp K C L_entered) [])
    (F : FnP K "lets_alone" (top 54) [] f fd) (g : mg "lets_alone" = some (.ref f)) : C8.Cal Pr w K mg base 7 "lets_alone" (mkSp K C L_letsalone) [] := by
  have sc := sc_lets_alone
  refine calN F g (fun _ _ _ _ _ _ us hl => match us, hl with | [_, _, _, _], _ => rfl) (okD F sc (fun xs Φ h => by obtain ⟨a, b, c, d, e, e2, rfl, _⟩ := h; rfl) (fun cdv A outer s H E hr => ?_))
  refine ⟨_, (pss_cons (ps_expr (C8.pe_c c_want_other hr (by decide) (by rfl) (pa_cons (pv 0) (pa_cons (pv 1) (pa_cons (pv 2) pa_nil)))))
      (pss_cons (ps_expr (C8.pe_c c_need_d hr (by decide) (by rfl) (pa_cons (C8.pe_c c_is_alone_shape hr (by decide) (by rfl) (pa_cons (pv 3) pa_nil)) (pa_cons pe_str pa_nil))))
      (pss_cons (ps_asg (pv 3) (pg_tupK K 3 (pgs_cons (pg_name (i := 4) sc.nd rfl (.inl rfl)) (pgs_cons (pg_name (i := 5) sc.nd rfl (.inl rfl)) (pgs_cons (pg_name (i := 6) sc.nd rfl (.inl rfl)) pgs_nil)))))
      (pss_cons (ps_expr (C8.pe_c c_need_ways hr (by decide) (by rfl) (pa_cons (pv 0) (pa_cons (pv 1) (pa_cons (pv 2) (pa_cons (pv 5) pa_nil))))))
      (pss_cons (ps_expr (C8.pe_c c_need_d hr (by decide) (by rfl) (pa_cons (pe_and (C8.pe_c c_is_lot hr (by decide) (by rfl) (pa_cons (pv 0) (pa_cons (pv 1) (pa_cons (pv 6) pa_nil)))) (pe_one (pe_cmpR (op_inK K) (pv 2) (pv 6) rfl))) (pa_cons pe_str pa_nil))))
      (pss_cons (ps_expr (C8.pe_c c_need_d hr (by decide) (by rfl) (pa_cons (pe_cmpR (op_eqK K hr) (pe_callB (call_lenK K) (by rfl) T.m_len boot_len (pa_cons (C8.pe_c c_entered_by hr (by decide) (by rfl) (pa_cons (pv 0) (pa_cons (pv 6) pa_nil))) pa_nil)) (pe_callB (call_lenK K) (by rfl) T.m_len boot_len (pa_cons (pv 5) pa_nil)) (nomark _)) (pa_cons pe_str pa_nil))))
      (pss_one (ps_ret (pe_callB (call_lenK K) (by rfl) T.m_len boot_len (pa_cons (pv 5) pa_nil)))))))))), fun fd' xs Φ h => ?_⟩
  obtain ⟨hs, ws, r, h, wys, l, rfl, gn, rm, hm, hr', hW, nd, L, hl, hc, q⟩ := h
  have lw := gn.lw
  have ll := lot_len gn L
  have lc := cut_le ws (fun x => decide (x ∈ l))
  refine ds_seq (ds_drop (de_call0 (da_cons (de_var rfl (da_cons (de_var rfl (da_cons (de_var rfl (da_nil ⟨hs, ws, r, h, rfl, gn, rm, hm, hr', ?_⟩)))))))))
  refine ds_seq (ds_drop (de_call (dxs := [.d (.int (-1))]) (fun _ => ⟨.int _, True.intro⟩) (da_cons (de_call0 (da_cons (de_var rfl (da_nil ⟨wys, l, rfl, da_cons (de_str (da_nil ⟨_, _, rfl, ?_⟩))⟩)))))))
  refine ds_seq (ds_asg (vs := [4, 5, 6]) (de_var rfl (dg3 (a := .str "alone") (b := .tuple (wys.map wyD)) (c := hoD l) (by decide) (by decide) (by decide) ?_)))
  refine ds_seq (ds_drop (de_call0 (da_cons (de_var rfl (da_cons (de_var rfl (da_cons (de_var rfl (da_cons (de_var rfl (da_nil ⟨hs, ws, r, h, wys, rfl, by omega, by omega, hW, nd, ?_⟩)))))))))))
  refine ds_seq (ds_drop (de_call (dxs := [.d (.int (-1))]) (fun _ => ⟨.int _, True.intro⟩) (da_cons (de_and (de_call0 (da_cons (de_var rfl (da_cons (de_var rfl (da_cons (de_var rfl (da_nil ⟨hs, ws, r, hoD l, rfl, gn, lot_smT gn L, true, by rw [lotB_of gn L], ?_⟩))))))))))))
  rw [if_pos rfl]
  refine de_inH (de_var rfl (de_var rfl ⟨h, l, hoD l, rfl, rfl, .inr rfl, da_cons (de_str (da_nil ⟨.d (.str "lot"), .d (.int (-1)), by rw [decide_eq_true hl]; rfl, ?_⟩))⟩))
  refine ds_seq (ds_drop (de_call (dxs := [.d (.int (-1))]) (fun _ => ⟨.int _, True.intro⟩) (da_cons (de_ii (de_cb (da_cons (de_call0 (da_cons (de_var rfl (da_cons (de_var rfl (da_nil ⟨hs, ws, l, rfl, slt_nd L.inc, by omega, by omega, fun u hu => da_nil (dc_len (.inr rfl) (de_cb (da_cons (de_var rfl (da_nil (dc_len (.inr rfl) ⟨_, _, rfl, rfl, da_cons (de_str (da_nil ⟨.d (.str "many"), .d (.int (-1)), ?_, ?_⟩))⟩))))))⟩))))))))))))
  · rw [ixD, List.length_map, List.length_map, hu, hc, decide_eq_true rfl]; rfl
  refine ds_ret (de_cb (da_cons (de_var rfl (da_nil (dc_len (.inr rfl) ?_)))))
  rw [List.length_map]; exact q
/-! ### ways_apart, alone_paper -/
def L_apart : Law := fun xs Φ => ∃ (hs : List Str) (ws : List (Str × Str)) (r h : Str), xs = [.d (netD hs ws), .d (.str r), .d (.str h)] ∧ GN hs ws ∧ r ∈ hs ∧ h ∈ hs ∧ h ≠ r ∧
  ∀ wys : List (List Nat), wys.length = aK ws r h → (∀ w ∈ wys, Way ws r w h) → wys.flatten.Nodup → Φ (.d (.tuple (wys.map wyD)))
abbrev N_ways_apart : List Str := ["net", "root", "house"]
theorem sc_ways_apart : FnScope N_ways_apart ["net", "root", "house"] (defScope (top 56)) := ⟨rfl, rfl, rfl, by decide +kernel, rfl, by decide +kernel, by decide +kernel⟩
theorem c_ways_apart (T : Tx K mg C) (c_want_other : C8.Cal Pr w K mg base 6 "want_other" (mkSp K C L_wother) []) (c_ways_of : C8.Cal Pr w K mg base 4 "ways_of" (mkSp K C L_ways) []) (F : FnP K "ways_apart" (top 56) [] f fd) (g : mg "ways_apart" = some (.ref f)) : C8.Cal Pr w K mg base 7 "ways_apart" (mkSp K C L_apart) [] := by
  have sc := sc_ways_apart
  refine calN F g (fun _ _ _ _ _ _ us hl => match us, hl with | [_, _, _], _ => rfl) (okD F sc (fun xs Φ h => by obtain ⟨a, b, c, d, rfl, _⟩ := h; rfl) (fun cdv A outer s H E hr => ?_))
  refine ⟨_, (pss_cons (ps_expr (C8.pe_c c_want_other hr (by decide) (by rfl) (pa_cons (pv 0) (pa_cons (pv 1) (pa_cons (pv 2) pa_nil)))))
      (pss_one (ps_ret (C8.pe_c c_ways_of hr (by decide) (by rfl) (pa_cons (pe_ix (ix_seqK K) (pv 0) pe_int (fun _ _ => rfl)) (pa_cons (pv 1) (pa_cons (pv 2) pa_nil))))))), fun fd' xs Φ h => ?_⟩
  obtain ⟨hs, ws, r, h, rfl, gn, rm, hm, hr', q⟩ := h
  have lw := gn.lw
  refine ds_seq (ds_drop (de_call0 (da_cons (de_var rfl (da_cons (de_var rfl (da_cons (de_var rfl (da_nil ⟨hs, ws, r, h, rfl, gn, rm, hm, hr', ?_⟩)))))))))
  exact ds_ret (de_call0 (da_cons (de_net1 (hs := hs) (ws := ws) (de_var rfl ⟨rfl, da_cons (de_var rfl (da_cons (de_var rfl (da_nil ⟨ws, r, h, rfl, by omega, gn.ok, name_ok (gn.nm r rm), hr'.symm, fun T k wys M e hW nd => q wys (e.trans (aK_eq hr'.symm M).symm) hW nd⟩))))⟩))))
def L_paper : Law := fun xs Φ => ∃ (hs : List Str) (ws : List (Str × Str)) (r h : Str), xs = [.d (netD hs ws), .d (.str r), .d (.str h)] ∧ GN hs ws ∧ r ∈ hs ∧ h ∈ hs ∧ h ≠ r ∧
  ∀ (wys : List (List Nat)) T k (p : Str → Bool), wys.length = aK ws r h → (∀ w ∈ wys, Way ws r w h) → wys.flatten.Nodup → MaxFlow ws r h T k → (∀ x, p x = true ↔ ¬ Reach ws T r x) → Φ (.d (paD wys (hs.filter p)))
abbrev N_alone_paper : List Str := ["net", "root", "house"]
theorem sc_alone_paper : FnScope N_alone_paper ["net", "root", "house"] (defScope (top 44)) := ⟨rfl, rfl, rfl, by decide +kernel, rfl, by decide +kernel, by decide +kernel⟩
theorem c_alone_paper (T : Tx K mg C) (c_want_other : C8.Cal Pr w K mg base 6 "want_other" (mkSp K C L_wother) []) (c_ways_of : C8.Cal Pr w K mg base 4 "ways_of" (mkSp K C L_ways) []) (c_greatest_side : C8.Cal Pr w K mg base 4 "greatest_side" (mkSp K C L_greatest) []) (F : FnP K "alone_paper" (top 44) [] f fd) (g : mg "alone_paper" = some (.ref f)) : C8.Cal Pr w K mg base 7 "alone_paper" (mkSp K C L_paper) [] := by
  have sc := sc_alone_paper
  refine calN F g (fun _ _ _ _ _ _ us hl => match us, hl with | [_, _, _], _ => rfl) (okD F sc (fun xs Φ h => by obtain ⟨a, b, c, d, rfl, _⟩ := h; rfl) (fun cdv A outer s H E hr => ?_))
  refine ⟨_, (pss_cons (ps_expr (C8.pe_c c_want_other hr (by decide) (by rfl) (pa_cons (pv 0) (pa_cons (pv 1) (pa_cons (pv 2) pa_nil)))))
      (pss_one (ps_ret (pe_tup (pa_cons (C8.pe_gc (v := .str "alone") (by rfl) T.gAL) (pa_cons (C8.pe_c c_ways_of hr (by decide) (by rfl) (pa_cons (pe_ix (ix_seqK K) (pv 0) pe_int (fun _ _ => rfl)) (pa_cons (pv 1) (pa_cons (pv 2) pa_nil)))) (pa_cons (C8.pe_c c_greatest_side hr (by decide) (by rfl) (pa_cons (pe_ix (ix_seqK K) (pv 0) pe_int (fun _ _ => rfl)) (pa_cons (pe_ix (ix_seqK K) (pv 0) pe_int (fun _ _ => rfl)) (pa_cons (pv 1) (pa_cons (pv 2) pa_nil))))) pa_nil))))))), fun fd' xs Φ h => ?_⟩
  obtain ⟨hs, ws, r, h, rfl, gn, rm, hm, hr', q⟩ := h
  have lw := gn.lw
  have lh := gn.lh
  refine ds_seq (ds_drop (de_call0 (da_cons (de_var rfl (da_cons (de_var rfl (da_cons (de_var rfl (da_nil ⟨hs, ws, r, h, rfl, gn, rm, hm, hr', ?_⟩)))))))))
  refine ds_ret (de_tup (da_cons (de_str (da_cons (de_call0 (da_cons (de_net1 (hs := hs) (ws := ws) (de_var rfl ⟨rfl, da_cons (de_var rfl (da_cons (de_var rfl (da_nil ⟨ws, r, h, rfl, by omega, gn.ok, name_ok (gn.nm r rm), hr'.symm, fun T k wys M e hW nd => ?_⟩))))⟩))))))))
  refine da_cons (de_call0 (da_cons (de_net0 (hs := hs) (ws := ws) (de_var rfl ⟨rfl, da_cons (de_net1 (hs := hs) (ws := ws) (de_var rfl ⟨rfl, da_cons (de_var rfl (da_cons (de_var rfl (da_nil ⟨hs, ws, r, h, rfl, by omega, by omega, gn.ok, name_ok (gn.nm r rm), hr'.symm, fun T2 k2 p M2 hp => da_nil ⟨[.str "alone", .tuple (wys.map wyD), hoD (hs.filter p)], rfl, szn rfl, q wys T2 k2 p (e.trans (aK_eq hr'.symm M).symm) hW nd M2 hp⟩⟩))))⟩))⟩))))
end
end Z

/-! # ZR1 -/
set_option Elab.async false
set_option linter.all false
set_option maxRecDepth 100000
set_option maxHeartbeats 1000000
namespace Z
open PySem PySem.Spec PyProof.Rows L2 Fl
abbrev FnQ (K : PySem.W.Frag) (x q : Str) (st : Stmt) (f : Addr) (fd : FuncData) : Prop := FunD K x q (defArgs st) (defBody st) (defScope st) [] [] f fd
/-! ### the object -/
noncomputable def prsL (hs : List Str) (ws : List (Str × Str)) (r : Str) : List PyData := (oth hs r).map fun h => .tuple [.str h, .int (aK ws r h : Nat)]
noncomputable def roD (hs : List Str) (ws : List (Str × Str)) (r : Str) : Dv := .ro (netD hs ws) (.str r) (prsL hs ws r)
section
variable {P : Pm} {ρ : List En}
theorem de_onet {te : TE} {Φ : KD} (c : Tc P.K P.C) {hs : List Str} {ws : List (Str × Str)} {r : Str} (h : De P te ρ fun x => x = roD hs ws r ∧ Φ (.d (netD hs ws))) : De P (tFld P.K te "held_net") ρ Φ := de_fnet c (h.mono fun x ⟨e, q⟩ => ⟨_, _, _, e, q⟩)
theorem de_oroot {te : TE} {Φ : KD} (c : Tc P.K P.C) {hs : List Str} {ws : List (Str × Str)} {r : Str} (h : De P te ρ fun x => x = roD hs ws r ∧ Φ (.d (.str r))) : De P (tFld P.K te "held_root") ρ Φ := de_froot c (h.mono fun x ⟨e, q⟩ => ⟨_, _, _, e, q⟩)
theorem de_oprs {te : TE} {Φ : KD} (c : Tc P.K P.C) {hs : List Str} {ws : List (Str × Str)} {r : Str} (h : De P te ρ fun x => x = roD hs ws r ∧ Φ (.pt (prsL hs ws r))) : De P (tFld P.K te "held_pairs") ρ Φ := de_fpairs c (h.mono fun x ⟨e, q⟩ => ⟨_, _, _, e, q⟩)
end
section
variable {Pr : Program} {w : World} {K : PySem.W.Frag} {mg : Str → Option Value} {base : Heap} {C : Addr} {f : Addr} {fd : FuncData}
theorem metN {x q : Str} {params : Arguments} {body : List Stmt} {scope : Scope} {ps : List Str} {sp : Sp} {k : Nat} {m : Str} (TC : Tc K C) (F : FunD K x q params body scope [] [] f fd) (g : Meth K C m f)
    (b : ∀ (kV doc pm : Value) (an : Option Addr) (cdv ct : Value) (us : List Value), us.length = ps.length → bindArgs (PySem.W.fnOf x q params body scope .none kV doc pm an cdv ct) ⟨us, []⟩ = pure (ps.zip us))
    (ok : FnOk Pr w K mg base CX0 k f fd ps sp) : C8.Met Pr w K mg base k C m sp [] := ⟨f, fd, ps, [], TC.cl, g, ok, F.bindsN b, .nil⟩
theorem prpN {x q : Str} {params : Arguments} {body : List Stmt} {scope : Scope} {sp : Sp} {k : Nat} {m : Str} {p : Addr} (TC : Tc K C) (F : FunD K x q params body scope [] [] f fd) (g : PropOf K C m p f)
    (b : ∀ (kV doc pm : Value) (an : Option Addr) (cdv ct : Value) (us : List Value), us.length = 1 → bindArgs (PySem.W.fnOf x q params body scope .none kV doc pm an cdv ct) ⟨us, []⟩ = pure ((["self"] : List Str).zip us))
    (ok : FnOk Pr w K mg base CX0 k f fd ["self"] sp) : Prp Pr w K mg base k C m sp := ⟨p, f, fd, TC.cl, g, ok, F.bindsN b⟩
/-! ### the getters -/
def L_netnow : Law := fun xs Φ => ∃ hs ws r, xs = [roD hs ws r] ∧ Φ (.d (netD hs ws))
abbrev N_Rnet_now : List Str := ["self"]
theorem sc_Rnet_now : FnScope N_Rnet_now ["self"] (defScope (inC 1)) := ⟨rfl, rfl, rfl, by decide +kernel, rfl, by decide +kernel, by decide +kernel⟩
theorem c_net_now (T : Tx K mg C) (TC : Tc K C) (F : FnQ K "net_now" "Rooted.net_now" (inC 1) f fd) {p : Addr} (g : PropOf K C "net_now" p f) : Prp Pr w K mg base 1 C "net_now" (mkSp K C L_netnow) := by
  have sc := sc_Rnet_now
  refine prpN TC F g (fun _ _ _ _ _ _ us hl => match us, hl with | [_], _ => rfl) (okD F sc (fun xs Φ h => by obtain ⟨a, b, c, rfl, _⟩ := h; rfl) (fun cdv A outer s H E hr => ?_))
  refine ⟨_, (pss_one (ps_ret (pe_fld (pv 0) rfl))), fun fd' xs Φ h => ?_⟩
  obtain ⟨hs, ws, r, rfl, q⟩ := h
  exact ds_ret (de_onet TC (de_var rfl ⟨rfl, q⟩))
def L_rootnow : Law := fun xs Φ => ∃ hs ws r, xs = [roD hs ws r] ∧ Φ (.d (.str r))
abbrev N_Rroot_now : List Str := ["self"]
theorem sc_Rroot_now : FnScope N_Rroot_now ["self"] (defScope (inC 2)) := ⟨rfl, rfl, rfl, by decide +kernel, rfl, by decide +kernel, by decide +kernel⟩
theorem c_root_now (T : Tx K mg C) (TC : Tc K C) (F : FnQ K "root_now" "Rooted.root_now" (inC 2) f fd) {p : Addr} (g : PropOf K C "root_now" p f) : Prp Pr w K mg base 1 C "root_now" (mkSp K C L_rootnow) := by
  have sc := sc_Rroot_now
  refine prpN TC F g (fun _ _ _ _ _ _ us hl => match us, hl with | [_], _ => rfl) (okD F sc (fun xs Φ h => by obtain ⟨a, b, c, rfl, _⟩ := h; rfl) (fun cdv A outer s H E hr => ?_))
  refine ⟨_, (pss_one (ps_ret (pe_fld (pv 0) rfl))), fun fd' xs Φ h => ?_⟩
  obtain ⟨hs, ws, r, rfl, q⟩ := h
  exact ds_ret (de_oroot TC (de_var rfl ⟨rfl, q⟩))
def L_width : Law := fun xs Φ => ∃ hs ws r, xs = [roD hs ws r] ∧ hs.length ≤ 1000 ∧ (oth hs r = [] → Φ (.d .none)) ∧ ∀ h ∈ oth hs r, (∀ h' ∈ oth hs r, aK ws r h ≤ aK ws r h') → Φ (.d (.int (aK ws r h : Nat)))
abbrev N_Rwidth_now : List Str := ["self", "house", "many"]
theorem sc_Rwidth_now : FnScope N_Rwidth_now ["self"] (defScope (inC 3)) := ⟨rfl, rfl, rfl, by decide +kernel, rfl, by decide +kernel, by decide +kernel⟩
theorem c_width_now (T : Tx K mg C) (TC : Tc K C) (F : FnQ K "width_now" "Rooted.width_now" (inC 3) f fd) {p : Addr} (g : PropOf K C "width_now" p f) : Prp Pr w K mg base 1 C "width_now" (mkSp K C L_width) := by
  have sc := sc_Rwidth_now
  refine prpN TC F g (fun _ _ _ _ _ _ us hl => match us, hl with | [_], _ => rfl) (okD F sc (fun xs Φ h => by obtain ⟨a, b, c, rfl, _⟩ := h; rfl) (fun cdv A outer s H E hr => ?_))
  refine ⟨_, (pss_one (ps_ret (pe_callBK (call_minDefK K hr) (by rfl) T.m_min boot_min (pa_cons (pe_lc (own := [("house", 1), ("many", 2)]) rfl sc.nd (pi_tupK K (pe_fld (pv 0) rfl)) (blkOk_by (by exact rfl)) (fun _ _ _ _ _ => (pg_tupK K 2 (pgs_cons (pg_name (i := 1) sc.nd rfl (.inl rfl)) (pgs_cons (pg_name (i := 2) sc.nd rfl (.inl rfl)) pgs_nil)))) (fun _ _ _ _ _ => pts_nil) (fun _ _ _ _ _ => (pv 2))) pa_nil) (pk_cons pe_non pk_nil)))), fun fd' xs Φ h => ?_⟩
  obtain ⟨hs, ws, r, rfl, hl, q0, q⟩ := h
  have lo : (oth hs r).length ≤ 1000 := Nat.le_trans (List.length_filter_le _ _) hl
  refine ds_ret (de_minDef (da_cons (de_lcB (oth hs r) (fun h => .d (.tuple [.str h, .int (aK ws r h : Nat)])) (fun h => .int (aK ws r h : Nat)) (di_pt (de_oprs TC (de_var rfl ⟨rfl, _, rfl, by rw [prsL, List.map_map]; rfl, szs (by omega)⟩))) (fun h hh => dg2 (by decide) (by decide) (de_var rfl rfl)) (da_nil ⟨(oth hs r).map fun h => ((aK ws r h : Nat) : Int), by rw [List.map_map]; rfl, fun e => q0 (List.map_eq_nil_iff.mp e), fun m hm hmin => ?_⟩))))
  obtain ⟨h, hh, rfl⟩ := List.mem_map.mp hm
  refine q h hh fun h' hh' => ?_
  have := hmin _ (List.mem_map.mpr ⟨h', hh', rfl⟩)
  omega
/-! ### o[x], len(o), o(x), x in o -/
def L_getitem : Law := fun xs Φ => ∃ hs ws r h, xs = [roD hs ws r, .d (.str h)] ∧ GN hs ws ∧ r ∈ hs ∧ h ∈ oth hs r ∧ Φ (.d (.int (aK ws r h : Nat)))
abbrev N_R__getitem__ : List Str := ["self", "house"]
theorem sc_R__getitem__ : FnScope N_R__getitem__ ["self", "house"] (defScope (inC 4)) := ⟨rfl, rfl, rfl, by decide +kernel, rfl, by decide +kernel, by decide +kernel⟩
theorem merge_new : ∀ (l : List Str) (v : Str → PyData) (acc : List (Key × PyData)), l.Nodup → (∀ s ∈ l, valD acc (Sum.inr s) = none) → ∀ s ∈ l, valD (mergeD acc (l.map fun s => (Sum.inr s, v s))) (Sum.inr s) = some (v s)
  | [], _, _, _, _, s, h => nomatch h
  | a :: l, v, acc, nd, hn, s, h => by
    have nd2 := List.nodup_cons.mp nd
    have put_val : ∀ (acc : List (Key × PyData)) (k j : Key) (d : PyData), valD (putD acc k d) j = if j = k then some d else valD acc j := by
      intro acc k j d
      by_cases hk : (acc.any fun kv => decide (kv.1 = k)) = true
      · unfold putD
        rw [if_pos hk]
        clear hn h nd
        induction acc with
        | nil => exact nomatch hk
        | cons p r ih =>
          unfold valD at *
          rw [List.map_cons]
          by_cases e : p.1 = k
          · rw [if_pos e]
            by_cases ej : j = k
            · subst ej; simp [e]
            · have ne : ¬ p.1 = j := fun z => ej (z ▸ e)
              have ne2 : ¬ k = j := fun z => ej z.symm
              rw [List.find?_cons_of_neg (by simpa [e] using ne2), List.find?_cons_of_neg (by simpa using ne), if_neg ej]
              by_cases hr : (r.any fun kv => decide (kv.1 = k)) = true
              · have := ih hr; rw [if_neg ej] at this; exact this
              · have : r.map (fun kv => if kv.1 = k then (kv.1, d) else kv) = r := by
                  refine (List.map_congr_left fun x hx => ?_).trans (List.map_id r)
                  rw [if_neg]
                  · rfl
                  · intro z; exact hr (List.any_eq_true.mpr ⟨x, hx, by simpa using z⟩)
                rw [this]
          · rw [if_neg e]
            rw [List.any_cons, decide_eq_false e, Bool.false_or] at hk
            by_cases ej : p.1 = j
            · have : ¬ j = k := fun z => e (ej.trans z)
              rw [if_neg this]; simp [ej]
            · rw [List.find?_cons_of_neg (by simpa using ej), List.find?_cons_of_neg (by simpa using ej)]
              exact ih hk
      · unfold putD
        rw [if_neg hk]
        have nk : valD acc k = none := by
          have := valD_some acc k
          cases e : valD acc k with
          | none => rfl
          | some x => rw [e] at this; exact absurd this.symm hk
        unfold valD at *
        rw [List.find?_append]
        by_cases ej : j = k
        · subst ej
          rw [if_pos rfl]
          have : acc.find? (fun kv => decide (kv.1 = j)) = none := by
            cases e : acc.find? (fun kv => decide (kv.1 = j)) with
            | none => rfl
            | some x => rw [e] at nk; exact nomatch nk
          rw [this]; simp
        · rw [if_neg ej]
          have ne2 : ¬ k = j := fun z => ej z.symm
          cases e : acc.find? (fun kv => decide (kv.1 = j)) with
          | none => simp [ne2]
          | some x => rfl
    show valD (mergeD (putD acc (Sum.inr a) (v a)) (l.map fun s => (Sum.inr s, v s))) (Sum.inr s) = _
    have keep : ∀ (l : List Str) (acc : List (Key × PyData)) (s : Str), s ∉ l → valD (mergeD acc (l.map fun s => (Sum.inr s, v s))) (Sum.inr s) = valD acc (Sum.inr s) := by
      intro l
      induction l with
      | nil => intro acc s _; rfl
      | cons b r ih =>
        intro acc s hs
        show valD (mergeD (putD acc (Sum.inr b) (v b)) (r.map fun s => (Sum.inr s, v s))) (Sum.inr s) = _
        rw [ih _ s (fun z => hs (List.mem_cons_of_mem _ z)), put_val, if_neg (fun z => hs (by rw [Sum.inr.inj z]; exact List.mem_cons_self))]
    rcases List.mem_cons.mp h with rfl | h
    · rw [keep l _ s nd2.1, put_val, if_pos rfl]
    · refine merge_new l v _ nd2.2 (fun t ht => ?_) s h
      rw [put_val, if_neg (fun z => nd2.1 (by rw [← Sum.inr.inj z]; exact ht))]
      exact hn t (List.mem_cons_of_mem _ ht)
theorem oth_nd {hs : List Str} {r : Str} (h : hs.Nodup) : (oth hs r).Nodup := h.sublist List.filter_sublist
theorem c_getitem (T : Tx K mg C) (TC : Tc K C) (c_want_other : C8.Cal Pr w K mg base 6 "want_other" (mkSp K C L_wother) []) (F : FnQ K "__getitem__" "Rooted.__getitem__" (inC 4) f fd) (g : Meth K C "__getitem__" f) : C8.Met Pr w K mg base 7 C "__getitem__" (mkSp K C L_getitem) [] := by
  have sc := sc_R__getitem__
  refine metN TC F g (fun _ _ _ _ _ _ us hl => match us, hl with | [_, _], _ => rfl) (okD F sc (fun xs Φ h => by obtain ⟨a, b, c, d, rfl, _⟩ := h; rfl) (fun cdv A outer s H E hr => ?_))
  refine ⟨_, (pss_cons (ps_expr (C8.pe_c c_want_other hr (by decide) (by rfl) (pa_cons (pe_fld (pv 0) rfl) (pa_cons (pe_fld (pv 0) rfl) (pa_cons (pv 1) pa_nil)))))
      (pss_one (ps_ret (pe_dget (hu_of hr) (pe_callTy call_dictT (by rfl) T.m_dict boot_dict (pa_cons (pe_fld (pv 0) rfl) pa_nil)) (pv 1) (fun _ _ => rfl))))), fun fd' xs Φ h => ?_⟩
  obtain ⟨hs, ws, r, h, rfl, gn, rm, hm, q⟩ := h
  obtain ⟨m1, m2⟩ := mem_oth.mp hm
  have lo : (oth hs r).length ≤ 20 := Nat.le_trans (List.length_filter_le _ _) gn.lh
  refine ds_seq (ds_drop (de_call0 (da_cons (de_onet TC (de_var rfl ⟨rfl, da_cons (de_oroot TC (de_var rfl ⟨rfl, da_cons (de_var rfl (da_nil ⟨hs, ws, r, h, rfl, gn, rm, m1, m2, ?_⟩))⟩))⟩)))))
  let kv : List (Key × PyData) := (oth hs r).map fun h => (Sum.inr h, .int (aK ws r h : Nat))
  have e1 : prsL hs ws r = pairsP kv := by rw [prsL, pairsP, List.map_map]; rfl
  refine ds_ret (de_dget (de_dictT (da_cons (de_oprs TC (de_var rfl ⟨rfl, da_nil ⟨kv, by rw [e1], by simp only [kv, List.length_map]; omega, de_var rfl ⟨.int (aK ws r h : Nat), .inl ⟨false, _, .inr h, rfl, rfl, ?_⟩, q⟩⟩⟩)))))
  exact (merge_new (oth hs r) (fun h => .int (aK ws r h : Nat)) [] (oth_nd gn.nd) (fun _ _ => rfl) h hm).symm
def L_olen : Law := fun xs Φ => ∃ hs ws r, xs = [roD hs ws r] ∧ Φ (.d (.int ((oth hs r).length : Nat)))
abbrev N_R__len__ : List Str := ["self"]
theorem sc_R__len__ : FnScope N_R__len__ ["self"] (defScope (inC 8)) := ⟨rfl, rfl, rfl, by decide +kernel, rfl, by decide +kernel, by decide +kernel⟩
theorem c_olen (T : Tx K mg C) (TC : Tc K C) (F : FnQ K "__len__" "Rooted.__len__" (inC 8) f fd) (g : Meth K C "__len__" f) : C8.Met Pr w K mg base 1 C "__len__" (mkSp K C L_olen) [] := by
  have sc := sc_R__len__
  refine metN TC F g (fun _ _ _ _ _ _ us hl => match us, hl with | [_], _ => rfl) (okD F sc (fun xs Φ h => by obtain ⟨a, b, c, rfl, _⟩ := h; rfl) (fun cdv A outer s H E hr => ?_))
  refine ⟨_, (pss_one (ps_ret (pe_callB (call_lenK K) (by rfl) T.m_len boot_len (pa_cons (pe_fld (pv 0) rfl) pa_nil)))), fun fd' xs Φ h => ?_⟩
  obtain ⟨hs, ws, r, rfl, q⟩ := h
  refine ds_ret (de_cb (da_cons (de_oprs TC (de_var rfl ⟨rfl, da_nil (dc_lenP ?_)⟩))))
  rw [prsL, List.length_map]; exact q
def L_ocall : Law := fun xs Φ => ∃ hs ws r l, xs = [roD hs ws r, .d (hoD l)] ∧ GN hs ws ∧ LotOf hs r l ∧ Φ (.d (.int (cut ws (fun x => decide (x ∈ l)) : Nat)))
abbrev N_R__call__ : List Str := ["self", "lot"]
theorem sc_R__call__ : FnScope N_R__call__ ["self", "lot"] (defScope (inC 6)) := ⟨rfl, rfl, rfl, by decide +kernel, rfl, by decide +kernel, by decide +kernel⟩
theorem c_ocall (T : Tx K mg C) (TC : Tc K C) (c_want_lot : C8.Cal Pr w K mg base 4 "want_lot" (mkSp K C L_wlot) []) (c_entered_by : C8.Cal Pr w K mg base 1 "entered_by" (mkSp K C L_entered) []) (F : FnQ K "__call__" "Rooted.__call__" (inC 6) f fd) (g : Meth K C "__call__" f) : C8.Met Pr w K mg base 5 C "__call__" (mkSp K C L_ocall) [] := by
  have sc := sc_R__call__
  refine metN TC F g (fun _ _ _ _ _ _ us hl => match us, hl with | [_, _], _ => rfl) (okD F sc (fun xs Φ h => by obtain ⟨a, b, c, d, rfl, _⟩ := h; rfl) (fun cdv A outer s H E hr => ?_))
  refine ⟨_, (pss_cons (ps_expr (C8.pe_c c_want_lot hr (by decide) (by rfl) (pa_cons (pe_fld (pv 0) rfl) (pa_cons (pe_fld (pv 0) rfl) (pa_cons (pv 1) pa_nil)))))
      (pss_one (ps_ret (pe_callB (call_lenK K) (by rfl) T.m_len boot_len (pa_cons (C8.pe_c c_entered_by hr (by decide) (by rfl) (pa_cons (pe_fld (pv 0) rfl) (pa_cons (pv 1) pa_nil))) pa_nil))))), fun fd' xs Φ h => ?_⟩
  obtain ⟨hs, ws, r, l, rfl, gn, L, q⟩ := h
  have ll := lot_len gn L
  have lw := gn.lw
  refine ds_seq (ds_drop (de_call0 (da_cons (de_onet TC (de_var rfl ⟨rfl, da_cons (de_oroot TC (de_var rfl ⟨rfl, da_cons (de_var rfl (da_nil ⟨hs, ws, r, l, rfl, gn, L, ?_⟩))⟩))⟩)))))
  refine ds_ret (de_cb (da_cons (de_call0 (da_cons (de_onet TC (de_var rfl ⟨rfl, da_cons (de_var rfl (da_nil ⟨hs, ws, l, rfl, slt_nd L.inc, by omega, by omega, fun u hu => da_nil (dc_len (.inr rfl) ?_)⟩))⟩))))))
  rw [ixD, List.length_map, hu]; exact q
def L_ohas : Law := fun xs Φ => ∃ hs ws r x, xs = [roD hs ws r, .d x] ∧ GN hs ws ∧ SmT x ∧ (lotB hs r x = false → Φ (.d (.bool false))) ∧
  ∀ l h, x = hoD l → LotOf hs r l → h ∈ oth hs r → (∀ h' ∈ oth hs r, aK ws r h ≤ aK ws r h') → Φ (.d (.bool (decide (cut ws (fun x => decide (x ∈ l)) = aK ws r h))))
abbrev N_R__contains__ : List Str := ["self", "thing"]
theorem sc_R__contains__ : FnScope N_R__contains__ ["self", "thing"] (defScope (inC 7)) := ⟨rfl, rfl, rfl, by decide +kernel, rfl, by decide +kernel, by decide +kernel⟩
theorem inc_of : ∀ {l : List Str}, (zipD (l.map PyData.str) ((l.map PyData.str).drop 1)).all ltP = true → l.Pairwise SLt
  | [], _ => .nil
  | [a], _ => List.pairwise_singleton ..
  | a :: b :: r, h => by
    have h : (decide (a.cps.toList < b.cps.toList) && (zipD ((b :: r).map PyData.str) (((b :: r).map PyData.str).drop 1)).all ltP) = true := h
    rw [Bool.and_eq_true] at h
    have ih := inc_of h.2
    have ab : SLt a b := of_decide_eq_true h.1
    refine List.pairwise_cons.mpr ⟨fun x hx => ?_, ih⟩
    rcases List.mem_cons.mp hx with rfl | hx
    · exact ab
    · exact List.lt_trans ab ((List.pairwise_cons.mp ih).1 x hx)
theorem lot_of {hs : List Str} {r : Str} {x : PyData} (h : lotB hs r x = true) : ∃ l, x = hoD l ∧ LotOf hs r l := by
  unfold lotB housesB at h
  rw [Bool.and_eq_true, Bool.and_eq_true] at h
  obtain ⟨⟨h1, h2⟩, h3⟩ := h
  cases x with
  | tuple ds =>
    have h1 : (ds.all nameB && (zipD ds (ds.drop 1)).all ltP) = true := h1
    rw [Bool.and_eq_true] at h1
    obtain ⟨ss, rfl, hn⟩ := names_strs h1.1
    have h2 : decide (0 < (ss.map PyData.str).length) = true := h2
    have h3 : (ss.map PyData.str).all (inNet hs r) = true := h3
    refine ⟨ss, rfl, fun e => ?_, inc_of h1.2, fun x hx => ?_⟩
    · subst e; exact nomatch h2
    · rw [List.all_map, List.all_eq_true] at h3
      have : (decide (x ∈ hs) && !decide (x = r)) = true := h3 x hx
      simpa using this
  | _ => exact nomatch h1
theorem min_one {f : Str → Nat} : ∀ {l : List Str}, l ≠ [] → ∃ h ∈ l, ∀ h' ∈ l, f h ≤ f h'
  | [], h => absurd rfl h
  | [a], _ => ⟨a, List.mem_cons_self, fun h' hh => by rw [List.mem_singleton.mp hh]; exact Nat.le_refl _⟩
  | a :: b :: r, _ => by
    obtain ⟨h, h1, h2⟩ := min_one (f := f) (l := b :: r) (List.cons_ne_nil _ _)
    by_cases e : f a ≤ f h
    · exact ⟨a, List.mem_cons_self, fun h' hh => (List.mem_cons.mp hh).elim (fun z => z ▸ Nat.le_refl _) fun z => Nat.le_trans e (h2 h' z)⟩
    · exact ⟨h, List.mem_cons_of_mem _ h1, fun h' hh => (List.mem_cons.mp hh).elim (fun z => z ▸ by omega) (h2 h')⟩
theorem c_ohas (T : Tx K mg C) (TC : Tc K C) (c_is_lot : C8.Cal Pr w K mg base 4 "is_lot" (mkSp K C L_islot) []) (c_entered_by : C8.Cal Pr w K mg base 1 "entered_by" (mkSp K C L_entered) []) (c_width_now : Prp Pr w K mg base 1 C "width_now" (mkSp K C L_width)) (F : FnQ K "__contains__" "Rooted.__contains__" (inC 7) f fd) (g : Meth K C "__contains__" f) : C8.Met Pr w K mg base 5 C "__contains__" (mkSp K C L_ohas) [] := by
  have sc := sc_R__contains__
  refine metN TC F g (fun _ _ _ _ _ _ us hl => match us, hl with | [_, _], _ => rfl) (okD F sc (fun xs Φ h => by obtain ⟨a, b, c, d, rfl, _⟩ := h; rfl) (fun cdv A outer s H E hr => ?_))
  refine ⟨_, (pss_cons (ps_if (pt_not (pt_val (C8.pe_c c_is_lot hr (by decide) (by rfl) (pa_cons (pe_fld (pv 0) rfl) (pa_cons (pe_fld (pv 0) rfl) (pa_cons (pv 1) pa_nil)))))) (pss_one (ps_ret pe_bl)) pss_nil)
      (pss_one (ps_ret (pe_cmpR (op_eqK K hr) (pe_callB (call_lenK K) (by rfl) T.m_len boot_len (pa_cons (C8.pe_c c_entered_by hr (by decide) (by rfl) (pa_cons (pe_fld (pv 0) rfl) (pa_cons (pv 1) pa_nil))) pa_nil)) (pe_prp c_width_now hr (by decide) (pv 0)) (nomark _))))), fun fd' xs Φ h => ?_⟩
  obtain ⟨hs, ws, r, x, rfl, gn, sm, q0, q⟩ := h
  have lw := gn.lw
  have lh := gn.lh
  refine ds_seq (ds_if (dt_not (dt_b (de_call0 (da_cons (de_onet TC (de_var rfl ⟨rfl, da_cons (de_oroot TC (de_var rfl ⟨rfl, da_cons (de_var rfl (da_nil ⟨hs, ws, r, x, rfl, gn, sm, _, rfl, ?_⟩))⟩))⟩)))))))
  cases e : lotB hs r x with
  | false => exact ds_ret (de_bl (q0 e))
  | true =>
    obtain ⟨l, rfl, L⟩ := lot_of e
    have ll := lot_len gn L
    have on : oth hs r ≠ [] := by
      obtain ⟨a, ha⟩ := List.exists_mem_of_ne_nil l L.ne
      have := mem_oth.mpr (L.sub a ha)
      exact List.ne_nil_of_mem this
    refine ds_next (ds_ret (de_op (de_cb (da_cons (de_call0 (da_cons (de_onet TC (de_var rfl ⟨rfl, da_cons (de_var rfl (da_nil ⟨hs, ws, l, rfl, slt_nd L.inc, by omega, by omega, fun u hu => da_nil (dc_len (.inr rfl) (de_prop (de_var rfl ⟨_, _, _, rfl, hs, ws, r, rfl, by omega, fun z => absurd z on, fun h hh hm => DOp.inl (dop_eq eq_ii ?_)⟩)))⟩))⟩))))))))
    have e2 : decide ((((ixD u).length : Nat) : Int) = ((aK ws r h : Nat) : Int)) = decide (cut ws (fun x => decide (x ∈ l)) = aK ws r h) := by
      rw [ixD, List.length_map, hu]
      exact decide_eq_decide.mpr (by omega)
    rw [e2]
    exact q l h rfl L hh hm
end
end Z

/-! # ZR2 -/
set_option Elab.async false
set_option linter.all false
set_option maxRecDepth 100000
set_option maxHeartbeats 1000000
namespace Z
open PySem PySem.Spec PyProof.Rows L2 Fl
/-! ### nets as data -/
theorem shaped_net {hs : List Str} {ws : List (Str × Str)} (h1 : ∀ s ∈ hs, OkS s) (h2 : OkW ws) : SeqAt.shaped (netD hs ws) = true := by
  unfold SeqAt.shaped netD hoD wiD
  have a1 := lay_strs h1
  have a2 : PyData.canLayAll0 (ws.map prD) = true := lay_all fun d hd => by
    obtain ⟨e, he, rfl⟩ := List.mem_map.mp hd
    unfold prD
    rw [PyData.canLay0.eq_6, PyData.canLayAll0.eq_2, PyData.canLayAll0.eq_2, PyData.canLayAll0.eq_1, PyData.canLay0.eq_4, PyData.canLay0.eq_4, (h2 e he).1, (h2 e he).2]; rfl
  have b1 := depth_strs hs
  have b2 : PyData.depthAll (ws.map prD) ≤ 1 := depth_all fun d hd => by
    obtain ⟨e, he, rfl⟩ := List.mem_map.mp hd
    unfold prD
    rw [PyData.depth.eq_2, PyData.depthAll.eq_2, PyData.depthAll.eq_2, PyData.depthAll.eq_1, PyData.depth.eq_7, PyData.depth.eq_7]
    decide
  rw [PyData.canLay0.eq_6, PyData.canLayAll0.eq_2, PyData.canLayAll0.eq_2, PyData.canLayAll0.eq_1, PyData.canLay0.eq_6, PyData.canLay0.eq_6, a1, a2, PyData.depth.eq_2, PyData.depthAll.eq_2, PyData.depthAll.eq_2, PyData.depthAll.eq_1, PyData.depth.eq_2, PyData.depth.eq_2]
  simp only [Bool.true_and]
  exact decide_eq_true (by omega)
theorem gn_shaped {hs : List Str} {ws : List (Str × Str)} (g : GN hs ws) : SeqAt.shaped (netD hs ws) = true := shaped_net (fun s h => name_ok (g.nm s h)) g.ok
theorem eqv_strs : ∀ (a b : List Str), PyData.eqvAll (a.map .str) (b.map .str) = decide (a = b)
  | [], [] => rfl
  | [], _ :: _ => rfl
  | _ :: _, [] => rfl
  | x :: a, y :: b => by
    rw [List.map_cons, List.map_cons, PyData.eqvAll.eq_2, eqv_strs a b, PyData.eqv.eq_6]
    by_cases e : x = y
    · subst e; simp
    · rw [beq_eq_false_iff_ne.mpr e]; simp [e]
theorem eqv_prs : ∀ (a b : List (Str × Str)), PyData.eqvAll (a.map prD) (b.map prD) = decide (a = b)
  | [], [] => rfl
  | [], _ :: _ => rfl
  | _ :: _, [] => rfl
  | x :: a, y :: b => by
    rw [List.map_cons, List.map_cons, PyData.eqvAll.eq_2, eqv_prs a b]
    have e1 : (prD x).eqv (prD y) = decide (x = y) := by
      unfold prD
      rw [PyData.eqv.eq_8]
      have := eqv_strs [x.1, x.2] [y.1, y.2]
      rw [show [PyData.str x.1, PyData.str x.2] = [x.1, x.2].map .str from rfl, show [PyData.str y.1, PyData.str y.2] = [y.1, y.2].map .str from rfl, this]
      refine decide_eq_decide.mpr ?_
      obtain ⟨x1, x2⟩ := x
      obtain ⟨y1, y2⟩ := y
      simp
    rw [e1]
    by_cases e : x = y
    · subst e; simp
    · rw [decide_eq_false e]; simp [e]
theorem eqv_net (hs hs' : List Str) (ws ws' : List (Str × Str)) : PyData.eqv (netD hs ws) (netD hs' ws') = decide (hs = hs' ∧ ws = ws') := by
  unfold netD hoD wiD
  rw [PyData.eqv.eq_8, PyData.eqvAll.eq_2, PyData.eqvAll.eq_2, PyData.eqv.eq_8, PyData.eqv.eq_8, eqv_strs, eqv_prs]
  show (decide (hs = hs') && (decide (ws = ws') && true)) = _
  rw [Bool.and_true]
  exact (Bool.decide_and _ _).symm
/-! ### isinstance of the class -/
structure Te (K : PySem.W.Frag) (C : Addr) : Prop where
  k1 : PySem.W.findIn K (.ref C) "__class__" = some (some (.builtin "object.__class__"))
  k2 : PySem.W.specialIn K (.builtin "object.__class__") "__get__" = some (some (.builtin "getset_descriptor.__get__"))
  k3 : PySem.W.takesIn K (.builtin "object.__class__") = some true
  k4 : PySem.W.mroIn K C (.type "object") = some true
  k5 : PySem.W.kitOne K (.ref C) (.ref C) = some true
  k6 : PySem.W.kitOne K (.type "tuple") (.ref C) = some false
section
variable {P : Pm} {ρ : List En}
theorem dc_isiR {x : Dv} {b : Bool} {Φ : KD} (TC : Tc P.K P.C) (TE : Te P.K P.C) (hx : (∃ n r p, x = .ro n r p ∧ b = true) ∨ ∃ ds, x = .d (.tuple ds) ∧ b = false) (q : Φ (.d (.bool b))) : DC P (rIsi P.K) [x, .cl] Φ := by
  intro G H vs o rv Q k
  obtain ⟨v, u, rfl, rv1, rv2⟩ := rvL2 rv
  have e : u = .ref P.C := rv2
  subst e
  rcases hx with ⟨n, r, p, rfl, rfl⟩ | ⟨ds, rfl, rfl⟩
  · obtain ⟨a, dx, vn, vr, vp, rfl, ha, _⟩ := rv1
    exact ⟨_, _, _, _, true, rfl, .own P.C, .base (.ins (o.sub _ _ ha) TC.cl TE.k1 TE.k2 TE.k3 TE.k4), TE.k5, k _ G H (.d (.bool true)) (.refl o) (Dq.bl _) q⟩
  · cases rv1 with
    | tup ha hd => exact ⟨_, _, _, _, false, rfl, .own P.C, .base (.tup (o.sub _ _ ha)), TE.k6, k _ G H (.d (.bool false)) (.refl o) (Dq.bl _) q⟩
end
section
variable {Pr : Program} {w : World} {K : PySem.W.Frag} {mg : Str → Option Value} {base : Heap} {C : Addr} {f : Addr} {fd : FuncData}
/-! ### o == y -/
def L_oeq : Law := fun xs Φ => ∃ hs ws r y, xs = [roD hs ws r, y] ∧ GN hs ws ∧ ((∃ hs' ws' r', y = roD hs' ws' r' ∧ GN hs' ws' ∧ Φ (.d (.bool (decide ((hs = hs' ∧ ws = ws') ∧ r = r'))))) ∨ ∃ ds, y = .d (.tuple ds) ∧ Φ (.d (.bool false)))
abbrev N_R__eq__ : List Str := ["self", "other"]
theorem sc_R__eq__ : FnScope N_R__eq__ ["self", "other"] (defScope (inC 9)) := ⟨rfl, rfl, rfl, by decide +kernel, rfl, by decide +kernel, by decide +kernel⟩
theorem c_oeq (T : Tx K mg C) (TC : Tc K C) (TE : Te K C) (F : FnQ K "__eq__" "Rooted.__eq__" (inC 9) f fd) (g : Meth K C "__eq__" f) : C8.Met Pr w K mg base 1 C "__eq__" (mkSp K C L_oeq) [] := by
  have sc := sc_R__eq__
  refine metN TC F g (fun _ _ _ _ _ _ us hl => match us, hl with | [_, _], _ => rfl) (okD F sc (fun xs Φ h => by obtain ⟨a, b, c, d, rfl, _⟩ := h; rfl) (fun cdv A outer s H E hr => ?_))
  refine ⟨_, (pss_one (ps_ret (pe_and (pe_callB (call_isiK' K) (by rfl) T.m_isinstance boot_isinstance (pa_cons (pv 1) (pa_cons (pe_glob (v := .ref C) (by rfl) T.gC rfl) pa_nil))) (pe_and (pe_cmpR (op_eqK K hr) (pe_fld (pv 0) rfl) (pe_fld (pv 1) rfl) (nomark _)) (pe_one (pe_cmpR (op_eqK K hr) (pe_fld (pv 0) rfl) (pe_fld (pv 1) rfl) (nomark _))))))), fun fd' xs Φ h => ?_⟩
  obtain ⟨hs, ws, r, y, rfl, gn, hh⟩ := h
  rcases hh with ⟨hs', ws', r', rfl, gn', q⟩ | ⟨ds, rfl, q⟩
  · refine ds_ret (de_and (de_cb (da_cons (de_var rfl (da_cons (de_cl (P := ⟨K, C, fd'⟩) (da_nil (dc_isiR TC TE (.inl ⟨_, _, _, rfl, rfl⟩) ⟨true, rfl, ?_⟩))))))))
    refine de_and (de_op (de_onet TC (de_var rfl ⟨rfl, de_onet TC (de_var rfl ⟨rfl, DOp.inr (dop_eqD (gn_shaped gn) (gn_shaped gn') ⟨_, rfl, ?_⟩)⟩)⟩)))
    rw [eqv_net]
    by_cases e : hs = hs' ∧ ws = ws'
    · rw [decide_eq_true e, if_pos rfl]
      refine de_op (de_oroot TC (de_var rfl ⟨rfl, de_oroot TC (de_var rfl ⟨rfl, DOp.inl (dop_eq eq_ss ?_)⟩)⟩))
      have e2 : decide ((hs = hs' ∧ ws = ws') ∧ r = r') = decide (r = r') := decide_eq_decide.mpr ⟨fun z => z.2, fun z => ⟨e, z⟩⟩
      rw [← e2]; exact q
    · rw [decide_eq_false e, if_neg (by decide)]
      rw [decide_eq_false (fun z => e z.1)] at q
      exact q
  · exact ds_ret (de_and (de_cb (da_cons (de_var rfl (da_cons (de_cl (P := ⟨K, C, fd'⟩) (da_nil (dc_isiR TC TE (.inr ⟨_, rfl, rfl⟩) ⟨false, rfl, q⟩))))))))
/-! ### least, greatest, narrow, ways, paper, judged -/
def L_oleast : Law := fun xs Φ => ∃ hs ws r h, xs = [roD hs ws r, .d (.str h)] ∧ GN hs ws ∧ r ∈ hs ∧ h ∈ oth hs r ∧ ∀ T k ys, MaxFlow ws r h T k → sortedS ys = true → ys.Nodup → (∀ x, x ∈ ys ↔ Reach ws T x h) → Φ (.d (hoD ys))
abbrev N_Rleast : List Str := ["self", "house"]
theorem sc_Rleast : FnScope N_Rleast ["self", "house"] (defScope (inC 12)) := ⟨rfl, rfl, rfl, by decide +kernel, rfl, by decide +kernel, by decide +kernel⟩
theorem c_oleast (T : Tx K mg C) (TC : Tc K C) (c_want_other : C8.Cal Pr w K mg base 6 "want_other" (mkSp K C L_wother) []) (c_least_side : C8.Cal Pr w K mg base 4 "least_side" (mkSp K C L_least) []) (F : FnQ K "least" "Rooted.least" (inC 12) f fd) (g : Meth K C "least" f) : C8.Met Pr w K mg base 7 C "least" (mkSp K C L_oleast) [] := by
  have sc := sc_Rleast
  refine metN TC F g (fun _ _ _ _ _ _ us hl => match us, hl with | [_, _], _ => rfl) (okD F sc (fun xs Φ h => by obtain ⟨a, b, c, d, rfl, _⟩ := h; rfl) (fun cdv A outer s H E hr => ?_))
  refine ⟨_, (pss_cons (ps_expr (C8.pe_c c_want_other hr (by decide) (by rfl) (pa_cons (pe_fld (pv 0) rfl) (pa_cons (pe_fld (pv 0) rfl) (pa_cons (pv 1) pa_nil)))))
      (pss_one (ps_ret (C8.pe_c c_least_side hr (by decide) (by rfl) (pa_cons (pe_ix (ix_seqK K) (pe_fld (pv 0) rfl) pe_int (fun _ _ => rfl)) (pa_cons (pe_fld (pv 0) rfl) (pa_cons (pv 1) pa_nil))))))), fun fd' xs Φ h => ?_⟩
  obtain ⟨hs, ws, r, h, rfl, gn, rm, hm, q⟩ := h
  obtain ⟨m1, m2⟩ := mem_oth.mp hm
  have lw := gn.lw
  refine ds_seq (ds_drop (de_call0 (da_cons (de_onet TC (de_var rfl ⟨rfl, da_cons (de_oroot TC (de_var rfl ⟨rfl, da_cons (de_var rfl (da_nil ⟨hs, ws, r, h, rfl, gn, rm, m1, m2, ?_⟩))⟩))⟩)))))
  exact ds_ret (de_call0 (da_cons (de_net1 (hs := hs) (ws := ws) (de_onet TC (de_var rfl ⟨rfl, rfl, da_cons (de_oroot TC (de_var rfl ⟨rfl, da_cons (de_var rfl (da_nil ⟨ws, r, h, rfl, by omega, gn.ok, name_ok (gn.nm r rm), name_ok (gn.nm h m1), m2.symm, q⟩))⟩))⟩)))))
def L_ogreat : Law := fun xs Φ => ∃ hs ws r h, xs = [roD hs ws r, .d (.str h)] ∧ GN hs ws ∧ r ∈ hs ∧ h ∈ oth hs r ∧ ∀ T k (p : Str → Bool), MaxFlow ws r h T k → (∀ x, p x = true ↔ ¬ Reach ws T r x) → Φ (.d (hoD (hs.filter p)))
abbrev N_Rgreatest : List Str := ["self", "house"]
theorem sc_Rgreatest : FnScope N_Rgreatest ["self", "house"] (defScope (inC 13)) := ⟨rfl, rfl, rfl, by decide +kernel, rfl, by decide +kernel, by decide +kernel⟩
theorem c_ogreat (T : Tx K mg C) (TC : Tc K C) (c_want_other : C8.Cal Pr w K mg base 6 "want_other" (mkSp K C L_wother) []) (c_greatest_side : C8.Cal Pr w K mg base 4 "greatest_side" (mkSp K C L_greatest) []) (F : FnQ K "greatest" "Rooted.greatest" (inC 13) f fd) (g : Meth K C "greatest" f) : C8.Met Pr w K mg base 7 C "greatest" (mkSp K C L_ogreat) [] := by
  have sc := sc_Rgreatest
  refine metN TC F g (fun _ _ _ _ _ _ us hl => match us, hl with | [_, _], _ => rfl) (okD F sc (fun xs Φ h => by obtain ⟨a, b, c, d, rfl, _⟩ := h; rfl) (fun cdv A outer s H E hr => ?_))
  refine ⟨_, (pss_cons (ps_expr (C8.pe_c c_want_other hr (by decide) (by rfl) (pa_cons (pe_fld (pv 0) rfl) (pa_cons (pe_fld (pv 0) rfl) (pa_cons (pv 1) pa_nil)))))
      (pss_one (ps_ret (C8.pe_c c_greatest_side hr (by decide) (by rfl) (pa_cons (pe_ix (ix_seqK K) (pe_fld (pv 0) rfl) pe_int (fun _ _ => rfl)) (pa_cons (pe_ix (ix_seqK K) (pe_fld (pv 0) rfl) pe_int (fun _ _ => rfl)) (pa_cons (pe_fld (pv 0) rfl) (pa_cons (pv 1) pa_nil)))))))), fun fd' xs Φ h => ?_⟩
  obtain ⟨hs, ws, r, h, rfl, gn, rm, hm, q⟩ := h
  obtain ⟨m1, m2⟩ := mem_oth.mp hm
  have lw := gn.lw
  have lh := gn.lh
  refine ds_seq (ds_drop (de_call0 (da_cons (de_onet TC (de_var rfl ⟨rfl, da_cons (de_oroot TC (de_var rfl ⟨rfl, da_cons (de_var rfl (da_nil ⟨hs, ws, r, h, rfl, gn, rm, m1, m2, ?_⟩))⟩))⟩)))))
  exact ds_ret (de_call0 (da_cons (de_net0 (hs := hs) (ws := ws) (de_onet TC (de_var rfl ⟨rfl, rfl, da_cons (de_net1 (hs := hs) (ws := ws) (de_onet TC (de_var rfl ⟨rfl, rfl, da_cons (de_oroot TC (de_var rfl ⟨rfl, da_cons (de_var rfl (da_nil ⟨hs, ws, r, h, rfl, by omega, by omega, gn.ok, name_ok (gn.nm r rm), m2.symm, q⟩))⟩))⟩)))⟩)))))
def L_onarrow : Law := fun xs Φ => ∃ hs ws r, xs = [roD hs ws r] ∧ GN hs ws ∧ r ∈ hs ∧ (oth hs r = [] → Φ (.d .none)) ∧
  ∀ h T k (p : Str → Bool), h ∈ oth hs r → (∀ h' ∈ oth hs r, aK ws r h ≤ aK ws r h') → MaxFlow ws r h T k → (∀ x, p x = true ↔ ¬ Reach ws T r x) → Φ (.d (hoD (hs.filter p)))
abbrev N_Rnarrow : List Str := ["self"]
theorem sc_Rnarrow : FnScope N_Rnarrow ["self"] (defScope (inC 16)) := ⟨rfl, rfl, rfl, by decide +kernel, rfl, by decide +kernel, by decide +kernel⟩
theorem c_onarrow (T : Tx K mg C) (TC : Tc K C) (c_narrow_lot : C8.Cal Pr w K mg base 6 "narrow_lot" (mkSp K C L_narrow) []) (F : FnQ K "narrow" "Rooted.narrow" (inC 16) f fd) (g : Meth K C "narrow" f) : C8.Met Pr w K mg base 7 C "narrow" (mkSp K C L_onarrow) [] := by
  have sc := sc_Rnarrow
  refine metN TC F g (fun _ _ _ _ _ _ us hl => match us, hl with | [_], _ => rfl) (okD F sc (fun xs Φ h => by obtain ⟨a, b, c, rfl, _⟩ := h; rfl) (fun cdv A outer s H E hr => ?_))
  refine ⟨_, (pss_one (ps_ret (C8.pe_c c_narrow_lot hr (by decide) (by rfl) (pa_cons (pe_fld (pv 0) rfl) (pa_cons (pe_fld (pv 0) rfl) pa_nil))))), fun fd' xs Φ h => ?_⟩
  obtain ⟨hs, ws, r, rfl, gn, rm, q0, q⟩ := h
  exact ds_ret (de_call0 (da_cons (de_onet TC (de_var rfl ⟨rfl, da_cons (de_oroot TC (de_var rfl ⟨rfl, da_nil ⟨hs, ws, r, rfl, gn, rm, q0, q⟩⟩))⟩))))
def L_oways : Law := fun xs Φ => ∃ hs ws r h, xs = [roD hs ws r, .d (.str h)] ∧ GN hs ws ∧ r ∈ hs ∧ h ∈ oth hs r ∧
  ∀ wys : List (List Nat), wys.length = aK ws r h → (∀ w ∈ wys, Way ws r w h) → wys.flatten.Nodup → Φ (.d (.tuple (wys.map wyD)))
abbrev N_Rways : List Str := ["self", "house"]
theorem sc_Rways : FnScope N_Rways ["self", "house"] (defScope (inC 17)) := ⟨rfl, rfl, rfl, by decide +kernel, rfl, by decide +kernel, by decide +kernel⟩
theorem c_oways (T : Tx K mg C) (TC : Tc K C) (c_ways_apart : C8.Cal Pr w K mg base 7 "ways_apart" (mkSp K C L_apart) []) (F : FnQ K "ways" "Rooted.ways" (inC 17) f fd) (g : Meth K C "ways" f) : C8.Met Pr w K mg base 8 C "ways" (mkSp K C L_oways) [] := by
  have sc := sc_Rways
  refine metN TC F g (fun _ _ _ _ _ _ us hl => match us, hl with | [_, _], _ => rfl) (okD F sc (fun xs Φ h => by obtain ⟨a, b, c, d, rfl, _⟩ := h; rfl) (fun cdv A outer s H E hr => ?_))
  refine ⟨_, (pss_one (ps_ret (C8.pe_c c_ways_apart hr (by decide) (by rfl) (pa_cons (pe_fld (pv 0) rfl) (pa_cons (pe_fld (pv 0) rfl) (pa_cons (pv 1) pa_nil)))))), fun fd' xs Φ h => ?_⟩
  obtain ⟨hs, ws, r, h, rfl, gn, rm, hm, q⟩ := h
  obtain ⟨m1, m2⟩ := mem_oth.mp hm
  exact ds_ret (de_call0 (da_cons (de_onet TC (de_var rfl ⟨rfl, da_cons (de_oroot TC (de_var rfl ⟨rfl, da_cons (de_var rfl (da_nil ⟨hs, ws, r, h, rfl, gn, rm, m1, m2, q⟩))⟩))⟩))))
def L_opaper : Law := fun xs Φ => ∃ hs ws r h, xs = [roD hs ws r, .d (.str h)] ∧ GN hs ws ∧ r ∈ hs ∧ h ∈ oth hs r ∧
  ∀ (wys : List (List Nat)) T k (p : Str → Bool), wys.length = aK ws r h → (∀ w ∈ wys, Way ws r w h) → wys.flatten.Nodup → MaxFlow ws r h T k → (∀ x, p x = true ↔ ¬ Reach ws T r x) → Φ (.d (paD wys (hs.filter p)))
abbrev N_Rpaper : List Str := ["self", "house"]
theorem sc_Rpaper : FnScope N_Rpaper ["self", "house"] (defScope (inC 18)) := ⟨rfl, rfl, rfl, by decide +kernel, rfl, by decide +kernel, by decide +kernel⟩
theorem c_opaper (T : Tx K mg C) (TC : Tc K C) (c_alone_paper : C8.Cal Pr w K mg base 7 "alone_paper" (mkSp K C L_paper) []) (F : FnQ K "paper" "Rooted.paper" (inC 18) f fd) (g : Meth K C "paper" f) : C8.Met Pr w K mg base 8 C "paper" (mkSp K C L_opaper) [] := by
  have sc := sc_Rpaper
  refine metN TC F g (fun _ _ _ _ _ _ us hl => match us, hl with | [_, _], _ => rfl) (okD F sc (fun xs Φ h => by obtain ⟨a, b, c, d, rfl, _⟩ := h; rfl) (fun cdv A outer s H E hr => ?_))
  refine ⟨_, (pss_one (ps_ret (C8.pe_c c_alone_paper hr (by decide) (by rfl) (pa_cons (pe_fld (pv 0) rfl) (pa_cons (pe_fld (pv 0) rfl) (pa_cons (pv 1) pa_nil)))))), fun fd' xs Φ h => ?_⟩
  obtain ⟨hs, ws, r, h, rfl, gn, rm, hm, q⟩ := h
  obtain ⟨m1, m2⟩ := mem_oth.mp hm
  exact ds_ret (de_call0 (da_cons (de_onet TC (de_var rfl ⟨rfl, da_cons (de_oroot TC (de_var rfl ⟨rfl, da_cons (de_var rfl (da_nil ⟨hs, ws, r, h, rfl, gn, rm, m1, m2, q⟩))⟩))⟩))))
def L_ojudged : Law := fun xs Φ => ∃ (hs : List Str) (ws : List (Str × Str)) (r h : Str) (wys : List (List Nat)) (l : List Str), xs = [roD hs ws r, .d (.str h), .d (paD wys l)] ∧ GN hs ws ∧ r ∈ hs ∧ h ∈ oth hs r ∧
  (∀ w ∈ wys, Way ws r w h) ∧ wys.flatten.Nodup ∧ LotOf hs r l ∧ h ∈ l ∧ cut ws (fun x => decide (x ∈ l)) = wys.length ∧ Φ (.d (.int (wys.length : Nat)))
abbrev N_Rjudged : List Str := ["self", "house", "thing"]
theorem sc_Rjudged : FnScope N_Rjudged ["self", "house", "thing"] (defScope (inC 19)) := ⟨rfl, rfl, rfl, by decide +kernel, rfl, by decide +kernel, by decide +kernel⟩
theorem c_ojudged (T : Tx K mg C) (TC : Tc K C) (c_lets_alone : C8.Cal Pr w K mg base 7 "lets_alone" (mkSp K C L_letsalone) []) (F : FnQ K "judged" "Rooted.judged" (inC 19) f fd) (g : Meth K C "judged" f) : C8.Met Pr w K mg base 8 C "judged" (mkSp K C L_ojudged) [] := by
  have sc := sc_Rjudged
  refine metN TC F g (fun _ _ _ _ _ _ us hl => match us, hl with | [_, _, _], _ => rfl) (okD F sc (fun xs Φ h => by obtain ⟨a, b, c, d, e, e2, rfl, _⟩ := h; rfl) (fun cdv A outer s H E hr => ?_))
  refine ⟨_, (pss_one (ps_ret (C8.pe_c c_lets_alone hr (by decide) (by rfl) (pa_cons (pe_fld (pv 0) rfl) (pa_cons (pe_fld (pv 0) rfl) (pa_cons (pv 1) (pa_cons (pv 2) pa_nil))))))), fun fd' xs Φ h => ?_⟩
  obtain ⟨hs, ws, r, h, wys, l, rfl, gn, rm, hm, hW, nd, L, hl, hc, q⟩ := h
  obtain ⟨m1, m2⟩ := mem_oth.mp hm
  exact ds_ret (de_call0 (da_cons (de_onet TC (de_var rfl ⟨rfl, da_cons (de_oroot TC (de_var rfl ⟨rfl, da_cons (de_var rfl (da_cons (de_var rfl (da_nil ⟨hs, ws, r, h, wys, l, rfl, gn, rm, m1, m2, hW, nd, L, hl, hc, q⟩))))⟩))⟩))))
end
end Z

/-! # ZR3 -/
set_option Elab.async false
set_option linter.all false
set_option maxRecDepth 100000
set_option maxHeartbeats 1000000
namespace Z
open PySem PySem.Spec PyProof.Rows L2 Fl
/-! ### Rooted(net, root) -/
def spInit (K : PySem.W.Frag) (C : Addr) : Sp := fun vs H Q _ => ∃ fd G1 H1 x dx n r hs ws rr, vs = [.ref x, n, r] ∧ H = upd (upd H1 dx (.own x)) x (.ins C dx []) ∧ H1 x = none ∧ H1 dx = none ∧ dx ≠ x ∧ Ok ⟨K, C, fd⟩ G1 H1 ∧
  Dq G1 n (netD hs ws) ∧ Dq G1 r (.str rr) ∧ GN hs ws ∧ rr ∈ hs ∧ ∀ G' H', Grow ⟨K, C, fd⟩ G1 H1 G' H' → Rv ⟨K, C, fd⟩ G' (.ref x) (roD hs ws rr) → Q .non H'
abbrev N_R__init__ : List Str := ["self", "net", "root", "house"]
theorem sc_R__init__ : FnScope N_R__init__ ["self", "net", "root"] (defScope (inC 0)) := ⟨rfl, rfl, rfl, by decide +kernel, rfl, by decide +kernel, by decide +kernel⟩
section
variable {Pr : Program} {w : World} {K : PySem.W.Frag} {mg : Str → Option Value} {base : Heap} {C : Addr} {f : Addr} {fd : FuncData}
theorem ok_init (T : Tx K mg C) (TC : Tc K C) (c_want_root : C8.Cal Pr w K mg base 5 "want_root" (mkSp K C L_wroot) []) (c_others_of : C8.Cal Pr w K mg base 1 "others_of" (mkSp K C L_others) []) (c_alone_by : C8.Cal Pr w K mg base 4 "alone_by" (mkSp K C L_aloneby) []) (F : FnQ K "__init__" "Rooted.__init__" (inC 0) f fd) : FnOk Pr w K mg base CX0 6 f fd ["self", "net", "root"] (spInit K C) := by
  have sc := sc_R__init__
  refine F.ok sc (fun vs H Q E h => by obtain ⟨_, _, _, _, _, _, _, _, _, _, rfl, _⟩ := h; rfl) (fun cdv A outer s H vs Q E hr h => ?_)
  refine ⟨_, PSs.nox (pss_cons (ps_expr (C8.pe_c c_want_root hr (by decide) (by rfl) (pa_cons (pv 1) (pa_cons (pv 2) pa_nil))))
      (pss_cons (ps_fld (pv 0) (pv 1) rfl)
      (pss_cons (ps_fld (pv 0) (pv 2) rfl)
      (pss_one (ps_fld (pv 0) (pe_callTy (call_tupF K) (by rfl) T.m_tuple boot_tuple (pa_cons (pe_lc (own := [("house", 3)]) rfl sc.nd (pi_tupK K (C8.pe_c c_others_of hr (by decide) (by rfl) (pa_cons (pv 1) (pa_cons (pv 2) pa_nil)))) (blkOk_by (by exact rfl)) (fun _ _ _ _ _ => (pg_name (i := 3) sc.nd rfl (.inl rfl))) (fun _ _ _ _ _ => pts_nil) (fun _ _ _ _ _ => (pe_tup (pa_cons (pv 3) (pa_cons (C8.pe_c c_alone_by hr (by decide) (by rfl) (pa_cons (pv 1) (pa_cons (pv 2) (pa_cons (pv 3) pa_nil)))) pa_nil))))) pa_nil)) rfl))))), ?_⟩
  obtain ⟨fd, G1, H1, x, dx, n, r, hs, ws, rr, rfl, rfl, hx, hdx, ne, o1, dn, dr, gn, rm, q⟩ := h
  let P : Pm := ⟨K, C, fd⟩
  have lh := gn.lh
  have hx2 : upd H1 dx (.own x) x = none := by rw [upd_ne (Ne.symm ne)]; exact hx
  have g0 : Grow P G1 H1 G1 (upd (upd H1 dx (.own x)) x (.ins C dx [])) := (o1.hid hdx).trans ((o1.hid hdx).ok.hid hx2)
  have fx : ¬ isF P x := o1.nofd hx
  have gx : G1 x = none := o1.none_of hx
  have nof : ∀ a, isF P a → H1 a ≠ none := fun a fa => by obtain ⟨c, s, z, t, e⟩ := o1.fsome fa; rw [e]; exact fun z => nomatch z
  let ρ : List En := [.un, .fz (.d (netD hs ws)), .fz (.d (.str rr)), .un]
  let σ : L2.St := [some (.ref x), some n, some r, none]
  have rel : ∀ {G H : Hp}, Same G1 G → (∀ b, H1 b ≠ none → H b ≠ none) → Rel P H1 G H ρ σ := fun {G H} sm dm => by
    refine ⟨rfl, fun i e h => ?_, dm, nof⟩
    match i, h with
    | 0, h => cases h; exact ⟨_, rfl, True.intro⟩
    | 1, h => cases h; exact ⟨_, rfl, n, rfl, dp_up sm dn⟩
    | 2, h => cases h; exact ⟨_, rfl, r, rfl, dp_up sm dr⟩
    | 3, h => cases h; exact ⟨_, rfl, True.intro⟩
    | i + 4, h => exact nomatch h
  -- want_root(net, root)
  have step1 : De P (tCall (mkSp P.K P.C L_wroot) [] E0 (tCons (tVar 1) (tCons (tVar 2) tNil))) ρ fun _ => True := de_call0 (da_cons (de_var rfl (da_cons (de_var rfl (da_nil ⟨hs, ws, rr, rfl, gn, rm, True.intro⟩)))))
  refine step1 H1 G1 _ σ g0.ok (rel (Same.refl _) (fun b h => g0.dom h)) _ fun v G2 H2 y g2 _ _ => ?_
  have k2 : H2 x = some (.ins C dx []) := g2.kp _ _ upd_same fx
  have gg2 := g0.trans g2
  have gx2 : G2 x = none := g2.hid gx upd_same (fun _ z => nomatch z)
  -- self.held_net = net
  refine ⟨n, rfl, .ref x, rfl, x, C, dx, [], rfl, k2, TC.cl, TC.n1, by decide, ?_⟩
  have k3 : upd H2 x (.ins C dx (putF "held_net" n [])) x = some (.ins C dx [("held_net", n)]) := upd_same
  have g3 : Grow P G1 H1 G2 (upd H2 x (.ins C dx (putF "held_net" n []))) := gg2.put o1 hx gx2 fx
  -- self.held_root = root
  refine ⟨r, rfl, .ref x, rfl, x, C, dx, _, rfl, k3, TC.cl, TC.n2, by show 1 < 1000; decide, ?_⟩
  have g4 : Grow P G1 H1 G2 (upd (upd H2 x (.ins C dx (putF "held_net" n []))) x (.ins C dx (putF "held_root" r [("held_net", n)]))) := g3.put o1 hx gx2 fx
  have k4 : upd (upd H2 x (.ins C dx (putF "held_net" n []))) x (.ins C dx (putF "held_root" r [("held_net", n)])) x = some (.ins C dx [("held_net", n), ("held_root", r)]) := upd_same
  -- self.held_pairs = ..
  have step4 : De P (tCB (rTupF P.K) (tCons (tLc (iTup P.K (tCall (mkSp P.K P.C L_others) [] E0 (tCons (tVar 1) (tCons (tVar 2) tNil)))) (gName 3) tYes (tTup (tCons (tVar 3) (tCons (tCall (mkSp P.K P.C L_aloneby) [] E0 (tCons (tVar 1) (tCons (tVar 2) (tCons (tVar 3) tNil)))) tNil))) [3]) tNil)) ρ fun y => y = .pt (prsL hs ws rr) := by
    have lo : (oth hs rr).length ≤ 20 := Nat.le_trans (List.length_filter_le _ _) lh
    refine de_tupF (da_cons (de_lcB (oth hs rr) (fun h => .d (.str h)) (fun h => .tuple [.str h, .int (aK ws rr h : Nat)]) ?_ (fun h hh => dg_name (by decide) ?_) (da_nil ⟨prsL hs ws rr, rfl, rfl⟩)))
    · exact di_tup (de_call0 (da_cons (de_var rfl (da_cons (de_var rfl (da_nil ⟨hs, ws, rr, rfl, by omega, _, rfl, by rw [List.map_map]; rfl, szs (by omega)⟩))))))
    · obtain ⟨m1, m2⟩ := mem_oth.mp hh
      exact de_tup (da_cons (de_var rfl (da_cons (de_call0 (da_cons (de_var rfl (da_cons (de_var rfl (da_cons (de_var rfl (da_nil ⟨hs, ws, rr, h, rfl, gn, rm, m2.symm, da_nil ⟨[_, _], rfl, szn rfl, rfl⟩⟩)))))))))))
  refine step4 H1 G2 _ σ g4.ok (rel (g4.same o1) (fun b h => g4.dom h)) _ fun v G5 H5 y g5 rv e => ?_
  subst e
  have k5 : H5 x = some (.ins C dx [("held_net", n), ("held_root", r)]) := g5.kp _ _ k4 fx
  have gx5 : G5 x = none := g5.hid gx2 k4 (fun _ z => nomatch z)
  refine ⟨.ref x, rfl, x, C, dx, _, rfl, k5, TC.cl, TC.n3, by show 2 < 1000; decide, ?_⟩
  have g6 : Grow P G1 H1 G5 (upd H5 x (.ins C dx (putF "held_pairs" v [("held_net", n), ("held_root", r)]))) := (g4.trans g5).put o1 hx gx5 fx
  have g7 := g6.show (p := x) (u := .ins C dx (putF "held_pairs" v [("held_net", n), ("held_root", r)])) hx upd_same fx
  refine q _ _ g7 ⟨x, dx, n, r, v, rfl, upd_same, ?_, ?_, ?_⟩
  · exact dp_up ((g6.same o1).trans (upd_set gx5)) dn
  · exact dp_up ((g6.same o1).trans (upd_set gx5)) dr
  · exact ptAt_up (upd_set gx5) rv
/-! ### iter(o) -/
def spIter (K : PySem.W.Frag) (C : Addr) : Sp := fun vs H Q _ => ∃ (a dx : Addr) (fs : List (Str × V)) (t : Addr) (zs : List V), vs = [.ref a] ∧ H a = some (.ins C dx fs) ∧ fs.lookup (("held_pairs" : Str)) = some (V.ref t) ∧ SqT K H t zs ∧ ∀ it, H it = none → Q (.ref it) (upd H it (ItU t it 0))
abbrev N_R__iter__ : List Str := ["self"]
theorem sc_R__iter__ : FnScope N_R__iter__ ["self"] (defScope (inC 5)) := ⟨rfl, rfl, rfl, by decide +kernel, rfl, by decide +kernel, by decide +kernel⟩
theorem ok_iter (T : Tx K mg C) (TC : Tc K C) (F : FnQ K "__iter__" "Rooted.__iter__" (inC 5) f fd) : FnOk Pr w K mg base CX0 1 f fd ["self"] (spIter K C) := by
  have sc := sc_R__iter__
  refine F.ok sc (fun vs H Q E h => by obtain ⟨_, _, _, _, _, rfl, _⟩ := h; rfl) (fun cdv A outer s H vs Q E hr h => ?_)
  refine ⟨_, PSs.nox (pss_one (ps_ret (pe_callB call_iterU (by rfl) T.m_iter boot_iter (pa_cons (pe_fld (pv 0) rfl) pa_nil)))), ?_⟩
  obtain ⟨a, dx, fs, t, zs, rfl, ha, hl, ht, q⟩ := h
  exact ⟨.ref a, rfl, a, C, dx, fs, .ref t, rfl, ha, TC.cl, TC.n3, hl, t, zs, rfl, ht, q⟩
end
section
variable {P : Pm} {ρ : List En}
theorem de_make {E : XK} {ta : TA} {Φ : KD} (h : Da P ta ρ fun xs => ∃ hs ws r, xs = [.d (netD hs ws), .d (.str r)] ∧ GN hs ws ∧ r ∈ hs ∧ Φ (roD hs ws r)) : De P (tMake P.C (spInit P.K P.C) [] E ta) ρ Φ := by
  intro H0 G H σ o rl Q k
  refine h H0 G H σ o rl _ fun vs G1 H1 xs g1 rv ⟨hs, ws, r, e, gn, rm, q⟩ => ?_
  subst e
  obtain ⟨v, u, rfl, rv1, rv2⟩ := rvL2 rv
  intro x dx hx hdx ne
  exact ⟨P.fd, G1, H1, x, dx, v, u, hs, ws, r, rfl, rfl, hx, hdx, ne, g1.ok, rv1, rv2, gn, rm, fun G' H' g rz => ⟨rfl, k _ G' H' (roD hs ws r) (g1.trans g) rz q⟩⟩
def gVrn : List V → List V → List V := fun vs zs => vs ++ [zs.getD 1 .non, zs.getD 0 .non]
theorem de_makeK {E : XK} {tk : TA} {Φ : KD} (h : Da P tk ρ fun xs => ∃ hs ws r, xs = [.d (.str r), .d (netD hs ws)] ∧ GN hs ws ∧ r ∈ hs ∧ Φ (roD hs ws r)) : De P (tMakeK P.C 0 2 (spInit P.K P.C) gVrn E tNil tk) ρ Φ := by
  intro H0 G H σ o rl Q k
  refine h H0 G H σ o rl _ fun vs G1 H1 xs g1 rv ⟨hs, ws, r, e, gn, rm, q⟩ => ?_
  subst e
  obtain ⟨v, u, rfl, rv1, rv2⟩ := rvL2 rv
  refine ⟨rfl, rfl, fun x dx hx hdx ne => ?_⟩
  exact ⟨P.fd, G1, H1, x, dx, u, v, hs, ws, r, rfl, rfl, hx, hdx, ne, g1.ok, rv2, rv1, gn, rm, fun G' H' g rz => ⟨rfl, k _ G' H' (roD hs ws r) (g1.trans g) rz q⟩⟩
theorem de_olist {E1 E2 : XK} {te : TE} {Φ : KD} (h : De P te ρ fun x => ∃ hs ws r, x = roD hs ws r ∧ hs.length ≤ 1000 ∧ Φ (.d (.list (prsL hs ws r)))) : De P (tCB (rOwnList P.K P.C (spIter P.K P.C) (mkSp P.K P.C L_olen) E1 E2) (tCons te tNil)) ρ Φ := by
  refine de_cb (da_cons (h.mono fun x ⟨hs, ws, r, e, hl, q⟩ => da_nil ?_))
  subst e
  intro G H vs o rv Q k
  obtain ⟨v, rfl, rv'⟩ := rvL1 rv
  obtain ⟨a, dx, vn, vr, vp, ev, ha, h1, h2, h3⟩ := rv_ro rv'
  subst ev
  obtain ⟨t, zs, ob, rfl, _, _, ht, hd⟩ := h3
  refine ⟨a, dx, _, rfl, o.sub _ _ ha, fun q' hq => ?_⟩
  have g1 := o.hid (o := .lst []) hq
  have fq := o.nofd hq
  have lz : zs.length ≤ 1000 := by
    rw [dpA_len hd, prsL, List.length_map]
    exact Nat.le_trans (List.length_filter_le _ _) hl
  refine ⟨a, dx, _, t, zs, rfl, g1.ok.sub _ _ ha, by first | rfl | simp, .inl (.inr ⟨ob, g1.ok.sub _ _ ht⟩), fun it hit => ?_⟩
  have g2 := g1.trans (g1.ok.hid (o := ItU t it 0) hit)
  have hit0 : H it = none := by
    cases e : H it with
    | none => rfl
    | some u => exact absurd hit (g1.dom (by rw [e]; exact fun z => nomatch z))
  have fi := o.nofd hit0
  have niq : it ≠ q' := fun e => by rw [e, upd_same] at hit; exact nomatch hit
  refine ⟨it, t, zs, dx, _, rfl, upd_same, g2.ok.sub _ _ ha, P.fd, G, [roD hs ws r], _, g2.ok, ⟨rv', True.intro⟩, ⟨hs, ws, r, rfl, rfl⟩, fun v G' H' x g rz e => ?_⟩
  subst e
  cases rz
  have kq : H' q' = some (.lst []) := g.kp _ _ (by rw [upd_ne niq.symm, upd_same]) fq
  have ki : H' it = some (ItU t it 0) := g.kp _ _ upd_same fi
  have gg := g2.trans g
  have gq : G' q' = none := g.hid (o.none_of hq) (by rw [upd_ne niq.symm, upd_same] : _ = some (HO.lst [])) (fun _ z => nomatch z)
  have gi : G' it = none := g.hid (o.none_of hit0) upd_same (fun _ z => nomatch z)
  refine ⟨by rw [dpA_len hd, prsL, List.length_map], by omega, kq, ki, .inl (.inr ⟨ob, g.ok.sub _ _ ((gg.same o) _ _ ht)⟩), ?_⟩
  have g5 := (gg.put o (u := ItUE it) hit0 gi fi).put o (u := .lst zs) hq gq fq
  exact k _ _ _ (.d (.list (prsL hs ws r))) (g5.show hq upd_same fq) (.lst upd_same (dpA_up ((gg.same o).trans (upd_set gq)) hd)) q
end
end Z

/-! # ZL1 -/
set_option Elab.async false
set_option linter.all false
set_option maxRecDepth 100000
set_option maxHeartbeats 1000000
namespace Z
open PySem PySem.Spec PyProof.Rows L2 Fl
/-- the number of wires into a lot -/
abbrev inL (ws : List (Str × Str)) (l : List Str) : Nat := cut ws (fun x => decide (x ∈ l))
/-- all lots of a town, as the law lists them -/
def lotsStep (s : Str) (acc : List (List Str)) (n : Str) : List (List Str) := acc ++ (if n = s then [] else acc.map (· ++ [n]))
def lotsAll (hs : List Str) (s : Str) : List (List Str) := hs.foldl (lotsStep s) [[]]
def lotsL (hs : List Str) (s : Str) : List (List Str) := (lotsAll hs s).drop 1
theorem lotsAll_take {hs : List Str} {s : Str} {i : Nat} {n : Str} (h : hs[i]? = some n) : lotsAll (hs.take (i + 1)) s = lotsStep s (lotsAll (hs.take i) s) n := by
  have li := (List.getElem?_eq_some_iff.mp h).1
  have tk : hs.take (i + 1) = hs.take i ++ [n] := by rw [List.take_succ_eq_append_getElem li, (List.getElem?_eq_some_iff.mp h).2]
  rw [tk, lotsAll, List.foldl_append]; rfl
theorem lots_len (s : Str) : ∀ (hs : List Str) (acc : List (List Str)) , (hs.foldl (lotsStep s) acc).length ≤ acc.length * 2 ^ hs.length
  | [], acc => by simp
  | h :: r, acc => by
    have := lots_len s r (lotsStep s acc h)
    have e : (lotsStep s acc h).length ≤ acc.length * 2 := by
      unfold lotsStep
      by_cases c : h = s
      · rw [if_pos c, List.append_nil]; omega
      · rw [if_neg c, List.length_append, List.length_map]; omega
    rw [List.foldl_cons, List.length_cons, Nat.pow_succ']
    refine Nat.le_trans this ?_
    rw [← Nat.mul_assoc]
    exact Nat.mul_le_mul_right _ e
theorem lotsAll_len (hs : List Str) (s : Str) (h : hs.length ≤ 7) : (lotsAll hs s).length ≤ 128 := by
  have h1 := lots_len s hs [[]]
  have h2 : 2 ^ hs.length ≤ 2 ^ 7 := Nat.pow_le_pow_right (by decide) h
  simp only [List.length_singleton, Nat.one_mul] at h1
  exact Nat.le_trans h1 h2
theorem lotsL_len (hs : List Str) (s : Str) (h : hs.length ≤ 7) : (lotsL hs s).length ≤ 128 := by
  rw [lotsL, List.length_drop]
  have := lotsAll_len hs s h
  omega
theorem lots_in (s : Str) : ∀ (hs : List Str) (acc : List (List Str)) (m : Nat), (∀ l ∈ acc, l.length ≤ m) → ∀ l ∈ hs.foldl (lotsStep s) acc, l.length ≤ m + hs.length
  | [], acc, m, h, l, hl => by simpa using h l hl
  | a :: r, acc, m, h, l, hl => by
    have := lots_in s r (lotsStep s acc a) (m + 1) (fun x hx => ?_) l hl
    · rw [List.length_cons]; omega
    · unfold lotsStep at hx
      rcases List.mem_append.mp hx with hx | hx
      · have := h x hx; omega
      · by_cases c : a = s
        · rw [if_pos c] at hx; exact nomatch hx
        · rw [if_neg c] at hx
          obtain ⟨y, hy, e⟩ := List.mem_map.mp hx
          have := h y hy
          rw [← e, List.length_append, List.length_singleton]; omega
theorem lotsAll_in {hs : List Str} {s : Str} {l : List Str} (h : l ∈ lotsAll hs s) : l.length ≤ hs.length := by
  have := lots_in s hs [[]] 0 (fun x hx => by cases List.mem_singleton.mp hx; exact Nat.le_refl _) l h
  omega
theorem lotsL_in {hs : List Str} {s : Str} {l : List Str} (h : l ∈ lotsL hs s) : l.length ≤ hs.length := lotsAll_in (List.mem_of_mem_drop h)
def loD (ls : List (List Str)) : PyData := .list (ls.map hoD)
section
variable {Pr : Program} {w : World} {K : PySem.W.Frag} {mg : Str → Option Value} {base : Heap} {C : Addr} {f : Addr} {fd : FuncData}
def L_lmany : Law := fun xs Φ => ∃ hs ws l, xs = [.d (netD hs ws), .d (hoD l)] ∧ l.length ≤ 1000 ∧ ws.length ≤ 1000 ∧ Φ (.d (.int (inL ws l : Nat)))
abbrev N__law_many : List Str := ["_law_town", "_law_some", "_law_tail", "_law_head"]
theorem sc__law_many : FnScope N__law_many ["_law_town", "_law_some"] (defScope (top 75)) := ⟨rfl, rfl, rfl, by decide +kernel, rfl, by decide +kernel, by decide +kernel⟩
theorem c__law_many (T : Tx K mg C) (F : FnP K "_law_many" (top 75) [] f fd) (g : mg "_law_many" = some (.ref f)) : C8.Cal Pr w K mg base 1 "_law_many" (mkSp K C L_lmany) [] := by
  have sc := sc__law_many
  refine calN F g (fun _ _ _ _ _ _ us hl => match us, hl with | [_, _], _ => rfl) (okD F sc (fun xs Φ h => by obtain ⟨a, b, c, rfl, _⟩ := h; rfl) (fun cdv A outer s H E hr => ?_))
  refine ⟨_, (pss_one (ps_ret (pe_callB (call_lenK K) (by rfl) T.m_len boot_len (pa_cons (pe_lc (own := [("_law_tail", 2), ("_law_head", 3)]) rfl sc.nd (pi_tupK K (pe_ix (ix_seqK K) (pv 0) pe_int (fun _ _ => rfl))) (blkOk_by (by exact rfl)) (fun _ _ _ _ _ => (pg_tupK K 2 (pgs_cons (pg_name (i := 2) sc.nd rfl (.inl rfl)) (pgs_cons (pg_name (i := 3) sc.nd rfl (.inl rfl)) pgs_nil)))) (fun _ _ _ _ _ => pts_one (PW.pt (pw_and (pt_cmpR (op_inK K) (pv 3) (pv 1) rfl) (pw_and1 (pt_cmpR (op_ninK K) (pv 2) (pv 1) rfl))))) (fun _ _ _ _ _ => pe_int)) pa_nil)))), fun fd' xs Φ h => ?_⟩
  obtain ⟨hs, ws, l, rfl, hl, hw, q⟩ := h
  refine ds_ret (de_cb (da_cons (de_lcA ws (fun p => .d (prD p)) (fun p => if enters (fun x => decide (x ∈ l)) p = true then some (.int 1) else none) ?_ (fun p hp => dg2 (by decide) (by decide) (dt_and (dt_test (de_inH (de_var rfl (de_var rfl ⟨p.2, l, _, rfl, rfl, .inr rfl, _, rfl, ?_⟩)))))) (da_nil (dc_len (.inl rfl) ?_)))))
  · exact di_tup (de_net1 (hs := hs) (ws := ws) (de_var rfl ⟨rfl, ws.map prD, rfl, by rw [List.map_map]; exact ⟨rfl, szs (by omega)⟩⟩))
  · by_cases e : p.2 ∈ l
    · rw [decide_eq_true e, if_pos rfl]
      refine dt_test (de_ninH (de_var rfl (de_var rfl ⟨p.1, l, _, rfl, rfl, .inr rfl, _, rfl, ?_⟩)))
      by_cases e2 : p.1 ∈ l
      · rw [decide_eq_true e2]; exact if_neg (by unfold enters; simp [e2])
      · rw [decide_eq_false e2]; exact de_int ⟨_, rfl, if_pos (by unfold enters; simp [e, e2])⟩
    · rw [decide_eq_false e]; exact if_neg (by unfold enters; simp [e])
  · rw [filterMap_if (fun p : Str × Str => enters (fun x => decide (x ∈ l)) p) (fun _ => PyData.int 1), List.length_map]
    exact q
def L_lots : Law := fun xs Φ => ∃ hs ws s, xs = [.d (netD hs ws), .d (.str s)] ∧ hs.length ≤ 7 ∧ Φ (.d (loD (lotsL hs s)))
abbrev N__law_lots : List Str := ["_law_town", "_law_seat", "_law_found", "_law_name", "_law_one"]
theorem sc__law_lots : FnScope N__law_lots ["_law_town", "_law_seat"] (defScope (top 74)) := ⟨rfl, rfl, rfl, by decide +kernel, rfl, by decide +kernel, by decide +kernel⟩
theorem c__law_lots (T : Tx K mg C) (F : FnP K "_law_lots" (top 74) [] f fd) (g : mg "_law_lots" = some (.ref f)) : C8.Cal Pr w K mg base 1 "_law_lots" (mkSp K C L_lots) [] := by
  have sc := sc__law_lots
  refine calN F g (fun _ _ _ _ _ _ us hl => match us, hl with | [_, _], _ => rfl) (okD F sc (fun xs Φ h => by obtain ⟨a, b, c, rfl, _⟩ := h; rfl) (fun cdv A outer s H E hr => ?_))
  refine ⟨_, (pss_cons (ps_set (i := 2) sc.nd rfl (.inl rfl) (pe_lst (pa_cons (pe_tup pa_nil) pa_nil)))
      (pss_cons (ps_for PassesOwn.never rfl (pi_tupK K (pe_ix (ix_seqK K) (pv 0) pe_int (fun _ _ => rfl))) (pg_name (i := 3) sc.nd rfl (.inr rfl)) (pss_one (ps_set (i := 2) sc.nd rfl (.inl rfl) (pe_op (op_addK K) (pv 2) (pe_lc (own := [("_law_one", 4)]) rfl sc.nd (pi_listK K (pv 2)) (blkOk_by (by exact rfl)) (fun _ _ _ _ _ => (pg_name (i := 4) sc.nd rfl (.inl rfl))) (fun _ _ _ _ _ => pts_one (pt_cmpR (op_neK K hr) (pv 3) (pv 1) (nomark _))) (fun _ _ _ _ _ => (pe_op (op_addK K) (pv 4) (pe_tup (pa_cons (pv 3) pa_nil)))))))))
      (pss_one (ps_ret (pe_slice (sl_anyK K) (pv 2) (po_some pe_int) po_none))))), fun fd' xs Φ h => ?_⟩
  obtain ⟨hs, ws, s, rfl, hl, q⟩ := h
  let V0 : En := .fz (.d (netD hs ws))
  let V1 : En := .fz (.d (.str s))
  refine ds_seq (ds_setz (de_lst (da_cons (de_tup (da_nil ⟨[], rfl, szn rfl, da_nil ⟨[.tuple []], rfl, szn rfl, ?_⟩⟩)))))
  refine ds_seq (ds_forW [3, 4] (fun i ρ' => ρ' = [V0, V1, .fz (.d (loD (lotsAll (hs.take i) s))), .un, .un])
    (di_tup (de_net0 (hs := hs) (ws := ws) (de_var rfl ⟨rfl, hs.map .str, rfl, ?_⟩))))
  refine ⟨[3], by rw [List.take_zero]; rfl, ?_, ?_⟩
  · rintro i v ρ2 hv rfl
    rw [List.getElem?_map, List.getElem?_map] at hv
    cases hp : hs[i]? with
    | none => rw [hp] at hv; exact nomatch hv
    | some n =>
      rw [hp] at hv; cases hv
      have li := (List.getElem?_eq_some_iff.mp hp).1
      have la := lotsAll_len (hs.take i) s (by rw [List.length_take]; omega)
      refine dg_name (by decide) ?_
      refine ds_setz (de_addL (de_var rfl (de_lcA (lotsAll (hs.take i) s) (fun l => .d (hoD l)) (fun l => if (!decide (n = s)) = true then some (hoD (l ++ [n])) else none) (di_list (de_var rfl ⟨_, rfl, by rw [List.map_map]; exact ⟨rfl, szs (by omega)⟩⟩)) (fun l hl => dg_name (by decide) (dt_test (de_nss (de_var rfl (de_var rfl ⟨n, s, rfl, rfl, _, rfl, ?_⟩))))) ⟨_, _, rfl, rfl, ?_, ?_⟩)))
      · by_cases e : n = s
        · rw [decide_eq_true e]; exact if_neg (by decide)
        · rw [decide_eq_false e]
          refine de_addT (de_var rfl (de_tup (da_cons (de_var rfl (da_nil ⟨[.str n], rfl, szn rfl, l.map .str, [.str n], rfl, rfl, ?_, _, rfl, ?_⟩)))))
          · have := lotsAll_in hl
            rw [List.length_take] at this
            rw [List.length_map]
            exact szl (by simp; omega)
          · rw [hoD, List.map_append]; rfl
      · have h1 := List.length_filterMap_le (fun l => if (!decide (n = s)) = true then some (hoD (l ++ [n])) else none) (lotsAll (hs.take i) s)
        rw [List.length_map]
        exact szl (by omega)
      · rw [lotsAll_take hp, lotsStep]
        show ([_, _, En.fz _, _, _] : List En) = _
        rw [loD, List.map_append, filterMap_if (fun _ => !decide (n = s)) (fun l => hoD (l ++ [n]))]
        by_cases e : n = s
        · rw [if_pos e, List.filter_eq_nil_iff.mpr (fun _ _ => by simp [e])]; rfl
        · rw [if_neg e, List.filter_eq_self.mpr (fun _ _ => by simp [e]), List.map_map]; rfl
  · rintro ρ2 rfl
    rw [List.length_map, List.length_map, List.take_length]
    refine ds_ret (de_sl (de_var rfl (dp_some (de_int ⟨1, rfl, dp_none ⟨_, .inl ⟨rfl, ?_⟩⟩⟩))))
    rw [cut_one, ← List.map_drop]
    exact q
end
end Z

/-! # ZL2 -/
set_option Elab.async false
set_option linter.all false
set_option maxRecDepth 100000
set_option maxHeartbeats 1000000
namespace Z
open PySem PySem.Spec PyProof.Rows L2 Fl
/-- m is the least number of wires into a lot of those that p picks -/
structure LeastOf (ws : List (Str × Str)) (ls : List (List Str)) (p : List Str → Bool) (m : Nat) : Prop where
  is : ∃ l ∈ ls, p l = true ∧ inL ws l = m
  le : ∀ l ∈ ls, p l = true → m ≤ inL ws l
theorem least_of {ws : List (Str × Str)} {ls : List (List Str)} {p : List Str → Bool} {m : Int} (h1 : m ∈ (ls.filter p).map fun l => ((inL ws l : Nat) : Int)) (h2 : ∀ y ∈ (ls.filter p).map fun l => ((inL ws l : Nat) : Int), m ≤ y) : ∃ k : Nat, m = k ∧ LeastOf ws ls p k := by
  obtain ⟨l, hl, e⟩ := List.mem_map.mp h1
  obtain ⟨a, b⟩ := List.mem_filter.mp hl
  refine ⟨inL ws l, e.symm, ⟨l, a, b, rfl⟩, fun l' hl' hp => ?_⟩
  have := h2 _ (List.mem_map.mpr ⟨l', List.mem_filter.mpr ⟨hl', hp⟩, rfl⟩)
  rw [← e] at this
  omega
theorem shaped_ints (ns : List Int) : SeqAt.shaped (.list (ns.map .int)) = true := by
  unfold SeqAt.shaped
  have h1 : PyData.canLayAll0 (ns.map .int) = true := lay_all fun d hd => by
    obtain ⟨p, hp, rfl⟩ := List.mem_map.mp hd
    rw [PyData.canLay0.eq_3]
  have h2 : PyData.depthAll (ns.map .int) ≤ 0 := depth_all fun d hd => by
    obtain ⟨p, hp, rfl⟩ := List.mem_map.mp hd
    rw [PyData.depth.eq_6]; omega
  rw [PyData.canLay0.eq_5, PyData.depth.eq_1, h1, Bool.true_and]
  exact decide_eq_true (by omega)
theorem lots_it {hs : List Str} {s : Str} (hl : hs.length ≤ 7) : ((lotsL hs s).map hoD).map Dv.d = (lotsL hs s).map (fun l => Dv.d (hoD l)) ∧ (lotsL hs s).length < sizeLine := by
  rw [List.map_map]
  have := lotsL_len hs s hl
  exact ⟨rfl, szs (by omega)⟩
section
variable {Pr : Program} {w : World} {K : PySem.W.Frag} {mg : Str → Option Value} {base : Heap} {C : Addr} {f : Addr} {fd : FuncData}
def L_lalone : Law := fun xs Φ => ∃ hs ws s h, xs = [.d (netD hs ws), .d (.str s), .d (.str h)] ∧ hs.length ≤ 7 ∧ ws.length ≤ 1000 ∧ (∃ l ∈ lotsL hs s, h ∈ l) ∧ ∀ m : Nat, LeastOf ws (lotsL hs s) (fun l => decide (h ∈ l)) m → Φ (.d (.int m))
abbrev N__law_alone : List Str := ["_law_town", "_law_seat", "_law_home", "_law_some"]
theorem sc__law_alone : FnScope N__law_alone ["_law_town", "_law_seat", "_law_home"] (defScope (top 76)) := ⟨rfl, rfl, rfl, by decide +kernel, rfl, by decide +kernel, by decide +kernel⟩
theorem c__law_alone (T : Tx K mg C) (c__law_many : C8.Cal Pr w K mg base 1 "_law_many" (mkSp K C L_lmany) []) (c__law_lots : C8.Cal Pr w K mg base 1 "_law_lots" (mkSp K C L_lots) []) (F : FnP K "_law_alone" (top 76) [] f fd) (g : mg "_law_alone" = some (.ref f)) : C8.Cal Pr w K mg base 2 "_law_alone" (mkSp K C L_lalone) [] := by
  have sc := sc__law_alone
  refine calN F g (fun _ _ _ _ _ _ us hl => match us, hl with | [_, _, _], _ => rfl) (okD F sc (fun xs Φ h => by obtain ⟨a, b, c, d, rfl, _⟩ := h; rfl) (fun cdv A outer s H E hr => ?_))
  refine ⟨_, (pss_one (ps_ret (pe_callB (cr_minK' K) (by rfl) T.m_min boot_min (pa_cons (pe_lc (own := [("_law_some", 3)]) rfl sc.nd (pi_listK K (C8.pe_c c__law_lots hr (by decide) (by rfl) (pa_cons (pv 0) (pa_cons (pv 1) pa_nil)))) (blkOk_by (by exact rfl)) (fun _ _ _ _ _ => (pg_name (i := 3) sc.nd rfl (.inl rfl))) (fun _ _ _ _ _ => pts_one (pt_cmpR (op_inK K) (pv 2) (pv 3) rfl)) (fun _ _ _ _ _ => (C8.pe_c c__law_many hr (by decide) (by rfl) (pa_cons (pv 0) (pa_cons (pv 3) pa_nil))))) pa_nil)))), fun fd' xs Φ h => ?_⟩
  obtain ⟨hs, ws, s, h, rfl, hl, hw, ⟨l0, hl0, hm0⟩, q⟩ := h
  refine ds_ret (de_cb (da_cons (de_lcA (lotsL hs s) (fun l => .d (hoD l)) (fun l => if decide (h ∈ l) = true then some (.int (inL ws l : Nat)) else none) ?_ (fun l hl' => dg_name (by decide) (dt_test (de_inH (de_var rfl (de_var rfl ⟨h, l, _, rfl, rfl, .inr rfl, _, rfl, ?_⟩))))) (da_nil ?_))))
  · refine di_list (de_call0 (da_cons (de_var rfl (da_cons (de_var rfl (da_nil ⟨hs, ws, s, rfl, hl, _, rfl, lots_it hl⟩))))))
  · by_cases e : h ∈ l
    · rw [decide_eq_true e, if_pos rfl]
      have := lotsL_in hl'
      exact de_call0 (da_cons (de_var rfl (da_cons (de_var rfl (da_nil ⟨hs, ws, l, rfl, by omega, hw, _, rfl, if_pos rfl⟩)))))
    · rw [decide_eq_false e]; exact if_neg (by decide)
  · rw [filterMap_if (fun l => decide (h ∈ l)) (fun l => PyData.int (inL ws l : Nat))]
    have e : ((lotsL hs s).filter fun l => decide (h ∈ l)).map (fun l => PyData.int (inL ws l : Nat)) = (((lotsL hs s).filter fun l => decide (h ∈ l)).map fun l => ((inL ws l : Nat) : Int)).map .int := by rw [List.map_map]; rfl
    rw [e]
    refine dc_minI ?_ (fun m h1 h2 => ?_)
    · rw [List.length_map]
      exact List.length_pos_of_mem (List.mem_filter.mpr ⟨hl0, decide_eq_true hm0⟩)
    · obtain ⟨k, rfl, L⟩ := least_of h1 h2
      exact q k L
def L_lwidth : Law := fun xs Φ => ∃ hs ws s, xs = [.d (netD hs ws), .d (.str s)] ∧ hs.length ≤ 7 ∧ ws.length ≤ 1000 ∧ (lotsL hs s = [] → Φ (.d .none)) ∧ ∀ m : Nat, LeastOf ws (lotsL hs s) (fun _ => true) m → Φ (.d (.int m))
abbrev N__law_width : List Str := ["_law_town", "_law_seat", "_law_counts_here", "_law_some"]
theorem sc__law_width : FnScope N__law_width ["_law_town", "_law_seat"] (defScope (top 77)) := ⟨rfl, rfl, rfl, by decide +kernel, rfl, by decide +kernel, by decide +kernel⟩
theorem c__law_width (T : Tx K mg C) (c__law_many : C8.Cal Pr w K mg base 1 "_law_many" (mkSp K C L_lmany) []) (c__law_lots : C8.Cal Pr w K mg base 1 "_law_lots" (mkSp K C L_lots) []) (F : FnP K "_law_width" (top 77) [] f fd) (g : mg "_law_width" = some (.ref f)) : C8.Cal Pr w K mg base 2 "_law_width" (mkSp K C L_lwidth) [] := by
  have sc := sc__law_width
  refine calN F g (fun _ _ _ _ _ _ us hl => match us, hl with | [_, _], _ => rfl) (okD F sc (fun xs Φ h => by obtain ⟨a, b, c, rfl, _⟩ := h; rfl) (fun cdv A outer s H E hr => ?_))
  refine ⟨_, (pss_cons (ps_setLc (i := 2) (own := [("_law_some", 3)]) rfl sc.nd rfl rfl (sw_true rfl rfl rfl (by exact rfl)) (pi_listK K (C8.pe_c c__law_lots hr (by decide) (by rfl) (pa_cons (pv 0) (pa_cons (pv 1) pa_nil)))) (blkOk_by (by exact rfl)) (fun _ _ _ _ _ => (pg_name (i := 3) sc.nd rfl (.inl rfl))) (fun _ _ _ _ _ => pts_nil) (fun _ _ _ _ _ => (C8.pe_c c__law_many hr (by decide) (by rfl) (pa_cons (pv 0) (pa_cons (pv 3) pa_nil)))))
      (pss_one (ps_ret (pe_ifExp (pt_cmpR (op_neK K hr) (pv 2) (pe_lst pa_nil) (nomark _)) (pe_callB (cr_minK' K) (by rfl) T.m_min boot_min (pa_cons (pv 2) pa_nil)) pe_non)))), fun fd' xs Φ h => ?_⟩
  obtain ⟨hs, ws, s, rfl, hl, hw, q0, q⟩ := h
  refine ds_seq (ds_setz (de_lcB (lotsL hs s) (fun l => .d (hoD l)) (fun l => .int (inL ws l : Nat)) ?_ (fun l hl' => dg_name (by decide) ?_) ?_))
  · refine di_list (de_call0 (da_cons (de_var rfl (da_cons (de_var rfl (da_nil ⟨hs, ws, s, rfl, hl, _, rfl, lots_it hl⟩))))))
  · have := lotsL_in hl'
    exact de_call0 (da_cons (de_var rfl (da_cons (de_var rfl (da_nil ⟨hs, ws, l, rfl, by omega, hw, rfl⟩)))))
  · have e : (lotsL hs s).map (fun l => PyData.int (inL ws l : Nat)) = ((lotsL hs s).map fun l => ((inL ws l : Nat) : Int)).map .int := by rw [List.map_map]; rfl
    rw [e]
    refine ds_ret (de_if (dt_test (de_nnil (de_var rfl (de_lst (da_nil ⟨[], rfl, szn rfl, _, rfl, shaped_ints _, rfl, _, rfl, ?_⟩))))))
    by_cases e0 : lotsL hs s = []
    · rw [e0]; exact de_non (q0 e0)
    · have e1 : (((lotsL hs s).map fun l => ((inL ws l : Nat) : Int)).map PyData.int).isEmpty = false := by simpa using e0
      rw [e1]
      refine de_cb (da_cons (de_var rfl (da_nil (dc_minI ?_ (fun m h1 h2 => ?_)))))
      · rw [List.length_map]; exact List.length_pos_iff.mpr e0
      · have e2 : (lotsL hs s).filter (fun _ => true) = lotsL hs s := List.filter_eq_self.mpr fun _ _ => rfl
        obtain ⟨k, rfl, L⟩ := least_of (ws := ws) (ls := lotsL hs s) (p := fun _ => true) (by rw [e2]; exact h1) (by rw [e2]; exact h2)
        exact q k L
end
end Z

/-! # ZL3 -/
set_option Elab.async false
set_option linter.all false
set_option maxRecDepth 100000
set_option maxHeartbeats 1000000
namespace Z
open PySem PySem.Spec PyProof.Rows L2 Fl
theorem shaped_way (r : List Nat) : SeqAt.shaped (wyD r) = true := by
  unfold SeqAt.shaped wyD ixD
  have h1 : PyData.canLayAll0 (r.map fun (i : Nat) => PyData.int (i : Int)) = true := lay_all fun d hd => by
    obtain ⟨p, hp, rfl⟩ := List.mem_map.mp hd
    rw [PyData.canLay0.eq_3]
  have h2 : PyData.depthAll (r.map fun (i : Nat) => PyData.int (i : Int)) ≤ 0 := depth_all fun d hd => by
    obtain ⟨p, hp, rfl⟩ := List.mem_map.mp hd
    rw [PyData.depth.eq_6]; omega
  rw [PyData.canLay0.eq_6, PyData.depth.eq_2, h1, Bool.true_and]
  exact decide_eq_true (by omega)
def L_liw : Law := fun xs Φ => ∃ hs ws b g r, xs = [.d (netD hs ws), .d (.str b), .d (.str g), .d (wyD r)] ∧ ws.length ≤ 1000 ∧ r ≠ [] ∧ Way ws b r g ∧ Φ (.d (.bool true))
abbrev N__law_is_way : List Str := ["_law_town", "_law_seat", "_law_home", "_law_item", "_law_here", "_law_seen", "_law_spot", "_law_tail", "_law_head"]
theorem sc__law_is_way : FnScope N__law_is_way ["_law_town", "_law_seat", "_law_home", "_law_item"] (defScope (top 79)) := ⟨rfl, rfl, rfl, by decide +kernel, rfl, by decide +kernel, by decide +kernel⟩
section
variable {Pr : Program} {w : World} {K : PySem.W.Frag} {mg : Str → Option Value} {base : Heap} {C : Addr} {f : Addr} {fd : FuncData}
theorem c__law_is_way (T : Tx K mg C) (F : FnP K "_law_is_way" (top 79) [] f fd) (g : mg "_law_is_way" = some (.ref f)) : C8.Cal Pr w K mg base 1 "_law_is_way" (mkSp K C L_liw) [] := by
  have sc := sc__law_is_way
  refine calN F g (fun _ _ _ _ _ _ us hl => match us, hl with | [_, _, _, _], _ => rfl) (okD F sc (fun xs Φ h => by obtain ⟨a, b, c, d, e, rfl, _⟩ := h; rfl) (fun cdv A outer s H E hr => ?_))
  refine ⟨_, (pss_cons (ps_if (PW.pt (pw_or (pt_not (pt_val (pe_callB (call_isiK' K) (by rfl) T.m_isinstance boot_isinstance (pa_cons (pv 3) (pa_cons (pe_bltn (v := .ty "tuple") (by rfl) T.m_tuple boot_tuple rfl) pa_nil))))) (pw_or1 (pt_cmpR (op_eqK K hr) (pv 3) (pe_tup pa_nil) (nomark _))))) (pss_one (ps_ret pe_bl)) pss_nil)
      (pss_cons (ps_par (i := 4) (j := 5) rfl sc.nd rfl rfl (by decide) rfl rfl (pa_cons (pv 1) (pa_cons (pe_lst (pa_cons (pv 1) pa_nil)) pa_nil)) (by rfl))
      (pss_cons (ps_for PassesOwn.never rfl (pi_tupK K (pv 3)) (pg_name (i := 6) sc.nd rfl (.inl rfl)) (pss_cons (ps_if (PW.pt (pw_or (pt_not (pt_val (pe_callB (call_isiK' K) (by rfl) T.m_isinstance boot_isinstance (pa_cons (pv 6) (pa_cons (pe_bltn (v := .ty "int") (by rfl) T.m_int boot_int rfl) pa_nil))))) (pw_or (pt_val (pe_callB (call_isiK' K) (by rfl) T.m_isinstance boot_isinstance (pa_cons (pv 6) (pa_cons (pe_bltn (v := .ty "bool") (by rfl) T.m_bool boot_bool rfl) pa_nil)))) (pw_or (pt_cmpR op_ltA (pv 6) pe_int (nomark _)) (pw_or1 (pt_cmpR (op_geK K hr) (pv 6) (pe_callB (call_lenK K) (by rfl) T.m_len boot_len (pa_cons (pe_ix (ix_seqK K) (pv 0) pe_int (fun _ _ => rfl)) pa_nil)) (nomark _))))))) (pss_one (ps_ret pe_bl)) pss_nil)
      (pss_cons (ps_asg (pe_ix (ix_seqK K) (pe_ix (ix_seqK K) (pv 0) pe_int (fun _ _ => rfl)) (pv 6) (fun _ _ => rfl)) (pg_tupK K 2 (pgs_cons (pg_name (i := 7) sc.nd rfl (.inl rfl)) (pgs_cons (pg_name (i := 8) sc.nd rfl (.inl rfl)) pgs_nil))))
      (pss_cons (ps_if (PW.pt (pw_or (pt_cmpR (op_neK K hr) (pv 7) (pv 4) (nomark _)) (pw_or1 (pt_cmpR (op_inK K) (pv 8) (pv 5) rfl)))) (pss_one (ps_ret pe_bl)) pss_nil)
      (pss_cons (ps_set (i := 4) sc.nd rfl (.inl rfl) (pv 8))
      (pss_one (ps_expr (pe_bm PySem.F.plainAttrs_list PySem.F.slot_list_append PySem.F.type_list_append mt_append (pv 5) (pa_cons (pv 8) pa_nil)))))))))
      (pss_one (ps_ret (pe_cmpR (op_eqK K hr) (pv 4) (pv 2) (nomark _))))))), fun fd' xs Φ h => ?_⟩
  obtain ⟨hs, ws, b, g, r, rfl, lw, r0, W, q⟩ := h
  have lr := way_len W
  refine ds_seq (ds_if (dt_or (dt_not (dt_b (de_cb (da_cons (de_var rfl (da_cons (de_ty (da_nil (dc_isi (kit_tup _) ⟨true, rfl, ?_⟩)))))))))))
  show Dt _ _ _ _
  refine dt_test (de_op (de_var rfl (de_tup (da_nil ⟨[], rfl, szn rfl, DOp.inr (dop_eqD (shaped_way r) shaped_nil.2 ⟨_, rfl, ?_⟩)⟩))))
  have e0 : PyData.eqv (wyD r) (.tuple []) = false := by
    rw [wyD, (eqv_nil _).2]
    cases r with
    | nil => exact absurd rfl r0
    | cons a r => rfl
  rw [e0]
  refine ds_next (ds_seq (ds_par (dal_cons (dw_of (de_var rfl (dal_cons (dw_lst (da_cons (de_var rfl (da_nil ⟨[.str b], rfl, szn rfl, dal_nil ⟨_, _, rfl, ?_⟩⟩))))))))))
  let V0 : En := .fz (.d (netD hs ws))
  let V1 : En := .fz (.d (.str b))
  let V2 : En := .fz (.d (.str g))
  let V3 : En := .fz (.d (wyD r))
  refine ds_seq (ds_forW [6, 7, 8] (fun i ρ' => ∃ x vis, ρ' = [V0, V1, V2, V3, .fz (.d (.str x)), .ol (vis.map .str), .un, .un, .un] ∧ Path ws b (r.take i) x ∧ vis.map some = tails ws (r.take i) ++ [some x] ∧ vis.length ≤ i + 1)
    (di_tup (de_var rfl ⟨ixD r, rfl, [6], ⟨b, [b], rfl, by rw [List.take_zero]; exact .nil b, by rw [List.take_zero]; rfl, by simp⟩, ?_, ?_⟩)))
  · rintro i v ρ2 hv ⟨x, vis, rfl, p, ev, lv⟩
    rw [List.getElem?_map, ixD, List.getElem?_map] at hv
    cases hp : r[i]? with
    | none => rw [hp] at hv; exact nomatch hv
    | some l =>
      rw [hp] at hv; cases hv
      have li := (List.getElem?_eq_some_iff.mp hp).1
      have ll := W.path.lt l (List.mem_of_getElem? hp)
      obtain ⟨⟨t, h⟩, ew⟩ : ∃ e, ws[l]? = some e := ⟨_, List.getElem?_eq_getElem ll⟩
      have tk : r.take (i + 1) = r.take i ++ [l] := by rw [List.take_succ_eq_append_getElem li, (List.getElem?_eq_some_iff.mp hp).2]
      obtain ⟨x2, vis2, p2, ev2⟩ := way_at W (i + 1) (by omega)
      have hx : t = x := by
        have q1 := W.path.take i l t h hp ew
        obtain ⟨x3, vis3, p3, ev3⟩ := way_at W i (by omega)
        exact path_uni q1 p
      subst hx
      refine dg_name (by decide) ?_
      refine ds_seq (ds_if (dt_or (dt_not (dt_b (de_cb (da_cons (de_var rfl (da_cons (de_ty (da_nil (dc_isi (kit_int _) ⟨true, rfl, ?_⟩)))))))))))
      refine dt_or (dt_b (de_cb (da_cons (de_var rfl (da_cons (de_ty (da_nil (dc_isi (kit_boo _) ⟨false, rfl, ?_⟩))))))))
      refine dt_or (dt_test (de_ltI (de_var rfl (de_int ⟨((l : Nat) : Int), 0, rfl, rfl, _, rfl, ?_⟩))))
      rw [decide_eq_false (by omega : ¬ ((l : Nat) : Int) < 0)]
      refine dt_test (de_geI (de_var rfl (de_cb (da_cons (de_net1 (hs := hs) (ws := ws) (de_var rfl ⟨rfl, da_nil (dc_len (.inr rfl) ⟨((l : Nat) : Int), _, rfl, rfl, _, rfl, ?_⟩)⟩))))))
      rw [List.length_map, decide_eq_false (by omega : ¬ ((ws.length : Nat) : Int) ≤ ((l : Nat) : Int))]
      refine ds_next (ds_seq (ds_asg (vs := [7, 8]) (de_ix (de_net1 (hs := hs) (ws := ws) (de_var rfl ⟨rfl, de_var rfl ⟨wiD ws, ws.map prD, (l : Nat), prD (t, h), rfl, rfl, .inr rfl, wi_at ew, ?_⟩⟩)))))
      refine dg2 (a := .str t) (b := .str h) (by decide) (by decide) ?_
      have fresh : h ∉ vis := by
        intro hm
        have hm2 : some h ∈ tails ws (r.take i) ++ [some t] := by rw [← ev]; exact List.mem_map.mpr ⟨h, hm, rfl⟩
        have hm3 : some h ∈ tails ws (r.take (i + 1)) := by rw [tk, tails_append]; simpa [tails, ew] using hm2
        by_cases e : i + 1 < r.length
        · have hr : r[i + 1]? = some r[i + 1] := List.getElem?_eq_getElem e
          have l2 := W.path.lt r[i + 1] (List.getElem_mem _)
          obtain ⟨⟨t2, h2⟩, ew2⟩ : ∃ e, ws[r[i + 1]]? = some e := ⟨_, List.getElem?_eq_getElem l2⟩
          have q2 := W.path.take (i + 1) r[i + 1] t2 h2 hr ew2
          have q3 : Path ws b (r.take (i + 1)) h := by rw [tk]; exact .snoc p ew
          have e2 := path_uni q2 q3
          subst e2
          have nd := W.nd
          have e3 : (tails ws r)[i + 1]? = some (some t2) := by unfold tails; rw [List.getElem?_map, hr]; simp [ew2]
          obtain ⟨j, hj, e4⟩ := List.getElem_of_mem hm3
          have e5 : tails ws (r.take (i + 1)) = (tails ws r).take (i + 1) := by simp [tails]
          have lj : j < i + 1 := by
            rw [e5, List.length_take] at hj; omega
          have e6 : (tails ws r)[j]? = some (some t2) := by
            have : (tails ws (r.take (i + 1)))[j]? = some (some t2) := by rw [List.getElem?_eq_getElem hj, e4]
            rw [e5, List.getElem?_take_of_lt lj] at this
            exact this
          have := Z.nd_ix nd e3 e6
          omega
        · have e7 : r.take (i + 1) = r := List.take_of_length_le (by omega)
          have q3 : Path ws b (r.take (i + 1)) h := by rw [tk]; exact .snoc p ew
          rw [e7] at q3 hm3
          have := path_uni q3 W.path
          subst this
          exact W.new hm3
      refine ds_seq (ds_if (dt_or (dt_test (de_nss (de_var rfl (de_var rfl ⟨t, t, rfl, rfl, _, rfl, ?_⟩))))))
      rw [decide_eq_true rfl]
      refine dt_lend (dt_test (de_inH (de_var rfl (de_var rfl ⟨h, vis, .list (vis.map .str), rfl, rfl, .inl rfl, _, rfl, ?_⟩))))
      rw [decide_eq_false fresh]
      refine ds_next (ds_seq (ds_setz (de_var rfl ?_)))
      refine ds_append rfl rfl (de_var rfl ⟨.str h, rfl, by rw [List.length_map]; exact szs (by omega), ?_⟩)
      refine ⟨h, vis ++ [h], by rw [List.map_append]; rfl, by rw [tk]; exact .snoc p ew, ?_, by rw [List.length_append, List.length_singleton]; omega⟩
      rw [List.map_append, ev, tk, tails_append]
      simp [tails, ew]
  · rintro ρ2 ⟨x, vis, rfl, p, ev, lv⟩
    rw [List.length_map, ixD, List.length_map, List.take_length] at p
    have := path_uni p W.path
    subst this
    refine ds_ret (de_ss (de_var rfl (de_var rfl ⟨x, x, rfl, rfl, ?_⟩)))
    rw [decide_eq_true rfl]; exact q
end
end Z

/-! # ZL4 -/
set_option Elab.async false
set_option linter.all false
set_option maxRecDepth 100000
set_option maxHeartbeats 1000000
namespace Z
open PySem PySem.Spec PyProof.Rows L2 Fl
theorem de_pa0 {P : Pm} {ρ : List En} {te : TE} {wys : List (List Nat)} {l : List Str} {Φ : KD} (h : De P te ρ fun x => x = .d (paD wys l) ∧ Φ (.d (.str "alone"))) : De P (tOp (rIx P.K) te (tC (.int 0))) ρ Φ :=
  de_ix (h.mono fun x ⟨e, q⟩ => de_int ⟨_, [.str "alone", .tuple (wys.map wyD), hoD l], 0, .str "alone", e, rfl, .inr rfl, rfl, q⟩)
theorem de_pa1 {P : Pm} {ρ : List En} {te : TE} {wys : List (List Nat)} {l : List Str} {Φ : KD} (h : De P te ρ fun x => x = .d (paD wys l) ∧ Φ (.d (.tuple (wys.map wyD)))) : De P (tOp (rIx P.K) te (tC (.int 1))) ρ Φ :=
  de_ix (h.mono fun x ⟨e, q⟩ => de_int ⟨_, [.str "alone", .tuple (wys.map wyD), hoD l], 1, .tuple (wys.map wyD), e, rfl, .inr rfl, rfl, q⟩)
theorem de_pa2 {P : Pm} {ρ : List En} {te : TE} {wys : List (List Nat)} {l : List Str} {Φ : KD} (h : De P te ρ fun x => x = .d (paD wys l) ∧ Φ (.d (hoD l))) : De P (tOp (rIx P.K) te (tC (.int 2))) ρ Φ :=
  de_ix (h.mono fun x ⟨e, q⟩ => de_int ⟨_, [.str "alone", .tuple (wys.map wyD), hoD l], 2, hoD l, e, rfl, .inr rfl, rfl, q⟩)
theorem de_inI {P : Pm} {ρ : List En} {ta tb : TE} {Φ : KD} (h : De P ta ρ fun x => De P tb ρ fun y => ∃ (a : Int) (ds : List Int) (z : PyData), x = .d (.int a) ∧ y = .d z ∧ Row z (ds.map .int) ∧ Φ (.d (.bool (decide (a ∈ ds))))) : De P (tOp (rIn P.K false) ta tb) ρ Φ :=
  de_op (h.mono fun x h => De.mono h fun y ⟨a, ds, z, e, e', hr, q⟩ => by subst e; subst e'; exact dop_inI hr (by rw [if_neg (by decide)]; exact q))
def toldD (n : Nat) : PyData := .tuple [.str "told", .int (n : Nat)]
def L_lislot : Law := fun xs Φ => ∃ hs ws s l, xs = [.d (netD hs ws), .d (.str s), .d (hoD l)] ∧ GN hs ws ∧ LotOf hs s l ∧ Φ (.d (.bool true))
def L_ldue : Law := fun xs Φ => ∃ (hs : List Str) (ws : List (Str × Str)) (r h : Str) (wys : List (List Nat)) (l : List Str), xs = [.d (netD hs ws), .d (.str r), .d (.str h), .d (paD wys l)] ∧ GN hs ws ∧ h ≠ r ∧
  (∀ w ∈ wys, Way ws r w h) ∧ wys.flatten.Nodup ∧ LotOf hs r l ∧ h ∈ l ∧ inL ws l = wys.length ∧ Φ (.d (toldD wys.length))
theorem way_ne {ws : List (Str × Str)} {b g : Str} {r : List Nat} (W : Way ws b r g) (h : g ≠ b) : r ≠ [] := by
  rintro rfl
  exact h (path_uni W.path (.nil b))
abbrev N__law_paper_due : List Str := ["_law_town", "_law_seat", "_law_home", "_law_item", "_law_used", "_law_k", "_law_way_in", "_law_spot"]
theorem sc__law_paper_due : FnScope N__law_paper_due ["_law_town", "_law_seat", "_law_home", "_law_item"] (defScope (top 80)) := ⟨rfl, rfl, rfl, by decide +kernel, rfl, by decide +kernel, by decide +kernel⟩
section
variable {Pr : Program} {w : World} {K : PySem.W.Frag} {mg : Str → Option Value} {base : Heap} {C : Addr} {f : Addr} {fd : FuncData}
theorem c__law_paper_due (T : Tx K mg C) (c__law_is_way : C8.Cal Pr w K mg base 1 "_law_is_way" (mkSp K C L_liw) []) (c__law_is_lot : C8.Cal Pr w K mg base 1 "_law_is_lot" (mkSp K C L_lislot) []) (c__law_many : C8.Cal Pr w K mg base 1 "_law_many" (mkSp K C L_lmany) []) (F : FnP K "_law_paper_due" (top 80) [] f fd) (g : mg "_law_paper_due" = some (.ref f)) : C8.Cal Pr w K mg base 2 "_law_paper_due" (mkSp K C L_ldue) [] := by
  have sc := sc__law_paper_due
  refine calN F g (fun _ _ _ _ _ _ us hl => match us, hl with | [_, _, _, _], _ => rfl) (okD F sc (fun xs Φ h => by obtain ⟨a, b, c, d, e, e2, rfl, _⟩ := h; rfl) (fun cdv A outer s H E hr => ?_))
  refine ⟨_, (pss_cons (ps_if (PW.pt (pw_or (pt_not (pt_val (pe_callB (call_isiK' K) (by rfl) T.m_isinstance boot_isinstance (pa_cons (pv 3) (pa_cons (pe_bltn (v := .ty "tuple") (by rfl) T.m_tuple boot_tuple rfl) pa_nil))))) (pw_or (pt_cmpR (op_neK K hr) (pe_callB (call_lenK K) (by rfl) T.m_len boot_len (pa_cons (pv 3) pa_nil)) pe_int (nomark _)) (pw_or (pt_not (pt_val (pe_callB (call_isiK' K) (by rfl) T.m_isinstance boot_isinstance (pa_cons (pe_ix (ix_seqK K) (pv 3) pe_int (fun _ _ => rfl)) (pa_cons (pe_bltn (v := .ty "str") (by rfl) T.m_str boot_str rfl) pa_nil))))) (pw_or1 (pt_cmpR (op_neK K hr) (pe_ix (ix_seqK K) (pv 3) pe_int (fun _ _ => rfl)) pe_str (nomark _))))))) (pss_one (ps_ret (pe_tup (pa_cons pe_str (pa_cons pe_str (pa_cons (pe_un un_neg pe_int) pa_nil)))))) pss_nil)
      (pss_cons (ps_if (PW.pt (pw_or (pt_not (pt_val (pe_callB (call_isiK' K) (by rfl) T.m_isinstance boot_isinstance (pa_cons (pe_ix (ix_seqK K) (pv 3) pe_int (fun _ _ => rfl)) (pa_cons (pe_bltn (v := .ty "tuple") (by rfl) T.m_tuple boot_tuple rfl) pa_nil))))) (pw_or1 (pt_not (pt_val (pe_callB (call_isiK' K) (by rfl) T.m_isinstance boot_isinstance (pa_cons (pe_ix (ix_seqK K) (pv 3) pe_int (fun _ _ => rfl)) (pa_cons (pe_bltn (v := .ty "tuple") (by rfl) T.m_tuple boot_tuple rfl) pa_nil)))))))) (pss_one (ps_ret (pe_tup (pa_cons pe_str (pa_cons pe_str (pa_cons (pe_un un_neg pe_int) pa_nil)))))) pss_nil)
      (pss_cons (ps_set (i := 4) sc.nd rfl (.inr rfl) (pe_lst pa_nil))
      (pss_cons (ps_for PassesOwn.never rfl (pi_enTK K (by rfl) T.m_enumerate (pa_cons (pe_ix (ix_seqK K) (pv 3) pe_int (fun _ _ => rfl)) pa_nil)) (pg_tupK K 2 (pgs_cons (pg_name (i := 5) sc.nd rfl (.inl rfl)) (pgs_cons (pg_name (i := 6) sc.nd rfl (.inl rfl)) pgs_nil))) (pss_cons (ps_if (pt_not (pt_val (C8.pe_c c__law_is_way hr (by decide) (by rfl) (pa_cons (pv 0) (pa_cons (pv 1) (pa_cons (pv 2) (pa_cons (pv 6) pa_nil))))))) (pss_one (ps_ret (pe_tup (pa_cons pe_str (pa_cons pe_str (pa_cons (pv 5) pa_nil)))))) pss_nil)
      (pss_cons (ps_if (pt_cmpR (op_neK K hr) (pe_lc (own := [("_law_spot", 7)]) rfl sc.nd (pi_tupK K (pv 6)) (blkOk_by (by exact rfl)) (fun _ _ _ _ _ => (pg_name (i := 7) sc.nd rfl (.inl rfl))) (fun _ _ _ _ _ => pts_one (pt_cmpR (op_inK K) (pv 7) (pv 4) rfl)) (fun _ _ _ _ _ => (pv 7))) (pe_lst pa_nil) (nomark _)) (pss_one (ps_ret (pe_tup (pa_cons pe_str (pa_cons pe_str (pa_cons (pv 5) pa_nil)))))) pss_nil)
      (pss_one (ps_set (i := 4) sc.nd rfl (.inr rfl) (pe_op (op_addK K) (pv 4) (pe_callTy (call_lstK K) (by rfl) T.m_list boot_list (pa_cons (pv 6) pa_nil))))))))
      (pss_cons (ps_if (PW.pt (pw_or (pt_not (pt_val (C8.pe_c c__law_is_lot hr (by decide) (by rfl) (pa_cons (pv 0) (pa_cons (pv 1) (pa_cons (pe_ix (ix_seqK K) (pv 3) pe_int (fun _ _ => rfl)) pa_nil)))))) (pw_or1 (pt_cmpR (op_ninK K) (pv 2) (pe_ix (ix_seqK K) (pv 3) pe_int (fun _ _ => rfl)) rfl)))) (pss_one (ps_ret (pe_tup (pa_cons pe_str (pa_cons pe_str (pa_cons (pe_un un_neg pe_int) pa_nil)))))) pss_nil)
      (pss_cons (ps_if (pt_cmpR (op_neK K hr) (C8.pe_c c__law_many hr (by decide) (by rfl) (pa_cons (pv 0) (pa_cons (pe_ix (ix_seqK K) (pv 3) pe_int (fun _ _ => rfl)) pa_nil))) (pe_callB (call_lenK K) (by rfl) T.m_len boot_len (pa_cons (pe_ix (ix_seqK K) (pv 3) pe_int (fun _ _ => rfl)) pa_nil)) (nomark _)) (pss_one (ps_ret (pe_tup (pa_cons pe_str (pa_cons pe_str (pa_cons (pe_un un_neg pe_int) pa_nil)))))) pss_nil)
      (pss_one (ps_ret (pe_tup (pa_cons pe_str (pa_cons (pe_callB (call_lenK K) (by rfl) T.m_len boot_len (pa_cons (pe_ix (ix_seqK K) (pv 3) pe_int (fun _ _ => rfl)) pa_nil)) pa_nil))))))))))), fun fd' xs Φ h => ?_⟩
  obtain ⟨hs, ws, r, h, wys, l, rfl, gn, hr', hW, nd, L, hl, hc, q⟩ := h
  have lw := gn.lw
  have ll := lot_len gn L
  have lc := cut_le ws (fun x => decide (x ∈ l))
  let V0 : En := .fz (.d (netD hs ws))
  let V1 : En := .fz (.d (.str r))
  let V2 : En := .fz (.d (.str h))
  let V3 : En := .fz (.d (paD wys l))
  refine ds_seq (ds_if (dt_or (dt_not (dt_b (de_cb (da_cons (de_var rfl (da_cons (de_ty (da_nil (dc_isi (kit_tup _) ⟨true, rfl, ?_⟩)))))))))))
  refine dt_or (dt_test (de_nii (de_cb (da_cons (de_var rfl (da_nil (dc_len (ds := [.str "alone", .tuple (wys.map wyD), hoD l]) (.inr rfl) (de_int ⟨3, 3, rfl, rfl, false, rfl, ?_⟩))))))))
  refine dt_or (dt_not (dt_b (de_cb (da_cons (de_pa0 (wys := wys) (l := l) (de_var rfl ⟨rfl, da_cons (de_ty (da_nil (dc_isi (kit_str _) ⟨true, rfl, ?_⟩)))⟩))))))
  refine dt_test (de_nss (de_pa0 (wys := wys) (l := l) (de_var rfl ⟨rfl, de_str ⟨"alone", "alone", rfl, rfl, false, by rw [decide_eq_true rfl]; rfl, ?_⟩⟩)))
  refine ds_next (ds_seq (ds_if (dt_or (dt_not (dt_b (de_cb (da_cons (de_pa1 (wys := wys) (l := l) (de_var rfl ⟨rfl, da_cons (de_ty (da_nil (dc_isi (kit_tup _) ⟨true, rfl, ?_⟩)))⟩)))))))))
  show Dt _ _ _ _
  refine dt_not (dt_b (de_cb (da_cons (de_pa2 (wys := wys) (l := l) (de_var rfl ⟨rfl, da_cons (de_ty (da_nil (dc_isi (kit_tup _) ⟨true, rfl, ?_⟩)))⟩)))))
  refine ds_next (ds_seq (ds_setz (de_lst (da_nil ⟨[], rfl, szn rfl, ?_⟩))))
  refine ds_seq (ds_forW [5, 6, 7] (fun i ρ' => ρ' = [V0, V1, V2, V3, .fz (.d (.list (ixD (wys.take i).flatten))), .un, .un, .un]) (di_enT (da_cons (de_pa1 (wys := wys) (l := l) (de_var rfl ⟨rfl, da_nil ⟨wys.map wyD, rfl, [5, 6], rfl, ?_, ?_⟩⟩)))))
  · rintro i v ρ2 hv rfl
    rw [List.getElem?_map, enumD_at, List.getElem?_map] at hv
    cases hp : wys[i]? with
    | none => rw [hp] at hv; exact nomatch hv
    | some y =>
      rw [hp] at hv; cases hv
      have my := List.mem_of_getElem? hp
      have li := (List.getElem?_eq_some_iff.mp hp).1
      have tk : wys.take (i + 1) = wys.take i ++ [y] := by rw [List.take_succ_eq_append_getElem li, (List.getElem?_eq_some_iff.mp hp).2]
      have e2 : (wys.take (i + 1)).flatten = (wys.take i).flatten ++ y := by rw [tk, List.flatten_append]; simp
      have pre : ((wys.take i).flatten ++ y).Nodup := by
        rw [← e2]
        exact nd.sublist (fl_sub _ _)
      have Wy := hW y my
      have ly2 := way_len Wy
      have flt : ∀ a ∈ (wys.take i).flatten ++ y, a < ws.length := fun a ha => by
        rw [← e2] at ha
        obtain ⟨w, h1, h2⟩ := List.mem_flatten.mp ha
        exact (hW w (List.mem_of_mem_take h1)).path.lt a h2
      have lu := ix_len (ws := ws) ⟨pre, flt⟩
      rw [List.length_append] at lu
      refine dg2 (by decide) (by decide) ?_
      refine ds_seq (ds_if (dt_not (dt_b (de_call0 (da_cons (de_var rfl (da_cons (de_var rfl (da_cons (de_var rfl (da_cons (de_var rfl (da_nil ⟨hs, ws, r, h, y, rfl, by omega, way_ne Wy hr', Wy, true, rfl, ?_⟩)))))))))))))
      refine ds_next (ds_seq (ds_if (dt_test (de_nnil (de_lcA y (fun (j : Nat) => .d (.int (j : Int))) (fun _ => none) (di_tup (de_var rfl ⟨ixD y, rfl, by rw [ixD, List.map_map]; rfl, szs (by omega)⟩)) ?_ (de_lst (da_nil ⟨[], rfl, szn rfl, [], by rw [List.filterMap_eq_nil_iff.mpr (fun _ _ => rfl)], shaped_nil.1, rfl, false, rfl, ?_⟩)))))))
      · refine fun j hj => dg_name (by decide) (dt_test (de_inI (de_var rfl (de_var rfl ⟨(j : Int), inI (wys.take i).flatten, _, rfl, rfl, .inl (by rw [ixD_in]), _, rfl, ?_⟩))))
        rw [decide_eq_false]
        · exact rfl
        · intro hm
          obtain ⟨j', hj', e⟩ := List.mem_map.mp hm
          have : j' = j := by omega
          subst this
          rw [List.nodup_append] at pre
          exact pre.2.2 j' hj' j' hj rfl
      refine ds_next (ds_setz (de_addL (de_var rfl (de_cb (da_cons (de_var rfl (da_nil (dc_lst (ds := ixD y) (.inr rfl) ⟨_, _, rfl, rfl, ?_, ?_⟩))))))))
      · rw [ixD, ixD, List.length_map, List.length_map]; exact szl (by omega)
      · show ([_, _, _, _, En.fz _, _, _, _] : List En) = _
        rw [e2, ixD, ixD, ixD, List.map_append]
  · rintro ρ2 rfl
    refine ds_seq (ds_if (dt_or (dt_not (dt_b (de_call0 (da_cons (de_var rfl (da_cons (de_var rfl (da_cons (de_pa2 (wys := wys) (l := l) (de_var rfl ⟨rfl, da_nil ⟨hs, ws, r, l, rfl, gn, L, true, rfl, ?_⟩⟩))))))))))))
    show Dt _ _ _ _
    refine dt_test (de_ninH (de_var rfl (de_pa2 (wys := wys) (l := l) (de_var rfl ⟨rfl, h, l, _, rfl, rfl, .inr rfl, false, by rw [decide_eq_true hl]; rfl, ?_⟩))))
    refine ds_next (ds_seq (ds_if (dt_test (de_nii (de_call0 (da_cons (de_var rfl (da_cons (de_pa2 (wys := wys) (l := l) (de_var rfl ⟨rfl, da_nil ⟨hs, ws, l, rfl, by omega, by omega, ?_⟩⟩))))))))))
    refine de_cb (da_cons (de_pa1 (wys := wys) (l := l) (de_var rfl ⟨rfl, da_nil (dc_len (.inr rfl) ⟨_, _, rfl, rfl, false, ?_, ?_⟩)⟩)))
    · rw [List.length_map, hc, decide_eq_true rfl]; rfl
    refine ds_next (ds_ret (de_tup (da_cons (de_str (da_cons (de_cb (da_cons (de_pa1 (wys := wys) (l := l) (de_var rfl ⟨rfl, da_nil (dc_len (.inr rfl) (da_nil ⟨[.str "told", .int (wys.length : Nat)], by rw [List.length_map]; rfl, szn rfl, q⟩))⟩)))))))))
end
end Z

/-! # ZL5 -/
set_option Elab.async false
set_option linter.all false
set_option maxRecDepth 100000
set_option maxHeartbeats 1000000
namespace Z
open PySem PySem.Spec PyProof.Rows L2 Fl
/-! ### dict(xs) of a list of pairs whose keys are tuples -/
def mergeT (acc : List (List Key × V)) (kvs : List (List Key × V)) : List (List Key × V) := kvs.foldl (fun acc kv => putK acc kv.1 kv.2) acc
def rDictPT (K : PySem.W.Frag) : List V → Hp → VK → Prop := fun xs H Q => ∃ (a : Addr) (ps : List Addr) (kvs : List (List Key × V)), xs = [.ref a] ∧ SqL K H a (ps.map V.ref) ∧ Paired (fun p (kv : List Key × V) => ∃ b, SqT K H p [.ref b, kv.2] ∧ H b = some (.tup (kv.1.map kV))) ps kvs ∧
  ∀ p, H p = none → Q (.ref p) (upd H p (.dT (mergeT [] kvs)))
theorem mergeT_len : ∀ (kvs acc : List (List Key × V)), (mergeT acc kvs).length ≤ acc.length + kvs.length
  | [], acc => by show acc.length ≤ _; omega
  | p :: r, acc => by
    have h1 := mergeT_len r (putK acc p.1 p.2)
    have h2 := length_putK acc p.1 p.2
    show (mergeT (putK acc p.1 p.2) r).length ≤ _
    rw [List.length_cons]; omega
theorem kt_merge {H : Hp} : ∀ {kvs : List (List Key × V)} {xs : List (List Key × Addr × Value)}, KT H kvs xs → ∀ {acc : List (List Key × V)} {ax : List (List Key × Addr × Value)}, KT H acc ax → KT H (mergeT acc kvs) (storedAllH ax xs)
  | _, _, .nil, _, _, r => r
  | _, _, .cons (a := p) (b := q) h t, _, _, r => by
    obtain ⟨h1, h2, h3⟩ := h
    have e := r.put p.1 (b := q.2.1) h2 h3
    have := kt_merge t e
    rw [h1] at this
    show KT H (mergeT (putK _ p.1 p.2) _) (storedAllH (storedH _ q.1 q.2.1 q.2.2) _)
    rw [h1]
    exact this
section
variable {X : Cx}
theorem pairsT_of {pins : List (Addr × Obj)} {σ : L2.St} {H : Hp} {s : Shared} (I : Inv X pins σ H s) : ∀ {ps : List Addr} {kvs : List (List Key × V)}, Paired (fun p (kv : List Key × V) => ∃ b, SqT X.K H p [.ref b, kv.2] ∧ H b = some (.tup (kv.1.map kV))) ps kvs →
    ∃ prs : List (List Key × Addr × Value), KT H kvs prs ∧ prs.length = ps.length ∧ ∀ (j : Nat) (q : List Key × Addr × Value), prs[j]? = some q → ∃ b : Addr, ps[j]? = some b ∧ IsTup s.heap b #[.ref q.2.1, q.2.2]
  | _, _, .nil => ⟨[], .nil, rfl, fun j q e => by simp at e⟩
  | _, _, .cons (a := p) (b := kv) h t => by
    obtain ⟨prs, r, hl, hp⟩ := pairsT_of I t
    obtain ⟨b, h, hb⟩ := h
    obtain ⟨its, rv, ht, _⟩ := I.tuple h
    obtain ⟨u, y, ei, ru, ry⟩ := vals2 rv
    subst ei
    cases ru
    refine ⟨(kv.1, b, y) :: prs, .cons ⟨rfl, hb, ry⟩ r, by rw [List.length_cons, List.length_cons, hl], fun j q e => ?_⟩
    cases j with
    | zero =>
      have e' : (kv.1, b, y) = q := Option.some.inj e
      subst e'
      exact ⟨p, rfl, ht⟩
    | succ j =>
      obtain ⟨b, e1, e2⟩ := hp j q (by simpa using e)
      exact ⟨b, by simpa using e1, e2⟩
theorem call_dictPT (K : PySem.W.Frag) (hr : Room k X.A) (hcalm : X.calm = true := by rfl) (eK : X.K = K := by rfl) : CallR X (.type "dict") (rDictPT K) := by
  subst eK
  intro pins s σ H xs us Q I r q
  obtain ⟨a, ps, kvs, ex, hq, hp, q⟩ := q
  subst ex
  obtain ⟨u, eu, rx⟩ := vals1 r
  subst eu
  cases rx
  obtain ⟨its, rv, pl, hz⟩ := I.list hq
  have ei := refs_at rv
  subst ei
  rw [List.length_map] at hz
  obtain ⟨prs, rel, hl, hpr⟩ := pairsT_of I hp
  obtain ⟨o, n, ho, hc, hd, hdat⟩ := pl
  have P := PairArg.list (prog := X.prog) (w := X.w) a (ps.map Value.ref).toArray (fun j => ps.getD j 0) (prs.map fun q => (Value.ref q.2.1, q.2.2))
  refine call_dict_pairsH (knd := tupleKind (mixKind X.prog X.w)) (ps := prs) P (I.ok.hd hcalm) ?_ ⟨⟨o, n, ho, hc, hd, hdat⟩, ?_⟩ ?_ ?_ ?_ fun h' tk hd' k => ?_
  · have := hr.units; show X.A.units + 1 + 1 < cLine; omega
  · refine ⟨by simp [hl], fun j k v e => ?_⟩
    rw [List.getElem?_map] at e
    cases e1 : prs[j]? with
    | none => rw [e1] at e; exact nomatch e
    | some q' =>
      rw [e1] at e
      obtain ⟨rfl, rfl⟩ := Prod.mk.inj (Option.some.inj e)
      obtain ⟨b, hb, t⟩ := hpr j q' e1
      refine ⟨by simp [hb], .inl ?_⟩
      show s.heap.IsTuple (ps.getD j 0) _
      rw [List.getD_eq_getElem?_getD, hb]
      exact t
  · refine ⟨by rw [List.length_map], fun j key v e => ?_⟩
    have e : (prs.map fun q => (Value.ref q.2.1, q.2.2))[j]? = some (key, v) := e
    rw [List.getElem?_map] at e
    cases e1 : prs[j]? with
    | none => rw [e1] at e; exact nomatch e
    | some q' =>
      rw [e1] at e
      obtain ⟨rfl, rfl⟩ := Prod.mk.inj (Option.some.inj e)
      exact ⟨q'.1, q'.2.1, rfl, rfl⟩
  · intro h' hk x hx
    have all : ∀ {l : List (List Key × V)} {m : List (List Key × Addr × Value)}, KT H l m → ∀ x ∈ m, (tupleKind (mixKind X.prog X.w)).is s.heap x.1 x.2.1 := by
      intro l m q
      induction q with
      | nil => intro x hx; exact nomatch hx
      | @cons p q ps qs hq t ih =>
        intro x hx
        rcases List.mem_cons.mp hx with e | hx
        · subst e
          exact key_of I.hok (by rw [← hq.1]; exact hq.2.1)
        · exact ih x hx
    obtain ⟨o', its', n', h1, h2, h3, h4⟩ := all rel x hx
    exact ⟨o', its', n', hk _ _ (Nat.ne_of_lt (Heap.lt_size h1)) (fun z => nomatch z) h1, h2, h3, h4⟩
  · rw [List.length_map, hl]; exact hz
  · have hm : (s.heap.objs.size == sysModules) = false := beq_eq_false_iff_ne.mpr (Nat.ne_of_gt I.big)
    have hn := I.hok.fresh (Nat.le_refl s.heap.objs.size)
    have hlen : (mergeT [] kvs).length ≤ sizeLine := by
      refine Nat.le_trans (mergeT_len kvs []) ?_
      rw [List.length_nil, Nat.zero_add, Paired.length rel, hl]
      exact hz
    have kt : KT (upd H s.heap.objs.size (.dT (mergeT [] kvs))) (mergeT [] kvs) (storedAllH [] prs) := (kt_merge rel .nil).keeps fun b ys e => by
      rw [upd_ne (fun z => by rw [z, hn] at e; exact nomatch e)]; exact e
    obtain ⟨o', es, ep, h1, h2, h3, h4, _, h5⟩ := hd'
    exact ⟨.ref s.heap.objs.size, upd H s.heap.objs.size (.dT (mergeT [] kvs)), I.laid (t' := tk) (fun b u e => k b u (fun z => nomatch z) e) (Nat.le_refl _) (show ObjOk X.prog X.w _ _ _ (.dT (mergeT [] kvs)) from ⟨hlen, hm, storedAllH [] prs, kt, o', es, ep, h1, h2, h3, h4, h5⟩), rfl, q _ hn⟩
end
/-! ### the same, over data -/
def pairsPT (kvs : List (List Key × PyData)) : List PyData := kvs.map fun kv => .tuple [.tuple (kv.1.map keyP), kv.2]
def mergeDT (kvs more : List (List Key × PyData)) : List (List Key × PyData) := more.foldl (fun acc kv => putD acc kv.1 kv.2) kvs
theorem kvA_mergeT {G : Hp} : ∀ {ms : List (List Key × V)} {md : List (List Key × PyData)}, KvA G ms md → ∀ {vs : List (List Key × V)} {ds : List (List Key × PyData)}, KvA G vs ds → KvA G (mergeT vs ms) (mergeDT ds md)
  | _, _, .nil, _, _, h => h
  | _, _, .cons a t, _, _, h => kvA_mergeT t (kvA_put a h)
theorem pairsT_at {K : PySem.W.Frag} {G H : Hp} (s : Same G H) : ∀ {vs : List V} {kvs : List (List Key × PyData)}, DqA G vs (pairsPT kvs) → ∃ (ps : List Addr) (ws : List (List Key × V)), vs = ps.map V.ref ∧ Paired (fun p (kv : List Key × V) => ∃ b, SqT K H p [.ref b, kv.2] ∧ H b = some (.tup (kv.1.map kV))) ps ws ∧ KvA G ws kvs
  | _, [], .nil => ⟨[], [], rfl, .nil, .nil⟩
  | _, (k, d) :: r, .cons h t => by
    obtain ⟨ps, ws, rfl, hp, hk⟩ := pairsT_at (K := K) s t
    cases h with
    | tup ha hd =>
      cases hd with
      | cons h1 hd => cases hd with
        | cons h2 hd => cases hd with
          | nil =>
            cases h1 with
            | tup hb hd1 =>
              have e := dq_keys hd1
              subst e
              exact ⟨_ :: ps, (k, _) :: ws, rfl, .cons ⟨_, .inl (.inl (s _ _ ha)), s _ _ hb⟩ hp, .cons h2 hk⟩
theorem de_dictPT {P : Pm} {ρ : List En} {ta : TA} {Φ : KD} (h : Da P ta ρ fun xs => ∃ kvs, xs = [.d (.list (pairsPT kvs))] ∧ Φ (.dt false (mergeDT [] kvs))) : De P (tCB (rDictPT P.K) ta) ρ Φ := by
  intro H0 G H σ o r Q k
  refine h H0 G H σ o r _ fun vs G1 H1 xs g1 rv ⟨kvs, e, hΦ⟩ => ?_
  subst e
  obtain ⟨v, rfl, rv1⟩ := rvL1 rv
  cases rv1 with
  | lst ha hd =>
    obtain ⟨ps, ws, rfl, hp, hk⟩ := pairsT_at (K := P.K) g1.ok.sub hd
    refine ⟨_, ps, ws, rfl, .inl (.inl (g1.ok.sub _ _ ha)), hp, fun p hp => ?_⟩
    have g2 := g1.ok.new (o := .dT (mergeT [] ws)) hp
    exact k _ _ _ (.dt false (mergeDT [] kvs)) (g1.trans g2) ⟨p, _, rfl, upd_same, kvA_up (g2.same g1.ok) (kvA_mergeT hk .nil)⟩ hΦ
theorem putD_fresh {κ : Type} [DecidableEq κ] : ∀ {kvs : List (κ × PyData)} {k : κ} {d : PyData}, k ∉ kvs.map (·.1) → putD kvs k d = kvs ++ [(k, d)] := by
  intro kvs k d h
  unfold putD
  have e : (kvs.any fun kv => decide (kv.1 = k)) = false := by
    rw [List.any_eq_false]
    intro x hx e
    exact h (List.mem_map.mpr ⟨x, hx, of_decide_eq_true e⟩)
  rw [e]; rfl
theorem mergeDT_nd : ∀ (more kvs : List (List Key × PyData)), ((kvs ++ more).map (·.1)).Nodup → mergeDT kvs more = kvs ++ more
  | [], kvs, _ => by rw [List.append_nil]; rfl
  | p :: r, kvs, h => by
    have h1 : p.1 ∉ kvs.map (·.1) := fun hm => by
      rw [List.map_append, List.nodup_append] at h
      exact h.2.2 p.1 hm p.1 (by simp) rfl
    show mergeDT (putD kvs p.1 p.2) r = _
    rw [putD_fresh h1, mergeDT_nd r _ (by rw [List.append_assoc]; exact h), List.append_assoc]; rfl
/-! ### _law_counts -/
def cntD (ws : List (Str × Str)) (ls : List (List Str)) : List (List Key × PyData) := ls.map fun l => (l.map Sum.inr, .int (inL ws l : Nat))
theorem cnt_val {ws : List (Str × Str)} {l : List Str} : ∀ {ls : List (List Str)}, l ∈ ls → valD (cntD ws ls) (l.map Sum.inr) = some (.int (inL ws l : Nat)) := by
  intro ls h
  induction ls with
  | nil => exact nomatch h
  | cons a r ih =>
    by_cases e : a = l
    · subst e; unfold valD cntD; simp
    · have hr : l ∈ r := (List.mem_cons.mp h).elim (fun z => absurd z.symm e) id
      have := ih hr
      unfold valD cntD at this ⊢
      rw [List.map_cons, List.find?_cons_of_neg]
      · exact this
      · intro z
        have z : (a.map (Sum.inr : Str → Key)) = l.map Sum.inr := by simpa using z
        exact e (List.map_inj_right (fun _ _ q => Sum.inr.inj q) |>.mp z)
section
variable {Pr : Program} {w : World} {K : PySem.W.Frag} {mg : Str → Option Value} {base : Heap} {C : Addr} {f : Addr} {fd : FuncData}
def L_lcounts : Law := fun xs Φ => ∃ hs ws s, xs = [.d (netD hs ws), .d (.str s)] ∧ hs.length ≤ 7 ∧ ws.length ≤ 1000 ∧ (lotsL hs s).Nodup ∧ Φ (.dt false (cntD ws (lotsL hs s)))
abbrev N__law_counts : List Str := ["_law_town", "_law_seat", "_law_some"]
theorem sc__law_counts : FnScope N__law_counts ["_law_town", "_law_seat"] (defScope (top 81)) := ⟨rfl, rfl, rfl, by decide +kernel, rfl, by decide +kernel, by decide +kernel⟩
theorem c__law_counts (T : Tx K mg C) (c__law_many : C8.Cal Pr w K mg base 1 "_law_many" (mkSp K C L_lmany) []) (c__law_lots : C8.Cal Pr w K mg base 1 "_law_lots" (mkSp K C L_lots) []) (F : FnP K "_law_counts" (top 81) [] f fd) (g : mg "_law_counts" = some (.ref f)) : C8.Cal Pr w K mg base 2 "_law_counts" (mkSp K C L_lcounts) [] := by
  have sc := sc__law_counts
  refine calN F g (fun _ _ _ _ _ _ us hl => match us, hl with | [_, _], _ => rfl) (okD F sc (fun xs Φ h => by obtain ⟨a, b, c, rfl, _⟩ := h; rfl) (fun cdv A outer s H E hr => ?_))
  refine ⟨_, (pss_one (ps_ret (pe_callTy (call_dictPT K hr) (by rfl) T.m_dict boot_dict (pa_cons (pe_lc (own := [("_law_some", 2)]) rfl sc.nd (pi_listK K (C8.pe_c c__law_lots hr (by decide) (by rfl) (pa_cons (pv 0) (pa_cons (pv 1) pa_nil)))) (blkOk_by (by exact rfl)) (fun _ _ _ _ _ => (pg_name (i := 2) sc.nd rfl (.inl rfl))) (fun _ _ _ _ _ => pts_nil) (fun _ _ _ _ _ => (pe_tup (pa_cons (pv 2) (pa_cons (C8.pe_c c__law_many hr (by decide) (by rfl) (pa_cons (pv 0) (pa_cons (pv 2) pa_nil))) pa_nil))))) pa_nil)))), fun fd' xs Φ h => ?_⟩
  obtain ⟨hs, ws, s, rfl, hl, hw, nd, q⟩ := h
  refine ds_ret (de_dictPT (da_cons (de_lcB (lotsL hs s) (fun l => .d (hoD l)) (fun l => .tuple [hoD l, .int (inL ws l : Nat)]) ?_ (fun l hl' => dg_name (by decide) ?_) (da_nil ⟨cntD ws (lotsL hs s), ?_, ?_⟩))))
  · exact di_list (de_call0 (da_cons (de_var rfl (da_cons (de_var rfl (da_nil ⟨hs, ws, s, rfl, hl, _, rfl, lots_it hl⟩))))))
  · have := lotsL_in hl'
    exact de_tup (da_cons (de_var rfl (da_cons (de_call0 (da_cons (de_var rfl (da_cons (de_var rfl (da_nil ⟨hs, ws, l, rfl, by omega, hw, da_nil ⟨[_, _], rfl, szn rfl, rfl⟩⟩)))))))))
  · rw [cntD, pairsPT, List.map_map]
    refine congrArg (fun z => [Dv.d (.list z)]) (List.map_congr_left fun l _ => ?_)
    show PyData.tuple [PyData.tuple (l.map .str), _] = PyData.tuple [PyData.tuple ((l.map Sum.inr).map keyP), _]
    rw [List.map_map]; rfl
  · rw [mergeDT_nd _ []]
    · exact q
    · rw [List.nil_append, cntD, List.map_map]
      exact List.Pairwise.map _ (fun a b h e => h ((List.map_inj_right (fun _ _ q => Sum.inr.inj q)).mp e)) nd
end
end Z

/-! # ZL6 -/
set_option Elab.async false
set_option linter.all false
set_option maxRecDepth 100000
set_option maxHeartbeats 1000000
namespace Z
open PySem PySem.Spec PyProof.Rows L2 Fl
theorem idx_of {ns : List Int} {m : Int} (h : m ∈ ns) : ∃ j : Nat, ns[j]? = some m ∧ ∀ k : Nat, k < j → ns[k]? ≠ some m := by
  induction ns with
  | nil => exact nomatch h
  | cons a r ih =>
    by_cases e : a = m
    · exact ⟨0, by rw [e]; rfl, fun k hk => absurd hk (Nat.not_lt_zero _)⟩
    · obtain ⟨j, h1, h2⟩ := ih ((List.mem_cons.mp h).elim (fun z => absurd z.symm e) id)
      refine ⟨j + 1, h1, fun k hk => ?_⟩
      cases k with
      | zero => intro z; exact e (Option.some.inj z)
      | succ k => exact h2 k (by omega)
theorem de_index {P : Pm} {ρ : List En} {te tx : TE} {Φ : KD} (h : De P te ρ fun x => ∃ ns : List Int, x = .d (.list (ns.map .int)) ∧ De P tx ρ fun y => ∃ m : Int, y = .d (.int m) ∧ m ∈ ns ∧ ∀ j : Nat, ns[j]? = some m → Φ (.d (.int j))) : De P (tBM P.K "list" (rIndex P.K) te (tCons tx tNil)) ρ Φ := by
  intro H0 G H σ o r Q k
  refine h H0 G H σ o r _ fun v G1 H1 x g1 rv ⟨ns, e, h2⟩ => ?_
  subst e
  obtain ⟨a, xs, rfl, ha, hd⟩ : ∃ a xs, v = .ref a ∧ G1 a = some (.lst xs) ∧ DqA G1 xs (ns.map .int) := by
    cases rv with
    | lst ha hd => exact ⟨_, _, rfl, ha, hd⟩
  refine ⟨tyL (g1.ok.sub _ _ ha), ?_⟩
  refine h2 H0 G1 H1 σ g1.ok (r.up o g1) _ fun u G2 H2 y g2 ru ⟨m, e2, hm, q⟩ => ?_
  subst e2
  cases ru
  have ev := dpA_in hd
  subst ev
  obtain ⟨j, h1, h3⟩ := idx_of hm
  refine ⟨a, _, _, j, .int m, rfl, rfl, .inl (.inl (g2.ok.sub _ _ (g2.same g1.ok _ _ ha))), rfl, ?_, by rw [List.getElem?_map, h1]; rfl, by simp [eqV], fun i z' hi hz => ?_, ?_⟩
  · rw [List.all_map, List.all_eq_true]; exact fun _ _ => rfl
  · rw [List.getElem?_map] at hz
    cases e3 : ns[i]? with
    | none => rw [e3] at hz; exact nomatch hz
    | some n =>
      rw [e3] at hz; cases hz
      have := h3 i hi
      rw [e3] at this
      have : n ≠ m := fun z => this (by rw [z])
      simp [eqV, this]
  · exact k _ _ _ (.d (.int (j : Nat))) (g1.trans g2) (Dq.int _) (q j h1)
theorem cnt_keys (ws : List (Str × Str)) (ls : List (List Str)) : (cntD ws ls).map (fun kv => Dv.d (.tuple (kv.1.map keyP))) = ls.map fun l => .d (hoD l) := by
  rw [cntD, List.map_map]
  refine List.map_congr_left fun l _ => ?_
  show Dv.d (.tuple ((l.map Sum.inr).map keyP)) = .d (.tuple (l.map .str))
  rw [List.map_map]; rfl
theorem hoD_keys (l : List Str) : hoD l = .tuple ((l.map (Sum.inr : Str → Key)).map keyP) := by
  rw [List.map_map]; rfl
def tightL (ws : List (Str × Str)) (ls : List (List Str)) (h : Str) (m : Nat) : List (List Str) := ls.filter fun l => decide (h ∈ l) && decide (inL ws l = m)
section
variable {Pr : Program} {w : World} {K : PySem.W.Frag} {mg : Str → Option Value} {base : Heap} {C : Addr} {f : Addr} {fd : FuncData}
def L_ltight : Law := fun xs Φ => ∃ ws ls h, xs = [.dt false (cntD ws ls), .d (.str h)] ∧ ls.length ≤ 1000 ∧ (∃ l ∈ ls, h ∈ l) ∧ ∀ m : Nat, LeastOf ws ls (fun l => decide (h ∈ l)) m → Φ (.d (loD (tightL ws ls h m)))
abbrev N__law_tight_by : List Str := ["_law_counts_here", "_law_home", "_law_least", "_law_some"]
theorem sc__law_tight_by : FnScope N__law_tight_by ["_law_counts_here", "_law_home"] (defScope (top 82)) := ⟨rfl, rfl, rfl, by decide +kernel, rfl, by decide +kernel, by decide +kernel⟩
theorem c__law_tight_by (T : Tx K mg C) (F : FnP K "_law_tight_by" (top 82) [] f fd) (g : mg "_law_tight_by" = some (.ref f)) : C8.Cal Pr w K mg base 1 "_law_tight_by" (mkSp K C L_ltight) [] := by
  have sc := sc__law_tight_by
  refine calN F g (fun _ _ _ _ _ _ us hl => match us, hl with | [_, _], _ => rfl) (okD F sc (fun xs Φ h => by obtain ⟨a, b, c, rfl, _⟩ := h; rfl) (fun cdv A outer s H E hr => ?_))
  refine ⟨_, (pss_cons (ps_set (i := 2) sc.nd rfl (.inr rfl) (pe_callB (cr_minK' K) (by rfl) T.m_min boot_min (pa_cons (pe_lock (pe_lc (own := [("_law_some", 3)]) rfl sc.nd (pi_keys (pv 0)) (blkOk_by (by exact rfl)) (fun _ _ _ _ _ => (pg_name (i := 3) sc.nd rfl (.inl rfl))) (fun _ _ _ _ _ => pts_one (pt_cmpR (op_inK K) (pv 1) (pv 3) rfl)) (fun _ _ _ _ _ => (pe_dget (hu_of hr) (pv 0) (pv 3) (fun _ _ => rfl))))) pa_nil)))
      (pss_one (ps_ret (pe_lock (pe_lc (own := [("_law_some", 3)]) rfl sc.nd (pi_keys (pv 0)) (blkOk_by (by exact rfl)) (fun _ _ _ _ _ => (pg_name (i := 3) sc.nd rfl (.inl rfl))) (fun _ _ _ _ _ => pts_one (PW.pt (pw_and (pt_cmpR (op_inK K) (pv 1) (pv 3) rfl) (pw_and1 (pt_cmpR (op_eqK K hr) (pe_dget (hu_of hr) (pv 0) (pv 3) (fun _ _ => rfl)) (pv 2) (nomark _)))))) (fun _ _ _ _ _ => (pv 3))))))), fun fd' xs Φ h => ?_⟩
  obtain ⟨ws, ls, h, rfl, hl, ⟨l0, hl0, hm0⟩, q⟩ := h
  refine ds_seq (ds_setz (de_cb (da_cons (de_lock (i := 0) (.inr ⟨_, rfl⟩) (de_lcA ls (fun l => .d (hoD l)) (fun l => if decide (h ∈ l) = true then some (.int (inL ws l : Nat)) else none) (di_keys (de_var rfl (.inr ⟨cntD ws ls, rfl, cnt_keys ws ls, szs (by omega)⟩))) (fun l hl' => dg_name (by decide) (dt_test (de_inH (de_var rfl (de_var rfl ⟨h, l, _, rfl, rfl, .inr rfl, _, rfl, ?_⟩))))) ⟨_, rfl, da_nil ?_⟩)))))
  · by_cases e : h ∈ l
    · rw [decide_eq_true e, if_pos rfl]
      exact de_dget (de_var rfl (de_var rfl ⟨_, .inr (.inr (.inr ⟨cntD ws ls, l.map Sum.inr, rfl, by rw [hoD_keys], (cnt_val hl').symm⟩)), _, rfl, if_pos rfl⟩))
    · rw [decide_eq_false e]; exact if_neg (by decide)
  · rw [filterMap_if (fun l => decide (h ∈ l)) (fun l => PyData.int (inL ws l : Nat))]
    have e : (ls.filter fun l => decide (h ∈ l)).map (fun l => PyData.int (inL ws l : Nat)) = ((ls.filter fun l => decide (h ∈ l)).map fun l => ((inL ws l : Nat) : Int)).map .int := by rw [List.map_map]; rfl
    rw [e]
    refine dc_minI ?_ (fun m h1 h2 => ?_)
    · rw [List.length_map]
      exact List.length_pos_of_mem (List.mem_filter.mpr ⟨hl0, decide_eq_true hm0⟩)
    obtain ⟨k, rfl, L⟩ := least_of h1 h2
    refine ds_ret (de_lock (i := 0) (.inr ⟨_, rfl⟩) (de_lcA ls (fun l => .d (hoD l)) (fun l => if (decide (h ∈ l) && decide (inL ws l = k)) = true then some (hoD l) else none) (di_keys (de_var rfl (.inr ⟨cntD ws ls, rfl, cnt_keys ws ls, szs (by omega)⟩))) (fun l hl' => dg_name (by decide) (dt_and (dt_test (de_inH (de_var rfl (de_var rfl ⟨h, l, _, rfl, rfl, .inr rfl, _, rfl, ?_⟩)))))) ⟨_, rfl, ?_⟩))
    · by_cases e : h ∈ l
      · rw [decide_eq_true e, if_pos rfl]
        refine dt_test (de_ii (de_dget (de_var rfl (de_var rfl ⟨_, .inr (.inr (.inr ⟨cntD ws ls, l.map Sum.inr, rfl, by rw [hoD_keys], (cnt_val hl').symm⟩)), de_var rfl ⟨((inL ws l : Nat) : Int), ((k : Nat) : Int), rfl, rfl, _, rfl, ?_⟩⟩))))
        by_cases e2 : inL ws l = k
        · rw [decide_eq_true (by rw [e2] : ((inL ws l : Nat) : Int) = ((k : Nat) : Int)), decide_eq_true e2]
          exact de_var rfl ⟨_, rfl, if_pos rfl⟩
        · rw [decide_eq_false (by omega : ¬ ((inL ws l : Nat) : Int) = ((k : Nat) : Int)), decide_eq_false e2]
          exact if_neg (by decide)
      · rw [decide_eq_false e]; exact if_neg (by simp)
    · rw [filterMap_if (fun l => decide (h ∈ l) && decide (inL ws l = k)) hoD]
      exact q k L
def L_lends : Law := fun xs Φ => ∃ ws ls h, xs = [.dt false (cntD ws ls), .d (.str h)] ∧ ls.length ≤ 1000 ∧ (∀ l ∈ ls, l.length ≤ 1000) ∧ (∃ l ∈ ls, h ∈ l) ∧ ∀ (m : Nat) (lo hi : List Str), LeastOf ws ls (fun l => decide (h ∈ l)) m →
  lo ∈ tightL ws ls h m → (∀ l ∈ tightL ws ls h m, lo.length ≤ l.length) → hi ∈ tightL ws ls h m → (∀ l ∈ tightL ws ls h m, l.length ≤ hi.length) → Φ (.d (.tuple [hoD lo, hoD hi]))
abbrev N__law_ends : List Str := ["_law_counts_here", "_law_home", "_law_some", "_law_sizes", "_law_one"]
theorem sc__law_ends : FnScope N__law_ends ["_law_counts_here", "_law_home"] (defScope (top 83)) := ⟨rfl, rfl, rfl, by decide +kernel, rfl, by decide +kernel, by decide +kernel⟩
theorem c__law_ends (T : Tx K mg C) (c__law_tight_by : C8.Cal Pr w K mg base 1 "_law_tight_by" (mkSp K C L_ltight) []) (F : FnP K "_law_ends" (top 83) [] f fd) (g : mg "_law_ends" = some (.ref f)) : C8.Cal Pr w K mg base 2 "_law_ends" (mkSp K C L_lends) [] := by
  have sc := sc__law_ends
  refine calN F g (fun _ _ _ _ _ _ us hl => match us, hl with | [_, _], _ => rfl) (okD F sc (fun xs Φ h => by obtain ⟨a, b, c, rfl, _⟩ := h; rfl) (fun cdv A outer s H E hr => ?_))
  refine ⟨_, (pss_cons (ps_set (i := 2) sc.nd rfl (.inl rfl) (C8.pe_c c__law_tight_by hr (by decide) (by rfl) (pa_cons (pv 0) (pa_cons (pv 1) pa_nil))))
      (pss_cons (ps_setLc (i := 3) (own := [("_law_one", 4)]) rfl sc.nd rfl rfl (sw_true rfl rfl rfl (by exact rfl)) (pi_listK K (pv 2)) (blkOk_by (by exact rfl)) (fun _ _ _ _ _ => (pg_name (i := 4) sc.nd rfl (.inl rfl))) (fun _ _ _ _ _ => pts_nil) (fun _ _ _ _ _ => (pe_callB (call_lenK K) (by rfl) T.m_len boot_len (pa_cons (pv 4) pa_nil))))
      (pss_one (ps_ret (pe_tup (pa_cons (pe_ix (ix_seqK K) (pv 2) (pe_bm PySem.F.plainAttrs_list PySem.F.slot_list_index PySem.F.type_list_index mt_index (pv 3) (pa_cons (pe_callB (cr_minK' K) (by rfl) T.m_min boot_min (pa_cons (pv 3) pa_nil)) pa_nil)) (fun _ _ => rfl)) (pa_cons (pe_ix (ix_seqK K) (pv 2) (pe_bm PySem.F.plainAttrs_list PySem.F.slot_list_index PySem.F.type_list_index mt_index (pv 3) (pa_cons (pe_callB (cr_maxK K) (by rfl) T.m_max (by decide +kernel) (pa_cons (pv 3) pa_nil)) pa_nil)) (fun _ _ => rfl)) pa_nil))))))), fun fd' xs Φ h => ?_⟩
  obtain ⟨ws, ls, h, rfl, hl, hll, ex, q⟩ := h
  refine ds_seq (ds_setz (de_call0 (da_cons (de_var rfl (da_cons (de_var rfl (da_nil ⟨ws, ls, h, rfl, hl, ex, fun m L => ?_⟩)))))))
  have ht : (tightL ws ls h m).length ≤ 1000 := Nat.le_trans (List.length_filter_le _ _) hl
  have hmem : ∀ l ∈ tightL ws ls h m, l ∈ ls := fun l hl => (List.mem_filter.mp hl).1
  have t0 : tightL ws ls h m ≠ [] := by
    obtain ⟨l, h1, h2, h3⟩ := L.is
    intro e
    have : l ∈ tightL ws ls h m := List.mem_filter.mpr ⟨h1, by rw [h2, h3]; simp⟩
    rw [e] at this; exact nomatch this
  refine ds_seq (ds_setz (de_lcB (tightL ws ls h m) (fun l => .d (hoD l)) (fun l => .int (l.length : Nat)) ?_ (fun l hl' => dg_name (by decide) ?_) ?_))
  · exact di_list (de_var rfl ⟨_, rfl, by rw [List.map_map]; exact ⟨rfl, szs (by omega)⟩⟩)
  · exact de_cb (da_cons (de_var rfl (da_nil (dc_len (.inr rfl) (by rw [List.length_map])))))
  · have e : (tightL ws ls h m).map (fun l => PyData.int (l.length : Nat)) = ((tightL ws ls h m).map fun l => ((l.length : Nat) : Int)).map .int := by rw [List.map_map]; rfl
    rw [e]
    have h0 : 0 < ((tightL ws ls h m).map fun l => ((l.length : Nat) : Int)).length := by rw [List.length_map]; exact List.length_pos_iff.mpr t0
    have at_ : ∀ {j : Nat} {z : Int}, ((tightL ws ls h m).map fun l => ((l.length : Nat) : Int))[j]? = some z → ∃ l, (tightL ws ls h m)[j]? = some l ∧ ((l.length : Nat) : Int) = z := by
      intro j z hj
      rw [List.getElem?_map] at hj
      cases e3 : (tightL ws ls h m)[j]? with
      | none => rw [e3] at hj; exact nomatch hj
      | some l => rw [e3] at hj; exact ⟨l, rfl, Option.some.inj hj⟩
    refine ds_ret (de_tup (da_cons (de_ix (de_var rfl (de_index (de_var rfl ⟨_, rfl, de_cb (da_cons (de_var rfl (da_nil (dc_minI h0 fun z z1 z2 => ⟨z, rfl, z1, fun j hj => ?_⟩))))⟩))))))
    obtain ⟨lo, lo1, lo2⟩ := at_ hj
    refine ⟨_, _, _, hoD lo, rfl, rfl, .inl rfl, atI_nat (j := j) (by rw [List.getElem?_map, lo1]; rfl), ?_⟩
    refine da_cons (de_ix (de_var rfl (de_index (de_var rfl ⟨_, rfl, de_cb (da_cons (de_var rfl (da_nil (dc_maxI h0 fun y y1 y2 => ⟨y, rfl, y1, fun i hi => ?_⟩))))⟩))))
    obtain ⟨hi', hi1, hi2⟩ := at_ hi
    refine ⟨_, _, _, hoD hi', rfl, rfl, .inl rfl, atI_nat (j := i) (by rw [List.getElem?_map, hi1]; rfl), ?_⟩
    refine da_nil ⟨[_, _], rfl, szn rfl, q m lo hi' L (List.mem_of_getElem? lo1) (fun l hl => ?_) (List.mem_of_getElem? hi1) (fun l hl => ?_)⟩
    · have := z2 _ (List.mem_map.mpr ⟨l, hl, rfl⟩)
      omega
    · have := y2 _ (List.mem_map.mpr ⟨l, hl, rfl⟩)
      omega
end
end Z

/-! # ZO -/
set_option Elab.async false
set_option linter.all false
set_option maxRecDepth 100000
set_option maxHeartbeats 1000000
/-! An own object's double-underscore methods, by their promises. -/
namespace Z
open PySem PySem.Spec PyProof.Rows L2 Fl
structure Own (P : Program) (w : World) (K : PySem.W.Frag) (mg : Str → Option Value) (base : Heap) (k : Nat) (C : Addr) (m : Str) (sp : Sp) : Prop where
  ex : ∃ f, OwnM K C m f ∧ FnR P w K mg base CX0 k f sp
section
variable {X : Cx} {k j : Nat} {C : Addr} {sp : Sp}
theorem s_ownIn (c : Own X.prog X.w X.K X.mg X.base k C "__contains__" sp) (hr : Room j X.A) (hk : k ≤ j) : OpR X (compareOp .In) (rOwnIn C sp E0 false) := by
  obtain ⟨f, M, F⟩ := c.ex
  exact op_ownIn M F (hr.mono hk) pass0
theorem s_ownNotIn (c : Own X.prog X.w X.K X.mg X.base k C "__contains__" sp) (hr : Room j X.A) (hk : k ≤ j) : OpR X (compareOp .NotIn) (rOwnIn C sp E0 true) := by
  obtain ⟨f, M, F⟩ := c.ex
  exact op_ownNotIn M F (hr.mono hk) pass0
theorem s_getitem {a b : Expr} {ta tb : TE} {pos : Pos} (c : Own X.prog X.w X.K X.mg X.base k C "__getitem__" sp) (hr : Room j X.A) (hk : k + 1 ≤ j) (ha : PE X a ta) (hb : PE X b tb)
    (hsl : ∀ o i, subscripted b true o i = runValue (.builtin "lifetime.subscript" ⟨[o, i], []⟩) := by exact fun _ _ => rfl) : PE X (.Subscript a b pos) (tOp (rOwnIx C sp E0) ta tb) := by
  obtain ⟨f, M, F⟩ := c.ex
  exact pe_ownIx M F (hr.mono hk) pass0 ha hb hsl
theorem s_len (c : Own X.prog X.w X.K X.mg X.base k C "__len__" sp) (hr : Room j X.A) (hk : k + 1 ≤ j) : CallR X (.builtin "len") (rOwnLen C sp E0) := by
  obtain ⟨f, M, F⟩ := c.ex
  exact call_ownLen M F (hr.mono hk) pass0
theorem s_ownEq (c : Own X.prog X.w X.K X.mg X.base k C "__eq__" sp) (hr : Room j X.A) (hk : k ≤ j) : OpR X (compareOp .Eq) (rOwnEq X.K C sp E0 false) := by
  obtain ⟨f, M, F⟩ := c.ex
  exact op_ownEq M F (hr.mono hk) pass0
theorem s_ownNe (c : Own X.prog X.w X.K X.mg X.base k C "__eq__" sp) (hne : PySem.W.findIn X.K (.ref C) "__ne__" = some (some (.builtin "object.__ne__"))) (hm : PySem.W.mroIn X.K C (.type "object") = some true) (hr : Room j X.A) (hk : k + 1 ≤ j) : OpR X (compareOp .NotEq) (rOwnEq X.K C sp E0 true) := by
  obtain ⟨f, M, F⟩ := c.ex
  exact op_ownNe M hne hm F (hr.mono hk) pass0
structure OwnC (P : Program) (w : World) (K : PySem.W.Frag) (mg : Str → Option Value) (base : Heap) (k : Nat) (C : Addr) (sp : Sp) : Prop where
  ex : ∃ f, StX.CallO K C f ∧ FnR P w K mg base CX0 k f sp
theorem s_callO {fe e : Expr} {es : List Expr} {tf : TE} {t : TA} {pos : Pos} (c : OwnC X.prog X.w X.K X.mg X.base k C sp) (hr : Room j X.A) (hk : k ≤ j) (hf : PE X fe tf) (ha : PA X (e :: es) t)
    (ht : eval (.Call fe (e :: es) [] pos) X.env = (do callWith pos (← eval fe X.env) [] (backTo pos (starEach (e :: es) X.env)) (backToKw pos (keywordEach [] X.env))) := by rfl)
    (he : starEach (e :: es) X.env = (false, eval e X.env) :: starEach es X.env := by rfl) (hpl : (backTo pos (starEach es X.env)).any (·.1) = false := by rfl) : PE X (.Call fe (e :: es) [] pos) (StX.tCallO X C sp E0 tf t) := by
  obtain ⟨f, M, F⟩ := c.ex
  exact StX.pe_callO hf M F (hr.mono hk) pass0 ha ht he hpl
end
theorem de_callO {P : Pm} {ρ : List En} {X : Cx} {S : Law} {E : XK} {te : TE} {ta : TA} {Φ : KD} (h : De P te ρ fun x => ∃ n r p, x = .ro n r p ∧ Da P ta ρ fun xs => S (.ro n r p :: xs) Φ) : De P (StX.tCallO X P.C (mkSp P.K P.C S) E te ta) ρ Φ := by
  intro H0 G H σ o rl Q k
  refine h H0 G H σ o rl _ fun v G1 H1 x g1 rv ⟨n, r, p, e, hS⟩ => ?_
  subst e
  have rv' := rv
  obtain ⟨a, dx, vn, vr, vp, rfl, ha, h1, h2, h3⟩ := rv
  refine ⟨a, rfl, ?_⟩
  refine hS H0 G1 H1 σ g1.ok (rl.up o g1) _ fun vs G2 H2 xs g2 rvs p2 => ?_
  refine ⟨.inr ⟨dx, _, g2.ok.sub _ _ (g2.same g1.ok _ _ ha)⟩, P.fd, G2, .ro n r p :: xs, Φ, g2.ok, ?_, p2, fun v G' H' x g rz hz => k v G' H' x ((g1.trans g2).trans g) rz hz⟩
  exact ⟨rv_up (g2.same g1.ok) rv', rvs⟩
end Z

/-! # ZM1 -/
set_option Elab.async false
set_option linter.all false
set_option maxRecDepth 100000
set_option maxHeartbeats 1000000
/-! Plain maths: a greatest flow exists; the lots that the law lists are the lots. -/
namespace Z
open PySem PySem.Spec PyProof.Rows L2 Fl
theorem tree_for {ws : List (Str × Str)} {T : List Nat} {b x : Str} (r : Reach ws T b x) : ∃ fs, Tree ws T b fs ∧ x ∈ keys fs := by
  induction r with
  | refl => exact ⟨_, .one, by simp [keys]⟩
  | @step i y z r s ih =>
    obtain ⟨fs, t, hy⟩ := ih
    by_cases h : z ∈ keys fs
    · exact ⟨fs, t, h⟩
    · exact ⟨_, .snoc t hy h s, by rw [keys, List.map_append]; exact List.mem_append_right _ (by simp)⟩
theorem half_end {ws : List (Str × Str)} {T : List Nat} {b g : Str} {fs : Fd Str} : ∀ (m : Nat) (late : List Nat) (here : Str), Half ws T b g fs late here m → ∃ late' m', Half ws T b g fs late' b m' := by
  intro m
  induction m using Nat.strongRecOn with
  | _ m ih =>
    intro late here h
    by_cases e : here = b
    · subst e; exact ⟨late, m, h⟩
    · obtain ⟨i, x, _, ⟨_, _, _, m', lt, h'⟩ | ⟨_, _, _, m', lt, h'⟩⟩ := h.turn e
      · exact ih m' lt _ _ h'
      · exact ih m' lt _ _ h'
theorem flow_more {ws : List (Str × Str)} {T : List Nat} {b g : Str} {k : Nat} (F : Flow ws b g T k) (r : Reach ws T b g) : ∃ T', Flow ws b g T' (k + 1) := by
  obtain ⟨fs, t, hg⟩ := tree_for r
  obtain ⟨late, m, h⟩ := half_end _ _ _ (Half.start F.toIx t hg)
  exact ⟨late, h.done F⟩
theorem mf_up {ws : List (Str × Str)} {b g : Str} (bg : b ≠ g) : ∀ (n : Nat) (T : List Nat) (k : Nat), Flow ws b g T k → ws.length ≤ k + n → ∃ T k, MaxFlow ws b g T k
  | n, T, k, F, h => by
    by_cases r : Reach ws T b g
    · obtain ⟨T', F'⟩ := flow_more F r
      have := F'.bound bg
      match n with
      | 0 => omega
      | n + 1 => exact mf_up bg n T' (k + 1) F' (by omega)
    · exact ⟨T, k, ⟨F, r⟩⟩
theorem mf_ex {ws : List (Str × Str)} {b g : Str} (bg : b ≠ g) : ∃ T k, MaxFlow ws b g T k := mf_up bg ws.length [] 0 (Flow.zero ws b g) (by omega)
theorem mf_aK {ws : List (Str × Str)} {b g : Str} (bg : b ≠ g) : ∃ T, MaxFlow ws b g T (aK ws b g) := by
  obtain ⟨T, k, M⟩ := mf_ex (ws := ws) bg
  exact ⟨T, by rw [aK_eq bg M]; exact M⟩
/-! ### the lots -/
theorem sLt_tr {a b c : Str} (h1 : SLt a b) (h2 : SLt b c) : SLt a c := List.lt_trans h1 h2
theorem sub_of : ∀ {m l : List Str}, m.Pairwise SLt → l.Pairwise SLt → (∀ x ∈ l, x ∈ m) → l.Sublist m
  | [], [], _, _, _ => .slnil
  | [], b :: l, _, _, h => nomatch h b List.mem_cons_self
  | a :: m, [], _, _, _ => List.nil_sublist _
  | a :: m, b :: l, hm, hl, h => by
    have hm2 := List.pairwise_cons.mp hm
    have hl2 := List.pairwise_cons.mp hl
    by_cases e : b = a
    · subst e
      refine .cons₂ _ (sub_of hm2.2 hl2.2 fun x hx => ?_)
      rcases List.mem_cons.mp (h x (List.mem_cons_of_mem _ hx)) with z | z
      · subst z; exact absurd (hl2.1 x hx) (sLt_irr x)
      · exact z
    · have hb : b ∈ m := (List.mem_cons.mp (h b List.mem_cons_self)).elim (fun z => absurd z e) id
      refine .cons _ (sub_of hm2.2 hl fun x hx => ?_)
      rcases List.mem_cons.mp (h x hx) with z | z
      · subst z
        rcases List.mem_cons.mp hx with z | z
        · exact absurd z.symm e
        · exact absurd (sLt_tr (hl2.1 x z) (hm2.1 b hb)) (sLt_irr b)
      · exact z
theorem lots_mem (s : Str) : ∀ (hs : List Str) (acc : List (List Str)) (l : List Str), l ∈ hs.foldl (lotsStep s) acc ↔ ∃ a ∈ acc, ∃ t, t.Sublist (oth hs s) ∧ l = a ++ t
  | [], acc, l => by
    constructor
    · intro h; exact ⟨l, h, [], List.nil_sublist _, by simp⟩
    · rintro ⟨a, ha, t, ht, rfl⟩
      have : t = [] := List.sublist_nil.mp ht
      subst this; simpa using ha
  | n :: hs, acc, l => by
    rw [List.foldl_cons, lots_mem s hs]
    by_cases e : n = s
    · have e1 : lotsStep s acc n = acc := by unfold lotsStep; rw [if_pos e, List.append_nil]
      have e2 : oth (n :: hs) s = oth hs s := by unfold oth; rw [List.filter_cons_of_neg (by simp [e])]
      rw [e1, e2]
    · have e2 : oth (n :: hs) s = n :: oth hs s := by unfold oth; rw [List.filter_cons_of_pos (by simp [e])]
      rw [e2]
      unfold lotsStep
      rw [if_neg e]
      constructor
      · rintro ⟨a, ha, t, ht, rfl⟩
        rcases List.mem_append.mp ha with ha | ha
        · exact ⟨a, ha, t, .cons _ ht, rfl⟩
        · obtain ⟨c, hc, rfl⟩ := List.mem_map.mp ha
          exact ⟨c, hc, n :: t, .cons₂ _ ht, by simp⟩
      · rintro ⟨a, ha, t, ht, rfl⟩
        cases ht with
        | cons _ ht => exact ⟨a, List.mem_append_left _ ha, _, ht, rfl⟩
        | cons_cons _ ht => exact ⟨a ++ [n], List.mem_append_right _ (List.mem_map.mpr ⟨a, ha, rfl⟩), _, ht, by simp⟩
theorem lotsAll_mem {hs : List Str} {s : Str} {l : List Str} : l ∈ lotsAll hs s ↔ l.Sublist (oth hs s) := by
  unfold lotsAll
  rw [lots_mem]
  constructor
  · rintro ⟨a, ha, t, ht, rfl⟩
    cases List.mem_singleton.mp ha
    exact ht
  · intro h; exact ⟨[], by simp, l, h, rfl⟩
theorem lots_nd (s : Str) : ∀ (hs : List Str) (acc : List (List Str)), hs.Nodup → acc.Nodup → (∀ a ∈ acc, ∀ n ∈ hs, n ∉ a) → (hs.foldl (lotsStep s) acc).Nodup
  | [], acc, _, h, _ => h
  | n :: hs, acc, hn, h, hd => by
    have hn2 := List.nodup_cons.mp hn
    rw [List.foldl_cons]
    refine lots_nd s hs _ hn2.2 ?_ ?_
    · unfold lotsStep
      by_cases e : n = s
      · rw [if_pos e, List.append_nil]; exact h
      · rw [if_neg e, List.nodup_append]
        refine ⟨h, List.Pairwise.map _ (fun a b z e => z (List.append_cancel_right e)) h, fun a ha c hc e => ?_⟩
        obtain ⟨d, hd', rfl⟩ := List.mem_map.mp hc
        exact hd a ha n List.mem_cons_self (by rw [e]; simp)
    · intro a ha x hx
      unfold lotsStep at ha
      rcases List.mem_append.mp ha with ha | ha
      · exact hd a ha x (List.mem_cons_of_mem _ hx)
      · by_cases e : n = s
        · rw [if_pos e] at ha; exact nomatch ha
        · rw [if_neg e] at ha
          obtain ⟨c, hc, rfl⟩ := List.mem_map.mp ha
          intro hm
          rcases List.mem_append.mp hm with hm | hm
          · exact hd c hc x (List.mem_cons_of_mem _ hx) hm
          · cases List.mem_singleton.mp hm
            exact hn2.1 hx
theorem lots_head (s : Str) : ∀ (hs : List Str) (a : List Str) (acc : List (List Str)), ∃ r, hs.foldl (lotsStep s) (a :: acc) = a :: r
  | [], a, acc => ⟨acc, rfl⟩
  | n :: hs, a, acc => by rw [List.foldl_cons]; exact lots_head s hs a _
theorem lotsL_nd {hs : List Str} {s : Str} (h : hs.Nodup) : (lotsL hs s).Nodup :=
  (lots_nd s hs [[]] h (by simp) (fun a ha n _ => by cases List.mem_singleton.mp ha; simp)).sublist (List.drop_sublist _ _)
theorem lotsL_mem {hs : List Str} {s : Str} (hi : hs.Pairwise SLt) {l : List Str} : l ∈ lotsL hs s ↔ LotOf hs s l := by
  have nd : (lotsAll hs s).Nodup := lots_nd s hs [[]] (slt_nd hi) (by simp) (fun a ha n _ => by cases List.mem_singleton.mp ha; simp)
  obtain ⟨r, e⟩ := lots_head s hs [] []
  have e : lotsAll hs s = [] :: r := e
  have io : (oth hs s).Pairwise SLt := hi.sublist List.filter_sublist
  have h1 : l ∈ lotsL hs s ↔ l ∈ lotsAll hs s ∧ l ≠ [] := by
    unfold lotsL
    rw [e] at nd ⊢
    have n2 := List.nodup_cons.mp nd
    show l ∈ r ↔ _
    constructor
    · intro h; exact ⟨List.mem_cons_of_mem _ h, fun z => n2.1 (z ▸ h)⟩
    · rintro ⟨h, h0⟩; exact (List.mem_cons.mp h).elim (fun z => absurd z h0) id
  rw [h1, lotsAll_mem]
  constructor
  · rintro ⟨h, h0⟩
    exact ⟨h0, io.sublist h, fun x hx => mem_oth.mp (h.subset hx)⟩
  · intro L
    exact ⟨sub_of io L.inc fun x hx => mem_oth.mpr (L.sub x hx), L.ne⟩
end Z

/-! # ZM2 -/
set_option Elab.async false
set_option linter.all false
set_option maxRecDepth 100000
set_option maxHeartbeats 1000000
namespace Z
open PySem PySem.Spec PyProof.Rows L2 Fl
section
variable {hs : List Str} {ws : List (Str × Str)} {s h : Str} {T : List Nat} {k : Nat}
theorem reach_hs (gn : GN hs ws) {x : Str} (hx : x ∈ hs) {y : Str} (r : Reach ws T x y) : y ∈ hs := by
  induction r with
  | refl => exact hx
  | step _ st _ =>
    rcases st with ⟨e, _⟩ | ⟨e, _⟩
    · exact (gn.wi _ (List.mem_of_getElem? e)).2.1
    · exact (gn.wi _ (List.mem_of_getElem? e)).1
theorem reach_back (gn : GN hs ws) {x y : Str} (r : Reach ws T x y) (hy : y ∈ hs) : x ∈ hs := by
  induction r with
  | refl => exact hy
  | step _ st ih =>
    refine ih ?_
    rcases st with ⟨e, _⟩ | ⟨e, _⟩
    · exact (gn.wi _ (List.mem_of_getElem? e)).1
    · exact (gn.wi _ (List.mem_of_getElem? e)).2.1
theorem cut_lot (hr : s ≠ h) {l : List Str} (L : LotOf hs s l) (hl : h ∈ l) : aK ws s h ≤ inL ws l := by
  obtain ⟨T, M⟩ := mf_aK (ws := ws) hr
  exact cut_ge M.toFlow (S := fun x => decide (x ∈ l)) (decide_eq_true hl) (decide_eq_false fun z => (L.sub s z).2 rfl)
theorem great_lot (gn : GN hs ws) (hh : h ∈ hs) (hr : s ≠ h) (M : MaxFlow ws s h T k) {p : Str → Bool} (hp : ∀ x, p x = true ↔ ¬ Reach ws T s x) : LotOf hs s (hs.filter p) ∧ h ∈ hs.filter p ∧ inL ws (hs.filter p) = aK ws s h := by
  have mh : h ∈ hs.filter p := List.mem_filter.mpr ⟨hh, (hp h).mpr M.stop⟩
  have ms : s ∉ hs.filter p := fun z => (hp s).mp (List.mem_filter.mp z).2 .refl
  refine ⟨⟨fun e => (by rw [e] at mh; exact nomatch mh), gn.inc.sublist List.filter_sublist, fun x hx => ⟨(List.mem_filter.mp hx).1, fun e => ms (e ▸ hx)⟩⟩, mh, ?_⟩
  rw [aK_eq hr M]
  refine (great_tight M (S := fun x => decide (x ∈ hs.filter p)) (fun x hx => ?_) (decide_eq_false ms)).2
  have xh : x ∈ hs := by
    rcases hx with rfl | ⟨e, he, rfl | rfl⟩
    · exact hh
    · exact (gn.wi e he).1
    · exact (gn.wi e he).2.1
  rw [decide_eq_true_iff, List.mem_filter]
  exact ⟨fun z => (hp x).mp z.2, fun z => ⟨xh, (hp x).mpr z⟩⟩
theorem least_lot (gn : GN hs ws) (hh : h ∈ hs) (hr : s ≠ h) (M : MaxFlow ws s h T k) {ys : List Str} (io : ys.Pairwise SLt) (hy : ∀ x, x ∈ ys ↔ Reach ws T x h) : LotOf hs s ys ∧ h ∈ ys ∧ inL ws ys = aK ws s h := by
  obtain ⟨hg, hb, hc⟩ := least_tight M (S := fun x => decide (x ∈ ys)) (fun x => by rw [decide_eq_true_iff]; exact hy x)
  have mh : h ∈ ys := (hy h).mpr .refl
  refine ⟨⟨fun e => (by rw [e] at mh; exact nomatch mh), io, fun x hx => ⟨reach_back gn ((hy x).mp hx) hh, fun e => ?_⟩⟩, mh, by rw [aK_eq hr M]; exact hc⟩
  subst e
  exact of_decide_eq_false hb hx
theorem between_lot (hr : s ≠ h) (M : MaxFlow ws s h T k) {l : List Str} (L : LotOf hs s l) (hl : h ∈ l) (e : inL ws l = aK ws s h) : (∀ x, Reach ws T x h → x ∈ l) ∧ ∀ x ∈ l, ¬ Reach ws T s x := by
  have hg : (fun x => decide (x ∈ l)) h = true := decide_eq_true hl
  have hb : (fun x => decide (x ∈ l)) s = false := decide_eq_false fun z => (L.sub s z).2 rfl
  rw [aK_eq hr M] at e
  exact ⟨fun x r => of_decide_eq_true (tight_least M.toFlow hg hb e r), fun x hx => tight_great M.toFlow hg hb e (decide_eq_true hx)⟩
open Classical in
theorem tight_ex (gn : GN hs ws) (hh : h ∈ hs) (hr : s ≠ h) : ∃ l, LotOf hs s l ∧ h ∈ l ∧ inL ws l = aK ws s h := by
  obtain ⟨T, M⟩ := mf_aK (ws := ws) hr
  exact ⟨_, great_lot gn hh hr M (p := fun x => decide (¬ Reach ws T s x)) (fun x => by rw [decide_eq_true_iff])⟩
theorem least_aK (gn : GN hs ws) (hh : h ∈ hs) (hr : s ≠ h) {m : Nat} (L : LeastOf ws (lotsL hs s) (fun l => decide (h ∈ l)) m) : m = aK ws s h := by
  obtain ⟨l, h1, h2, h3⟩ := tight_ex gn hh hr
  obtain ⟨l', a, b, c⟩ := L.is
  have e1 := L.le l ((lotsL_mem gn.inc).mpr h1) (decide_eq_true h2)
  have e2 := cut_lot (ws := ws) hr ((lotsL_mem gn.inc).mp a) (of_decide_eq_true b)
  omega
theorem least_wid (gn : GN hs ws) {m : Nat} (L : LeastOf ws (lotsL hs s) (fun _ => true) m) : ∃ h ∈ oth hs s, aK ws s h = m ∧ ∀ h' ∈ oth hs s, aK ws s h ≤ aK ws s h' := by
  obtain ⟨l, a, _, c⟩ := L.is
  have La := (lotsL_mem gn.inc).mp a
  obtain ⟨h, hl⟩ := List.exists_mem_of_ne_nil l La.ne
  obtain ⟨h1, h2⟩ := La.sub h hl
  have up : ∀ h' ∈ oth hs s, m ≤ aK ws s h' := fun h' hh' => by
    obtain ⟨m1, m2⟩ := mem_oth.mp hh'
    obtain ⟨l', b1, b2, b3⟩ := tight_ex gn m1 (Ne.symm m2)
    rw [← b3]
    exact L.le l' ((lotsL_mem gn.inc).mpr b1) rfl
  have ho : h ∈ oth hs s := mem_oth.mpr ⟨h1, h2⟩
  have e1 := cut_lot (ws := ws) (Ne.symm h2) La hl
  have e2 := up h ho
  have e3 : aK ws s h = m := by omega
  exact ⟨h, ho, e3, fun h' hh' => by rw [e3]; exact up h' hh'⟩
theorem lots_none (gn : GN hs ws) : lotsL hs s = [] ↔ oth hs s = [] := by
  constructor
  · intro e
    refine List.eq_nil_iff_forall_not_mem.mpr fun h hh => ?_
    obtain ⟨m1, m2⟩ := mem_oth.mp hh
    obtain ⟨l', b1, _⟩ := tight_ex (ws := ws) gn m1 (Ne.symm m2)
    have := (lotsL_mem gn.inc).mpr b1
    rw [e] at this; exact nomatch this
  · intro e
    refine List.eq_nil_iff_forall_not_mem.mpr fun l hl => ?_
    have La := (lotsL_mem gn.inc).mp hl
    obtain ⟨h, hl⟩ := List.exists_mem_of_ne_nil l La.ne
    have := mem_oth.mpr (La.sub h hl)
    rw [e] at this; exact nomatch this
theorem least_ex (ws : List (Str × Str)) (p : List Str → Bool) : ∀ ls : List (List Str), (∃ l ∈ ls, p l = true) → ∃ m, LeastOf ws ls p m
  | [], h => by obtain ⟨_, h, _⟩ := h; exact nomatch h
  | a :: r, h => by
    by_cases e : ∃ l ∈ r, p l = true
    · obtain ⟨m, ⟨l, h1, h2, h3⟩, L2⟩ := least_ex ws p r e
      by_cases c : p a = true ∧ inL ws a < m
      · exact ⟨inL ws a, ⟨a, List.mem_cons_self, c.1, rfl⟩, fun l' hl' hp => (List.mem_cons.mp hl').elim (fun z => by rw [z]; omega) fun z => by have := L2 l' z hp; omega⟩
      · refine ⟨m, ⟨l, List.mem_cons_of_mem _ h1, h2, h3⟩, fun l' hl' hp => (List.mem_cons.mp hl').elim (fun z => ?_) fun z => L2 l' z hp⟩
        subst z
        have : ¬ inL ws l' < m := fun z => c ⟨hp, z⟩
        omega
    · obtain ⟨l, h1, h2⟩ := h
      have : l = a := (List.mem_cons.mp h1).elim id fun z => absurd ⟨l, z, h2⟩ e
      subst this
      exact ⟨inL ws l, ⟨l, List.mem_cons_self, h2, rfl⟩, fun l' hl' hp => (List.mem_cons.mp hl').elim (fun z => by rw [z]; omega) fun z => absurd ⟨l', z, hp⟩ e⟩
theorem tight_mem (gn : GN hs ws) {l : List Str} {m : Nat} : l ∈ tightL ws (lotsL hs s) h m ↔ LotOf hs s l ∧ h ∈ l ∧ inL ws l = m := by
  unfold tightL
  rw [List.mem_filter, lotsL_mem gn.inc]
  simp
theorem low_end (gn : GN hs ws) (hh : h ∈ hs) (hr : s ≠ h) (M : MaxFlow ws s h T k) {ys lo : List Str} (io : ys.Pairwise SLt) (hy : ∀ x, x ∈ ys ↔ Reach ws T x h) (h1 : lo ∈ tightL ws (lotsL hs s) h (aK ws s h)) (h2 : ∀ l ∈ tightL ws (lotsL hs s) h (aK ws s h), lo.length ≤ l.length) : lo = ys := by
  obtain ⟨L, a, b⟩ := (tight_mem gn).mp h1
  have e := h2 ys ((tight_mem gn).mpr (least_lot gn hh hr M io hy))
  have sub := sub_of L.inc io fun x hx => (between_lot hr M L a b).1 x ((hy x).mp hx)
  exact (sub.eq_of_length_le e).symm
theorem high_end (gn : GN hs ws) (hh : h ∈ hs) (hr : s ≠ h) (M : MaxFlow ws s h T k) {p : Str → Bool} {hi : List Str} (hp : ∀ x, p x = true ↔ ¬ Reach ws T s x) (h1 : hi ∈ tightL ws (lotsL hs s) h (aK ws s h)) (h2 : ∀ l ∈ tightL ws (lotsL hs s) h (aK ws s h), l.length ≤ hi.length) : hi = hs.filter p := by
  obtain ⟨L, a, b⟩ := (tight_mem gn).mp h1
  have e := h2 _ ((tight_mem gn).mpr (great_lot gn hh hr M hp))
  have sub := sub_of (gn.inc.sublist List.filter_sublist) L.inc fun x hx => List.mem_filter.mpr ⟨(L.sub x hx).1, (hp x).mpr ((between_lot hr M L a b).2 x hx)⟩
  exact sub.eq_of_length_le e
end
end Z

/-! # ZL7 -/
set_option Elab.async false
set_option linter.all false
set_option maxRecDepth 100000
set_option maxHeartbeats 1000000
namespace Z
open PySem PySem.Spec PyProof.Rows L2 Fl
theorem rise_inc : ∀ {r : List Str} {x : Str}, risingS x r = true → (x :: r).Nodup → (x :: r).Pairwise SLt
  | [], x, _, _ => List.pairwise_singleton ..
  | y :: r, x, h, nd => by
    unfold risingS at h
    rw [Bool.and_eq_true] at h
    have n2 := List.nodup_cons.mp nd
    have ih := rise_inc h.2 n2.2
    have xy : SLt x y := by
      have h1 := h.1
      rcases slt_tri x y with z | z | z
      · exact of_decide_eq_true z
      · exact absurd z (fun e => n2.1 (e ▸ List.mem_cons_self))
      · exfalso
        have z := of_decide_eq_true z
        rw [← gt_meets, decide_eq_true z] at h1
        exact nomatch h1
    refine List.pairwise_cons.mpr ⟨fun z hz => ?_, ih⟩
    rcases List.mem_cons.mp hz with e | e
    · rw [e]; exact xy
    · exact sLt_tr xy ((List.pairwise_cons.mp ih).1 z e)
theorem sort_inc {ys : List Str} (h : sortedS ys = true) (nd : ys.Nodup) : ys.Pairwise SLt := by
  cases ys with
  | nil => exact .nil
  | cons x r => exact rise_inc h nd
theorem shaped_nm {ls : List Str} (h : ls = []) : SeqAt.shaped (.list (ls.map .str)) = true := by subst h; exact shaped_nil.1
/-- how the judge's own object answers a lot -/
theorem has_lot {hs : List Str} {ws : List (Str × Str)} {s : Str} {l : List Str} {n r : PyData} {p : List PyData} {Φ : KD} (gn : GN hs ws) (L : LotOf hs s l) {m : Nat} (W : LeastOf ws (lotsL hs s) (fun _ => true) m) (e : Dv.ro n r p = roD hs ws s) (q : Φ (.d (.bool (decide (inL ws l = m))))) : L_ohas [.ro n r p, .d (hoD l)] Φ := by
  obtain ⟨h, hh, e1, e2⟩ := least_wid gn W
  refine ⟨hs, ws, s, hoD l, by rw [e], gn, lot_smT gn L, fun z => ?_, fun l' h' el L' hh' hm => ?_⟩
  · rw [lotB_of gn L] at z; exact nomatch z
  · have e3 : l'.map PyData.str = l.map PyData.str := PyData.tuple.inj el.symm
    have : l' = l := (List.map_inj_right (fun _ _ z => PyData.str.inj z)).mp e3
    subst this
    have : aK ws s h' = m := by
      have a1 := hm h hh
      have a2 := e2 h' hh'
      omega
    rw [this]; exact q
def L_lbetw : Law := fun xs Φ => ∃ hs ws s, xs = [roD hs ws s, .d (netD hs ws), .d (.str s)] ∧ GN hs ws ∧ s ∈ hs ∧ hs.length ≤ 7 ∧ Φ (.d (.bool true))
abbrev N__law_are_between : List Str := ["_law_one", "_law_town", "_law_seat", "_law_least", "_law_name", "_law_some", "_law_low", "_law_high", "_law_late"]
theorem sc__law_are_between : FnScope N__law_are_between ["_law_one", "_law_town", "_law_seat"] (defScope (top 86)) := ⟨rfl, rfl, rfl, by decide +kernel, rfl, by decide +kernel, by decide +kernel⟩
section
variable {Pr : Program} {w : World} {K : PySem.W.Frag} {mg : Str → Option Value} {base : Heap} {C : Addr} {f : Addr} {fd : FuncData}
theorem c__law_are_between (T : Tx K mg C) (c__law_width : C8.Cal Pr w K mg base 2 "_law_width" (mkSp K C L_lwidth) []) (c__law_lots : C8.Cal Pr w K mg base 1 "_law_lots" (mkSp K C L_lots) []) (o_getitem : Own Pr w K mg base 7 C "__getitem__" (mkSp K C L_getitem)) (o_contains : Own Pr w K mg base 5 C "__contains__" (mkSp K C L_ohas)) (m_least : C8.Met Pr w K mg base 7 C "least" (mkSp K C L_oleast) []) (m_greatest : C8.Met Pr w K mg base 7 C "greatest" (mkSp K C L_ogreat) [])
    (F : FnP K "_law_are_between" (top 86) [] f fd) (g : mg "_law_are_between" = some (.ref f)) : C8.Cal Pr w K mg base 9 "_law_are_between" (mkSp K C L_lbetw) [] := by
  have sc := sc__law_are_between
  refine calN F g (fun _ _ _ _ _ _ us hl => match us, hl with | [_, _, _], _ => rfl) (okD F sc (fun xs Φ h => by obtain ⟨a, b, c, rfl, _⟩ := h; rfl) (fun cdv A outer s H E hr => ?_))
  refine ⟨_, (pss_cons (ps_set (i := 3) sc.nd rfl (.inl rfl) (C8.pe_c c__law_width hr (by decide) (by rfl) (pa_cons (pv 1) (pa_cons (pv 2) pa_nil))))
      (pss_cons (ps_for PassesOwn.never rfl (pi_listK K (pe_lc (own := [("_law_name", 4)]) rfl sc.nd (pi_tupK K (pe_ix (ix_seqK K) (pv 1) pe_int (fun _ _ => rfl))) (blkOk_by (by exact rfl)) (fun _ _ _ _ _ => (pg_name (i := 4) sc.nd rfl (.inl rfl))) (fun _ _ _ _ _ => pts_one (pt_cmpR (op_neK K hr) (pv 4) (pv 2) (nomark _))) (fun _ _ _ _ _ => (pv 4)))) (pg_name (i := 4) sc.nd rfl (.inl rfl)) (pss_one (ps_if (pt_cmpR (op_eqK K hr) (s_getitem o_getitem hr (by decide) (pv 0) (pv 4)) (pv 3) (nomark _)) (pss_cons (ps_asg (pe_tup (pa_cons (C8.pe_mt m_least hr (by decide) (pv 0) (pa_cons (pv 4) pa_nil)) (pa_cons (C8.pe_mt m_greatest hr (by decide) (pv 0) (pa_cons (pv 4) pa_nil)) pa_nil))) (pg_tupK K 2 (pgs_cons (pg_name (i := 6) sc.nd rfl (.inl rfl)) (pgs_cons (pg_name (i := 7) sc.nd rfl (.inr rfl)) pgs_nil))))
      (pss_cons (ps_if (PW.pt (pw_or (pt_cmpR (s_ownNotIn o_contains hr (by decide)) (pv 6) (pv 0) rfl) (pw_or1 (pt_cmpR (s_ownNotIn o_contains hr (by decide)) (pv 7) (pv 0) rfl)))) (pss_one (ps_ret pe_bl)) pss_nil)
      (pss_one (ps_for PassesOwn.never rfl (pi_listK K (C8.pe_c c__law_lots hr (by decide) (by rfl) (pa_cons (pv 1) (pa_cons (pv 2) pa_nil)))) (pg_name (i := 5) sc.nd rfl (.inr rfl)) (pss_one (ps_if (PW.pt (pw_and (pt_cmpR (op_inK K) (pv 4) (pv 5) rfl) (pw_and1 (pt_cmpR (s_ownIn o_contains hr (by decide)) (pv 5) (pv 0) rfl)))) (pss_one (ps_if (pt_cmpR (op_neK K hr) (pe_op (op_addK K) (pe_lc (own := [("_law_late", 8)]) rfl sc.nd (pi_tupK K (pv 6)) (blkOk_by (by exact rfl)) (fun _ _ _ _ _ => (pg_name (i := 8) sc.nd rfl (.inl rfl))) (fun _ _ _ _ _ => pts_one (pt_cmpR (op_ninK K) (pv 8) (pv 5) rfl)) (fun _ _ _ _ _ => (pv 8))) (pe_lc (own := [("_law_late", 8)]) rfl sc.nd (pi_tupK K (pv 5)) (blkOk_by (by exact rfl)) (fun _ _ _ _ _ => (pg_name (i := 8) sc.nd rfl (.inl rfl))) (fun _ _ _ _ _ => pts_one (pt_cmpR (op_ninK K) (pv 8) (pv 7) rfl)) (fun _ _ _ _ _ => (pv 8)))) (pe_lst pa_nil) (nomark _)) (pss_one (ps_ret pe_bl)) pss_nil)) pss_nil)))))) pss_nil)))
      (pss_one (ps_ret pe_bl)))), fun fd' xs Φ h => ?_⟩
  obtain ⟨hs, ws, s, rfl, gn, sm, hl, q⟩ := h
  have lw := gn.lw
  let V0 : En := .fz (roD hs ws s)
  let V1 : En := .fz (.d (netD hs ws))
  let V2 : En := .fz (.d (.str s))
  have step : De ⟨K, C, fd'⟩ (tCall (mkSp K C L_lwidth) [] C8.E0 (tCons (tVar 1) (tCons (tVar 2) tNil))) (ρ0 N__law_are_between [roD hs ws s, .d (netD hs ws), .d (.str s)]) fun x => ∃ w0, x = .d w0 ∧ (oth hs s ≠ [] → ∃ m : Nat, w0 = .int m ∧ LeastOf ws (lotsL hs s) (fun _ => true) m) := by
    refine de_call0 (da_cons (de_var rfl (da_cons (de_var rfl (da_nil ⟨hs, ws, s, rfl, hl, by omega, fun e0 => ⟨_, rfl, fun z => absurd ((lots_none gn).mp e0) z⟩, fun m L => ⟨_, rfl, fun _ => ⟨m, rfl, L⟩⟩⟩)))))
  refine ds_seq (ds_setz (step.mono fun x hx => ?_))
  obtain ⟨w0, rfl, hw0⟩ := hx
  have lh := gn.lh
  have lo : (oth hs s).length ≤ 20 := Nat.le_trans (List.length_filter_le _ _) lh
  refine ds_seq (ds_forW [4, 5, 6, 7, 8] (fun i ρ' => ρ' = [V0, V1, V2, .fz (.d w0), .un, .un, .un, .un, .un]) (di_list (de_lcA hs (fun h => .d (.str h)) (fun h => if (!decide (h = s)) = true then some (.str h) else none) (di_tup (de_net0 (hs := hs) (ws := ws) (de_var rfl ⟨rfl, hs.map .str, rfl, by rw [List.map_map]; rfl, szs (by omega)⟩))) (fun h hh => dg_name (by decide) (dt_test (de_nss (de_var rfl (de_var rfl ⟨h, s, rfl, rfl, _, rfl, ?_⟩))))) ⟨(oth hs s).map .str, by rw [filterMap_if]; rfl, [4], rfl, ?_, ?_⟩)))
  · by_cases e : h = s
    · rw [decide_eq_true e]; rfl
    · rw [decide_eq_false e]; exact de_var rfl ⟨_, rfl, rfl⟩
  · rintro i v ρ2 hv rfl
    rw [List.getElem?_map, List.getElem?_map] at hv
    cases hp : (oth hs s)[i]? with
    | none => rw [hp] at hv; exact nomatch hv
    | some n =>
      rw [hp] at hv; cases hv
      have hn := List.mem_of_getElem? hp
      obtain ⟨m, rfl, W⟩ := hw0 (List.ne_nil_of_mem hn)
      obtain ⟨m1, m2⟩ := mem_oth.mp hn
      have sn : s ≠ n := Ne.symm m2
      refine dg_name (by decide) ?_
      refine ds_if (dt_test (de_ii (de_op (de_var rfl (de_var rfl (dop_ownIx ⟨hs, ws, s, n, rfl, gn, sm, hn, de_var rfl ⟨((aK ws s n : Nat) : Int), (m : Int), rfl, rfl, _, rfl, ?_⟩⟩))))))
      by_cases e : aK ws s n = m
      · rw [decide_eq_true (by omega : ((aK ws s n : Nat) : Int) = (m : Int))]
        refine ds_seq (ds_tup2 (dal_cons (dw_of (de_meth (by first | rfl | decide | simp) (de_var rfl ⟨_, _, _, rfl, da_cons (de_var rfl (da_nil ⟨hs, ws, s, n, rfl, gn, sm, hn, fun T k ys M so nd hy => dal_cons (dw_of (de_meth (by first | rfl | decide | simp) (de_var rfl ⟨_, _, _, rfl, da_cons (de_var rfl (da_nil ⟨hs, ws, s, n, rfl, gn, sm, hn, fun T2 k2 p M2 hp2 => dal_nil ⟨_, _, rfl, ?_⟩⟩))⟩)))⟩))⟩)))))
        obtain ⟨L1, a1, b1⟩ := least_lot gn m1 sn M (sort_inc so nd) hy
        obtain ⟨L2, a2, b2⟩ := great_lot gn m1 sn M2 hp2
        have ll1 := lot_len gn L1
        have ll2 := lot_len gn L2
        refine ds_seq (ds_if (dt_or (dt_test (de_op (de_var rfl (de_var rfl (dop_ownIn (neg := true) (has_lot gn L1 W rfl ⟨_, rfl, _, rfl, ?_⟩))))))))
        rw [decide_eq_true (b1.trans e)]
        refine dt_test (de_op (de_var rfl (de_var rfl (dop_ownIn (neg := true) (has_lot gn L2 W rfl ⟨_, rfl, _, rfl, ?_⟩)))))
        rw [decide_eq_true (b2.trans e)]
        refine ds_next ?_
        refine ds_forW [5, 8] (fun j ρ' => ρ' = [V0, V1, V2, .fz (.d (.int m)), .fz (.d (.str n)), .un, .fz (.d (hoD ys)), .fz (.d (hoD (hs.filter p))), .un]) (di_list (de_call0 (da_cons (de_var rfl (da_cons (de_var rfl (da_nil ⟨hs, ws, s, rfl, hl, _, rfl, [5], rfl, ?_, ?_⟩)))))))
        · rintro j v ρ3 hv rfl
          rw [List.getElem?_map, List.getElem?_map] at hv
          cases hq : (lotsL hs s)[j]? with
          | none => rw [hq] at hv; exact nomatch hv
          | some l =>
            rw [hq] at hv; cases hv
            have Ll := (lotsL_mem gn.inc).mp (List.mem_of_getElem? hq)
            have ll := lot_len gn Ll
            refine dg_name (by decide) ?_
            refine ds_if (dt_and (dt_test (de_inH (de_var rfl (de_var rfl ⟨n, l, _, rfl, rfl, .inr rfl, _, rfl, ?_⟩)))))
            by_cases nl : n ∈ l
            · rw [decide_eq_true nl]
              refine dt_test (de_op (de_var rfl (de_var rfl (dop_ownIn (neg := false) (has_lot gn Ll W rfl ⟨_, rfl, _, rfl, ?_⟩)))))
              by_cases e2 : inL ws l = m
              · rw [decide_eq_true e2]
                have c1 := (between_lot sn M Ll nl (e2.trans e.symm)).1
                have c2 := (between_lot sn M2 Ll nl (e2.trans e.symm)).2
                have z1 : ys.filterMap (fun _ => (none : Option PyData)) = [] := List.filterMap_eq_nil_iff.mpr fun _ _ => rfl
                have z2 : l.filterMap (fun _ => (none : Option PyData)) = [] := List.filterMap_eq_nil_iff.mpr fun _ _ => rfl
                refine ds_if (dt_test (de_nnil (de_addL (de_lcA ys (fun y => .d (.str y)) (fun _ => none) (di_tup (de_var rfl ⟨ys.map .str, rfl, by rw [List.map_map]; exact ⟨rfl, szs (by omega)⟩⟩)) (fun y hy' => dg_name (by decide) (dt_test (de_ninH (de_var rfl (de_var rfl ⟨y, l, _, rfl, rfl, .inr rfl, false, by rw [decide_eq_true (c1 y ((hy y).mp hy'))]; rfl, rfl⟩))))) ?_))))
                refine de_lcA l (fun y => .d (.str y)) (fun _ => none) (di_tup (de_var rfl ⟨l.map .str, rfl, by rw [List.map_map]; exact ⟨rfl, szs (by omega)⟩⟩)) (fun y hy' => dg_name (by decide) (dt_test (de_ninH (de_var rfl (de_var rfl ⟨y, hs.filter p, _, rfl, rfl, .inr rfl, false, by rw [decide_eq_true (List.mem_filter.mpr ⟨(Ll.sub y hy').1, (hp2 y).mpr (c2 y hy')⟩)]; rfl, rfl⟩))))) ?_
                rw [z1, z2]
                exact ⟨[], [], rfl, rfl, szn rfl, de_lst (da_nil ⟨[], rfl, szn rfl, [], rfl, shaped_nil.1, rfl, false, rfl, ds_next rfl⟩)⟩
              · rw [decide_eq_false e2]; exact ds_next rfl
            · rw [decide_eq_false nl]; exact ds_next rfl
        · rintro ρ3 rfl
          rfl
      · rw [decide_eq_false (by omega : ¬ ((aK ws s n : Nat) : Int) = (m : Int))]
        exact ds_next rfl
  · rintro ρ2 rfl
    exact ds_ret (de_bl q)
end
end Z

/-! # ZG -/
set_option Elab.async false
set_option linter.all false
set_option maxRecDepth 100000
set_option maxHeartbeats 1000000
/-! Promises that hold where no repr is under way: a def that calls repr is called from such places alone. -/
namespace Z
open PySem PySem.Spec PyProof.Rows L2
structure FnG (P : Program) (w : World) (K : PySem.W.Frag) (mg : Str → Option Value) (base : Heap) (CX : CXT) (k : Nat) (f : Addr) (fd : FuncData) (ps : List Str) (sp : Sp) : Prop where
  len : ∀ vs H Q E, sp vs H Q E → vs.length = ps.length
  run : ∀ (A : Around) (outer : List Env) (s : Shared) (H : Hp) (args : Args) (us : List Value) (vs : List V) (Q : VK) (E : XK), Room k A → A.guards = some [] → Env0 P w K mg base A outer s H → BindsTo s fd args (ps.zip us) → Vals vs us → sp vs H Q E →
    codeAny (model P w) A (.call (.ref f) args) (CR CX outer P w H s Q E) s
theorem fn_g {CX : CXT} {P : Program} {w : World} {K : PySem.W.Frag} {mg : Str → Option Value} {base : Heap} {k : Nat} {f : Addr} {name qual : Str} {params : Arguments} {body : List Stmt} {scope : Scope} {dvs : List V} {kws : List (Str × V)} {fd : FuncData} {N ps : List Str} {sp : Sp}
    (F : FunD K name qual params body scope dvs kws f fd) (S : FnScope N ps scope) (len : ∀ vs H Q E, sp vs H Q E → vs.length = ps.length)
    (hbody : ∀ (cdv : Value) (A : Around) (outer : List Env) (s : Shared) (H : Hp) (vs : List V) (Q : VK) (E : XK), Room k (A.deeper (envOfC qual scope s.heap.objs.size f cdv)) → (A.deeper (envOfC qual scope s.heap.objs.size f cdv)).guards = some [] → sp vs H Q E →
      ∃ t, PSs (cxOf CX P w K mg base N qual scope f cdv A outer s H E) body t ∧ t { nx := fun _ H' => Q .non H', rt := Q } (L2.start N vs) H) : FnG P w K mg base CX (k + 1) f fd ps sp := by
  obtain ⟨oc, od, dV, kV, doc, pm, an, cdv, ct, osl, rfl, lk, hcd, _, _⟩ := F.ex
  refine ⟨len, fun A outer s H args us vs Q E hr hg e0 hb r hsp => ?_⟩
  have hin : ∀ b o, base.get? b = some o → s.heap.get? b = some o := fun b o e => (e0.bs b o e).1
  have KX := e0.mod.kin.keeps hin
  have named : ∀ y ∈ ps.zip us, scope.names.lookup y.1 = some .local ∨ (scope.names.lookup y.1 = some .cell ∧ ((cellsFrom (s.heap.objs.size + 1) scope.names []).lookup y.1).isSome = true) := by
    rintro ⟨n, v⟩ hy
    exact (S.par n (List.of_mem_zip hy).1).imp id fun q => ⟨q, PySem.W.cellsFrom_some _ _ _ (.inl q)⟩
  refine codeAny_call_function hr.depth (KX _ _ lk) rfl S.co S.gen rfl (PySem.W.codeRec_of KX hcd) (hb _ _ _ _ ?_)
  refine wpAny_newFunctionEnv_cells S.kind named fun env he s1 x => ?_
  subst he
  refine ⟨(e0.mod.nolimit.keeps hin).keeps x.toInCall.keep, codeAny_func ?_⟩
  obtain ⟨t, ht, hq⟩ := hbody cdv A outer s H vs Q E (hr.deeper _) hg hsp
  have I := inv_start (CX := CX) (N := N) (E := E) S hr.hd e0 (len _ _ _ _ hsp) r x
  refine wpAny_mono (ht.run [] s1 (L2.start N vs) H _ I hq) ?_ fun e s' hs => hs
  intro fl s' hs
  cases fl with
  | next =>
    obtain ⟨_, H', J, q⟩ := hs
    exact ⟨V.non, H', J.os, J.bare, J.base, J.hok, rfl, q⟩
  | ret u =>
    obtain ⟨v, _, H', J, rv, q⟩ := hs
    exact ⟨v, H', J.os, J.bare, J.base, J.hok, rv, q⟩
  | brk =>
    obtain ⟨_, _, _, q⟩ := hs
    exact False.elim q
  | cont =>
    obtain ⟨_, _, _, q⟩ := hs
    exact False.elim q
section
variable {X : Cx} {k j : Nat} {f : Addr} {fd : FuncData} {ps : List Str} {ds : List Value} {dvs : List V} {sp : Sp} {E : XK}
theorem run_fnG {pins : List (Addr × Obj)} {σ : L2.St} {H : Hp} {s : Shared} {Q : VK} {us : List Value} {vs : List V} (F : FnG X.prog X.w X.K X.mg X.base CX0 k f fd ps sp) (hr : Room k X.A) (hg : X.A.guards = some []) (hb : L2.Binds X.K fd ps ds) (hd : Vals dvs ds) (hx : Passes CX0 X E)
    (I : Inv X pins σ H s) (r : Vals vs us) (h : sp (vs ++ dvs) H Q E) : wpAny (model X.prog X.w) X.A (call (.ref f) us) (EP X pins σ Q) X.xe s := by
  have r2 := r.append hd
  refine wpAny_call (codeAny_mono (F.run X.A X.stack s H ⟨us, []⟩ (us ++ ds) (vs ++ dvs) Q E hr hg I.env0 (hb s us I.kIn (by rw [← r2.length]; exact F.len _ _ _ _ h)) r2 h) ?_)
  intro r s' hq
  cases r with
  | ok fl =>
    cases fl with
    | ret u => exact I.after hq
    | next => exact False.elim hq
    | brk => exact False.elim hq
    | cont => exact False.elim hq
  | error e => exact hx pins σ H s e s' I hq
structure CalG (P : Program) (w : World) (K : PySem.W.Frag) (mg : Str → Option Value) (base : Heap) (k : Nat) (x : Str) (sp : Sp) : Prop where
  ex : ∃ (f : Addr) (fd : FuncData) (ps : List Str), FnG P w K mg base CX0 k f fd ps sp ∧ mg x = some (.ref f) ∧ PySem.W.keepIn K (.ref f) = true ∧ L2.Binds K fd ps []
theorem pe_cG {x : Str} {p pos : Pos} {e : Expr} {es : List Expr} {t : TA} (c : CalG X.prog X.w X.K X.mg X.base k x sp) (hr : Room j X.A) (hgd : X.A.guards = some []) (hk : k ≤ j) (hg : Gl X x) (ha : PA X (e :: es) t)
    (hdb : (x == ("__debug__" : Str)) = false := by decide) (he : starEach (e :: es) X.env = (false, eval e X.env) :: starEach es X.env := by rfl) (hpl : (backTo pos (starEach es X.env)).any (·.1) = false := by rfl) :
    PE X (.Call (.Name x p) (e :: es) [] pos) (tCall sp [] E0 t) := by
  obtain ⟨f, fd, ps, F, hm, kp, b⟩ := c.ex
  refine ⟨fun pins s σ H Q I h => wpAny_Call_Name_kw (ld_glob I hg hm ?_ hdb)⟩
  exact PySem.W.callWith_K (h₀ := X.base) I.ok.mod.kin kp (thn (ha.run pos pins s σ H _ I h) fun us s1 ⟨vs, H1, I1, r, q⟩ => ⟨I1.kIn, run_fnG F (hr.mono hk) hgd b .nil pass0 I1 r q⟩) he hpl
end
/-- a def of the text keeps its promise, where no repr is under way -/
theorem okG {Pr : Program} {w : World} {K : PySem.W.Frag} {mg : Str → Option Value} {base : Heap} {x qual : Str} {params : Arguments} {body : List Stmt} {scope : Scope} {dvs : List V} {kws : List (Str × V)} {f C : Addr} {fd : FuncData} {M ps : List Str} {k : Nat} {S : Law}
    (F : FunD K x qual params body scope dvs kws f fd) (sc : FnScope M ps scope) (len : ∀ xs Φ, S xs Φ → xs.length = ps.length)
    (walk : ∀ (cdv : Value) (A : Around) (outer : List Env) (s : Shared) (H : Hp) (E : XK), Room k (A.deeper (envOfC qual scope s.heap.objs.size f cdv)) → (A.deeper (envOfC qual scope s.heap.objs.size f cdv)).guards = some [] →
      ∃ t, PSs (cxOf CX0 Pr w K mg base M qual scope f cdv A outer s H E).nox body t ∧ ∀ fd xs Φ, S xs Φ → Ds ⟨K, C, fd⟩ t (ρ0 M xs) (fun _ => Φ (.d .none)) Φ) :
    FnG Pr w K mg base CX0 (k + 1) f fd ps (mkSp K C S) := by
  refine fn_g F sc (fun vs H Q E h => ?_) (fun cdv A outer s H vs Q E hr hg h => ?_)
  · obtain ⟨fd', G, xs, Φ, o, r, hS, _⟩ := h
    rw [rvL_len r]; exact len xs Φ hS
  · obtain ⟨t, ht, hd⟩ := walk cdv A outer s H E hr hg
    obtain ⟨fd', G, xs, Φ, o, r, hS, q⟩ := h
    refine ⟨t, PSs.nox ht, ?_⟩
    exact hd fd' xs Φ hS G H G H _ o (.refl o) (rel0 o r M) _ (fun ρ' σ' G' H' g _ _ p => q .non G' H' (.d .none) g .non p) (fun v G' H' x g rv p => q v G' H' x g rv p)
end Z

/-! # ZG2 -/
set_option Elab.async false
set_option linter.all false
set_option maxRecDepth 100000
set_option maxHeartbeats 1000000
namespace Z
open PySem PySem.Spec PyProof.Rows L2
/-- repr(x) of data, where no repr is under way -/
def rReprD (K : PySem.W.Frag) : List V → Hp → VK → Prop := fun xs H Q => ∃ a d, xs = [V.ref a] ∧ Dp K H (.ref a) d ∧ d.showable = true ∧ d.hasDict = false ∧ d.depth ≤ 32 ∧ d.shown.length ≤ sizeLine ∧ Q (.str d.shown) H
section
variable {X : Cx} {k : Nat}
theorem call_reprD (K : PySem.W.Frag) (hr : Room k X.A) (hg : X.A.guards = some []) (eK : X.K = K := by rfl) : CallR X (.builtin "repr") (rReprD K) := by
  subst eK
  intro pins s σ H xs us Q I r q
  obtain ⟨a, d, ex, dp, h1, h2, h3, h4, q⟩ := q
  subst ex
  obtain ⟨u, eu, rx⟩ := vals1 r
  subst eu
  cases rx
  obtain ⟨as, rd⟩ := Dp.reads I d (.ref a) _ dp rfl
  have hu := hr.units
  refine repr_of_reads' rd h1 (fun z => by rw [h2] at z; exact nomatch z) hg (by omega) (fun _ _ e => e) (fun h' u tk hk => ?_) h4
  exact ⟨.str d.shown, H, I.kept hk, ⟨u, rfl⟩, q⟩
end
/-- a row that repr shows -/
structure Rp (d : PyData) : Prop where
  row : ∃ ds, d = .list ds ∨ d = .tuple ds
  sh : d.showable = true
  nd : d.hasDict = false
  dp : d.depth ≤ 32
  sz : d.shown.length ≤ sizeLine
theorem dc_repr {P : Pm} {d : PyData} {Φ : KD} (h : Rp d) (q : Φ (.d (.str d.shown))) : DC P (rReprD P.K) [.d d] Φ := by
  intro G H vs o rv Q k
  obtain ⟨v, rfl, rv1⟩ := rvL1 rv
  have rv1 : Dq G v d := rv1
  obtain ⟨a, rfl⟩ : ∃ a, v = .ref a := by
    obtain ⟨ds, rfl | rfl⟩ := h.row
    · cases rv1 with | lst => exact ⟨_, rfl⟩
    · cases rv1 with | tup => exact ⟨_, rfl⟩
  exact ⟨a, d, rfl, (dp_up o.sub rv1).dp, h.sh, h.nd, h.dp, h.sz, k _ G H (.d (.str d.shown)) (.refl o) (.str _) q⟩
end Z

/-! # ZL8 -/
set_option Elab.async false
set_option linter.all false
set_option maxRecDepth 100000
set_option maxHeartbeats 1000000
namespace Z
open PySem PySem.Spec PyProof.Rows L2 Fl
section
variable {Pr : Program} {w : World} {K : PySem.W.Frag} {mg : Str → Option Value} {base : Heap} {C : Addr} {f : Addr} {fd : FuncData}
theorem calNG {x q : Str} {params : Arguments} {body : List Stmt} {scope : Scope} {ps : List Str} {sp : Sp} {k : Nat} (F : FunD K x q params body scope [] [] f fd) (g : mg x = some (.ref f))
    (b : ∀ (kV doc pm : Value) (an : Option Addr) (cdv ct : Value) (us : List Value), us.length = ps.length → bindArgs (PySem.W.fnOf x q params body scope .none kV doc pm an cdv ct) ⟨us, []⟩ = pure (ps.zip us))
    (ok : FnG Pr w K mg base CX0 k f fd ps sp) : CalG Pr w K mg base k x sp := ⟨f, fd, ps, ok, g, F.kp, F.bindsN b⟩
def L_lsame : Law := fun xs Φ => ∃ d, xs = [.d d, .d d] ∧ Rp d ∧ Φ (.d (.bool true))
abbrev N__law_same : List Str := ["_law_told", "_law_due"]
theorem sc__law_same : FnScope N__law_same ["_law_told", "_law_due"] (defScope (top 72)) := ⟨rfl, rfl, rfl, by decide +kernel, rfl, by decide +kernel, by decide +kernel⟩
theorem c__law_same (T : Tx K mg C) (F : FnP K "_law_same" (top 72) [] f fd) (g : mg "_law_same" = some (.ref f)) : CalG Pr w K mg base 1 "_law_same" (mkSp K C L_lsame) := by
  have sc := sc__law_same
  refine calNG F g (fun _ _ _ _ _ _ us hl => match us, hl with | [_, _], _ => rfl) (okG F sc (fun xs Φ h => by obtain ⟨a, rfl, _⟩ := h; rfl) (fun cdv A outer s H E hr hg => ?_))
  refine ⟨_, (pss_one (ps_ret (pe_cmpR (op_eqK K hr) (pe_callB (call_reprD K hr hg) (by rfl) T.m_repr (by decide +kernel) (pa_cons (pv 0) pa_nil)) (pe_callB (call_reprD K hr hg) (by rfl) T.m_repr (by decide +kernel) (pa_cons (pv 1) pa_nil)) (nomark _)))), fun fd' xs Φ h => ?_⟩
  obtain ⟨d, rfl, hd, q⟩ := h
  refine ds_ret (de_ss (de_cb (da_cons (de_var rfl (da_nil (dc_repr hd (de_cb (da_cons (de_var rfl (da_nil (dc_repr hd ⟨_, _, rfl, rfl, ?_⟩)))))))))))
  rw [decide_eq_true rfl]; exact q
/-! ### _law_any -/
def L_ldraw : Law := fun xs Φ => ∃ n : Nat, xs = [.fd, .d (.int n)] ∧ 1 ≤ n ∧ n ≤ 1000 ∧ ∀ k : Nat, k < n → Φ (.d (.int k))
def L_lany : Law := fun xs Φ => ∃ y ds, xs = [.fd, .d y] ∧ Row y ds ∧ 1 ≤ ds.length ∧ ds.length ≤ 1000 ∧ ∀ d ∈ ds, Φ (.d d)
abbrev N__law_any : List Str := ["_law_feed_here", "_law_some"]
theorem sc__law_any : FnScope N__law_any ["_law_feed_here", "_law_some"] (defScope (top 71)) := ⟨rfl, rfl, rfl, by decide +kernel, rfl, by decide +kernel, by decide +kernel⟩
theorem c__law_any (T : Tx K mg C) (c__law_draw : C8.Cal Pr w K mg base 1 "_law_draw" (mkSp K C L_ldraw) []) (F : FnP K "_law_any" (top 71) [] f fd) (g : mg "_law_any" = some (.ref f)) : C8.Cal Pr w K mg base 2 "_law_any" (mkSp K C L_lany) [] := by
  have sc := sc__law_any
  refine calN F g (fun _ _ _ _ _ _ us hl => match us, hl with | [_, _], _ => rfl) (okD F sc (fun xs Φ h => by obtain ⟨a, b, rfl, _⟩ := h; rfl) (fun cdv A outer s H E hr => ?_))
  refine ⟨_, (pss_one (ps_ret (pe_ix (ix_seqK K) (pv 1) (C8.pe_c c__law_draw hr (by decide) (by rfl) (pa_cons (pv 0) (pa_cons (pe_callB (call_lenK K) (by rfl) T.m_len boot_len (pa_cons (pv 1) pa_nil)) pa_nil))) (fun _ _ => rfl)))), fun fd' xs Φ h => ?_⟩
  obtain ⟨y, ds, rfl, hy, h1, h2, q⟩ := h
  refine ds_ret (de_ix (de_var rfl (de_call0 (da_cons (de_var rfl (da_cons (de_cb (da_cons (de_var rfl (da_nil (dc_len hy (da_nil ⟨ds.length, rfl, h1, h2, fun k hk => ⟨y, ds, (k : Int), ds[k], rfl, rfl, hy, atI_nat (List.getElem?_eq_getElem hk), q _ (List.getElem_mem hk)⟩⟩))))))))))))
end
end Z

/-! # ZO2 -/
set_option Elab.async false
set_option linter.all false
set_option maxRecDepth 100000
set_option maxHeartbeats 1000000
namespace Z
open PySem PySem.Spec PyProof.Rows L2 Fl
section
variable {Pr : Program} {w : World} {K : PySem.W.Frag} {mg : Str → Option Value} {base : Heap} {C : Addr} {f : Addr} {fd : FuncData} {ps : List Str} {k : Nat} {sp : Sp}
theorem fnR_of (F : FnOk Pr w K mg base CX0 k f fd ps sp) (b : L2.Binds K fd ps []) : FnR Pr w K mg base CX0 k f sp := by
  intro A outer s H us vs Q E hr e0 r hsp
  have KX := e0.mod.kin.keeps fun b o e => (e0.bs b o e).1
  have hb := b s us KX (by rw [List.append_nil, ← r.length]; exact F.len _ _ _ _ hsp)
  rw [List.append_nil] at hb
  exact F.run A outer s H ⟨us, []⟩ us vs Q E hr e0 hb r hsp
theorem own_of {m : Str} (M : OwnM K C m f) (F : FnOk Pr w K mg base CX0 k f fd ps sp) (b : L2.Binds K fd ps []) : Own Pr w K mg base k C m sp := ⟨f, M, fnR_of F b⟩
theorem ownC_of (M : StX.CallO K C f) (F : FnOk Pr w K mg base CX0 k f fd ps sp) (b : L2.Binds K fd ps []) : OwnC Pr w K mg base k C sp := ⟨f, M, fnR_of F b⟩
end
end Z

/-! # ZM3 -/
set_option Elab.async false
set_option linter.all false
set_option maxRecDepth 100000
set_option maxHeartbeats 1000000
namespace Z
open PySem PySem.Spec PyProof.Rows L2 Fl
section
variable {hs : List Str} {ws : List (Str × Str)} {s : Str}
theorem gn_sub {ws' : List (Str × Str)} (gn : GN hs ws) (h : ws'.Sublist ws) : GN hs ws' :=
  ⟨gn.nm, gn.lh, gn.h0, gn.inc, Nat.le_trans h.length_le gn.lw, fun e he => gn.wi e (h.subset he), gn.so.sublist h⟩
theorem ho_inj {l m : List Str} (h : hoD l = hoD m) : l = m := (List.map_inj_right (fun _ _ z => PyData.str.inj z)).mp (PyData.tuple.inj h)
/-- what is no lot -/
def NoLot (hs : List Str) (s : Str) (x : PyData) : Prop := ∀ l, x = hoD l → ¬ LotOf hs s l
theorem no_town (sm : s ∈ hs) : NoLot hs s (hoD hs) := fun l e L => by
  cases ho_inj e; exact (L.sub s sm).2 rfl
theorem no_seat : NoLot hs s (hoD [s]) := fun l e L => by
  cases ho_inj e; exact (L.sub s List.mem_cons_self).2 rfl
theorem no_nil : NoLot hs s (.tuple []) := fun l e L => by
  have : hoD [] = hoD l := e
  cases ho_inj this; exact L.ne rfl
theorem no_rev {l : List Str} (io : l.Pairwise SLt) (h : 1 < l.length) : NoLot hs s (hoD l.reverse) := fun m e L => by
  cases ho_inj e
  have h2 := List.pairwise_reverse.mp L.inc
  match l, h with
  | a :: b :: r, _ =>
    have h1 := (List.pairwise_cons.mp io).1 b List.mem_cons_self
    have h3 := (List.pairwise_cons.mp h2).1 b List.mem_cons_self
    exact sLt_irr a (sLt_tr h1 h3)
theorem no_zed {l : List Str} {z : Str} (hz : z ∉ hs) : NoLot hs s (hoD (l ++ [z])) := fun m e L => by
  cases ho_inj e
  exact hz (L.sub z (by simp)).1
theorem no_twice {l : List Str} {z : Str} (hz : z ∈ l) : NoLot hs s (hoD (l ++ [z])) := fun m e L => by
  cases ho_inj e
  exact sLt_irr z ((List.pairwise_append.mp L.inc).2.2 z hz z (by simp))
theorem no_mem {ds : List PyData} {d : PyData} (hd : d ∈ ds) (h : ∀ z, d ≠ .str z) : NoLot hs s (.tuple ds) := fun m e L => by
  have e := PyData.tuple.inj e
  rw [e] at hd
  obtain ⟨z, _, ez⟩ := List.mem_map.mp hd
  exact h z ez.symm
theorem no_lotB {x : PyData} (h : NoLot hs s x) : lotB hs s x = false := by
  cases e : lotB hs s x with
  | false => rfl
  | true =>
    obtain ⟨l, el, L⟩ := lot_of e
    exact absurd L (h l el)
end
end Z

/-! # ZRev -/
set_option Elab.async false
set_option linter.all false
set_option maxRecDepth 100000
set_option maxHeartbeats 1000000
namespace Z
open PySem PySem.Spec PyProof.Rows L2
section
variable {prog : Program} {w : World} {A : Around} {E : Value → Shared → Prop} {s : Shared}
theorem fm_congr {f g : Nat → Option Value} : ∀ l : List Nat, (∀ m ∈ l, f m = g m) → l.filterMap f = l.filterMap g
  | [], _ => rfl
  | a :: r, h => by rw [List.filterMap_cons, List.filterMap_cons, h a List.mem_cons_self, fm_congr r fun m hm => h m (List.mem_cons_of_mem _ hm)]
theorem pick_rev (xs : List Value) : ((List.range xs.length).filterMap fun (m : Nat) => xs.toArray[((xs.length : Int) - 1 + (m : Int) * (-1)).toNat]?).toArray = xs.reverse.toArray := by
  have h := HT.pick_gen xs.reverse.toArray 0 xs.length
  have e : ((xs.reverse.toArray.toList.drop 0).take xs.length).toArray = xs.reverse.toArray := by
    rw [List.drop_zero, List.take_of_length_le (by simp)]
  rw [e] at h
  rw [← h]
  refine congrArg List.toArray (fm_congr _ fun m hm => ?_)
  have hm := List.mem_range.mp hm
  have e1 : ((xs.length : Int) - 1 + (m : Int) * (-1)).toNat = xs.length - 1 - m := by omega
  have e2 : (((0 : Nat) : Int) + (m : Int) * 1).toNat = m := by omega
  rw [e1, e2]
  simp [List.getElem?_reverse hm]
theorem applied_rev {sl : Addr} {vl vu vs : Value} {n : Nat} {Q : Int × Int × Nat → Shared → Prop} (hs : s.heap.IsSliceOf sl vl vu vs) (pl : IsPart vl none) (pu : IsPart vu none) (ps : IsPart vs (some (-1)))
    (h : Q ((n : Int) - 1, -1, n) s) : wpAny (model prog w) A (Builtin.Slice.sliceApplied (.ref sl) (pure (n : Int))) Q E s := by
  obtain ⟨os, hos, hcs, hds⟩ := id hs
  unfold Builtin.Slice.sliceApplied Builtin.Slice.sliceFields
  refine wpAny_bind (wpAny_bind (wpAny_field hos hds (x := vl) rfl (wpAny_bind (wpAny_field hos hds (x := vu) rfl (wpAny_bind (wpAny_field hos hds (x := vs) rfl (wpAny_pure ?_)))))))
  refine wpAny_bind (HT.slicePart_ ps ?_)
  show wpAny _ _ (if ((-1 : Int) == 0) = true then _ else _) _ _ s
  rw [if_neg (by decide)]
  refine wpAny_bind (HT.slicePart_ pl (wpAny_bind (HT.slicePart_ pu (wpAny_bind (wpAny_pure ?_)))))
  show wpAny _ _ (match Builtin.Slice.sliceAdjust none none (-1) (n : Int) with | (lo, hi) => pure (lo, (-1 : Int), Builtin.Slice.slicePlaces lo hi (-1))) _ _ s
  have e1 : Builtin.Slice.sliceAdjust none none (-1) (n : Int) = ((n : Int) - 1, -1) := rfl
  have e2 : Builtin.Slice.slicePlaces ((n : Int) - 1) (-1) (-1) = n := by
    unfold Builtin.Slice.slicePlaces
    have h1 : ¬ ((-1 : Int) > 0) := by omega
    simp only [h1, if_false, Int.neg_neg, Int.ediv_one]
    split <;> omega
  rw [e1]
  show wpAny _ _ (pure ((n : Int) - 1, (-1 : Int), Builtin.Slice.slicePlaces ((n : Int) - 1) (-1) (-1))) _ _ s
  rw [e2]
  exact wpAny_pure h
theorem getItem_tuple_rev {t sl : Addr} {xs : List Value} {vl vu vs : Value} {Q : Value → Shared → Prop} (ht : IsTup s.heap t xs.toArray) (hs : s.heap.IsSliceOf sl vl vu vs) (pl : IsPart vl none) (pu : IsPart vu none) (ps : IsPart vs (some (-1)))
    (h : Q (.ref s.heap.objs.size) { s with heap := s.heap.push { cls := .type "tuple", data := .seq xs.reverse.toArray } })
    (hsz : xs.length ≤ sizeLine) : wpAny (model prog w) A (getItem (.ref t) (.ref sl)) Q E s := by
  have htake : sizeOk (.seq xs.reverse.toArray) := by
    show xs.reverse.toArray.size ≤ sizeLine
    rw [List.size_toArray, List.length_reverse]; exact hsz
  obtain ⟨os, hos, hcs, hds⟩ := id hs
  have hTs : s.TypeIs (.ref sl) "slice" := ⟨os, hos, hcs⟩
  unfold getItem
  try with_reducible refine wpAny_holding ?_
  first | refine wpAny_bind (wpAny_pure ?_) | skip
  refine wpAny_bind (wpAny_sequenceKey ht.typeIs (by decide) ?_)
  refine wpAny_bind (wpAny_callSpecial?_slot (name := Str.ofString "__getitem__") ht.typeIs PyProof.Rows.slot_tuple_getitem
    (wpAny_call_entry PyProof.Rows.slot_tuple_getitem ht.typeIs entry_tuple_getitem ?_ (args_tuple_getitem _ _)))
  show wpAny _ _ (Builtin.Tuple.tupleItemsOf (.ref t) >>= _) _ _ s
  refine wpAny_bind (tupleItemsOf_ ht ?_)
  refine wpAny_bind (wpAny_typeOf hTs ?_)
  rw [if_pos (by decide)]
  rw [List.size_toArray]
  refine wpAny_bind (applied_rev hs pl pu ps ?_)
  have hno : ¬ (((xs.length : Int) - 1 == 0 && (-1 : Int) == 1 && xs.length == xs.length) = true) := by simp
  show wpAny _ _ (if ((xs.length : Int) - 1 == 0 && (-1 : Int) == 1 && xs.length == xs.toArray.size) = true then _ else _) _ _ s
  rw [List.size_toArray, if_neg hno, pick_rev]
  first
    | exact wpAny_bind (m := Builtin.Tuple.tupleExact _) (wpAny_newObj_type (wpAny_pure ⟨_, rfl, wpAny_pure h⟩) htake)
    | exact wpAny_bind (m := Builtin.Tuple.tupleExact _) (wpAny_newObj_type (wpAny_bind (wpAny_pure (wpAny_pure ⟨_, rfl, wpAny_pure h⟩))) htake)
    | exact wpAny_bind (wpAny_bind (m := Builtin.Tuple.tupleExact _) (wpAny_newObj_type (wpAny_pure (wpAny_pure ⟨_, rfl, wpAny_pure h⟩)) htake))
    | exact wpAny_bind (wpAny_bind (m := Builtin.Tuple.tupleExact _) (wpAny_newObj_type (wpAny_pure ⟨_, rfl, wpAny_pure h⟩) htake))
end
def tRevT (K : PySem.W.Frag) (te : TE) : TE := fun σ H Q => te σ H fun x H1 => ∃ a xs, x = .ref a ∧ SqT K H1 a xs ∧ ∀ p, H1 p = none → Q (.ref p) (upd H1 p (.tup xs.reverse))
theorem pe_revT {X : Cx} {e : Expr} {te : TE} {k : Nat} {p1 p2 p3 pos : Pos} (he : PE X e te) : PE X (.Subscript e (.Slice none none (some (.UnaryOp .USub (.Constant (.int 1) k p1) p2)) p3) pos) (tRevT X.K te) := by
  refine ⟨fun pins s σ H Q I h => ?_⟩
  refine Subscript_ (thn (he.run pins s σ H _ I h) fun v s1 ⟨x, H1, I1, r1, q1⟩ => ?_)
  obtain ⟨a, xs, ex, hx, q⟩ := q1
  subst ex
  cases r1
  have hst : PO X (some (.UnaryOp .USub (.Constant (.int 1) k p1) p2)) (tPart (tUn (rU fun i => .int (-i)) (tC (.int 1)))) := po_some (pe_un un_neg pe_int)
  refine wpAny_Slice (thn (po_none.run pins s1 σ H1 (fun o H2 => o = none ∧ H2 = H1) I1 ⟨rfl, rfl⟩) fun vl s2 ⟨l, H2, I2, pl, el, e2⟩ => ?_)
  subst el e2
  refine thn (po_none.run pins s2 σ H2 (fun o H3 => o = none ∧ H3 = H2) I2 ⟨rfl, rfl⟩) fun vu s3 ⟨u, H3, I3, pu, eu, e3⟩ => ?_
  subst eu e3
  refine thn (hst.run pins s3 σ H3 (fun o H4 => o = some (-1) ∧ H4 = H3) I3 ⟨1, rfl, -1, rfl, rfl, rfl⟩) fun vs s4 ⟨o, H4, I4, ps, eo, e4⟩ => ?_
  subst eo e4
  have I5 : Inv X pins σ H4 { s4 with heap := s4.heap.push { cls := .type "slice", data := .fields #[vl, vu, vs] } } := I4.kept (t' := s4.toks) fun b ob q => Heap.get?_push_of_some _ q
  obtain ⟨its, r, ht, hz⟩ := I5.tuple hx
  have hlen := r.length
  show wpAny (model X.prog X.w) X.A (subscriptTail e (.Slice none none (some (.UnaryOp .USub (.Constant (.int 1) k p1) p2)) p3) (.ref a) (.ref s4.heap.objs.size)) (EP X pins σ Q) X.xe { s4 with heap := s4.heap.push { cls := .type "slice", data := .fields #[vl, vu, vs] } }
  refine tail_any (ops := [.ref a, .ref s4.heap.objs.size]) ht.typeIs (PyProof.Rows.slot_tuple_getitem.lookup) ?_ (by with_unfolding_all rfl)
  refine getItem_tuple_rev ht (Heap.IsSliceOf.new _ vl vu vs) pl pu ps ?_ (by omega)
  refine ⟨.ref _, _, I5.laid (t' := s4.toks) (o := .tup xs.reverse) (fun b ob q => Heap.get?_push_of_some _ q) (Nat.le_refl _) ?_, rfl, q _ (I5.hok.fresh (Nat.le_refl _))⟩
  exact ⟨by rw [List.length_reverse]; exact hz, its.reverse, r.reverse, IsTup.new _ _⟩
theorem dpA_rev {G : Hp} : ∀ {vs : List V} {ds : List PyData}, DqA G vs ds → DqA G vs.reverse ds.reverse
  | _, _, .nil => .nil
  | _, _, .cons h t => by
    rw [List.reverse_cons, List.reverse_cons]
    exact dpA_app (dpA_rev t) (.cons h .nil)
theorem de_revT {P : Pm} {ρ : List En} {te : TE} {Φ : KD} (h : De P te ρ fun x => ∃ ds, x = .d (.tuple ds) ∧ Φ (.d (.tuple ds.reverse))) : De P (tRevT P.K te) ρ Φ := by
  intro H0 G H σ o rl Q k
  refine h H0 G H σ o rl _ fun v G1 H1 x g1 rv ⟨ds, e, q⟩ => ?_
  subst e
  have rv : Dq G1 v (.tuple ds) := rv
  cases rv with
  | @tup a vs _ ha hd =>
    refine ⟨a, vs, rfl, .inl (.inl (g1.ok.sub _ _ ha)), fun p hp => ?_⟩
    have g2 := g1.ok.new (o := .tup vs.reverse) hp
    exact k _ _ _ (.d (.tuple ds.reverse)) (g1.trans g2) (.tup upd_same (dpA_rev (dpA_up (g2.same g1.ok) hd))) q
end Z

/-! # ZD1 -/
set_option Elab.async false
set_option linter.all false
set_option maxRecDepth 100000
set_option maxHeartbeats 1000000
/-! The draws' record: read, written; a draw. -/
namespace Z
open PySem PySem.Spec PyProof.Rows L2 Fl
section
variable {P : Pm} {ρ : List En} {N : List En → Prop} {R : KD}
def feedK (c : Addr) (s o t : Int) : List (Key × V) := [(.inr "cells", .ref c), (.inr "spot", .int s), (.inr "over", .int o), (.inr "turn", .int t)]
theorem put_turn {c : Addr} {s o t j : Int} : putK (feedK c s o t) (.inr "turn") (.int j) = feedK c s o j := by rfl
theorem put_over {c : Addr} {s o t j : Int} : putK (feedK c s o t) (.inr "over") (.int j) = feedK c s j t := by rfl
theorem put_spot {c : Addr} {s o t j : Int} : putK (feedK c s o t) (.inr "spot") (.int j) = feedK c j o t := by rfl
theorem Ok.fput {G H : Hp} (k : Ok P G H) {a c : Addr} {ns : List Int} {s o t : Int} (hf : P.fd = some (a, c, ns)) (s0 : 0 ≤ s) (t0 : 0 ≤ t) : Grow P G H G (upd H a (feedO c s o t)) := by
  obtain ⟨⟨s', o', t', _, ha⟩, hc⟩ := k.feed a c ns hf
  have fa : isF P a := ⟨c, ns, hf⟩
  have ca : c ≠ a := fun e => by rw [e, ha] at hc; exact nomatch hc
  refine ⟨fun b u e nf => ?_, fun b _ => .inl rfl, ⟨fun b u e => ?_, fun a' c' ns' e => ?_, k.nf⟩⟩
  · rw [upd_ne (show b ≠ a from fun z => nf (z ▸ fa))]; exact e
  · rw [upd_ne (show b ≠ a from fun z => by rw [z, k.nf a fa] at e; exact nomatch e)]; exact k.sub b u e
  · rw [hf] at e
    cases e
    exact ⟨⟨s, o, t, ⟨s0, t0⟩, upd_same⟩, by rw [upd_ne ca]; exact hc⟩
theorem fd_at {G H : Hp} (o : Ok P G H) {v : V} (h : Rv P G v .fd) : ∃ a c ns, v = .ref a ∧ P.fd = some (a, c, ns) ∧ (∃ s ov t, (0 ≤ s ∧ 0 ≤ t) ∧ H a = some (.dK (feedK c s ov t))) ∧ H c = some (.lst (ns.map V.int)) := by
  obtain ⟨a, rfl, c, ns, hf⟩ := h
  obtain ⟨q1, q2⟩ := o.feed a c ns hf
  exact ⟨a, c, ns, rfl, hf, q1, q2⟩
theorem de_fturn {i : Nat} {Φ : KD} (h : ρ[i]? = some (.fz .fd)) (q : ∀ t : Int, 0 ≤ t → Φ (.d (.int t))) : De P (tDGet (tVar i) (tC (.str "turn"))) ρ Φ := by
  intro H0 G H σ o r Q k
  obtain ⟨s, hs, v, rfl, rv⟩ := r.at_ i _ h
  obtain ⟨a, c, ns, rfl, hf, ⟨s, ov, t, ⟨s0, t0⟩, ha⟩, hc⟩ := fd_at o rv
  exact ⟨.ref a, hs, a, .int t, rfl, .inl ⟨_, .inr "turn", .inl ha, rfl, rfl⟩, k _ G H (.d (.int t)) (.refl o) (Dq.int t) (q t t0)⟩
theorem de_fover {i : Nat} {Φ : KD} (h : ρ[i]? = some (.fz .fd)) (q : ∀ t : Int, Φ (.d (.int t))) : De P (tDGet (tVar i) (tC (.str "over"))) ρ Φ := by
  intro H0 G H σ o r Q k
  obtain ⟨s, hs, v, rfl, rv⟩ := r.at_ i _ h
  obtain ⟨a, c, ns, rfl, hf, ⟨s, ov, t, ⟨s0, t0⟩, ha⟩, hc⟩ := fd_at o rv
  exact ⟨.ref a, hs, a, .int ov, rfl, .inl ⟨_, .inr "over", .inl ha, rfl, rfl⟩, k _ G H (.d (.int ov)) (.refl o) (Dq.int ov) (q ov)⟩
theorem ds_fput {i : Nat} {key : Str} {te : TE} (hi : ρ[i]? = some (.fz .fd))
    (hp : ∀ c s o t, (0 : Int) ≤ s → (0 : Int) ≤ t → ∀ j : Int, (key = "over" ∨ 0 ≤ j) → ∃ s' o' t', (0 : Int) ≤ s' ∧ (0 : Int) ≤ t' ∧ putK (feedK c s o t) (.inr key) (.int j) = feedK c s' o' t')
    (h : De P te ρ fun z => ∃ j : Int, z = .d (.int j) ∧ (key = "over" ∨ 0 ≤ j) ∧ N ρ) : Ds P (sDPut (tVar i) (tC (.str key)) te) ρ N R := by
  intro G0 H0 G H σ o g r D n q
  refine h H0 G H σ g.ok r _ fun v G1 H1 z g1 rv ⟨j, e, j0, hN⟩ => ?_
  subst e
  cases rv
  have r1 := r.up g.ok g1
  obtain ⟨s, hs, v, rfl, rv⟩ := r1.at_ i _ hi
  obtain ⟨a, c, ns, rfl, hf, ⟨s, ov, t, ⟨s0, t0⟩, ha⟩, hc⟩ := fd_at g1.ok rv
  obtain ⟨s', ov', t', s0', t0', e⟩ := hp c s ov t s0 t0 j j0
  have g2 := g1.ok.fput (s := s') (o := ov') (t := t') hf s0' t0'
  refine ⟨.ref a, hs, a, _, rfl, .inl ⟨_, .inr key, ha, rfl, szn rfl, rfl⟩, ?_⟩
  rw [e]
  exact n ρ σ G1 _ ((g.trans g1).trans g2) (g1.same g.ok) (r1.up g1.ok g2) hN
theorem ds_fturn {i : Nat} {te : TE} (hi : ρ[i]? = some (.fz .fd)) (h : De P te ρ fun z => ∃ j : Int, z = .d (.int j) ∧ 0 ≤ j ∧ N ρ) : Ds P (sDPut (tVar i) (tC (.str "turn")) te) ρ N R :=
  ds_fput hi (fun c s o t s0 t0 j hj => ⟨s, o, j, s0, hj.resolve_left (by decide), put_turn⟩) (h.mono fun x ⟨j, e, j0, n⟩ => ⟨j, e, .inr j0, n⟩)
theorem ds_fspot {i : Nat} {te : TE} (hi : ρ[i]? = some (.fz .fd)) (h : De P te ρ fun z => ∃ j : Int, z = .d (.int j) ∧ 0 ≤ j ∧ N ρ) : Ds P (sDPut (tVar i) (tC (.str "spot")) te) ρ N R :=
  ds_fput hi (fun c s o t s0 t0 j hj => ⟨j, o, t, hj.resolve_left (by decide), t0, put_spot⟩) (h.mono fun x ⟨j, e, j0, n⟩ => ⟨j, e, .inr j0, n⟩)
theorem ds_fover {i : Nat} {te : TE} (hi : ρ[i]? = some (.fz .fd)) (h : De P te ρ fun z => ∃ j : Int, z = .d (.int j) ∧ N ρ) : Ds P (sDPut (tVar i) (tC (.str "over")) te) ρ N R :=
  ds_fput hi (fun c s o t s0 t0 j hj => ⟨s, j, t, s0, t0, put_over⟩) (h.mono fun x ⟨j, e, n⟩ => ⟨j, e, .inl rfl, n⟩)
/-! all that stands but the record is seen -/
noncomputable def seeAll (P : Pm) (H : Hp) : Hp := open Classical in fun b => if isF P b then none else H b
theorem see_at {H : Hp} {b : Addr} (f : ¬ isF P b) : seeAll P H b = H b := if_neg f
theorem see_fd {H : Hp} {b : Addr} (f : isF P b) : seeAll P H b = none := if_pos f
theorem see_ok {G H : Hp} (o : Ok P G H) : Ok P (seeAll P H) H := ⟨fun b u e => by
    by_cases f : isF P b
    · rw [see_fd f] at e; exact nomatch e
    · rw [see_at f] at e; exact e, o.feed, fun a f => see_fd f⟩
theorem see_grow {G H G' H' : Hp} (o : Ok P G H) (g : Grow P (seeAll P H) H G' H') : Grow P G H G H' := ⟨g.kp, fun b h => .inl rfl, ⟨fun b u e => by
    have nf : ¬ isF P b := fun f => by rw [o.nf b f] at e; exact nomatch e
    exact g.kp b u (o.sub b u e) nf, g.ok.feed, o.nf⟩⟩
theorem see_rel {H0 G H : Hp} {σ : L2.St} (o : Ok P G H) (r : Rel P H0 G H ρ σ) : Rel P H (seeAll P H) H (frzA ρ) σ := by
  have s1 : Same G (seeAll P H) := fun b u e => by
    have nf : ¬ isF P b := fun f => by rw [o.nf b f] at e; exact nomatch e
    rw [see_at nf]; exact o.sub b u e
  refine ⟨by rw [frzA, List.length_map, r.len], fun i e h => ?_, fun b h => h, fun a f => by obtain ⟨c, s, u, t, e⟩ := o.fsome f; rw [e]; exact fun z => nomatch z⟩
  rw [frzA, List.getElem?_map] at h
  cases e0 : ρ[i]? with
  | none => rw [e0] at h; exact nomatch h
  | some e1 =>
    rw [e0] at h
    simp only [Option.map_some, Option.some.injEq] at h
    subst h
    obtain ⟨s, h1, h2⟩ := r.at_ i e1 e0
    refine ⟨s, h1, ?_⟩
    cases e1 with
    | un => exact True.intro
    | fz x => obtain ⟨v, e, h⟩ := h2; exact ⟨v, e, rv_up s1 h⟩
    | ol ds =>
      obtain ⟨p, vs, e, h0, _, h, hd⟩ := h2
      exact ⟨.ref p, e, .lst ((see_at (fun f => r.nof p f h0)).trans h) (dpA_up s1 hd)⟩
    | od kvs =>
      obtain ⟨p, vs, e, h0, _, h, hd⟩ := h2
      exact ⟨.ref p, e, p, vs, rfl, (see_at (fun f => r.nof p f h0)).trans h, kvA_up s1 hd⟩
theorem ds_cells {k i j : Nat} {u : TS} (hk : ρ[k]? = some (.fz .fd)) (h : ∀ (ns : List Int) (s : Int), 0 ≤ s → Ds P u (((frzA ρ).set i (.fz (.d (.list (ns.map .int))))).set j (.fz (.d (.int s)))) (fun _ => False) (fun x => Flat x ∧ R x)) :
    Ds P (tSeq (tPar i j (tCons (tDGet (tVar k) (tC (.str "cells"))) (tCons (tDGet (tVar k) (tC (.str "spot"))) tNil))) u) ρ N R := by
  intro G0 H0 G H σ o g r D n q
  obtain ⟨s, hs, v, rfl, rv⟩ := r.at_ k _ hk
  obtain ⟨a, c, ns, rfl, hf, ⟨s, ov, t, ⟨s0, t0⟩, ha⟩, hc⟩ := fd_at g.ok rv
  have nc : ¬ isF P c := fun ⟨c', ns', e⟩ => by
    rw [hf] at e; cases e
    rw [ha] at hc; exact nomatch hc
  have r1 := see_rel g.ok r
  have r2 := (r1.set i (e := .fz (.d (.list (ns.map .int)))) (s := some (.ref c)) ⟨_, rfl, Dq.lst ((see_at nc).trans hc) in_dpA⟩).set j (e := .fz (.d (.int s))) (s := some (.int s)) ⟨_, rfl, Dq.int s⟩
  refine ⟨.ref a, hs, a, .ref c, rfl, .inl ⟨_, .inr "cells", .inl ha, rfl, rfl⟩, .ref a, hs, a, .int s, rfl, .inl ⟨_, .inr "spot", .inl ha, rfl, rfl⟩, _, _, rfl, ?_⟩
  refine h ns s s0 (seeAll P H) H (seeAll P H) H _ (see_ok g.ok) (.refl (see_ok g.ok)) r2 D (fun _ _ _ _ _ _ _ z => z.elim) fun v G' H' x g' rv ⟨f, p⟩ => ?_
  exact q v G H' x (g.trans (see_grow g.ok g')) (flat_any f rv) p
end
section
variable {Pr : Program} {w : World} {K : PySem.W.Frag} {mg : Str → Option Value} {base : Heap} {C : Addr} {f : Addr} {fd : FuncData}
theorem fm_nat (i : Int) {n : Nat} (h : 1 ≤ n) : ∃ k : Nat, i.fmod (n : Int) = k ∧ k < n := by
  rw [Int.fmod_eq_emod_of_nonneg i (by omega)]
  have h1 := Int.emod_nonneg i (show (n : Int) ≠ 0 by omega)
  have h2 := Int.emod_lt_of_pos i (show (0 : Int) < n by omega)
  exact ⟨(i % (n : Int)).toNat, by omega, by omega⟩
theorem fm_lt (i : Int) {m : Int} (h : 0 < m) : 0 ≤ i.fmod m ∧ i.fmod m < m := by
  rw [Int.fmod_eq_emod_of_nonneg i (by omega)]
  exact ⟨Int.emod_nonneg i (by omega), Int.emod_lt_of_pos i h⟩
abbrev N__law_draw : List Str := ["_law_feed_here", "_law_many_here", "_law_digit", "_law_cells", "_law_spot", "_law_cell", "_law_mixed"]
theorem sc__law_draw : FnScope N__law_draw ["_law_feed_here", "_law_many_here"] (defScope (top 70)) := ⟨rfl, rfl, rfl, by decide +kernel, rfl, by decide +kernel, by decide +kernel⟩
theorem c__law_draw (T : Tx K mg C) (F : FnP K "_law_draw" (top 70) [] f fd) (g : mg "_law_draw" = some (.ref f)) : C8.Cal Pr w K mg base 1 "_law_draw" (mkSp K C L_ldraw) [] := by
  have sc := sc__law_draw
  refine calN F g (fun _ _ _ _ _ _ us hl => match us, hl with | [_, _], _ => rfl) (okD F sc (fun xs Φ h => by obtain ⟨a, rfl, _⟩ := h; rfl) (fun cdv A outer s H E hr => ?_))
  refine ⟨_, (pss_cons (ps_dput (hu_of hr) (pv 0) pe_str (pe_op (op_addK K) (pe_dget (hu_of hr) (pv 0) pe_str (fun _ _ => rfl)) pe_int) rfl)
      (pss_cons (ps_if (pt_cmpR op_gtA (pe_dget (hu_of hr) (pv 0) pe_str (fun _ _ => rfl)) pe_int (nomark _)) (pss_cons (ps_set (i := 2) sc.nd rfl (.inl rfl) (pe_op op_modN (pe_callTy call_int1 (by rfl) T.m_int boot_int (pa_cons (pe_dget (hu_of hr) (pv 0) pe_str (fun _ _ => rfl)) pa_nil)) (pv 1)))
      (pss_cons (ps_dput (hu_of hr) (pv 0) pe_str (pe_op op_fdivN (pe_dget (hu_of hr) (pv 0) pe_str (fun _ _ => rfl)) (pv 1)) rfl)
      (pss_one (ps_ret (pv 2))))) pss_nil)
      (pss_cons (ps_par (i := 3) (j := 4) rfl sc.nd rfl rfl (by decide) rfl rfl (pa_cons (pe_dget (hu_of hr) (pv 0) pe_str (fun _ _ => rfl)) (pa_cons (pe_dget (hu_of hr) (pv 0) pe_str (fun _ _ => rfl)) pa_nil)) (by rfl))
      (pss_cons (ps_dput (hu_of hr) (pv 0) pe_str (pe_op (op_addK K) (pv 4) pe_int) rfl)
      (pss_cons (ps_set (i := 5) sc.nd rfl (.inl rfl) (pe_ifExp (pt_cmpR (op_neK K hr) (pv 3) (pe_lst pa_nil) (nomark _)) (pe_ix (ix_seqK K) (pv 3) (pe_op op_modN (pe_callTy call_int1 (by rfl) T.m_int boot_int (pa_cons (pv 4) pa_nil)) (pe_callB (call_lenK K) (by rfl) T.m_len boot_len (pa_cons (pv 3) pa_nil))) (fun _ _ => rfl)) pe_int))
      (pss_cons (ps_if (PW.pt (pw_and (pt_cmpR (op_geK K hr) (pv 5) (pe_op op_pow pe_int pe_int) (nomark _)) (pw_and1 (pt_cmpR op_ltA (pv 4) (pe_callB (call_lenK K) (by rfl) T.m_len boot_len (pa_cons (pv 3) pa_nil)) (nomark _))))) (pss_cons (ps_dput (hu_of hr) (pv 0) pe_str (pe_op op_fdivN (pv 5) (pv 1)) rfl)
      (pss_one (ps_ret (pe_op op_modN (pe_callTy call_int1 (by rfl) T.m_int boot_int (pa_cons (pv 5) pa_nil)) (pv 1))))) pss_nil)
      (pss_cons (ps_set (i := 6) sc.nd rfl (.inl rfl) (pe_op op_modN (pe_callTy call_int1 (by rfl) T.m_int boot_int (pa_cons (pe_op (op_addK K) (pe_op (op_addK K) (pe_op op_modN (pe_callTy call_int1 (by rfl) T.m_int boot_int (pa_cons (pv 5) pa_nil)) pe_int) (pe_op op_mul pe_int (pe_dget (hu_of hr) (pv 0) pe_str (fun _ _ => rfl)))) pe_int) pa_nil)) pe_int))
      (pss_cons (ps_set (i := 6) sc.nd rfl (.inl rfl) (pe_op op_modN (pe_callTy call_int1 (by rfl) T.m_int boot_int (pa_cons (pe_op (op_addK K) (pe_op (op_addK K) (pe_op op_mul (pv 6) (pv 6)) (pe_op op_mul pe_int (pe_dget (hu_of hr) (pv 0) pe_str (fun _ _ => rfl)))) pe_int) pa_nil)) pe_int))
      (pss_one (ps_ret (pe_op op_modN (pe_callTy call_int1 (by rfl) T.m_int boot_int (pa_cons (pe_op op_fdivN (pe_op op_modN (pe_callTy call_int1 (by rfl) T.m_int boot_int (pa_cons (pe_op (op_addK K) (pe_op op_mul (pv 6) (pv 6)) (pe_op op_mul pe_int (pv 6))) pa_nil)) pe_int) pe_int) pa_nil)) (pv 1)))))))))))), fun fd' xs Φ h => ?_⟩
  obtain ⟨n, rfl, h1, h2, q⟩ := h
  have nz : (n : Int) ≠ 0 := by omega
  have cd : CDivN 0 (n : Int) := ⟨nz, by omega⟩
  have fin : ∀ i : Int, Φ (.d (.int (i.fmod (n : Int)))) := fun i => by
    obtain ⟨k, e, lt⟩ := fm_nat i h1
    rw [e]; exact q k lt
  refine ds_seq (ds_fturn rfl (de_addI (de_fturn rfl fun t t0 => de_int ⟨t, 1, rfl, rfl, t + 1, rfl, by omega, ?_⟩)))
  refine ds_seq (ds_if (dt_test (de_gtI (de_fover rfl fun ov => de_int ⟨ov, 0, rfl, rfl, _, rfl, ?_⟩))))
  by_cases hov : (0 : Int) < ov
  · rw [decide_eq_true hov]
    refine ds_seq (ds_setz (de_op (de_cb (da_cons (de_fover rfl fun ov2 => da_nil (dc_int (de_var rfl (dop_i nz ?_))))))))
    refine ds_seq (ds_fover rfl (de_op (de_fover rfl fun ov3 => de_var rfl (dop_i cd ⟨_, rfl, ?_⟩))))
    exact ds_ret (de_var rfl (fin _))
  · rw [decide_eq_false hov]
    refine ds_next ?_
    refine ds_cells rfl fun ns s s0 => ?_
    refine ds_seq (ds_fspot rfl (de_addI (de_var rfl (de_int ⟨s, 1, rfl, rfl, s + 1, rfl, by omega, ?_⟩))))
    refine ds_seq (ds_setz (De.mono (Φ := fun x => ∃ c : Int, x = .d (.int c)) ?_ ?_))
    · refine de_if (dt_test (de_nnil (de_var rfl (de_lst (da_nil ⟨[], rfl, szn rfl, _, rfl, shaped_ints ns, rfl, _, rfl, ?_⟩)))))
      by_cases e0 : ns = []
      · subst e0
        exact de_int ⟨_, rfl⟩
      · have e1 : (ns.map PyData.int).isEmpty = false := by simpa using e0
        have lp : 1 ≤ (ns.map PyData.int).length := by rw [List.length_map]; exact List.length_pos_iff.mpr e0
        rw [e1]
        refine de_ix (de_var rfl (de_op (de_cb (da_cons (de_var rfl (da_nil (dc_int (de_cb (da_cons (de_var rfl (da_nil (dc_len (.inl rfl) (dop_i (by omega) ?_)))))))))))))
        obtain ⟨k, e, lt⟩ := fm_nat s lp
        rw [e]
        have lk : k < ns.length := by rw [List.length_map] at lt; exact lt
        exact ⟨_, ns.map .int, (k : Int), .int ns[k], rfl, rfl, .inl rfl, atI_nat (by rw [List.getElem?_map, List.getElem?_eq_getElem lk]; rfl), _, rfl⟩
    rintro x ⟨c, rfl⟩
    let ρ3 : List En := [.fz .fd, .fz (.d (.int n)), .un, .fz (.d (.list (ns.map .int))), .fz (.d (.int s)), .fz (.d (.int c)), .un]
    refine ds_seq (Ds.mono (N := fun ρ' => ρ' = ρ3) (R := fun x => Flat x ∧ Φ x) ?_ ?_ (fun _ h => h))
    · refine ds_if (dt_and (dt_test (de_geI (de_var rfl (de_op (de_int (de_int (dop_i ⟨by decide, by decide, by decide⟩ ⟨_, _, rfl, rfl, _, rfl, ?_⟩))))))))
      by_cases hc : (10 : Int) ^ (18 : Int).toNat ≤ c
      · rw [decide_eq_true hc]
        refine dt_test (de_ltI (de_var rfl (de_cb (da_cons (de_var rfl (da_nil (dc_len (.inl rfl) ⟨_, _, rfl, rfl, _, rfl, ?_⟩)))))))
        by_cases hs : s < (((ns.map PyData.int).length : Nat) : Int)
        · rw [decide_eq_true hs]
          refine ds_seq (ds_fover rfl (de_op (de_var rfl (de_var rfl (dop_i cd ⟨_, rfl, ?_⟩)))))
          exact ds_ret (de_op (de_cb (da_cons (de_var rfl (da_nil (dc_int (de_var rfl (dop_i nz ⟨True.intro, fin _⟩))))))))
        · rw [decide_eq_false hs]
          exact ds_next rfl
      · rw [decide_eq_false hc]
        exact ds_next rfl
    · rintro ρ4 rfl
      refine ds_seq (ds_setz (de_op (de_cb (da_cons (de_addI (de_addI (de_op (de_cb (da_cons (de_var rfl (da_nil (dc_int (de_int (dop_i (by decide) (de_op (de_int (de_fturn rfl fun t t0 => dop_i (.inl ⟨by decide, by decide⟩) ⟨_, _, rfl, rfl, de_int ⟨_, _, rfl, rfl, da_nil (dc_int (de_int (dop_i (by decide) ?_)))⟩⟩)))))))))))))))))
      obtain ⟨m0, m1⟩ := fm_lt (c.fmod 1000402869 + 114122 * t + 2736) (m := 2147356807) (by decide)
      generalize (c.fmod 1000402869 + 114122 * t + 2736).fmod 2147356807 = m at m0 m1
      refine ds_seq (ds_setz (de_op (de_cb (da_cons (de_addI (de_addI (de_op (de_var rfl (de_var rfl (dop_i (.inl ⟨by omega, by omega⟩) (de_op (de_int (de_fturn rfl fun t2 t20 => dop_i (.inl ⟨by decide, by decide⟩) ⟨_, _, rfl, rfl, de_int ⟨_, _, rfl, rfl, da_nil (dc_int (de_int (dop_i (by decide) ?_)))⟩⟩)))))))))))))
      obtain ⟨k0, k1⟩ := fm_lt (m * m + 6194958 * t2 + 3232) (m := 2147347463) (by decide)
      generalize (m * m + 6194958 * t2 + 3232).fmod 2147347463 = l at k0 k1
      exact ds_ret (de_op (de_cb (da_cons (de_op (de_op (de_cb (da_cons (de_addI (de_op (de_var rfl (de_var rfl (dop_i (.inl ⟨by omega, by omega⟩) (de_op (de_int (de_var rfl (dop_i (.inl ⟨by decide, by decide⟩) ⟨_, _, rfl, rfl, da_nil (dc_int (de_int (dop_i (by decide) (de_int (dop_i ⟨by decide, by decide⟩ (da_nil (dc_int (de_var rfl (dop_i nz ⟨True.intro, fin _⟩)))))))))⟩))))))))))))))))
end
end Z

/-! # ZSet -/
set_option Elab.async false
set_option linter.all false
set_option maxRecDepth 100000
set_option maxHeartbeats 4000000
/-! Sets of texts: set(t) of a tuple of different texts, sorted(set). -/
namespace Z
open PySem PySem.Spec PyProof.Rows L2
def keyS (e : Int × Value) : Option Str := match e.2 with | .str k _ => some k | _ => none
def GoodS (w : World) (e : Int × Value) : Prop := ∃ k tk, e.2 = Value.str k tk ∧ e.1 = hashStr w k
/-- the set of the texts ks stands at a -/
def SetS (w : World) (h : Heap) (a : Addr) (ks : List Str) : Prop :=
  ∃ o es ep t, h.get? a = some o ∧ o.ExactSet ∧ o.data = .set es ep t ∧ (∀ e ∈ es.toList, GoodS w e) ∧ (es.toList.map keyS).Perm (ks.map some) ∧ es.size < scanBound ∧ t.fits es.size = true ∧ Ris t.place.toList ∧
    (w.params.followText "set-order" = true ∨ t.led = true)
section
variable {P : Program} {w : World} {h h' : Heap} {a : Addr} {ks : List Str}
theorem SetS.keep (R : SetS w h a ks) (k : ∀ o, h.get? a = some o → h'.get? a = some o) : SetS w h' a ks := by
  obtain ⟨o, es, ep, t, ho, r⟩ := R
  exact ⟨o, es, ep, t, k o ho, r⟩
theorem str_elems {l : List (Int × Value)} (g : ∀ e ∈ l, GoodS w e) : ElemsOf (strKind P w) l := fun e he => by
  obtain ⟨k, tk, h1, h2⟩ := g e he
  exact ⟨⟨k, by rw [h1]; exact strKind_is P w k tk, h2⟩, by rw [h1] <;> rfl⟩
theorem str_is {e : Int × Value} (g : GoodS w e) (k : Str) : (strKind P w).is k e.2 = true ↔ keyS e = some k := by
  obtain ⟨k0, tk, h1, _⟩ := g
  unfold keyS
  rw [h1]
  show Value.isStrOf k (.str k0 tk) = true ↔ some k0 = some k
  simp [Value.isStrOf]
end
section
variable {P : Program} {w : World} {A : Around} {E : Value → Shared → Prop} {s : Shared} {a : Addr} {ks : List Str}
theorem addS_tail {g : Bool → Sem Unit} (hg : ∀ (b : Bool) (s₁ : Shared) (Q' : Unit → Shared → Prop), Q' () s₁ → wpAny (model P w) A (g b) Q' E s₁)
    {o : Obj} {es : Array (Int × Value)} {ep : Nat} {t : SetTable} (ho : s.heap.get? a = some o) (hex : o.ExactSet) (hd : o.data = .set es ep t)
    {es1 : Array (Int × Value)} {t2 : SetTable} (g1 : ∀ e ∈ es1.toList, GoodS w e) (p1 : (es1.toList.map keyS).Perm (ks.map some))
    (hb1 : es1.size < scanBound) (hf2 : t2.fits es1.size = true) (hr : Ris t2.place.toList) (hl : w.params.followText "set-order" = true ∨ t2.led = true) {wasDummy : Bool} {R : Option Bool → Shared → Prop}
    (hR : ∀ h', Heap.SameBut a s.heap h' → SetS w h' a ks → R (some true) { s with heap := h' }) :
    wpAny (model P w) A (do
        storeSet a es1 t2
        if (!wasDummy && t2.tooFull) = true then do
            g (relayAll t2 es1 (SetTable.grown es1.size)).2.2
            storeSet a (relayAll t2 es1 (SetTable.grown es1.size)).1 (relayAll t2 es1 (SetTable.grown es1.size)).2.1
            pure (some true)
          else pure (some true)) R E s := by
  refine wpAny_bind (wpAny_storeSet_of ho hd ?_ (fits_of_scanBound hb1))
  have ho1 := store_at (es' := es1) (t' := t2) ho hd
  have sb1 := Heap.SameBut.update s.heap a (Obj.putSet es1 t2)
  split
  · have pm := relayAll_perm t2 es1 (SetTable.grown es1.size)
    have hf3 := relayAll_fits t2 es1 (SetTable.grown es1.size)
    have hr3 := relayAll_ris t2 es1 (SetTable.grown es1.size)
    have hl3 := relayAll_led t2 es1 (SetTable.grown es1.size)
    generalize relayAll t2 es1 (SetTable.grown es1.size) = Z at pm hf3 hr3 hl3 ⊢
    obtain ⟨es2, t3, gave⟩ := Z
    dsimp only at pm hf3 hr3 hl3 ⊢
    have hsz : es2.size = es1.size := by rw [← Array.length_toList, pm.length_eq, Array.length_toList]
    have hb2 : es2.size < scanBound := by rw [hsz]; exact hb1
    refine wpAny_bind (hg _ _ _ ?_)
    refine wpAny_bind (wpAny_storeSet_of ho1 rfl ?_ (fits_of_scanBound hb2))
    have ho2 := store_at (es' := es2) (t' := t3) ho1 rfl
    refine wpAny_pure (hR _ (sb1.trans (Heap.SameBut.update _ a _)) ?_)
    exact ⟨_, es2, _, t3, ho2, hex, rfl, fun e he => g1 e (pm.mem_iff.mp he), (pm.map keyS).trans p1, hb2, hf3, hr3, hl.imp id fun z => by rw [hl3]; exact z⟩
  · exact wpAny_pure (hR _ sb1 ⟨_, es1, _, t2, ho1, hex, rfl, g1, p1, hb1, hf2, hr, hl⟩)
theorem addS_hashed {k : Str} {tk : Tok} {Q : Bool → Shared → Prop} (R : SetS w s.heap a ks) (hk : k ∉ ks) (room : ks.length + 1 < scanBound)
    (hQ : ∀ h', Heap.SameBut a s.heap h' → SetS w h' a (k :: ks) → Q true { s with heap := h' }) :
    wpAny (model P w) A (setAddHashed a (.str k tk) ((strKind P w).hash k)) Q E s := by
  obtain ⟨o, es, ep, t, ho, hex, hd, g, pk, hb, hf, hr, hl⟩ := R
  have hkey : (strKind P w).is k (.str k tk) = true := strKind_is P w k tk
  have hsc : (Value.str k tk).scannable = true := rfl
  have hel : ElemsOf (strKind P w) es.toList := str_elems g
  have hn : es.size = ks.length := by
    have := pk.length_eq
    rw [List.length_map, List.length_map, Array.length_toList] at this
    exact this
  unfold setAddHashed setAddHashedIn
  refine wpAny_holding (wpAny_bind (wpAny_setState_of ho hd hf ?_))
  dsimp only
  rw [byScan_of hsc hb hel]
  simp only [↓reduceIte]
  unfold setAddByScan
  refine wpAny_bind ?_
  refine wpAny_bind (wpAny_rule ?_)
  refine wpAny_bind (wpAny_setScan_of hkey ho hd hf hel ?_)
  have hfi : List.findIdx? (fun e => (strKind P w).is k e.2) es.toList = none := List.findIdx?_eq_none_iff.mpr fun e he => by
    cases q : (strKind P w).is k e.2 with
    | false => rfl
    | true =>
      have m := pk.mem_iff.mp (List.mem_map.mpr ⟨e, he, (str_is (P := P) (g e he) k).mp q⟩)
      obtain ⟨z, hz, ez⟩ := List.mem_map.mp m
      cases ez
      exact absurd hz hk
  rw [hfi]
  dsimp only
  have hgw : ∀ (b : Bool) {s₁ : Shared} {Q' : Unit → Shared → Prop}, Q' () s₁ → wpAny (model P w) A (match b with | true => rule "set.scan.the-table-gave-way" | false => pure ()) Q' E s₁ :=
    fun b s₁ Q' q => by cases b <;> first | exact wpAny_pure q | exact wpAny_rule q
  have pm := layNew_perm t es ((strKind P w).hash k) (.str k tk)
  have hf1 := layNew_fits t es ((strKind P w).hash k) (.str k tk)
  have hr1 := layNew_ris t es ((strKind P w).hash k) (.str k tk) hr
  have hl1 := layNew_led t es ((strKind P w).hash k) (.str k tk)
  generalize layNew t es ((strKind P w).hash k) (.str k tk) = Z at pm hf1 hr1 hl1 ⊢
  obtain ⟨es1, t1, wasDummy, gave⟩ := Z
  dsimp only at pm hf1 hr1 hl1 ⊢
  rw [Array.toList_push] at pm
  have pc : es1.toList.Perm (((strKind P w).hash k, Value.str k tk) :: es.toList) := pm.trans (List.perm_append_singleton _ _)
  have p1 : (es1.toList.map keyS).Perm ((k :: ks).map some) := (pc.map keyS).trans (List.Perm.cons _ pk)
  have g1 : ∀ e ∈ es1.toList, GoodS w e := fun e he => by
    rcases List.mem_cons.mp (pc.mem_iff.mp he) with z | z
    · rw [z]; exact ⟨k, tk, rfl, rfl⟩
    · exact g e z
  have hsz : es1.size = ks.length + 1 := by rw [← Array.length_toList, pc.length_eq, List.length_cons, Array.length_toList, hn]
  have hb1 : es1.size < scanBound := by rw [hsz]; exact room
  have hled : w.params.followText "set-order" = true ∨ t1.led = true := hl.imp id fun z => by rw [hl1]; exact z
  refine wpAny_bind (hgw _ ?_)
  split
  · refine wpAny_bind ?_
    rw [hashByValue_scannable 8 hsc]
    refine wpAny_pure ?_
    refine addS_tail ?_ ho hex hd g1 p1 hb1 ?_ ?_ ?_ ?_
    · intro b s₁ Q' q; cases b <;> first | exact wpAny_pure q | exact wpAny_rule q
    · first | (split <;> first | exact hf1 | exact SetTable.fits_plain_off hf1) | exact hf1
    · first | (split <;> exact hr1) | exact hr1
    · first | (split <;> exact hled) | exact hled
    · intro h' sb r; dsimp only; exact wpAny_pure (hQ h' sb r)
  · refine wpAny_bind (wpAny_pure ?_)
    simp only [↓reduceIte]
    refine addS_tail ?_ ho hex hd g1 p1 hb1 hf1 hr1 hled ?_
    · intro b s₁ Q' q; cases b <;> first | exact wpAny_pure q | exact wpAny_rule q
    · intro h' sb r; dsimp only; exact wpAny_pure (hQ h' sb r)
theorem setS_new_at {h : Heap} (ho : h.get? a = some { cls := .type "set", dict := none, data := .set #[] 0 (.fresh 0 0 (!w.params.followText "set-order")) }) : SetS w h a [] :=
  ⟨_, #[], 0, _, ho, ⟨rfl, rfl, rfl⟩, rfl, (fun e he => by simp at he), .refl _, (by decide), (by rfl), List.Pairwise.nil, by
    show _ ∨ (!w.params.followText "set-order") = true
    cases w.params.followText "set-order"
    · exact .inr rfl
    · exact .inl rfl⟩
theorem loopS {R : Result → Shared → Prop} {I : Addr} {fp wr : List Addr} {G : Array GenState → Array GenState → Prop} {n : Nat} {Pv : Nat → Value → Prop} {St : Nat → Shared → Prop}
    (W : WalksS P w A.in1 I fp wr G n Pv St) (S : Addr) (hSf : S ∉ fp) (xs : List Str) (hn : n = xs.length) (nd : xs.Nodup) (hb : xs.length + 1 < scanBound) (hval : ∀ i v, Pv i v → ∃ k t, xs[i]? = some k ∧ v = .str k t) :
    ∀ (k i : Nat) (s : Shared), n - i = k → i ≤ n → St i s → SetS w s.heap S (xs.take i).reverse →
      (∀ s', Moved (S :: wr) G s s' → SetS w s'.heap S xs.reverse → R (.ok (.ret .none)) s') →
      codeAny (model P w) A (.builtin "set.update.loop" ⟨[.ref S, .ref I], []⟩) R s := by
  have hSw : S ∉ wr := fun h => hSf (W.sub _ h)
  have hsub : ∀ b ∈ wr, b ∈ S :: wr := fun b hb => List.mem_cons_of_mem _ hb
  intro k
  induction k with
  | zero =>
    intro i s hk' hi hst hS hR
    have hin : i = n := by omega
    subst hin
    refine codeAny_builtin F.entry_set_update_loop ?_
    rw [Around.under_plainId F.plain_set_update_loop _]
    show wpAny _ A.in1 (pyNext (.ref I) >>= _) _ _ s
    refine wpAny_bind (W.done s _ _ hst fun s' hm => ?_)
    show wpAny _ A.in1 (ret Value.none) _ _ s'
    have e : xs.take i = xs := List.take_of_length_le (by omega)
    rw [e] at hS
    exact wpAny_pure (hR s' (hm.mono hsub) (hS.keep fun o e => hm.heap S o hSw e))
  | succ k ih =>
    intro i s hk' hi hst hS hR
    have hlt : i < n := by omega
    refine codeAny_builtin F.entry_set_update_loop ?_
    rw [Around.under_plainId F.plain_set_update_loop _]
    show wpAny _ A.in1 (pyNext (.ref I) >>= _) _ _ s
    refine wpAny_bind (W.item i s _ _ hlt hst fun v s' hP hst' hm => ?_)
    obtain ⟨z, t, hz, rfl⟩ := hval i v hP
    have hS' : SetS w s'.heap S (xs.take i).reverse := hS.keep fun o e => hm.heap S o hSw e
    show wpAny _ A.in1 (holding [Value.str z t] (setAdd S (.str z t)) >>= _) _ _ s'
    refine wpAny_bind (wpAny_holding ?_)
    unfold setAdd
    refine wpAny_holding ?_
    refine wpAny_bind ((strKind P w).pyHash (k := z) (strKind_is _ _ _ _) ?_)
    have hi' := (List.getElem?_eq_some_iff.mp hz)
    obtain ⟨li, ei⟩ := hi'
    have hno : z ∉ (xs.take i).reverse := fun m => by
      rw [List.mem_reverse] at m
      obtain ⟨j, hj, ej⟩ := List.mem_take_iff_getElem.mp m
      have : j = i := (List.getElem_inj nd).mp (ej.trans ei.symm)
      omega
    refine addS_hashed (s := { s' with toks := s'.toks + 1 }) hS' hno (by rw [List.length_reverse, List.length_take]; omega) fun h' hsb hS2 => ?_
    have hS3 : SetS w h' S (xs.take (i + 1)).reverse := by
      rw [List.take_succ_eq_append_getElem li, ei, List.reverse_append]
      exact hS2
    refine wpAny_pure ⟨plainId_quiet F.plain_set_update_loop _, ih (i + 1) _ (by omega) hlt (W.frame _ s' _ _ hst' (Nat.le_succ _) fun b hb o e => ?_) hS3 fun s'' hm'' hS'' => ?_⟩
    · rw [hsb.2 b (fun h : b = S => hSf (by rw [← h]; exact hb))]; exact e
    · refine hR s'' (Moved.trans W.gtrans ((hm.mono hsub).then_heap (Nat.le_succ _) fun b o hb e => ?_) hm'') hS''
      rw [hsb.2 b (fun h : b = S => hb (by rw [h]; exact List.mem_cons_self))]; exact e
theorem call_setS {l : Addr} {items : Array Value} {xs : List Str} {Q : Value → Shared → Prop} (hh : A.handled = none) (hl : s.heap.IsTuple l items) (hit : StrsAre items.toList xs) (nd : xs.Nodup) (hb : xs.length + 1 < scanBound)
    (h : ∀ (h' : Heap) (tk : Nat), SetS w h' s.heap.objs.size xs.reverse → (∀ b o, s.heap.get? b = some o → h'.get? b = some o) → Q (.ref s.heap.objs.size) { s with heap := h', toks := tk }) :
    wpAny (model P w) A (call (.type "set") [.ref l]) Q E s := by
  have hisz : items.size = xs.length := by rw [← StrsAre.len_eq hit, Array.length_toList]
  obtain ⟨c, tl, hmro⟩ := F.called_set.mro
  have hmade := F.called_set.made
  have hsub := F.called_set.sub
  refine wpAny_call (codeAny_of_tree ?_)
  show wpAny _ _ (callAny (.type "set") _) _ _ _
  refine wpAny_pure ⟨Code.quiet_builtin _ (by decide +kernel), codeAny_builtin F.entry_type_call ?_⟩
  rw [Around.under_plain (weight_type_call_type "set" [.ref l] []) rfl]
  have h1 := F.called_set.notType
  have h2 := F.called_set.canCreate
  have hct := F.typeCall_set_1 (.ref l)
  repeat (any_goals (first | assumption | wp_step))
  refine codeAny_mono (code_set_led1 (.ref l) (E := E) (Q₁ := fun obj s₁ => obj = .ref s.heap.objs.size ∧ s₁ = { s with heap := s.heap.push { cls := .type "set", dict := none, data := .set #[] 0 (.fresh 0 0 (!w.params.followText "set-order")) } }) ⟨rfl, rfl⟩) fun r s₁ hr => ?_
  cases r with
  | error e => exact hr
  | ok fl =>
    cases fl with
    | ret obj =>
      obtain ⟨rfl, rfl⟩ := hr
      have hS : (s.heap.push { cls := .type "set", dict := none, data := .set #[] 0 (.fresh 0 0 (!w.params.followText "set-order")) }).get? s.heap.objs.size = some { cls := .type "set", dict := none, data := .set #[] 0 (.fresh 0 0 (!w.params.followText "set-order")) } := Heap.get?_push_size _ rfl
      have hT : Shared.TypeIs { s with heap := s.heap.push { cls := .type "set", dict := none, data := .set #[] 0 (.fresh 0 0 (!w.params.followText "set-order")) } } (.ref s.heap.objs.size) "set" := ⟨_, hS, rfl⟩
      have hli := F.called_set.init.lookup
      have hbi := F.called_set.init.bind (.ref s.heap.objs.size)
      repeat (any_goals (first | assumption | wp_step))
      refine codeAny_mono (codeAny_call_builtin (R := wants (fun r s₂ => r = .none ∧ ∃ h' tk, s₂ = { s with heap := h', toks := tk } ∧ SetS w h' s.heap.objs.size xs.reverse ∧
          (∀ b o, s.heap.get? b = some o → h'.get? b = some o)) E) F.called_set.init.plain F.entry_set_init (check_set_init_1 hT ?_)) fun r₂ s₂ hr₂ => ?_
      · obtain ⟨ol, hol, hcl, nl, hdl⟩ := hl
        obtain ⟨ocls, odict, odata, oslots⟩ := ol
        simp only at hcl hdl
        subst hcl; subst hdl
        have hol' : (s.heap.push { cls := .type "set", dict := none, data := .set #[] 0 (.fresh 0 0 (!w.params.followText "set-order")) }).get? l = some { cls := .type "tuple", dict := odict, data := .seq items nl, slots := oslots } := Heap.get?_push_of_some _ hol
        have hsls := F.sub_tuple_set
        have hslf := F.sub_tuple_frozenset
        have hne : (Value.type "tuple" == Value.type "dict") = false := by decide
        have hl1 : (s.heap.push { cls := .type "set", dict := none, data := .set #[] 0 (.fresh 0 0 (!w.params.followText "set-order")) }).IsTuple l items := ⟨_, hol', rfl, nl, rfl⟩
        unfold Builtin.«set.__init__» noKeywords Builtin.Frozenset.updateFrom
        generalize hPI : pyIter = PI
        wp_walk
        subst hPI
        refine wpAny_pyIter_tuple hl1 ?_
        refine wpAny_bind (wpAny_runValue ?_)
        have hlS : l < s.heap.objs.size := Heap.lt_size hol
        have hh3 : A.in1.in1.in1.handled = none := by simp [hh]
        have hneI : l ≠ (s.heap.push { cls := .type "set", dict := none, data := .set #[] 0 (.fresh 0 0 (!w.params.followText "set-order")) }).objs.size := by
          rw [Heap.size_push]; exact Nat.ne_of_lt (Nat.lt_succ_of_lt hlS)
        have hSf : s.heap.objs.size ∉ [(s.heap.push { cls := .type "set", dict := none, data := .set #[] 0 (.fresh 0 0 (!w.params.followText "set-order")) }).objs.size, l] := by
          rw [Heap.size_push]; simp only [List.mem_cons, List.mem_singleton, List.not_mem_nil, or_false, not_or]
          exact ⟨Nat.ne_of_lt (Nat.lt_succ_self _), Nat.ne_of_gt hlS⟩
        have hval : ∀ (i : Nat) (v : Value), items[i]? = some v → ∃ k t, xs[i]? = some k ∧ v = .str k t := fun i v hv => by
          have hi : i < xs.length := by rw [← hisz]; exact (Array.getElem?_eq_some_iff.mp hv).1
          obtain ⟨t, e⟩ := SS.strs_at hit i v (by rw [Array.getElem?_toList]; exact hv)
          refine ⟨xs[i], t, List.getElem?_eq_getElem hi, ?_⟩
          rw [e, List.getD_eq_getElem?_getD, List.getElem?_eq_getElem hi] <;> rfl
        refine loopS ((Walks.tuple hh3 _ l hneI items).toS) s.heap.objs.size
          hSf xs hisz nd hb hval (items.size - 0) 0 _ (by omega) (Nat.zero_le _)
          ⟨⟨_, Heap.get?_push_size _ rfl, rfl, rfl⟩, (hl1.push _)⟩ ?hS0 ?hR
        case hS0 =>
          have hget : ((s.heap.push { cls := .type "set", dict := none, data := .set #[] 0 (.fresh 0 0 (!w.params.followText "set-order")) }).push { cls := .type "tuple_iterator", data := .fields #[.ref l, .int 0 0] }).get? s.heap.objs.size
              = some { cls := .type "set", dict := none, data := .set #[] 0 (.fresh 0 0 (!w.params.followText "set-order")) } := Heap.get?_push_of_some _ hS
          exact setS_new_at hget
        case hR =>
          intro s' hm hS'
          obtain ⟨h', g2, d', tk', os'⟩ := s'
          have eg : g2 = s.gens := hm.gens
          have ed : d' = s.drawn := hm.drawn
          have eo : os' = s.os := hm.os
          subst eg; subst ed; subst eo
          show wpAny _ _ _ _ _ _
          refine wpAny_pure ?_
          show wpAny _ _ (ret Value.none) _ _ _
          refine wpAny_pure ⟨rfl, h', tk', rfl, hS', fun b o e => ?_⟩
          have hb0 : b < s.heap.objs.size := Heap.lt_size e
          have hb1 : b ≠ s.heap.objs.size := Nat.ne_of_lt hb0
          have hb2 : b ≠ (s.heap.push { cls := .type "set", dict := none, data := .set #[] 0 (.fresh 0 0 (!w.params.followText "set-order")) }).objs.size := by
            rw [Heap.size_push]; exact Nat.ne_of_lt (Nat.lt_succ_of_lt hb0)
          exact hm.heap b o (by simp only [List.mem_cons, List.mem_singleton, List.not_mem_nil, or_false, not_or]; exact ⟨hb1, hb2⟩) (Heap.get?_push_of_some _ (Heap.get?_push_of_some _ e))
      · cases r₂ with
        | error e => exact hr₂
        | ok fl₂ =>
          cases fl₂ with
          | ret r =>
            obtain ⟨rfl, h', tk, rfl, hS', hk'⟩ := hr₂
            repeat (any_goals (first | assumption | wp_step))
            exact h _ _ hS' hk'
          | _ => exact hr₂.elim
    | _ => exact hr.elim
theorem strs_of : ∀ (l : List Value), (∀ v ∈ l, ∃ k tk, v = Value.str k tk) → ∃ ys, StrsAre l ys
  | [], _ => ⟨[], .nil⟩
  | v :: l, h => by
    obtain ⟨k, tk, rfl⟩ := h v List.mem_cons_self
    obtain ⟨ys, hy⟩ := strs_of l fun u hu => h u (List.mem_cons_of_mem _ hu)
    exact ⟨k :: ys, .cons k tk hy⟩
def vKey : Value → Option Str
  | .str k _ => some k
  | _ => none
theorem strs_keys : ∀ {l : List Value} {ys : List Str}, StrsAre l ys → l.map vKey = ys.map some
  | _, _, .nil => rfl
  | _, _, .cons _ _ r => congrArg (_ :: ·) (strs_keys r)
theorem perm_some {xs ys : List Str} (h : (xs.map some).Perm (ys.map some)) : xs.Perm ys := by
  have := h.map (fun o => o.getD Str.empty)
  rw [List.map_map, List.map_map] at this
  have e : ((fun o : Option Str => o.getD Str.empty) ∘ some) = id := rfl
  rw [e, List.map_id, List.map_id] at this
  exact this
end
section
variable {X : Cx}
/-- sorted(set(t)), t a tuple of different texts -/
def tSortSet (K : PySem.W.Frag) (ta : TE) : TE := fun σ H Q => ta σ H fun x H1 => ∃ l, ∃ xs : List Str, x = .ref l ∧ SqT K H1 l (xs.map V.str) ∧ xs.Nodup ∧ xs.length < 60 ∧
  ∀ ys p, List.Perm ys xs → sortedS ys = true → H1 p = none → Q (.ref p) (upd H1 p (.lst (ys.map V.str)))
theorem pe_sortSet {a : Expr} {ta : TE} {p p2 q pos : Pos} (hc : X.calm = true) (hg : Gl X "sorted") (hm : X.mg "sorted" = none) (hg2 : Gl X "set") (hm2 : X.mg "set" = none) (ha : PE X a ta)
    (na : starEach [a] X.env = (false, eval a X.env) :: starEach [] X.env := by rfl) : PE X (.Call (.Name "sorted" p) [.Call (.Name "set" p2) [a] [] q] [] pos) (tSortSet X.K ta) := by
  refine ⟨fun pins s σ H Q I h => ?_⟩
  refine Call_ (ld_blt I hg hm boot_sorted ?_)
  refine PyProof.Rows.callWith_builtin1 (PyProof.Rows.args_cons ?_ rfl) rfl rfl
  refine Call_ (ld_blt I hg2 hm2 PyProof.Rows.boot_set ?_)
  refine PyProof.Rows.callWith_type1 (PyProof.Rows.args_cons (thn (ha.run pins s σ H _ I h) fun v s1 ⟨x, H1, I1, r1, q1⟩ => PyProof.Rows.args_nil ?_) na) na rfl
  obtain ⟨l, xs, rfl, hq, nd, h1, q1⟩ := q1
  cases r1
  obtain ⟨its, r, pl, hz⟩ := I1.tuple hq
  have hh := I1.ok.hd hc
  refine call_setS hh pl (by simpa using strsAre_of r) nd (by unfold scanBound; omega) fun h' tk hS hk => ?_
  refine PyProof.Rows.args_nil ?_
  have I2 : Inv X pins σ H1 { s1 with heap := h', toks := tk } := I1.kept hk
  obtain ⟨o, es, ep, t, ho, hex, hd, g, pk, hb, hf, hr, hl⟩ := hS
  refine Calls.call_function_entry kind_sorted plain_sorted entry_sorted (args_sorted1 _) ?_
  unfold Builtin.«sorted»
  refine wpAny_bind (m := checkCount "sorted" 1 1 _) (wpAny_pure ?_)
  refine wpAny_bind (collect_set (A := X.A.in1) hh ⟨o, ho, hex.1, hd⟩ hf hb hr hl fun s2 vs k1 hz1 g1 o1 pm => ?_)
  have en : es.size = xs.length := by
    have := pk.length_eq
    rw [List.length_map, List.length_map, Array.length_toList, List.length_reverse] at this
    exact this
  have hvl : vs.length = xs.length := by rw [pm.length_eq, List.length_map, Array.length_toList]; exact en
  obtain ⟨zs, hZ⟩ := strs_of vs fun v hv => by
    obtain ⟨e, he, q⟩ := List.mem_map.mp (pm.mem_iff.mp hv)
    obtain ⟨k, tk, h1, _⟩ := g e he
    exact ⟨k, tk, by rw [← q]; exact h1⟩
  have pz : zs.Perm xs := by
    have q := pm.map vKey
    rw [strs_keys hZ, List.map_map] at q
    have e : (vKey ∘ fun x : Int × Value => x.2) = keyS := funext fun x => by
      show vKey x.2 = keyS x
      unfold keyS vKey
      cases x.2 <;> rfl
    rw [e] at q
    exact (perm_some (q.trans pk)).trans (List.reverse_perm _)
  refine wpAny_bind (wpAny_newList ?_ (by rw [hvl, sizeLine_eq]; omega))
  have hoL : (s2.heap.push (seqObj "list" vs.toArray 0)).get? s2.heap.objs.size = some (seqObj "list" vs.toArray 0) := Heap.get?_push_size _ rfl
  show wpAny _ _ _ _ _ { s2 with heap := s2.heap.push (seqObj "list" vs.toArray 0) }
  refine wpAny_bind (wpAny_holding (wpAny_call_entry PyProof.Rows.slot_list_sort ⟨_, hoL, rfl⟩ PyProof.Rows.entry_list_sort
    (list_sort_treeK strKind_oneLt (s := { s2 with heap := s2.heap.push (seqObj "list" vs.toArray 0) }) hoL hZ.keysOf (fun v₁ v₂ rest e => keyKind_strs (by rw [← e]; exact hZ)) (by rw [hvl]; omega) fun st' hp hs => ⟨_, rfl, ?_⟩)
    (PyProof.Rows.args_list_sort _)))
  obtain ⟨ys, g1', g2', g3'⟩ := sorted_out_str hZ hp hs
  obtain ⟨e', he'⟩ := PyProof.Rows.sortedHeap_at (vs := vs) (out := (arrOf st').map (·.2)) hoL
  have hys : ys.length = xs.length := by rw [g2'.length_eq, pz.length_eq]
  have hlen : (ys.map V.str).length ≤ sizeLine := by rw [List.length_map, hys, sizeLine_eq]; omega
  have hn : H1 s2.heap.objs.size = none := I2.hok.fresh hz1
  have k2 : ∀ b u, h'.get? b = some u → (sortedHeap (s2.heap.push (seqObj "list" vs.toArray 0)) s2.heap.objs.size vs ((arrOf st').map (·.2))).get? b = some u := fun b u e => by
    have q := k1 b u e
    have hlt := Heap.lt_size q
    rw [sortedHeap_old (Nat.ne_of_lt hlt) (by rw [size_push']; exact Nat.lt_succ_of_lt hlt)]
    exact Heap.get?_push_of_some _ q
  refine wpAny_pure ⟨_, rfl, ?_⟩
  have J := I2.call (ch := []) (g' := s2.gens) (d' := s2.drawn) (t' := s2.toks) (Un.laid (o := .lst (ys.map V.str)) k2 hz1 hn) (I2.hok.laid k2 hz1 ⟨hlen, ((arrOf st').map (·.2)).toList, e', vals_of_strs g1', by rw [Array.toArray_toList]; exact he'⟩) (by rw [g1]; exact I2.bare) (fun _ z => nomatch z)
  refine ⟨.ref _, _, ?_, rfl, q1 ys _ (g2'.trans pz) g3' hn⟩
  have e : ({ s2 with heap := sortedHeap (s2.heap.push (seqObj "list" vs.toArray 0)) s2.heap.objs.size vs ((arrOf st').map (·.2)) } : Shared) = { s1 with heap := sortedHeap (s2.heap.push (seqObj "list" vs.toArray 0)) s2.heap.objs.size vs ((arrOf st').map (·.2)), gens := s2.gens, drawn := s2.drawn, toks := s2.toks } := by
    cases s2
    cases s1
    cases o1
    rfl
  rw [e]
  exact J
end
section
variable {P : Pm} {ρ : List En}
theorem de_sortSet {te : TE} {Φ : KD} (h : De P te ρ fun x => ∃ xs : List Str, x = .d (.tuple (xs.map .str)) ∧ xs.Nodup ∧ xs.length < 60 ∧ ∀ ys : List Str, ys.Perm xs → sortedS ys = true → Φ (.d (.list (ys.map .str)))) : De P (tSortSet P.K te) ρ Φ := by
  intro H0 G H σ o rl Q k
  refine h H0 G H σ o rl _ fun v G1 H1 x g1 rv ⟨xs, e, nd, hl, q⟩ => ?_
  subst e
  have rv : Dq G1 v (.tuple (xs.map .str)) := rv
  cases rv with
  | @tup a vs _ ha hd =>
    have e := dpA_st hd
    subst e
    refine ⟨a, xs, rfl, .inl (.inl (g1.ok.sub _ _ ha)), nd, hl, fun ys p hp hs hn => ?_⟩
    have g2 := g1.ok.new (o := .lst (ys.map V.str)) hn
    exact k _ _ _ (.d (.list (ys.map .str))) (g1.trans g2) (.lst upd_same st_dpA) (q ys hp hs)
end
end Z

/-! # ZZip -/
set_option Elab.async false
set_option linter.all false
set_option maxRecDepth 100000
set_option maxHeartbeats 4000000
/-! list(zip(a, b)) of two lists of one length, as a value. -/
namespace Z
open PySem PySem.Spec PyProof.Rows L2
theorem zip_no_len : typeLookup (.type "zip") "__len__" = pure none := by rw [typeLookup_type, builtinLookup_eq_fast]; kernel_rfl
theorem zip_no_hint : typeLookup (.type "zip") "__length_hint__" = pure none := by rw [typeLookup_type, builtinLookup_eq_fast]; kernel_rfl
/-- the zip stands at its i-th turn -/
structure ZSt (m0 : Nat) (h : Heap) (z TI TO i1 i2 l1 l2 : Addr) (xs ys : Array Value) (i : Nat) : Prop where
  ti : IsPair h TI (.ref i1) (.ref i2)
  a : h.IsListIter i1 l1 i
  b : h.IsListIter i2 l2 i
  l : h.IsList l1 xs
  m : h.IsList l2 ys
  zi : (IsZip h z TI TO .none ∧ ∃ a b, IsPair h TO a b) ∨ ∃ T f oT, IsZipHeld h z TI TO T f ∧ h.get? T = some oT ∧ T ≠ z ∧ T ≠ i1 ∧ T ≠ i2 ∧ m0 ≤ T
theorem ZSt.keep {m0 : Nat} {q : Addr} {h h' : Heap} {z TI TO i1 i2 l1 l2 : Addr} {xs ys : Array Value} {i : Nat} (s : ZSt m0 h z TI TO i1 i2 l1 l2 xs ys i) (k : ∀ b o, h.get? b = some o → b ≠ q → h'.get? b = some o)
    (d : z ≠ q ∧ TI ≠ q ∧ TO ≠ q ∧ i1 ≠ q ∧ i2 ≠ q ∧ l1 ≠ q ∧ l2 ≠ q) (lq : q < m0) : ZSt m0 h' z TI TO i1 i2 l1 l2 xs ys i := by
  obtain ⟨dz, dTI, dTO, d1, d2, e1, e2⟩ := d
  refine ⟨k _ _ s.ti dTI, s.a.at fun o e => k _ o e d1, s.b.at fun o e => k _ o e d2, s.l.at fun o e => k _ o e e1, s.m.at fun o e => k _ o e e2, ?_⟩
  rcases s.zi with ⟨hz, a, b, hTO⟩ | ⟨T, f, oT, hz, hT, r⟩
  · exact .inl ⟨k _ _ hz dz, a, b, k _ _ hTO dTO⟩
  · exact .inr ⟨T, f, oT, k _ _ hz dz, k _ _ hT (Nat.ne_of_gt (Nat.lt_of_lt_of_le lq r.2.2.2)), r⟩
section
variable {P : Program} {w : World} {A : Around} {E : Value → Shared → Prop}
/-- one turn -/
theorem ZSt.next {m0 : Nat} {s : Shared} {z TI TO i1 i2 l1 l2 : Addr} {xs ys : Array Value} {i : Nat} {x y : Value} {Q : Option Value → Shared → Prop} (D : ZipApart z TI TO i1 i2 l1 l2) (S : ZSt m0 s.heap z TI TO i1 i2 l1 l2 xs ys i) (hx : xs[i]? = some x) (hy : ys[i]? = some y) (hs : m0 ≤ s.heap.objs.size)
    (hQ : ∀ h', ZSt m0 h' z TI TO i1 i2 l1 l2 xs ys (i + 1) → IsPair h' s.heap.objs.size x y → h'.objs.size = s.heap.objs.size + 1 →
      (∀ c o, c ≠ z → c ≠ TO → c ≠ i1 → c ≠ i2 → s.heap.get? c = some o → h'.get? c = some o) → Q (some (.ref s.heap.objs.size)) { s with heap := h' }) : wpAny (model P w) A (pyNext (.ref z)) Q E s := by
  have lt : ∀ {c o}, s.heap.get? c = some o → s.heap.objs.size ≠ c := fun e => Nat.ne_of_gt (Heap.lt_size e)
  have n1 : s.heap.objs.size ≠ i1 := let ⟨_, e, _⟩ := S.a; lt e
  have n2 : s.heap.objs.size ≠ i2 := let ⟨_, e, _⟩ := S.b; lt e
  rcases S.zi with ⟨hz, a, b, hTO⟩ | ⟨T, f, oT, hz, hT, r1, r2, r3, r4⟩
  · refine wpAny_pyNext_zip_item D hz S.ti hTO S.a S.b S.l S.m hx hy fun h' a1 a2 a3 a4 a5 a6 hk => ?_
    exact hQ h' ⟨hk _ _ D.TIz D.TITO D.TIi1 D.TIi2 S.ti, a3, a4, S.l.at fun o e => hk _ o D.l1z D.l1TO D.l1i1 D.l1i2 e, S.m.at fun o e => hk _ o D.l2z D.l2TO D.l2i1 D.l2i2 e,
      .inr ⟨s.heap.objs.size, false, _, a1, a5, lt hz, n1, n2, hs⟩⟩ a5 a6 hk
  · refine wpAny_pyNext_zip_item_held D hz hT S.ti S.a S.b S.l S.m hx hy fun h' a1 a3 a4 a5 a6 hk => ?_
    exact hQ h' ⟨hk _ _ D.TIz D.TIi1 D.TIi2 S.ti, a3, a4, S.l.at fun o e => hk _ o D.l1z D.l1i1 D.l1i2 e, S.m.at fun o e => hk _ o D.l2z D.l2i1 D.l2i2 e,
      .inr ⟨T, true, oT, a1, hk _ _ r1 r2 r3 hT, r1, r2, r3, r4⟩⟩ a5 a6 fun c o c1 _ c3 c4 e => hk c o c1 c3 c4 e
theorem ZSt.stop {m0 : Nat} {s : Shared} {z TI TO i1 i2 l1 l2 : Addr} {xs ys : Array Value} {i : Nat} {Q : Option Value → Shared → Prop} (hh : A.handled = none) (D : ZipApart z TI TO i1 i2 l1 l2) (S : ZSt m0 s.heap z TI TO i1 i2 l1 l2 xs ys i) (hx : xs[i]? = none)
    (hQ : ∀ h', (∀ c o, c ≠ z → c ≠ TO → c ≠ i1 → c ≠ i2 → s.heap.get? c = some o → h'.get? c = some o) → Q none { s with heap := h' }) : wpAny (model P w) A (pyNext (.ref z)) Q E s := by
  rcases S.zi with ⟨hz, a, b, hTO⟩ | ⟨T, f, oT, hz, hT, r1, r2, r3, r4⟩
  · exact wpAny_pyNext_zip_end hh D hz S.ti hTO S.a S.b S.l S.m (.inl hx) hQ
  · exact wpAny_pyNext_zip_end_held hh D hz hT S.ti S.a S.b S.l S.m (.inl hx) fun h' hk => hQ h' fun c o c1 _ c3 c4 e => hk c o c1 c3 c4 e
end
/-- the pairs that were made: in a row, at rising addresses from m0 on -/
structure Made (h : Heap) (m0 : Nat) (xs ys : Array Value) (ps : List Addr) : Prop where
  inc : ps.Pairwise (· < ·)
  at_ : ∀ (j : Nat) (p : Addr), ps[j]? = some p → ∃ x y, xs[j]? = some x ∧ ys[j]? = some y ∧ IsPair h p x y ∧ m0 ≤ p
section
variable {P : Program} {w : World} {A1 : Around}
theorem zipFill {Rs : Result → Shared → Prop} {z TI TO i1 i2 l1 l2 q : Addr} {xs ys : Array Value} {h0 : Heap} {m0 n : Nat} (nh : A1.in1.handled = none) (D : ZipApart z TI TO i1 i2 l1 l2) (d : z ≠ q ∧ TI ≠ q ∧ TO ≠ q ∧ i1 ≠ q ∧ i2 ≠ q ∧ l1 ≠ q ∧ l2 ≠ q)
    (lz : z < m0 ∧ TO < m0 ∧ i1 < m0 ∧ i2 < m0 ∧ q < m0) (hx : xs.size = n) (hy : ys.size = n) (hn : n ≤ 1000) :
    ∀ (m i : Nat) (s : Shared) (ps : List Addr) (c : Nat), n - i = m → i ≤ n → ZSt m0 s.heap z TI TO i1 i2 l1 l2 xs ys i → s.heap.get? q = some (seqObj "list" (ps.map Value.ref).toArray c) → ps.length = i → Made s.heap m0 xs ys ps → m0 ≤ s.heap.objs.size →
      (∀ b o, b ≠ z → b ≠ TO → b ≠ i1 → b ≠ i2 → b ≠ q → h0.get? b = some o → s.heap.get? b = some o) →
      (∀ h' tk ps c, ps.length = n → h'.get? q = some (seqObj "list" (ps.map Value.ref).toArray c) → Made h' m0 xs ys ps → (∀ b o, b ≠ z → b ≠ TO → b ≠ i1 → b ≠ i2 → b ≠ q → h0.get? b = some o → h'.get? b = some o) →
        Rs (.ok (.ret .none)) { s with heap := h', toks := tk }) →
      codeAny (model P w) A1 (.builtin "list.extend.loop" ⟨[.ref q, .ref z, .none], []⟩) Rs s := by
  obtain ⟨dz, dTI, dTO, d1, d2, e1, e2⟩ := d
  obtain ⟨gz, gTO, g1, g2, gq⟩ := lz
  have szl := sizeLine_eq
  have gt : ∀ {a b : Nat}, a < m0 → m0 ≤ b → b ≠ a := fun h1 h2 => by omega
  intro m
  induction m with
  | zero =>
    intro i s ps c hm hi S hq hl M hs hk k
    have ei : i = n := by omega
    subst ei
    refine codeAny_builtin PySem.F.entry_extend_loop ?_
    rw [Around.under_plainId PySem.F.plain_extend_loop _]
    show wpAny _ A1.in1 (pyNext (Value.ref z) >>= _) _ _ s
    refine wpAny_bind (S.stop nh D (Array.getElem?_eq_none (by omega)) fun h' hk' => ?_)
    refine wpAny_pure (k h' s.toks ps c hl (hk' _ _ (Ne.symm dz) (Ne.symm dTO) (Ne.symm d1) (Ne.symm d2) hq) ⟨M.inc, fun j p e => ?_⟩ fun b o b1 b2 b3 b4 b5 e => hk' b o b1 b2 b3 b4 (hk b o b1 b2 b3 b4 b5 e))
    obtain ⟨x, y, a, b, c, d⟩ := M.at_ j p e
    exact ⟨x, y, a, b, hk' _ _ (gt gz d) (gt gTO d) (gt g1 d) (gt g2 d) c, d⟩
  | succ m ih =>
    intro i s ps c hm hi S hq hl M hs hk k
    have hlt : i < n := by omega
    refine codeAny_builtin PySem.F.entry_extend_loop ?_
    rw [Around.under_plainId PySem.F.plain_extend_loop _]
    show wpAny _ A1.in1 (pyNext (Value.ref z) >>= _) _ _ s
    have hxi := Array.getElem?_eq_getElem (xs := xs) (i := i) (by omega)
    have hyi := Array.getElem?_eq_getElem (xs := ys) (i := i) (by omega)
    refine wpAny_bind (S.next D hxi hyi hs fun h' S' hp hz hk' => ?_)
    have hq' := hk' _ _ (Ne.symm dz) (Ne.symm dTO) (Ne.symm d1) (Ne.symm d2) hq
    show wpAny _ A1.in1 (updateSeq q (·.push (.ref s.heap.objs.size)) >>= _) _ _ _
    have lps : (ps.map Value.ref).toArray.size = i := by rw [List.size_toArray, List.length_map, hl]
    refine wpAny_bind (wpAny_updateSeq hq' rfl (wpAny_pure ⟨plainId_quiet PySem.F.plain_extend_loop _, ?_⟩) (by show (ps.map Value.ref).toArray.size ≤ sizeLine; rw [lps]; omega) (by show ((ps.map Value.ref).toArray.push _).size ≤ sizeLine + 1; rw [Array.size_push, lps]; omega))
    obtain ⟨c2, hc⟩ : ∃ c2, (h'.update q (Obj.mapSeq (·.push (.ref s.heap.objs.size)))).get? q = some (seqObj "list" ((ps.map Value.ref).toArray.push (.ref s.heap.objs.size)) c2) := ⟨_, get?_update_seq hq' (·.push (.ref s.heap.objs.size))⟩
    have oth : ∀ b o, h'.get? b = some o → b ≠ q → (h'.update q (Obj.mapSeq (·.push (.ref s.heap.objs.size)))).get? b = some o := fun b o e nb => (Heap.get?_update_other _ _ (Ne.symm nb)).trans e
    have back : ∀ b o, b ≠ q → (h'.update q (Obj.mapSeq (·.push (.ref s.heap.objs.size)))).get? b = some o → h'.get? b = some o := fun b o nb e => by rw [Heap.get?_update_other _ _ (Ne.symm nb)] at e; exact e
    have hsz2 : (h'.update q (Obj.mapSeq (·.push (.ref s.heap.objs.size)))).objs.size = h'.objs.size := (Heap.SameBut.update h' q _).1
    refine ih (i + 1) _ (ps ++ [s.heap.objs.size]) c2 (by omega) (by omega) (S'.keep oth ⟨dz, dTI, dTO, d1, d2, e1, e2⟩ gq) ?_ (by rw [List.length_append, List.length_singleton, hl]) ⟨?_, fun j p e => ?_⟩ (by show m0 ≤ (h'.update q _).objs.size; rw [hsz2]; omega)
      (fun b o b1 b2 b3 b4 b5 e => oth b o (hk' b o b1 b2 b3 b4 (hk b o b1 b2 b3 b4 b5 e)) b5) k
    · rw [hc]
      refine congrArg (fun z => some (seqObj "list" z _)) ?_
      simp
    · rw [List.pairwise_append]
      refine ⟨M.inc, List.pairwise_singleton .., fun a ha b hb => ?_⟩
      cases List.mem_singleton.mp hb
      obtain ⟨j, hj⟩ := List.mem_iff_getElem?.mp ha
      obtain ⟨x, y, _, _, hpp, _⟩ := M.at_ j a hj
      exact Heap.lt_size hpp
    · rw [List.getElem?_append] at e
      by_cases lj : j < ps.length
      · rw [if_pos lj] at e
        obtain ⟨x, y, a, b, c, d⟩ := M.at_ j p e
        exact ⟨x, y, a, b, oth _ _ (hk' _ _ (gt gz d) (gt gTO d) (gt g1 d) (gt g2 d) c) (gt gq d), d⟩
      · rw [if_neg lj] at e
        have : j - ps.length = 0 := by
          rcases Nat.eq_zero_or_pos (j - ps.length) with z | z
          · exact z
          · rw [List.getElem?_eq_none (by simp; omega)] at e; exact nomatch e
        rw [this] at e
        cases e
        have ej : j = i := by omega
        subst ej
        exact ⟨_, _, hxi, hyi, oth _ _ hp (gt gq hs), hs⟩
end
section
variable {P : Program} {w : World} {A : Around} {E : Value → Shared → Prop}
theorem call_list_zip {s : Shared} {z TI TO i1 i2 l1 l2 : Addr} {xs ys : Array Value} {n : Nat} {Q : Value → Shared → Prop} (hh : A.handled = none) (D : ZipApart z TI TO i1 i2 l1 l2)
    (hz : IsZip s.heap z TI TO .none) (hTI : IsPair s.heap TI (.ref i1) (.ref i2)) (hTO : ∃ a b, IsPair s.heap TO a b) (h1 : s.heap.IsListIter i1 l1 0) (h2 : s.heap.IsListIter i2 l2 0) (hl1 : s.heap.IsList l1 xs) (hl2 : s.heap.IsList l2 ys)
    (hx : xs.size = n) (hy : ys.size = n) (hn : n ≤ 1000)
    (h : ∀ h' tk ps c, ps.length = n → h'.get? s.heap.objs.size = some (seqObj "list" (ps.map Value.ref).toArray c) → Made h' (s.heap.objs.size + 1) xs ys ps → (∀ b o, b ≠ z → b ≠ TO → b ≠ i1 → b ≠ i2 → s.heap.get? b = some o → h'.get? b = some o) →
      Q (.ref s.heap.objs.size) { s with heap := h', toks := tk }) : wpAny (model P w) A (call (.type "list") [.ref z]) Q E s := by
  obtain ⟨a, b, hTO⟩ := hTO
  refine callType_codes (Q₁ := fun obj s₁ => obj = .ref s.heap.objs.size ∧ s₁ = { s with heap := s.heap.push { cls := .type "list", data := .seq #[] } }) PySem.F.called_list (PySem.F.typeCall_list_1 _) PySem.F.entry_list_init
    (code_list_new _ ⟨rfl, rfl⟩) fun ob s₁ h₁ => ?_
  obtain ⟨rfl, rfl⟩ := h₁
  have hS : (s.heap.push { cls := .type "list", data := .seq #[] }).get? s.heap.objs.size = some { cls := .type "list", data := .seq #[] } := Heap.get?_push_size _ rfl
  have hsz : (s.heap.push { cls := .type "list", data := .seq #[] }).objs.size = s.heap.objs.size + 1 := Heap.size_push ..
  refine ⟨⟨_, hS, rfl⟩, PySem.F.args_list_init_2 _ _, ?_⟩
  generalize hqq : s.heap.objs.size = q at hS
  have ltz : ∀ {c o}, s.heap.get? c = some o → c < q := fun e => hqq ▸ Heap.lt_size e
  have kp : ∀ b o, s.heap.get? b = some o → (s.heap.push { cls := .type "list", data := .seq #[] }).get? b = some o := fun b o e => Heap.get?_push_of_some _ e
  have gz := ltz hz
  have gTI := ltz hTI
  have gTO := ltz hTO
  have g1 : i1 < q := let ⟨_, e, _⟩ := h1; ltz e
  have g2 : i2 < q := let ⟨_, e, _⟩ := h2; ltz e
  have e1 : l1 < q := let ⟨_, e, _⟩ := hl1; ltz e
  have e2 : l2 < q := let ⟨_, e, _⟩ := hl2; ltz e
  have S0 : ZSt (q + 1) (s.heap.push { cls := .type "list", data := .seq #[] }) z TI TO i1 i2 l1 l2 xs ys 0 :=
    ⟨kp _ _ hTI, h1.at fun o e => kp _ o e, h2.at fun o e => kp _ o e, hl1.at fun o e => kp _ o e, hl2.at fun o e => kp _ o e, .inl ⟨kp _ _ hz, a, b, kp _ _ hTO⟩⟩
  have lt_ne : ∀ {a : Nat}, a < q → a ≠ q := fun h => by omega
  have dd : z ≠ q ∧ TI ≠ q ∧ TO ≠ q ∧ i1 ≠ q ∧ i2 ≠ q ∧ l1 ≠ q ∧ l2 ≠ q := ⟨lt_ne gz, lt_ne gTI, lt_ne gTO, lt_ne g1, lt_ne g2, lt_ne e1, lt_ne e2⟩
  have szl := sizeLine_eq
  show wpAny _ _ (do let old ← Builtin.List.listItems (.ref q); Builtin.List.listUpdate (.ref q) (fun _ => #[]); letGo old.toList.reverse; Builtin.List.listExtendWith (.ref q) (.ref z) .none) _ _ _
  refine wpAny_bind ?_
  unfold Builtin.List.listItems
  refine wpAny_bind (wpAny_seqItems hS rfl (wpAny_pure ?_))
  show wpAny _ _ (updateSeq q (fun _ => #[]) >>= fun _ => letGo (#[] : Array Value).toList.reverse >>= fun _ => Builtin.List.listExtendWith (.ref q) (.ref z) .none) _ _ _
  refine wpAny_bind (wpAny_updateSeq hS rfl ?_)
  refine wpAny_bind (wpAny_letGo ?_)
  generalize hA : (s.heap.push { cls := .type "list", data := .seq #[] }) = ha at hS hsz kp S0
  have hS1 := get?_update_seq (show ha.get? q = some (seqObj "list" #[] 0) from hS) (fun _ => #[])
  have oth1 : ∀ b o, ha.get? b = some o → b ≠ q → (ha.update q (Obj.mapSeq fun _ => #[])).get? b = some o := fun b o e nb => (Heap.get?_update_other _ _ (Ne.symm nb)).trans e
  have S1 := S0.keep oth1 dd (Nat.lt_succ_self q)
  have sz1 : (ha.update q (Obj.mapSeq fun _ => #[])).objs.size = ha.objs.size := (Heap.SameBut.update ha q _).1
  have hT1 : Shared.TypeIs { s with heap := ha.update q (Obj.mapSeq fun _ => #[]) } (.ref z) "zip" := ⟨_, oth1 _ _ (kp _ _ hz) (lt_ne gz), rfl⟩
  unfold Builtin.List.listExtendWith
  refine wpAny_bind (wpAny_typeOf hT1 ?_)
  have b1 : Builtin.List.listSameRef (.ref q) (.ref z) = false := by simp [Builtin.List.listSameRef, (lt_ne gz).symm]
  have b2 : (Value.type "zip" == Value.type "list") = false := by decide
  have b3 : (Value.type "zip" == Value.type "tuple") = false := by decide
  simp only [b1, b2, b3, Bool.or_false, Bool.false_eq_true, if_false]
  refine wpAny_bind (wpAny_pyIter_zip (oth1 _ _ (kp _ _ hz) (lt_ne gz)) ?_)
  refine wpAny_bind (wpAny_holding ?_)
  unfold Builtin.List.listLengthHint
  refine wpAny_bind (wpAny_specialOf hT1 zip_no_len ?_)
  show wpAny _ _ (specialOf (Value.ref z) (Str.ofString "__length_hint__") >>= _) _ _ _
  refine wpAny_bind (wpAny_specialOf hT1 zip_no_hint ?_)
  refine wpAny_pure ?_
  show wpAny _ _ (rule "list.extend.makes-room" >>= fun _ => Builtin.List.listTouch (.ref q) >>= fun _ => again (.builtin "list.extend.loop" ⟨[.ref q, .ref z, .none], []⟩)) _ _ _
  refine wpAny_bind (wpAny_rule ?_)
  refine wpAny_bind ?_
  show wpAny _ _ (updateSeq q (·.push .none) >>= fun _ => updateSeq q (·.pop)) _ _ _
  refine wpAny_bind (wpAny_updateSeq hS1 rfl ?_ (by show 0 ≤ sizeLine; omega) (by show 1 ≤ sizeLine + 1; omega))
  have hS2 := get?_update_seq hS1 (fun x => x.push Value.none)
  refine wpAny_updateSeq hS2 rfl ?_ (by show 1 ≤ sizeLine; omega) (by show 0 ≤ sizeLine + 1; omega)
  have hS3 := get?_update_seq hS2 (fun x => x.pop)
  have S2 := S1.keep (h' := (ha.update q (Obj.mapSeq fun _ => #[])).update q (Obj.mapSeq fun x => x.push Value.none)) (fun b o e nb => (Heap.get?_update_other _ _ (Ne.symm nb)).trans e) dd (Nat.lt_succ_self q)
  have S3 := S2.keep (h' := ((ha.update q (Obj.mapSeq fun _ => #[])).update q (Obj.mapSeq fun x => x.push Value.none)).update q (Obj.mapSeq fun x => x.pop)) (fun b o e nb => (Heap.get?_update_other _ _ (Ne.symm nb)).trans e) dd (Nat.lt_succ_self q)
  have sz3 : (((ha.update q (Obj.mapSeq fun _ => #[])).update q (Obj.mapSeq fun x => x.push Value.none)).update q (Obj.mapSeq fun x => x.pop)).objs.size = q + 1 := by
    rw [(Heap.SameBut.update _ q _).1, (Heap.SameBut.update _ q _).1, sz1, hsz, hqq]
  refine wpAny_pure ⟨plainId_quiet PySem.F.plain_extend_loop _, zipFill (h0 := s.heap) (m0 := q + 1) (n := n) (by exact hh) D dd ⟨Nat.lt_succ_of_lt gz, Nat.lt_succ_of_lt gTO, Nat.lt_succ_of_lt g1, Nat.lt_succ_of_lt g2, Nat.lt_succ_self q⟩ hx hy hn n 0 _ [] _ rfl (Nat.zero_le _) S3 hS3 rfl ⟨.nil, fun j p e => by simp at e⟩ (Nat.le_of_eq sz3.symm) (fun b o _ _ _ _ nb e => ?_) fun h' tk ps c c1 c2 c3 c4 => ?_⟩
  · exact (Heap.get?_update_other _ _ (Ne.symm nb)).trans ((Heap.get?_update_other _ _ (Ne.symm nb)).trans (oth1 _ _ (kp _ _ e) nb))
  · subst hqq
    exact ⟨rfl, h h' tk ps c c1 c2 c3 fun b o n1 n2 n3 n4 e => c4 b o n1 n2 n3 n4 (lt_ne (ltz e)) e⟩
end
/-- list(zip(a, b)) -/
def tZipList (K : PySem.W.Frag) (ta : TA) : TE := fun σ H Q => ta σ H fun vs H1 => ∃ a b xs ys, vs = [.ref a, .ref b] ∧ SqL K H1 a xs ∧ SqL K H1 b ys ∧ xs.length = ys.length ∧ xs.length ≤ 1000 ∧
  ∀ (H2 : Hp) (q : Addr) (ps : List Addr), (∀ b o, H1 b = some o → H2 b = some o) → H1 q = none → H2 q = some (.lst (ps.map V.ref)) → ps.length = xs.length →
    (∀ (j : Nat) (p : Addr), ps[j]? = some p → ∃ x y, xs[j]? = some x ∧ ys[j]? = some y ∧ H1 p = none ∧ H2 p = some (.tup [x, y])) → Q (.ref q) H2
section
variable {X : Cx}
theorem vals_refs : ∀ ps : List Addr, Vals (ps.map V.ref) (ps.map Value.ref)
  | [] => .nil
  | _ :: r => .cons rfl (vals_refs r)
open Classical in
noncomputable def zipHp (H : Hp) (q0 : Addr) (ps : List Addr) (xs ys : List V) : Hp := fun b => match H b with
  | some o => some o
  | none => if b = q0 then some (.lst (ps.map V.ref)) else if h : ∃ (x y : V) (j : Nat), ps[j]? = some b ∧ xs[j]? = some x ∧ ys[j]? = some y then some (.tup [h.choose, h.choose_spec.choose]) else none
theorem zipHp_old {H : Hp} {q0 : Addr} {ps : List Addr} {xs ys : List V} {b : Addr} {o : HO} (e : H b = some o) : zipHp H q0 ps xs ys b = some o := by
  unfold zipHp; rw [e]
theorem zipHp_q {H : Hp} {q0 : Addr} {ps : List Addr} {xs ys : List V} (e : H q0 = none) : zipHp H q0 ps xs ys q0 = some (.lst (ps.map V.ref)) := by
  unfold zipHp; rw [e]; exact if_pos rfl
theorem nd_of {ps : List Addr} (h : ps.Pairwise (· < ·)) {i j : Nat} {b : Addr} (h1 : ps[i]? = some b) (h2 : ps[j]? = some b) : i = j := by
  have nd : ps.Nodup := h.imp fun h => Nat.ne_of_lt h
  obtain ⟨a1, b1⟩ := List.getElem?_eq_some_iff.mp h1
  obtain ⟨a2, b2⟩ := List.getElem?_eq_some_iff.mp h2
  exact (List.getElem_inj nd).mp (b1.trans b2.symm)
theorem zipHp_p {H : Hp} {q0 : Addr} {ps : List Addr} {xs ys : List V} {b : Addr} {j : Nat} {x y : V} (hp : ps.Pairwise (· < ·)) (e : H b = none) (nq : b ≠ q0) (h1 : ps[j]? = some b) (h2 : xs[j]? = some x) (h3 : ys[j]? = some y) : zipHp H q0 ps xs ys b = some (.tup [x, y]) := by
  unfold zipHp
  rw [e]
  have h : ∃ (x y : V) (j : Nat), ps[j]? = some b ∧ xs[j]? = some x ∧ ys[j]? = some y := ⟨x, y, j, h1, h2, h3⟩
  show (if b = q0 then _ else _) = _
  rw [if_neg nq, dif_pos h]
  obtain ⟨k, a1, a2, a3⟩ := h.choose_spec.choose_spec
  have ej := nd_of hp a1 h1
  subst ej
  rw [h2] at a2; rw [h3] at a3
  exact congrArg some (congrArg HO.tup (congr (congrArg List.cons (Option.some.inj a2).symm) (congrArg (fun z => [z]) (Option.some.inj a3).symm)))
open Classical in
theorem zipHp_new {H : Hp} {q0 : Addr} {ps : List Addr} {xs ys : List V} {b : Addr} {o : HO} (e : H b = none) (h : zipHp H q0 ps xs ys b = some o) : (b = q0 ∧ o = .lst (ps.map V.ref)) ∨ ∃ (j : Nat) (x y : V), ps[j]? = some b ∧ xs[j]? = some x ∧ ys[j]? = some y ∧ o = .tup [x, y] := by
  unfold zipHp at h
  rw [e] at h
  have h : (if b = q0 then some (HO.lst (ps.map V.ref)) else if h : ∃ (x y : V) (j : Nat), ps[j]? = some b ∧ xs[j]? = some x ∧ ys[j]? = some y then some (.tup [h.choose, h.choose_spec.choose]) else none) = some o := h
  by_cases c : b = q0
  · rw [if_pos c] at h
    exact .inl ⟨c, (Option.some.inj h).symm⟩
  · rw [if_neg c] at h
    by_cases d : ∃ (x y : V) (j : Nat), ps[j]? = some b ∧ xs[j]? = some x ∧ ys[j]? = some y
    · rw [dif_pos d] at h
      obtain ⟨k, a1, a2, a3⟩ := d.choose_spec.choose_spec
      exact .inr ⟨k, _, _, a1, a2, a3, (Option.some.inj h).symm⟩
    · rw [dif_neg d] at h; exact nomatch h
theorem zipInv {pins : List (Addr × Obj)} {σ : L2.St} {H : Hp} {s : Shared} {q0 : Addr} {xs ys : List V} {its its2 : List Value} {h2 : Heap} {ps : List Addr} {c : Nat} (I : Inv X pins σ H s) (hq : s.heap.objs.size ≤ q0) (rv : Vals xs its) (rv2 : Vals ys its2)
    (hq2 : h2.get? q0 = some (seqObj "list" (ps.map Value.ref).toArray c)) (M : Made h2 (q0 + 1) its.toArray its2.toArray ps) (l2 : ps.length = xs.length) (hn : xs.length ≤ 1000) (kp : ∀ b o, b < s.heap.objs.size → s.heap.get? b = some o → h2.get? b = some o) (tk : Nat) :
    Inv X pins σ (zipHp H q0 ps xs ys) { s with heap := h2, toks := tk } ∧ (∀ b o, H b = some o → zipHp H q0 ps xs ys b = some o) ∧ zipHp H q0 ps xs ys q0 = some (.lst (ps.map V.ref)) ∧
      ∀ (j : Nat) (p : Addr), ps[j]? = some p → ∃ x y, xs[j]? = some x ∧ ys[j]? = some y ∧ H p = none ∧ zipHp H q0 ps xs ys p = some (.tup [x, y]) := by
  have szl := sizeLine_eq
  have hq0 : H q0 = none := I.hok.fresh hq
  have old : ∀ b o, H b = some o → zipHp H q0 ps xs ys b = some o := fun b o e => zipHp_old e
  have vx : ∀ {j : Nat} {u : Value}, its[j]? = some u → ∃ x, xs[j]? = some x ∧ RelV x u := fun {j u} e => by
    have lj := (List.getElem?_eq_some_iff.mp e).1
    rw [← rv.length] at lj
    obtain ⟨u', e', r⟩ := rv.get (List.getElem?_eq_getElem lj)
    have eu : u' = u := Option.some.inj (e'.symm.trans e)
    exact ⟨_, List.getElem?_eq_getElem lj, eu ▸ r⟩
  have vy : ∀ {j : Nat} {u : Value}, its2[j]? = some u → ∃ x, ys[j]? = some x ∧ RelV x u := fun {j u} e => by
    have lj := (List.getElem?_eq_some_iff.mp e).1
    rw [← rv2.length] at lj
    obtain ⟨u', e', r⟩ := rv2.get (List.getElem?_eq_getElem lj)
    have eu : u' = u := Option.some.inj (e'.symm.trans e)
    exact ⟨_, List.getElem?_eq_getElem lj, eu ▸ r⟩
  have at_ : ∀ (j : Nat) (p : Addr), ps[j]? = some p → ∃ x y u v, xs[j]? = some x ∧ ys[j]? = some y ∧ RelV x u ∧ RelV y v ∧ IsPair h2 p u v ∧ q0 + 1 ≤ p := fun j p e => by
    obtain ⟨u, v, a, b, c, d⟩ := M.at_ j p e
    obtain ⟨x, e1, r1⟩ := vx (by simpa using a)
    obtain ⟨y, e2, r2⟩ := vy (by simpa using b)
    exact ⟨x, y, u, v, e1, e2, r1, r2, c, d⟩
  have fr : ∀ {p : Nat}, q0 + 1 ≤ p → H p = none := fun h => I.hok.fresh (by show s.heap.objs.size ≤ _; exact Nat.le_trans hq (Nat.le_of_succ_le h))
  have new : ∀ (j : Nat) (p : Addr), ps[j]? = some p → ∃ x y, xs[j]? = some x ∧ ys[j]? = some y ∧ H p = none ∧ zipHp H q0 ps xs ys p = some (.tup [x, y]) := fun j p e => by
    obtain ⟨x, y, u, v, e1, e2, _, _, _, d⟩ := at_ j p e
    exact ⟨x, y, e1, e2, fr d, zipHp_p M.inc (fr d) (Nat.ne_of_gt d) e e1 e2⟩
  have nold : ∀ b o, s.heap.get? b = some o → H b = none → zipHp H q0 ps xs ys b = none := fun b o e n => by
    have lb := Heap.lt_size e
    cases q : zipHp H q0 ps xs ys b with
    | none => rfl
    | some u =>
      rcases zipHp_new n q with ⟨r, _⟩ | ⟨j, x, y, r, _⟩
      · exact absurd r (Nat.ne_of_lt (Nat.lt_of_lt_of_le lb hq))
      · obtain ⟨_, _, _, _, _, _, _, _, _, d⟩ := at_ j b r
        have h3 : b < b := Nat.lt_of_lt_of_le (Nat.lt_of_lt_of_le lb hq) (Nat.le_of_succ_le d)
        exact absurd h3 (Nat.lt_irrefl _)
  refine ⟨I.call (ch := []) (g' := s.gens) (d' := s.drawn) (t' := tk) ⟨fun b o e _ _ _ => kp b o (Heap.lt_size e) e, fun b o e _ _ _ => ⟨o.slots, kp b o (Heap.lt_size e) e⟩, fun b o e n _ => nold b o e n, fun b o e _ => ⟨o, kp b o (Heap.lt_size e) e⟩, fun b zs e => old b _ e, fun b o u e => old b _ e, fun b zs e => ⟨#[], by rw [old b _ e]; simp⟩⟩ (fun b o e => ?_) I.bare (fun _ z => nomatch z), old, zipHp_q hq0, new⟩
  cases q : H b with
  | some u =>
    rw [old b u q] at e
    cases e
    exact (I.hok b _ q).stay (fun c v _ e => kp c v (Heap.lt_size e) e) (fun c e => old c _ e) fun c zs e => old c _ e
  | none =>
    rcases zipHp_new q e with ⟨rfl, rfl⟩ | ⟨j, x, y, r, e1, e2, rfl⟩
    · exact ⟨by rw [List.length_map, l2]; omega, ps.map Value.ref, c, vals_refs ps, hq2⟩
    · obtain ⟨x', y', u, v, e1', e2', r1, r2, hp, _⟩ := at_ j b r
      rw [e1] at e1'; rw [e2] at e2'
      cases e1'; cases e2'
      exact ⟨by show 2 ≤ sizeLine; omega, [u, v], .cons r1 (.cons r2 .nil), _, hp, rfl, _, rfl⟩
theorem pe_zipList {e e2 : Expr} {ta : TA} {p p2 pos pos2 : Pos} (hc : X.calm = true) (hgl : Gl X "list") (hml : X.mg "list" = none) (hg : Gl X "zip") (hm : X.mg "zip" = none) (ha : PA X [e, e2] ta)
    (na : starEach [e, e2] X.env = (false, eval e X.env) :: starEach [e2] X.env := by rfl) (nb : ((backTo pos2 (starEach [e2] X.env)).any fun x => x.1) = false := by rfl) :
    PE X (.Call (.Name "list" p) [.Call (.Name "zip" p2) [e, e2] [] pos2] [] pos) (tZipList X.K ta) := by
  refine ⟨fun pins s σ H Q I h => ?_⟩
  refine Call_ (ld_blt I hgl hml boot_list ?_)
  refine PyProof.Rows.callWith_type1 (PyProof.Rows.args_cons ?_ rfl) rfl rfl
  refine Call_ (ld_blt I hg hm boot_zip (PyProof.Rows.callWith_type1 (thn (ha.run pos2 pins s σ H _ I h) fun us s1 ⟨vs, H1, I1, r1, q1⟩ => ?_) na nb))
  obtain ⟨a, b, xs, ys, rfl, hqx, hqy, hl, hn, q⟩ := q1
  cases r1 with
  | cons r rr =>
    cases rr with
    | cons r' rr =>
      cases rr
      cases r
      cases r'
      obtain ⟨its, rv, p1, _⟩ := I1.list hqx
      obtain ⟨its2, rv2, p2, _⟩ := I1.list hqy
      have la : a < s1.heap.objs.size := p1.lt
      have lb : b < s1.heap.objs.size := p2.lt
      refine call_zip_2 p1.isList p2.isList fun h' hz hTI hTO h1 h2 hsz hk => PyProof.Rows.args_nil ?_
      have I2 : Inv X pins σ H1 { s1 with heap := h' } := I1.kept (t' := s1.toks) hk
      have lx := rv.length
      have ly := rv2.length
      refine call_list_zip (n := xs.length) (s := { s1 with heap := h' }) (I1.ok.hd hc) (PySem.W.ktu_apart s1.heap.objs.size a b la lb) hz hTI ⟨_, _, hTO⟩ h1 h2 (p1.isList.at fun o e => hk _ o e) (p2.isList.at fun o e => hk _ o e) (by rw [List.size_toArray, ← lx]) (by rw [List.size_toArray, ← ly, hl]) hn fun h2 tk ps c l2 hq2 M kp => ?_
      obtain ⟨J, g1, g2, g3⟩ := zipInv (I := I1) (q0 := h'.objs.size) (by omega) rv rv2 hq2 M l2 (by omega) (fun b o lb e => kp b o (Nat.ne_of_lt (Nat.lt_of_lt_of_le lb (Nat.le_add_right _ _))) (Nat.ne_of_lt (Nat.lt_of_lt_of_le lb (Nat.le_add_right _ _))) (Nat.ne_of_lt lb) (Nat.ne_of_lt (Nat.lt_of_lt_of_le lb (Nat.le_add_right _ _))) (hk b o e)) tk
      exact ⟨.ref _, _, J, rfl, q _ _ ps g1 (I1.hok.fresh (show s1.heap.objs.size ≤ h'.objs.size by omega)) g2 l2 g3⟩
end
section
variable {P : Pm} {ρ : List En}
theorem dqA_zip {H : Hp} : ∀ {ps : List Addr} {vs us : List V} {xs ys : List PyData}, DqA H vs xs → DqA H us ys → ps.length = vs.length → vs.length = us.length → (∀ (j : Nat) (p : Addr), ps[j]? = some p → ∃ x y, vs[j]? = some x ∧ us[j]? = some y ∧ H p = some (.tup [x, y])) → DqA H (ps.map V.ref) (zipD xs ys)
  | [], [], _, [], _, _, _, _, _, _ => .nil
  | p :: r, v :: vs, u :: us, x :: xs, y :: ys, .cons a b, .cons c d, hl, hl2, h => by
    obtain ⟨x', y', e1, e2, e3⟩ := h 0 p rfl
    cases e1; cases e2
    exact .cons (.tup e3 (.cons a (.cons c .nil))) (dqA_zip b d (by simpa using hl) (by simpa using hl2) fun j p e => by
      obtain ⟨x', y', e1, e2, e3⟩ := h (j + 1) p (by simpa using e)
      exact ⟨x', y', by simpa using e1, by simpa using e2, e3⟩)
theorem de_zipList {ta : TA} {Φ : KD} (h : Da P ta ρ fun xs => ∃ as bs, xs = [.d (.list as), .d (.list bs)] ∧ as.length = bs.length ∧ as.length ≤ 1000 ∧ Φ (.d (.list (zipD as bs)))) : De P (tZipList P.K ta) ρ Φ := by
  intro H0 G H σ o rl Q k
  refine h H0 G H σ o rl _ fun vs G1 H1 x g1 rv ⟨as, bs, e, hl, hn, hΦ⟩ => ?_
  subst e
  obtain ⟨v, u, rfl, rv1, rv2⟩ := rvL2 rv
  have rv1 : Dq G1 v (.list as) := rv1
  have rv2 : Dq G1 u (.list bs) := rv2
  cases rv1 with
  | @lst a xs _ ha hd =>
  cases rv2 with
  | @lst b ys _ hb hd2 =>
  have lx := dpA_len hd
  have ly := dpA_len hd2
  refine ⟨a, b, xs, ys, rfl, .inl (.inl (g1.ok.sub _ _ ha)), .inl (.inl (g1.ok.sub _ _ hb)), by omega, by omega, fun H2 q ps old hq hq2 hl2 hps => ?_⟩
  have g2 : Grow P G1 H1 (open Classical in fun b => if H1 b = none then H2 b else G1 b) H2 := by
    refine ⟨fun b o e _ => old b o e, fun b e => .inl (if_neg e), ⟨fun b o e => ?_, fun a c ns e => ?_, fun a f => ?_⟩⟩
    · by_cases n : H1 b = none
      · have e : (if H1 b = none then H2 b else G1 b) = some o := e
        rw [if_pos n] at e; exact e
      · have e : (if H1 b = none then H2 b else G1 b) = some o := e
        rw [if_neg n] at e; exact old _ _ (g1.ok.sub _ _ e)
    · obtain ⟨⟨s, ov, t, z, e1⟩, e2⟩ := g1.ok.feed a c ns e
      exact ⟨⟨s, ov, t, z, old _ _ e1⟩, old _ _ e2⟩
    · obtain ⟨c, s, ov, t, e⟩ := g1.ok.fsome f
      show (if H1 a = none then H2 a else G1 a) = none
      rw [if_neg (by rw [e]; exact fun z => nomatch z)]
      exact g1.ok.nf a f
  have at2 : ∀ {b o}, H1 b = none → H2 b = some o → (open Classical in fun b => if H1 b = none then H2 b else G1 b) b = some o := fun {b o} n e => by
    show (if H1 b = none then H2 b else G1 b) = some o
    rw [if_pos n]; exact e
  refine k _ _ _ (.d (.list (zipD as bs))) (g1.trans g2) (Dq.lst (at2 hq hq2) ?_) hΦ
  refine dqA_zip (dpA_up (g2.same g1.ok) hd) (dpA_up (g2.same g1.ok) hd2) hl2 (by omega) fun j p e => ?_
  obtain ⟨x, y, e1, e2, e3, e4⟩ := hps j p e
  exact ⟨x, y, e1, e2, at2 e3 e4⟩
end
end Z

/-! # ZL9 -/
set_option Elab.async false
set_option linter.all false
set_option maxRecDepth 100000
set_option maxHeartbeats 1000000
namespace Z
open PySem PySem.Spec PyProof.Rows L2 Fl
theorem sort_same {l ys : List Str} (hl : l.Pairwise SLt) (p : ys.Perm l) (h : sortedS ys = true) : ys = l := by
  have nd := slt_nd hl
  have io := sort_inc h (p.nodup_iff.mpr nd)
  have s := sub_of hl io fun x hx => p.mem_iff.mp hx
  exact s.eq_of_length p.length_eq
theorem shaped_strs2 {l : List Str} (h : ∀ s ∈ l, OkS s) : SeqAt.shaped (.list (l.map .str)) = true ∧ SeqAt.shaped (.tuple (l.map .str)) = true := by
  have h1 : PyData.canLayAll0 (l.map .str) = true := lay_all fun d hd => by
    obtain ⟨p, hp, rfl⟩ := List.mem_map.mp hd
    exact h p hp
  have h2 : PyData.depthAll (l.map .str) ≤ 0 := depth_all fun d hd => by
    obtain ⟨p, hp, rfl⟩ := List.mem_map.mp hd
    unfold PyData.depth; omega
  unfold SeqAt.shaped
  rw [PyData.canLay0.eq_5, PyData.depth.eq_1, PyData.canLay0.eq_6, PyData.depth.eq_2, h1, Bool.true_and]
  exact ⟨decide_eq_true (by omega), decide_eq_true (by omega)⟩
section
variable {Pr : Program} {w : World} {K : PySem.W.Frag} {mg : Str → Option Value} {base : Heap} {C : Addr} {f : Addr} {fd : FuncData}
abbrev N__law_is_lot : List Str := ["_law_town", "_law_seat", "_law_item", "_law_one"]
theorem sc__law_is_lot : FnScope N__law_is_lot ["_law_town", "_law_seat", "_law_item"] (defScope (top 78)) := ⟨rfl, rfl, rfl, by decide +kernel, rfl, by decide +kernel, by decide +kernel⟩
theorem c__law_is_lot (T : Tx K mg C) (F : FnP K "_law_is_lot" (top 78) [] f fd) (g : mg "_law_is_lot" = some (.ref f)) : C8.Cal Pr w K mg base 1 "_law_is_lot" (mkSp K C L_lislot) [] := by
  have sc := sc__law_is_lot
  refine calN F g (fun _ _ _ _ _ _ us hl => match us, hl with | [_, _, _], _ => rfl) (okD F sc (fun xs Φ h => by obtain ⟨a, b, c, d, rfl, _⟩ := h; rfl) (fun cdv A outer s H E hr => ?_))
  refine ⟨_, (pss_cons (ps_if (PW.pt (pw_or (pt_not (pt_val (pe_callB (call_isiK' K) (by rfl) T.m_isinstance boot_isinstance (pa_cons (pv 2) (pa_cons (pe_bltn (v := .ty "tuple") (by rfl) T.m_tuple boot_tuple rfl) pa_nil))))) (pw_or1 (pt_cmpR (op_eqK K hr) (pv 2) (pe_tup pa_nil) (nomark _))))) (pss_one (ps_ret pe_bl)) pss_nil)
      (pss_cons (ps_if (pt_cmpR (op_neK K hr) (pe_lc (own := [("_law_one", 3)]) rfl sc.nd (pi_tupK K (pv 2)) (blkOk_by (by exact rfl)) (fun _ _ _ _ _ => (pg_name (i := 3) sc.nd rfl (.inl rfl))) (fun _ _ _ _ _ => pts_one (PW.pt (pw_or (pt_not (pt_val (pe_callB (call_isiK' K) (by rfl) T.m_isinstance boot_isinstance (pa_cons (pv 3) (pa_cons (pe_bltn (v := .ty "str") (by rfl) T.m_str boot_str rfl) pa_nil))))) (pw_or (pt_cmpR (op_ninK K) (pv 3) (pe_ix (ix_seqK K) (pv 0) pe_int (fun _ _ => rfl)) rfl) (pw_or1 (pt_cmpR (op_eqK K hr) (pv 3) (pv 1) (nomark _))))))) (fun _ _ _ _ _ => (pv 3))) (pe_lst pa_nil) (nomark _)) (pss_one (ps_ret pe_bl)) pss_nil)
      (pss_one (ps_ret (pe_cmpR (op_eqK K hr) (pe_callTy (call_lstK K) (by rfl) T.m_list boot_list (pa_cons (pv 2) pa_nil)) (pe_sortSet rfl (by rfl) T.m_sorted (by rfl) T.m_set (pv 2)) (nomark _)))))), fun fd' xs Φ h => ?_⟩
  obtain ⟨hs, ws, s, l, rfl, gn, L, q⟩ := h
  have ok : ∀ x ∈ l, OkS x := fun x hx => name_ok (gn.nm x (L.sub x hx).1)
  have lh := gn.lh
  have ll := lot_len gn L
  refine ds_seq (ds_if (dt_or (dt_not (dt_b (de_cb (da_cons (de_var rfl (da_cons (de_ty (da_nil (dc_isi (kit_tup _) ⟨true, rfl, ?_⟩)))))))))))
  show Dt _ _ _ _
  refine dt_test (de_op (de_var rfl (de_tup (da_nil ⟨[], rfl, szn rfl, DOp.inr (dop_eqD (shaped_strs2 ok).2 shaped_nil.2 ⟨_, rfl, ?_⟩)⟩))))
  have e0 : PyData.eqv (hoD l) (.tuple []) = false := by
    rw [hoD, (eqv_nil _).2]
    have := L.ne
    simpa using this
  rw [e0]
  refine ds_next (ds_seq (ds_if (dt_test (de_nnil (de_lcA l (fun x => .d (.str x)) (fun _ => none) (di_tup (de_var rfl ⟨l.map .str, rfl, by rw [List.map_map]; exact ⟨rfl, szs (by omega)⟩⟩)) (fun x hx => dg_name (by decide) ?_) (de_lst (da_nil ⟨[], rfl, szn rfl, [], by rw [List.filterMap_eq_nil_iff.mpr (fun _ _ => rfl)], shaped_nil.1, rfl, false, rfl, ?_⟩)))))))
  · obtain ⟨m1, m2⟩ := L.sub x hx
    refine dt_or (dt_not (dt_b (de_cb (da_cons (de_var rfl (da_cons (de_ty (da_nil (dc_isi (kit_str _) ⟨true, rfl, ?_⟩)))))))))
    show Dt _ _ _ _
    refine dt_or (dt_test (de_ninH (de_var rfl (de_net0 (hs := hs) (ws := ws) (de_var rfl ⟨rfl, x, hs, _, rfl, rfl, .inr rfl, false, by rw [decide_eq_true m1]; rfl, ?_⟩)))))
    show Dt _ _ _ _
    exact dt_test (de_ss (de_var rfl (de_var rfl ⟨_, _, rfl, rfl, false, by rw [decide_eq_false m2], rfl⟩)))
  · refine ds_next (ds_ret (de_op (de_cb (da_cons (de_var rfl (da_nil (dc_lst (ds := l.map .str) (.inr rfl) (de_sortSet (de_var rfl ⟨l, rfl, slt_nd L.inc, by omega, fun ys p hs => ?_⟩)))))))))
    rw [sort_same L.inc p hs]
    refine DOp.inr (dop_eqD (shaped_strs2 ok).1 (shaped_strs2 ok).1 ?_)
    have : PyData.eqv (.list (l.map .str)) (.list (l.map .str)) = true := by
      rw [PyData.eqv.eq_def]
      show PyData.eqvAll _ _ = true
      rw [eqv_strs]; exact decide_eq_true rfl
    rw [this]; exact q
end
end Z

/-! # ZLA -/
set_option Elab.async false
set_option linter.all false
set_option maxRecDepth 100000
set_option maxHeartbeats 1000000
namespace Z
open PySem PySem.Spec PyProof.Rows L2 Fl
theorem de_neg {P : Pm} {ρ : List En} {te : TE} {Φ : KD} (h : De P te ρ fun x => ∃ i : Int, x = .d (.int i) ∧ Φ (.d (.int (-i)))) : De P (tUn (rU fun i => .int (-i)) te) ρ Φ := by
  intro H0 G H σ o rl Q k
  refine h H0 G H σ o rl _ fun v G1 H1 x g1 rv ⟨i, e, q⟩ => ?_
  subst e
  cases rv
  exact ⟨i, rfl, k _ G1 H1 (.d (.int (-i))) g1 (Dq.int _) q⟩
theorem cut_last (ds : List PyData) : cutD ds (some (-1)) none = ds.drop (ds.length - 1) := by
  unfold cutD
  have e1 : HT.sIx ds.length 0 (some (-1)) = ds.length - 1 := by
    rw [show HT.sIx ds.length 0 (some (-1)) = ((-1 : Int) + (ds.length : Int)).toNat from rfl]; omega
  have e2 : HT.sIx ds.length ds.length none = ds.length := rfl
  rw [e1, e2]
  exact List.take_of_length_le (by rw [List.length_drop]; omega)
theorem drop_last : ∀ (l : List Str) (h : l ≠ []), l.drop (l.length - 1) = [l.getLast h]
  | [a], _ => rfl
  | a :: b :: r, _ => by
    have ih := drop_last (b :: r) (by simp)
    rw [List.getLast_cons (by simp), ← ih]
    rfl
/-- the name that no town has -/
abbrev zedS : Str := "zed"
theorem sm_strs {l : List Str} (h : ∀ s ∈ l, s.length ≤ 100000) (hl : l.length ≤ 1000) : SmT (hoD l) := fun ds e => by
  have e := PyData.tuple.inj e
  subst e
  refine ⟨by rw [List.length_map]; exact hl, fun d hd s es => ?_⟩
  obtain ⟨z, hz, ez⟩ := List.mem_map.mp hd
  rw [es] at ez
  have := PyData.str.inj ez
  rw [← this]; exact h z hz
theorem sm_not {x : PyData} (h : ∀ ds, x ≠ .tuple ds) : SmT x := fun ds e => absurd e (h ds)
theorem nm_short {s : Str} (h : nameS s = true) : s.length ≤ 100000 := name_sm h s rfl
/-- a value that is surely out -/
def OutV (hs : List Str) (s : Str) (x : PyData) : Prop := NoLot hs s x ∧ SmT x
theorem out_has {hs : List Str} {ws : List (Str × Str)} {s : Str} {x : PyData} {n r : PyData} {p : List PyData} {Φ : KD} (gn : GN hs ws) (e : Dv.ro n r p = roD hs ws s) (h : OutV hs s x) (q : Φ (.d (.bool false))) : L_ohas [.ro n r p, .d x] Φ :=
  ⟨hs, ws, s, x, by rw [e], gn, h.2, fun _ => q, fun l _ el L => absurd L (h.1 l el)⟩
theorem no_tup {hs : List Str} {s : Str} {x : PyData} (h : ∀ ds, x ≠ .tuple ds) : OutV hs s x := ⟨fun l e => absurd e (h _), sm_not h⟩
section
variable {hs : List Str} {ws : List (Str × Str)} {s : Str} {l : List Str}
/-- the values, as the law makes them -/
def odds1 (hs : List Str) (s : Str) (l : List Str) : List PyData := [.none, .int 0, .bool true, .str "", .str s, hoD hs, hoD [s], .list (l.map .str), if decide (1 < ((l.length : Nat) : Int)) = true then hoD l.reverse else .tuple []]
def odds2 (hs : List Str) (ws : List (Str × Str)) (l : List Str) : List PyData := [.tuple (l.map .str ++ (l.map .str).drop ((l.map PyData.str).length - 1)), .tuple (l.map .str ++ [.none]), .tuple [], .list [], netD hs ws, .tuple (l.map fun n => .tuple [.str n])]
theorem out_all (gn : GN hs ws) (sm : s ∈ hs) (hz : zedS ∉ hs) (l0 : l ≠ []) (li : l.Pairwise SLt) (ls : ∀ x ∈ l, x ∈ hs) : ∀ x ∈ (odds1 hs s l ++ [hoD (l ++ [zedS])]) ++ odds2 hs ws l, OutV hs s x := by
  have lh := gn.lh
  have ll : l.length ≤ 20 := by
    have := nodup_le (slt_nd li) (m := hs) ls
    omega
  have sh : ∀ x ∈ l, x.length ≤ 100000 := fun x hx => nm_short (gn.nm x (ls x hx))
  have shs : ∀ x ∈ hs, x.length ≤ 100000 := fun x hx => nm_short (gn.nm x hx)
  intro x hx
  simp only [odds1, odds2, List.mem_append, List.mem_cons, List.not_mem_nil, or_false] at hx
  rcases hx with ((rfl | rfl | rfl | rfl | rfl | rfl | rfl | rfl | rfl) | rfl) | rfl | rfl | rfl | rfl | rfl | rfl
  · exact no_tup fun _ e => nomatch e
  · exact no_tup fun _ e => nomatch e
  · exact no_tup fun _ e => nomatch e
  · exact no_tup fun _ e => nomatch e
  · exact no_tup fun _ e => nomatch e
  · exact ⟨no_town sm, sm_strs shs (by omega)⟩
  · exact ⟨no_seat, sm_strs (fun x hx => by cases List.mem_singleton.mp hx; exact shs s sm) (by simp)⟩
  · exact no_tup fun _ e => nomatch e
  · by_cases c : 1 < ((l.length : Nat) : Int)
    · rw [decide_eq_true c, if_pos rfl]
      exact ⟨no_rev li (by omega), sm_strs (fun x hx => sh x (List.mem_reverse.mp hx)) (by rw [List.length_reverse]; omega)⟩
    · rw [decide_eq_false c]
      exact ⟨no_nil, sm_strs (l := []) (fun _ h => nomatch h) (by simp)⟩
  · exact ⟨no_zed hz, sm_strs (fun x hx => (List.mem_append.mp hx).elim (sh x) fun h => by rw [List.mem_singleton.mp h]; decide) (by rw [List.length_append]; simp; omega)⟩
  · have e : PyData.tuple (l.map .str ++ (l.map .str).drop ((l.map PyData.str).length - 1)) = hoD (l ++ [l.getLast l0]) := by
      rw [hoD, List.map_append, List.length_map, ← List.map_drop]
      congr 2
      rw [drop_last l l0]
    rw [e]
    exact ⟨no_twice (List.getLast_mem l0), sm_strs (fun x hx => (List.mem_append.mp hx).elim (sh x) fun h => by cases List.mem_singleton.mp h; exact sh _ (List.getLast_mem l0)) (by rw [List.length_append]; simp; omega)⟩
  · refine ⟨no_mem (d := .none) (by simp) (fun _ e => nomatch e), fun ds e => ?_⟩
    have e := PyData.tuple.inj e
    subst e
    refine ⟨by rw [List.length_append, List.length_map]; simp; omega, fun d hd t et => ?_⟩
    rcases List.mem_append.mp hd with hd | hd
    · obtain ⟨z, hz, ez⟩ := List.mem_map.mp hd
      rw [et] at ez
      have := PyData.str.inj ez
      rw [← this]; exact sh z hz
    · cases List.mem_singleton.mp hd; exact nomatch et
  · exact ⟨no_nil, sm_strs (l := []) (fun _ h => nomatch h) (by simp)⟩
  · exact no_tup fun _ e => nomatch e
  · refine ⟨no_mem (d := hoD hs) (by simp) (fun _ e => nomatch e), fun ds e => ?_⟩
    have e := PyData.tuple.inj e
    subst e
    refine ⟨by simp, fun d hd t et => ?_⟩
    subst et
    simp [hoD, wiD] at hd
  · have l1 : ∃ a, a ∈ l := List.exists_mem_of_ne_nil l l0
    obtain ⟨a, ha⟩ := l1
    refine ⟨no_mem (d := .tuple [.str a]) (List.mem_map.mpr ⟨a, ha, rfl⟩) (fun _ e => nomatch e), fun ds e => ?_⟩
    have e := PyData.tuple.inj e
    subst e
    refine ⟨by rw [List.length_map]; omega, fun d hd t et => ?_⟩
    obtain ⟨z, hz, ez⟩ := List.mem_map.mp hd
    rw [et] at ez; exact nomatch ez
end
def L_lout : Law := fun xs Φ => ∃ hs ws s, xs = [.fd, roD hs ws s, .d (netD hs ws), .d (.str s)] ∧ GN hs ws ∧ s ∈ hs ∧ hs.length ≤ 7 ∧ zedS ∉ hs ∧ Φ (.d (.bool true))
abbrev N__law_are_values_out : List Str := ["_law_feed_here", "_law_one", "_law_town", "_law_seat", "_law_some", "_law_odds", "_law_name", "_law_odd"]
theorem sc__law_are_values_out : FnScope N__law_are_values_out ["_law_feed_here", "_law_one", "_law_town", "_law_seat"] (defScope (top 87)) := ⟨rfl, rfl, rfl, by decide +kernel, rfl, by decide +kernel, by decide +kernel⟩
section
variable {Pr : Program} {w : World} {K : PySem.W.Frag} {mg : Str → Option Value} {base : Heap} {C : Addr} {f : Addr} {fd : FuncData}
theorem c__law_are_values_out (T : Tx K mg C) (c__law_any : C8.Cal Pr w K mg base 2 "_law_any" (mkSp K C L_lany) []) (c__law_lots : C8.Cal Pr w K mg base 1 "_law_lots" (mkSp K C L_lots) []) (o_contains : Own Pr w K mg base 5 C "__contains__" (mkSp K C L_ohas))
    (F : FnP K "_law_are_values_out" (top 87) [] f fd) (g : mg "_law_are_values_out" = some (.ref f)) : C8.Cal Pr w K mg base 6 "_law_are_values_out" (mkSp K C L_lout) [] := by
  have sc := sc__law_are_values_out
  refine calN F g (fun _ _ _ _ _ _ us hl => match us, hl with | [_, _, _, _], _ => rfl) (okD F sc (fun xs Φ h => by obtain ⟨a, b, c, rfl, _⟩ := h; rfl) (fun cdv A outer s H E hr => ?_))
  refine ⟨_, (pss_cons (ps_set (i := 4) sc.nd rfl (.inl rfl) (C8.pe_c c__law_any hr (by decide) (by rfl) (pa_cons (pv 0) (pa_cons (pe_op (op_addK K) (C8.pe_c c__law_lots hr (by decide) (by rfl) (pa_cons (pv 2) (pa_cons (pv 3) pa_nil))) (pe_lst (pa_cons (pe_ix (ix_seqK K) (pv 2) pe_int (fun _ _ => rfl)) pa_nil))) pa_nil))))
      (pss_cons (ps_set (i := 5) sc.nd rfl (.inl rfl) (pe_lst (pa_cons pe_non (pa_cons pe_int (pa_cons pe_bl (pa_cons pe_str (pa_cons (pv 3) (pa_cons (pe_ix (ix_seqK K) (pv 2) pe_int (fun _ _ => rfl)) (pa_cons (pe_tup (pa_cons (pv 3) pa_nil)) (pa_cons (pe_callTy (call_lstK K) (by rfl) T.m_list boot_list (pa_cons (pv 4) pa_nil)) (pa_cons (pe_ifExp (pt_cmpR op_gtA (pe_callB (call_lenK K) (by rfl) T.m_len boot_len (pa_cons (pv 4) pa_nil)) pe_int (nomark _)) (Z.pe_revT (pv 4)) (pe_tup pa_nil)) pa_nil)))))))))))
      (pss_cons (ps_expr (pe_bm PySem.F.plainAttrs_list PySem.F.slot_list_append PySem.F.type_list_append mt_append (pv 5) (pa_cons (pe_op (op_addK K) (pv 4) (pe_tup (pa_cons pe_str pa_nil))) pa_nil)))
      (pss_cons (ps_set (i := 5) sc.nd rfl (.inl rfl) (pe_op (op_addK K) (pv 5) (pe_lst (pa_cons (pe_op (op_addK K) (pv 4) (pe_slice (sl_anyK K) (pv 4) (po_some (pe_un un_neg pe_int)) po_none)) (pa_cons (pe_op (op_addK K) (pv 4) (pe_tup (pa_cons pe_non pa_nil))) (pa_cons (pe_tup pa_nil) (pa_cons (pe_lst pa_nil) (pa_cons (pv 2) (pa_cons (pe_callTy (call_tupK K) (by rfl) T.m_tuple boot_tuple (pa_cons (pe_lc (own := [("_law_name", 6)]) rfl sc.nd (pi_tupK K (pv 4)) (blkOk_by (by exact rfl)) (fun _ _ _ _ _ => (pg_name (i := 6) sc.nd rfl (.inl rfl))) (fun _ _ _ _ _ => pts_nil) (fun _ _ _ _ _ => (pe_tup (pa_cons (pv 6) pa_nil)))) pa_nil)) pa_nil)))))))))
      (pss_one (ps_ret (pe_cmpR (op_eqK K hr) (pe_lc (own := [("_law_odd", 7)]) rfl sc.nd (pi_listK K (pv 5)) (blkOk_by (by exact rfl)) (fun _ _ _ _ _ => (pg_name (i := 7) sc.nd rfl (.inl rfl))) (fun _ _ _ _ _ => pts_one (pt_cmpR (s_ownIn o_contains hr (by decide)) (pv 7) (pv 1) rfl)) (fun _ _ _ _ _ => (pv 7))) (pe_lst pa_nil) (nomark _)))))))), fun fd' xs Φ h => ?_⟩
  obtain ⟨hs, ws, s, rfl, gn, sm, hl, hz, q⟩ := h
  have ln := lotsL_len hs s hl
  refine ds_seq (ds_setz (de_call0 (da_cons (de_var rfl (da_cons (de_addL (de_call0 (da_cons (de_var rfl (da_cons (de_var rfl (da_nil ⟨hs, ws, s, rfl, hl, ?_⟩))))))))))))
  refine de_lst (da_cons (de_net0 (hs := hs) (ws := ws) (de_var rfl ⟨rfl, da_nil ⟨[hoD hs], rfl, szn rfl, _, _, rfl, rfl, ?_, da_nil ⟨_, _, rfl, .inl rfl, ?_, ?_, fun d hd => ?_⟩⟩⟩)))
  · rw [List.length_map]; exact szl (by simp; omega)
  · rw [List.length_append, List.length_map]; simp
  · rw [List.length_append, List.length_map]; simp; omega
  obtain ⟨l, rfl, l0, li, ls⟩ : ∃ l, d = hoD l ∧ l ≠ [] ∧ l.Pairwise SLt ∧ ∀ x ∈ l, x ∈ hs := by
    rcases List.mem_append.mp hd with hd | hd
    · obtain ⟨l, hl, rfl⟩ := List.mem_map.mp hd
      have L := (lotsL_mem gn.inc).mp hl
      exact ⟨l, rfl, L.ne, L.inc, fun x hx => (L.sub x hx).1⟩
    · cases List.mem_singleton.mp hd
      exact ⟨hs, rfl, List.length_pos_iff.mp gn.h0, gn.inc, fun _ h => h⟩
  have lh := gn.lh
  have ll : l.length ≤ 20 := by
    have := nodup_le (slt_nd li) (m := hs) ls
    omega
  have out := out_all gn sm hz l0 li ls
  refine ds_seq (ds_set (dw_lst (da_cons (de_non (da_cons (de_int (da_cons (de_bl (da_cons (de_str (da_cons (de_var rfl (da_cons (de_net0 (hs := hs) (ws := ws) (de_var rfl ⟨rfl, da_cons (de_tup (da_cons (de_var rfl (da_nil ⟨[.str s], rfl, szn rfl, da_cons (de_cb (da_cons (de_var rfl (da_nil (dc_lst (ds := l.map .str) (.inr rfl) (da_cons (De.mono (Φ := fun x => x = .d (if decide (1 < ((l.length : Nat) : Int)) = true then hoD l.reverse else .tuple [])) ?_ ?_)))))))⟩))))⟩)))))))))))))))
  · refine de_if (dt_test (de_gtI (de_cb (da_cons (de_var rfl (da_nil (dc_len (.inr rfl) (de_int ⟨_, _, rfl, rfl, _, rfl, ?_⟩))))))))
    rw [List.length_map]
    by_cases c : 1 < ((l.length : Nat) : Int)
    · rw [decide_eq_true c]
      exact de_revT (de_var rfl ⟨l.map .str, rfl, by rw [hoD, List.map_reverse]; rfl⟩)
    · rw [decide_eq_false c]
      exact de_tup (da_nil ⟨[], rfl, szn rfl, rfl⟩)
  rintro x rfl
  refine da_nil ⟨odds1 hs s l, rfl, szn rfl, ?_⟩
  refine ds_seq (ds_append (ds := odds1 hs s l) rfl rfl (de_addT (de_var rfl (de_tup (da_cons (de_str (da_nil ⟨[.str zedS], rfl, szn rfl, l.map .str, [.str zedS], rfl, rfl, ?_, hoD (l ++ [zedS]), by rw [hoD, List.map_append]; rfl, szs (by show 9 ≤ _; decide), ?_⟩)))))))
  · rw [List.length_map]; exact szl (by simp; omega)
  refine ds_frz (ds_seq (ds_setz (de_addL (de_var rfl (de_lst (da_cons (de_addT (de_var rfl (de_sl (de_var rfl (dp_some (de_neg (de_int ⟨1, rfl, -1, rfl, dp_none ⟨l.map .str, .inr ⟨rfl, l.map .str, _, rfl, rfl, ?_, ?_⟩⟩⟩)))))))))))))
  · rw [cut_last, List.length_drop, List.length_map]; exact szl (by omega)
  rw [cut_last]
  refine da_cons (de_addT (de_var rfl (de_tup (da_cons (de_non (da_nil ⟨[.none], rfl, szn rfl, l.map .str, [.none], rfl, rfl, ?_, ?_⟩))))))
  · rw [List.length_map]; exact szl (by simp; omega)
  refine da_cons (de_tup (da_nil ⟨[], rfl, szn rfl, da_cons (de_lst (da_nil ⟨[], rfl, szn rfl, da_cons (de_var rfl (da_cons (de_cb (da_cons (de_lcB l (fun n => .d (.str n)) (fun n => .tuple [.str n]) (di_tup (de_var rfl ⟨l.map .str, rfl, by rw [List.map_map]; exact ⟨rfl, szs (by omega)⟩⟩)) (fun n hn => dg_name (by decide) (de_tup (da_cons (de_var rfl (da_nil ⟨[.str n], rfl, szn rfl, rfl⟩))))) (da_nil (dc_tupL (da_nil ⟨odds2 hs ws l, rfl, szn rfl, odds1 hs s l ++ [hoD (l ++ [zedS])], odds2 hs ws l, rfl, rfl, szn rfl, ?_⟩))))))))⟩))⟩))
  refine ds_ret (de_op (de_lcA ((odds1 hs s l ++ [hoD (l ++ [zedS])]) ++ odds2 hs ws l) (fun x => .d x) (fun _ => none) (di_list (de_var rfl ⟨_, rfl, rfl, szs (by show 16 ≤ _; decide)⟩)) (fun x hx => dg_name (by decide) (dt_test (de_op (de_var rfl (de_var rfl (dop_ownIn (neg := false) (out_has gn rfl (out x hx) ⟨false, rfl, false, rfl, rfl⟩))))))) (de_lst (da_nil ⟨[], rfl, szn rfl, ?_⟩))))
  rw [List.filterMap_eq_nil_iff.mpr (fun _ _ => rfl)]
  exact DOp.inr (dop_eqD shaped_nil.1 shaped_nil.1 (by rw [(eqv_nil []).1]; exact q))
end
end Z

/-! # ZGd -/
set_option Elab.async false
set_option linter.all false
set_option maxRecDepth 100000
set_option maxHeartbeats 1000000
/-! Data that repr shows: small leaves, a bound of the weight. -/
namespace Z
open PySem PySem.Spec PyProof.Rows L2 Fl
structure Gd (W D : Nat) (d : PyData) : Prop where
  sh : d.showable = true
  nd : d.hasDict = false
  ls : d.leavesShort 30 = true
  wt : d.weight ≤ W
  dp : d.depth ≤ D
structure GdA (W D : Nat) (ds : List PyData) : Prop where
  sh : PyData.showableAll ds = true
  nd : PyData.hasDictAll ds = false
  ls : PyData.leavesShortAll 30 ds = true
  wt : PyData.weightAll ds ≤ W
  dp : PyData.depthAll ds ≤ D
theorem Gd.up {W D W' D' : Nat} {d : PyData} (h : Gd W D d) (h1 : W ≤ W') (h2 : D ≤ D') : Gd W' D' d := ⟨h.sh, h.nd, h.ls, Nat.le_trans h.wt h1, Nat.le_trans h.dp h2⟩
theorem gd_nil {W D : Nat} : GdA W D [] := ⟨rfl, rfl, rfl, Nat.zero_le _, Nat.zero_le _⟩
theorem gd_cons {W W' D : Nat} {d : PyData} {ds : List PyData} (h : Gd W D d) (t : GdA W' D ds) : GdA (W + 1 + W') D (d :: ds) where
  sh := by show (d.showable && PyData.showableAll ds) = true; rw [h.sh, t.sh]; rfl
  nd := by show (d.hasDict || PyData.hasDictAll ds) = false; rw [h.nd, t.nd]; rfl
  ls := by show (d.leavesShort 30 && PyData.leavesShortAll 30 ds) = true; rw [h.ls, t.ls]; rfl
  wt := by
    have h1 := h.wt
    have h2 := t.wt
    show d.weight + 1 + PyData.weightAll ds ≤ _
    omega
  dp := Nat.max_le.mpr ⟨h.dp, t.dp⟩
theorem gd_all {W D : Nat} : ∀ {ds : List PyData}, (∀ d ∈ ds, Gd W D d) → GdA (ds.length * (W + 1)) D ds
  | [], _ => gd_nil
  | d :: ds, h => by
    have := gd_cons (h d List.mem_cons_self) (gd_all (ds := ds) fun x hx => h x (List.mem_cons_of_mem _ hx))
    have e : (d :: ds).length * (W + 1) = W + 1 + ds.length * (W + 1) := by rw [List.length_cons, Nat.add_mul, Nat.one_mul, Nat.add_comm]
    rw [e]; exact this
theorem gd_tup {W D : Nat} {ds : List PyData} (h : GdA W D ds) : Gd W (D + 1) (.tuple ds) := ⟨by rw [PyData.showable.eq_def]; exact h.sh, by rw [PyData.hasDict.eq_def]; exact h.nd, by rw [PyData.leavesShort.eq_def]; exact h.ls, by rw [PyData.weight.eq_def]; exact h.wt, by rw [PyData.depth.eq_def]; exact Nat.succ_le_succ h.dp⟩
theorem gd_lst {W D : Nat} {ds : List PyData} (h : GdA W D ds) : Gd W (D + 1) (.list ds) := ⟨by rw [PyData.showable.eq_def]; exact h.sh, by rw [PyData.hasDict.eq_def]; exact h.nd, by rw [PyData.leavesShort.eq_def]; exact h.ls, by rw [PyData.weight.eq_def]; exact h.wt, by rw [PyData.depth.eq_def]; exact Nat.succ_le_succ h.dp⟩
theorem gd_non {D : Nat} : Gd 0 D .none := ⟨rfl, rfl, rfl, Nat.le_refl _, Nat.zero_le _⟩
theorem gd_bl {D : Nat} {b : Bool} : Gd 0 D (.bool b) := ⟨rfl, rfl, rfl, Nat.le_refl _, Nat.zero_le _⟩
theorem int_facts : ∀ n : Nat, n < 1200 → (PyData.int (n : Int)).showable = true ∧ (PyData.int (n : Int)).leavesShort 30 = true ∧ (PyData.int (n : Int)).weight ≤ 20 := by
  have h : (List.range 1200).all (fun n => (PyData.int (n : Int)).showable && (PyData.int (n : Int)).leavesShort 30 && decide ((PyData.int (n : Int)).weight ≤ 20)) = true := by decide +kernel
  intro n hn
  have := List.all_eq_true.mp h n (List.mem_range.mpr hn)
  simp only [Bool.and_eq_true, decide_eq_true_eq] at this
  exact ⟨this.1.1, this.1.2, this.2⟩
theorem gd_int {D : Nat} {n : Nat} (h : n < 1200) : Gd 20 D (.int (n : Int)) :=
  let ⟨a, b, c⟩ := int_facts n h
  ⟨a, rfl, b, c, Nat.zero_le _⟩
theorem gd_str {D : Nat} {s : Str} (h : nameS s = true) : Gd 9 D (.str s) := by
  unfold nameS at h
  simp only [Bool.and_eq_true, decide_eq_true_eq, List.all_eq_true] at h
  obtain ⟨⟨_, h1⟩, h2⟩ := h
  refine ⟨rfl, rfl, ?_, ?_, Nat.zero_le _⟩
  · rw [PyData.leavesShort.eq_def]
    exact List.all_eq_true.mpr fun c hc => decide_eq_true (by have := (h2 c hc).2; omega)
  · rw [PyData.weight.eq_def]
    have e : s.length = s.cps.size := rfl
    show s.cps.size ≤ 9
    omega
theorem gd_told {D : Nat} : Gd 9 D (.str "told") := gd_str (by decide)
theorem rp_of {W D : Nat} {d : PyData} (hr : ∃ ds, d = .list ds ∨ d = .tuple ds) (h : Gd W D d) (hW : W ≤ 100000) (hD : D ≤ 32) : Rp d where
  row := hr
  sh := h.sh
  nd := h.nd
  dp := Nat.le_trans h.dp hD
  sz := by
    have h1 := PyData.shown_le 30 (by decide) d h.ls
    have h2 : (30 + 2) * d.weight ≤ (30 + 2) * 100000 := Nat.mul_le_mul_left _ (Nat.le_trans h.wt hW)
    have h3 := sizeLine_eq
    omega
theorem rp_lst {W D : Nat} {ds : List PyData} (h : GdA W D ds) (hW : W ≤ 100000) (hD : D ≤ 31) : Rp (.list ds) := rp_of ⟨ds, .inl rfl⟩ (gd_lst h) hW (by omega)
theorem rp_tup {W D : Nat} {ds : List PyData} (h : GdA W D ds) (hW : W ≤ 100000) (hD : D ≤ 31) : Rp (.tuple ds) := rp_of ⟨ds, .inr rfl⟩ (gd_tup h) hW (by omega)
theorem gd_ho {D : Nat} {l : List Str} (h : ∀ s ∈ l, nameS s = true) : Gd (l.length * 10) (D + 1) (hoD l) := by
  have := gd_all (W := 9) (D := D) (ds := l.map .str) fun d hd => by
    obtain ⟨s, hs, rfl⟩ := List.mem_map.mp hd
    exact gd_str (h s hs)
  rw [List.length_map] at this
  exact gd_tup this
theorem gd_net {hs : List Str} {ws : List (Str × Str)} (gn : GN hs ws) : Gd 1000 3 (netD hs ws) := by
  have h1 : Gd (hs.length * 10) 2 (hoD hs) := gd_ho (D := 1) gn.nm
  have h2 : GdA ((ws.map prD).length * 21) 1 (ws.map prD) := gd_all fun d hd => by
    obtain ⟨e, he, rfl⟩ := List.mem_map.mp hd
    obtain ⟨w1, w2, _⟩ := gn.wi e he
    exact (gd_tup (gd_cons (gd_str (D := 0) (gn.nm _ w1)) (gd_cons (gd_str (gn.nm _ w2)) gd_nil))).up (by omega : 9 + 1 + (9 + 1 + 0) ≤ 20) (Nat.le_refl _)
  have lh := gn.lh
  have lw := gn.lw
  rw [List.length_map] at h2
  exact (gd_tup (gd_cons h1 (gd_cons (gd_tup h2) (gd_nil (W := 0))))).up (by omega) (Nat.le_refl _)
end Z

/-! # ZLB -/
set_option Elab.async false
set_option linter.all false
set_option maxRecDepth 100000
set_option maxHeartbeats 1000000
namespace Z
open PySem PySem.Spec PyProof.Rows L2 Fl
theorem de_lenSetI {P : Pm} {ρ : List En} {te : TE} {Φ : KD} (h : De P te ρ fun x => ∃ ns : List Int, x = .d (.list (ns.map .int)) ∧ ns.Nodup ∧ ns.length < 64 ∧ Φ (.d (.int (ns.length : Nat)))) : De P (tLenSetI P.K te) ρ Φ := by
  intro H0 G H σ o rl Q k
  refine h H0 G H σ o rl _ fun v G1 H1 x g1 rv ⟨ns, e, nd, hl, q⟩ => ?_
  subst e
  have rv : Dq G1 v (.list (ns.map .int)) := rv
  cases rv with
  | @lst a vs _ ha hd =>
    have e := dpA_in hd
    subst e
    exact ⟨a, ns, rfl, .inl (.inl (g1.ok.sub _ _ ha)), hl, nd, k _ _ _ (.d (.int (ns.length : Nat))) g1 (Dq.int _) q⟩
theorem in_nd {r : List Nat} (h : r.Nodup) : (inI r).Nodup := List.Pairwise.map _ (fun a b h e => h (by omega)) h
def L_lright : Law := fun xs Φ => ∃ hs ws s, xs = [roD hs ws s, .d (netD hs ws), .d (.str s)] ∧ GN hs ws ∧ s ∈ hs ∧ hs.length ≤ 7 ∧ Φ (.d (.bool true))
abbrev N__law_are_any_right : List Str := ["_law_one", "_law_town", "_law_seat", "_law_least", "_law_some", "_law_name", "_law_used", "_law_way_in", "_law_many_here", "_law_ways", "_law_paper"]
theorem sc__law_are_any_right : FnScope N__law_are_any_right ["_law_one", "_law_town", "_law_seat"] (defScope (top 85)) := ⟨rfl, rfl, rfl, by decide +kernel, rfl, by decide +kernel, by decide +kernel⟩
section
variable {Pr : Program} {w : World} {K : PySem.W.Frag} {mg : Str → Option Value} {base : Heap} {C : Addr} {f : Addr} {fd : FuncData}
theorem c__law_are_any_right (T : Tx K mg C) (c__law_width : C8.Cal Pr w K mg base 2 "_law_width" (mkSp K C L_lwidth) []) (c__law_is_lot : C8.Cal Pr w K mg base 1 "_law_is_lot" (mkSp K C L_lislot) []) (c__law_many : C8.Cal Pr w K mg base 1 "_law_many" (mkSp K C L_lmany) []) (c__law_alone : C8.Cal Pr w K mg base 2 "_law_alone" (mkSp K C L_lalone) [])
    (c__law_paper_due : C8.Cal Pr w K mg base 2 "_law_paper_due" (mkSp K C L_ldue) []) (c__law_same : CalG Pr w K mg base 1 "_law_same" (mkSp K C L_lsame)) (c__law_is_way : C8.Cal Pr w K mg base 1 "_law_is_way" (mkSp K C L_liw) [])
    (m_narrow : C8.Met Pr w K mg base 7 C "narrow" (mkSp K C L_onarrow) []) (m_ways : C8.Met Pr w K mg base 8 C "ways" (mkSp K C L_oways) []) (m_paper : C8.Met Pr w K mg base 8 C "paper" (mkSp K C L_opaper) []) (m_judged : C8.Met Pr w K mg base 8 C "judged" (mkSp K C L_ojudged) [])
    (F : FnP K "_law_are_any_right" (top 85) [] f fd) (g : mg "_law_are_any_right" = some (.ref f)) : CalG Pr w K mg base 9 "_law_are_any_right" (mkSp K C L_lright) := by
  have sc := sc__law_are_any_right
  refine calNG F g (fun _ _ _ _ _ _ us hl => match us, hl with | [_, _, _], _ => rfl) (okG F sc (fun xs Φ h => by obtain ⟨a, b, c, rfl, _⟩ := h; rfl) (fun cdv A outer s H E hr hg => ?_))
  refine ⟨_, (pss_cons (ps_par (i := 3) (j := 4) rfl sc.nd rfl rfl (by decide) rfl rfl (pa_cons (C8.pe_c c__law_width hr (by decide) (by rfl) (pa_cons (pv 1) (pa_cons (pv 2) pa_nil))) (pa_cons (C8.pe_mt0 m_narrow hr (by decide) (pv 0)) pa_nil)) (by rfl))
      (pss_cons (ps_if (pt_cmp (pc_isN (pv 3)) rfl) (pss_one (ps_ret (pe_cmp (pc_isN (pv 4)) rfl))) pss_nil)
      (pss_cons (ps_if (PW.pt (pw_or (pt_not (pt_val (C8.pe_c c__law_is_lot hr (by decide) (by rfl) (pa_cons (pv 1) (pa_cons (pv 2) (pa_cons (pv 4) pa_nil)))))) (pw_or1 (pt_cmpR (op_neK K hr) (C8.pe_c c__law_many hr (by decide) (by rfl) (pa_cons (pv 1) (pa_cons (pv 4) pa_nil))) (pv 3) (nomark _))))) (pss_one (ps_ret pe_bl)) pss_nil)
      (pss_cons (ps_for PassesOwn.never rfl (pi_listK K (pe_lc (own := [("_law_name", 5)]) rfl sc.nd (pi_tupK K (pe_ix (ix_seqK K) (pv 1) pe_int (fun _ _ => rfl))) (blkOk_by (by exact rfl)) (fun _ _ _ _ _ => (pg_name (i := 5) sc.nd rfl (.inl rfl))) (fun _ _ _ _ _ => pts_one (pt_cmpR (op_neK K hr) (pv 5) (pv 2) (nomark _))) (fun _ _ _ _ _ => (pv 5)))) (pg_name (i := 5) sc.nd rfl (.inr rfl)) (pss_cons (ps_par3 (i := 8) (j := 9) (l := 10) rfl sc.nd rfl rfl rfl (by decide) (by decide) (by decide) rfl rfl rfl (pa_cons (C8.pe_c c__law_alone hr (by decide) (by rfl) (pa_cons (pv 1) (pa_cons (pv 2) (pa_cons (pv 5) pa_nil)))) (pa_cons (C8.pe_mt m_ways hr (by decide) (pv 0) (pa_cons (pv 5) pa_nil)) (pa_cons (C8.pe_mt m_paper hr (by decide) (pv 0) (pa_cons (pv 5) pa_nil)) pa_nil))) (by rfl))
      (pss_cons (ps_if (pt_not (pt_val (pe_cG c__law_same hr hg (by decide) (by rfl) (pa_cons (C8.pe_c c__law_paper_due hr (by decide) (by rfl) (pa_cons (pv 1) (pa_cons (pv 2) (pa_cons (pv 5) (pa_cons (pv 10) pa_nil))))) (pa_cons (pe_tup (pa_cons pe_str (pa_cons (pv 8) pa_nil))) pa_nil))))) (pss_one (ps_ret pe_bl)) pss_nil)
      (pss_cons (ps_if (pt_not (pt_val (pe_cG c__law_same hr hg (by decide) (by rfl) (pa_cons (pe_lst (pa_cons (C8.pe_mt m_judged hr (by decide) (pv 0) (pa_cons (pv 5) (pa_cons (pv 10) pa_nil))) (pa_cons (pe_callB (call_lenK K) (by rfl) T.m_len boot_len (pa_cons (pv 9) pa_nil)) pa_nil))) (pa_cons (pe_lst (pa_cons (pv 8) (pa_cons (pv 8) pa_nil))) pa_nil))))) (pss_one (ps_ret pe_bl)) pss_nil)
      (pss_cons (ps_set (i := 6) sc.nd rfl (.inl rfl) (pe_lst pa_nil))
      (pss_cons (ps_for PassesOwn.never rfl (pi_tupK K (pv 9)) (pg_name (i := 7) sc.nd rfl (.inl rfl)) (pss_one (ps_set (i := 6) sc.nd rfl (.inl rfl) (pe_op (op_addK K) (pv 6) (pe_callTy (call_lstK K) (by rfl) T.m_list boot_list (pa_cons (pv 7) pa_nil))))))
      (pss_cons (ps_if (pt_cmpR (op_neK K hr) (pe_lc (own := [("_law_way_in", 7)]) rfl sc.nd (pi_tupK K (pv 9)) (blkOk_by (by exact rfl)) (fun _ _ _ _ _ => (pg_name (i := 7) sc.nd rfl (.inl rfl))) (fun _ _ _ _ _ => pts_one (pt_not (pt_val (C8.pe_c c__law_is_way hr (by decide) (by rfl) (pa_cons (pv 1) (pa_cons (pv 2) (pa_cons (pv 5) (pa_cons (pv 7) pa_nil)))))))) (fun _ _ _ _ _ => (pv 7))) (pe_lst pa_nil) (nomark _)) (pss_one (ps_ret pe_bl)) pss_nil)
      (pss_one (ps_if (pt_cmpR (op_neK K hr) (pe_callB (call_lenK K) (by rfl) T.m_len boot_len (pa_cons (pv 6) pa_nil)) (pe_lenSetI rfl (by rfl) T.m_len (by rfl) T.m_set (pv 6)) (nomark _)) (pss_one (ps_ret pe_bl)) pss_nil)))))))))
      (pss_one (ps_ret pe_bl)))))), fun fd' xs Φ h => ?_⟩
  obtain ⟨hs, ws, s, rfl, gn, sm, hl, q⟩ := h
  have lw := gn.lw
  have lh := gn.lh
  have lo : (oth hs s).length ≤ 20 := Nat.le_trans (List.length_filter_le _ _) lh
  by_cases e0 : oth hs s = []
  · refine ds_seq (ds_par (dal_cons (dw_of (de_call0 (da_cons (de_var rfl (da_cons (de_var rfl (da_nil ⟨hs, ws, s, rfl, hl, by omega, fun _ => ?_, fun m L => ?_⟩)))))))))
    · refine dal_cons (dw_of (de_meth (by first | rfl | decide | simp) (de_var rfl ⟨_, _, _, rfl, da_nil ⟨hs, ws, s, rfl, gn, sm, fun _ => dal_nil ⟨_, _, rfl, ?_⟩, fun h _ _ _ hh => ?_⟩⟩)))
      · refine ds_seq (ds_if (dt_test (de_isN (de_var rfl ⟨.none, rfl, true, rfl, ?_⟩))))
        exact ds_ret (de_isN (de_var rfl ⟨.none, rfl, q⟩))
      · rw [e0] at hh; exact nomatch hh
    · obtain ⟨l, hl, _⟩ := L.is
      rw [(lots_none gn).mpr e0] at hl; exact nomatch hl
  · refine ds_seq (ds_par (dal_cons (dw_of (de_call0 (da_cons (de_var rfl (da_cons (de_var rfl (da_nil ⟨hs, ws, s, rfl, hl, by omega, fun e => absurd ((lots_none gn).mp e) e0, fun m W => ?_⟩)))))))))
    refine dal_cons (dw_of (de_meth (by first | rfl | decide | simp) (de_var rfl ⟨_, _, _, rfl, da_nil ⟨hs, ws, s, rfl, gn, sm, fun e => absurd e e0, fun h T k p hh hmin M hp => dal_nil ⟨_, _, rfl, ?_⟩⟩⟩)))
    obtain ⟨m1, m2⟩ := mem_oth.mp hh
    obtain ⟨L, hlm, hcut⟩ := great_lot gn m1 (Ne.symm m2) M hp
    have em : aK ws s h = m := by
      obtain ⟨h2, hh2, e2, le2⟩ := least_wid gn W
      have := hmin h2 hh2
      have := le2 h hh
      omega
    have ll := lot_len gn L
    refine ds_seq (ds_if (dt_test (de_isN (de_var rfl ⟨.int m, rfl, false, rfl, ?_⟩))))
    refine ds_next (ds_seq (ds_if (dt_or (dt_not (dt_b (de_call0 (da_cons (de_var rfl (da_cons (de_var rfl (da_cons (de_var rfl (da_nil ⟨hs, ws, s, _, rfl, gn, L, true, rfl, ?_⟩)))))))))))))
    show Dt _ _ _ _
    refine dt_test (de_nii (de_call0 (da_cons (de_var rfl (da_cons (de_var rfl (da_nil ⟨hs, ws, _, rfl, by omega, by omega, de_var rfl ⟨_, _, rfl, rfl, false, by rw [hcut, em, decide_eq_true rfl]; rfl, ?_⟩⟩)))))))
    refine ds_next ?_
    let V0 : En := .fz (roD hs ws s)
    let V1 : En := .fz (.d (netD hs ws))
    let V2 : En := .fz (.d (.str s))
    let V3 : En := .fz (.d (.int m))
    let V4 : En := .fz (.d (hoD (hs.filter p)))
    refine ds_seq (ds_forW [5, 6, 7, 8, 9, 10] (fun i ρ' => ρ' = [V0, V1, V2, V3, V4, .un, .un, .un, .un, .un, .un]) (di_list (de_lcA hs (fun h => .d (.str h)) (fun h => if (!decide (h = s)) = true then some (.str h) else none) (di_tup (de_net0 (hs := hs) (ws := ws) (de_var rfl ⟨rfl, hs.map .str, rfl, by rw [List.map_map]; rfl, szs (by omega)⟩))) (fun h hh => dg_name (by decide) (dt_test (de_nss (de_var rfl (de_var rfl ⟨h, s, rfl, rfl, _, rfl, ?_⟩))))) ⟨(oth hs s).map .str, by rw [filterMap_if]; rfl, [5], rfl, ?_, ?_⟩)))
    · by_cases e : h = s
      · rw [decide_eq_true e]; rfl
      · rw [decide_eq_false e]; exact de_var rfl ⟨_, rfl, rfl⟩
    · rintro i v ρ2 hv rfl
      rw [List.getElem?_map, List.getElem?_map] at hv
      cases hp2 : (oth hs s)[i]? with
      | none => rw [hp2] at hv; exact nomatch hv
      | some n =>
        rw [hp2] at hv; cases hv
        have hn := List.mem_of_getElem? hp2
        obtain ⟨n1, n2⟩ := mem_oth.mp hn
        have sn : s ≠ n := Ne.symm n2
        refine dg_name (by decide) ?_
        obtain ⟨l0, a0, b0, c0⟩ := tight_ex (ws := ws) gn n1 sn
        refine ds_seq (ds_par3 (dal_cons (dw_of (de_call0 (da_cons (de_var rfl (da_cons (de_var rfl (da_cons (de_var rfl (da_nil ⟨hs, ws, s, n, rfl, hl, by omega, ⟨l0, (lotsL_mem gn.inc).mpr a0, b0⟩, fun m' W' => ?_⟩)))))))))))
        have em' := least_aK gn n1 sn W'
        refine dal_cons (dw_of (de_meth (by first | rfl | decide | simp) (de_var rfl ⟨_, _, _, rfl, da_cons (de_var rfl (da_nil ⟨hs, ws, s, n, rfl, gn, sm, hn, fun wys lwy hW nd => ?_⟩))⟩)))
        refine dal_cons (dw_of (de_meth (by first | rfl | decide | simp) (de_var rfl ⟨_, _, _, rfl, da_cons (de_var rfl (da_nil ⟨hs, ws, s, n, rfl, gn, sm, hn, fun wys2 T2 k2 p2 lwy2 hW2 nd2 M2 hp2 => dal_nil ⟨_, _, _, rfl, ?_⟩⟩))⟩)))
        obtain ⟨L2, hlm2, hcut2⟩ := great_lot gn n1 sn M2 hp2
        have hlt : aK ws s n ≤ 18 := by
          have := cut_le ws (fun x => decide (x ∈ hs.filter p2))
          have : inL ws (hs.filter p2) ≤ ws.length := this
          omega
        let V5 : En := .fz (.d (.str n))
        have gi : ∀ {D : Nat}, Gd 20 D (.int (aK ws s n : Nat)) := gd_int (by omega)
        -- the paper, as the law judges it
        refine ds_seq (ds_if (dt_not (dt_b (de_call0 (da_cons (de_call0 (da_cons (de_var rfl (da_cons (de_var rfl (da_cons (de_var rfl (da_cons (de_var rfl (da_nil ⟨hs, ws, s, n, wys2, _, rfl, gn, n2, hW2, nd2, L2, hlm2, by rw [lwy2]; exact hcut2, da_cons (de_tup (da_cons (de_str (da_cons (de_var rfl (da_nil ⟨[.str "told", .int (aK ws s n : Nat)], by rw [em']; rfl, szn rfl, da_nil ⟨toldD (aK ws s n), by rw [lwy2]; rfl, rp_tup (gd_cons (gd_told (D := 0)) (gd_cons gi (gd_nil (W := 0)))) (by omega) (by omega), true, rfl, ?_⟩⟩))))))⟩)))))))))))))))
        refine ds_next (ds_seq (ds_if (dt_not (dt_b (de_call0 (da_cons (de_lst (da_cons (de_meth (by first | rfl | decide | simp) (de_var rfl ⟨_, _, _, rfl, da_cons (de_var rfl (da_cons (de_var rfl (da_nil ⟨hs, ws, s, n, wys2, _, rfl, gn, sm, hn, hW2, nd2, L2, hlm2, by rw [lwy2]; exact hcut2, ?_⟩))))⟩))))))))))
        refine da_cons (de_cb (da_cons (de_var rfl (da_nil (dc_len (.inr rfl) (da_nil ⟨[.int (aK ws s n : Nat), .int (aK ws s n : Nat)], by rw [List.length_map, lwy, lwy2]; rfl, szn rfl, ?_⟩))))))
        refine da_cons (de_lst (da_cons (de_var rfl (da_cons (de_var rfl (da_nil ⟨[.int (aK ws s n : Nat), .int (aK ws s n : Nat)], by rw [em']; rfl, szn rfl, da_nil ⟨_, rfl, rp_lst (gd_cons (gi (D := 0)) (gd_cons gi (gd_nil (W := 0)))) (by omega) (by omega), true, rfl, ?_⟩⟩))))))
        refine ds_next (ds_seq (ds_setz (de_lst (da_nil ⟨[], rfl, szn rfl, ?_⟩))))
        have ndf : ∀ j, ((wys.take j).flatten).Nodup := fun j => nd.sublist (fl_sub _ _)
        have flf : ∀ j, ((wys.take j).flatten).length ≤ ws.length := fun j => ix_len (ws := ws) ⟨ndf j, fun a ha => by
          obtain ⟨w, h1, h2⟩ := List.mem_flatten.mp ha
          exact (hW w (List.mem_of_mem_take h1)).path.lt a h2⟩
        have fle : (wys.take wys.length).flatten = wys.flatten := by rw [List.take_length]
        refine ds_seq (ds_forW [7] (fun j ρ' => ρ' = [V0, V1, V2, V3, V4, V5, .fz (.d (.list (ixD (wys.take j).flatten))), .un, .fz (.d (.int m')), .fz (.d (.tuple (wys.map wyD))), .fz (.d (paD wys2 (hs.filter p2)))]) (di_tup (de_var rfl ⟨wys.map wyD, rfl, [7], rfl, ?_, ?_⟩)))
        · rintro j v ρ3 hv rfl
          rw [List.getElem?_map, List.getElem?_map] at hv
          cases hq : wys[j]? with
          | none => rw [hq] at hv; exact nomatch hv
          | some y =>
            rw [hq] at hv; cases hv
            have li := (List.getElem?_eq_some_iff.mp hq).1
            have tk : wys.take (j + 1) = wys.take j ++ [y] := by rw [List.take_succ_eq_append_getElem li, (List.getElem?_eq_some_iff.mp hq).2]
            have e2 : (wys.take (j + 1)).flatten = (wys.take j).flatten ++ y := by rw [tk, List.flatten_append]; simp
            have l2 := flf (j + 1)
            rw [e2, List.length_append] at l2
            refine dg_name (by decide) ?_
            refine ds_setz (de_addL (de_var rfl (de_cb (da_cons (de_var rfl (da_nil (dc_lst (ds := ixD y) (.inr rfl) ⟨_, _, rfl, rfl, ?_, ?_⟩)))))))
            · rw [ixD, ixD, List.length_map, List.length_map]; exact szl (by omega)
            · show ([_, _, _, _, _, _, En.fz _, _, _, _, _] : List En) = _
              rw [e2, ixD, ixD, ixD, List.map_append]
        · rintro ρ3 rfl
          rw [List.length_map, List.length_map, fle]
          refine ds_seq (ds_if (dt_test (de_nnil (de_lcA wys (fun y => .d (wyD y)) (fun _ => none) (di_tup (de_var rfl ⟨wys.map wyD, rfl, by rw [List.map_map]; exact ⟨rfl, szs (by omega)⟩⟩)) (fun y hy => dg_name (by decide) (dt_not (dt_b (de_call0 (da_cons (de_var rfl (da_cons (de_var rfl (da_cons (de_var rfl (da_cons (de_var rfl (da_nil ⟨hs, ws, s, n, y, rfl, by omega, way_ne (hW y hy) n2, hW y hy, true, rfl, rfl⟩))))))))))))) (de_lst (da_nil ⟨[], rfl, szn rfl, [], by rw [List.filterMap_eq_nil_iff.mpr (fun _ _ => rfl)], shaped_nil.1, rfl, false, rfl, ?_⟩))))))
          have lf := flf wys.length
          rw [fle] at lf
          have nf := ndf wys.length
          rw [fle] at nf
          refine ds_next (ds_if (dt_test (de_nii (de_cb (da_cons (de_var rfl (da_nil (dc_len (.inl rfl) (de_lenSetI (de_var rfl ⟨inI wys.flatten, by rw [ixD_in], in_nd nf, by rw [inI, List.length_map]; omega, _, _, rfl, rfl, false, ?_, ?_⟩))))))))))
          · rw [ixD, inI, List.length_map, List.length_map, decide_eq_true rfl]; rfl
          · exact ds_next rfl
    · rintro ρ2 rfl
      exact ds_ret (de_bl q)
end
end Z

/-! # ZLk2 -/
set_option Elab.async false
set_option linter.all false
set_option maxRecDepth 100000
set_option maxHeartbeats 1000000
namespace Z
open PySem PySem.Spec PyProof.Rows L2 Fl
section
variable {P : Pm} {ρ : List En} {N : List En → Prop} {R : KD}
theorem Rel.chg {H0 G H : Hp} {σ σ' : L2.St} {k : Nat} (r : Rel P H0 G H ρ σ) (e : L2.wipe σ' [k] = L2.wipe σ [k]) : Rel P H0 G H (ρ.set k .un) σ' := by
  have at_ : ∀ j, j ≠ k → σ'[j]? = σ[j]? := fun j hj => by
    have h1 := wipe_at [k] σ' j
    have h2 := wipe_at [k] σ j
    have nm : ¬ j ∈ [k] := fun z => hj (List.mem_singleton.mp z)
    rw [if_neg nm] at h1 h2
    rw [← h1, ← h2, e]
  have hl : σ'.length = σ.length := by
    have h1 : (L2.wipe σ' [k]).length = σ'.length := by rw [L2.wipe.eq_2, L2.wipe.eq_1, List.length_set]
    have h2 : (L2.wipe σ [k]).length = σ.length := by rw [L2.wipe.eq_2, L2.wipe.eq_1, List.length_set]
    rw [← h1, ← h2, e]
  refine ⟨by rw [List.length_set, r.len, hl], fun j en h => ?_, r.dom, r.nof⟩
  by_cases z : k = j
  · subst z
    have lt : k < ρ.length := by
      have := (List.getElem?_eq_some_iff.mp h).1
      rwa [List.length_set] at this
    rw [List.getElem?_set_self lt] at h
    cases h
    have lt2 : k < σ'.length := by rw [hl, ← r.len]; exact lt
    exact ⟨σ'[k], List.getElem?_eq_getElem lt2, True.intro⟩
  · rw [List.getElem?_set_ne z] at h
    obtain ⟨s, h1, h2⟩ := r.at_ j en h
    exact ⟨s, by rw [at_ j (Ne.symm z)]; exact h1, h2⟩
/-- a walk over a dict's keys whose turns only test -/
theorem ds_lockFor {i k : Nat} {tt : TT} {u : TS} {kvs : List (List Key × PyData)} (hi : ρ[i]? = some (.fz (.dt false kvs))) (hl : (lockE ρ i)[i]? = some (.fz (.dlt kvs)))
    (h : ∀ (j : Nat) (kv : List Key × PyData), kvs[j]? = some kv → Dt P tt ((lockE ρ i).set k (.fz (.d (.tuple (kv.1.map keyP))))) fun b => b = false)
    (hN : N (ρ.set k .un)) : Ds P (tLock (tFor (iKeys (tVar i)) (gName k) (tIfS tt u tNext))) ρ N R := by
  intro G0 H0 G H σ o gr r D n q
  obtain ⟨d, w, hs, hG, hu, hh⟩ := r.dct (.inr ⟨kvs, hi⟩)
  refine ⟨d, w, gr.ok.sub _ _ hG, mut_dct hu, fun od => ?_⟩
  obtain ⟨o1, r1⟩ := Rel.lock (od := od) gr.ok r hG hu hs hh
  have hk : Di P (iKeys (tVar i)) (lockE ρ i) (fun xs => xs = kvs.map fun kv => .d (.tuple (kv.1.map keyP))) := di_keys (de_var hl (.inr ⟨kvs, rfl, rfl⟩))
  refine hk H0 _ _ σ o1 r1 _ fun J G1 H1 xs g1 y e => ?_
  subst e
  refine ⟨fun j m σ' H' => m + j = kvs.length ∧ ∃ G', Grow P (upd G d (.frz od w)) (upd H d (.frz od w)) G' H' ∧ Same G1 G' ∧ wipe σ' [k] = wipe σ [k], ⟨kvs.length, rfl, G1, g1, Same.refl _, rfl⟩, ?_⟩
  rintro j m σ' H' ⟨em, G', g', s', ew⟩
  obtain ⟨y1, y2⟩ := y G' H' g'.ok s'
  by_cases hj : j < kvs.length
  · have hj2 : (kvs.map fun kv => Dv.d (.tuple (kv.1.map keyP)))[j]? = some (.d (.tuple (kvs[j].1.map keyP))) := by rw [List.getElem?_map, List.getElem?_eq_getElem hj]; rfl
    obtain ⟨go, yl⟩ := y1 j _ hj2
    refine .inr ⟨go, fun σ2 H2 => ∃ G2, Grow P (upd G d (.frz od w)) (upd H d (.frz od w)) G2 H2 ∧ Same G1 G2 ∧ wipe σ2 [k] = wipe σ [k], fun σ2 H2 hh => ⟨m - 1, by omega, by omega, hh⟩, fun v H3 hy => ?_⟩
    obtain ⟨G3, g3, rv⟩ := yl v H3 hy
    have gg := g'.trans g3
    have ew3 : wipe (σ'.set k (some v)) [k] = wipe σ [k] := by
      rw [wipe_set List.mem_cons_self]; exact ew
    have r3 := ((r1.up o1 gg).chg ew3).set k (e := .fz (.d (.tuple (kvs[j].1.map keyP)))) (s := some v) ⟨v, rfl, rv⟩
    rw [List.set_set, List.set_set] at r3
    refine h j _ (List.getElem?_eq_getElem hj) H0 G3 H3 (σ'.set k (some v)) gg.ok r3 _ fun b G4 H4 g4 p => ?_
    subst p
    exact ⟨G4, gg.trans g4, (s'.trans (g3.same g'.ok)).trans (g4.same gg.ok), ew3⟩
  · have e : j = kvs.length := by omega
    subst e
    rw [List.length_map] at y2
    obtain ⟨k1, k2, g2, off⟩ := unlock gr.ok hG hu g'
    exact .inl ⟨y2, k1, n _ σ' _ _ (gr.trans g2) (g2.same gr.ok) ((r.up gr.ok g2).chg ew) hN⟩
end
section
variable {X : Cx} {k k' j : Nat} {C : Addr} {spI spL : Sp}
theorem s_olist (ci : Own X.prog X.w X.K X.mg X.base k C "__iter__" spI) (cl : Own X.prog X.w X.K X.mg X.base k C "__len__" spL) (hr : Room j X.A) (hk : k + 3 ≤ j) : CallR X (.type "list") (rOwnList X.K C spI spL E0 E0) := by
  obtain ⟨fi, MI, FI⟩ := ci.ex
  obtain ⟨fl, ML, FL⟩ := cl.ex
  exact call_ownList MI ML FI FL pass0 pass0 (hr.mono hk)
end
end Z

/-! # ZLC -/
set_option Elab.async false
set_option linter.all false
set_option maxRecDepth 100000
set_option maxHeartbeats 1000000
namespace Z
open PySem PySem.Spec PyProof.Rows L2 Fl
abbrev N__law_is_told : List Str := ["_law_one", "_law_town", "_law_seat", "_law_counts_here", "_law_others", "_law_name", "_law_least", "_law_some", "_law_alones", "_law_told"]
theorem sc__law_is_told : FnScope N__law_is_told ["_law_one", "_law_town", "_law_seat"] (defScope (top 84)) := ⟨rfl, rfl, rfl, by decide +kernel, rfl, by decide +kernel, by decide +kernel⟩
section
variable {Pr : Program} {w : World} {K : PySem.W.Frag} {mg : Str → Option Value} {base : Heap} {C : Addr} {f : Addr} {fd : FuncData}
theorem c__law_is_told (T : Tx K mg C) (c__law_counts : C8.Cal Pr w K mg base 2 "_law_counts" (mkSp K C L_lcounts) []) (c__law_ends : C8.Cal Pr w K mg base 2 "_law_ends" (mkSp K C L_lends) []) (c__law_same : CalG Pr w K mg base 1 "_law_same" (mkSp K C L_lsame))
    (c_net_now : Prp Pr w K mg base 1 C "net_now" (mkSp K C L_netnow)) (c_root_now : Prp Pr w K mg base 1 C "root_now" (mkSp K C L_rootnow)) (c_width_now : Prp Pr w K mg base 1 C "width_now" (mkSp K C L_width))
    (o_len : Own Pr w K mg base 1 C "__len__" (mkSp K C L_olen)) (o_iter : Own Pr w K mg base 1 C "__iter__" (spIter K C)) (o_getitem : Own Pr w K mg base 7 C "__getitem__" (mkSp K C L_getitem)) (o_contains : Own Pr w K mg base 5 C "__contains__" (mkSp K C L_ohas)) (o_call : OwnC Pr w K mg base 5 C (mkSp K C L_ocall))
    (m_least : C8.Met Pr w K mg base 7 C "least" (mkSp K C L_oleast) []) (m_greatest : C8.Met Pr w K mg base 7 C "greatest" (mkSp K C L_ogreat) [])
    (F : FnP K "_law_is_told" (top 84) [] f fd) (g : mg "_law_is_told" = some (.ref f)) : CalG Pr w K mg base 9 "_law_is_told" (mkSp K C L_lright) := by
  have sc := sc__law_is_told
  refine calNG F g (fun _ _ _ _ _ _ us hl => match us, hl with | [_, _, _], _ => rfl) (okG F sc (fun xs Φ h => by obtain ⟨a, b, c, rfl, _⟩ := h; rfl) (fun cdv A outer s H E hr hg => ?_))
  refine ⟨_, (pss_cons (ps_asg (pe_tup (pa_cons (C8.pe_c c__law_counts hr (by decide) (by rfl) (pa_cons (pv 1) (pa_cons (pv 2) pa_nil))) (pa_cons (pe_lc (own := [("_law_name", 5)]) rfl sc.nd (pi_tupK K (pe_ix (ix_seqK K) (pv 1) pe_int (fun _ _ => rfl))) (blkOk_by (by exact rfl)) (fun _ _ _ _ _ => (pg_name (i := 5) sc.nd rfl (by first | exact .inl rfl | exact .inr rfl))) (fun _ _ _ _ _ => pts_one (pt_cmpR (op_neK K hr) (pv 5) (pv 2) (nomark _))) (fun _ _ _ _ _ => (pv 5))) pa_nil))) (pg_tupK K 2 (pgs_cons (pg_name (i := 3) sc.nd rfl (by first | exact .inl rfl | exact .inr rfl)) (pgs_cons (pg_name (i := 4) sc.nd rfl (by first | exact .inl rfl | exact .inr rfl)) pgs_nil))))
      (pss_cons (ps_set (i := 6) sc.nd rfl (by first | exact .inl rfl | exact .inr rfl) (pe_ifExp (pt_cmpR (op_neK K hr) (pv 4) (pe_lst pa_nil) (nomark _)) (pe_callB (cr_minK' K) (by rfl) T.m_min boot_min (pa_cons (pe_lock (pe_lc (own := [("_law_some", 7)]) rfl sc.nd (pi_keys (pv 3)) (blkOk_by (by exact rfl)) (fun _ _ _ _ _ => (pg_name (i := 7) sc.nd rfl (by first | exact .inl rfl | exact .inr rfl))) (fun _ _ _ _ _ => pts_nil) (fun _ _ _ _ _ => (pe_dget (hu_of hr) (pv 3) (pv 7) (fun _ _ => rfl))))) pa_nil)) pe_non))
      (pss_cons (ps_setLc (i := 8) (own := [("_law_name", 5)]) rfl sc.nd rfl rfl (sw_true rfl rfl rfl (by exact rfl)) (pi_listK K (pv 4)) (blkOk_by (by exact rfl)) (fun _ _ _ _ _ => (pg_name (i := 5) sc.nd rfl (by first | exact .inl rfl | exact .inr rfl))) (fun _ _ _ _ _ => pts_nil) (fun _ _ _ _ _ => (pe_callB (cr_minK' K) (by rfl) T.m_min boot_min (pa_cons (pe_lock (pe_lc (own := [("_law_some", 7)]) rfl sc.nd (pi_keys (pv 3)) (blkOk_by (by exact rfl)) (fun _ _ _ _ _ => (pg_name (i := 7) sc.nd rfl (by first | exact .inl rfl | exact .inr rfl))) (fun _ _ _ _ _ => pts_one (pt_cmpR (op_inK K) (pv 5) (pv 7) rfl)) (fun _ _ _ _ _ => (pe_dget (hu_of hr) (pv 3) (pv 7) (fun _ _ => rfl))))) pa_nil))))
      (pss_cons (ps_set (i := 9) sc.nd rfl (by first | exact .inl rfl | exact .inr rfl) (pe_lst (pa_cons (pe_prp c_net_now hr (by decide) (pv 0)) (pa_cons (pe_prp c_root_now hr (by decide) (pv 0)) (pa_cons (pe_prp c_width_now hr (by decide) (pv 0)) (pa_cons (pe_callB (s_len o_len hr (by decide)) (by rfl) T.m_len boot_len (pa_cons (pv 0) pa_nil)) (pa_cons (pe_callTy (s_olist o_iter o_len hr (by decide)) (by rfl) T.m_list boot_list (pa_cons (pv 0) pa_nil)) (pa_cons (pe_lc (own := [("_law_name", 5)]) rfl sc.nd (pi_listK K (pv 4)) (blkOk_by (by exact rfl)) (fun _ _ _ _ _ => (pg_name (i := 5) sc.nd rfl (by first | exact .inl rfl | exact .inr rfl))) (fun _ _ _ _ _ => pts_nil) (fun _ _ _ _ _ => (s_getitem o_getitem hr (by decide) (pv 0) (pv 5)))) pa_nil))))))))
      (pss_cons (ps_if (pt_not (pt_val (pe_cG c__law_same hr hg (by decide) (by rfl) (pa_cons (pv 9) (pa_cons (pe_lst (pa_cons (pv 1) (pa_cons (pv 2) (pa_cons (pv 6) (pa_cons (pe_callB (call_lenK K) (by rfl) T.m_len boot_len (pa_cons (pv 4) pa_nil)) (pa_cons (pe_zipList rfl (by rfl) T.m_list (by rfl) T.m_zip (pa_cons (pv 4) (pa_cons (pv 8) pa_nil))) (pa_cons (pv 8) pa_nil))))))) pa_nil))))) (pss_one (ps_ret pe_bl)) pss_nil)
      (pss_cons (ps_lock (ps_for PassesOwn.never rfl (pi_keys (pv 3)) (pg_name (i := 7) sc.nd rfl (by first | exact .inl rfl | exact .inr rfl)) (pss_one (ps_if (pt_not (pt_val (pe_cG c__law_same hr hg (by decide) (by rfl) (pa_cons (pe_lst (pa_cons (s_callO o_call hr (by decide) (pv 0) (pa_cons (pv 7) pa_nil)) (pa_cons (pe_cmpR (s_ownIn o_contains hr (by decide)) (pv 7) (pv 0) rfl) pa_nil))) (pa_cons (pe_lst (pa_cons (pe_dget (hu_of hr) (pv 3) (pv 7) (fun _ _ => rfl)) (pa_cons (pe_cmpR (op_eqK K hr) (pe_dget (hu_of hr) (pv 3) (pv 7) (fun _ _ => rfl)) (pv 6) (nomark _)) pa_nil))) pa_nil))))) (pss_one (ps_ret pe_bl)) pss_nil))))
      (pss_cons (ps_for PassesOwn.never rfl (pi_listK K (pv 4)) (pg_name (i := 5) sc.nd rfl (by first | exact .inl rfl | exact .inr rfl)) (pss_one (ps_if (pt_not (pt_val (pe_cG c__law_same hr hg (by decide) (by rfl) (pa_cons (pe_tup (pa_cons (C8.pe_mt m_least hr (by decide) (pv 0) (pa_cons (pv 5) pa_nil)) (pa_cons (C8.pe_mt m_greatest hr (by decide) (pv 0) (pa_cons (pv 5) pa_nil)) pa_nil))) (pa_cons (C8.pe_c c__law_ends hr (by decide) (by rfl) (pa_cons (pv 3) (pa_cons (pv 5) pa_nil))) pa_nil))))) (pss_one (ps_ret pe_bl)) pss_nil)))
      (pss_one (ps_ret pe_bl))))))))), fun fd' xs Φ h => ?_⟩
  obtain ⟨hs, ws, s, rfl, gn, sm, hl, q⟩ := h
  have lw := gn.lw
  have lh := gn.lh
  have lo : (oth hs s).length ≤ 20 := Nat.le_trans (List.length_filter_le _ _) lh
  have ln := lotsL_len hs s hl
  have ond : ∀ x ∈ oth hs s, OkS x := fun x hx => name_ok (gn.nm x (mem_oth.mp hx).1)
  refine ds_seq (ds_tup2 (dal_cons (dw_of (de_call0 (da_cons (de_var rfl (da_cons (de_var rfl (da_nil ⟨hs, ws, s, rfl, hl, by omega, lotsL_nd gn.nd, ?_⟩)))))))))
  refine dal_cons (dw_of (de_lcA hs (fun h => .d (.str h)) (fun h => if (!decide (h = s)) = true then some (.str h) else none) (di_tup (de_net0 (hs := hs) (ws := ws) (de_var rfl ⟨rfl, hs.map .str, rfl, by rw [List.map_map]; rfl, szs (by omega)⟩))) (fun h hh => dg_name (by decide) (dt_test (de_nss (de_var rfl (de_var rfl ⟨h, s, rfl, rfl, _, rfl, ?_⟩))))) (dal_nil ⟨_, _, rfl, ?_⟩)))
  · by_cases e : h = s
    · rw [decide_eq_true e]; rfl
    · rw [decide_eq_false e]; exact de_var rfl ⟨_, rfl, rfl⟩
  rw [filterMap_if]
  show Ds _ _ [.fz (roD hs ws s), .fz (.d (netD hs ws)), .fz (.d (.str s)), .fz (.dt false (cntD ws (lotsL hs s))), .fz (.d (.list ((oth hs s).map .str))), .un, .un, .un, .un, .un] _ _
  refine ds_seq (ds_setz (De.mono (Φ := fun x => ∃ w0, x = .d w0 ∧ (oth hs s = [] → w0 = .none) ∧ (oth hs s ≠ [] → ∃ m : Nat, w0 = .int m ∧ LeastOf ws (lotsL hs s) (fun _ => true) m)) ?_ ?_))
  · refine de_if (dt_test (de_nnil (de_var rfl (de_lst (da_nil ⟨[], rfl, szn rfl, _, rfl, (shaped_strs2 ond).1, rfl, _, rfl, ?_⟩)))))
    by_cases e0 : oth hs s = []
    · have e1 : ((oth hs s).map PyData.str).isEmpty = true := by rw [e0]; rfl
      rw [e1]
      exact de_non ⟨_, rfl, fun _ => rfl, fun z => absurd e0 z⟩
    · have e1 : ((oth hs s).map PyData.str).isEmpty = false := by simpa using e0
      rw [e1]
      refine de_cb (da_cons (de_lock (i := 3) (.inr ⟨_, rfl⟩) (de_lcB (lotsL hs s) (fun l => .d (hoD l)) (fun l => .int (inL ws l : Nat)) (di_keys (de_var rfl (.inr ⟨cntD ws (lotsL hs s), rfl, cnt_keys ws _, szs (by omega)⟩))) (fun l hl' => dg_name (by decide) ?_) ⟨_, rfl, da_nil ?_⟩)))
      · exact de_dget (de_var rfl (de_var rfl ⟨_, .inr (.inr (.inr ⟨cntD ws (lotsL hs s), l.map Sum.inr, rfl, by rw [hoD_keys], (cnt_val hl').symm⟩)), rfl⟩))
      · have e : (lotsL hs s).map (fun l => PyData.int (inL ws l : Nat)) = ((lotsL hs s).map fun l => ((inL ws l : Nat) : Int)).map .int := by rw [List.map_map]; rfl
        rw [e]
        refine dc_minI ?_ (fun m h1 h2 => ?_)
        · rw [List.length_map]; exact List.length_pos_iff.mpr fun z => e0 ((lots_none gn).mp z)
        · have e2 : (lotsL hs s).filter (fun _ => true) = lotsL hs s := List.filter_eq_self.mpr fun _ _ => rfl
          obtain ⟨k, rfl, L⟩ := least_of (ws := ws) (ls := lotsL hs s) (p := fun _ => true) (by rw [e2]; exact h1) (by rw [e2]; exact h2)
          exact ⟨_, rfl, fun z => absurd z e0, fun _ => ⟨k, rfl, L⟩⟩
  rintro x ⟨w0, rfl, hw1, hw2⟩
  -- the numbers of the houses
  refine ds_seq (ds_setz (de_lcB (oth hs s) (fun h => .d (.str h)) (fun h => .int (aK ws s h : Nat)) (di_list (de_var rfl ⟨_, rfl, by rw [List.map_map]; exact ⟨rfl, szs (by omega)⟩⟩)) (fun n hn => dg_name (by decide) ?_) ?_))
  · obtain ⟨n1, n2⟩ := mem_oth.mp hn
    have sn : s ≠ n := Ne.symm n2
    obtain ⟨l0, a0, b0, c0⟩ := tight_ex (ws := ws) gn n1 sn
    refine de_cb (da_cons (de_lock (i := 3) (.inr ⟨_, rfl⟩) (de_lcA (lotsL hs s) (fun l => .d (hoD l)) (fun l => if decide (n ∈ l) = true then some (.int (inL ws l : Nat)) else none) (di_keys (de_var rfl (.inr ⟨cntD ws (lotsL hs s), rfl, cnt_keys ws _, szs (by omega)⟩))) (fun l hl' => dg_name (by decide) (dt_test (de_inH (de_var rfl (de_var rfl ⟨n, l, _, rfl, rfl, .inr rfl, _, rfl, ?_⟩))))) ⟨_, rfl, da_nil ?_⟩)))
    · by_cases e : n ∈ l
      · rw [decide_eq_true e, if_pos rfl]
        exact de_dget (de_var rfl (de_var rfl ⟨_, .inr (.inr (.inr ⟨cntD ws (lotsL hs s), l.map Sum.inr, rfl, by rw [hoD_keys], (cnt_val hl').symm⟩)), _, rfl, if_pos rfl⟩))
      · rw [decide_eq_false e]; exact if_neg (by decide)
    · rw [filterMap_if (fun l => decide (n ∈ l)) (fun l => PyData.int (inL ws l : Nat))]
      have e : ((lotsL hs s).filter fun l => decide (n ∈ l)).map (fun l => PyData.int (inL ws l : Nat)) = (((lotsL hs s).filter fun l => decide (n ∈ l)).map fun l => ((inL ws l : Nat) : Int)).map .int := by rw [List.map_map]; rfl
      rw [e]
      refine dc_minI ?_ (fun m h1 h2 => ?_)
      · rw [List.length_map]
        exact List.length_pos_of_mem (List.mem_filter.mpr ⟨(lotsL_mem gn.inc).mpr a0, decide_eq_true b0⟩)
      obtain ⟨k, rfl, L⟩ := least_of h1 h2
      rw [least_aK gn n1 sn L]
  -- all that it tells
  have hwid : De ⟨K, C, fd'⟩ (tProp C (mkSp K C L_width) [] C8.E0 (tVar 0)) [.fz (roD hs ws s), .fz (.d (netD hs ws)), .fz (.d (.str s)), .fz (.dt false (cntD ws (lotsL hs s))), .fz (.d (.list ((oth hs s).map .str))), .un, .fz (.d w0), .un, .fz (.d (.list ((oth hs s).map fun h => .int (aK ws s h : Nat)))), .un] fun x => x = .d w0 := by
    refine de_prop (de_var rfl ⟨_, _, _, rfl, hs, ws, s, rfl, by omega, fun e0 => by rw [hw1 e0], fun h hh hmin => ?_⟩)
    obtain ⟨m, rfl, W⟩ := hw2 (List.ne_nil_of_mem hh)
    obtain ⟨h2, hh2, e2, le2⟩ := least_wid gn W
    have := hmin h2 hh2
    have := le2 h hh
    have : aK ws s h = m := by omega
    rw [this]
  refine ds_seq (ds_setz (de_lst (da_cons (de_prop (de_var rfl ⟨_, _, _, rfl, hs, ws, s, rfl, da_cons (de_prop (de_var rfl ⟨_, _, _, rfl, hs, ws, s, rfl, da_cons (hwid.mono ?_)⟩))⟩)))))
  rintro x rfl
  refine da_cons (de_cb (da_cons (de_var rfl (da_nil (dc_ownLen ⟨hs, ws, s, rfl, _, rfl, by omega, ?_⟩)))))
  refine da_cons (de_olist (de_var rfl ⟨hs, ws, s, rfl, by omega, ?_⟩))
  refine da_cons (de_lcB (oth hs s) (fun h => .d (.str h)) (fun h => .int (aK ws s h : Nat)) (di_list (de_var rfl ⟨_, rfl, by rw [List.map_map]; exact ⟨rfl, szs (by omega)⟩⟩)) (fun n hn => dg_name (by decide) (de_op (de_var rfl (de_var rfl (dop_ownIx ⟨hs, ws, s, n, rfl, gn, sm, hn, rfl⟩))))) ?_)
  refine da_nil ⟨[netD hs ws, .str s, w0, .int ((oth hs s).length : Nat), .list (prsL hs ws s), .list ((oth hs s).map fun h => .int (aK ws s h : Nat))], rfl, szn rfl, ?_⟩
  have hint : ∀ h ∈ oth hs s, aK ws s h ≤ 18 := fun h hh => by
    obtain ⟨n1, n2⟩ := mem_oth.mp hh
    obtain ⟨l0, a0, b0, c0⟩ := tight_ex (ws := ws) gn n1 (Ne.symm n2)
    have := cut_le ws (fun x => decide (x ∈ l0))
    have : inL ws l0 ≤ ws.length := this
    omega
  have hw0 : Gd 20 3 w0 := by
    by_cases e0 : oth hs s = []
    · rw [hw1 e0]; exact gd_non.up (by omega) (Nat.le_refl _)
    · obtain ⟨m, rfl, W⟩ := hw2 e0
      obtain ⟨h2, hh2, e2, _⟩ := least_wid gn W
      have := hint h2 hh2
      exact gd_int (by omega)
  have nmo : ∀ h ∈ oth hs s, nameS h = true := fun h hh => gn.nm h (mem_oth.mp hh).1
  have zp : zipD ((oth hs s).map .str) ((oth hs s).map fun h => PyData.int (aK ws s h : Nat)) = prsL hs ws s := by
    rw [zipD, List.zip_map', List.map_map]; rfl
  have g1 : Gd 700 3 (.list (prsL hs ws s)) := by
    have h1 := gd_all (W := 31) (D := 1) (ds := prsL hs ws s) fun d hd => by
      obtain ⟨h, hh, rfl⟩ := List.mem_map.mp hd
      exact (gd_tup (gd_cons (gd_str (D := 0) (nmo h hh)) (gd_cons (gd_int (by have := hint h hh; omega)) (gd_nil (W := 0))))).up (by omega) (Nat.le_refl _)
    have hl1 : (prsL hs ws s).length = (oth hs s).length := by rw [prsL, List.length_map]
    exact (gd_lst h1).up (by rw [hl1]; omega) (by omega)
  have g2 : Gd 700 3 (.list ((oth hs s).map fun h => PyData.int (aK ws s h : Nat))) := by
    have h1 := gd_all (W := 20) (D := 0) (ds := (oth hs s).map fun h => PyData.int (aK ws s h : Nat)) fun d hd => by
      obtain ⟨h, hh, rfl⟩ := List.mem_map.mp hd
      exact gd_int (by have := hint h hh; omega)
    exact (gd_lst h1).up (by rw [List.length_map]; omega) (by omega)
  have rp1 : Rp (.list [netD hs ws, .str s, w0, .int ((oth hs s).length : Nat), .list (prsL hs ws s), .list ((oth hs s).map fun h => .int (aK ws s h : Nat))]) :=
    rp_lst (gd_cons (gd_net gn) (gd_cons (gd_str (gn.nm s sm)) (gd_cons hw0 (gd_cons (gd_int (by omega)) (gd_cons g1 (gd_cons g2 (gd_nil (W := 0)))))))) (by omega) (by omega)
  refine ds_seq (ds_if (dt_not (dt_b (de_call0 (da_cons (de_var rfl (da_cons (de_lst (da_cons (de_var rfl (da_cons (de_var rfl (da_cons (de_var rfl (da_cons (de_cb (da_cons (de_var rfl (da_nil (dc_len (.inl rfl) ?_))))))))))))))))))))
  refine da_cons (de_zipList (da_cons (de_var rfl (da_cons (de_var rfl (da_nil ⟨_, _, rfl, by rw [List.length_map, List.length_map], by rw [List.length_map]; omega, ?_⟩))))))
  rw [zp, List.length_map]
  refine da_cons (de_var rfl (da_nil ⟨[netD hs ws, .str s, w0, .int ((oth hs s).length : Nat), .list (prsL hs ws s), .list ((oth hs s).map fun h => .int (aK ws s h : Nat))], rfl, szn rfl, da_nil ⟨_, rfl, rp1, true, rfl, ?_⟩⟩))
  refine ds_next ?_
  -- each lot
  refine ds_seq (ds_lockFor rfl rfl (fun j kv hkv => ?_) ?_)
  · have hm := List.mem_of_getElem? hkv
    obtain ⟨l, hl', rfl⟩ := List.mem_map.mp hm
    have Ll := (lotsL_mem gn.inc).mp hl'
    have e0 : oth hs s ≠ [] := fun z => by
      rw [(lots_none gn).mpr z] at hl'; exact nomatch hl'
    obtain ⟨m, rfl, W⟩ := hw2 e0
    have hil : inL ws l ≤ 18 := by
      have := cut_le ws (fun x => decide (x ∈ l))
      have : inL ws l ≤ ws.length := this
      omega
    have ek : PyData.tuple (((l.map Sum.inr : List Key)).map keyP) = hoD l := (hoD_keys l).symm
    show Dt _ _ [_, _, _, _, _, _, _, .fz (.d (.tuple (((l.map Sum.inr : List Key)).map keyP))), _, _] _
    rw [ek]
    refine dt_not (dt_b (de_call0 (da_cons (de_lst (da_cons (de_callO (de_var rfl ⟨_, _, _, rfl, da_cons (de_var rfl (da_nil ⟨hs, ws, s, l, rfl, gn, Ll, ?_⟩))⟩)))))))
    refine da_cons (de_op (de_var rfl (de_var rfl (dop_ownIn (neg := false) (has_lot gn Ll W rfl ⟨_, rfl, da_nil ⟨[.int (inL ws l : Nat), .bool (decide (inL ws l = m))], rfl, szn rfl, ?_⟩⟩)))))
    refine da_cons (de_lst (da_cons (de_dget (de_var rfl (de_var rfl ⟨_, .inr (.inr (.inr ⟨cntD ws (lotsL hs s), l.map Sum.inr, rfl, by rw [hoD_keys], (cnt_val hl').symm⟩)), ?_⟩)))))
    refine da_cons (de_ii (de_dget (de_var rfl (de_var rfl ⟨_, .inr (.inr (.inr ⟨cntD ws (lotsL hs s), l.map Sum.inr, rfl, by rw [hoD_keys], (cnt_val hl').symm⟩)), de_var rfl ⟨((inL ws l : Nat) : Int), ((m : Nat) : Int), rfl, rfl, da_nil ⟨[.int (inL ws l : Nat), .bool (decide (inL ws l = m))], ?_, szn rfl, ?_⟩⟩⟩))))
    · rw [show decide (((inL ws l : Nat) : Int) = ((m : Nat) : Int)) = decide (inL ws l = m) from decide_eq_decide.mpr (by omega)]; rfl
    exact da_nil ⟨_, rfl, rp_lst (gd_cons (gd_int (D := 0) (by omega)) (gd_cons gd_bl (gd_nil (W := 0)))) (by omega) (by omega), true, rfl, rfl⟩
  -- the ends of each house's tight lots
  let V0 : En := .fz (roD hs ws s)
  let V1 : En := .fz (.d (netD hs ws))
  let V2 : En := .fz (.d (.str s))
  let V3 : En := .fz (.dt false (cntD ws (lotsL hs s)))
  let V4 : En := .fz (.d (.list ((oth hs s).map .str)))
  let V6 : En := .fz (.d w0)
  let V8 : En := .fz (.d (.list ((oth hs s).map fun h => .int (aK ws s h : Nat))))
  let V9 : En := .fz (.d (.list [netD hs ws, .str s, w0, .int ((oth hs s).length : Nat), .list (prsL hs ws s), .list ((oth hs s).map fun h => .int (aK ws s h : Nat))]))
  refine ds_seq (ds_forW [5] (fun i ρ' => ρ' = [V0, V1, V2, V3, V4, .un, V6, .un, V8, V9]) (di_list (de_var rfl ⟨_, rfl, [5], rfl, ?_, ?_⟩)))
  · rintro i v ρ2 hv rfl
    rw [List.getElem?_map, List.getElem?_map] at hv
    cases hp : (oth hs s)[i]? with
    | none => rw [hp] at hv; exact nomatch hv
    | some n =>
      rw [hp] at hv; cases hv
      have hn := List.mem_of_getElem? hp
      obtain ⟨n1, n2⟩ := mem_oth.mp hn
      have sn : s ≠ n := Ne.symm n2
      obtain ⟨l0, a0, b0, c0⟩ := tight_ex (ws := ws) gn n1 sn
      refine dg_name (by decide) ?_
      refine ds_if (dt_not (dt_b (de_call0 (da_cons (de_tup (da_cons (de_meth (by first | rfl | decide | simp) (de_var rfl ⟨_, _, _, rfl, da_cons (de_var rfl (da_nil ⟨hs, ws, s, n, rfl, gn, sm, hn, fun T1 k1 ys M1 so nd hy => ?_⟩))⟩))))))))
      refine da_cons (de_meth (by first | rfl | decide | simp) (de_var rfl ⟨_, _, _, rfl, da_cons (de_var rfl (da_nil ⟨hs, ws, s, n, rfl, gn, sm, hn, fun T2 k2 p M2 hp2 => da_nil ⟨[hoD ys, hoD (hs.filter p)], rfl, szn rfl, ?_⟩⟩))⟩))
      have io := sort_inc so nd
      obtain ⟨L1, a1, b1⟩ := least_lot gn n1 sn M1 io hy
      obtain ⟨L2, a2, b2⟩ := great_lot gn n1 sn M2 hp2
      have ll1 := lot_len gn L1
      have ll2 := lot_len gn L2
      refine da_cons (de_call0 (da_cons (de_var rfl (da_cons (de_var rfl (da_nil ⟨ws, lotsL hs s, n, rfl, by omega, fun l hl' => (by have := lotsL_in hl'; omega), ⟨l0, (lotsL_mem gn.inc).mpr a0, b0⟩, fun m lo hi W h1 h2 h3 h4 => da_nil ⟨.tuple [hoD ys, hoD (hs.filter p)], ?_, ?_, true, rfl, ?_⟩⟩))))))
      · have em := least_aK gn n1 sn W
        subst em
        rw [low_end gn n1 sn M1 io hy h1 h2, high_end gn n1 sn M2 hp2 h3 h4]
      · exact rp_tup (gd_cons (gd_ho (D := 0) fun x hx => gn.nm x (L1.sub x hx).1) (gd_cons (gd_ho fun x hx => gn.nm x (L2.sub x hx).1) (gd_nil (W := 0)))) (by omega) (by omega)
      exact ds_next rfl
  · rintro ρ2 rfl
    exact ds_ret (de_bl q)
end
end Z

/-! # ZSrt -/
set_option Elab.async false
set_option linter.all false
set_option maxRecDepth 100000
set_option maxHeartbeats 1000000
/-! sorted(xs) of a list of pairs of texts. -/
namespace Z
open PySem PySem.Spec PyProof.Rows L2 Fl
def rSortP (K : PySem.W.Frag) : List V → Hp → VK → Prop := fun xs H Q => ∃ (a : Addr) (bs : List (V × (Str × Str))), xs = [.ref a] ∧ SqL K H a (bs.map (·.1)) ∧ (∀ b ∈ bs, Dp K H b.1 (prD b.2)) ∧ bs.length ≤ 1000 ∧
  ∀ (cs : List (V × (Str × Str))) (p : Addr), cs.Perm bs → (cs.map (·.2)).Pairwise (fun a b => PySem.W.dataLt (prD b) (prD a) = false) → H p = none → Q (.ref p) (upd H p (.lst (cs.map (·.1))))
theorem each_vals : ∀ {bs : List (V × (Str × Str))} {us : List Value}, Vals (bs.map (·.1)) us → PySem.W.EachIs (fun v b => RelV b.1 v) us bs
  | [], _, .nil => .nil
  | _ :: _, _, .cons h t => .cons h (each_vals t)
theorem vals_each : ∀ {bs : List (V × (Str × Str))} {us : List Value}, PySem.W.EachIs (fun v b => RelV b.1 v) us bs → Vals (bs.map (·.1)) us
  | _, _, .nil => .nil
  | _, _, .cons h t => .cons h (vals_each t)
section
variable {X : Cx} {k : Nat}
theorem each_reads {pins : List (Addr × Obj)} {σ : L2.St} {H : Hp} {s : Shared} (I : Inv X pins σ H s) : ∀ {bs : List (V × (Str × Str))} {us : List Value}, Vals (bs.map (·.1)) us → (∀ b ∈ bs, Dp X.K H b.1 (prD b.2)) → PySem.W.EachIs (fun v b => ∃ as, Reads s.heap v (prD b.2) as) us bs
  | [], _, .nil, _ => .nil
  | b :: _, _, .cons h t, hd => .cons (Dp.reads I (prD b.2) b.1 _ (hd b List.mem_cons_self) h) (each_reads I t fun x hx => hd x (List.mem_cons_of_mem _ hx))
theorem call_sortP (K : PySem.W.Frag) (hr : Room k X.A) (eK : X.K = K := by rfl) : CallR X (.builtin "sorted") (rSortP K) := by
  subst eK
  intro pins s σ H xs us Q I r q
  obtain ⟨a, bs, ex, hq, hd, hl, q⟩ := q
  subst ex
  obtain ⟨u, eu, rx⟩ := vals1 r
  subst eu
  cases rx
  obtain ⟨its, rv, pl, _⟩ := I.list hq
  have hu := hr.units
  have big := sizeLine_eq
  have hlen : its.length = bs.length := by rw [← rv.length, List.length_map]
  refine PySem.W.sorted_data (enc := fun b : V × (Str × Str) => prD b.2) pl.isList (each_vals rv) (each_reads I rv hd) (PySem.W.AllAlike.of fun b b' => by simp [PySem.W.alike, PySem.W.alikeAll, prD]) (PySem.W.Sortable.tuples fun b => ⟨_, _, rfl⟩) (by omega) (fun b _ => ?_) fun out ho eo => ?_
  · have : (prD b.2).depth ≤ 1 := by simp [prD, PyData.depth, PyData.depthAll]
    omega
  · obtain ⟨ep, he'⟩ := PyProof.Rows.sortedAll_at s.heap its (List.toArray out)
    have pm := List.mergeSort_perm bs (PySem.W.dataLe false fun b : V × (Str × Str) => prD b.2)
    have pw := PySem.W.sort_pairwise (PySem.W.sortLe_total _ false _ : PySem.W.TotalLe (PySem.W.dataLe false fun b : V × (Str × Str) => prD b.2)) bs
    have hn := I.hok.fresh (a := s.heap.objs.size + 1) (Nat.le_succ _)
    refine ⟨.ref _, upd H (s.heap.objs.size + 1) (.lst ((bs.mergeSort (PySem.W.dataLe false fun b : V × (Str × Str) => prD b.2)).map (·.1))), I.laid (t' := s.toks) (fun _ _ => PyProof.Rows.sortedAll_old) (Nat.le_succ _) ⟨?_, out, ep, vals_each eo, he'⟩, rfl, q _ _ pm ?_ hn⟩
    · rw [List.length_map, pm.length_eq]; omega
    · refine List.Pairwise.map _ (fun a b h => ?_) pw
      have h : (!PySem.W.dataLt (prD b.2) (prD a.2)) = true := h
      simpa using h
end
theorem zip_of {G : Hp} : ∀ {vs : List V} {ws : List (Str × Str)}, DqA G vs (ws.map prD) → ∃ bs : List (V × (Str × Str)), vs = bs.map (·.1) ∧ ws = bs.map (·.2) ∧ ∀ b ∈ bs, Dq G b.1 (prD b.2)
  | _, [], .nil => ⟨[], rfl, rfl, fun _ h => nomatch h⟩
  | _, w :: ws, .cons (v := v) h t => by
    obtain ⟨bs, rfl, rfl, hb⟩ := zip_of t
    exact ⟨(v, w) :: bs, rfl, rfl, fun b hm => (List.mem_cons.mp hm).elim (fun e => by rw [e]; exact h) (hb b)⟩
theorem of_zip {G : Hp} : ∀ {bs : List (V × (Str × Str))}, (∀ b ∈ bs, Dq G b.1 (prD b.2)) → DqA G (bs.map (·.1)) ((bs.map (·.2)).map prD)
  | [], _ => .nil
  | b :: _, h => .cons (h b List.mem_cons_self) (of_zip fun x hx => h x (List.mem_cons_of_mem _ hx))
theorem dc_sortP {P : Pm} {ws : List (Str × Str)} {Φ : KD} (hl : ws.length ≤ 1000) (q : ∀ zs : List (Str × Str), zs.Perm ws → zs.Pairwise (fun a b => PySem.W.dataLt (prD b) (prD a) = false) → Φ (.d (.list (zs.map prD)))) : DC P (rSortP P.K) [.d (.list (ws.map prD))] Φ := by
  intro G H vs o rv Q k
  obtain ⟨v, rfl, rv1⟩ := rvL1 rv
  have rv1 : Dq G v (.list (ws.map prD)) := rv1
  cases rv1 with
  | @lst a vs _ ha hd =>
    obtain ⟨bs, rfl, rfl, hb⟩ := zip_of hd
    rw [List.length_map] at hl
    refine ⟨a, bs, rfl, .inl (.inl (o.sub _ _ ha)), fun b hm => (dp_up o.sub (hb b hm)).dp, hl, fun cs p pm pw hn => ?_⟩
    have g := o.new (o := .lst (cs.map (·.1))) hn
    refine k _ _ _ (.d (.list ((cs.map (·.2)).map prD))) g (Dq.lst upd_same ?_) (q _ (pm.map _) pw)
    exact of_zip fun b hm => dp_up (g.same o) (hb b (pm.mem_iff.mp hm))
end Z

/-! # ZLD -/
set_option Elab.async false
set_option linter.all false
set_option maxRecDepth 100000
set_option maxHeartbeats 2000000
namespace Z
open PySem PySem.Spec PyProof.Rows L2 Fl
theorem cut_to (ds : List PyData) (k : Nat) : cutD ds none (some (k : Int)) = ds.take k := by
  unfold cutD
  have e1 : HT.sIx ds.length 0 none = 0 := rfl
  rw [e1, HT.sIx_nat, List.drop_zero, Nat.sub_zero, Nat.min_comm]
  rcases Nat.le_total ds.length k with h | h
  · rw [Nat.min_eq_left h, List.take_of_length_le (Nat.le_refl _), List.take_of_length_le h]
  · rw [Nat.min_eq_right h]
def poolsL : List (List Str) := [["a", "b", "c", "d", "r", "s", "t"], ["a", "an", "ann", "r", "ro", "bob", "root"], ["x", "zz", "yy", "wire", "lot", "house", "net"], ["p", "q", "r", "s", "t", "u", "v"]]
theorem pool_ok : ∀ p ∈ poolsL, p.Nodup ∧ (∀ s ∈ p, nameS s = true ∧ s ≠ zedS) ∧ p.length = 7 := by decide +kernel
def Gw (hs : List Str) (W : List (Str × Str)) : Prop := ∀ e ∈ W, e.1 ∈ hs ∧ e.2 ∈ hs ∧ e.1 ≠ e.2
theorem Gw.add {hs : List Str} {W : List (Str × Str)} (g : Gw hs W) {a b : Str} (ha : a ∈ hs) (hb : b ∈ hs) (h : a ≠ b) : Gw hs (W ++ [(a, b)]) := fun e he => by
  rcases List.mem_append.mp he with he | he
  · exact g e he
  · cases List.mem_singleton.mp he; exact ⟨ha, hb, h⟩
theorem oth_ex {hs : List Str} {n : Str} (nd : hs.Nodup) (h2 : 2 ≤ hs.length) : 1 ≤ (oth hs n).length := by
  match hs, nd, h2 with
  | a :: b :: r, nd, _ =>
    have ab : a ≠ b := fun e => (List.nodup_cons.mp nd).1 (e ▸ List.mem_cons_self)
    rcases Classical.em (a = n) with e | e
    · exact List.length_pos_of_mem (mem_oth.mpr ⟨List.mem_cons_of_mem _ List.mem_cons_self, fun z => ab (e.trans z.symm)⟩)
    · exact List.length_pos_of_mem (mem_oth.mpr ⟨List.mem_cons_self, e⟩)
def L_lnet : Law := fun xs Φ => xs = [.fd] ∧ ∀ hs ws, GN hs ws → hs.length ≤ 7 → zedS ∉ hs → Φ (.d (netD hs ws))
abbrev N__law_net : List Str := ["_law_feed_here", "_law_pools", "_law_pool", "_law_many_here", "_law_names", "_law_wires", "_law_name", "_law_lap", "_law_seat", "_law_load", "_law_others", "_law_head", "_law_one"]
theorem sc__law_net : FnScope N__law_net ["_law_feed_here"] (defScope (top 73)) := ⟨rfl, rfl, rfl, by decide +kernel, rfl, by decide +kernel, by decide +kernel⟩
section
variable {Pr : Program} {w : World} {K : PySem.W.Frag} {mg : Str → Option Value} {base : Heap} {C : Addr} {f : Addr} {fd : FuncData}
theorem c__law_net (T : Tx K mg C) (c__law_draw : C8.Cal Pr w K mg base 1 "_law_draw" (mkSp K C L_ldraw) []) (c__law_any : C8.Cal Pr w K mg base 2 "_law_any" (mkSp K C L_lany) []) (F : FnP K "_law_net" (top 73) [] f fd) (g : mg "_law_net" = some (.ref f)) : C8.Cal Pr w K mg base 3 "_law_net" (mkSp K C L_lnet) [] := by
  have sc := sc__law_net
  refine calN F g (fun _ _ _ _ _ _ us hl => match us, hl with | [_], _ => rfl) (okD F sc (fun xs Φ h => by obtain ⟨rfl, _⟩ := h; rfl) (fun cdv A outer s H E hr => ?_))
  refine ⟨_, (pss_cons (ps_set (i := 1) sc.nd rfl (by first | exact .inl rfl | exact .inr rfl) (pe_lst (pa_cons (pe_lst (pa_cons pe_str (pa_cons pe_str (pa_cons pe_str (pa_cons pe_str (pa_cons pe_str (pa_cons pe_str (pa_cons pe_str pa_nil)))))))) (pa_cons (pe_lst (pa_cons pe_str (pa_cons pe_str (pa_cons pe_str (pa_cons pe_str (pa_cons pe_str (pa_cons pe_str (pa_cons pe_str pa_nil)))))))) pa_nil))))
      (pss_cons (ps_set (i := 1) sc.nd rfl (by first | exact .inl rfl | exact .inr rfl) (pe_op (op_addK K) (pv 1) (pe_lst (pa_cons (pe_lst (pa_cons pe_str (pa_cons pe_str (pa_cons pe_str (pa_cons pe_str (pa_cons pe_str (pa_cons pe_str (pa_cons pe_str pa_nil)))))))) (pa_cons (pe_lst (pa_cons pe_str (pa_cons pe_str (pa_cons pe_str (pa_cons pe_str (pa_cons pe_str (pa_cons pe_str (pa_cons pe_str pa_nil)))))))) pa_nil)))))
      (pss_cons (ps_set (i := 2) sc.nd rfl (by first | exact .inl rfl | exact .inr rfl) (C8.pe_c c__law_any hr (by decide) (by rfl) (pa_cons (pv 0) (pa_cons (pv 1) pa_nil))))
      (pss_cons (ps_set (i := 3) sc.nd rfl (by first | exact .inl rfl | exact .inr rfl) (pe_ifExp (pt_cmpR op_gtA (C8.pe_c c__law_draw hr (by decide) (by rfl) (pa_cons (pv 0) (pa_cons pe_int pa_nil))) pe_int (nomark _)) (pe_ix (ix_seqK K) (pe_lst (pa_cons pe_int (pa_cons pe_int (pa_cons pe_int (pa_cons pe_int (pa_cons pe_int (pa_cons pe_int (pa_cons pe_int (pa_cons pe_int (pa_cons pe_int (pa_cons pe_int pa_nil))))))))))) (C8.pe_c c__law_draw hr (by decide) (by rfl) (pa_cons (pv 0) (pa_cons pe_int pa_nil))) (fun _ _ => rfl)) pe_int))
      (pss_cons (ps_par (i := 4) (j := 5) rfl sc.nd rfl rfl (by decide) rfl rfl (pa_cons (pe_callTy (call_tupK K) (by rfl) T.m_tuple boot_tuple (pa_cons (pe_callB cr_sortedS (by rfl) T.m_sorted boot_sorted (pa_cons (pe_slice (sl_anyK K) (pv 2) po_none (po_some (pv 3))) pa_nil)) pa_nil)) (pa_cons (pe_lst pa_nil) pa_nil)) (by rfl))
      (pss_cons (ps_if (pt_cmpR op_gtA (pv 3) pe_int (nomark _)) (pss_cons (ps_par (i := 8) (j := 9) rfl sc.nd rfl rfl (by decide) rfl rfl (pa_cons (C8.pe_c c__law_any hr (by decide) (by rfl) (pa_cons (pv 0) (pa_cons (pv 4) pa_nil))) (pa_cons (C8.pe_c c__law_draw hr (by decide) (by rfl) (pa_cons (pv 0) (pa_cons pe_int pa_nil))) pa_nil)) (by rfl))
      (pss_cons (ps_for PassesOwn.never rfl (pi_tupK K (pv 4)) (pg_name (i := 6) sc.nd rfl (by first | exact .inl rfl | exact .inr rfl)) (pss_cons (ps_setLc (i := 10) (own := [("_law_one", 12)]) rfl sc.nd rfl rfl (sw_true rfl rfl rfl (by exact rfl)) (pi_tupK K (pv 4)) (blkOk_by (by exact rfl)) (fun _ _ _ _ _ => (pg_name (i := 12) sc.nd rfl (by first | exact .inl rfl | exact .inr rfl))) (fun _ _ _ _ _ => pts_one (pt_cmpR (op_neK K hr) (pv 12) (pv 6) (nomark _))) (fun _ _ _ _ _ => (pv 12)))
      (pss_one (ps_for PassesOwn.never rfl (pi_range1 (by rfl) T.m_range (pa_cons (pe_ifExp (pt_cmpR (op_neK K hr) (pv 6) (pv 8) (nomark _)) (pv 9) pe_int) pa_nil)) (pg_name (i := 7) sc.nd rfl (by first | exact .inl rfl | exact .inr rfl)) (pss_one (ps_expr (pe_bm PySem.F.plainAttrs_list PySem.F.slot_list_append PySem.F.type_list_append mt_append (pv 5) (pa_cons (pe_tup (pa_cons (pe_ifExp (pt_cmpR op_gtA (C8.pe_c c__law_draw hr (by decide) (by rfl) (pa_cons (pv 0) (pa_cons pe_int pa_nil))) pe_int (nomark _)) (pv 8) (C8.pe_c c__law_any hr (by decide) (by rfl) (pa_cons (pv 0) (pa_cons (pv 10) pa_nil)))) (pa_cons (pv 6) pa_nil))) pa_nil))))))))
      (pss_one (ps_for PassesOwn.never rfl (pi_range1 (by rfl) T.m_range (pa_cons (C8.pe_c c__law_draw hr (by decide) (by rfl) (pa_cons (pv 0) (pa_cons pe_int pa_nil))) pa_nil)) (pg_name (i := 7) sc.nd rfl (by first | exact .inl rfl | exact .inr rfl)) (pss_cons (ps_set (i := 11) sc.nd rfl (by first | exact .inl rfl | exact .inr rfl) (C8.pe_c c__law_any hr (by decide) (by rfl) (pa_cons (pv 0) (pa_cons (pv 4) pa_nil))))
      (pss_one (ps_expr (pe_bm PySem.F.plainAttrs_list PySem.F.slot_list_append PySem.F.type_list_append mt_append (pv 5) (pa_cons (pe_tup (pa_cons (C8.pe_c c__law_any hr (by decide) (by rfl) (pa_cons (pv 0) (pa_cons (pe_lc (own := [("_law_one", 12)]) rfl sc.nd (pi_tupK K (pv 4)) (blkOk_by (by exact rfl)) (fun _ _ _ _ _ => (pg_name (i := 12) sc.nd rfl (by first | exact .inl rfl | exact .inr rfl))) (fun _ _ _ _ _ => pts_one (pt_cmpR (op_neK K hr) (pv 12) (pv 11) (nomark _))) (fun _ _ _ _ _ => (pv 12))) pa_nil))) (pa_cons (pv 11) pa_nil))) pa_nil))))))))) pss_nil)
      (pss_one (ps_ret (pe_tup (pa_cons (pv 4) (pa_cons (pe_callTy (call_tupK K) (by rfl) T.m_tuple boot_tuple (pa_cons (pe_callB (call_sortP K hr) (by rfl) T.m_sorted boot_sorted (pa_cons (pe_slice (sl_anyK K) (pv 5) po_none (po_some pe_int)) pa_nil)) pa_nil)) pa_nil))))))))))), fun fd' xs Φ h => ?_⟩
  obtain ⟨rfl, q⟩ := h
  let pd : List PyData := poolsL.map fun p => .list (p.map .str)
  refine ds_seq (ds_setz (de_lst (da_cons (de_lst (da_cons (de_str (da_cons (de_str (da_cons (de_str (da_cons (de_str (da_cons (de_str (da_cons (de_str (da_cons (de_str (da_nil ⟨_, rfl, szn rfl, da_cons (de_lst (da_cons (de_str (da_cons (de_str (da_cons (de_str (da_cons (de_str (da_cons (de_str (da_cons (de_str (da_cons (de_str (da_nil ⟨_, rfl, szn rfl, da_nil ⟨pd.take 2, rfl, szn rfl, ?_⟩⟩))))))))))))))))⟩)))))))))))))))))))
  refine ds_seq (ds_setz (de_addL (de_var rfl (de_lst (da_cons (de_lst (da_cons (de_str (da_cons (de_str (da_cons (de_str (da_cons (de_str (da_cons (de_str (da_cons (de_str (da_cons (de_str (da_nil ⟨_, rfl, szn rfl, da_cons (de_lst (da_cons (de_str (da_cons (de_str (da_cons (de_str (da_cons (de_str (da_cons (de_str (da_cons (de_str (da_cons (de_str (da_nil ⟨_, rfl, szn rfl, da_nil ⟨pd.drop 2, rfl, szn rfl, pd.take 2, pd.drop 2, rfl, rfl, szn rfl, ?_⟩⟩))))))))))))))))⟩)))))))))))))))))))))
  show Ds _ _ [.fz .fd, .fz (.d (.list pd)), .un, .un, .un, .un, .un, .un, .un, .un, .un, .un, .un] _ _
  refine ds_seq (ds_setz (de_call0 (da_cons (de_var rfl (da_cons (de_var rfl (da_nil ⟨_, pd, rfl, .inl rfl, by show 1 ≤ 4; decide, by show 4 ≤ 1000; decide, fun d hd => ?_⟩)))))))
  obtain ⟨p, hp, rfl⟩ := List.mem_map.mp hd
  obtain ⟨pn, po, pl⟩ := pool_ok p hp
  -- how many houses
  refine ds_seq (ds_setz (De.mono (Φ := fun x => ∃ n : Nat, x = .d (.int n) ∧ 1 ≤ n ∧ n ≤ 7) ?_ ?_))
  · refine de_if (dt_test (de_gtI (de_call0 (da_cons (de_var rfl (da_cons (de_int (da_nil ⟨25, rfl, by omega, by omega, fun k hk => de_int ⟨_, _, rfl, rfl, _, rfl, ?_⟩⟩))))))))
    by_cases c : (0 : Int) < (k : Int)
    · rw [decide_eq_true c]
      refine de_ix (de_lst (da_cons (de_int (da_cons (de_int (da_cons (de_int (da_cons (de_int (da_cons (de_int (da_cons (de_int (da_cons (de_int (da_cons (de_int (da_cons (de_int (da_cons (de_int (da_nil ⟨([1, 2, 3, 3, 4, 4, 4, 5, 5, 6] : List Nat).map fun (n : Nat) => PyData.int (n : Int), rfl, szn rfl, de_call0 (da_cons (de_var rfl (da_cons (de_int (da_nil ⟨10, rfl, by omega, by omega, fun j hj => ?_⟩)))))⟩))))))))))))))))))))))
      have hv : ∀ j : Nat, j < 10 → ∃ n : Nat, ([1, 2, 3, 3, 4, 4, 4, 5, 5, 6] : List Nat)[j]? = some n ∧ 1 ≤ n ∧ n ≤ 7 := by decide
      obtain ⟨n, e, n1, n2⟩ := hv j hj
      refine ⟨_, ([1, 2, 3, 3, 4, 4, 4, 5, 5, 6] : List Nat).map fun (n : Nat) => PyData.int (n : Int), (j : Int), .int (n : Int), rfl, rfl, .inl rfl, atI_nat (by rw [List.getElem?_map, e]; rfl), n, rfl, n1, n2⟩
    · rw [decide_eq_false c]
      exact de_int ⟨7, rfl, by omega, by omega⟩
  rintro x ⟨n, rfl, n1, n7⟩
  -- the names
  refine ds_seq (ds_par (dal_cons (dw_of (de_cb (da_cons (de_cb (da_cons (de_sl (de_var rfl (dp_none (dp_some (de_var rfl ⟨(n : Int), rfl, p.map .str, .inl ⟨rfl, ?_⟩⟩))))))))))))
  rw [cut_to, ← List.map_take]
  have lp : (p.take n).length = n := by rw [List.length_take]; omega
  refine da_nil (dc_sortS (by omega) fun hs pm so => da_nil (dc_tupL (dal_cons (dw_lst (da_nil ⟨[], rfl, szn rfl, dal_nil ⟨_, _, rfl, ?_⟩⟩)))))
  have hsub : ∀ x ∈ hs, x ∈ p := fun x hx => List.mem_of_mem_take (pm.mem_iff.mp hx)
  have hnd : hs.Nodup := pm.nodup_iff.mpr (pn.sublist (List.take_sublist _ _))
  have hinc := sort_inc so hnd
  have hlen : hs.length = n := by rw [pm.length_eq, lp]
  have hz : zedS ∉ hs := fun z => (po _ (hsub _ z)).2 rfl
  have hnm : ∀ h ∈ hs, nameS h = true := fun h hh => (po h (hsub h hh)).1
  let F0 : En := .fz .fd
  let N4 : En := .fz (.d (hoD hs))
  let Ew : List (Str × Str) → List En := fun W => [F0, .un, .un, .un, N4, .ol (W.map prD), .un, .un, .un, .un, .un, .un, .un]
  refine ds_seq (Ds.mono (N := fun ρ' => ∃ W, Gw hs W ∧ W.length ≤ 30 ∧ wipeE ρ' [1, 2, 3, 6, 7, 8, 9, 10, 11, 12] = Ew W) (R := Φ) ?_ ?_ (fun _ h => h))
  · refine ds_if (dt_test (de_gtI (de_var rfl (de_int ⟨(n : Int), 1, rfl, rfl, _, rfl, ?_⟩))))
    by_cases c : (1 : Int) < (n : Int)
    · rw [decide_eq_true c]
      have h2 : 2 ≤ hs.length := by omega
      refine ds_seq (ds_par (dal_cons (dw_of (de_call0 (da_cons (de_var rfl (da_cons (de_var rfl (da_nil ⟨_, hs.map .str, rfl, .inr rfl, by rw [List.length_map]; omega, by rw [List.length_map]; omega, fun d hd => ?_⟩)))))))))
      obtain ⟨s, hs', rfl⟩ := List.mem_map.mp hd
      refine dal_cons (dw_of (de_call0 (da_cons (de_var rfl (da_cons (de_int (da_nil ⟨3, rfl, by omega, by omega, fun ld hld => dal_nil ⟨_, _, rfl, ?_⟩⟩)))))))
      let P1 : En := .fz (.d (.list pd))
      let P2 : En := .fz (.d (.list (p.map .str)))
      let P3 : En := .fz (.d (.int (n : Int)))
      let S8 : En := .fz (.d (.str s))
      let L9 : En := .fz (.d (.int (ld : Int)))
      have range_at : ∀ {jm i : Nat} {v : Dv}, ((List.range ((jm : Int)).toNat).map fun i => Dv.d (.int (i : Nat)))[i]? = some v → i < jm ∧ v = .d (.int (i : Nat)) := fun {jm i v} e => by
        rw [Int.toNat_natCast, List.getElem?_map] at e
        rcases Nat.lt_or_ge i jm with h | h
        · rw [List.getElem?_range h] at e; cases e; exact ⟨h, rfl⟩
        · rw [List.getElem?_eq_none (by simpa using h)] at e; exact nomatch e
      refine ds_seq (ds_forW [6, 7, 10, 12] (fun i ρ' => ∃ W, Gw hs W ∧ W.length ≤ 2 * i ∧ ρ' = [F0, P1, P2, P3, N4, .ol (W.map prD), .un, .un, S8, L9, .un, .un, .un]) (di_tup (de_var rfl ⟨hs.map .str, rfl, [6], ⟨[], fun e he => (nomatch he), by simp, rfl⟩, ?_, ?_⟩)))
      · rintro i v ρ2 hv ⟨W, gw, lw, rfl⟩
        rw [List.getElem?_map, List.getElem?_map] at hv
        cases hp2 : hs[i]? with
        | none => rw [hp2] at hv; exact nomatch hv
        | some m =>
          rw [hp2] at hv; cases hv
          have hm := List.mem_of_getElem? hp2
          have li := (List.getElem?_eq_some_iff.mp hp2).1
          refine dg_name (by decide) ?_
          refine ds_seq (ds_setz (de_lcA hs (fun h => .d (.str h)) (fun h => if (!decide (h = m)) = true then some (.str h) else none) (di_tup (de_var rfl ⟨hs.map .str, rfl, by rw [List.map_map]; exact ⟨rfl, szs (by omega)⟩⟩)) (fun h hh => dg_name (by decide) (dt_test (de_nss (de_var rfl (de_var rfl ⟨h, m, rfl, rfl, _, rfl, ?_⟩))))) ?_))
          · by_cases e : h = m
            · rw [decide_eq_true e]; rfl
            · rw [decide_eq_false e]; exact de_var rfl ⟨_, rfl, rfl⟩
          rw [filterMap_if]
          show Ds _ _ [F0, P1, P2, P3, N4, .ol (W.map prD), .fz (.d (.str m)), .un, S8, L9, .fz (.d (.list ((oth hs m).map .str))), .un, .un] _ _
          refine ds_forW [7] (fun j ρ' => ∃ W', Gw hs W' ∧ W'.length ≤ 2 * i + j ∧ ρ' = [F0, P1, P2, P3, N4, .ol (W'.map prD), .fz (.d (.str m)), .un, S8, L9, .fz (.d (.list ((oth hs m).map .str))), .un, .un]) (di_rng (da_cons (De.mono (Φ := fun x => ∃ jm : Nat, x = .d (.int jm) ∧ jm ≤ 2 ∧ (jm ≠ 0 → m ≠ s)) ?_ ?_)))
          · refine de_if (dt_test (de_nss (de_var rfl (de_var rfl ⟨m, s, rfl, rfl, _, rfl, ?_⟩))))
            by_cases e : m = s
            · rw [decide_eq_true e]; exact de_int ⟨0, rfl, by omega, fun z => absurd rfl z⟩
            · rw [decide_eq_false e]; exact de_var rfl ⟨ld, rfl, by omega, fun _ => e⟩
          rintro x ⟨jm, rfl, j2, jms⟩
          refine da_nil ⟨(jm : Int), rfl, by omega, by omega, [7], ⟨W, gw, by omega, rfl⟩, ?_, ?_⟩
          · rintro j v ρ3 hv ⟨W', gw', lw', rfl⟩
            obtain ⟨jlt, rfl⟩ := range_at hv
            have ms : m ≠ s := jms (by omega)
            refine dg_name (by decide) ?_
            refine ds_append (ds := W'.map prD) rfl rfl (de_tup (da_cons (De.mono (Φ := fun x => ∃ t : Str, x = .d (.str t) ∧ t ∈ hs ∧ t ≠ m) ?_ ?_)))
            · refine de_if (dt_test (de_gtI (de_call0 (da_cons (de_var rfl (da_cons (de_int (da_nil ⟨3, rfl, by omega, by omega, fun k hk => de_int ⟨_, _, rfl, rfl, _, rfl, ?_⟩⟩))))))))
              by_cases c2 : (0 : Int) < (k : Int)
              · rw [decide_eq_true c2]
                exact de_var rfl ⟨s, rfl, hs', Ne.symm ms⟩
              · rw [decide_eq_false c2]
                refine de_call0 (da_cons (de_var rfl (da_cons (de_var rfl (da_nil ⟨_, (oth hs m).map .str, rfl, .inl rfl, by rw [List.length_map]; exact oth_ex hnd h2, ?_, fun d hd => ?_⟩)))))
                · rw [List.length_map]
                  have : (oth hs m).length ≤ hs.length := List.length_filter_le _ _
                  omega
                · obtain ⟨t, ht, rfl⟩ := List.mem_map.mp hd
                  exact ⟨t, rfl, mem_oth.mp ht⟩
            rintro x ⟨t, rfl, t1, t2⟩
            refine da_cons (de_var rfl (da_nil ⟨[.str t, .str m], rfl, szn rfl, prD (t, m), rfl, by rw [List.length_map]; exact szs (by omega), ?_⟩))
            refine ⟨W' ++ [(t, m)], gw'.add t1 hm t2, by rw [List.length_append, List.length_singleton]; omega, ?_⟩
            rw [List.map_append]; rfl
          · rintro ρ3 ⟨W', gw', lw', rfl⟩
            refine ⟨W', gw', ?_, rfl⟩
            rw [List.length_map, List.length_range, Int.toNat_natCast] at lw'
            omega
      · rintro ρ2 ⟨W, gw, lw, rfl⟩
        rw [List.length_map, List.length_map] at lw
        refine ds_forW [7, 11, 12] (fun j ρ' => ∃ W', Gw hs W' ∧ W'.length ≤ 14 + j ∧ ρ' = [F0, P1, P2, P3, N4, .ol (W'.map prD), .un, .un, S8, L9, .un, .un, .un]) (di_rng (da_cons (de_call0 (da_cons (de_var rfl (da_cons (de_int (da_nil ⟨8, rfl, by omega, by omega, fun jm hjm => da_nil ⟨(jm : Int), rfl, by omega, by omega, [7], ⟨W, gw, by omega, rfl⟩, ?_, ?_⟩⟩))))))))
        · rintro j v ρ3 hv ⟨W', gw', lw', rfl⟩
          obtain ⟨jlt, rfl⟩ := range_at hv
          refine dg_name (by decide) ?_
          refine ds_seq (ds_setz (de_call0 (da_cons (de_var rfl (da_cons (de_var rfl (da_nil ⟨_, hs.map .str, rfl, .inr rfl, by rw [List.length_map]; omega, by rw [List.length_map]; omega, fun d hd => ?_⟩)))))))
          obtain ⟨m, hm, rfl⟩ := List.mem_map.mp hd
          refine ds_append (ds := W'.map prD) rfl rfl (de_tup (da_cons (de_call0 (da_cons (de_var rfl (da_cons (de_lcA hs (fun h => .d (.str h)) (fun h => if (!decide (h = m)) = true then some (.str h) else none) (di_tup (de_var rfl ⟨hs.map .str, rfl, by rw [List.map_map]; exact ⟨rfl, szs (by omega)⟩⟩)) (fun h hh => dg_name (by decide) (dt_test (de_nss (de_var rfl (de_var rfl ⟨h, m, rfl, rfl, _, rfl, ?_⟩))))) (da_nil ⟨_, (oth hs m).map .str, by rw [filterMap_if]; rfl, .inl rfl, by rw [List.length_map]; exact oth_ex hnd h2, ?_, fun d hd => ?_⟩))))))))
          · by_cases e : h = m
            · rw [decide_eq_true e]; rfl
            · rw [decide_eq_false e]; exact de_var rfl ⟨_, rfl, rfl⟩
          · rw [List.length_map]
            have : (oth hs m).length ≤ hs.length := List.length_filter_le _ _
            omega
          obtain ⟨t, ht, rfl⟩ := List.mem_map.mp hd
          obtain ⟨t1, t2⟩ := mem_oth.mp ht
          refine da_cons (de_var rfl (da_nil ⟨[.str t, .str m], rfl, szn rfl, prD (t, m), rfl, by rw [List.length_map]; exact szs (by omega), ?_⟩))
          refine ⟨W' ++ [(t, m)], gw'.add t1 hm t2, by rw [List.length_append, List.length_singleton]; omega, ?_⟩
          rw [List.map_append]; rfl
        · rintro ρ3 ⟨W', gw', lw', rfl⟩
          rw [List.length_map, List.length_range, Int.toNat_natCast] at lw'
          exact ⟨W', gw', by omega, rfl⟩
    · rw [decide_eq_false c]
      exact ds_next ⟨[], fun e he => (nomatch he), by simp, rfl⟩
  · rintro ρ' ⟨W, gw, lw, ew⟩
    refine ds_wipe [1, 2, 3, 6, 7, 8, 9, 10, 11, 12] ?_
    rw [ew]
    refine ds_frz ?_
    show Ds _ _ [F0, .un, .un, .un, N4, .fz (.d (.list (W.map prD))), .un, .un, .un, .un, .un, .un, .un] _ _
    refine ds_ret (de_tup (da_cons (de_var rfl (da_cons (de_cb (da_cons (de_cb (da_cons (de_sl (de_var rfl (dp_none (dp_some (de_int ⟨((18 : Nat) : Int), rfl, W.map prD, .inl ⟨rfl, ?_⟩⟩)))))))))))))
    rw [cut_to, ← List.map_take]
    refine da_nil (dc_sortP (by rw [List.length_take]; omega) fun zs pz pw => da_nil (dc_tupL (da_nil ⟨[hoD hs, wiD zs], rfl, szn rfl, ?_⟩)))
    refine q hs zs ⟨hnm, by omega, by omega, hinc, ?_, fun e he => gw e (List.mem_of_mem_take (pz.mem_iff.mp he)), pw⟩ (by omega) hz
    rw [pz.length_eq, List.length_take]; omega
end
end Z

/-! # ZLE -/
set_option Elab.async false
set_option linter.all false
set_option maxRecDepth 100000
set_option maxHeartbeats 2000000
namespace Z
open PySem PySem.Spec PyProof.Rows L2 Fl
/-- the draws' record, made of a script -/
def spFeed (K : PySem.W.Frag) : Sp := fun vs H Q _ => ∃ (a : Addr) (ns : List Int), vs = [.ref a] ∧ SqL K H a (ns.map V.int) ∧ ns.length ≤ 1000 ∧
  ∀ (p c : Addr) (ms : List Int) (H' : Hp), (∀ b o, H b = some o → H' b = some o) → H p = none → p ≠ c → H' p = some (feedO c 0 0 0) → H' c = some (.lst (ms.map V.int)) → Q (.ref p) H'
abbrev N__law_feed : List Str := ["_law_script", "_law_cell"]
theorem sc__law_feed : FnScope N__law_feed ["_law_script"] (defScope (top 69)) := ⟨rfl, rfl, rfl, by decide +kernel, rfl, by decide +kernel, by decide +kernel⟩
section
variable {Pr : Program} {w : World} {K : PySem.W.Frag} {mg : Str → Option Value} {base : Heap} {C : Addr} {f : Addr} {fd : FuncData}
theorem ok_none {H : Hp} : Ok ⟨K, C, none⟩ H H := ⟨fun _ _ e => e, fun a c ns e => (nomatch e), fun a ⟨_, _, e⟩ => (nomatch e)⟩
theorem tC_run {v : V} {σ : L2.St} {H : Hp} {Q : VK} (h : Q v H) : tC v σ H Q := h
theorem lc_swap {σ0 : Option V} {g : TG} {tt : TT} {te te' : TE} {H0 : Hp} {Q : VK} {L : Addr → Hp} {ok : Addr → Prop} (ht : ∀ R : VK, (∀ l, ok l → R (.ref l) (L l)) → te' [σ0, none] H0 R) (h : ∀ l, ok l → tLc (iList K (tVar 1)) g tt te [1] [σ0, some (.ref l)] (L l) Q) : tLc (iList K te') g tt te [1] [σ0, none] H0 Q :=
  ht _ fun l hl => by
    obtain ⟨v, e, R⟩ := h l hl
    cases e
    exact R
theorem c__law_feed (T : Tx K mg C) (F : FnP K "_law_feed" (top 69) [] f fd) (g : mg "_law_feed" = some (.ref f)) : C8.Cal Pr w K mg base 1 "_law_feed" (spFeed K) [] := by
  have sc := sc__law_feed
  refine calN F g (fun _ _ _ _ _ _ us hl => match us, hl with | [_], _ => rfl) (F.ok sc (fun vs H Q E h => by obtain ⟨a, ns, rfl, _⟩ := h; rfl) (fun cdv A outer s H vs Q E hr h => ?_))
  refine ⟨_, PSs.nox (pss_one (ps_ret (pe_disp (pps_cons pe_str (pe_lc (own := [("_law_cell", 1)]) rfl sc.nd (pi_listK K (pe_slice (sl_anyK K) (pv 0) po_none (po_some pe_int))) (blkOk_by (by exact rfl)) (fun _ _ _ _ _ => (pg_name (i := 1) sc.nd rfl (.inl rfl))) (fun _ _ _ _ _ => pts_nil) (fun _ _ _ _ _ => (pe_callTy call_int1 (by rfl) T.m_int boot_int (pa_cons (pv 1) pa_nil)))) (pps_cons pe_str pe_int (pps_cons pe_str pe_int (pps_cons pe_str pe_int pps_nil)))) (by rfl) (by rfl) (fun z => by cases z) (by decide)))), ?_⟩
  obtain ⟨a, ns, rfl, hs, hl, q⟩ := h
  let P : Pm := ⟨K, C, none⟩
  have nf : ∀ b, ¬ isF P b := fun b ⟨_, _, e⟩ => nomatch e
  intro p hp
  -- the cells: script[:63]
  have e1 : cutV (ns.map V.int) none (some 63) = (ns.take 63).map V.int := by
    unfold cutV
    rw [show HT.sIx (ns.map V.int).length 0 none = 0 from rfl, show HT.sIx (ns.map V.int).length (ns.map V.int).length (some 63) = min 63 (ns.map V.int).length from HT.sIx_nat _ _ 63, List.drop_zero, Nat.sub_zero, List.map_take]
    rcases Nat.le_total (ns.map V.int).length 63 with h | h
    · rw [Nat.min_eq_right h, List.take_of_length_le (Nat.le_refl _), List.take_of_length_le h]
    · rw [Nat.min_eq_left h]
  have es : L2.start N__law_feed [V.ref a] = [some (.ref a), none] := rfl
  rw [es, tPairs.eq_2]
  refine tC_run ?_
  refine lc_swap (L := fun l => upd (upd H p (.dK [])) l (.lst ((ns.take 63).map V.int))) (ok := fun l => upd H p (.dK []) l = none) (fun R hR => ⟨.ref a, rfl, 63, rfl, .inl ⟨a, _, rfl, sqL_up (upd_set hp) hs, fun l hl' => by rw [e1]; exact hR l hl'⟩⟩) fun l hl' => ?_
  have np : l ≠ p := fun z => by rw [z, upd_same] at hl'; exact nomatch hl'
  generalize hms : ns.take 63 = ms
  let H1 : Hp := upd (upd H p (.dK [])) l (.lst (ms.map V.int))
  let σ' : L2.St := [some (.ref a), some (.ref l)]
  have o1 : Ok P H1 H1 := ok_none
  have r1 : Rel P H1 H1 H1 [.un, .fz (.d (.list (ms.map .int)))] σ' := ⟨rfl, fun i e h => by
    match i, h with
    | 0, h => cases h; exact ⟨_, rfl, True.intro⟩
    | 1, h => cases h; exact ⟨_, rfl, _, rfl, Dq.lst upd_same in_dpA⟩
    | i + 2, h => exact (nomatch h), fun _ h => h, fun b f => absurd f (nf b)⟩
  have lm : ms.length ≤ 1000 := by rw [← hms, List.length_take]; omega
  have key : De P (tLc (iList K (tVar 1)) (gName 1) tYes (tCB (fun xs H Q => (∃ i, xs = [V.int i] ∧ Q (.int i) H) ∨ ∃ k, xs = [V.bl k] ∧ Q (.int (if k = true then 1 else 0)) H) (tCons (tVar 1) tNil)) [1]) [.un, .fz (.d (.list (ms.map .int)))] fun x => x = .d (.list (ms.map .int)) :=
    de_lcB ms (fun i => .d (.int i)) (fun i => .int i) (di_list (de_var rfl ⟨ms.map .int, rfl, by rw [List.map_map]; exact ⟨rfl, szs (by omega)⟩⟩)) (fun i hi => dg_name (by decide) (de_cb (da_cons (de_var rfl (da_nil (dc_int rfl)))))) rfl
  refine key H1 H1 H1 σ' o1 r1 _ fun v G2 H2 x g2 rv e => ?_
  subst e
  have rv : Dq G2 v (.list (ms.map .int)) := rv
  cases rv with
  | @lst c vs _ hc hd =>
    have e := dpA_in hd
    subst e
    have hc2 := g2.ok.sub _ _ hc
    have hp2 : H2 p = some (.dK []) := g2.kp _ _ (by show upd _ l _ p = _; rw [upd_ne np.symm, upd_same]) (nf p)
    refine ⟨hp2, [(.inr "cells", .ref c), (.inr "spot", .int 0), (.inr "over", .int 0), (.inr "turn", .int 0)], rfl, by show 4 ≤ 15; decide, ?_⟩
    have pc : p ≠ c := fun z => by rw [z, hc2] at hp2; exact nomatch hp2
    refine q p c ms _ (fun b o e => ?_) hp pc (by rw [upd_same]; rfl) (by rw [upd_ne pc.symm]; exact hc2)
    have bp : b ≠ p := ne_of_none e hp
    rw [upd_ne bp]
    refine g2.kp _ _ ?_ (nf b)
    have bl : b ≠ l := fun z => by rw [z] at e; rw [upd_ne np] at hl'; rw [e] at hl'; exact nomatch hl'
    show upd _ l _ b = _
    rw [upd_ne bl, upd_ne bp]; exact e
end
end Z

/-! # ZLF -/
set_option Elab.async false
set_option linter.all false
set_option maxRecDepth 100000
set_option maxHeartbeats 2000000
namespace Z
open PySem PySem.Spec PyProof.Rows L2 Fl
def gRn : List Value → List Value → List Value := fun us ws => us ++ [ws.getD 1 .none, ws.getD 0 .none]
/-- Rooted(..): its __init__, by place and by name -/
structure CalI (P : Program) (w : World) (K : PySem.W.Frag) (mg : Str → Option Value) (base : Heap) (C : Addr) : Prop where
  ex : ∃ (f : Addr) (fd : FuncData), Mk K C f ∧ FnOk P w K mg base CX0 6 f fd ["self", "net", "root"] (spInit K C) ∧ L2.Binds K fd ["self", "net", "root"] [] ∧ KBn K fd ["self", "net", "root"] 1 ["root", "net"] gRn gVrn
section
variable {X : Cx} {C : Addr} {j : Nat} {p pos : Pos}
theorem s_make {e : Expr} {es : List Expr} {t : TA} (c : CalI X.prog X.w X.K X.mg X.base C) (hm : X.mg "Rooted" = some (.ref C)) (hr : Room j X.A) (hk : 7 ≤ j) (hg : Gl X "Rooted") (ha : PA X (e :: es) t) (he : starEach (e :: es) X.env = (false, eval e X.env) :: starEach es X.env := by rfl) (hpl : (backTo pos (starEach es X.env)).any (·.1) = false := by rfl) :
    PE X (.Call (.Name "Rooted" p) (e :: es) [] pos) (tMake C (spInit X.K C) [] E0 t) := by
  obtain ⟨f, fd, M, F, b, _⟩ := c.ex
  exact pe_make M F (hr.mono hk) hg hm b .nil pass0 ha (by decide) he hpl
theorem s_makeK {kws : List Keyword} {tk : TA} (c : CalI X.prog X.w X.K X.mg X.base C) (hm : X.mg "Rooted" = some (.ref C)) (hr : Room j X.A) (hk : 7 ≤ j) (hg : Gl X "Rooted") (hkw : PK X kws tk)
    (hall : (backToKw pos (keywordEach kws X.env)).all (·.1.isSome) = true := by rfl) (hks : (backToKw pos (keywordEach kws X.env)).filterMap (·.1) = (["root", "net"] : List Str) := by rfl)
    (hpl : ((backTo pos (starEach [] X.env)).any (·.1) || (backToKw pos (keywordEach kws X.env)).any (·.1.isNone)) = false := by rfl) : PE X (.Call (.Name "Rooted" p) [] kws pos) (tMakeK C 0 2 (spInit X.K C) gVrn E0 tNil tk) := by
  obtain ⟨f, fd, M, F, _, b⟩ := c.ex
  refine ⟨fun pins s σ H Q I h => ?_⟩
  refine wpAny_Call_Name_kw (ld_glob I hg hm ?_ (by decide))
  refine PySem.W.callWith_KW0 (h₀ := X.base) I.ok.mod.kin M.kp hall ?_ hpl
  refine thn (hkw.run pos pins s σ H _ I h) fun ws s2 ⟨zs, H2, I2, rz, l1, l2, q2⟩ => ⟨I2.kIn, ?_⟩
  rw [hks]
  exact run_makeK (us := []) (vs := []) (n := 0) M F (hr.mono hk) b pass0 I2 .nil rz rfl l2 q2
end
section
variable {K : PySem.W.Frag} {C f : Addr} {fd : FuncData}
theorem kb_init (F : FnQ K "__init__" "Rooted.__init__" (inC 0) f fd) : KBn K fd ["self", "net", "root"] 1 ["root", "net"] gRn gVrn := by
  obtain ⟨oc, od, dV, kV, doc, pm, an, cdv, ct, osl, rfl, lk, hcd, hD, hK⟩ := F.ex
  rcases hD with ⟨_, rfl⟩ | ⟨e, _⟩
  · refine ⟨fun s us ws X l1 l2 => ?_, fun {vs us zs ws} r rz => ?_⟩
    · match us, l1, ws, l2 with
      | [u], _, [a, b], _ => exact .of_eq rfl
    · refine r.append (.cons ?_ (.cons ?_ .nil))
      · cases rz with
        | nil => rfl
        | cons h t => cases t with
          | nil => rfl
          | cons h t => exact h
      · cases rz with
        | nil => rfl
        | cons h t => exact h
  · exact absurd rfl e
end
end Z

/-! # ZLG -/
set_option Elab.async false
set_option linter.all false
set_option maxRecDepth 100000
set_option maxHeartbeats 2000000
namespace Z
open PySem PySem.Spec PyProof.Rows L2 Fl
def spLaw (K : PySem.W.Frag) : Sp := fun vs H Q _ => ∃ (a : Addr) (ns : List Int), vs = [.ref a] ∧ SqL K H a (ns.map V.int) ∧ ns.length ≤ 1000 ∧ ∀ H', Q (.bl true) H'
theorem seq_asg {te : TE} {g : TG} {u : TS} {D : Ends} {σ : L2.St} {H : Hp} (h : te σ H fun v H1 => g v σ H1 fun σ' H2 => u D σ' H2) : tSeq (tAsg te g) u D σ H := h
theorem gName_run {i : Nat} {v : V} {u : TS} {D : Ends} {σ : L2.St} {H : Hp} (h : u D (σ.set i (some v)) H) : gName i v σ H (fun σ' H2 => u D σ' H2) := h
theorem ds_run {P : Pm} {ρ : List En} {ts : TS} {D : Ends} {G H : Hp} {σ : L2.St} (o : Ok P G H) (r : Rel P H G H ρ σ) (q : ∀ H', D.rt (.bl true) H') (h : Ds P ts ρ (fun _ => False) (fun x => x = .d (.bool true))) : ts D σ H :=
  h G H G H σ o (.refl o) r D (fun _ _ _ _ _ _ _ z => z.elim) fun v G' H' x _ rv e => by
    subst e
    cases rv
    exact q H'
theorem rel_un {P : Pm} {G H : Hp} {σ : L2.St} {n : Nat} (o : Ok P G H) (hl : σ.length = n) : Rel P H G H (List.replicate n .un) σ :=
  ⟨by rw [List.length_replicate, hl], fun i e h => by
    have lt := (List.getElem?_eq_some_iff.mp h).1
    rw [List.length_replicate] at lt
    rw [List.getElem?_replicate, if_pos lt] at h
    cases h
    exact ⟨_, List.getElem?_eq_getElem (by omega), True.intro⟩, fun _ h => h, fun a f => by obtain ⟨c, s, u, t, e⟩ := o.fsome f; rw [e]; exact fun z => nomatch z⟩
theorem shaped_wi {hs : List Str} {ws : List (Str × Str)} (gn : GN hs ws) : SeqAt.shaped (wiD ws) = true := by
  have h1 : PyData.canLayAll0 (ws.map prD) = true := lay_all fun d hd => by
    obtain ⟨e, he, rfl⟩ := List.mem_map.mp hd
    obtain ⟨a, b⟩ := gn.ok e he
    rw [prD, PyData.canLay0.eq_6]
    have := lay_strs (l := [e.1, e.2]) (fun s hs => by
      rcases List.mem_cons.mp hs with z | z
      · rw [z]; exact a
      · rw [List.mem_singleton.mp z]; exact b)
    exact this
  have h2 : PyData.depthAll (ws.map prD) ≤ 1 := depth_all fun d hd => by
    obtain ⟨e, he, rfl⟩ := List.mem_map.mp hd
    have := depth_strs [e.1, e.2]
    rw [prD, PyData.depth.eq_2]
    have : PyData.depthAll [PyData.str e.1, PyData.str e.2] ≤ 0 := this
    omega
  unfold SeqAt.shaped
  rw [wiD, PyData.canLay0.eq_6, PyData.depth.eq_2, h1, Bool.true_and]
  exact decide_eq_true (by omega)
theorem cut_but (ds : List PyData) : cutD ds none (some (-1)) = ds.take (ds.length - 1) := by
  unfold cutD
  have e1 : HT.sIx ds.length 0 none = 0 := rfl
  rw [e1, show HT.sIx ds.length ds.length (some (-1)) = ((-1 : Int) + (ds.length : Int)).toNat from rfl, List.drop_zero, Nat.sub_zero]
  congr 1
  omega
abbrev N_law : List Str := ["_law_script", "_law_feed_here", "_law_town", "_law_seat", "_law_kept", "_law_one", "_law_lap", "_law_late", "_law_other"]
theorem sc_law : FnScope N_law ["_law_script"] (defScope (top 88)) := ⟨rfl, rfl, rfl, by decide +kernel, rfl, by decide +kernel, by decide +kernel⟩
section
variable {Pr : Program} {w : World} {K : PySem.W.Frag} {mg : Str → Option Value} {base : Heap} {C : Addr} {f : Addr} {fd : FuncData}
theorem fnG_law (T : Tx K mg C) (TN : PySem.W.findIn K (.ref C) "__ne__" = some (some (.builtin "object.__ne__")) ∧ PySem.W.mroIn K C (.type "object") = some true) (mk : CalI Pr w K mg base C)
    (c__law_feed : C8.Cal Pr w K mg base 1 "_law_feed" (spFeed K) []) (c__law_net : C8.Cal Pr w K mg base 3 "_law_net" (mkSp K C L_lnet) []) (c__law_any : C8.Cal Pr w K mg base 2 "_law_any" (mkSp K C L_lany) [])
    (c__law_is_told : CalG Pr w K mg base 9 "_law_is_told" (mkSp K C L_lright)) (c__law_are_any_right : CalG Pr w K mg base 9 "_law_are_any_right" (mkSp K C L_lright)) (c__law_are_between : C8.Cal Pr w K mg base 9 "_law_are_between" (mkSp K C L_lbetw) [])
    (c__law_are_values_out : C8.Cal Pr w K mg base 6 "_law_are_values_out" (mkSp K C L_lout) []) (c__law_same : CalG Pr w K mg base 1 "_law_same" (mkSp K C L_lsame)) (o_eq : Own Pr w K mg base 1 C "__eq__" (mkSp K C L_oeq))
    (F : FnP K "law" (top 88) [] f fd) : FnG Pr w K mg base CX0 10 f fd ["_law_script"] (spLaw K) := by
  have sc := sc_law
  refine fn_g F sc (fun vs H Q E h => by obtain ⟨a, ns, rfl, _⟩ := h; rfl) (fun cdv A outer s H vs Q E hr hg h => ?_)
  refine ⟨_, PSs.nox (pss_cons (ps_set (i := 1) sc.nd rfl (by first | exact .inl rfl | exact .inr rfl) (C8.pe_c c__law_feed hr (by decide) (by rfl) (pa_cons (pv 0) pa_nil)))
      (pss_cons (ps_set (i := 2) sc.nd rfl (by first | exact .inl rfl | exact .inr rfl) (C8.pe_c c__law_net hr (by decide) (by rfl) (pa_cons (pv 1) pa_nil)))
      (pss_cons (ps_par (i := 3) (j := 4) rfl sc.nd rfl rfl (by decide) rfl rfl (pa_cons (C8.pe_c c__law_any hr (by decide) (by rfl) (pa_cons (pv 1) (pa_cons (pe_ix (ix_seqK K) (pv 2) pe_int (fun _ _ => rfl)) pa_nil))) (pa_cons (pe_callB (call_reprD K hr hg) (by rfl) T.m_repr (by decide +kernel) (pa_cons (pv 2) pa_nil)) pa_nil)) (by rfl))
      (pss_cons (ps_set (i := 5) sc.nd rfl (by first | exact .inl rfl | exact .inr rfl) (s_make mk T.gC hr (by decide) (by rfl) (pa_cons (pv 2) (pa_cons (pv 3) pa_nil))))
      (pss_cons (ps_for PassesOwn.never rfl (pi_range1 (by rfl) T.m_range (pa_cons pe_int pa_nil)) (pg_name (i := 6) sc.nd rfl (by first | exact .inl rfl | exact .inr rfl)) (pss_one (ps_if (PW.pt (pw_or (pt_not (pt_val (pe_cG c__law_is_told hr hg (by decide) (by rfl) (pa_cons (pv 5) (pa_cons (pv 2) (pa_cons (pv 3) pa_nil)))))) (pw_or1 (pt_not (pt_val (pe_cG c__law_are_any_right hr hg (by decide) (by rfl) (pa_cons (pv 5) (pa_cons (pv 2) (pa_cons (pv 3) pa_nil))))))))) (pss_one (ps_ret pe_bl)) pss_nil)))
      (pss_cons (ps_if (PW.pt (pw_or (pt_not (pt_val (C8.pe_c c__law_are_between hr (by decide) (by rfl) (pa_cons (pv 5) (pa_cons (pv 2) (pa_cons (pv 3) pa_nil)))))) (pw_or1 (pt_not (pt_val (C8.pe_c c__law_are_values_out hr (by decide) (by rfl) (pa_cons (pv 1) (pa_cons (pv 5) (pa_cons (pv 2) (pa_cons (pv 3) pa_nil)))))))))) (pss_one (ps_ret pe_bl)) pss_nil)
      (pss_cons (ps_for PassesOwn.never rfl (pi_tupK K (pe_ix (ix_seqK K) (pv 2) pe_int (fun _ _ => rfl))) (pg_name (i := 7) sc.nd rfl (by first | exact .inl rfl | exact .inr rfl)) (pss_cons (ps_set (i := 8) sc.nd rfl (by first | exact .inl rfl | exact .inr rfl) (s_makeK mk T.gC hr (by decide) (by rfl) (pk_cons (pv 7) (pk_cons (pv 2) pk_nil))))
      (pss_one (ps_if (pt_not (pt_val (pe_cG c__law_same hr hg (by decide) (by rfl) (pa_cons (pe_lst (pa_cons (pe_cmpR (s_ownEq o_eq hr (by decide)) (pv 5) (pv 8) (nomark _)) (pa_cons (pe_cmpR (s_ownNe o_eq TN.1 TN.2 hr (by decide)) (pv 5) (pv 8) (nomark _)) pa_nil))) (pa_cons (pe_lst (pa_cons (pe_cmpR (op_eqK K hr) (pv 7) (pv 3) (nomark _)) (pa_cons (pe_cmpR (op_neK K hr) (pv 7) (pv 3) (nomark _)) pa_nil))) pa_nil))))) (pss_one (ps_ret pe_bl)) pss_nil))))
      (pss_cons (ps_if (pt_cmpR (op_neK K hr) (pe_ix (ix_seqK K) (pv 2) pe_int (fun _ _ => rfl)) (pe_tup pa_nil) (nomark _)) (pss_one (ps_for PassesOwn.never rfl (pi_listK K (pe_lst (pa_cons (pe_slice (sl_anyK K) (pe_ix (ix_seqK K) (pv 2) pe_int (fun _ _ => rfl)) (po_some pe_int) po_none) (pa_cons (pe_slice (sl_anyK K) (pe_ix (ix_seqK K) (pv 2) pe_int (fun _ _ => rfl)) po_none (po_some (pe_un un_neg pe_int))) pa_nil)))) (pg_name (i := 7) sc.nd rfl (by first | exact .inl rfl | exact .inr rfl)) (pss_one (ps_if (pt_cmpR (s_ownEq o_eq hr (by decide)) (pv 5) (s_make mk T.gC hr (by decide) (by rfl) (pa_cons (pe_tup (pa_cons (pe_ix (ix_seqK K) (pv 2) pe_int (fun _ _ => rfl)) (pa_cons (pv 7) pa_nil))) (pa_cons (pv 3) pa_nil))) (nomark _)) (pss_one (ps_ret pe_bl)) pss_nil)))) pss_nil)
      (pss_one (ps_ret (pe_and (pe_cmpR (op_eqK K hr) (pe_callB (call_reprD K hr hg) (by rfl) T.m_repr (by decide +kernel) (pa_cons (pv 2) pa_nil)) (pv 4) (nomark _)) (pe_and (pe_cmpR (s_ownEq o_eq hr (by decide)) (pv 5) (s_make mk T.gC hr (by decide) (by rfl) (pa_cons (pv 2) (pa_cons (pv 3) pa_nil))) (nomark _)) (pe_one (pe_not (pe_cmpR (s_ownEq o_eq hr (by decide)) (pv 5) (pe_tup (pa_cons (pv 2) (pa_cons (pv 3) pa_nil))) (nomark _)))))))))))))))), ?_⟩
  obtain ⟨a, ns, rfl, hs, hl, q⟩ := h
  refine seq_asg ⟨.ref a, rfl, a, ns, rfl, hs, hl, fun p c ms H1 old hp pc hp1 hc1 => gName_run ?_⟩
  let P : Pm := ⟨K, C, some (p, c, ms)⟩
  have fp : ∀ b, isF P b → b = p := fun b ⟨_, _, e⟩ => by cases e; rfl
  have o1 : Ok P (seeAll P H1) H1 := ⟨fun b u e => by
      by_cases f : isF P b
      · rw [see_fd f] at e; exact nomatch e
      · rw [see_at f] at e; exact e, fun a' c' ns' e => by cases e; exact ⟨⟨0, 0, 0, ⟨Int.le_refl _, Int.le_refl _⟩, hp1⟩, hc1⟩, fun a f => see_fd f⟩
  have r1 := (rel_un (σ := L2.start N_law [.ref a]) (n := 9) o1 rfl).set 1 (e := .fz .fd) (s := some (.ref p)) ⟨_, rfl, p, rfl, c, ms, rfl⟩
  refine ds_run o1 r1 (fun H' => q H') ?_
  show Ds P _ [.un, .fz .fd, .un, .un, .un, .un, .un, .un, .un] _ _
  refine ds_seq (ds_setz (de_call0 (da_cons (de_var rfl (da_nil ⟨rfl, fun hs ws gn hl7 hz => ?_⟩)))))
  have lh := gn.lh
  have lw := gn.lw
  have rpn : Rp (netD hs ws) := rp_of ⟨_, .inr rfl⟩ (gd_net gn) (by omega) (by omega)
  refine ds_seq (ds_par (dal_cons (dw_of (de_call0 (da_cons (de_var rfl (da_cons (de_net0 (hs := hs) (ws := ws) (de_var rfl ⟨rfl, da_nil ⟨_, hs.map .str, rfl, .inr rfl, by rw [List.length_map]; exact gn.h0, by rw [List.length_map]; omega, fun d hd => ?_⟩⟩)))))))))
  obtain ⟨s, sm, rfl⟩ := List.mem_map.mp hd
  refine dal_cons (dw_of (de_cb (da_cons (de_var rfl (da_nil (dc_repr rpn (dal_nil ⟨_, _, rfl, ?_⟩)))))))
  refine ds_seq (ds_setz (de_make (da_cons (de_var rfl (da_cons (de_var rfl (da_nil ⟨hs, ws, s, rfl, gn, sm, ?_⟩)))))))
  let F1 : En := .fz .fd
  let T2 : En := .fz (.d (netD hs ws))
  let S3 : En := .fz (.d (.str s))
  let K4 : En := .fz (.d (.str (netD hs ws).shown))
  let O5 : En := .fz (roD hs ws s)
  show Ds P _ [.un, F1, T2, S3, K4, O5, .un, .un, .un] _ _
  refine ds_seq (ds_forW [6] (fun i ρ' => ρ' = [.un, F1, T2, S3, K4, O5, .un, .un, .un]) (di_rng (da_cons (de_int (da_nil ⟨2, rfl, by omega, by omega, [6], rfl, ?_, ?_⟩)))))
  · rintro i v ρ2 hv rfl
    have hv2 : ∃ k : Nat, v = .d (.int (k : Int)) := by
      rw [List.getElem?_map] at hv
      cases hq : (List.range (2 : Int).toNat)[i]? with
      | none => rw [hq] at hv; exact nomatch hv
      | some k => rw [hq] at hv; cases hv; exact ⟨k, rfl⟩
    obtain ⟨k, rfl⟩ := hv2
    refine dg_name (by decide) ?_
    refine ds_if (dt_or (dt_not (dt_b (de_call0 (da_cons (de_var rfl (da_cons (de_var rfl (da_cons (de_var rfl (da_nil ⟨hs, ws, s, rfl, gn, sm, hl7, true, rfl, ?_⟩)))))))))))
    show Dt _ _ _ _
    exact dt_not (dt_b (de_call0 (da_cons (de_var rfl (da_cons (de_var rfl (da_cons (de_var rfl (da_nil ⟨hs, ws, s, rfl, gn, sm, hl7, true, rfl, ds_next rfl⟩)))))))))
  rintro ρ2 rfl
  refine ds_seq (ds_if (dt_or (dt_not (dt_b (de_call0 (da_cons (de_var rfl (da_cons (de_var rfl (da_cons (de_var rfl (da_nil ⟨hs, ws, s, rfl, gn, sm, hl7, true, rfl, ?_⟩))))))))))))
  show Dt _ _ _ _
  refine dt_not (dt_b (de_call0 (da_cons (de_var rfl (da_cons (de_var rfl (da_cons (de_var rfl (da_cons (de_var rfl (da_nil ⟨hs, ws, s, rfl, gn, sm, hl7, hz, true, rfl, ds_next ?_⟩)))))))))))
  -- other roots
  refine ds_seq (ds_forW [7, 8] (fun i ρ' => ρ' = [.un, F1, T2, S3, K4, O5, .un, .un, .un]) (di_tup (de_net0 (hs := hs) (ws := ws) (de_var rfl ⟨rfl, hs.map .str, rfl, [7], rfl, ?_, ?_⟩))))
  · rintro i v ρ2 hv rfl
    rw [List.getElem?_map, List.getElem?_map] at hv
    cases hq : hs[i]? with
    | none => rw [hq] at hv; exact nomatch hv
    | some t =>
      rw [hq] at hv; cases hv
      have tm := List.mem_of_getElem? hq
      refine dg_name (by decide) ?_
      refine ds_seq (ds_setz (de_makeK (da_cons (de_var rfl (da_cons (de_var rfl (da_nil ⟨hs, ws, t, rfl, gn, tm, ?_⟩)))))))
      have es : decide ((hs = hs ∧ ws = ws) ∧ s = t) = decide (t = s) := decide_eq_decide.mpr ⟨fun h => h.2.symm, fun h => ⟨⟨rfl, rfl⟩, h.symm⟩⟩
      refine ds_if (dt_not (dt_b (de_call0 (da_cons (de_lst (da_cons (de_op (de_var rfl (de_var rfl (dop_ownEq (neg := false) (.inl ⟨_, _, _, rfl⟩) ⟨hs, ws, s, _, rfl, gn, .inl ⟨hs, ws, t, rfl, gn, _, rfl, ?_⟩⟩))))))))))
      refine da_cons (de_op (de_var rfl (de_var rfl (dop_ownEq (neg := true) (.inl ⟨_, _, _, rfl⟩) ⟨hs, ws, s, _, rfl, gn, .inl ⟨hs, ws, t, rfl, gn, _, rfl, ?_⟩⟩))))
      refine da_nil ⟨[.bool (decide (t = s)), .bool (!decide (t = s))], by rw [es]; rfl, szn rfl, ?_⟩
      refine da_cons (de_lst (da_cons (de_ss (de_var rfl (de_var rfl ⟨_, _, rfl, rfl, da_cons (de_nss (de_var rfl (de_var rfl ⟨_, _, rfl, rfl, da_nil ⟨[.bool (decide (t = s)), .bool (!decide (t = s))], rfl, szn rfl, da_nil ⟨_, rfl, rp_lst (gd_cons (gd_bl (D := 0)) (gd_cons gd_bl (gd_nil (W := 0)))) (by omega) (by omega), true, rfl, ds_next rfl⟩⟩⟩)))⟩)))))
  rintro ρ2 rfl
  -- other nets
  refine ds_seq (Ds.mono (N := fun ρ' => wipeE ρ' [7] = [.un, F1, T2, S3, K4, O5, .un, .un, .un]) (R := fun x => x = .d (.bool true)) ?_ ?_ (fun _ h => h))
  · refine ds_if (dt_test (de_op (de_net1 (hs := hs) (ws := ws) (de_var rfl ⟨rfl, de_tup (da_nil ⟨[], rfl, szn rfl, DOp.inr (dop_neD (shaped_wi gn) shaped_nil.2 ⟨_, rfl, ?_⟩)⟩)⟩))))
    by_cases e0 : ws = []
    · have e1 : PyData.eqv (wiD ws) (.tuple []) = true := by rw [wiD, (eqv_nil _).2, e0]; rfl
      rw [e1]
      exact ds_next rfl
    · have e1 : PyData.eqv (wiD ws) (.tuple []) = false := by
        rw [wiD, (eqv_nil _).2]
        simpa using e0
      rw [e1]
      have w1 : 1 ≤ ws.length := List.length_pos_iff.mpr e0
      have one : ∀ ws', ws'.Sublist ws → ws'.length < ws.length → ∀ {ρ' : List En}, ρ'[5]? = some O5 → ρ'[2]? = some T2 → ρ'[3]? = some S3 → ρ'[7]? = some (.fz (.d (wiD ws'))) → Dt P (tTest (tOp (rOwnEq K C (mkSp K C L_oeq) C8.E0 false) (tVar 5) (tMake C (spInit K C) [] C8.E0 (tCons (tTup (tCons (tOp (rIx K) (tVar 2) (tC (.int 0))) (tCons (tVar 7) tNil))) (tCons (tVar 3) tNil))))) ρ' fun b => b = false := fun ws' sub lt ρ' h5 h2 h3 h7 => by
        have gn' := gn_sub gn sub
        refine dt_test (de_op (de_var h5 (de_make (da_cons (de_tup (da_cons (de_net0 (hs := hs) (ws := ws) (de_var h2 ⟨rfl, da_cons (de_var h7 (da_nil ⟨[hoD hs, wiD ws'], rfl, szn rfl, da_cons (de_var h3 (da_nil ⟨hs, ws', s, rfl, gn', sm, dop_ownEq (neg := false) (.inl ⟨_, _, _, rfl⟩) ⟨hs, ws, s, _, rfl, gn, .inl ⟨hs, ws', s, rfl, gn', _, rfl, ?_⟩⟩⟩))⟩))⟩))))))))
        refine ⟨false, ?_, rfl⟩
        rw [decide_eq_false]
        · rfl
        · rintro ⟨⟨_, e⟩, _⟩
          rw [e] at lt; omega
      refine ds_forW [7] (fun i ρ' => ρ' = [.un, F1, T2, S3, K4, O5, .un, .un, .un]) (di_list (de_lst (da_cons (de_sl (de_net1 (hs := hs) (ws := ws) (de_var rfl ⟨rfl, dp_some (de_int ⟨1, rfl, dp_none ⟨ws.map prD, .inr ⟨rfl, ?_⟩⟩⟩)⟩))))))
      rw [cut_one, ← List.map_drop]
      refine da_cons (de_sl (de_net1 (hs := hs) (ws := ws) (de_var rfl ⟨rfl, dp_none (dp_some (de_neg (de_int ⟨1, rfl, -1, rfl, ws.map prD, .inr ⟨rfl, ?_⟩⟩)))⟩)))
      rw [cut_but, List.length_map, ← List.map_take]
      refine da_nil ⟨[wiD (ws.drop 1), wiD (ws.take (ws.length - 1))], rfl, szn rfl, [wiD (ws.drop 1), wiD (ws.take (ws.length - 1))], rfl, [7], rfl, ?_, ?_⟩
      · rintro i v ρ2 hv rfl
        have hv2 : ∃ ws', v = .d (wiD ws') ∧ ws'.Sublist ws ∧ ws'.length < ws.length := by
          match i, hv with
          | 0, hv => cases hv; exact ⟨_, rfl, List.drop_sublist _ _, by rw [List.length_drop]; omega⟩
          | 1, hv => cases hv; exact ⟨_, rfl, List.take_sublist _ _, by rw [List.length_take]; omega⟩
          | i + 2, hv => exact nomatch hv
        obtain ⟨ws', rfl, sub, lt⟩ := hv2
        refine dg_name (by decide) ?_
        refine ds_if ((one ws' sub lt rfl rfl rfl rfl).mono fun b hb => ?_)
        subst hb
        exact ds_next rfl
      · rintro ρ2 rfl
        rfl
  · rintro ρ' ew
    refine ds_wipe [7] ?_
    rw [ew]
    refine ds_ret (de_and (de_ss (de_cb (da_cons (de_var rfl (da_nil (dc_repr rpn (de_var rfl ⟨_, _, rfl, rfl, true, by rw [decide_eq_true rfl], ?_⟩))))))))
    show De _ _ _ _
    refine de_and (de_op (de_var rfl (de_make (da_cons (de_var rfl (da_cons (de_var rfl (da_nil ⟨hs, ws, s, rfl, gn, sm, dop_ownEq (neg := false) (.inl ⟨_, _, _, rfl⟩) ⟨hs, ws, s, _, rfl, gn, .inl ⟨hs, ws, s, rfl, gn, _, rfl, true, by rw [decide_eq_true ⟨⟨rfl, rfl⟩, rfl⟩]; rfl, ?_⟩⟩⟩))))))))
    show De _ _ _ _
    exact de_not (de_op (de_var rfl (de_tup (da_cons (de_var rfl (da_cons (de_var rfl (da_nil ⟨[netD hs ws, .str s], rfl, szn rfl, dop_ownEq (neg := false) (.inr ⟨_, rfl⟩) ⟨hs, ws, s, _, rfl, gn, .inr ⟨_, rfl, false, rfl, false, rfl, rfl⟩⟩⟩))))))))
end
end Z

/-! # ZH0 -/
set_option Elab.async false
set_option linter.all false
set_option maxRecDepth 100000
set_option maxHeartbeats 2000000
/-! The head's facts, with a class's properties and own methods. -/
namespace HX
open PySem PySem.Spec PyProof.Rows L2
theorem GD.funD {K : PySem.W.Frag} {d : GD} (e : fnX K (gAd K d.m) = d.val) (c : d.ok K = true) : ∃ fd, FunD K d.name d.qual d.params d.body d.scope [] [] (gAd K d.m) fd := by
  obtain ⟨kp, c2⟩ := He.ba c
  unfold fnX at e
  cases q : K.lookup (gAd K d.m) with
  | none => rw [q] at e; exact nomatch e
  | some o =>
    obtain ⟨oc, od, dt, osl⟩ := o
    rw [q] at c2 e
    cases dt with
    | func fd =>
      obtain ⟨n1, n2, n3, n4, n5, n6, n7, n8, n9, n10, n11, n12, n13, n14, n15⟩ := fd
      have e2 : (some (n1, n2, n3, n4, n5, n6, n7, n15) : He.FnW) = some (d.name, d.qual, d.params, .stmts d.body, d.scope, mainGlobals, [], builtinsNs) := e
      simp only [Option.some.injEq, Prod.mk.injEq] at e2
      obtain ⟨h1, h2, h3, h4, h5, h6, h7, h8⟩ := e2
      subst h1 h2 h3 h4 h5 h6 h7 h8
      obtain ⟨k1, k2⟩ := He.ba (show (PySem.W.codeIn K n13 d.qual && (He.dflB K n8 [] && He.kwdB K n9 [])) = true from c2)
      obtain ⟨k3, k4⟩ := He.ba k2
      exact ⟨_, ⟨oc, od, n8, n9, n10, n11, n12, n13, n14, osl, rfl, q, k1, He.dflB_ok k3, He.kwdB_ok k4⟩, kp⟩
    | _ => cases c2
theorem prop_ok {K : PySem.W.Frag} {m : Str} (h : propB K m = true) : PropOf K (cK K) m (mAd K m) (gAd K m) := by
  obtain ⟨h1, h⟩ := He.ba h
  obtain ⟨h2, h⟩ := He.ba h
  obtain ⟨h3, h4⟩ := He.ba h
  refine ⟨He.eqO_ok h1, He.eqO_ok h2, of_decide_eq_true h3, ?_⟩
  have h4 : (match PySem.W.recIn K (mAd K m) "property" with
    | some (.ref _ :: _) => true
    | _ => false) = true := h4
  unfold gAd
  cases q : PySem.W.recIn K (mAd K m) "property" with
  | none => rw [q] at h4; exact nomatch h4
  | some l =>
    cases l with
    | nil => rw [q] at h4; exact nomatch h4
    | cons v r =>
      cases v with
      | ref g => exact ⟨r, rfl⟩
      | _ => rw [q] at h4; exact nomatch h4
theorem own_ok {K : PySem.W.Frag} {m : Str} (h : ownB K m = true) : Z.OwnM K (cK K) m (mAd K m) := by
  obtain ⟨h1, h⟩ := He.ba h
  obtain ⟨h2, h3⟩ := He.ba h
  exact ⟨He.eqO_ok h1, h2, h3⟩
theorem call_ok {K : PySem.W.Frag} (h : ownB K "__call__" = true) : StX.CallO K (cK K) (mAd K "__call__") := by
  obtain ⟨h1, h⟩ := He.ba h
  obtain ⟨h2, h3⟩ := He.ba h
  exact ⟨He.eqO_ok h1, h2, h3⟩
theorem cls_ok {K : PySem.W.Frag} (h : clsB K = true) : Z.Te K (cK K) ∧ PySem.W.findIn K (.ref (cK K)) "__ne__" = some (some (.builtin "object.__ne__")) := by
  obtain ⟨h1, h⟩ := He.ba h
  obtain ⟨h2, h⟩ := He.ba h
  obtain ⟨h3, h⟩ := He.ba h
  obtain ⟨h4, h⟩ := He.ba h
  obtain ⟨h5, h⟩ := He.ba h
  obtain ⟨h6, h7⟩ := He.ba h
  exact ⟨⟨He.eqO_ok h1, He.eqO_ok h2, of_decide_eq_true h3, of_decide_eq_true h4, of_decide_eq_true h5, of_decide_eq_true h6⟩, He.eqO_ok h7⟩
section
variable {fa : List He.Fa} {fn : List He.DefD} {gs : List GD} {K : PySem.W.Frag}
theorem SaysX.d (c : SaysX fa fn gs K) : He.SaysD fa fn K := congrArg (fun z : AlX => z.1) c
theorem SaysX.ex (c : SaysX fa fn gs K) : exB K = true := (He.ba (show (exB K && gs.all (fun d => d.ok K)) = true from congrArg (fun z : AlX => z.2.1) c)).1
theorem SaysX.get (c : SaysX fa fn gs K) (i : Nat) {d : GD} (h : gs[i]? = some d := by rfl) : ∃ fd, FunD K d.name d.qual d.params d.body d.scope [] [] (gAd K d.m) fd := by
  have c2 := (He.ba (show (exB K && gs.all (fun d => d.ok K)) = true from congrArg (fun z : AlX => z.2.1) c)).2
  have e : gs.map (fun d => fnX K (gAd K d.m)) = gs.map GD.val := congrArg (fun z : AlX => z.2.2) c
  have e2 : (gs.map fun d => fnX K (gAd K d.m))[i]? = (gs.map GD.val)[i]? := by rw [e]
  rw [List.getElem?_map, List.getElem?_map, h] at e2
  exact GD.funD (Option.some.inj e2) (List.all_eq_true.mp c2 d (List.mem_of_getElem? h))
theorem SaysX.prop (c : SaysX fa fn gs K) {m : Str} (h : m ∈ props) : PropOf K (cK K) m (mAd K m) (gAd K m) := prop_ok (List.all_eq_true.mp (He.ba (He.ba c.ex).2).1 m h)
theorem SaysX.own (c : SaysX fa fn gs K) {m : Str} (h : m ∈ owns) : Z.OwnM K (cK K) m (mAd K m) := own_ok (List.all_eq_true.mp (He.ba (He.ba c.ex).2).2 m h)
theorem SaysX.call (c : SaysX fa fn gs K) : StX.CallO K (cK K) (mAd K "__call__") := call_ok (List.all_eq_true.mp (He.ba (He.ba c.ex).2).2 "__call__" (by simp [owns]))
end
end HX

/-! # ZEnd -/
set_option Elab.async false
set_option linter.all false
set_option maxRecDepth 100000
set_option maxHeartbeats 2000000
/-! The law's call, where no repr is under way. -/
namespace Z
open PySem PySem.Spec PyProof.Rows L2
section
variable {P : Program} {w : World} {K : PySem.W.Frag} {mg mb : Str → Option Value} {CX : CXT} {k : Nat} {fa a : Addr} {fd : FuncData} {x : Str} {sp : Sp} {s : Shared} {vs : List Value} {ns : List Int}
/-- from any tracking of the heap in which at most the script stands -/
theorem call_from {H : Hp} (KX : K.In s.heap) (hns : s.heap.Ns mainGlobals mg) (hb : s.heap.Ns builtinsNs mb) (hbb : ∀ x : Str, x ≠ "__name__" → mb x = bootBuiltins x) (hlim : s.heap.NoLimit) (hg : s.gens = #[])
    (ha : s.heap.get? a = some { cls := .type "list", data := .seq vs.toArray }) (hr : Room k callerA)
    (F : ∀ base : Heap, K.In base → base.Ns mainGlobals mg → FnG P w K mg base CX k fa fd [x] sp) (hbind : BindsTo s fd ⟨[.ref a], []⟩ [(x, .ref a)])
    (hCX : ∀ e s', CX [] H s (fun _ _ _ => False) e s' → False)
    (hO : Only H) (hS : sp [.ref a] H (fun v _ => v = .bl true) fun _ _ _ => False) (hok : HOk P w H s.heap) (hA : ∀ b, H b ≠ none → b = a) (hK : H a ≠ none → K.lookup a = none) :
    codeAny (model P w) callerA (.call (.ref fa) ⟨[.ref a], []⟩) (fun r s' => r = .ok (.ret (.bool true)) ∧ OldK s.heap s'.heap ∧ s'.os = s.os ∧ AllBare s'.gens) s := by
  have some_a : ∀ {b u}, H b = some u → b = a := fun {b u} q => hA b (by rw [q]; exact fun z => nomatch z)
  have noDict : ∀ {b o es ep}, s.heap.get? b = some o → o.data = .dict es ep → H b = none := fun {b o es ep} e d => by
    cases q : H b with
    | none => rfl
    | some u =>
      rw [some_a q, ha] at e
      cases e
      exact nomatch (show Data.seq vs.toArray _ = Data.dict es ep from d)
  have ns_at : ∀ {b m}, s.heap.Ns b m → (hidT s.heap H).Ns b m := fun ⟨o, es, ep, e, d, r⟩ => ⟨o, es, ep, hidT_get e (noDict e d), d, r⟩
  have k_in : K.In (hidT s.heap H) := fun b o e => hidT_get (KX b o e) (by
    cases q : H b with
    | none => rfl
    | some u =>
      have ea := some_a q
      subst ea
      rw [hK (by rw [q]; exact fun z => nomatch z)] at e; exact nomatch e)
  have md : Mod K mg (hidT s.heap H) := ⟨k_in, ns_at hns, ⟨mb, ns_at hb, hbb⟩, let ⟨mc, h1, h2⟩ := hlim; ⟨mc, ns_at h1, h2⟩⟩
  have e0 : Env0 P w K mg (hidT s.heap H) callerA [] s H := ⟨rfl, md, fun b o e => of_hidT e, Nat.le_of_eq (hidT_size _ _), trivial, fun b z => (nomatch (show b ∈ ([] : List Addr) from z)), hok, .of_eq hg⟩
  refine codeAny_mono ((F _ k_in (ns_at hns)).run callerA [] s H ⟨[.ref a], []⟩ [.ref a] [.ref a] _ _ hr rfl e0 hbind (.cons rfl .nil) hS) fun r s' h => ?_
  match r, h with
  | .error e, h => exact (hCX e s' h).elim
  | .ok .next, h => exact False.elim h
  | .ok .brk, h => exact False.elim h
  | .ok .cont, h => exact False.elim h
  | .ok (.ret u), h =>
    obtain ⟨v, H', os, bare, un, hok', r', q⟩ := h
    have q : v = .bl true := q
    subst q
    have r' : u = Value.bool true := r'
    subst r'
    refine ⟨rfl, OldK.of_keep fun b o e => ?_, os, bare⟩
    rcases hO b with z | ⟨ob, xs, z⟩
    · exact un.keep b o e z (fun m => nomatch (show b ∈ ([] : List Addr) from m)) (fun m => nomatch m)
    · have e1 := (hok b _ z).1
      have e2 := (hok' b _ (un.frzs b ob _ z)).1
      rw [e] at e1
      cases e1
      exact e2
theorem law_callG (KX : K.In s.heap) (hns : s.heap.Ns mainGlobals mg) (hb : s.heap.Ns builtinsNs mb) (hbb : ∀ x : Str, x ≠ "__name__" → mb x = bootBuiltins x) (hlim : s.heap.NoLimit) (hg : s.gens = #[])
    (ha : s.heap.get? a = some { cls := .type "list", data := .seq vs.toArray }) (hi : IntsAre vs ns) (hl : ns.length ≤ sizeLine) (hr : Room k callerA)
    (F : ∀ base : Heap, K.In base → base.Ns mainGlobals mg → FnG P w K mg base CX k fa fd [x] sp) (hbind : BindsTo s fd ⟨[.ref a], []⟩ [(x, .ref a)])
    (hsp : ∀ H : Hp, Only H → SqL K H a (ns.map V.int) → sp [.ref a] H (fun v _ => v = .bl true) fun _ _ _ => False)
    (hCX : ∀ H e s', CX [] H s (fun _ _ _ => False) e s' → False) :
    codeAny (model P w) callerA (.call (.ref fa) ⟨[.ref a], []⟩) (fun r s' => r = .ok (.ret (.bool true)) ∧ OldK s.heap s'.heap ∧ s'.os = s.os ∧ AllBare s'.gens) s := by
  have rv := vals_ints hi
  have lenV := hi.length
  cases hk : K.lookup a with
  | some o =>
    have e := KX a o hk
    rw [ha] at e
    cases e
    have hO : Only fun _ => none := fun _ => .inl rfl
    exact call_from KX hns hb hbb hlim hg ha hr F hbind (hCX _) hO (hsp _ hO (.inr ⟨_, vs.toArray, _, hk, rfl, rfl, rfl, by rw [List.size_toArray, lenV]; exact hl, by simpa using rv⟩)) (fun b u z => (nomatch z)) (fun b z => absurd rfl z) fun z => absurd rfl z
  | none =>
    let ob : Obj := { cls := .type "list", data := .seq vs.toArray }
    let H : Hp := upd (fun _ => none) a (.frz ob (.lst (ns.map V.int)))
    have at_ : ∀ {b u}, H b = some u → b = a ∧ u = .frz ob (.lst (ns.map V.int)) := fun {b u} z => by
      by_cases e : b = a
      · subst e
        have z : upd (fun _ => none) b _ b = some u := z
        rw [upd_same] at z
        exact ⟨rfl, (Option.some.inj z).symm⟩
      · have z : upd (fun _ => none) a _ b = some u := z
        rw [upd_ne e] at z; exact nomatch z
    have hO : Only H := fun b => by
      cases z : H b with
      | none => exact .inl rfl
      | some u => obtain ⟨_, rfl⟩ := at_ z; exact .inr ⟨_, _, rfl⟩
    refine call_from (H := H) KX hns hb hbb hlim hg ha hr F hbind (hCX _) hO (hsp _ hO (.inl (.inr ⟨ob, upd_same⟩))) (fun b u z => ?_) (fun b z => ?_) fun _ => hk
    · obtain ⟨rfl, rfl⟩ := at_ z
      exact ⟨ha, by rw [List.length_map]; exact hl, vs, _, rv, ha⟩
    · cases q : H b with
      | none => exact absurd q z
      | some u => exact (at_ q).1
end
theorem walk_G {l : PySem.W.OpenLaw} {n k : Nat} {q : Program} {loose : List Str} {XP : (Str → Option Value) → Heap → Prop} {YP : World → Heap → Prop} {d : DefRec} {CX : CXT} {x : Str}
    (hn : l.most = some n) (hn2 : n ≤ sizeLine) (hdf : d.params.defaults = []) (hr : Room k callerA)
    (F : ∀ (w : World) (mg : Str → Option Value) (fa : Addr) (h : Heap), YP w h → h.Ns mainGlobals mg → mg d.name = some (.ref fa) →
      ∃ (K : PySem.W.Frag) (fd : FuncData) (sp : Sp), K.In h ∧ (∀ (s : Shared) (u : Value), BindsTo s fd ⟨[u], []⟩ [(x, u)]) ∧
        (∀ (H : Hp) (a : Addr) (ns : List Int), ns.length ≤ n → Only H → SqL K H a (ns.map V.int) → sp [.ref a] H (fun v _ => v = .bl true) fun _ _ _ => False) ∧
        ∀ base : Heap, K.In base → base.Ns mainGlobals mg → FnG l.prog w K mg base CX k fa fd [x] sp)
    (hCX : ∀ (H : Hp) (s : Shared) (e : Value) (s' : Shared), CX [] H s (fun _ _ _ => False) e s' → False) :
    PySem.W.WalkO q loose XP YP l.row.toRowW d [] (fun f vs => PySem.call f vs) := by
  refine Att.attach_call hn hdf fun w s₀ s₁ mg mb fa o pm cd doc a vs ns G Y ho hd hcd hmg hobj hints hlen hg => ?_
  obtain ⟨K, fd, sp, KX, hb, hsp, hF⟩ := F w mg fa _ Y G.T.g hmg
  exact law_callG KX G.T.g G.T.b G.T.builtins G.T.nolimit hg hobj hints (Nat.le_trans hlen hn2) hr hF (hb s₁ (.ref a)) (fun H hO hS => hsp H a ns hlen hO hS) fun H e s' => hCX H s₁ e s'
end Z

/-! # ZJoin -/
set_option Elab.async false
set_option linter.all false
set_option maxRecDepth 100000
set_option maxHeartbeats 4000000
/-! All defs keep their promises; the law holds. -/
namespace Z
open PySem PySem.Spec PyProof.Rows L2 Fl
theorem own_met {Pr : Program} {w : World} {K : PySem.W.Frag} {mg : Str → Option Value} {base : Heap} {k : Nat} {C f : Addr} {m : Str} {sp : Sp} (M : OwnM K C m f) (c : C8.Met Pr w K mg base k C m sp []) : Own Pr w K mg base k C m sp := by
  obtain ⟨f', fd, ps, ds, _, me, F, b, d⟩ := c.ex
  cases d
  have e := M.at_.symm.trans me.at_
  cases e
  exact own_of M F b
theorem own_call {Pr : Program} {w : World} {K : PySem.W.Frag} {mg : Str → Option Value} {base : Heap} {k : Nat} {C f : Addr} {sp : Sp} (M : StX.CallO K C f) (c : C8.Met Pr w K mg base k C "__call__" sp []) : OwnC Pr w K mg base k C sp := by
  obtain ⟨f', fd, ps, ds, _, me, F, b, d⟩ := c.ex
  cases d
  have e := M.at_.symm.trans me.at_
  cases e
  exact ownC_of M F b
section
variable {Pr : Program} {w : World} {K : PySem.W.Frag} {h : Heap} {mg : Str → Option Value} {f : Addr}
theorem tx_of (X : K.In h) (G : h.Ns mainGlobals mg) (c : HX.SaysX HT.fa HT.fn HT.gs K) : Tx K mg (He.ga K "Rooted") where
  m_len := He.free_ok X G (c.d.fact 7 (f := .free "len") rfl)
  m_isinstance := He.free_ok X G (c.d.fact 8 (f := .free "isinstance") rfl)
  m_tuple := He.free_ok X G (c.d.fact 9 (f := .free "tuple") rfl)
  m_list := He.free_ok X G (c.d.fact 10 (f := .free "list") rfl)
  m_dict := He.free_ok X G (c.d.fact 11 (f := .free "dict") rfl)
  m_sorted := He.free_ok X G (c.d.fact 12 (f := .free "sorted") rfl)
  m_min := He.free_ok X G (c.d.fact 13 (f := .free "min") rfl)
  m_max := He.free_ok X G (c.d.fact 14 (f := .free "max") rfl)
  m_all := He.free_ok X G (c.d.fact 15 (f := .free "all") rfl)
  m_any := He.free_ok X G (c.d.fact 16 (f := .free "any") rfl)
  m_enumerate := He.free_ok X G (c.d.fact 17 (f := .free "enumerate") rfl)
  m_zip := He.free_ok X G (c.d.fact 18 (f := .free "zip") rfl)
  m_range := He.free_ok X G (c.d.fact 19 (f := .free "range") rfl)
  m_int := He.free_ok X G (c.d.fact 20 (f := .free "int") rfl)
  m_str := He.free_ok X G (c.d.fact 21 (f := .free "str") rfl)
  m_bool := He.free_ok X G (c.d.fact 22 (f := .free "bool") rfl)
  m_iter := He.free_ok X G (c.d.fact 23 (f := .free "iter") rfl)
  m_repr := He.free_ok X G (c.d.fact 24 (f := .free "repr") rfl)
  m_set := He.free_ok X G (c.d.fact 25 (f := .free "set") rfl)
  gAL := let ⟨t, e⟩ := He.str_ok X G (c.d.fact 3 (f := .str "ALONE" "alone") rfl); ⟨_, e, t, rfl⟩
  gC := He.glo_ok X G (c.d.fact 0 (f := .glo "Rooted") rfl)
theorem tc_of (c : HX.SaysX HT.fa HT.fn HT.gs K) : Tc K (He.ga K "Rooted") where
  cl := He.cls_ok (c.d.fact 1 (f := .cls "Rooted") rfl)
  n1 := He.noat_ok (c.d.fact 4 (f := .noat "Rooted" "held_net") rfl)
  n2 := He.noat_ok (c.d.fact 5 (f := .noat "Rooted" "held_root") rfl)
  n3 := He.noat_ok (c.d.fact 6 (f := .noat "Rooted" "held_pairs") rfl)
theorem facts (X : K.In h) (G : h.Ns mainGlobals mg) (c : HX.SaysX HT.fa HT.fn HT.gs K) (hfa : mg "law" = some (.ref f)) :
    ∃ fd : FuncData, (∀ (s : Shared) (v : Value), BindsTo s fd ⟨[v], []⟩ [("_law_script", v)]) ∧ ∀ base : Heap, K.In base → base.Ns mainGlobals mg → FnG Pr w K mg base CX0 10 f fd ["_law_script"] (spLaw K) := by
  have T := tx_of X G c
  have TC := tc_of c
  have TE := (HX.cls_ok (He.ba c.ex).1).1
  have TN : PySem.W.findIn K (.ref (He.ga K "Rooted")) "__ne__" = some (some (.builtin "object.__ne__")) ∧ PySem.W.mroIn K (He.ga K "Rooted") (.type "object") = some true := ⟨(HX.cls_ok (He.ba c.ex).1).2, TE.k4⟩
  obtain ⟨fd_steps_on, F_steps_on⟩ : ∃ fd, FnP K "steps_on" (top 2) [] (He.ga K "steps_on") fd := c.d.def_ 0 (d := HT.d0) rfl
  obtain ⟨fd_steps_before, F_steps_before⟩ : ∃ fd, FnP K "steps_before" (top 3) [] (He.ga K "steps_before") fd := c.d.def_ 1 (d := HT.d1) rfl
  obtain ⟨fd_comings, F_comings⟩ : ∃ fd, FnP K "comings" (top 4) [] (He.ga K "comings") fd := c.d.def_ 2 (d := HT.d2) rfl
  obtain ⟨fd_one_way_more, F_one_way_more⟩ : ∃ fd, FnP K "one_way_more" (top 5) [] (He.ga K "one_way_more") fd := c.d.def_ 3 (d := HT.d3) rfl
  obtain ⟨fd_taken_by, F_taken_by⟩ : ∃ fd, FnP K "taken_by" (top 6) [] (He.ga K "taken_by") fd := c.d.def_ 4 (d := HT.d4) rfl
  obtain ⟨fd_many_of, F_many_of⟩ : ∃ fd, FnP K "many_of" (top 7) [] (He.ga K "many_of") fd := c.d.def_ 5 (d := HT.d5) rfl
  obtain ⟨fd_least_side, F_least_side⟩ : ∃ fd, FnP K "least_side" (top 8) [] (He.ga K "least_side") fd := c.d.def_ 6 (d := HT.d6) rfl
  obtain ⟨fd_greatest_side, F_greatest_side⟩ : ∃ fd, FnP K "greatest_side" (top 9) [] (He.ga K "greatest_side") fd := c.d.def_ 7 (d := HT.d7) rfl
  obtain ⟨fd_shortened, F_shortened⟩ : ∃ fd, FnP K "shortened" (top 10) [] (He.ga K "shortened") fd := c.d.def_ 8 (d := HT.d8) rfl
  obtain ⟨fd_first_way, F_first_way⟩ : ∃ fd, FnP K "first_way" (top 11) [] (He.ga K "first_way") fd := c.d.def_ 9 (d := HT.d9) rfl
  obtain ⟨fd_ways_of, F_ways_of⟩ : ∃ fd, FnP K "ways_of" (top 12) [] (He.ga K "ways_of") fd := c.d.def_ 10 (d := HT.d10) rfl
  obtain ⟨fd_is_name, F_is_name⟩ : ∃ fd, FnP K "is_name" (top 22) [] (He.ga K "is_name") fd := c.d.def_ 13 (d := HT.d13) rfl
  obtain ⟨fd_is_integer, F_is_integer⟩ : ∃ fd, FnP K "is_integer" (top 20) [] (He.ga K "is_integer") fd := c.d.def_ 11 (d := HT.d11) rfl
  obtain ⟨fd_is_number, F_is_number⟩ : ∃ fd, FnP K "is_number" (top 21) [] (He.ga K "is_number") fd := c.d.def_ 12 (d := HT.d12) rfl
  obtain ⟨fd_is_pair, F_is_pair⟩ : ∃ fd, FnP K "is_pair" (top 23) [] (He.ga K "is_pair") fd := c.d.def_ 14 (d := HT.d14) rfl
  obtain ⟨fd_is_name_set, F_is_name_set⟩ : ∃ fd, FnP K "is_name_set" (top 24) [] (He.ga K "is_name_set") fd := c.d.def_ 15 (d := HT.d15) rfl
  obtain ⟨fd_is_houses, F_is_houses⟩ : ∃ fd, FnP K "is_houses" (top 25) [] (He.ga K "is_houses") fd := c.d.def_ 16 (d := HT.d16) rfl
  obtain ⟨fd_need, F_need⟩ : ∃ fd, FnP K "need" (top 28) [.int (-1)] (He.ga K "need") fd := c.d.def_ 18 (d := HT.d18) rfl
  obtain ⟨fd_want, F_want⟩ : ∃ fd, FnP K "want" (top 33) [.int (-1)] (He.ga K "want") fd := c.d.def_ 22 (d := HT.d22) rfl
  obtain ⟨fd_is_wire_of, F_is_wire_of⟩ : ∃ fd, FnP K "is_wire_of" (top 26) [] (He.ga K "is_wire_of") fd := c.d.def_ 17 (d := HT.d17) rfl
  obtain ⟨fd_are_two_tuples, F_are_two_tuples⟩ : ∃ fd, FnP K "are_two_tuples" (top 29) [] (He.ga K "are_two_tuples") fd := c.d.def_ 19 (d := HT.d19) rfl
  obtain ⟨fd_accept_houses, F_accept_houses⟩ : ∃ fd, FnP K "accept_houses" (top 30) [] (He.ga K "accept_houses") fd := c.d.def_ 20 (d := HT.d20) rfl
  obtain ⟨fd_lets_net, F_lets_net⟩ : ∃ fd, FnP K "lets_net" (top 31) [] (He.ga K "lets_net") fd := c.d.def_ 21 (d := HT.d21) rfl
  obtain ⟨fd_want_net, F_want_net⟩ : ∃ fd, FnP K "want_net" (top 34) [] (He.ga K "want_net") fd := c.d.def_ 23 (d := HT.d23) rfl
  obtain ⟨fd_want_house, F_want_house⟩ : ∃ fd, FnP K "want_house" (top 35) [.str "house"] (He.ga K "want_house") fd := c.d.def_ 24 (d := HT.d24) rfl
  obtain ⟨fd_want_root, F_want_root⟩ : ∃ fd, FnP K "want_root" (top 36) [] (He.ga K "want_root") fd := c.d.def_ 25 (d := HT.d25) rfl
  obtain ⟨fd_want_lot, F_want_lot⟩ : ∃ fd, FnP K "want_lot" (top 37) [] (He.ga K "want_lot") fd := c.d.def_ 26 (d := HT.d26) rfl
  obtain ⟨fd_want_other, F_want_other⟩ : ∃ fd, FnP K "want_other" (top 41) [] (He.ga K "want_other") fd := c.d.def_ 27 (d := HT.d27) rfl
  obtain ⟨fd_alone_by, F_alone_by⟩ : ∃ fd, FnP K "alone_by" (top 61) [] (He.ga K "alone_by") fd := c.d.def_ 36 (d := HT.d36) rfl
  obtain ⟨fd_others_of, F_others_of⟩ : ∃ fd, FnP K "others_of" (top 62) [] (He.ga K "others_of") fd := c.d.def_ 37 (d := HT.d37) rfl
  obtain ⟨fd_entered_by, F_entered_by⟩ : ∃ fd, FnP K "entered_by" (top 46) [] (He.ga K "entered_by") fd := c.d.def_ 29 (d := HT.d29) rfl
  obtain ⟨fd_is_lot, F_is_lot⟩ : ∃ fd, FnP K "is_lot" (top 50) [] (He.ga K "is_lot") fd := c.d.def_ 31 (d := HT.d31) rfl
  obtain ⟨fd_narrow_by, F_narrow_by⟩ : ∃ fd, FnP K "narrow_by" (top 63) [] (He.ga K "narrow_by") fd := c.d.def_ 38 (d := HT.d38) rfl
  obtain ⟨fd_narrow_lot, F_narrow_lot⟩ : ∃ fd, FnP K "narrow_lot" (top 65) [] (He.ga K "narrow_lot") fd := c.d.def_ 39 (d := HT.d39) rfl
  obtain ⟨fd_is_way, F_is_way⟩ : ∃ fd, FnP K "is_way" (top 49) [] (He.ga K "is_way") fd := c.d.def_ 30 (d := HT.d30) rfl
  obtain ⟨fd_is_alone_shape, F_is_alone_shape⟩ : ∃ fd, FnP K "is_alone_shape" (top 52) [] (He.ga K "is_alone_shape") fd := c.d.def_ 32 (d := HT.d32) rfl
  obtain ⟨fd_need_ways, F_need_ways⟩ : ∃ fd, FnP K "need_ways" (top 53) [] (He.ga K "need_ways") fd := c.d.def_ 33 (d := HT.d33) rfl
  obtain ⟨fd_lets_alone, F_lets_alone⟩ : ∃ fd, FnP K "lets_alone" (top 54) [] (He.ga K "lets_alone") fd := c.d.def_ 34 (d := HT.d34) rfl
  obtain ⟨fd_ways_apart, F_ways_apart⟩ : ∃ fd, FnP K "ways_apart" (top 56) [] (He.ga K "ways_apart") fd := c.d.def_ 35 (d := HT.d35) rfl
  obtain ⟨fd_alone_paper, F_alone_paper⟩ : ∃ fd, FnP K "alone_paper" (top 44) [] (He.ga K "alone_paper") fd := c.d.def_ 28 (d := HT.d28) rfl
  obtain ⟨fd_Rooted_net_now, F_Rooted_net_now⟩ : ∃ fd, FnQ K "net_now" "Rooted.net_now" (inC 1) (HX.gAd K "net_now") fd := c.get 0 (d := HT.g0) rfl
  obtain ⟨fd_Rooted_root_now, F_Rooted_root_now⟩ : ∃ fd, FnQ K "root_now" "Rooted.root_now" (inC 2) (HX.gAd K "root_now") fd := c.get 1 (d := HT.g1) rfl
  obtain ⟨fd_Rooted_width_now, F_Rooted_width_now⟩ : ∃ fd, FnQ K "width_now" "Rooted.width_now" (inC 3) (HX.gAd K "width_now") fd := c.get 2 (d := HT.g2) rfl
  obtain ⟨fd_Rooted___getitem__, F_Rooted___getitem__⟩ : ∃ fd, FnQ K "__getitem__" "Rooted.__getitem__" (inC 4) (HX.mAd K "__getitem__") fd := c.d.def_ 41 (d := HT.d41) rfl
  obtain ⟨fd_Rooted___len__, F_Rooted___len__⟩ : ∃ fd, FnQ K "__len__" "Rooted.__len__" (inC 8) (HX.mAd K "__len__") fd := c.d.def_ 45 (d := HT.d45) rfl
  obtain ⟨fd_Rooted___call__, F_Rooted___call__⟩ : ∃ fd, FnQ K "__call__" "Rooted.__call__" (inC 6) (HX.mAd K "__call__") fd := c.d.def_ 43 (d := HT.d43) rfl
  obtain ⟨fd_Rooted___contains__, F_Rooted___contains__⟩ : ∃ fd, FnQ K "__contains__" "Rooted.__contains__" (inC 7) (HX.mAd K "__contains__") fd := c.d.def_ 44 (d := HT.d44) rfl
  obtain ⟨fd_Rooted___eq__, F_Rooted___eq__⟩ : ∃ fd, FnQ K "__eq__" "Rooted.__eq__" (inC 9) (HX.mAd K "__eq__") fd := c.d.def_ 46 (d := HT.d46) rfl
  obtain ⟨fd_Rooted_least, F_Rooted_least⟩ : ∃ fd, FnQ K "least" "Rooted.least" (inC 12) (HX.mAd K "least") fd := c.d.def_ 47 (d := HT.d47) rfl
  obtain ⟨fd_Rooted_greatest, F_Rooted_greatest⟩ : ∃ fd, FnQ K "greatest" "Rooted.greatest" (inC 13) (HX.mAd K "greatest") fd := c.d.def_ 48 (d := HT.d48) rfl
  obtain ⟨fd_Rooted_narrow, F_Rooted_narrow⟩ : ∃ fd, FnQ K "narrow" "Rooted.narrow" (inC 16) (HX.mAd K "narrow") fd := c.d.def_ 49 (d := HT.d49) rfl
  obtain ⟨fd_Rooted_ways, F_Rooted_ways⟩ : ∃ fd, FnQ K "ways" "Rooted.ways" (inC 17) (HX.mAd K "ways") fd := c.d.def_ 50 (d := HT.d50) rfl
  obtain ⟨fd_Rooted_paper, F_Rooted_paper⟩ : ∃ fd, FnQ K "paper" "Rooted.paper" (inC 18) (HX.mAd K "paper") fd := c.d.def_ 51 (d := HT.d51) rfl
  obtain ⟨fd_Rooted_judged, F_Rooted_judged⟩ : ∃ fd, FnQ K "judged" "Rooted.judged" (inC 19) (HX.mAd K "judged") fd := c.d.def_ 52 (d := HT.d52) rfl
  obtain ⟨fd_Rooted___init__, F_Rooted___init__⟩ : ∃ fd, FnQ K "__init__" "Rooted.__init__" (inC 0) (HX.mAd K "__init__") fd := c.d.def_ 40 (d := HT.d40) rfl
  obtain ⟨fd_Rooted___iter__, F_Rooted___iter__⟩ : ∃ fd, FnQ K "__iter__" "Rooted.__iter__" (inC 5) (HX.mAd K "__iter__") fd := c.d.def_ 42 (d := HT.d42) rfl
  obtain ⟨fd__law_many, F__law_many⟩ : ∃ fd, FnP K "_law_many" (top 75) [] (He.ga K "_law_many") fd := c.d.def_ 59 (d := HT.d59) rfl
  obtain ⟨fd__law_lots, F__law_lots⟩ : ∃ fd, FnP K "_law_lots" (top 74) [] (He.ga K "_law_lots") fd := c.d.def_ 58 (d := HT.d58) rfl
  obtain ⟨fd__law_alone, F__law_alone⟩ : ∃ fd, FnP K "_law_alone" (top 76) [] (He.ga K "_law_alone") fd := c.d.def_ 60 (d := HT.d60) rfl
  obtain ⟨fd__law_width, F__law_width⟩ : ∃ fd, FnP K "_law_width" (top 77) [] (He.ga K "_law_width") fd := c.d.def_ 61 (d := HT.d61) rfl
  obtain ⟨fd__law_is_way, F__law_is_way⟩ : ∃ fd, FnP K "_law_is_way" (top 79) [] (He.ga K "_law_is_way") fd := c.d.def_ 63 (d := HT.d63) rfl
  obtain ⟨fd__law_draw, F__law_draw⟩ : ∃ fd, FnP K "_law_draw" (top 70) [] (He.ga K "_law_draw") fd := c.d.def_ 54 (d := HT.d54) rfl
  obtain ⟨fd__law_is_lot, F__law_is_lot⟩ : ∃ fd, FnP K "_law_is_lot" (top 78) [] (He.ga K "_law_is_lot") fd := c.d.def_ 62 (d := HT.d62) rfl
  obtain ⟨fd__law_paper_due, F__law_paper_due⟩ : ∃ fd, FnP K "_law_paper_due" (top 80) [] (He.ga K "_law_paper_due") fd := c.d.def_ 64 (d := HT.d64) rfl
  obtain ⟨fd__law_counts, F__law_counts⟩ : ∃ fd, FnP K "_law_counts" (top 81) [] (He.ga K "_law_counts") fd := c.d.def_ 65 (d := HT.d65) rfl
  obtain ⟨fd__law_tight_by, F__law_tight_by⟩ : ∃ fd, FnP K "_law_tight_by" (top 82) [] (He.ga K "_law_tight_by") fd := c.d.def_ 66 (d := HT.d66) rfl
  obtain ⟨fd__law_ends, F__law_ends⟩ : ∃ fd, FnP K "_law_ends" (top 83) [] (He.ga K "_law_ends") fd := c.d.def_ 67 (d := HT.d67) rfl
  obtain ⟨fd__law_are_between, F__law_are_between⟩ : ∃ fd, FnP K "_law_are_between" (top 86) [] (He.ga K "_law_are_between") fd := c.d.def_ 70 (d := HT.d70) rfl
  obtain ⟨fd__law_same, F__law_same⟩ : ∃ fd, FnP K "_law_same" (top 72) [] (He.ga K "_law_same") fd := c.d.def_ 56 (d := HT.d56) rfl
  obtain ⟨fd__law_any, F__law_any⟩ : ∃ fd, FnP K "_law_any" (top 71) [] (He.ga K "_law_any") fd := c.d.def_ 55 (d := HT.d55) rfl
  obtain ⟨fd__law_are_values_out, F__law_are_values_out⟩ : ∃ fd, FnP K "_law_are_values_out" (top 87) [] (He.ga K "_law_are_values_out") fd := c.d.def_ 71 (d := HT.d71) rfl
  obtain ⟨fd__law_are_any_right, F__law_are_any_right⟩ : ∃ fd, FnP K "_law_are_any_right" (top 85) [] (He.ga K "_law_are_any_right") fd := c.d.def_ 69 (d := HT.d69) rfl
  obtain ⟨fd__law_is_told, F__law_is_told⟩ : ∃ fd, FnP K "_law_is_told" (top 84) [] (He.ga K "_law_is_told") fd := c.d.def_ 68 (d := HT.d68) rfl
  obtain ⟨fd__law_net, F__law_net⟩ : ∃ fd, FnP K "_law_net" (top 73) [] (He.ga K "_law_net") fd := c.d.def_ 57 (d := HT.d57) rfl
  obtain ⟨fd__law_feed, F__law_feed⟩ : ∃ fd, FnP K "_law_feed" (top 69) [] (He.ga K "_law_feed") fd := c.d.def_ 53 (d := HT.d53) rfl
  obtain ⟨fd_law, F_law⟩ : ∃ fd, FnP K "law" (top 88) [] (He.ga K "law") fd := c.d.def_ 72 (d := HT.d72) rfl
  have eL := hfa.symm.trans (He.glo_ok X G (c.d.fact 96 (f := .glo "law") rfl))
  cases eL
  have bL := FunD.bindsA (ps := ["_law_script"]) F_law fun _ _ _ _ _ _ us hl => match us, hl with | [_], _ => rfl
  refine ⟨fd_law, fun s v => bL s [v] rfl, fun base _ _ => ?_⟩
  have c_steps_on := Z.c_steps_on (T := T) (F := F_steps_on) (g := He.glo_ok X G (c.d.fact 37 (f := .glo "steps_on") rfl)) (C := He.ga K "Rooted") (Pr := Pr) (w := w) (base := base)
  have c_steps_before := Z.c_steps_before (T := T) (F := F_steps_before) (g := He.glo_ok X G (c.d.fact 38 (f := .glo "steps_before") rfl)) (C := He.ga K "Rooted") (Pr := Pr) (w := w) (base := base)
  have c_comings := Z.c_comings (T := T) (c_steps_on := c_steps_on) (F := F_comings) (g := He.glo_ok X G (c.d.fact 39 (f := .glo "comings") rfl)) (C := He.ga K "Rooted") (Pr := Pr) (w := w) (base := base)
  have c_one_way_more := Z.c_one_way_more (T := T) (F := F_one_way_more) (g := He.glo_ok X G (c.d.fact 40 (f := .glo "one_way_more") rfl)) (C := He.ga K "Rooted") (Pr := Pr) (w := w) (base := base)
  have c_taken_by := Z.c_taken_by (T := T) (c_comings := c_comings) (c_one_way_more := c_one_way_more) (F := F_taken_by) (g := He.glo_ok X G (c.d.fact 41 (f := .glo "taken_by") rfl)) (C := He.ga K "Rooted") (Pr := Pr) (w := w) (base := base)
  have c_many_of := Z.c_many_of (T := T) (F := F_many_of) (g := He.glo_ok X G (c.d.fact 42 (f := .glo "many_of") rfl)) (C := He.ga K "Rooted") (Pr := Pr) (w := w) (base := base)
  have c_least_side := Z.c_least_side (T := T) (c_taken_by := c_taken_by) (c_steps_before := c_steps_before) (F := F_least_side) (g := He.glo_ok X G (c.d.fact 43 (f := .glo "least_side") rfl)) (C := He.ga K "Rooted") (Pr := Pr) (w := w) (base := base)
  have c_greatest_side := Z.c_greatest_side (T := T) (c_taken_by := c_taken_by) (c_comings := c_comings) (F := F_greatest_side) (g := He.glo_ok X G (c.d.fact 44 (f := .glo "greatest_side") rfl)) (C := He.ga K "Rooted") (Pr := Pr) (w := w) (base := base)
  have c_shortened := Z.c_shortened (T := T) (F := F_shortened) (g := He.glo_ok X G (c.d.fact 45 (f := .glo "shortened") rfl)) (C := He.ga K "Rooted") (Pr := Pr) (w := w) (base := base)
  have c_first_way := Z.c_first_way (T := T) (c_shortened := c_shortened) (F := F_first_way) (g := He.glo_ok X G (c.d.fact 46 (f := .glo "first_way") rfl)) (C := He.ga K "Rooted") (Pr := Pr) (w := w) (base := base)
  have c_ways_of := Z.c_ways_of (T := T) (c_taken_by := c_taken_by) (c_many_of := c_many_of) (c_first_way := c_first_way) (F := F_ways_of) (g := He.glo_ok X G (c.d.fact 47 (f := .glo "ways_of") rfl)) (C := He.ga K "Rooted") (Pr := Pr) (w := w) (base := base)
  have c_is_name := Z.c_is_name (T := T) (F := F_is_name) (g := He.glo_ok X G (c.d.fact 50 (f := .glo "is_name") rfl)) (C := He.ga K "Rooted") (Pr := Pr) (w := w) (base := base)
  have c_is_integer := Z.c_is_integer (T := T) (F := F_is_integer) (g := He.glo_ok X G (c.d.fact 48 (f := .glo "is_integer") rfl)) (C := He.ga K "Rooted") (Pr := Pr) (w := w) (base := base)
  have c_is_number := Z.c_is_number (T := T) (c_is_integer := c_is_integer) (F := F_is_number) (g := He.glo_ok X G (c.d.fact 49 (f := .glo "is_number") rfl)) (C := He.ga K "Rooted") (Pr := Pr) (w := w) (base := base)
  have c_is_pair := Z.c_is_pair (T := T) (F := F_is_pair) (g := He.glo_ok X G (c.d.fact 51 (f := .glo "is_pair") rfl)) (C := He.ga K "Rooted") (Pr := Pr) (w := w) (base := base)
  have c_is_name_set := Z.c_is_name_set (T := T) (c_is_name := c_is_name) (F := F_is_name_set) (g := He.glo_ok X G (c.d.fact 52 (f := .glo "is_name_set") rfl)) (C := He.ga K "Rooted") (Pr := Pr) (w := w) (base := base)
  have c_is_houses := Z.c_is_houses (T := T) (c_is_name_set := c_is_name_set) (F := F_is_houses) (g := He.glo_ok X G (c.d.fact 53 (f := .glo "is_houses") rfl)) (C := He.ga K "Rooted") (Pr := Pr) (w := w) (base := base)
  obtain ⟨c_need, c_need_d⟩ := Z.c_need (T := T) (F := F_need) (g := He.glo_ok X G (c.d.fact 55 (f := .glo "need") rfl)) (C := He.ga K "Rooted") (Pr := Pr) (w := w) (base := base)
  obtain ⟨c_want, c_want_d⟩ := Z.c_want (T := T) (F := F_want) (g := He.glo_ok X G (c.d.fact 59 (f := .glo "want") rfl)) (C := He.ga K "Rooted") (Pr := Pr) (w := w) (base := base)
  have c_is_wire_of := Z.c_is_wire_of (T := T) (c_is_pair := c_is_pair) (c_is_name := c_is_name) (F := F_is_wire_of) (g := He.glo_ok X G (c.d.fact 54 (f := .glo "is_wire_of") rfl)) (C := He.ga K "Rooted") (Pr := Pr) (w := w) (base := base)
  have c_are_two_tuples := Z.c_are_two_tuples (T := T) (c_is_pair := c_is_pair) (F := F_are_two_tuples) (g := He.glo_ok X G (c.d.fact 56 (f := .glo "are_two_tuples") rfl)) (C := He.ga K "Rooted") (Pr := Pr) (w := w) (base := base)
  have c_accept_houses := Z.c_accept_houses (T := T) (c_need := c_need) (c_is_name := c_is_name) (F := F_accept_houses) (g := He.glo_ok X G (c.d.fact 57 (f := .glo "accept_houses") rfl)) (C := He.ga K "Rooted") (Pr := Pr) (w := w) (base := base)
  have c_lets_net := Z.c_lets_net (T := T) (c_need := c_need) (c_need_d := c_need_d) (c_are_two_tuples := c_are_two_tuples) (c_accept_houses := c_accept_houses) (c_is_wire_of := c_is_wire_of) (F := F_lets_net) (g := He.glo_ok X G (c.d.fact 58 (f := .glo "lets_net") rfl)) (C := He.ga K "Rooted") (Pr := Pr) (w := w) (base := base)
  have c_want_net := Z.c_want_net (T := T) (c_lets_net := c_lets_net) (F := F_want_net) (g := He.glo_ok X G (c.d.fact 60 (f := .glo "want_net") rfl)) (C := He.ga K "Rooted") (Pr := Pr) (w := w) (base := base)
  obtain ⟨c_want_house, c_want_house_d⟩ := Z.c_want_house (T := T) (c_want := c_want) (c_is_name := c_is_name) (F := F_want_house) (g := He.glo_ok X G (c.d.fact 61 (f := .glo "want_house") rfl)) (C := He.ga K "Rooted") (Pr := Pr) (w := w) (base := base)
  have c_want_root := Z.c_want_root (T := T) (c_want_net := c_want_net) (c_want_house := c_want_house) (F := F_want_root) (g := He.glo_ok X G (c.d.fact 62 (f := .glo "want_root") rfl)) (C := He.ga K "Rooted") (Pr := Pr) (w := w) (base := base)
  have c_want_lot := Z.c_want_lot (T := T) (c_want_d := c_want_d) (c_is_houses := c_is_houses) (F := F_want_lot) (g := He.glo_ok X G (c.d.fact 63 (f := .glo "want_lot") rfl)) (C := He.ga K "Rooted") (Pr := Pr) (w := w) (base := base)
  have c_want_other := Z.c_want_other (T := T) (c_want := c_want) (c_want_root := c_want_root) (c_want_house_d := c_want_house_d) (F := F_want_other) (g := He.glo_ok X G (c.d.fact 64 (f := .glo "want_other") rfl)) (C := He.ga K "Rooted") (Pr := Pr) (w := w) (base := base)
  have c_alone_by := Z.c_alone_by (T := T) (c_many_of := c_many_of) (c_taken_by := c_taken_by) (F := F_alone_by) (g := He.glo_ok X G (c.d.fact 73 (f := .glo "alone_by") rfl)) (C := He.ga K "Rooted") (Pr := Pr) (w := w) (base := base)
  have c_others_of := Z.c_others_of (T := T) (F := F_others_of) (g := He.glo_ok X G (c.d.fact 74 (f := .glo "others_of") rfl)) (C := He.ga K "Rooted") (Pr := Pr) (w := w) (base := base)
  have c_entered_by := Z.c_entered_by (T := T) (F := F_entered_by) (g := He.glo_ok X G (c.d.fact 66 (f := .glo "entered_by") rfl)) (C := He.ga K "Rooted") (Pr := Pr) (w := w) (base := base)
  have c_is_lot := Z.c_is_lot (T := T) (c_is_houses := c_is_houses) (F := F_is_lot) (g := He.glo_ok X G (c.d.fact 68 (f := .glo "is_lot") rfl)) (C := He.ga K "Rooted") (Pr := Pr) (w := w) (base := base)
  have c_narrow_by := Z.c_narrow_by (T := T) (c_others_of := c_others_of) (c_alone_by := c_alone_by) (c_greatest_side := c_greatest_side) (F := F_narrow_by) (g := He.glo_ok X G (c.d.fact 75 (f := .glo "narrow_by") rfl)) (C := He.ga K "Rooted") (Pr := Pr) (w := w) (base := base)
  have c_narrow_lot := Z.c_narrow_lot (T := T) (c_want_root := c_want_root) (c_narrow_by := c_narrow_by) (F := F_narrow_lot) (g := He.glo_ok X G (c.d.fact 76 (f := .glo "narrow_lot") rfl)) (C := He.ga K "Rooted") (Pr := Pr) (w := w) (base := base)
  have c_is_way := Z.c_is_way (T := T) (c_is_number := c_is_number) (F := F_is_way) (g := He.glo_ok X G (c.d.fact 67 (f := .glo "is_way") rfl)) (C := He.ga K "Rooted") (Pr := Pr) (w := w) (base := base)
  have c_is_alone_shape := Z.c_is_alone_shape (T := T) (F := F_is_alone_shape) (g := He.glo_ok X G (c.d.fact 69 (f := .glo "is_alone_shape") rfl)) (C := He.ga K "Rooted") (Pr := Pr) (w := w) (base := base)
  have c_need_ways := Z.c_need_ways (T := T) (c_need := c_need) (c_is_way := c_is_way) (F := F_need_ways) (g := He.glo_ok X G (c.d.fact 70 (f := .glo "need_ways") rfl)) (C := He.ga K "Rooted") (Pr := Pr) (w := w) (base := base)
  have c_lets_alone := Z.c_lets_alone (T := T) (c_want_other := c_want_other) (c_need_d := c_need_d) (c_is_alone_shape := c_is_alone_shape) (c_need_ways := c_need_ways) (c_is_lot := c_is_lot) (c_entered_by := c_entered_by) (F := F_lets_alone) (g := He.glo_ok X G (c.d.fact 71 (f := .glo "lets_alone") rfl)) (C := He.ga K "Rooted") (Pr := Pr) (w := w) (base := base)
  have c_ways_apart := Z.c_ways_apart (T := T) (c_want_other := c_want_other) (c_ways_of := c_ways_of) (F := F_ways_apart) (g := He.glo_ok X G (c.d.fact 72 (f := .glo "ways_apart") rfl)) (C := He.ga K "Rooted") (Pr := Pr) (w := w) (base := base)
  have c_alone_paper := Z.c_alone_paper (T := T) (c_want_other := c_want_other) (c_ways_of := c_ways_of) (c_greatest_side := c_greatest_side) (F := F_alone_paper) (g := He.glo_ok X G (c.d.fact 65 (f := .glo "alone_paper") rfl)) (C := He.ga K "Rooted") (Pr := Pr) (w := w) (base := base)
  have c_net_now := Z.c_net_now (T := T) (TC := TC) (F := F_Rooted_net_now) (g := c.prop (by simp [HX.props])) (C := He.ga K "Rooted") (Pr := Pr) (w := w) (base := base) (mg := mg)
  have c_root_now := Z.c_root_now (T := T) (TC := TC) (F := F_Rooted_root_now) (g := c.prop (by simp [HX.props])) (C := He.ga K "Rooted") (Pr := Pr) (w := w) (base := base) (mg := mg)
  have c_width_now := Z.c_width_now (T := T) (TC := TC) (F := F_Rooted_width_now) (g := c.prop (by simp [HX.props])) (C := He.ga K "Rooted") (Pr := Pr) (w := w) (base := base) (mg := mg)
  have c_getitem := Z.c_getitem (T := T) (TC := TC) (c_want_other := c_want_other) (F := F_Rooted___getitem__) (g := He.meth_ok (c.d.fact 32 (f := .meth "Rooted" "__getitem__") rfl)) (C := He.ga K "Rooted") (Pr := Pr) (w := w) (base := base) (mg := mg)
  have o_getitem : Own Pr w K mg base 7 (He.ga K "Rooted") "__getitem__" (mkSp K (He.ga K "Rooted") L_getitem) := own_met (c.own (by simp [HX.owns])) c_getitem
  have c_olen := Z.c_olen (T := T) (TC := TC) (F := F_Rooted___len__) (g := He.meth_ok (c.d.fact 33 (f := .meth "Rooted" "__len__") rfl)) (C := He.ga K "Rooted") (Pr := Pr) (w := w) (base := base) (mg := mg)
  have o_len : Own Pr w K mg base 1 (He.ga K "Rooted") "__len__" (mkSp K (He.ga K "Rooted") L_olen) := own_met (c.own (by simp [HX.owns])) c_olen
  have c_ocall := Z.c_ocall (T := T) (TC := TC) (c_want_lot := c_want_lot) (c_entered_by := c_entered_by) (F := F_Rooted___call__) (g := He.meth_ok (c.d.fact 34 (f := .meth "Rooted" "__call__") rfl)) (C := He.ga K "Rooted") (Pr := Pr) (w := w) (base := base) (mg := mg)
  have o_call : OwnC Pr w K mg base 5 (He.ga K "Rooted") (mkSp K (He.ga K "Rooted") L_ocall) := own_call c.call c_ocall
  have c_ohas := Z.c_ohas (T := T) (TC := TC) (c_is_lot := c_is_lot) (c_entered_by := c_entered_by) (c_width_now := c_width_now) (F := F_Rooted___contains__) (g := He.meth_ok (c.d.fact 35 (f := .meth "Rooted" "__contains__") rfl)) (C := He.ga K "Rooted") (Pr := Pr) (w := w) (base := base) (mg := mg)
  have o_contains : Own Pr w K mg base 5 (He.ga K "Rooted") "__contains__" (mkSp K (He.ga K "Rooted") L_ohas) := own_met (c.own (by simp [HX.owns])) c_ohas
  have c_oeq := Z.c_oeq (T := T) (TC := TC) (TE := TE) (F := F_Rooted___eq__) (g := He.meth_ok (c.d.fact 36 (f := .meth "Rooted" "__eq__") rfl)) (C := He.ga K "Rooted") (Pr := Pr) (w := w) (base := base) (mg := mg)
  have o_eq : Own Pr w K mg base 1 (He.ga K "Rooted") "__eq__" (mkSp K (He.ga K "Rooted") L_oeq) := own_met (c.own (by simp [HX.owns])) c_oeq
  have c_oleast := Z.c_oleast (T := T) (TC := TC) (c_want_other := c_want_other) (c_least_side := c_least_side) (F := F_Rooted_least) (g := He.meth_ok (c.d.fact 26 (f := .meth "Rooted" "least") rfl)) (C := He.ga K "Rooted") (Pr := Pr) (w := w) (base := base) (mg := mg)
  have m_least := c_oleast
  have c_ogreat := Z.c_ogreat (T := T) (TC := TC) (c_want_other := c_want_other) (c_greatest_side := c_greatest_side) (F := F_Rooted_greatest) (g := He.meth_ok (c.d.fact 27 (f := .meth "Rooted" "greatest") rfl)) (C := He.ga K "Rooted") (Pr := Pr) (w := w) (base := base) (mg := mg)
  have m_greatest := c_ogreat
  have c_onarrow := Z.c_onarrow (T := T) (TC := TC) (c_narrow_lot := c_narrow_lot) (F := F_Rooted_narrow) (g := He.meth_ok (c.d.fact 28 (f := .meth "Rooted" "narrow") rfl)) (C := He.ga K "Rooted") (Pr := Pr) (w := w) (base := base) (mg := mg)
  have m_narrow := c_onarrow
  have c_oways := Z.c_oways (T := T) (TC := TC) (c_ways_apart := c_ways_apart) (F := F_Rooted_ways) (g := He.meth_ok (c.d.fact 29 (f := .meth "Rooted" "ways") rfl)) (C := He.ga K "Rooted") (Pr := Pr) (w := w) (base := base) (mg := mg)
  have m_ways := c_oways
  have c_opaper := Z.c_opaper (T := T) (TC := TC) (c_alone_paper := c_alone_paper) (F := F_Rooted_paper) (g := He.meth_ok (c.d.fact 30 (f := .meth "Rooted" "paper") rfl)) (C := He.ga K "Rooted") (Pr := Pr) (w := w) (base := base) (mg := mg)
  have m_paper := c_opaper
  have c_ojudged := Z.c_ojudged (T := T) (TC := TC) (c_lets_alone := c_lets_alone) (F := F_Rooted_judged) (g := He.meth_ok (c.d.fact 31 (f := .meth "Rooted" "judged") rfl)) (C := He.ga K "Rooted") (Pr := Pr) (w := w) (base := base) (mg := mg)
  have m_judged := c_ojudged
  have f_init := Z.ok_init (T := T) (TC := TC) (c_want_root := c_want_root) (c_others_of := c_others_of) (c_alone_by := c_alone_by) (F := F_Rooted___init__) (C := He.ga K "Rooted") (Pr := Pr) (w := w) (mg := mg) (base := base)
  have f_iter := Z.ok_iter (T := T) (TC := TC) (F := F_Rooted___iter__) (C := He.ga K "Rooted") (Pr := Pr) (w := w) (mg := mg) (base := base)
  have o_iter : Own Pr w K mg base 1 (He.ga K "Rooted") "__iter__" (spIter K (He.ga K "Rooted")) := own_of (c.own (by simp [HX.owns])) f_iter (F_Rooted___iter__.bindsN fun _ _ _ _ _ _ us hl => match us, hl with | [_], _ => rfl)
  have c__law_many := Z.c__law_many (T := T) (F := F__law_many) (g := He.glo_ok X G (c.d.fact 83 (f := .glo "_law_many") rfl)) (C := He.ga K "Rooted") (Pr := Pr) (w := w) (base := base)
  have c__law_lots := Z.c__law_lots (T := T) (F := F__law_lots) (g := He.glo_ok X G (c.d.fact 82 (f := .glo "_law_lots") rfl)) (C := He.ga K "Rooted") (Pr := Pr) (w := w) (base := base)
  have c__law_alone := Z.c__law_alone (T := T) (c__law_many := c__law_many) (c__law_lots := c__law_lots) (F := F__law_alone) (g := He.glo_ok X G (c.d.fact 84 (f := .glo "_law_alone") rfl)) (C := He.ga K "Rooted") (Pr := Pr) (w := w) (base := base)
  have c__law_width := Z.c__law_width (T := T) (c__law_many := c__law_many) (c__law_lots := c__law_lots) (F := F__law_width) (g := He.glo_ok X G (c.d.fact 85 (f := .glo "_law_width") rfl)) (C := He.ga K "Rooted") (Pr := Pr) (w := w) (base := base)
  have c__law_is_way := Z.c__law_is_way (T := T) (F := F__law_is_way) (g := He.glo_ok X G (c.d.fact 87 (f := .glo "_law_is_way") rfl)) (C := He.ga K "Rooted") (Pr := Pr) (w := w) (base := base)
  have c__law_draw := Z.c__law_draw (T := T) (F := F__law_draw) (g := He.glo_ok X G (c.d.fact 78 (f := .glo "_law_draw") rfl)) (C := He.ga K "Rooted") (Pr := Pr) (w := w) (base := base)
  have c__law_is_lot := Z.c__law_is_lot (T := T) (F := F__law_is_lot) (g := He.glo_ok X G (c.d.fact 86 (f := .glo "_law_is_lot") rfl)) (C := He.ga K "Rooted") (Pr := Pr) (w := w) (base := base)
  have c__law_paper_due := Z.c__law_paper_due (T := T) (c__law_is_way := c__law_is_way) (c__law_is_lot := c__law_is_lot) (c__law_many := c__law_many) (F := F__law_paper_due) (g := He.glo_ok X G (c.d.fact 88 (f := .glo "_law_paper_due") rfl)) (C := He.ga K "Rooted") (Pr := Pr) (w := w) (base := base)
  have c__law_counts := Z.c__law_counts (T := T) (c__law_many := c__law_many) (c__law_lots := c__law_lots) (F := F__law_counts) (g := He.glo_ok X G (c.d.fact 89 (f := .glo "_law_counts") rfl)) (C := He.ga K "Rooted") (Pr := Pr) (w := w) (base := base)
  have c__law_tight_by := Z.c__law_tight_by (T := T) (F := F__law_tight_by) (g := He.glo_ok X G (c.d.fact 90 (f := .glo "_law_tight_by") rfl)) (C := He.ga K "Rooted") (Pr := Pr) (w := w) (base := base)
  have c__law_ends := Z.c__law_ends (T := T) (c__law_tight_by := c__law_tight_by) (F := F__law_ends) (g := He.glo_ok X G (c.d.fact 91 (f := .glo "_law_ends") rfl)) (C := He.ga K "Rooted") (Pr := Pr) (w := w) (base := base)
  have c__law_are_between := Z.c__law_are_between (T := T) (c__law_width := c__law_width) (c__law_lots := c__law_lots) (o_getitem := o_getitem) (o_contains := o_contains) (m_least := m_least) (m_greatest := m_greatest) (F := F__law_are_between) (g := He.glo_ok X G (c.d.fact 94 (f := .glo "_law_are_between") rfl)) (C := He.ga K "Rooted") (Pr := Pr) (w := w) (base := base)
  have c__law_same := Z.c__law_same (T := T) (F := F__law_same) (g := He.glo_ok X G (c.d.fact 80 (f := .glo "_law_same") rfl)) (C := He.ga K "Rooted") (Pr := Pr) (w := w) (base := base)
  have c__law_any := Z.c__law_any (T := T) (c__law_draw := c__law_draw) (F := F__law_any) (g := He.glo_ok X G (c.d.fact 79 (f := .glo "_law_any") rfl)) (C := He.ga K "Rooted") (Pr := Pr) (w := w) (base := base)
  have c__law_are_values_out := Z.c__law_are_values_out (T := T) (c__law_any := c__law_any) (c__law_lots := c__law_lots) (o_contains := o_contains) (F := F__law_are_values_out) (g := He.glo_ok X G (c.d.fact 95 (f := .glo "_law_are_values_out") rfl)) (C := He.ga K "Rooted") (Pr := Pr) (w := w) (base := base)
  have c__law_are_any_right := Z.c__law_are_any_right (T := T) (c__law_width := c__law_width) (c__law_is_lot := c__law_is_lot) (c__law_many := c__law_many) (c__law_alone := c__law_alone) (c__law_paper_due := c__law_paper_due) (c__law_same := c__law_same) (c__law_is_way := c__law_is_way) (m_narrow := m_narrow) (m_ways := m_ways) (m_paper := m_paper) (m_judged := m_judged) (F := F__law_are_any_right) (g := He.glo_ok X G (c.d.fact 93 (f := .glo "_law_are_any_right") rfl)) (C := He.ga K "Rooted") (Pr := Pr) (w := w) (base := base)
  have c__law_is_told := Z.c__law_is_told (T := T) (c__law_counts := c__law_counts) (c__law_ends := c__law_ends) (c__law_same := c__law_same) (c_net_now := c_net_now) (c_root_now := c_root_now) (c_width_now := c_width_now) (o_len := o_len) (o_iter := o_iter) (o_getitem := o_getitem) (o_contains := o_contains) (o_call := o_call) (m_least := m_least) (m_greatest := m_greatest) (F := F__law_is_told) (g := He.glo_ok X G (c.d.fact 92 (f := .glo "_law_is_told") rfl)) (C := He.ga K "Rooted") (Pr := Pr) (w := w) (base := base)
  have c__law_net := Z.c__law_net (T := T) (c__law_draw := c__law_draw) (c__law_any := c__law_any) (F := F__law_net) (g := He.glo_ok X G (c.d.fact 81 (f := .glo "_law_net") rfl)) (C := He.ga K "Rooted") (Pr := Pr) (w := w) (base := base)
  have c__law_feed := Z.c__law_feed (T := T) (F := F__law_feed) (g := He.glo_ok X G (c.d.fact 77 (f := .glo "_law_feed") rfl)) (C := He.ga K "Rooted") (Pr := Pr) (w := w) (base := base)
  have mk : CalI Pr w K mg base (He.ga K "Rooted") := ⟨_, _, He.mkr_ok (c.d.fact 2 (f := .mkr "Rooted") rfl), f_init, F_Rooted___init__.bindsN (fun _ _ _ _ _ _ us hl => match us, hl with | [_, _, _], _ => rfl), kb_init F_Rooted___init__⟩
  exact Z.fnG_law (T := T) (TN := TN) (mk := mk) (c__law_feed := c__law_feed) (c__law_net := c__law_net) (c__law_any := c__law_any) (c__law_is_told := c__law_is_told) (c__law_are_any_right := c__law_are_any_right) (c__law_are_between := c__law_are_between) (c__law_are_values_out := c__law_are_values_out) (c__law_same := c__law_same) (o_eq := o_eq) (F := F_law)
end
end Z
open PySem PySem.W PySem.Calls PyProof.Rows
theorem PySem.Challenge.cw_stillarrives_k15_whole_rooted_holds : PySem.Challenge.rw_stillarrives_k15_whole_rooted.Holds := by
  w_on; o_law
  refine HandSHeadRun.head_any (r := OpenLaw.row PySem.Challenge.rw_stillarrives_k15_whole_rooted) (q := view (OpenLaw.row PySem.Challenge.rw_stillarrives_k15_whole_rooted).prog [88]) (H := HT.hk) (ob := HT.ob) (M := 6000) (loose := HT.names) (d := HandSHeadRun.topDef (OpenLaw.row PySem.Challenge.rw_stillarrives_k15_whole_rooted).prog 88) (kwd := []) HT.ob_eq
    (by kernel_rfl) (fun s => by kernel_rfl) HT.run (by kernel_rfl) (by kernel_rfl) (by kernel_rfl) (by rfl) (by first | assumption | decide +kernel) (by decide +kernel) ⟨rfl, rfl, rfl, rfl, rfl, by decide +kernel⟩ ?hw ?hc
  case hw => w_witness2
  case hc =>
    refine Z.walk_G (l := PySem.Challenge.rw_stillarrives_k15_whole_rooted) (n := 63) (k := 10) (x := "_law_script") (CX := L2.CX0) rfl (by decide) (by kernel_rfl) ⟨rfl, by decide, by decide⟩ ?F (fun _ _ _ _ z => z)
    intro w mg fa h Y G hmg0
    obtain ⟨K, KX, c⟩ := Y
    have hmg : mg ("law" : PySem.Str) = some (.ref fa) := by
      have e : (HandSHeadRun.topDef (OpenLaw.row PySem.Challenge.rw_stillarrives_k15_whole_rooted).prog 88).name = ("law" : PySem.Str) := by kernel_rfl
      rw [← e]
      exact hmg0
    obtain ⟨fd, hb, hF⟩ := Z.facts (Pr := (PySem.Challenge.rw_stillarrives_k15_whole_rooted).prog) (w := w) KX G c hmg
    exact ⟨K, fd, Z.spLaw K, KX, hb, fun H a ns hl _ hS => ⟨a, ns, rfl, hS, by omega, fun _ => rfl⟩, hF⟩
