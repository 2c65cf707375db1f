import PyProof.Rows.All
import Wide.All
import OpenK.AllK
import Wide.FinOn
import HandS.ForMost
import KE.KStateDown
import HandS.Head0
import HandS.Head1
import HandS.Head2
import HandS.HeadEnd
import HandS.HeadHook1
import HandS.HeadHook2
import HandS.HeadNt
import HandS.DictComp
import HandS.SetBool
import HandS.Strs
import HandS.OwnEq
import HandS.IsInst
import HandS.Records
import KE.DataMinMax
import KE.SortData
import KE.KRevSl
import PyProof.MaxThree
import HandS.Flow
import HandS.SortKw
import HandS.Deep
import HandS.TupAny
import KE.GoesMore
import HandS.SortInts
import HandS.Conv
import HandS.Style
import HandS.NoneIn
import HandS.Zip
import HandS.Star
import HandS.More
import HandS.Walk
import HandS.Property
import HandS.MakeKwOnly
import HandS.Nested
import PySem.Challenge.RW_flipthreads_k43_whole_laid_paths_on_anot
set_option Elab.async false
set_option linter.all false
set_option maxRecDepth 100000
set_option maxHeartbeats 4000000
/-! the text by places -/
namespace FtR
open PySem
def topS (i : Nat) : Stmt := PySem.Challenge.pw_flipthreads_k43_whole_laid_paths_on_anot.main.body.getD i (.Pass ⟨0, 0, 0, 0⟩)
end FtR
set_option maxHeartbeats 0
/-! the head: what stands behind the top -/
namespace FtHead
open PySem PySem.Spec PyProof.Rows L2 He FtR
abbrev gA (x : Str) : PySem.W.Frag → Addr := fun K => ga K x
abbrev mA (C m : Str) : PySem.W.Frag → Addr := fun K => ma K (ga K C) m
abbrev pA (C m : Str) : PySem.W.Frag → Addr := fun K => He5.wf K (ga K C) "property" m
abbrev dA (a : PySem.W.Frag → Addr) (x q : Str) (st : Stmt) : He5.DefA := ⟨a, x, q, defArgs st, defBody st, defScope st, [], []⟩

def d0 : He5.DefA := dA (gA "is_number") "is_number" "is_number" (topS 16)
def d1 : He5.DefA := dA (gA "is_within") "is_within" "is_within" (topS 17)
def d2 : He5.DefA := dA (gA "is_list") "is_list" "is_list" (topS 18)
def d3 : He5.DefA := dA (gA "is_line") "is_line" "is_line" (topS 19)
def d4 : He5.DefA := dA (gA "least_turn") "least_turn" "least_turn" (topS 20)
def d5 : He5.DefA := dA (gA "backwards") "backwards" "backwards" (topS 21)
def d6 : He5.DefA := dA (gA "same_round") "same_round" "same_round" (topS 22)
def d7 : He5.DefA := dA (gA "check_total") "check_total" "check_total" (topS 25)
def d8 : He5.DefA := dA (gA "step_from") "step_from" "step_from" (topS 26)
def d9 : He5.DefA := dA (gA "steps_of") "steps_of" "steps_of" (topS 27)
def d10 : He5.DefA := dA (gA "first_round") "first_round" "first_round" (topS 28)
def d11 : He5.DefA := dA (gA "word") "word" "word" (topS 29)
def d12 : He5.DefA := dA (gA "do_fit") "do_fit" "do_fit" (topS 31)
def d13 : He5.DefA := dA (gA "is_thread") "is_thread" "is_thread" (topS 34)
def d14 : He5.DefA := dA (gA "check_path") "check_path" "check_path" (topS 36)
def d15 : He5.DefA := dA (gA "tightened") "tightened" "tightened" (topS 37)
def d16 : He5.DefA := dA (gA "tight") "tight" "tight" (topS 38)
def d17 : He5.DefA := dA (gA "weave_of") "weave_of" "weave_of" (topS 39)
def d18 : He5.DefA := dA (gA "thread_of") "thread_of" "thread_of" (topS 44)
def d19 : He5.DefA := dA (gA "lay") "lay" "lay" (topS 45)
def d20 : He5.DefA := dA (gA "begun_at") "begun_at" "begun_at" (topS 49)
def d21 : He5.DefA := dA (gA "in_order") "in_order" "in_order" (topS 50)
def d22 : He5.DefA := dA (gA "parts_of") "parts_of" "parts_of" (topS 51)
def d23 : He5.DefA := dA (gA "around") "around" "around" (topS 52)
def d24 : He5.DefA := dA (gA "nails_met") "nails_met" "nails_met" (topS 53)
def d25 : He5.DefA := dA (gA "is_triangle") "is_triangle" "is_triangle" (topS 54)
def d26 : He5.DefA := dA (gA "check_triangles") "check_triangles" "check_triangles" (topS 55)
def d27 : He5.DefA := dA (gA "hang_together") "hang_together" "hang_together" (topS 56)
def d28 : He5.DefA := dA (gA "triangles_behind") "triangles_behind" "triangles_behind" (topS 57)
def d29 : He5.DefA := dA (gA "sheet_with") "sheet_with" "sheet_with" (topS 59)
def d30 : He5.DefA := dA (gA "_law_deal") "_law_deal" "_law_deal" (topS 61)
def d31 : He5.DefA := dA (gA "_law_pick") "_law_pick" "_law_pick" (topS 62)
def d32 : He5.DefA := dA (gA "_law_of") "_law_of" "_law_of" (topS 63)
def d33 : He5.DefA := dA (gA "_law_mixed") "_law_mixed" "_law_mixed" (topS 64)
def d34 : He5.DefA := dA (gA "_law_drum") "_law_drum" "_law_drum" (topS 65)
def d35 : He5.DefA := dA (gA "_law_parts") "_law_parts" "_law_parts" (topS 66)
def d36 : He5.DefA := dA (gA "_law_around") "_law_around" "_law_around" (topS 67)
def d37 : He5.DefA := dA (gA "_law_lines") "_law_lines" "_law_lines" (topS 68)
def d38 : He5.DefA := dA (gA "_law_met") "_law_met" "_law_met" (topS 69)
def d39 : He5.DefA := dA (gA "_law_starts") "_law_starts" "_law_starts" (topS 70)
def d40 : He5.DefA := dA (gA "_law_order") "_law_order" "_law_order" (topS 71)
def d41 : He5.DefA := dA (gA "_law_sides") "_law_sides" "_law_sides" (topS 72)
def d42 : He5.DefA := dA (gA "_law_can") "_law_can" "_law_can" (topS 73)
def d43 : He5.DefA := dA (gA "_law_turned") "_law_turned" "_law_turned" (topS 74)
def d44 : He5.DefA := dA (gA "_law_web") "_law_web" "_law_web" (topS 75)
def d45 : He5.DefA := dA (gA "_law_flips") "_law_flips" "_law_flips" (topS 76)
def d46 : He5.DefA := dA (gA "_law_size") "_law_size" "_law_size" (topS 77)
def d47 : He5.DefA := dA (gA "_law_many") "_law_many" "_law_many" (topS 78)
def d48 : He5.DefA := dA (gA "_law_made") "_law_made" "_law_made" (topS 79)
def d49 : He5.DefA := dA (gA "_law_ring") "_law_ring" "_law_ring" (topS 80)
def d50 : He5.DefA := dA (gA "_law_loop") "_law_loop" "_law_loop" (topS 81)
def d51 : He5.DefA := dA (gA "_law_open_lines") "_law_open_lines" "_law_open_lines" (topS 82)
def d52 : He5.DefA := dA (gA "_law_added") "_law_added" "_law_added" (topS 83)
def d53 : He5.DefA := dA (gA "_law_counts") "_law_counts" "_law_counts" (topS 84)
def d54 : He5.DefA := dA (gA "_law_carried") "_law_carried" "_law_carried" (topS 85)
def d55 : He5.DefA := dA (gA "_law_carried_all") "_law_carried_all" "_law_carried_all" (topS 86)
def d56 : He5.DefA := dA (gA "_law_corner") "_law_corner" "_law_corner" (topS 87)
def d57 : He5.DefA := dA (gA "_law_joins") "_law_joins" "_law_joins" (topS 88)
def d58 : He5.DefA := dA (gA "_law_rounds") "_law_rounds" "_law_rounds" (topS 89)
def d59 : He5.DefA := dA (gA "_law_count_row") "_law_count_row" "_law_count_row" (topS 90)
def d60 : He5.DefA := dA (gA "_law_split") "_law_split" "_law_split" (topS 91)
def d61 : He5.DefA := dA (gA "_law_thread") "_law_thread" "_law_thread" (topS 92)
def d62 : He5.DefA := dA (gA "_law_flipped") "_law_flipped" "_law_flipped" (topS 93)
def d63 : He5.DefA := dA (gA "law") "law" "law" (topS 94)
def d64 : He5.DefA := dA (mA "Weave" "__init__") "__init__" "Weave.__init__" (inClass (topS 32) 0)
def d65 : He5.DefA := dA (mA "Weave" "counts") "counts" "Weave.counts" (inClass (topS 32) 4)
def d66 : He5.DefA := dA (mA "Weave" "crossings") "crossings" "Weave.crossings" (inClass (topS 32) 5)
def d67 : He5.DefA := dA (mA "Weave" "arcs") "arcs" "Weave.arcs" (inClass (topS 32) 6)
def d68 : He5.DefA := dA (mA "Weave" "flipped_once") "flipped_once" "Weave.flipped_once" (inClass (topS 32) 7)
def d69 : He5.DefA := dA (mA "Weave" "flipped") "flipped" "Weave.flipped" (inClass (topS 32) 8)
def d70 : He5.DefA := dA (mA "Weave" "__eq__") "__eq__" "Weave.__eq__" (inClass (topS 32) 15)
def d71 : He5.DefA := dA (mA "Weave" "__bool__") "__bool__" "Weave.__bool__" (inClass (topS 32) 16)
def d72 : He5.DefA := dA (pA "Weave" "sheet") "sheet" "Weave.sheet" (inClass (topS 32) 2)
def d73 : He5.DefA := dA (pA "Weave" "total") "total" "Weave.total" (inClass (topS 32) 3)
def d74 : He5.DefA := dA (mA "Sheet" "__init__") "__init__" "Sheet.__init__" (inClass (topS 58) 1)
def d75 : He5.DefA := dA (mA "Sheet" "triangles") "triangles" "Sheet.triangles" (inClass (topS 58) 6)
def d76 : He5.DefA := dA (mA "Sheet" "check_line") "check_line" "Sheet.check_line" (inClass (topS 58) 8)
def d77 : He5.DefA := dA (mA "Sheet" "triangle") "triangle" "Sheet.triangle" (inClass (topS 58) 9)
def d78 : He5.DefA := dA (mA "Sheet" "sides") "sides" "Sheet.sides" (inClass (topS 58) 12)
def d79 : He5.DefA := dA (mA "Sheet" "can_flip") "can_flip" "Sheet.can_flip" (inClass (topS 58) 13)
def d80 : He5.DefA := dA (mA "Sheet" "flipped_once") "flipped_once" "Sheet.flipped_once" (inClass (topS 58) 14)
def d81 : He5.DefA := dA (mA "Sheet" "__eq__") "__eq__" "Sheet.__eq__" (inClass (topS 58) 17)
def d82 : He5.DefA := dA (pA "Sheet" "lines") "lines" "Sheet.lines" (inClass (topS 58) 4)
def d83 : He5.DefA := dA (mA "Laying" "__init__") "__init__" "Laying.__init__" (inClass (topS 40) 0)
def d84 : He5.DefA := dA (pA "Laid" "thread") "thread" "Laid.thread" (inClass (topS 41) 1)
def fn0 : List He5.DefA := [d0, d1, d2, d3, d4, d5, d6, d7, d8, d9, d10, d11, d12, d13, d14, d15, d16, d17, d18, d19, d20, d21, d22, d23, d24, d25, d26, d27, d28, d29]
def fn1 : List He5.DefA := [d30, d31, d32, d33, d34, d35, d36, d37, d38, d39, d40, d41, d42, d43, d44, d45, d46, d47, d48, d49, d50, d51, d52, d53, d54, d55, d56, d57, d58, d59]
def fn2 : List He5.DefA := [d60, d61, d62, d63, d64, d65, d66, d67, d68, d69, d70, d71, d72, d73, d74, d75, d76, d77, d78, d79, d80, d81, d82, d83, d84]
def fn : List He5.DefA := fn0 ++ fn1 ++ fn2
def fa0 : List He.Fa := [.glo "is_number", .glo "is_within", .glo "is_list", .glo "is_line", .glo "least_turn", .glo "backwards", .glo "same_round", .glo "check_total", .glo "step_from", .glo "steps_of", .glo "first_round", .glo "word", .glo "do_fit", .glo "is_thread", .glo "check_path", .glo "tightened", .glo "tight", .glo "weave_of", .glo "thread_of", .glo "lay", .glo "begun_at", .glo "in_order", .glo "parts_of", .glo "around", .glo "nails_met", .glo "is_triangle", .glo "check_triangles", .glo "hang_together", .glo "triangles_behind", .glo "sheet_with"]
def fa1 : List He.Fa := [.glo "_law_deal", .glo "_law_pick", .glo "_law_of", .glo "_law_mixed", .glo "_law_drum", .glo "_law_parts", .glo "_law_around", .glo "_law_lines", .glo "_law_met", .glo "_law_starts", .glo "_law_order", .glo "_law_sides", .glo "_law_can", .glo "_law_turned", .glo "_law_web", .glo "_law_flips", .glo "_law_size", .glo "_law_many", .glo "_law_made", .glo "_law_ring", .glo "_law_loop", .glo "_law_open_lines", .glo "_law_added", .glo "_law_counts", .glo "_law_carried", .glo "_law_carried_all", .glo "_law_corner", .glo "_law_joins", .glo "_law_rounds", .glo "_law_count_row"]
def fa2 : List He.Fa := [.glo "_law_split", .glo "_law_thread", .glo "_law_flipped", .glo "law", .glo "Sheet", .glo "Weave", .glo "Laid", .free "abs", .free "all", .free "any", .free "bool", .free "dict", .free "enumerate", .free "int", .free "isinstance", .free "len", .free "list", .free "max", .free "min", .free "range", .free "set", .free "sorted", .free "sum", .free "tuple", .free "zip", .free "super", .int "FEWEST_TRIANGLES" 6, .int "MOST_TRIANGLES" 16, .int "MOST_CROSSINGS" 5000, .cls "Sheet"]
def fa3 : List He.Fa := [.mkr "Sheet", .cls "Weave", .mkr "Weave", .cls "Laid", .mkr "Laid", .noat "Sheet" "own_triangles", .noat "Sheet" "parts", .noat "Sheet" "own_order", .noat "Sheet" "starts", .noat "Weave" "own_sheet", .noat "Weave" "own_counts", .noat "Laid" "own_sheet", .noat "Laid" "own_path", .noat "Laid" "own_thread", .meth "Weave" "counts", .meth "Weave" "crossings", .meth "Weave" "arcs", .meth "Weave" "flipped_once", .meth "Weave" "flipped", .meth "Weave" "__eq__", .meth "Weave" "__bool__", .meth "Sheet" "triangles", .meth "Sheet" "check_line", .meth "Sheet" "triangle", .meth "Sheet" "sides", .meth "Sheet" "can_flip", .meth "Sheet" "flipped_once", .meth "Sheet" "__eq__"]
def fa : List He.Fa := fa0 ++ fa1 ++ fa2 ++ fa3
/-! ### facts of one's own -/
def bO (a b : Option Bool) : Bool := decide (a = b)
def clsB (K : PySem.W.Frag) (C : Addr) : Bool := eqO (PySem.W.findIn K (.ref C) "__class__") (some (some (.builtin "object.__class__"))) && (eqO (PySem.W.specialIn K (.builtin "object.__class__") "__get__") (some (some (.builtin "getset_descriptor.__get__"))) && (bO (PySem.W.takesIn K (.builtin "object.__class__")) (some true) && (bO (PySem.W.mroIn K C (.type "object")) (some true) && eqO (PySem.W.findIn K (.ref C) "__ne__") (some (some (.builtin "object.__ne__"))))))
def prB (K : PySem.W.Frag) (C : Addr) (m : Str) : Bool := eqO (PySem.W.findIn K (.ref C) m) (some (some (.ref (ma K C m)))) && (eqO (PySem.W.specialIn K (.ref (ma K C m)) "__get__") (some (some (.builtin "property.__get__"))) && (bO (PySem.W.takesIn K (.ref (ma K C m))) (some true) && (match PySem.W.recIn K (ma K C m) "property" with
  | some (.ref _ :: _) => true
  | _ => false)))
def fileIs (v : Option Value) : Bool := match v with
  | some (.str file _) => (PySem.Challenge.pw_flipthreads_k43_whole_laid_paths_on_anot.main.file : Str) == file
  | _ => false
def codeB (K : PySem.W.Frag) (c : Addr) : Bool := match K.lookup c with
  | some ⟨_, _, .fields vs, _⟩ => fileIs vs[2]?
  | _ => false
def cellB (K : PySem.W.Frag) (cc C : Addr) : Bool := match K.lookup cc with
  | some ⟨_, _, .cell (some (.ref D)), _⟩ => decide (D = C)
  | _ => false
def supFd (K : PySem.W.Frag) (fd : FuncData) (C : Addr) (q : Str) : Bool := match fd.closure, fd.code, fd.defaults with
  | [(_, cc)], .ref c, .none => PySem.W.codeIn K (.ref c) q && (codeB K c && cellB K cc C)
  | _, _, _ => false
def supB (K : PySem.W.Frag) (f C f2 : Addr) (q m : Str) : Bool := (match K.lookup f with
    | some ⟨_, _, .func fd, _⟩ => supFd K fd C q
    | _ => false) && ((PySem.W.clsIn K C).isSome && (bO (PySem.W.mroIn K C (.ref C)) (some true) && (eqO (PySem.W.nsIn K cStatics "thirdparty.any") (some none) && (eqO (PySem.W.ks_superIn K C C m) (some (some (.ref f2))) && (PySem.W.isFn K (.ref f2) && PySem.W.fnIn K f2)))))
abbrev FnS : Type := Option (Str × Str × Arguments × FuncBody × Scope × Addr × List Str × Addr)
def fnS (K : PySem.W.Frag) (a : Addr) : FnS := match K.lookup a with
  | some ⟨_, _, .func fd, _⟩ => some (fd.name, fd.qualname, fd.params, fd.body, fd.scope, fd.globals, fd.closure.map (·.1), fd.builtins)
  | _ => none
def valS : FnS := some ("__init__", "Laid.__init__", defArgs (inClass (topS 41) 0), .stmts (defBody (inClass (topS 41) 0)), defScope (inClass (topS 41) 0), mainGlobals, ["__class__"], builtinsNs)
def bs (K : PySem.W.Frag) : Bool := clsB K (ga K "Sheet") && (clsB K (ga K "Weave") && (supB K (ma K (ga K "Laid") "__init__") (ga K "Laid") (ma K (ga K "Laying") "__init__") "Laid.__init__" "__init__" && (prB K (ga K "Weave") "sheet" && prB K (ga K "Weave") "total" && prB K (ga K "Sheet") "lines" && prB K (ga K "Laid") "thread")))
/-! ### the Hook -/
abbrev AlF : Type := (Bool × List FnW) × (Bool × Bool × FnS)
def obB (K : PySem.W.Frag) : Bool × List FnW := (fn.all (fun d => d.ok K), fn.map fun d => He5.fnA K (d.at_ K))
def obC (K : PySem.W.Frag) : Bool × Bool × FnS := (fa.all (fun f => f.ok K), bs K, fnS K (ma K (ga K "Laid") "__init__"))
def vB : Bool × List FnW := (true, fn.map He5.DefA.val)
def vC : Bool × Bool × FnS := (true, true, valS)
structure SaysF (K : PySem.W.Frag) : Prop where
  a : He5.SaysA fa fn K
  b : bs K = true
  s : fnS K (ma K (ga K "Laid") "__init__") = valS
theorem says_of {K : PySem.W.Frag} (h : ((obB K, obC K) : AlF) = (vB, vC)) : SaysF K := by
  have h1 : obB K = vB := congrArg (fun z : AlF => z.1) h
  have h2 : obC K = vC := congrArg (fun z : AlF => z.2) h
  have a1 : fn.all (fun d => d.ok K) = true := congrArg (fun z : Bool × List FnW => z.1) h1
  have a2 : (fn.map fun d => He5.fnA K (d.at_ K)) = fn.map He5.DefA.val := congrArg (fun z : Bool × List FnW => z.2) h1
  have c1 : fa.all (fun f => f.ok K) = true := congrArg (fun z : Bool × Bool × FnS => z.1) h2
  refine ⟨?_, congrArg (fun z : Bool × Bool × FnS => z.2.1) h2, congrArg (fun z : Bool × Bool × FnS => z.2.2) h2⟩
  unfold He5.SaysA He5.obsA He5.valA
  rw [a1, a2, c1]
  rfl
/-- the addresses looked at -/
def stepF (g : Addr → Option Obj) (as : List Addr) : List Addr := as.flatMap fun a => match g a with
  | some o => refsD o
  | none => []
def asF (g : Addr → Option Obj) : List Addr :=
  (fun l1 => (fun l2 => (fun l3 => (fun l4 => mainGlobals :: cStatics :: (l1 ++ l2 ++ l3 ++ l4 ++ stepF g l4)) (stepF g l3)) (stepF g l2)) (stepF g l1)) (stepF g [mainGlobals])
def obsFG (g : Addr → Option Obj) : AlF := (obB (frG g (asF g)), obC (frG g (asF g)))
def hookF : PySem.W.Hook where
  α := AlF
  obs := fun s => obsFG s.heap.get?
  val := fun _ => (vB, vC)
  says := fun _ h => ∃ K : PySem.W.Frag, K.In h ∧ SaysF K
  of := fun _ _ e => ⟨_, frG_in, says_of e⟩
  keeps := fun _ _ _ ⟨K, hK, c⟩ k => ⟨K, PySem.W.Frag.In.keeps hK k, c⟩
theorem obsFG_eq {g : Addr → Option Obj} {s : Shared} (h : ∀ a, g a = s.heap.get? a) : obsFG g = hookF.obs s := by
  have e : g = s.heap.get? := funext h
  rw [e] <;> rfl
abbrev R : PySem.W.OpenRow := PySem.W.OpenLaw.row PySem.Challenge.rw_flipthreads_k43_whole_laid_paths_on_anot
abbrev qv : Program := PySem.W.view R.prog [94]
abbrev kOf (s : PySem.W.SharedT) : PySem.W.Frag := frG (HandSHeadRun.getT s) (asF (HandSHeadRun.getT s))
def ob (s : PySem.W.SharedT) : AlF := (obB (kOf s), obC (kOf s))
theorem ob_eq (s : PySem.W.SharedT) : ob s = hookF.obs s.abs := obsFG_eq (HandSHeadRun.getT_eq s)
def nm0 : List PySem.Str := [PySem.Str.ofString "_wall", PySem.Str.ofString "__name__", PySem.Str.ofString "ThreadError", PySem.Str.ofString "InvalidSheet", PySem.Str.ofString "InvalidTriangle", PySem.Str.ofString "InvalidOrder", PySem.Str.ofString "InvalidLine", PySem.Str.ofString "Unflippable", PySem.Str.ofString "InvalidCounts", PySem.Str.ofString "Misfit", PySem.Str.ofString "InvalidFactor", PySem.Str.ofString "OtherSheet", PySem.Str.ofString "TooGreat", PySem.Str.ofString "NotThread", PySem.Str.ofString "InvalidPath", PySem.Str.ofString "is_number", PySem.Str.ofString "is_within", PySem.Str.ofString "is_list", PySem.Str.ofString "is_line", PySem.Str.ofString "least_turn", PySem.Str.ofString "backwards", PySem.Str.ofString "same_round", PySem.Str.ofString "MOST_CROSSINGS", PySem.Str.ofString "check_total", PySem.Str.ofString "step_from", PySem.Str.ofString "steps_of", PySem.Str.ofString "first_round", PySem.Str.ofString "word", PySem.Str.ofString "do_fit", PySem.Str.ofString "Weave", PySem.Str.ofString "is_thread", PySem.Str.ofString "check_path", PySem.Str.ofString "tightened", PySem.Str.ofString "tight", PySem.Str.ofString "weave_of"]
def nm1 : List PySem.Str := [PySem.Str.ofString "Laying", PySem.Str.ofString "Laid", PySem.Str.ofString "Crossed", PySem.Str.ofString "Gone", PySem.Str.ofString "thread_of", PySem.Str.ofString "lay", PySem.Str.ofString "FEWEST_TRIANGLES", PySem.Str.ofString "MOST_TRIANGLES", PySem.Str.ofString "begun_at", PySem.Str.ofString "in_order", PySem.Str.ofString "parts_of", PySem.Str.ofString "around", PySem.Str.ofString "nails_met", PySem.Str.ofString "is_triangle", PySem.Str.ofString "check_triangles", PySem.Str.ofString "hang_together", PySem.Str.ofString "triangles_behind", PySem.Str.ofString "Sheet", PySem.Str.ofString "sheet_with", PySem.Str.ofString "_law_deal", PySem.Str.ofString "_law_pick", PySem.Str.ofString "_law_of", PySem.Str.ofString "_law_mixed", PySem.Str.ofString "_law_drum", PySem.Str.ofString "_law_parts", PySem.Str.ofString "_law_around", PySem.Str.ofString "_law_lines", PySem.Str.ofString "_law_met", PySem.Str.ofString "_law_starts", PySem.Str.ofString "_law_order", PySem.Str.ofString "_law_sides", PySem.Str.ofString "_law_can", PySem.Str.ofString "_law_turned", PySem.Str.ofString "_law_web", PySem.Str.ofString "_law_flips"]
def nm2 : List PySem.Str := [PySem.Str.ofString "_law_size", PySem.Str.ofString "_law_many", PySem.Str.ofString "_law_made", PySem.Str.ofString "_law_ring", PySem.Str.ofString "_law_loop", PySem.Str.ofString "_law_open_lines", PySem.Str.ofString "_law_added", PySem.Str.ofString "_law_counts", PySem.Str.ofString "_law_carried", PySem.Str.ofString "_law_carried_all", PySem.Str.ofString "_law_corner", PySem.Str.ofString "_law_joins", PySem.Str.ofString "_law_rounds", PySem.Str.ofString "_law_count_row", PySem.Str.ofString "_law_split", PySem.Str.ofString "_law_thread", PySem.Str.ofString "_law_flipped"]
def names : List PySem.Str := nm0 ++ nm1 ++ nm2
/-! the run, in parts -/
noncomputable abbrev endS (w : World) (os : OsState) : Option PySem.W.SharedT := HandSHeadRun.endF (HandSHeadRun.stepQ (HandSHeadRun.denQ HandSHeadRun.tabQ) R.prog w) 30000 R.prog w os
theorem runA (w : World) : HandSHeadRun.RunEq R qv PySem.W.Hook.none (fun _ => ()) 30000 names w := by
  intro os
  kernel_rfl
theorem runB (w : World) (os : OsState) : (endS w os).map (fun s => obB (kOf s)) = some vB := by
  kernel_rfl
theorem runC (w : World) (os : OsState) : (endS w os).map (fun s => obC (kOf s)) = some vC := by
  kernel_rfl
theorem run (w : World) : HandSHeadRun.RunEq R qv hookF ob 30000 names w := by
  intro os
  have hA := runA w os
  have hB := runB w os
  have hC := runC w os
  unfold endS at hB hC
  generalize HandSHeadRun.endF (HandSHeadRun.stepQ (HandSHeadRun.denQ HandSHeadRun.tabQ) R.prog w) 30000 R.prog w os = E at *
  cases E with
  | none => cases hA
  | some s =>
    simp only [Option.map_some, Option.some.injEq] at hB hC
    simp only [Option.map_some, Option.some.injEq, Prod.mk.injEq] at hA
    have h5 := congrArg Prod.fst hA.2
    have ho : ob s = hookF.val w := by
      unfold ob
      rw [hB, hC]
      rfl
    refine congrArg some (Prod.ext hA.1 (Prod.ext h5 ho))
end FtHead
set_option maxHeartbeats 4000000
/-! a dict comprehension with two clauses: after HandS.Comp's list comprehension with two, turned to dicts -/
namespace FtR
open PySem PySem.Spec PyProof.Rows L2
theorem compTurnD2_out (kx vx t0 i0 t1 i1 : Expr) (ifs0 ifs1 : List Expr) (scope : Scope) (pos : Pos) (it : Value) (D : Addr) (env : Env) :
    compTurn (.DictComp kx vx [⟨t0, i0, ifs0, 0⟩, ⟨t1, i1, ifs1, 0⟩] scope pos) 0 it (.ref D) env = (do
      standAt i0.pos
      match ← pyNext it with
      | none => pure (.done .next)
      | some v =>
        letOwnedTupleGo t0 it v
        assign t0 env v
        let mut ok := true
        for c in ifs0 do
          if ok then ok ← isTrue c env (eval c env)
        if ok then
          let x ← eval i1 env
          standAt i1.pos
          let x ← foldedSetIterable i1 env x
          let _ ← runOwn (.compStart (.DictComp kx vx [⟨t0, i0, ifs0, 0⟩, ⟨t1, i1, ifs1, 0⟩] scope pos) 1 (← holding [x] (pyIter x)) (.ref D) env) env
        again (.compLoop (.DictComp kx vx [⟨t0, i0, ifs0, 0⟩, ⟨t1, i1, ifs1, 0⟩] scope pos) 0 it (.ref D) env)) := by rfl
theorem compTurnD2_in (kx vx t0 i0 t1 i1 : Expr) (ifs0 ifs1 : List Expr) (scope : Scope) (pos : Pos) (it : Value) (D : Addr) (env : Env) :
    compTurn (.DictComp kx vx [⟨t0, i0, ifs0, 0⟩, ⟨t1, i1, ifs1, 0⟩] scope pos) 1 it (.ref D) env = (do
      standAt i1.pos
      match ← pyNext it with
      | none => pure (.done .next)
      | some v =>
        letOwnedTupleGo t1 it v
        assign t1 env v
        let mut ok := true
        for c in ifs1 do
          if ok then ok ← isTrue c env (eval c env)
        if ok then
          (do
            let kv ← eval kx env
            let vv ← holding [kv] (eval vx env)
            standAt { kx.pos with endLine := vx.pos.endLine, endCol := vx.pos.endCol }
            holding [kv, vv] (dictSet D kv vv))
        again (.compLoop (.DictComp kx vx [⟨t0, i0, ifs0, 0⟩, ⟨t1, i1, ifs1, 0⟩] scope pos) 1 it (.ref D) env)) := by rfl

section
variable {prog : Program} {w : World} {A : Around} {R : Result → Shared → Prop} {s : Shared} {kx vx t0 i0 t1 i1 : Expr} {ifs0 ifs1 : List Expr} {scope : Scope} {pos : Pos} {it : Value} {D : Addr} {env : Env}
/-- the loop of the first clause -/
theorem compLoopD2_out (hs : ∀ x, foldedSetIterable i1 env x = pure x) (I : Nat → Shared → Prop)
    (turn : ∀ n s, I n s → wpAny (model prog w) A (pyNext it) (fun r s₁ => match r with
      | none => R (.ok .next) s₁
      | some v => wpAny (model prog w) A (letOwnedTupleGo t0 it v) (fun _ s₁' => wpAny (model prog w) A (assign t0 env v) (fun _ s₂ =>
          wpAny (model prog w) A (forIn ifs0 true fun c r => if r = true then do let ok ← isTrue c env (eval c env); pure (ForInStep.yield ok) else pure (ForInStep.yield r)) (fun ok s₃ =>
            if ok = true then wpAny (model prog w) A (eval i1 env) (fun x s₄ => wpAny (model prog w) A (pyIter x) (fun it1 s₅ =>
              codeAny (model prog w) A (.compStart (.DictComp kx vx [⟨t0, i0, ifs0, 0⟩, ⟨t1, i1, ifs1, 0⟩] scope pos) 1 it1 (.ref D) env) (fun r s' => match r with
                | .ok _ => ∃ m, m < n ∧ I m s'
                | .error _ => False) s₅) (notedBy (model prog w) A env fun e s' => R (.error e) s') s₄) (notedBy (model prog w) A env fun e s' => R (.error e) s') s₃
            else ∃ m, m < n ∧ I m s₃) (notedBy (model prog w) A env fun e s' => R (.error e) s') s₂) (notedBy (model prog w) A env fun e s' => R (.error e) s') s₁') (notedBy (model prog w) A env fun e s' => R (.error e) s') s₁) (notedBy (model prog w) A env fun e s' => R (.error e) s') s)
    (n : Nat) (h : I n s) :
    codeAny (model prog w) A (.compLoop (.DictComp kx vx [⟨t0, i0, ifs0, 0⟩, ⟨t1, i1, ifs1, 0⟩] scope pos) 0 it (.ref D) env) R s := by
  refine codeAny_loop rfl I (fun n s hI => ?_) n h
  show wpAny _ A ((compTurn (.DictComp kx vx [⟨t0, i0, ifs0, 0⟩, ⟨t1, i1, ifs1, 0⟩] scope pos) 0 it (.ref D) env).onRaise (fun x => do noteFrame x env; theTreesLotGoes x)) _ _ s
  refine wpAny_noted ?_
  rw [compTurnD2_out]
  refine wpAny_bind (wpAny_standAt (wpAny_bind (wpAny_mono (turn n s hI) (fun r s₁ h₁ => ?_) fun _ _ h' => h')))
  cases r with
  | none => exact wpAny_pure h₁
  | some v =>
    refine wpAny_bind (wpAny_mono h₁ (fun _ s₁' h₁' => ?_) fun _ _ h' => h')
    refine wpAny_bind (wpAny_mono h₁' (fun _ s₂ h₂ => wpAny_bind (wpAny_mono h₂ (fun ok s₃ h₃ => ?_) fun _ _ h' => h')) fun _ _ h' => h')
    cases ok with
    | false => exact wpAny_pure ⟨rfl, h₃⟩
    | true =>
      refine wpAny_bind (wpAny_mono h₃ (fun x s₄ h₄ => ?_) fun _ _ h' => h')
      refine wpAny_bind (wpAny_standAt (wpAny_bind (wpAny_of_eq (hs x) (wpAny_bind (wpAny_holding (wpAny_mono h₄ (fun it1 s₅ h₅ => ?_) fun _ _ h' => h'))))))
      refine wpAny_bind (wpAny_runOwn ?_)
      rw [Around.mark_none]
      refine codeAny_mono h₅ fun r s' hr => ?_
      cases r with
      | ok f =>
        first
          | exact wpAny_pure ⟨rfl, hr⟩
          | exact wpAny_bind (wpAny_pure (wpAny_pure ⟨rfl, hr⟩))
      | error e => exact hr.elim
/-- the loop of the second -/
theorem compLoopD2_in (I : Nat → Shared → Prop)
    (turn : ∀ n s, I n s → wpAny (model prog w) A (pyNext it) (fun r s₁ => match r with
      | none => R (.ok .next) s₁
      | some v => wpAny (model prog w) A (letOwnedTupleGo t1 it v) (fun _ s₁' => wpAny (model prog w) A (assign t1 env v) (fun _ s₂ =>
          wpAny (model prog w) A (forIn ifs1 true fun c r => if r = true then do let ok ← isTrue c env (eval c env); pure (ForInStep.yield ok) else pure (ForInStep.yield r)) (fun ok s₃ =>
            if ok = true then wpAny (model prog w) A (eval kx env) (fun kv s₄ => wpAny (model prog w) A (eval vx env) (fun vv s₅ =>
              wpAny (model prog w) A (dictSet D kv vv) (fun _ s₆ => ∃ m, m < n ∧ I m s₆) (notedBy (model prog w) A env fun e s' => R (.error e) s') s₅) (notedBy (model prog w) A env fun e s' => R (.error e) s') s₄) (notedBy (model prog w) A env fun e s' => R (.error e) s') s₃
            else ∃ m, m < n ∧ I m s₃) (notedBy (model prog w) A env fun e s' => R (.error e) s') s₂) (notedBy (model prog w) A env fun e s' => R (.error e) s') s₁') (notedBy (model prog w) A env fun e s' => R (.error e) s') s₁) (notedBy (model prog w) A env fun e s' => R (.error e) s') s)
    (n : Nat) (h : I n s) :
    codeAny (model prog w) A (.compLoop (.DictComp kx vx [⟨t0, i0, ifs0, 0⟩, ⟨t1, i1, ifs1, 0⟩] scope pos) 1 it (.ref D) env) R s := by
  refine codeAny_loop rfl I (fun n s hI => ?_) n h
  show wpAny _ A ((compTurn (.DictComp kx vx [⟨t0, i0, ifs0, 0⟩, ⟨t1, i1, ifs1, 0⟩] scope pos) 1 it (.ref D) env).onRaise (fun x => do noteFrame x env; theTreesLotGoes x)) _ _ s
  refine wpAny_noted ?_
  rw [compTurnD2_in]
  refine wpAny_bind (wpAny_standAt (wpAny_bind (wpAny_mono (turn n s hI) (fun r s₁ h₁ => ?_) fun _ _ h' => h')))
  cases r with
  | none => exact wpAny_pure h₁
  | some v =>
    refine wpAny_bind (wpAny_mono h₁ (fun _ s₁' h₁' => ?_) fun _ _ h' => h')
    refine wpAny_bind (wpAny_mono h₁' (fun _ s₂ h₂ => wpAny_bind (wpAny_mono h₂ (fun ok s₃ h₃ => ?_) fun _ _ h' => h')) fun _ _ h' => h')
    cases ok with
    | false => exact wpAny_pure ⟨rfl, h₃⟩
    | true =>
      exact wpAny_bind (wpAny_bind (wpAny_mono h₃ (fun kv s₄ h₄ => wpAny_bind (wpAny_holding (wpAny_mono h₄ (fun vv s₅ h₅ => wpAny_bind (wpAny_standAt (wpAny_holding (wpAny_mono h₅ (fun _ s₆ h₆ => wpAny_pure ⟨rfl, h₆⟩) fun _ _ h' => h')))) fun _ _ h' => h'))) fun _ _ h' => h'))
/-- the second clause's start -/
theorem compStartD1_ok (h0 : codeAny (model prog w) A (.compLoop (.DictComp kx vx [⟨t0, i0, ifs0, 0⟩, ⟨t1, i1, ifs1, 0⟩] scope pos) 1 it (.ref D) env) R s)
    (h : wpAny (model prog w) A (pyIter it) (fun it' s' => codeAny (model prog w) A (.compLoop (.DictComp kx vx [⟨t0, i0, ifs0, 0⟩, ⟨t1, i1, ifs1, 0⟩] scope pos) 1 it' (.ref D) env) R s')
      (notedBy (model prog w) A env fun x s' => R (.error x) s') s) :
    codeAny (model prog w) A (.compStart (.DictComp kx vx [⟨t0, i0, ifs0, 0⟩, ⟨t1, i1, ifs1, 0⟩] scope pos) 1 it (.ref D) env) R s := by
  refine codeAny_of_tree ?_
  show wpAny _ _ ((compStart (.DictComp kx vx [⟨t0, i0, ifs0, 0⟩, ⟨t1, i1, ifs1, 0⟩] scope pos) 1 it (.ref D) env).onRaise (fun x => do noteFrame x env; standAt theWindowsPlace)) _ _ s
  refine wpAny_notedAt ?_
  unfold compStart
  show wpAny _ _ (ask >>= _) _ _ s
  refine wpAny_bind (wpAny_askSetting (wpAny_ite ?_))
  split
  · first
      | exact wpAny_bind (wpAny_pure (wpAny_pure (And.intro rfl h0)))
      | exact wpAny_pure (And.intro rfl h0)
  · first
      | exact wpAny_bind (wpAny_rule (wpAny_bind (wpAny_standAt (wpAny_bind (wpAny_mono h (fun it' s' h' => wpAny_pure (And.intro rfl h')) fun _ _ x => x)))))
      | (refine wpAny_bind (wpAny_rule ?_); show wpAny _ _ (standAt i1.pos >>= _) _ _ s; exact wpAny_bind (wpAny_standAt (wpAny_bind (wpAny_mono h (fun it' s' h' => wpAny_pure (And.intro rfl h')) fun _ _ x => x))))
end
section
variable {X : Cx}
def tDc2 (wi : TI) (g : TG) (tt : TT) (wi1 : TI) (g1 : TG) (tt1 : TT) (tk tv : TE) (vs vs1 : List Nat) : TE := fun σ H Q => wi σ H fun J H1 => ∀ D, H1 D = none → ∃ W : Nat → Nat → Hp → Prop, (∃ m, W 0 m (upd H1 D (.dK []))) ∧ ∀ i m H, W i m H →
  (J.stop i H ∧ Q (.ref D) H) ∨ (J.go i H ∧ ∃ Nx : Hp → Prop, (∀ H', Nx H' → ∃ m', m' < m ∧ W (i + 1) m' H') ∧ ∀ x H', J.yld i H x H' → g x (wipe σ vs) H' fun σ2 H2 => wipe σ2 vs = wipe σ vs ∧ tt σ2 H2 fun b H3 =>
    if b = true then wi1 σ2 H3 fun J1 H4 => ∃ W1 : Nat → Nat → Hp → Prop, (∃ m, W1 0 m H4) ∧ ∀ j k H, W1 j k H →
      (J1.stop j H ∧ Nx H) ∨ (J1.go j H ∧ ∃ Nx1 : Hp → Prop, (∀ H', Nx1 H' → ∃ k', k' < k ∧ W1 (j + 1) k' H') ∧ ∀ x H', J1.yld j H x H' → g1 x (wipe σ2 vs1) H' fun σ3 H5 => wipe σ3 vs1 = wipe σ2 vs1 ∧ tt1 σ3 H5 fun b H6 =>
        if b = true then tk σ3 H6 fun y H7 => tv σ3 H7 fun z H8 => ∃ kvs k, y = kV k ∧ H8 D = some (.dK kvs) ∧ kvs.length < sizeLine ∧ Nx1 (upd H8 D (.dK (putK kvs k z))) else Nx1 H6)
    else Nx H3)
theorem dc2_core {pins : List (Addr × Obj)} {s : Shared} {σ : L2.St} {H : Hp} {Q : VK} {kx vx tg iter tg1 iter1 : Expr} {ifs ifs1 : List Expr} {scope : Scope} {own : List (Str × Nat)} {vs1 : List Nat} {pos pos' : Pos} {wi wi1 : TI} {g g1 : TG} {tt tt1 : TT} {tk tv : TE} {use : Option (Value → Sem Unit)} {Qf : Value → Shared → Prop}
    (hc : X.calm = true) (hN : X.N.Nodup) (I : Inv X pins σ H s) (hi : PI X tg iter wi) (ok : BlkOk X.N X.env.scope scope own) (hv : ∀ i ∈ vs1, i ∈ own.map (·.2))
    (hg : ∀ (s : Shared) (H : Hp) (C : Addr) (cl : List (Str × Addr)) (fp : List Addr), PG (X.blk s H scope (compEnvC scope cl C X.env) fp) tg g) (ht : ∀ (s : Shared) (H : Hp) (C : Addr) (cl : List (Str × Addr)) (fp : List Addr), PTs (X.blk s H scope (compEnvC scope cl C X.env) fp) ifs tt)
    (hk : ∀ (s : Shared) (H : Hp) (C : Addr) (cl : List (Str × Addr)) (fp : List Addr), PE (X.blk s H scope (compEnvC scope cl C X.env) fp) kx tk) (he : ∀ (s : Shared) (H : Hp) (C : Addr) (cl : List (Str × Addr)) (fp : List Addr), PE (X.blk s H scope (compEnvC scope cl C X.env) fp) vx tv) (hs : ∀ x, foldedSetIterable iter X.env x = pure x)
    (hi1 : ∀ (s : Shared) (H : Hp) (C : Addr) (cl : List (Str × Addr)) (fp : List Addr), PI (X.blk s H scope (compEnvC scope cl C X.env) fp) tg1 iter1 wi1)
    (hg1 : ∀ (s : Shared) (H : Hp) (C : Addr) (cl : List (Str × Addr)) (fp : List Addr), PG (X.blk s H scope (compEnvC scope cl C X.env) fp) tg1 g1)
    (ht1 : ∀ (s : Shared) (H : Hp) (C : Addr) (cl : List (Str × Addr)) (fp : List Addr), PTs (X.blk s H scope (compEnvC scope cl C X.env) fp) ifs1 tt1)
    (hs1 : ∀ env x, foldedSetIterable iter1 env x = pure x)
    (h : tDc2 wi g tt wi1 g1 tt1 tk tv (own.map (·.2)) vs1 σ H Q)
    (hRR : ∀ D C s' m H', Inv X pins σ H' s' → Q (.ref D) H' → s'.heap.Ns C m → FpOk X pins H' C → compPost (model X.prog X.w) X.A X.xe use Qf (.ref D) C (.ok .next) s') :
    wpAny (model X.prog X.w) X.A (comprehension (.DictComp kx vx [⟨tg, iter, ifs, 0⟩, ⟨tg1, iter1, ifs1, 0⟩] scope pos) scope X.env pos' newDict false (eval iter X.env) use) Qf X.xe s := by
  have hfree : ∀ y ∈ scope.names, y.2 = .free → ∃ c, X.env.cells.lookup y.1 = some c := fun y hy e => by
    rcases ok.free y hy e with k | k
    · exact I.ok.has _ (.inl k)
    · exact I.ok.has _ (.inr k)
  refine wpAny_comprehension_free (use := use) rfl hs (closure_ok hfree) ok.kind (fun y hy e => by rw [ok.uniq y hy, e])
    (thn (hi.run pins s σ H _ I h) fun xv s1 hx => thn hx fun itv s2 h2 => ?_)
  obtain ⟨it, fp, tn, J, H2, e, I2, T, st2, f2, q⟩ := h2
  subst e
  refine wpAny_newObj_type (newEnv_comp ?_)
  generalize hD : s2.heap.objs.size = D
  have hDn : H2 D = none := I2.hok.fresh (Nat.le_of_eq hD)
  obtain ⟨W, ⟨m0, w0⟩, turn⟩ := q D hDn
  -- the new list
  generalize hs3 : ({ s2 with heap := s2.heap.push { cls := .type "dict", data := .dict #[] } } : Shared) = s3
  have I3 : Inv X pins σ (upd H2 D (.dK [])) s3 := by
    rw [← hs3]
    refine I2.laid (t' := s2.toks) (fun b o e => Heap.get?_push_of_some _ e) (Nat.le_of_eq hD) ?_
    rw [← hD]
    exact dk_empty s2.heap I2.big
  have h3 : s3.heap = s2.heap.push { cls := .type "dict", data := .dict #[] } := by rw [← hs3]
  have sz : ∀ b ∈ fp, b < s2.heap.objs.size := fun b hb => by
    obtain ⟨o, e, _⟩ := T.obj _ _ st2 b hb
    exact Heap.lt_size e
  have f3 : ∀ b ∈ fp, FpOk X pins (upd H2 D (.dK [])) b ∧ b < s3.heap.objs.size := fun b hb => by
    have hlt := sz b hb
    refine ⟨⟨?_, (f2 b hb).2⟩, by rw [h3, Heap.size_push]; exact Nat.lt_succ_of_lt hlt⟩
    rw [upd_ne (by rw [← hD]; exact Nat.ne_of_lt hlt)]
    exact (f2 b hb).1
  have st3 : tn 0 s3.heap := T.keep _ _ _ st2 fun b _ o e => by rw [h3]; exact Heap.get?_push_of_some _ e
  have I4 := block_start I3 ok hN f3
  have pg := hg s3 (upd H2 D (.dK [])) s3.heap.objs.size (cellsFrom (s3.heap.objs.size + 1) scope.names (cloFrom X.env.cells scope.names [])) fp
  have pt := ht s3 (upd H2 D (.dK [])) s3.heap.objs.size (cellsFrom (s3.heap.objs.size + 1) scope.names (cloFrom X.env.cells scope.names [])) fp
  have pk := hk s3 (upd H2 D (.dK [])) s3.heap.objs.size (cellsFrom (s3.heap.objs.size + 1) scope.names (cloFrom X.env.cells scope.names [])) fp
  have pe := he s3 (upd H2 D (.dK [])) s3.heap.objs.size (cellsFrom (s3.heap.objs.size + 1) scope.names (cloFrom X.env.cells scope.names [])) fp
  have pi1 := hi1 s3 (upd H2 D (.dK [])) s3.heap.objs.size (cellsFrom (s3.heap.objs.size + 1) scope.names (cloFrom X.env.cells scope.names [])) fp
  have pg1 := hg1 s3 (upd H2 D (.dK [])) s3.heap.objs.size (cellsFrom (s3.heap.objs.size + 1) scope.names (cloFrom X.env.cells scope.names [])) fp
  have pt1 := ht1 s3 (upd H2 D (.dK [])) s3.heap.objs.size (cellsFrom (s3.heap.objs.size + 1) scope.names (cloFrom X.env.cells scope.names [])) fp
  show codeAny _ _ (.compStart (.DictComp kx vx [⟨tg, iter, ifs, 0⟩, ⟨tg1, iter1, ifs1, 0⟩] scope pos) 0 (.ref it) (.ref D) (compEnvC scope (cellsFrom (s3.heap.objs.size + 1) scope.names (cloFrom X.env.cells scope.names [])) s3.heap.objs.size X.env)) (compPost (model X.prog X.w) X.A X.xe use Qf (.ref D) s3.heap.objs.size) { s3 with heap := pushCells (s3.heap.push { cls := .type "dict", data := .dict #[] }) scope.names }
  have nfp : ∀ b ∈ fp, (upd H2 D (.dK [])) b = none := fun b hb => (f3 b hb).1.1
  generalize hce : compEnvC scope (cellsFrom (s3.heap.objs.size + 1) scope.names (cloFrom X.env.cells scope.names [])) s3.heap.objs.size X.env = ce at I4 pg pt pk pe pi1 pg1 pt1 ⊢
  have cL : ce.locals = s3.heap.objs.size := by subst hce; rfl
  generalize hH3 : upd H2 D (.dK []) = H3 at I3 I4 pg pt pk pe pi1 pg1 pt1 w0 nfp f3
  generalize hs4 : ({ s3 with heap := pushCells (s3.heap.push { cls := .type "dict", data := .dict #[] }) scope.names } : Shared) = s4 at I4 ⊢
  have st4 : tn 0 s4.heap := T.keep _ _ _ st3 fun b _ o e => by rw [← hs4]; exact pushCells_keeps _ _ _ _ (Heap.get?_push_of_some _ e)
  have stat : ∀ {σ' : L2.St} {H' : Hp} {s' : Shared}, Inv (X.blk s3 H3 scope ce fp) [] σ' H' s' → (∀ b ∈ fp, H' b = none) → ∀ b ∈ fp, FpOk (X.blk s3 H3 scope ce fp) [] H' b := fun {σ' H' s'} I' hn b hb =>
    ⟨hn b hb, (I'.ok.exf b hb).1, I'.ok.exfs b hb, .inl hb, fun x c e => (I'.ok.exf b hb).2 x c e, fun p hp => absurd (show p ∈ ([] : List (Addr × Obj)) ++ [] from hp) (by simp)⟩
  have loop : codeAny (model X.prog X.w) X.A (.compLoop (.DictComp kx vx [⟨tg, iter, ifs, 0⟩, ⟨tg1, iter1, ifs1, 0⟩] scope pos) 0 (.ref it) (.ref D) ce) (compPost (model X.prog X.w) X.A X.xe use Qf (.ref D) s3.heap.objs.size) s4 := by
    refine compLoopD2_out (hs1 ce) (fun n s' => ∃ i H', Inv (X.blk s3 H3 scope ce fp) [] (wipe σ (own.map (·.2))) H' s' ∧ tn i s'.heap ∧ (∀ b ∈ fp, H' b = none) ∧ W i n H') ?_ m0 ⟨0, H3, I4, st4, nfp, w0⟩
    rintro n s5 ⟨i, H5, I5, st5, n5, w5⟩
    rcases turn i n H5 w5 with ⟨stop, qq⟩ | ⟨go, Nx, hNx, step⟩
    · have td := T.done (X.blk s3 H3 scope ce fp) rfl rfl rfl hc i [] s5 _ H5 (fun _ _ => False) I5 (stat I5 n5) st5 stop
      refine thnF td fun r s6 ⟨hr, I6⟩ => ?_
      subst hr
      -- back in the def's context
      have I7 : Inv X pins σ H5 s6 := I3.call' (ch := fp) I6.os I6.base I6.hok I6.bare fun b hb => ⟨(f3 b hb).1.2.2.2.1, (f3 b hb).1.2.1, (f3 b hb).1.2.2.2.2.1, (f3 b hb).1.2.2.2.2.2⟩
      have nC : H5 s3.heap.objs.size = none := by
        have z : H5 ce.locals = none := I6.free
        rw [cL] at z
        exact z
      obtain ⟨m, hn, _⟩ := I6.loc
      have hn : s6.heap.Ns ce.locals m := hn
      rw [cL] at hn
      exact hRR D s3.heap.objs.size s6 m H5 I7 qq hn (I3.fpOk (Nat.le_refl _) nC)
    · have ti := T.item (X.blk s3 H3 scope ce fp) rfl rfl rfl hc i [] s5 _ H5 (fun _ _ => False) I5 (stat I5 n5) st5 go
      refine thnF ti fun r s6 ⟨u, hr, h6⟩ => ?_
      subst hr
      refine thnF h6 fun _ s7 ⟨x, H7, I7, r7, y7, st7, n7⟩ => ?_
      have I7' := I7.pinned (stat I7 n7) (T.obj _ _ st7)
      refine thnF (pg.run _ s7 _ H7 x u _ I7' r7 (step x H7 y7)) fun _ s8 ⟨σ8, H8, I8, hw8, q8⟩ => ?_
      refine thnF (pt.run _ s8 σ8 H8 _ I8 q8) fun b s9 ⟨H9, I9, q9⟩ => ?_
      -- the turn's end, from any slots that know what the block knew at its start
      have fin : ∀ {σ9 : L2.St} {s' : Shared} {H' : Hp}, Inv (X.blk s3 H3 scope ce fp) ([] ++ pinsAt fp s7.heap) σ9 H' s' → (wipe σ (own.map (·.2))).length = σ9.length → (∀ (j : Nat) v, (wipe σ (own.map (·.2)))[j]? = some (some v) → σ9[j]? = some (some v)) → Nx H' →
          ∃ m, m < n ∧ ∃ i H', Inv (X.blk s3 H3 scope ce fp) [] (wipe σ (own.map (·.2))) H' s' ∧ tn i s'.heap ∧ (∀ b ∈ fp, H' b = none) ∧ W i m H' := fun {σ9 s' H'} I' hl hk nx => by
        obtain ⟨m', hm, w'⟩ := hNx H' nx
        have pin' : ∀ b ∈ fp, ∀ o, s7.heap.get? b = some o → s'.heap.get? b = some o ∧ H' b = none := fun b hb o e =>
          let z := I'.pin (b, o) (List.mem_append_right _ (List.mem_append_right _ (mem_pinsAt hb e)))
          ⟨z.1, z.2.1⟩
        refine ⟨m', hm, i + 1, H', (I'.unpinned (pins := [])).weak hl hk, T.keep _ _ _ st7 fun b hb o e => (pin' b hb o e).1, fun b hb => ?_, w'⟩
        obtain ⟨o, e, _⟩ := T.obj _ _ st7 b hb
        exact (pin' b hb o e).2
      have hl8 : (wipe σ (own.map (·.2))).length = σ8.length := by rw [← hw8, wipe_length]
      have hk8 : ∀ (j : Nat) v, (wipe σ (own.map (·.2)))[j]? = some (some v) → σ8[j]? = some (some v) := fun j v e => by
        rw [← hw8] at e
        exact (wipe_some e).1
      have hk9 : ∀ (j : Nat) v, (wipe σ (own.map (·.2)))[j]? = some (some v) → (wipe σ8 vs1)[j]? = some (some v) := fun j v e => by
        rw [← hw8] at e
        obtain ⟨e1, e2⟩ := wipe_some e
        rw [wipe_out fun z => e2 (hv j z)]
        exact e1
      cases b with
      | false =>
        simp only [Bool.false_eq_true, if_false] at q9 ⊢
        exact fin I9 hl8 hk8 q9
      | true =>
        simp only [if_true] at q9 ⊢
        refine thnF (pi1.run _ s9 σ8 H9 _ I9 q9) fun xv s10 hx => thnF hx fun itv s11 h11 => ?_
        obtain ⟨it1, fp1, tn1, J1, H11, e1, I11, T1, st11, f11, W1, ⟨m1, w1⟩, turn1⟩ := h11
        subst e1
        -- the inner loop
        have stat1 : ∀ {H' : Hp}, (∀ b ∈ fp1, H' b = none) → ∀ b ∈ fp1, FpOk (X.blk s3 H3 scope ce fp) ([] ++ pinsAt fp s7.heap) H' b := fun hn b hb => ⟨hn b hb, (f11 b hb).2⟩
        have loop1 : codeAny (model X.prog X.w) X.A (.compLoop (.DictComp kx vx [⟨tg, iter, ifs, 0⟩, ⟨tg1, iter1, ifs1, 0⟩] scope pos) 1 (.ref it1) (.ref D) ce)
            (fun r s' => match r with
              | .ok _ => ∃ m, m < n ∧ ∃ i H', Inv (X.blk s3 H3 scope ce fp) [] (wipe σ (own.map (·.2))) H' s' ∧ tn i s'.heap ∧ (∀ b ∈ fp, H' b = none) ∧ W i m H'
              | .error _ => False) s11 := by
          refine compLoopD2_in (fun k s' => ∃ j H', Inv (X.blk s3 H3 scope ce fp) ([] ++ pinsAt fp s7.heap) (wipe σ8 vs1) H' s' ∧ tn1 j s'.heap ∧ (∀ b ∈ fp1, H' b = none) ∧ W1 j k H') ?_ m1 ⟨0, H11, I11.weak (wipe_length _ _) (fun j v e => (wipe_some e).1), st11, fun b hb => (f11 b hb).1, w1⟩
          rintro k s12 ⟨j, H12, I12, st12, n12, w12⟩
          rcases turn1 j k H12 w12 with ⟨stop1, nx1⟩ | ⟨go1, Nx1, hNx1, step1⟩
          · refine thnF (T1.done (X.blk s3 H3 scope ce fp) rfl rfl rfl hc j _ s12 (wipe σ8 vs1) H12 (fun _ _ => False) I12 (stat1 n12) st12 stop1) fun r s13 ⟨hr, I13⟩ => ?_
            subst hr
            exact fin I13 (hl8.trans (wipe_length σ8 vs1).symm) hk9 nx1
          · refine thnF (T1.item (X.blk s3 H3 scope ce fp) rfl rfl rfl hc j _ s12 (wipe σ8 vs1) H12 (fun _ _ => False) I12 (stat1 n12) st12 go1) fun r s13 ⟨u1, hr, h13⟩ => ?_
            subst hr
            refine thnF h13 fun _ s14 ⟨x1, H14, I14, r14, y14, st14, n14⟩ => ?_
            have I14' := I14.pinned (stat1 n14) (T1.obj _ _ st14)
            refine thnF (pg1.run _ s14 (wipe σ8 vs1) H14 x1 u1 _ I14' r14 (step1 x1 H14 y14)) fun _ s15 ⟨σ15, H15, I15, hw15, q15⟩ => ?_
            refine thnF (pt1.run _ s15 σ15 H15 _ I15 q15) fun b1 s16 ⟨H16, I16, q16⟩ => ?_
            have fin1 : ∀ {s' : Shared} {H' : Hp}, Inv (X.blk s3 H3 scope ce fp) (([] ++ pinsAt fp s7.heap) ++ pinsAt fp1 s14.heap) σ15 H' s' → Nx1 H' → ∃ m, m < k ∧ ∃ j H', Inv (X.blk s3 H3 scope ce fp) ([] ++ pinsAt fp s7.heap) (wipe σ8 vs1) H' s' ∧ tn1 j s'.heap ∧ (∀ b ∈ fp1, H' b = none) ∧ W1 j m H' := fun {s' H'} I' nx => by
              obtain ⟨m', hm, w'⟩ := hNx1 H' nx
              have pin' : ∀ b ∈ fp1, ∀ o, s14.heap.get? b = some o → s'.heap.get? b = some o ∧ H' b = none := fun b hb o e =>
                let z := I'.pin (b, o) (List.mem_append_right _ (List.mem_append_right _ (mem_pinsAt hb e)))
                ⟨z.1, z.2.1⟩
              refine ⟨m', hm, j + 1, H', I'.unpinned.weak (by rw [← hw15, wipe_length]) (fun j v e => by rw [← hw15] at e; exact (wipe_some e).1), T1.keep _ _ _ st14 fun b hb o e => (pin' b hb o e).1, fun b hb => ?_, w'⟩
              obtain ⟨o, e, _⟩ := T1.obj _ _ st14 b hb
              exact (pin' b hb o e).2
            cases b1 with
            | false =>
              simp only [Bool.false_eq_true, if_false] at q16 ⊢
              exact fin1 I16 q16
            | true =>
              simp only [if_true] at q16 ⊢
              refine thnF (pk.run _ s16 σ15 H16 _ I16 q16) fun z s17 ⟨yk, H17, I17, r17, q17⟩ => ?_
              refine thnF (pe.run _ s17 σ15 H17 _ I17 q17) fun z2 s18 ⟨yv, H18, I18, r18, kvs, kk, ek, hD18, hz18, nx⟩ => ?_
              subst ek
              exact d_dictSet (X := X.blk s3 H3 scope ce fp) I18 hD18 hz18 r17 r18 fun s19 I19 => fin1 I19 nx
        exact compStartD1_ok loop1 (T1.self X.A 0 _ _ _ st11 loop1)
  exact codeAny_compStart_dict loop (T.self X.A 0 _ _ _ st4 loop)
/-- as a value -/
theorem pe_dc2 {kx vx tg iter tg1 iter1 : Expr} {ifs ifs1 : List Expr} {scope : Scope} {own : List (Str × Nat)} {vs1 : List Nat} {pos : Pos} {wi wi1 : TI} {g g1 : TG} {tt tt1 : TT} {tk tv : TE} (hc : X.calm = true) (hN : X.N.Nodup) (hi : PI X tg iter wi) (ok : BlkOk X.N X.env.scope scope own) (hv : ∀ i ∈ vs1, i ∈ own.map (·.2))
    (hg : ∀ (s : Shared) (H : Hp) (C : Addr) (cl : List (Str × Addr)) (fp : List Addr), PG (X.blk s H scope (compEnvC scope cl C X.env) fp) tg g) (ht : ∀ (s : Shared) (H : Hp) (C : Addr) (cl : List (Str × Addr)) (fp : List Addr), PTs (X.blk s H scope (compEnvC scope cl C X.env) fp) ifs tt)
    (hi1 : ∀ (s : Shared) (H : Hp) (C : Addr) (cl : List (Str × Addr)) (fp : List Addr), PI (X.blk s H scope (compEnvC scope cl C X.env) fp) tg1 iter1 wi1)
    (hg1 : ∀ (s : Shared) (H : Hp) (C : Addr) (cl : List (Str × Addr)) (fp : List Addr), PG (X.blk s H scope (compEnvC scope cl C X.env) fp) tg1 g1) (ht1 : ∀ (s : Shared) (H : Hp) (C : Addr) (cl : List (Str × Addr)) (fp : List Addr), PTs (X.blk s H scope (compEnvC scope cl C X.env) fp) ifs1 tt1)
    (hk : ∀ (s : Shared) (H : Hp) (C : Addr) (cl : List (Str × Addr)) (fp : List Addr), PE (X.blk s H scope (compEnvC scope cl C X.env) fp) kx tk) (he : ∀ (s : Shared) (H : Hp) (C : Addr) (cl : List (Str × Addr)) (fp : List Addr), PE (X.blk s H scope (compEnvC scope cl C X.env) fp) vx tv) (hs : ∀ x, foldedSetIterable iter X.env x = pure x := by intro _; rfl) (hs1 : ∀ env x, foldedSetIterable iter1 env x = pure x := by intro _ _; rfl) :
    PE X (.DictComp kx vx [⟨tg, iter, ifs, 0⟩, ⟨tg1, iter1, ifs1, 0⟩] scope pos) (tDc2 wi g tt wi1 g1 tt1 tk tv (own.map (·.2)) vs1) := by
  refine ⟨fun pins s σ H Q I h => ?_⟩
  rw [arm_eval_DictComp]
  refine dc2_core hc hN I hi ok hv hg ht hk he hs hi1 hg1 ht1 hs1 h fun D C s' m H' I' q hn f => ⟨m, hn, fun h'' sb => ?_⟩
  obtain ⟨f0, f1, f2, f3, f4, f5⟩ := f
  exact ⟨.ref D, H', I'.turned (t' := s'.toks) (fun b o hb e => (sb.2 b hb).trans e) f0 f1 f3 f4 f5, rfl, q⟩
end
end FtR
/-! set comprehensions of ints (after HandS.SetBool's of truth values), enumerate over a tuple, truth and equality of own classes -/
namespace FtR
open PySem PySem.Spec PyProof.Rows L2 PpSet
section
variable {X : Cx}
/-- set.add of an int in a block -/
theorem addI_ok {pins : List (Addr × Obj)} {σ : L2.St} {H : Hp} {s : Shared} {E : Value → Shared → Prop} {D : Addr} {S : Int → Bool} {n : Nat} {y : Int} {tk : Tok} {Q : Value → Shared → Prop} (I : Inv X pins σ H s) (hD : H D = some (SetO X.w D S n)) (room : n + 1 < scanBound)
    (h : ∀ s', Inv X pins σ (upd H D (SetO X.w D (fun j => S j || decide (j = y)) (if S y = true then n else n + 1))) s' → Q .none s') : wpAny (model X.prog X.w) X.A (call (.builtin "set.add") [.ref D, .int y tk]) Q E s := by
  have R := setO_get I hD
  refine setR_add R room fun h' sb new => ?_
  have he : ∃ u, h'.get? D = some u := let ⟨o, _, _, _, ho, _⟩ := new; ⟨o, ho⟩
  exact h _ (I.write (e := D) (t' := s.toks + 1) (by rw [hD]; trivial) (.inl rfl) (fun b u hb hu => (sb.2 b hb).trans hu) he (setO_new new))
def tScI (w : World) (wi : TI) (g : TG) (tt : TT) (te : TE) (vs : List Nat) : TE := fun σ H Q => wi σ H fun J H1 => ∀ D, H1 D = none → ∃ W : Nat → Nat → Hp → Prop, (∃ m, W 0 m (upd H1 D (SetO w D (fun _ => false) 0))) ∧ ∀ i m H, W i m H →
  (J.stop i H ∧ Q (.ref D) H) ∨ (J.go i H ∧ ∃ Nx : Hp → Prop, (∀ H', Nx H' → ∃ m', m' < m ∧ W (i + 1) m' H') ∧ ∀ x H', J.yld i H x H' → g x (wipe σ vs) H' fun σ2 H2 => wipe σ2 vs = wipe σ vs ∧ tt σ2 H2 fun b H3 =>
    if b = true then te σ2 H3 fun y H4 => ∃ (c : Int) (S : Int → Bool) (n : Nat), y = .int c ∧ H4 D = some (SetO w D S n) ∧ n + 1 < scanBound ∧ Nx (upd H4 D (SetO w D (fun j => S j || decide (j = c)) (if S c = true then n else n + 1))) else Nx H3)
theorem scI_core {pins : List (Addr × Obj)} {s : Shared} {σ : L2.St} {H : Hp} {Q : VK} {elt tg iter : Expr} {ifs : List Expr} {scope : Scope} {own : List (PySem.Str × Nat)} {pos pos' : Pos} {wi : TI} {g : TG} {tt : TT} {te : TE} {use : Option (Value → Sem Unit)} {Qf : Value → Shared → Prop}
    (hc : X.calm = true) (hN : X.N.Nodup) (I : Inv X pins σ H s) (hi : PI X tg iter wi) (ok : BlkOk X.N X.env.scope scope own)
    (hg : ∀ (s : Shared) (H : Hp) (C : Addr) (cl : List (PySem.Str × Addr)) (fp : List Addr), PG (X.blk s H scope (compEnvC scope cl C X.env) fp) tg g) (ht : ∀ (s : Shared) (H : Hp) (C : Addr) (cl : List (PySem.Str × Addr)) (fp : List Addr), PTs (X.blk s H scope (compEnvC scope cl C X.env) fp) ifs tt)
    (he : ∀ (s : Shared) (H : Hp) (C : Addr) (cl : List (PySem.Str × Addr)) (fp : List Addr), PE (X.blk s H scope (compEnvC scope cl C X.env) fp) elt te) (hs : ∀ x, foldedSetIterable iter X.env x = pure x)
    (h : tScI X.w wi g tt te (own.map (·.2)) σ H Q)
    (hRR : ∀ D C s' m H', Inv X pins σ H' s' → Q (.ref D) H' → s'.heap.Ns C m → FpOk X pins H' C → compPost (model X.prog X.w) X.A X.xe use Qf (.ref D) C (.ok .next) s') :
    wpAny (model X.prog X.w) X.A (comprehension (.SetComp elt [⟨tg, iter, ifs, 0⟩] scope pos) scope X.env pos' (newSet (.type "set")) false (eval iter X.env) use) Qf X.xe s := by
  have hfree : ∀ y ∈ scope.names, y.2 = .free → ∃ c, X.env.cells.lookup y.1 = some c := fun y hy e => by
    rcases ok.free y hy e with k | k
    · exact I.ok.has _ (.inl k)
    · exact I.ok.has _ (.inr k)
  refine wpAny_comprehension_free (use := use) rfl hs (closure_ok hfree) ok.kind (fun y hy e => by rw [ok.uniq y hy, e])
    (thn (hi.run pins s σ H _ I h) fun xv s1 hx => thn hx fun itv s2 h2 => ?_)
  obtain ⟨it, fp, tn, J, H2, e, I2, T, st2, f2, q⟩ := h2
  subst e
  refine newSet_ok (newEnv_comp ?_)
  generalize hD : s2.heap.objs.size = D
  have hDn : H2 D = none := I2.hok.fresh (Nat.le_of_eq hD)
  obtain ⟨W, ⟨m0, w0⟩, turn⟩ := q D hDn
  -- the new list
  generalize hs3 : ({ s2 with heap := s2.heap.push { cls := .type "set", dict := none, data := .set #[] 0 (.fresh 0 0 (!X.w.params.followText "set-order")) } } : Shared) = s3
  have I3 : Inv X pins σ (upd H2 D (SetO X.w D (fun _ => false) 0)) s3 := by
    rw [← hs3]
    refine I2.laid (t' := s2.toks) (fun b o e => Heap.get?_push_of_some _ e) (Nat.le_of_eq hD) ?_
    rw [← hD]
    exact setO_new (setR_fresh X.w)
  have h3 : s3.heap = s2.heap.push { cls := .type "set", dict := none, data := .set #[] 0 (.fresh 0 0 (!X.w.params.followText "set-order")) } := by rw [← hs3]
  have sz : ∀ b ∈ fp, b < s2.heap.objs.size := fun b hb => by
    obtain ⟨o, e, _⟩ := T.obj _ _ st2 b hb
    exact Heap.lt_size e
  have f3 : ∀ b ∈ fp, FpOk X pins (upd H2 D (SetO X.w D (fun _ => false) 0)) b ∧ b < s3.heap.objs.size := fun b hb => by
    have hlt := sz b hb
    refine ⟨⟨?_, (f2 b hb).2⟩, by rw [h3, Heap.size_push]; exact Nat.lt_succ_of_lt hlt⟩
    rw [upd_ne (by rw [← hD]; exact Nat.ne_of_lt hlt)]
    exact (f2 b hb).1
  have st3 : tn 0 s3.heap := T.keep _ _ _ st2 fun b _ o e => by rw [h3]; exact Heap.get?_push_of_some _ e
  have I4 := block_start I3 ok hN f3
  have pg := hg s3 (upd H2 D (SetO X.w D (fun _ => false) 0)) s3.heap.objs.size (cellsFrom (s3.heap.objs.size + 1) scope.names (cloFrom X.env.cells scope.names [])) fp
  have pt := ht s3 (upd H2 D (SetO X.w D (fun _ => false) 0)) s3.heap.objs.size (cellsFrom (s3.heap.objs.size + 1) scope.names (cloFrom X.env.cells scope.names [])) fp
  have pe := he s3 (upd H2 D (SetO X.w D (fun _ => false) 0)) s3.heap.objs.size (cellsFrom (s3.heap.objs.size + 1) scope.names (cloFrom X.env.cells scope.names [])) fp
  show codeAny _ _ (.compStart (.SetComp elt [⟨tg, iter, ifs, 0⟩] scope pos) 0 (.ref it) (.ref D) (compEnvC scope (cellsFrom (s3.heap.objs.size + 1) scope.names (cloFrom X.env.cells scope.names [])) s3.heap.objs.size X.env)) (compPost (model X.prog X.w) X.A X.xe use Qf (.ref D) s3.heap.objs.size) { s3 with heap := pushCells (s3.heap.push { cls := .type "dict", data := .dict #[] }) scope.names }
  have nfp : ∀ b ∈ fp, (upd H2 D (SetO X.w D (fun _ => false) 0)) b = none := fun b hb => (f3 b hb).1.1
  generalize hce : compEnvC scope (cellsFrom (s3.heap.objs.size + 1) scope.names (cloFrom X.env.cells scope.names [])) s3.heap.objs.size X.env = ce at I4 pg pt pe ⊢
  have cL : ce.locals = s3.heap.objs.size := by subst hce; rfl
  generalize hH3 : upd H2 D (SetO X.w D (fun _ => false) 0) = H3 at I3 I4 pg pt pe w0 nfp f3
  generalize hs4 : ({ s3 with heap := pushCells (s3.heap.push { cls := .type "dict", data := .dict #[] }) scope.names } : Shared) = s4 at I4 ⊢
  have st4 : tn 0 s4.heap := T.keep _ _ _ st3 fun b _ o e => by rw [← hs4]; exact pushCells_keeps _ _ _ _ (Heap.get?_push_of_some _ e)
  have stat : ∀ {σ' : L2.St} {H' : Hp} {s' : Shared}, Inv (X.blk s3 H3 scope ce fp) [] σ' H' s' → (∀ b ∈ fp, H' b = none) → ∀ b ∈ fp, FpOk (X.blk s3 H3 scope ce fp) [] H' b := fun {σ' H' s'} I' hn b hb =>
    ⟨hn b hb, (I'.ok.exf b hb).1, I'.ok.exfs b hb, .inl hb, fun x c e => (I'.ok.exf b hb).2 x c e, fun p hp => absurd (show p ∈ ([] : List (Addr × Obj)) ++ [] from hp) (by simp)⟩
  have loop : codeAny (model X.prog X.w) X.A (.compLoop (.SetComp elt [⟨tg, iter, ifs, 0⟩] scope pos) 0 (.ref it) (.ref D) ce) (compPost (model X.prog X.w) X.A X.xe use Qf (.ref D) s3.heap.objs.size) s4 := by
    refine compLoopS_any (fun n s' => ∃ i H', Inv (X.blk s3 H3 scope ce fp) [] (wipe σ (own.map (·.2))) H' s' ∧ tn i s'.heap ∧ (∀ b ∈ fp, H' b = none) ∧ W i n H') ?_ m0 ⟨0, H3, I4, st4, nfp, w0⟩
    rintro n s5 ⟨i, H5, I5, st5, n5, w5⟩
    rcases turn i n H5 w5 with ⟨stop, qq⟩ | ⟨go, Nx, hNx, step⟩
    · have td := T.done (X.blk s3 H3 scope ce fp) rfl rfl rfl hc i [] s5 _ H5 (fun _ _ => False) I5 (stat I5 n5) st5 stop
      refine thnF td fun r s6 ⟨hr, I6⟩ => ?_
      subst hr
      -- back in the def's context
      have I7 : Inv X pins σ H5 s6 := I3.call' (ch := fp) I6.os I6.base I6.hok I6.bare fun b hb => ⟨(f3 b hb).1.2.2.2.1, (f3 b hb).1.2.1, (f3 b hb).1.2.2.2.2.1, (f3 b hb).1.2.2.2.2.2⟩
      have nC : H5 s3.heap.objs.size = none := by
        have z : H5 ce.locals = none := I6.free
        rw [cL] at z
        exact z
      obtain ⟨m, hn, _⟩ := I6.loc
      have hn : s6.heap.Ns ce.locals m := hn
      rw [cL] at hn
      exact hRR D s3.heap.objs.size s6 m H5 I7 qq hn (I3.fpOk (Nat.le_refl _) nC)
    · have ti := T.item (X.blk s3 H3 scope ce fp) rfl rfl rfl hc i [] s5 _ H5 (fun _ _ => False) I5 (stat I5 n5) st5 go
      refine thnF ti fun r s6 ⟨u, hr, h6⟩ => ?_
      subst hr
      refine thnF h6 fun _ s7 ⟨x, H7, I7, r7, y7, st7, n7⟩ => ?_
      have I7' := I7.pinned (stat I7 n7) (T.obj _ _ st7)
      refine thnF (pg.run _ s7 _ H7 x u _ I7' r7 (step x H7 y7)) fun _ s8 ⟨σ8, H8, I8, hw8, q8⟩ => ?_
      refine thnF (pt.run _ s8 σ8 H8 _ I8 q8) fun b s9 ⟨H9, I9, q9⟩ => ?_
      -- the turn's end
      have fin : ∀ {s' : Shared} {H' : Hp}, Inv (X.blk s3 H3 scope ce fp) ([] ++ pinsAt fp s7.heap) σ8 H' s' → Nx H' → ∃ m, m < n ∧ ∃ i H', Inv (X.blk s3 H3 scope ce fp) [] (wipe σ (own.map (·.2))) H' s' ∧ tn i s'.heap ∧ (∀ b ∈ fp, H' b = none) ∧ W i m H' := fun {s' H'} I' nx => by
        obtain ⟨m', hm, w'⟩ := hNx H' nx
        have pin' : ∀ b ∈ fp, ∀ o, s7.heap.get? b = some o → s'.heap.get? b = some o ∧ H' b = none := fun b hb o e =>
          let z := I'.pin (b, o) (List.mem_append_right _ (List.mem_append_right _ (mem_pinsAt hb e)))
          ⟨z.1, z.2.1⟩
        have hl : (wipe σ (own.map (·.2))).length = σ8.length := by rw [← hw8, wipe_length]
        refine ⟨m', hm, i + 1, H', (I'.unpinned (pins := [])).weak hl (fun j v e => ?_), T.keep _ _ _ st7 fun b hb o e => (pin' b hb o e).1, fun b hb => ?_, w'⟩
        · rw [← hw8] at e
          exact (wipe_some e).1
        · obtain ⟨o, e, _⟩ := T.obj _ _ st7 b hb
          exact (pin' b hb o e).2
      cases b with
      | false =>
        simp only [Bool.false_eq_true, if_false] at q9 ⊢
        exact fin I9 q9
      | true =>
        simp only [if_true] at q9 ⊢
        refine thnF (pe.run _ s9 σ8 H9 _ I9 q9) fun z s10 ⟨yv, H10, I10, r10, cb, S0, n0, ey, hD10, hz10, nx⟩ => ?_
        subst ey
        obtain ⟨tk, rfl⟩ := r10
        exact addI_ok (X := X.blk s3 H3 scope ce fp) I10 hD10 hz10 fun s11 I11 => fin I11 nx
  exact codeAny_compStart_set loop (T.self X.A 0 _ _ _ st4 loop)
/-- as a value -/
theorem pe_scI {elt tg iter : Expr} {ifs : List Expr} {scope : Scope} {own : List (PySem.Str × Nat)} {pos : Pos} {wi : TI} {g : TG} {tt : TT} {te : TE} (hc : X.calm = true) (hN : X.N.Nodup) (hi : PI X tg iter wi) (ok : BlkOk X.N X.env.scope scope own)
    (hg : ∀ (s : Shared) (H : Hp) (C : Addr) (cl : List (PySem.Str × Addr)) (fp : List Addr), PG (X.blk s H scope (compEnvC scope cl C X.env) fp) tg g) (ht : ∀ (s : Shared) (H : Hp) (C : Addr) (cl : List (PySem.Str × Addr)) (fp : List Addr), PTs (X.blk s H scope (compEnvC scope cl C X.env) fp) ifs tt)
    (he : ∀ (s : Shared) (H : Hp) (C : Addr) (cl : List (PySem.Str × Addr)) (fp : List Addr), PE (X.blk s H scope (compEnvC scope cl C X.env) fp) elt te) (hs : ∀ x, foldedSetIterable iter X.env x = pure x := by intro _; rfl) :
    PE X (.SetComp elt [⟨tg, iter, ifs, 0⟩] scope pos) (tScI X.w wi g tt te (own.map (·.2))) := by
  refine ⟨fun pins s σ H Q I h => ?_⟩
  rw [eval_SetComp]
  refine scI_core hc hN I hi ok hg ht he hs h fun D C s' m H' I' q hn f => ⟨m, hn, fun h'' sb => ?_⟩
  obtain ⟨f0, f1, f2, f3, f4, f5⟩ := f
  exact ⟨.ref D, H', I'.turned (t' := s'.toks) (fun b o hb e => (sb.2 b hb).trans e) f0 f1 f3 f4 f5, rfl, q⟩
/-- a set comprehension over a tuple that stays: the members -/
theorem scI_tup {w : World} {K : PySem.W.Frag} {a : Addr} {xs : List V} {g : TG} {tt : TT} {te : TE} {vs : List Nat} {σ : L2.St} {H1 : Hp} {D : Addr} {Qd : Hp → Prop} (Pv : Nat → Hp → Prop) (h0 : Pv 0 (upd H1 D (SetO w D (fun _ => false) 0))) (hl : ∀ i H, i ≤ xs.length → Pv i H → SqT K H a xs)
    (hs : ∀ i x H, xs[i]? = some x → Pv i H → g x (wipe σ vs) H fun σ2 H2 => wipe σ2 vs = wipe σ vs ∧ tt σ2 H2 fun b H3 =>
      if b = true then te σ2 H3 fun y H4 => ∃ (c : Int) (S : Int → Bool) (n : Nat), y = .int c ∧ H4 D = some (SetO w D S n) ∧ n + 1 < scanBound ∧ Pv (i + 1) (upd H4 D (SetO w D (fun j => S j || decide (j = c)) (if S c = true then n else n + 1))) else Pv (i + 1) H3) (hd : ∀ H, Pv xs.length H → Qd H) :
    ∃ W : Nat → Nat → Hp → Prop, (∃ m, W 0 m (upd H1 D (SetO w D (fun _ => false) 0))) ∧ ∀ i m H, W i m H →
      ((Itt K a).stop i H ∧ Qd H) ∨ ((Itt K a).go i H ∧ ∃ Nx : Hp → Prop, (∀ H', Nx H' → ∃ m', m' < m ∧ W (i + 1) m' H') ∧ ∀ x H', (Itt K a).yld i H x H' → g x (wipe σ vs) H' fun σ2 H2 => wipe σ2 vs = wipe σ vs ∧ tt σ2 H2 fun b H3 =>
        if b = true then te σ2 H3 fun y H4 => ∃ (c : Int) (S : Int → Bool) (n : Nat), y = .int c ∧ H4 D = some (SetO w D S n) ∧ n + 1 < scanBound ∧ Nx (upd H4 D (SetO w D (fun j => S j || decide (j = c)) (if S c = true then n else n + 1))) else Nx H3) := by
  refine ⟨fun i m H => m = xs.length - i ∧ i ≤ xs.length ∧ Pv i H, ⟨xs.length, by simp, Nat.zero_le _, h0⟩, ?_⟩
  rintro i m H ⟨rfl, hi, p⟩
  have q := hl i H hi p
  rcases Nat.lt_or_ge i xs.length with hlt | hge
  · refine .inr ⟨⟨xs, xs[i], q, by simp [hlt]⟩, Pv (i + 1), fun H' p' => ⟨xs.length - (i + 1), by omega, rfl, hlt, p'⟩, fun x H' ⟨e, y⟩ => ?_⟩
    subst e
    exact hs i x _ (y xs q) p
  · have e : i = xs.length := by omega
    subst e
    exact .inl ⟨⟨xs, q, Nat.le_refl _⟩, hd H p⟩
end

/-! ### enumerate over a tuple -/
section
variable {prog : Program} {w : World} {A : Around} {E : Value → Shared → Prop} {s : Shared}
open AutoSeq1 (wpAny_loadPart')
theorem meets_enum_newT (l : Addr) (items : Array Value) (n : Nat) (dct : Option Addr) (sl : Array (Option Value)) :
    Meets (Builtin.«enumerate.__new__» ⟨[.type "enumerate", .ref l], []⟩) (fun _ R s => s.heap.get? l = some { cls := .type "tuple", dict := dct, data := .seq items n, slots := sl } ∧
      R (.ok (.ret (.ref (s.heap.push { cls := .type "tuple_iterator", data := .fields #[.ref l, .int 0 0] }).objs.size)))
        { s with heap := (s.heap.push { cls := .type "tuple_iterator", data := .fields #[.ref l, .int 0 0] }).push { cls := .type "enumerate", data := .fields #[.none, .bool false, .ref s.heap.objs.size, rawInt 0, .none, .none] } }) :=
  .of_wp fun prog w A R s h => by
    obtain ⟨hp, g, d, tk, os⟩ := s; obtain ⟨hl, h⟩ := h
    have hsub := sub_enumerate
    have hL : Heap.IsTuple (Shared.heap ⟨hp, g, d, tk, os⟩) l items := ⟨_, hl, rfl, n, rfl⟩
    wp_walk using wpAny_loadPart' hl
    refine wpAny_stack_any fun st => wpAny_pure ?_
    split
    · rename_i c _ _ _ _ _
      cases (c == Value.type "enumerate")
      · wp_walk using wpAny_loadPart' hl, wpAny_pyIter_tuple hL
        exact ⟨_, rfl, h⟩
      · wp_walk using wpAny_loadPart' hl, wpAny_pyIter_tuple hL
        exact ⟨_, rfl, h⟩
    · wp_walk using wpAny_loadPart' hl, wpAny_pyIter_tuple hL
      exact ⟨_, rfl, h⟩
end
end FtR
/-! tables, rows: what the other texts share -/
namespace FtM
section
variable {κ α : Type} [DecidableEq κ]
def getA (kvs : List (κ × α)) (k : κ) : Option α := (kvs.find? fun kv => decide (kv.1 = k)).map (·.2)
def putA (kvs : List (κ × α)) (k : κ) (v : α) : List (κ × α) := if (kvs.any fun kv => decide (kv.1 = k)) = true then kvs.map (fun kv => if kv.1 = k then (kv.1, v) else kv) else kvs ++ [(k, v)]
end
/-- r comes ahead of t -/
def ltR : List Int → List Int → Bool
  | _, [] => false
  | [], _ :: _ => true
  | i :: r, j :: t => if i = j then ltR r t else decide (i < j)
def minR : List (List Int) → List Int
  | [] => []
  | y :: ys => ys.foldl (fun a y => if ltR y a = true then y else a) y
end FtM
/-! rules of our own over the hand layer -/
namespace FtR
open PySem PySem.Spec PyProof.Rows L2 PySem.W

/-! ### data -/
theorem fm_congr {α β : Type} {f g : α → Option β} : ∀ {l : List α}, (∀ a ∈ l, f a = g a) → l.filterMap f = l.filterMap g
  | [], _ => rfl
  | a :: l, h => by
    rw [List.filterMap_cons, List.filterMap_cons, h a List.mem_cons_self, fm_congr fun b hb => h b (List.mem_cons_of_mem _ hb)]

section
variable {X : Cx}
/-- max(a, b, c) of ints -/
theorem call_max3 (hc : X.calm = true) : CallR X (.builtin "max") (fun xs H Q => ∃ i j k, xs = [.int i, .int j, .int k] ∧ Q (.int (max (max i j) k)) H) := by
  intro pins s σ H xs us Q I r h
  obtain ⟨i, j, k, rfl, q⟩ := h
  obtain ⟨u1, u2, u3, rfl, ⟨t, rfl⟩, ⟨t', rfl⟩, ⟨t'', rfl⟩⟩ : ∃ u1 u2 u3, us = [u1, u2, u3] ∧ RelV (.int i) u1 ∧ RelV (.int j) u2 ∧ RelV (.int k) u3 := by
    cases r with
    | cons p r => cases r with
      | cons p' r => cases r with
        | cons p'' r => cases r; exact ⟨_, _, _, rfl, p, p', p''⟩
  refine max_three_ints (I.ok.hd hc) fun h' tk kk => ⟨_, H, I.kept kk, ?_, q⟩
  split
  · split
    · exact ⟨_, by rw [show max (max i j) k = k by omega]⟩
    · exact ⟨_, by rw [show max (max i j) k = j by omega]⟩
  · split
    · exact ⟨_, by rw [show max (max i j) k = k by omega]⟩
    · exact ⟨_, by rw [show max (max i j) k = i by omega]⟩

/-- xs[i] by values, for xs[i] op= e; i from 0 on -/
def rGetL (K : PySem.W.Frag) : V → V → Hp → VK → Prop := fun o i H Q => ∃ p xs k v, o = .ref p ∧ i = .int k ∧ SqL K H p xs ∧ 0 ≤ k ∧ xs[k.toNat]? = some v ∧ Q v H
theorem get_list : PGet X (rGetL X.K) := by
  intro pins s σ H o i ov iv Q I ro ri h
  obtain ⟨p, xs, k, v, rfl, rfl, hs, h0, ha, q⟩ := h
  cases ro
  obtain ⟨t, rfl⟩ := ri
  obtain ⟨its, r, pl, hz⟩ := I.list hs
  obtain ⟨u, hu, ru⟩ := r.get ha
  have hl := (List.getElem?_eq_some_iff.mp ha).1
  have hn := line63
  exact wpAny_getItem_list pl.isList h0 (by omega) (x := u) (by simpa using hu) ⟨v, H, I, ru, q⟩

/-- t[::-1], t a tuple -/
theorem getItem_tuple_rev {prog : Program} {w : World} {A : Around} {E : Value → Shared → Prop} {s : Shared} {t sl : Addr} {items : Array Value} {vl vu vs : Value} {Q : Value → Shared → Prop} (ht : IsTup s.heap t items) (hs : s.heap.IsSliceOf sl vl vu vs) (pl : IsPart vl none) (pu : IsPart vu none) (ps : IsPart vs (some (-1)))
    (h : Q (.ref s.heap.objs.size) { s with heap := s.heap.push { cls := .type "tuple", data := .seq items.toList.reverse.toArray } }) (hsz : items.size ≤ sizeLine) : wpAny (model prog w) A (getItem (.ref t) (.ref sl)) Q E s := by
  have hsz2 : sizeOk (.seq items.toList.reverse.toArray) := by
    show items.toList.reverse.toArray.size ≤ sizeLine
    rw [List.size_toArray, List.length_reverse, Array.length_toList]
    exact hsz
  obtain ⟨os, hos, hcs, hds⟩ := id hs
  have hTs : s.TypeIs (.ref sl) "slice" := ⟨os, hos, hcs⟩
  unfold getItem
  try with_reducible refine wpAny_holding ?_
  first | refine wpAny_bind (wpAny_pure ?_) | skip
  refine wpAny_bind (wpAny_sequenceKey ht.typeIs (by decide) ?_)
  refine wpAny_bind (wpAny_callSpecial?_slot (name := Str.ofString "__getitem__") ht.typeIs PyProof.Rows.slot_tuple_getitem
    (wpAny_call_entry PyProof.Rows.slot_tuple_getitem ht.typeIs PyProof.Rows.entry_tuple_getitem ?_ (PyProof.Rows.args_tuple_getitem _ _)))
  show wpAny _ _ (Builtin.Tuple.tupleItemsOf (.ref t) >>= _) _ _ s
  refine wpAny_bind (tupleItemsOf_ ht ?_)
  refine wpAny_bind (wpAny_typeOf hTs ?_)
  rw [if_pos (by decide)]
  have hap : ∀ (Q : Int × Int × Nat → Shared → Prop) (E : Value → Shared → Prop) (A : Around), Q ((items.size : Int) - 1, -1, items.size) s → wpAny (model prog w) A (Builtin.Slice.sliceApplied (.ref sl) (pure (items.size : Int))) Q E s := by
    intro Q E A h
    unfold Builtin.Slice.sliceApplied Builtin.Slice.sliceFields
    refine wpAny_bind (wpAny_bind (wpAny_field hos hds (x := vl) rfl (wpAny_bind (wpAny_field hos hds (x := vu) rfl (wpAny_bind (wpAny_field hos hds (x := vs) rfl (wpAny_pure ?_)))))))
    refine wpAny_bind (HT.slicePart_ ps ?_)
    show wpAny _ _ (if ((-1 : Int) == 0) = true then _ else _) _ _ s
    rw [if_neg (by decide)]
    refine wpAny_bind (HT.slicePart_ pl (wpAny_bind (HT.slicePart_ pu (wpAny_bind (wpAny_pure ?_)))))
    show wpAny _ _ (pure (((items.size : Int) - 1), (-1 : Int), Builtin.Slice.slicePlaces ((items.size : Int) - 1) (-1) (-1))) _ _ s
    refine wpAny_pure ?_
    have e : Builtin.Slice.slicePlaces ((items.size : Int) - 1) (-1) (-1) = items.size := by
      unfold Builtin.Slice.slicePlaces
      have h1 : ¬ ((-1 : Int) > 0) := by omega
      simp only [h1, if_false]
      rw [show (- -1 : Int) = 1 by decide, Int.ediv_one]
      split <;> omega
    rw [e]
    exact h
  refine wpAny_bind (hap _ _ _ ?_)
  show wpAny _ _ (if (((items.size : Int) - 1) == 0 && (-1 : Int) == 1 && items.size == items.size) = true then _ else _) _ _ s
  rw [if_neg (by simp)]
  have hpick : ((List.range items.size).filterMap fun (k : Nat) => items[(((items.size : Int) - 1) + (k : Int) * (-1)).toNat]?) = items.toList.reverse := by
    rw [← krv_all items, ← List.filterMap_reverse, ← krv_range, List.filterMap_map]
    refine fm_congr fun k hk => ?_
    have := List.mem_range.mp hk
    show items[(((items.size : Int) - 1) + (k : Int) * (-1)).toNat]? = items[items.size - 1 - k]?
    rw [show (((items.size : Int) - 1) + (k : Int) * (-1)).toNat = items.size - 1 - k by omega]
  rw [hpick]
  first
    | exact wpAny_bind (m := Builtin.Tuple.tupleExact _) (wpAny_newObj_type (wpAny_pure ⟨_, rfl, wpAny_pure h⟩) hsz2)
    | exact wpAny_bind (m := Builtin.Tuple.tupleExact _) (wpAny_newObj_type (wpAny_bind (wpAny_pure (wpAny_pure ⟨_, rfl, wpAny_pure h⟩))) hsz2)
    | exact wpAny_bind (wpAny_bind (m := Builtin.Tuple.tupleExact _) (wpAny_newObj_type (wpAny_pure (wpAny_pure ⟨_, rfl, wpAny_pure h⟩)) hsz2))
    | exact wpAny_bind (wpAny_bind (m := Builtin.Tuple.tupleExact _) (wpAny_newObj_type (wpAny_pure ⟨_, rfl, wpAny_pure h⟩) hsz2))
def tRevT (K : PySem.W.Frag) (te : TE) : TE := fun σ H Q => te σ H fun x H1 => ∃ a xs, x = .ref a ∧ SqT K H1 a xs ∧ ∀ p, H1 p = none → Q (.ref p) (upd H1 p (.tup xs.reverse))
theorem pe_revT {e : Expr} {te : TE} {k : Nat} {p1 p2 p3 pos : Pos} (he : PE X e te) : PE X (.Subscript e (.Slice none none (some (.UnaryOp .USub (.Constant (.int 1) k p1) p2)) p3) pos) (tRevT X.K te) := by
  refine ⟨fun pins s σ H Q I h => ?_⟩
  refine Subscript_ (thn (he.run pins s σ H _ I h) fun v s1 ⟨x, H1, I1, r1, q1⟩ => ?_)
  obtain ⟨a, xs, ex, hx, q⟩ := q1
  subst ex
  cases r1
  have hst : PO X (some (.UnaryOp .USub (.Constant (.int 1) k p1) p2)) (tPart (tUn (rU fun i => .int (-i)) (tC (.int 1)))) := po_some (pe_un un_neg pe_int)
  refine wpAny_Slice (thn (po_none.run pins s1 σ H1 (fun o H2 => o = none ∧ H2 = H1) I1 ⟨rfl, rfl⟩) fun vl s2 ⟨l, H2, I2, pl, el, e2⟩ => ?_)
  subst el e2
  refine thn (po_none.run pins s2 σ H2 (fun o H3 => o = none ∧ H3 = H2) I2 ⟨rfl, rfl⟩) fun vu s3 ⟨u, H3, I3, pu, eu, e3⟩ => ?_
  subst eu e3
  refine thn (hst.run pins s3 σ H3 (fun o H4 => o = some (-1) ∧ H4 = H3) I3 ⟨1, rfl, -1, rfl, rfl, rfl⟩) fun vs s4 ⟨o, H4, I4, ps, eo, e4⟩ => ?_
  subst eo e4
  have I5 : Inv X pins σ H4 { s4 with heap := s4.heap.push { cls := .type "slice", data := .fields #[vl, vu, vs] } } := I4.kept (t' := s4.toks) fun b ob q => Heap.get?_push_of_some _ q
  obtain ⟨its, r, ht, hz⟩ := I5.tuple hx
  have hlen := r.length
  show wpAny (model X.prog X.w) X.A (subscriptTail e (.Slice none none (some (.UnaryOp .USub (.Constant (.int 1) k p1) p2)) p3) (.ref a) (.ref s4.heap.objs.size)) (EP X pins σ Q) X.xe { s4 with heap := s4.heap.push { cls := .type "slice", data := .fields #[vl, vu, vs] } }
  refine tail_any (ops := [.ref a, .ref s4.heap.objs.size]) ht.typeIs (PyProof.Rows.slot_tuple_getitem.lookup) ?_ (by with_unfolding_all rfl)
  refine getItem_tuple_rev ht (Heap.IsSliceOf.new _ vl vu vs) pl pu ps ?_ (by rw [List.size_toArray]; omega)
  refine ⟨.ref _, _, I5.laid (t' := s4.toks) (o := .tup xs.reverse) (fun b ob q => Heap.get?_push_of_some _ q) (Nat.le_refl _) ?_, rfl, q _ (I5.hok.fresh (Nat.le_refl _))⟩
  exact ⟨by rw [List.length_reverse]; exact hz, _, r.reverse, IsTup.new _ _⟩

/-- x in t, t a tuple of data -/
def rInDT (K : PySem.W.Frag) : R2 := fun x y H Q => ∃ d ds, Dp K H x d ∧ Dp K H y (.tuple ds) ∧ SeqAt.shaped d = true ∧ SeqAt.shaped (.tuple ds) = true ∧ Q (.bl (ds.any fun z => PyData.eqv z d)) H
theorem op_inDT (hu : X.A.units + 65 < cLine) : OpR X (compareOp .In) (rInDT X.K) := by
  intro pins s σ H x y v u Q I rx ry h
  obtain ⟨d, ds, hd, he, sd, se, q⟩ := h
  obtain ⟨as, r1⟩ := Dp.reads I d x v hd rx
  obtain ⟨bs, r2⟩ := Dp.reads I (.tuple ds) y u he ry
  exact SeqAt.in_tuple_reads r2 r1 (SeqAt.canLay_of_shaped se) (SeqAt.canLay_of_shaped sd) (room_in_shaped sd hu) ⟨.bl _, H, I, rfl, q⟩
end
section
open AutoSeq1
/-- xs.extend(t), t a tuple -/
theorem list_extend_list_tupW (l : Addr) (items : Array Value) (n : Nat) (b : Addr) (items2 : Array Value) (n2 : Nat) (dd : Option Addr) (sl : Array (Option Value)) (hs0 : ¬(!items.isEmpty && Builtin.List.listTooLong (items.size + items2.size)) = true) (hs1 : items.size ≤ sizeLine) (hs2 : items.size + items2.size ≤ sizeLine + 1) :
    Meets (Builtin.«list.extend» ⟨[.ref l, .ref b], []⟩) (fun _ R s => s.heap.get? l = some { cls := .type "list", dict := none, data := .seq items n, slots := #[] } ∧ s.heap.get? b = some { cls := .type "tuple", dict := dd, data := .seq items2 n2, slots := sl } ∧ R (.ok (.ret Value.none)) { s with heap := s.heap.update l (Obj.mapSeq fun x => x ++ items2), toks := s.toks }) :=
  .of_wp fun prog w A R s h => by
    obtain ⟨hp, g, d, tk, os⟩ := s; obtain ⟨hl, hb, h⟩ := h; have f1 := idx_int; have f2 := AutoSeq1.sub_tuple_tuple; have f3 := AutoSeq1.sub_list_list; have f4 := AutoSeq1.sub_tuple_list; have f5 := AutoSeq1.sub_list_tuple;
    have hz' : (items ++ items2).size ≤ sizeLine + 1 := by rw [Array.size_append]; exact hs2
    wp_walk using (wpAny_updateSeq hl rfl (hz := hs1) (_hz' := hz')), wpAny_loadPart' hl, wpAny_loadPart' hb; exact ⟨_, rfl, h⟩
end
section
variable {X : Cx}
def rExtendT (K : PySem.W.Frag) : V → List V → Hp → VK → Prop := fun x vs H Q => ∃ l b xs zs, x = .ref l ∧ vs = [.ref b] ∧ H l = some (.lst xs) ∧ SqT K H b zs ∧ xs.length + zs.length ≤ sizeLine ∧ Q .non (upd H l (.lst (xs ++ zs)))
theorem mt_extendT : MtR X "list.extend" (rExtendT X.K) := by
  intro pins s σ H x vs v us Q I rx rv h
  obtain ⟨l, b, xs, zs, rfl, rfl, hH, hB, hz, q⟩ := h
  cases rx
  obtain ⟨u, rfl, ru⟩ := rv.one
  cases ru
  obtain ⟨z, its, n, r, hl, e⟩ := I.lstM hH
  obtain ⟨its2, r2, ⟨⟨c2, dd, dt, sl⟩, e2, hc2, n2, hd2⟩, z2⟩ := I.tuple hB
  simp only at hc2 hd2
  subst hc2 hd2
  have hl2 := r2.length
  have hsz : its.toArray.size + its2.toArray.size ≤ sizeLine := by rw [List.size_toArray, List.size_toArray]; omega
  have hlong : ¬ (!its.toArray.isEmpty && Builtin.List.listTooLong (its.toArray.size + its2.toArray.size)) = true := by
    rw [notLongL hsz, Bool.and_false]
    exact Bool.false_ne_true
  refine call_meets F.slot_list_extend ⟨_, e, rfl⟩ F.entry_list_extend (F.args_list_extend_2 _ _)
    (list_extend_list_tupW l its.toArray n b its2.toArray n2 dd sl hlong (by rw [List.size_toArray]; omega) (by omega)) ⟨e, e2, ?_⟩
  refine ⟨.non, _, I.lset (its' := its ++ its2) hH e (by simp) (r.append r2) ?_, rfl, q⟩
  rw [List.length_append]
  omega
/-- len of a set of ints -/
theorem call_lenS : CallR X (.builtin "len") (fun xs H Q => ∃ a S n, xs = [V.ref a] ∧ H a = some (SetO X.w a S n) ∧ Q (.int (n : Nat)) H) := by
  intro pins s σ H xs us Q I r h
  obtain ⟨a, S, n, rfl, ha, q⟩ := h
  obtain ⟨u, rfl, ru⟩ := vals1 r
  cases ru
  obtain ⟨o, es, ep, t, ho, hex, hd, _, _, hb, hf, hn⟩ := (setO_get I ha).setOf (P := X.prog)
  have h4 : scanBound = 4096 := rfl
  refine call_len_set ho hex hd hf (by omega) ⟨.int (n : Nat), H, I.tok _, ⟨_, by rw [hn]⟩, q⟩

/-! ### least and sorted of data -/
theorem dpAll_len {K : PySem.W.Frag} {H : Hp} : ∀ {xs : List V} {ds : List PyData}, DpAll K H xs ds → xs.length = ds.length
  | _, _, .nil => rfl
  | _, _, .cons _ h => congrArg Nat.succ (dpAll_len h)
theorem dpAll_get {K : PySem.W.Frag} {H : Hp} : ∀ {xs : List V} {ds : List PyData} {i : Nat} {x : V}, DpAll K H xs ds → xs[i]? = some x → ∃ d, ds[i]? = some d ∧ Dp K H x d
  | _, _, _, _, .nil, h => by simp at h
  | _, _, 0, _, .cons (d := d) h _, e => ⟨d, rfl, by simp at e; exact e ▸ h⟩
  | _, _, i + 1, _, .cons _ h, e => by simpa using dpAll_get (i := i) h (by simpa using e)
theorem readsAll_get {h : Heap} : ∀ {vs : List Value} {ds : List PyData} {as : List Addr} {i : Nat} {v : Value}, ReadsAll h vs ds as → vs[i]? = some v → ∃ d bs, ds[i]? = some d ∧ Reads h v d bs
  | _, _, _, _, _, .nil, h => by simp at h
  | _, _, _, 0, _, .cons (d := d) r _, e => ⟨d, _, rfl, by simp at e; exact e ▸ r⟩
  | _, _, _, i + 1, _, .cons _ r, e => by simpa using readsAll_get (i := i) r (by simpa using e)
/-- min(xs, default=d), xs a list of alike data: one of the first of the least -/
def rMinD (K : PySem.W.Frag) : List V → List V → Hp → VK → Prop := fun vs zs H Q => ∃ (a : Addr) (d : V) (xs : List V) (ds : List PyData), vs = [.ref a] ∧ zs = [d] ∧ SqL K H a xs ∧ DpAll K H xs ds ∧ AlikeAll ds ∧ PyData.depthAll ds ≤ 60 ∧ (ds = [] → Q d H) ∧
  ∀ (y : PyData) (ys : List PyData) (i : Nat) (v : V), ds = y :: ys → xs[i]? = some v → ds[i]? = some (minD y ys) → Q v H
theorem vals_back {xs : List V} {us : List Value} {i : Nat} {u : Value} (r : Vals xs us) (h : us[i]? = some u) : ∃ x, xs[i]? = some x ∧ RelV x u := by
  have hl := r.length
  have hi := (List.getElem?_eq_some_iff.mp h).1
  have hx : xs[i]? = some (xs[i]'(by omega)) := List.getElem?_eq_getElem (by omega)
  obtain ⟨u', h1, h2⟩ := r.get hx
  rw [h] at h1
  cases h1
  exact ⟨_, hx, h2⟩
theorem alike_self {ds : List PyData} (h : AlikeAll ds) {i : Nat} {d e : PyData} (h1 : ds[i]? = some d) (h2 : e ∈ ds) : alike d e = true := h.1 d (List.mem_of_getElem? h1) e h2
theorem minD_mem (y : PyData) (ys : List PyData) : minD y ys ∈ y :: ys := by
  unfold minD
  induction ys generalizing y with
  | nil => exact List.mem_cons_self
  | cons z zs ih =>
    show (zs.foldl _ (if dataLt z y then z else y)) ∈ _
    rcases List.mem_cons.mp (ih (if dataLt z y then z else y)) with h | h
    · rw [h]
      split
      · exact List.mem_cons_of_mem _ List.mem_cons_self
      · exact List.mem_cons_self
    · exact List.mem_cons_of_mem _ (List.mem_cons_of_mem _ h)
theorem cr_minD (hc : X.calm = true) (hu : X.A.units + 64 < cLine) : CallRK X (.builtin "min") [Str.ofString "default"] (rMinD X.K) := by
  intro pins s σ H vs zs us ws Q I r rz h
  obtain ⟨a, d, xs, ds, rfl, rfl, hs, ha, hal, hdep, q0, q1⟩ := h
  rw [Vals.ref1 r]
  obtain ⟨w1, rfl, e1⟩ := vals1 rz
  obtain ⟨its, rv, hl, hz⟩ := I.list hs
  obtain ⟨as, hr⟩ := Dp.readsAll I ds _ its ha rv
  refine min_list_default (I.ok.hd hc) hl.isList hr hal (by omega) (fun e h' tk k => ⟨d, H, I.kept k, e1, q0 e⟩) fun y ys i v h' tk bs e hi hb k => ?_
  have I1 : Inv X pins σ H { s with heap := h', toks := tk } := I.kept k
  have hi2 : its[i]? = some v := by simpa using hi
  obtain ⟨d0, bs0, hd0, r0⟩ := readsAll_get hr hi2
  have hm : minD y ys ∈ ds := by rw [e]; exact minD_mem y ys
  have e0 : d0 = minD y ys := alike_unique d0 (minD y ys) v bs0 bs (alike_self hal hd0 hm) (reads_keeps k r0) hb
  obtain ⟨x, hx, rx⟩ := vals_back rv hi2
  exact ⟨x, H, I1, rx, q1 y ys i x e hx (e0 ▸ hd0)⟩

/-- min(a, b) of two data -/
theorem call_min_twoH {prog : Program} {w : World} {A : Around} {E : Value → Shared → Prop} {s : Shared} {a b : Value} {Q : Value → Shared → Prop}
    (h : wpAny (model prog w) A.in1 (pyIter (.ref s.heap.objs.size)) (fun it s₂ => ∃ I fp wr G n P St H bt, it = .ref I ∧ WalksS prog w A.in1 I fp wr G n P St ∧ St 0 s₂ ∧ (∀ b ∈ fp, b < s₂.heap.objs.size) ∧ 0 < n ∧
      (∀ b o, H.get? b = some o → b ∉ wr) ∧ (∀ b o, H.get? b = some o → s₂.heap.get? b = some o) ∧ CmpIn prog w A.in1 .Lt H P bt ∧ ∀ v s', P (argBest bt (n - 1)) v → Moved wr G s₂ s' → Q v s') E
      { s with heap := s.heap.push { cls := .type "tuple", data := .seq #[a, b] } }) :
    wpAny (model prog w) A (call (.builtin "min") [a, b]) Q E s := by
  have hname : (toString "min" ++ toString ".loop" : String) = "min.loop" := by decide
  refine call_function_tree F.kind_min F.plain_min F.entry_min (F.args_min2 _ _) ?_
  show wpAny _ A.in1 (Builtin.Builtins.bindParams "min" ["key", "default"] 0 ⟨[], []⟩ >>= _) _ _ s
  refine wpAny_bind (wpAny_of_eq (show Builtin.Builtins.bindParams "min" ["key", "default"] 0 ⟨[], []⟩ = pure [none, none] from rfl) ?_)
  show wpAny _ A.in1 (newTuple [a, b] >>= _) _ _ s
  refine wpAny_bind (wpAny_newObj_type ?_)
  refine wpAny_bind (wpAny_mono h (fun it s₂ h₂ => ?_) fun _ _ e => e)
  obtain ⟨I, fp, wr, G, n, P, St, H, bt, rfl, W, hst, hfp, hn, hw, hkeep, hcmp, hQ⟩ := h₂
  refine wpAny_bind (wpAny_newObj_type ?_)
  have hSf : s₂.heap.objs.size ∉ fp := fun hm => Nat.lt_irrefl _ (hfp _ hm)
  rw [hname]
  refine wpAny_pure ⟨plainId_quiet F.plain_min_loop _, codeAny_min_loop_firstH W H hw bt hcmp s₂.heap.objs.size hSf (fresh_in hkeep) _ hn (fun b o e => Heap.get?_push_of_some _ (hkeep b o e)) (W.frame 0 s₂ _ s₂.toks hst (Nat.le_refl _) fun b _ o e => Heap.get?_push_of_some _ e) (Heap.get?_push_size _ rfl) fun v s' hP hm => ?_⟩
  exact hQ v s' hP (Moved.drop_new (tk := s₂.toks) hm (Nat.le_refl _))
theorem min_two_data {prog : Program} {w : World} {A : Around} {E : Value → Shared → Prop} {s : Shared} {a b : Value} {d e : PyData} {as : List Addr} {Q : Value → Shared → Prop} (hh : A.handled = none) (hr : ReadsAll s.heap [a, b] [d, e] as) (ha : AlikeAll [d, e]) (hu : A.units + 1 + PyData.depthAll [d, e] < cLine)
    (h : ∀ h' tk, (∀ b o, s.heap.get? b = some o → h'.get? b = some o) → Q (if dataLt e d = true then b else a) { s with heap := h', toks := tk }) :
    wpAny (model prog w) A (call (.builtin "min") [a, b]) Q E s := by
  have hT : (s.heap.push { cls := .type "tuple", data := .seq #[a, b] }).IsTuple s.heap.objs.size #[a, b] := ⟨_, Heap.get?_push_size _ rfl, rfl, 0, rfl⟩
  have hr' : ReadsAll (s.heap.push { cls := .type "tuple", data := .seq #[a, b] }) (#[a, b] : Array Value).toList [d, e] as := PyProof.Rows.ReadsAll.keeps (fun b o e => Heap.get?_push_of_some _ e) hr
  refine call_min_twoH (iter_tupleW (s := { s with heap := s.heap.push { cls := .type "tuple", data := .seq #[a, b] } }) (A := A.in1) hh hT fun s₂ e2 W st hfp hw hk => ?_)
  refine ⟨_, _, _, _, _, _, _, s.heap.push { cls := .type "tuple", data := .seq #[a, b] }, _, rfl, W, st, hfp, (show 0 < 2 by omega), hw, hk, cmpIn_lt (s := { s with heap := s.heap.push { cls := .type "tuple", data := .seq #[a, b] } }) (A := A.in1) hr' ha (by show A.units + 1 + _ < _; exact hu), fun v s' hP m => ?_⟩
  obtain ⟨h', tk, rfl, hk'⟩ := moved_old (s := { s with heap := s.heap.push { cls := .type "tuple", data := .seq #[a, b] } }) e2 rfl m
  have hv : v = if dataLt e d = true then b else a := by
    have hP2 : (#[a, b] : Array Value)[argBest (fun i j => dataLt ([d, e].getD i PyData.none) ([d, e].getD j PyData.none)) 1]? = some v := hP
    by_cases hl : dataLt e d = true
    · have e3 : argBest (fun i j => dataLt ([d, e].getD i PyData.none) ([d, e].getD j PyData.none)) 1 = 1 := by simp [argBest, hl]
      rw [e3] at hP2
      simpa [hl] using hP2.symm
    · have e3 : argBest (fun i j => dataLt ([d, e].getD i PyData.none) ([d, e].getD j PyData.none)) 1 = 0 := by simp [argBest, hl]
      rw [e3] at hP2
      simpa [hl] using hP2.symm
  rw [hv]
  exact h h' tk fun b o q => hk' b o (Heap.get?_push_of_some _ q)
def rMin2D (K : PySem.W.Frag) : List V → Hp → VK → Prop := fun vs H Q => ∃ (x y : V) (d e : PyData), vs = [x, y] ∧ Dp K H x d ∧ Dp K H y e ∧ AlikeAll [d, e] ∧ PyData.depthAll [d, e] ≤ 60 ∧ Q (if dataLt e d = true then y else x) H
theorem cr_min2D (hc : X.calm = true) (hu : X.A.units + 64 < cLine) : CallR X (.builtin "min") (rMin2D X.K) := by
  intro pins s σ H xs us Q I r h
  obtain ⟨x, y, d, e, rfl, hd, he, hal, hdep, q⟩ := h
  obtain ⟨u, w', rfl, ru, rw'⟩ := vals2 r
  obtain ⟨as, h1⟩ := Dp.reads I d x u hd ru
  obtain ⟨bs, h2⟩ := Dp.reads I e y w' he rw'
  refine min_two_data (I.ok.hd hc) (.cons h1 (.cons h2 .nil)) hal (by omega) fun h' tk k => ⟨_, H, I.kept k, ?_, q⟩
  by_cases hl : dataLt e d = true
  · rw [if_pos hl, if_pos hl]; exact rw'
  · rw [if_neg hl, if_neg hl]; exact ru

/-- sorted(xs), xs a list of data; enc: what each item reads as; R: what is known of each -/
def rSortD (K : PySem.W.Frag) {β : Type} (enc : β → PyData) : List V → Hp → VK → Prop := fun vs H Q => ∃ (a : Addr) (xs : List V) (bs : List β) (R : V → β → Prop), vs = [.ref a] ∧ SqL K H a xs ∧ Paired R xs bs ∧ (∀ x b, R x b → Dp K H x (enc b)) ∧ AllAlike (bs.map enc) ∧ Sortable (bs.map enc) ∧ (∀ b ∈ bs, (enc b).depth ≤ 50) ∧
  ∀ p ys, H p = none → Paired R ys (bs.mergeSort (dataLe false enc)) → Q (.ref p) (upd H p (.lst ys))
theorem dpAll_of {K : PySem.W.Frag} {H : Hp} {β : Type} {enc : β → PyData} {R : V → β → Prop} (h : ∀ x b, R x b → Dp K H x (enc b)) : ∀ {xs : List V} {bs : List β}, Paired R xs bs → DpAll K H xs (bs.map enc)
  | _, _, .nil => .nil
  | _, _, .cons r t => .cons (h _ _ r) (dpAll_of h t)
theorem eachIs_vals {β : Type} {R : V → β → Prop} : ∀ {xs : List V} {us : List Value} {bs : List β}, Vals xs us → Paired R xs bs → EachIs (fun v b => ∃ x, RelV x v ∧ R x b) us bs
  | _, _, [], r, h => by cases h; cases r; exact .nil
  | _, _, b :: bs, r, h => by
    cases h with
    | cons h1 h2 =>
      cases r with
      | cons r1 r2 => exact .cons ⟨_, r1, h1⟩ (eachIs_vals r2 h2)
theorem vals_eachIs {β : Type} {R : V → β → Prop} : ∀ {us : List Value} {bs : List β}, EachIs (fun v b => ∃ x, RelV x v ∧ R x b) us bs → ∃ xs, Vals xs us ∧ Paired R xs bs
  | _, _, .nil => ⟨[], .nil, .nil⟩
  | _, _, .cons ⟨x, r, d⟩ t => by
    obtain ⟨xs, r2, d2⟩ := vals_eachIs t
    exact ⟨x :: xs, .cons r r2, .cons d d2⟩
theorem cr_sortD {β : Type} {enc : β → PyData} (hu : X.A.units + 64 < cLine) : CallR X (.builtin "sorted") (rSortD X.K enc) := by
  intro pins s σ H vs us Q I r h
  obtain ⟨a, xs, bs, R, rfl, hs, hR, hD, hal, hk, hdep, q⟩ := h
  have ha := dpAll_of hD hR
  rw [Vals.ref1 r]
  obtain ⟨its, rv, hl, hz⟩ := I.list hs
  obtain ⟨as, hr⟩ := Dp.readsAll I _ _ its ha rv
  have el := dpAll_len ha
  rw [List.length_map] at el
  refine sorted_data (R := fun v b => ∃ x, RelV x v ∧ R x b) hl.isList (eachIs_vals rv hR) (readsAll_each enc hr) hal hk (by omega) (fun b hb => by have := hdep b hb; omega) fun out hlen ho => ?_
  obtain ⟨ys, rys, dys⟩ := vals_eachIs ho
  obtain ⟨ep, he'⟩ := PyProof.Rows.sortedAll_at s.heap its out.toArray
  have hlen2 : ys.length ≤ sizeLine := by rw [rys.length, hlen]; omega
  exact ⟨.ref _, upd H (s.heap.objs.size + 1) (.lst ys), I.laid (t' := s.toks) (fun _ _ => PyProof.Rows.sortedAll_old) (Nat.le_succ _) ⟨hlen2, out, ep, rys, by simpa using he'⟩, rfl, q _ ys (I.hok.fresh (Nat.le_succ _)) dys⟩
end
end FtR
/-! enumerate over a tuple; truth, == and != of own classes -/
namespace FtR
open PySem PySem.Spec PyProof.Rows L2

section
variable {prog : Program} {w : World} {A : Around} {E : Value → Shared → Prop} {s : Shared}
theorem call_enum_tup {l : Addr} {items : Array Value} {Q : Value → Shared → Prop} (hL : s.heap.IsTuple l items)
    (h : ∀ h', IsEnum h' (s.heap.objs.size + 1) s.heap.objs.size 0 .none → h'.IsTupleIter s.heap.objs.size l 0 → h'.objs.size = s.heap.objs.size + 2 →
      (∀ b o, s.heap.get? b = some o → h'.get? b = some o) → Q (.ref (s.heap.objs.size + 1)) { s with heap := h' }) :
    wpAny (model prog w) A (call (.type "enumerate") [.ref l]) Q E s := by
  obtain ⟨⟨c, dct, dt, sl⟩, hl, hc, n, hd⟩ := hL
  replace hc : c = .type "tuple" := hc
  replace hd : dt = .seq items n := hd
  subst hc hd
  refine callType_new F.called_enumerate (by decide) (F.typeCall_enumerate_1 _) (F.newCall_enumerate_1 _) (fun obj => F.args_object_init_2 obj _) F.entry_enumerate_new
    (meets_enum_newT l items n dct sl) ⟨hl, ?_⟩
  have hz : (s.heap.push { cls := .type "tuple_iterator", data := .fields #[.ref l, .int 0 0] }).objs.size = s.heap.objs.size + 1 := Heap.size_push ..
  show _ ∧ _
  rw [hz]
  have he : IsEnum ((s.heap.push { cls := .type "tuple_iterator", data := .fields #[.ref l, .int 0 0] }).push
      { cls := .type "enumerate", data := .fields #[.none, .bool false, .ref s.heap.objs.size, rawInt 0, .none, .none] }) (s.heap.objs.size + 1) s.heap.objs.size 0 .none := by
    have q := Heap.get?_push_size (s.heap.push { cls := .type "tuple_iterator", data := .fields #[.ref l, .int 0 0] })
      (o := { cls := .type "enumerate", data := .fields #[.none, .bool false, .ref s.heap.objs.size, rawInt 0, .none, .none] }) rfl
    rw [hz] at q; exact q
  refine ⟨⟨_, he, rfl⟩, h _ he ⟨_, Heap.get?_push_of_some _ (Heap.get?_push_size _ rfl), rfl, rfl⟩ (by rw [Heap.size_push, hz]) fun b o x => Heap.get?_push_of_some _ (Heap.get?_push_of_some _ x)⟩
end
theorem enum_endT {prog : Program} {w : World} {A : Around} {E : Value → Shared → Prop} {s : Shared} {e it t : Addr} {i : Nat} {c : Int} {items : Array Value} {old : Value} {Q : Option Value → Shared → Prop} (hh : A.handled = none)
    (he : IsEnum s.heap e it c old) (hit : s.heap.IsTupleIter it t i) (hl : s.heap.IsTuple t items) (hx : items[i]? = none)
    (hQ : ∀ h', Heap.ExtBut it s.heap h' → Q none { s with heap := h' }) : wpAny (model prog w) A (pyNext (.ref e)) Q E s := by
  have hT : s.TypeIs (.ref e) "enumerate" := ⟨_, he, rfl⟩
  unfold pyNext
  refine wpAny_bind (wpAny_attempt (wpAny_callSpecial?_slot (name := Str.ofString "__next__") hT F.slot_enumerate_next
    (wpAny_call_entry F.slot_enumerate_next hT F.entry_enumerate_next ?_ (F.args_enumerate_next_1 _))))
  show wpAny _ _ (field (.ref e) 2 >>= _) _ _ _
  refine wpAny_bind (wpAny_field he rfl (x := .ref it) rfl ?_)
  refine wpAny_bind (wpAny_nextOf_tuple_end hh hit hl hx fun h' x he' hx' => ?_)
  obtain ⟨o, ho, hc⟩ := hx'
  refine wpAny_bind (wpAny_isInstance (T := "StopIteration") (b := true) ⟨o, ho, hc⟩ isSubtype_stop ?_)
  exact wpAny_pure (hQ _ he')
/-- the tuple at a, its items with their places -/
def IteT (K : PySem.W.Frag) (a : Addr) : It :=
  ⟨fun i H => ∃ (xs : List V) (x : V), SqT K H a xs ∧ xs[i]? = some x, fun i H v H' => ∃ T x, v = .ref T ∧ H T = none ∧ H' = upd H T (.tup [.int (i : Nat), x]) ∧ ∀ xs, SqT K H a xs → xs[i]? = some x, fun i H => ∃ xs : List V, SqT K H a xs ∧ xs.length ≤ i⟩
theorem tup_live {h : Heap} {a : Addr} {its its' : Array Value} (p : h.IsTuple a its) (q : h.IsTuple a its') : its = its' := by
  obtain ⟨o, ho, _, n, hd⟩ := p
  obtain ⟨o', ho', _, n', hd'⟩ := q
  rw [ho] at ho'
  cases ho'
  rw [hd] at hd'
  cases hd'
  rfl
theorem turn_enumT {P : Program} {w : World} {K : PySem.W.Frag} {elts : List Expr} {kk : Nat} {tpos : Pos} (a e it : Addr) :
    Turn P w K (.Tuple elts kk tpos) (IteT K a) [e, it] e (fun i h => (∃ old, IsEnum h e it ((i : Nat) : Int) old) ∧ h.IsTupleIter it a i ∧ e ≠ it ∧ a ≠ it ∧ a ≠ e) where
  mem := by simp
  obj := fun i h st b hb => by
    obtain ⟨⟨old, he⟩, ⟨o, ho, hc, hd⟩, _⟩ := st
    have e' : b = e ∨ b = it := by simpa using hb
    rcases e' with z | z
    · rw [z]; exact ⟨_, he, fun v q => nomatch q⟩
    · rw [z]; exact ⟨o, ho, fun v q => by rw [hd] at q; cases q⟩
  keep := fun i h h' st k => let ⟨⟨old, he⟩, hi, hne⟩ := st; ⟨⟨old, k e (by simp) _ he⟩, hi.at fun o q => k it (by simp) o q, hne⟩
  item := by
    intro X hP hw hK hc i pins s σ H E I hf st hg
    subst hP hw hK
    obtain ⟨⟨old, he⟩, hit, hne, hai, hae⟩ := st
    obtain ⟨xs, x, hq, hx⟩ := hg
    obtain ⟨its, rv, p, hz⟩ := I.tuple hq
    obtain ⟨u, hu, ru⟩ := rv.get hx
    have hel : e < s.heap.objs.size := Heap.lt_size he
    have hil : it < s.heap.objs.size := by obtain ⟨_, q, _⟩ := hit; exact Heap.lt_size q
    have hlt : i < its.toArray.size := by
      have := (List.getElem?_eq_some_iff.mp hu).1
      simpa using this
    refine wpAny_pyNext_enum_itemD (Draws.tuple (A := X.A.in1) (I.ok.hd hc) it a hai its.toArray) he ⟨hit, p⟩ hlt hne (fun hm => ?_) fun y h' tk hy ho hst hT hsz hk => ?_
    · rcases List.mem_cons.mp hm with z | hm
      · exact hne z
      · exact hae (List.mem_singleton.mp hm).symm
    · have ey : y = u := by
        have hy2 : its[i]? = some y := by simpa using hy
        rw [hu] at hy2
        exact (Option.some.inj hy2).symm
      subst ey
      refine ⟨_, rfl, wpAny_letOwnedTupleGo_enum (s := { s with heap := h', toks := tk + 1 }) ho fun h'' he' sb => ?_⟩
      have hT2 : h''.get? s.heap.objs.size = some { cls := .type "tuple", data := .seq #[.int i tk, y] } := (sb.2 _ (Nat.ne_of_gt hel)).trans hT
      have new : ObjOk X.prog X.w (upd H s.heap.objs.size (.tup [.int (i : Nat), x])) h'' s.heap.objs.size (.tup [.int (i : Nat), x]) :=
        ⟨by show 2 ≤ sizeLine; decide, [.int i tk, y], .cons ⟨_, rfl⟩ (.cons ru .nil), ⟨_, hT2, rfl, _, rfl⟩⟩
      have I1 : Inv X pins σ (upd H s.heap.objs.size (.tup [.int (i : Nat), x])) { s with heap := h'', toks := tk + 1 } :=
        I.turnedNew (ch := [e, it]) (fun b ob hb q => (sb.2 b (fun z => hb (by simp [z]))).trans (hk b ob (fun z => hb (by simp [z])) (fun z => hb (by simp [z])) q)) hf (Nat.le_refl _) new
      refine ⟨.ref s.heap.objs.size, _, I1, rfl, ⟨_, x, rfl, I.hok.fresh (Nat.le_refl _), rfl, fun ys hy => by rw [I.tuple_inj hy hq]; exact hx⟩, ⟨⟨y, ?_⟩, hst.1.at fun o q => (sb.2 it (Ne.symm hne)).trans q, hne, hai, hae⟩, fun b hb => ?_⟩
      · have e1 : ((i + 1 : Nat) : Int) = (i : Int) + 1 := by omega
        rw [e1]; exact he'
      · have hb' : b < s.heap.objs.size := by
          have e' : b = e ∨ b = it := by simpa using hb
          rcases e' with z | z
          · rw [z]; exact hel
          · rw [z]; exact hil
        rw [upd_ne (Nat.ne_of_lt hb')]
        exact (hf b hb).1
  done := by
    intro X hP hw hK hc i pins s σ H E I hf st hg
    subst hP hw hK
    obtain ⟨⟨old, he⟩, hit, hne, hai, hae⟩ := st
    obtain ⟨xs, hq, hx⟩ := hg
    obtain ⟨its, rv, p, hz⟩ := I.tuple hq
    obtain ⟨f0, f1, f2, f3, f4, f5⟩ := hf it (by simp)
    have hl := rv.length
    exact enum_endT (I.ok.hd hc) he hit p (by simp; omega) fun h' eb => ⟨rfl, I.turned (t' := s.toks) (fun b o hb q => eb b o hb q) f0 f1 f3 f4 f5⟩
  self := fun A i s Q E st h => let ⟨⟨_, he⟩, _⟩ := st; wpAny_pyIter_enum he h
def iEnumT (K : PySem.W.Frag) (ta : TA) : TI := fun σ H R => ta σ H fun vs H1 => ∃ a xs, vs = [.ref a] ∧ SqT K H1 a xs ∧ R (IteT K a) H1
theorem pi_enumT {X : Cx} {e : Expr} {ta : TA} {p pos tpos : Pos} {elts : List Expr} {kk : Nat} (hg : Gl X "enumerate") (hm : X.mg "enumerate" = none) (ha : PA X [e] ta) (hs : starEach [e] X.env = [(false, eval e X.env)] := by rfl) :
    PI X (.Tuple elts kk tpos) (.Call (.Name "enumerate" p) [e] [] pos) (iEnumT X.K ta) := by
  refine ⟨fun pins s σ H R I h => ?_⟩
  refine Call_ (ld_blt I hg hm boot_enumerate (PyProof.Rows.callWith_type1 (thn (ha.run pos pins s σ H _ I h) fun us s1 ⟨vs, H1, I1, r1, q1⟩ => ?_) hs rfl))
  obtain ⟨a, xs, ex, hq, q⟩ := q1
  subst ex
  cases r1 with
  | cons r rr =>
    cases rr
    cases r
    obtain ⟨its, rv, p', hz⟩ := I1.tuple hq
    refine call_enum_tup p' fun h' he hit hsz hk => wpAny_pyIter_enum he ?_
    have I2 : Inv X pins σ H1 { s1 with heap := h' } := I1.kept (t' := s1.toks) hk
    have hal : a < s1.heap.objs.size := p'.lt
    refine ⟨s1.heap.objs.size + 1, [s1.heap.objs.size + 1, s1.heap.objs.size], _, _, H1, rfl, I2, turn_enumT a (s1.heap.objs.size + 1) s1.heap.objs.size, ⟨⟨.none, he⟩, hit, Nat.succ_ne_self _, Nat.ne_of_lt hal, Nat.ne_of_lt (Nat.lt_succ_of_lt hal)⟩, fun b hb => ?_, q⟩
    have e' : b = s1.heap.objs.size + 1 ∨ b = s1.heap.objs.size := by simpa using hb
    have hb2 : s1.heap.objs.size ≤ b := by rcases e' with z | z <;> rw [z] <;> omega
    exact I1.fpOk hb2 (I1.hok.fresh hb2)
/-! ### truth of own classes, by __bool__ -/
section
variable {prog : Program} {w : World} {A : Around} {E : Value → Shared → Prop} {s : Shared} {K : PySem.W.Frag} {x C f : Addr} {ox : Obj} {odd : Option Obj}
theorem bool_own {Q : Value → Shared → Prop} (X : K.In s.heap) (I : PySem.W.InstAt s.heap x ox C odd) (hs : PySem.W.findIn K (.ref C) "__bool__" = some (some (.ref f))) (hf : PySem.W.isFn K (.ref f) = true)
    (h : wpAny (model prog w) A.in1.in1 (call (.ref f) [.ref x]) (fun r s₁ => ∃ b, r = Value.bool b ∧ Q r s₁) E s) : wpAny (model prog w) A (call (.type "bool") [.ref x]) Q E s := by
  refine callType_codes (T := "bool") (Bi := Builtin.«object.__init__») (Q₁ := fun r s₁ => ∃ b, r = Value.bool b ∧ Q r s₁) PySem.F.called_bool (PySem.F.typeCall_bool_1 _) PySem.F.entry_object_init ?_ ?_
  · refine codeAny_of_tree ?_
    show wpAny _ A.in1.in1 (do checkBuiltinCall "bool.__new__" ⟨[.type "bool", .ref x], []⟩; again (.builtin "bool.__new__" ⟨[.type "bool", .ref x], []⟩)) _ _ s
    refine wpAny_bind (wpAny_of_eq (PySem.F.newCall_bool_1 _) (wpAny_pure ⟨plainId_quiet (by decide +kernel) _, codeAny_builtin PySem.F.entry_bool_new ?_⟩))
    rw [Around.under_plainId (by decide +kernel) _]
    unfold Builtin.«bool.__new__»
    refine wpAny_bind (wpAny_of_eq (a := true) (by rfl) ?_)
    refine PySem.W.KFB.if_not rfl ?_
    refine wpAny_bind (wpAny_of_eq (a := true) PySem.F.conv_sub_bool ?_)
    refine PySem.W.KFB.if_not rfl ?_
    refine wpAny_bind (wpAny_of_eq (a := [.ref x]) (by rfl) ?_)
    show wpAny _ _ (truthy (.ref x) >>= _) _ _ _
    unfold truthy
    refine wpAny_bind (wpAny_bind (m := callSpecial? (.ref x) (Str.ofString "__bool__")) (PySem.W.special_fn X I hs (beq_iff_eq.mp hf) (wpAny_mono h (fun r s' hr => ?_) fun _ _ y => y)))
    obtain ⟨b, rfl, hq⟩ := hr
    exact wpAny_pure (wpAny_pure ⟨b, rfl, hq⟩)
  · rintro obj s₁ ⟨b, rfl, hq⟩
    exact ⟨rfl, PySem.F.args_object_init_2 _ _, object_init_meets PySem.F.called_bool.init.lookup PySem.F.called_bool.made (by decide) prog w A.in1 _ s₁ ⟨rfl, rfl, hq⟩⟩
end
section
variable {X : Cx} {CX : CXT} {C f : Addr} {fd : FuncData} {ps : List Str} {sp : Sp} {n : Nat}
/-- the callee runs below the running body -/
theorem run_below {A : Around} {pins : List (Addr × Obj)} {σ : L2.St} {H : Hp} {s : Shared} {Q : VK} {us : List Value} {vs : List V} (F : FnOk X.prog X.w X.K X.mg X.base CX n f fd ps sp) (hr : Room n A) (e0 : Env0 X.prog X.w X.K X.mg X.base A X.stack s H) (hb : Binds X.K fd ps []) (hx : Passes CX X E0)
    (I : Inv X pins σ H s) (r : Vals vs us) (h : sp vs H Q E0) : wpAny (model X.prog X.w) A (call (.ref f) us) (EP X pins σ Q) X.xe s := by
  have hl : us.length = ps.length := by rw [← r.length]; exact F.len _ _ _ _ h
  refine wpAny_call (codeAny_mono (F.run A X.stack s H ⟨us, []⟩ us vs Q E0 hr e0 (by have := hb s us I.kIn (by simpa using hl); simpa using this) r h) fun r s' hq => ?_)
  cases r with
  | error e => exact hx pins σ H s e s' I hq
  | ok fl =>
    cases fl with
    | ret u => exact I.after hq
    | next => exact False.elim hq
    | brk => exact False.elim hq
    | cont => exact False.elim hq
/-- what a class with a __bool__ of its own must have -/
structure OwnB (K : PySem.W.Frag) (C f : Addr) : Prop where
  at_ : PySem.W.findIn K (.ref C) "__bool__" = some (some (.ref f))
  fn : PySem.W.isFn K (.ref f) = true
def rTruOwn (C : Addr) (sp : Sp) : V → Hp → (Bool → Hp → Prop) → Prop := fun x H Q => ∃ a dx fs, x = .ref a ∧ H a = some (.ins C dx fs) ∧ sp [.ref a] H (fun z H' => ∃ b, z = .bl b ∧ Q b H') E0
theorem tru_own (o : OwnB X.K C f) (F : FnOk X.prog X.w X.K X.mg X.base CX n f fd ps sp) (hr : Room n X.A) (hb : Binds X.K fd ps []) (hx : Passes CX X E0) : TruR X (rTruOwn C sp) := by
  intro pins s σ H x v Q I rx h
  obtain ⟨a, dx, fs, rfl, ha, q⟩ := h
  cases rx
  obtain ⟨mA, J, _⟩ := ins_get I.hok ha
  obtain ⟨od, J, _⟩ := J.look
  obtain ⟨m, hF⟩ := I.fr
  refine PySem.W.truthy_K hF I.ok.mod.kin J o.at_ o.fn (wpAny_mono (run_below (us := [.ref a]) (vs := [.ref a]) F hr I.env0 hb hx I (.cons rfl .nil) q) (fun w s' z => ?_) fun _ _ x => x)
  obtain ⟨z, H', I', rz, b, rfl, qz⟩ := z
  cases rz
  exact ⟨H', I', qz⟩
def rBoolOwn (C : Addr) (sp : Sp) : List V → Hp → VK → Prop := fun xs H Q => ∃ a dx fs, xs = [.ref a] ∧ H a = some (.ins C dx fs) ∧ sp [.ref a] H (fun z H' => ∃ b, z = .bl b ∧ Q (.bl b) H') E0
theorem call_boolOwn (o : OwnB X.K C f) (F : FnOk X.prog X.w X.K X.mg X.base CX n f fd ps sp) (hr : Room (n + 2) X.A) (hb : Binds X.K fd ps []) (hx : Passes CX X E0) : CallR X (.type "bool") (rBoolOwn C sp) := by
  intro pins s σ H xs us Q I r h
  obtain ⟨a, dx, fs, rfl, ha, q⟩ := h
  rw [Vals.ref1 r]
  obtain ⟨mA, J, _⟩ := ins_get I.hok ha
  obtain ⟨od, J, _⟩ := J.look
  have hr2 : Room n X.A.in1.in1 := (show Room (n + 1) X.A.in1 from Room.in1 hr).in1
  refine bool_own I.kIn J o.at_ o.fn (wpAny_mono (run_below (us := [.ref a]) (vs := [.ref a]) F hr2 I.env0.in1.in1 hb hx I (.cons rfl .nil) q) (fun w s' z => ?_) fun _ _ x => x)
  obtain ⟨z, H', I', rz, b, rfl, qz⟩ := z
  cases rz
  exact ⟨b, rfl, .bl b, H', I', rfl, qz⟩

/-! ### x == y, x != y by an own __eq__ -/
structure OwnE (K : PySem.W.Frag) (C f : Addr) : Prop where
  at_ : PySem.W.findIn K (.ref C) "__eq__" = some (some (.ref f))
  fn : PySem.W.isFn K (.ref f) = true
  nt : PySem.W.notFirst K C (.ref C) = true
def rEqOwn (C : Addr) (sp : Sp) : R2 := fun x y H Q => ∃ a b dx dy fs gs, x = .ref a ∧ y = .ref b ∧ H a = some (.ins C dx fs) ∧ H b = some (.ins C dy gs) ∧ sp [x, y] H (fun z H' => ∃ r, z = .bl r ∧ Q (.bl r) H') E0
theorem op_eqOwn (o : OwnE X.K C f) (F : FnOk X.prog X.w X.K X.mg X.base CX n f fd ps sp) (hr : Room n X.A) (hb : Binds X.K fd ps []) (hx : Passes CX X E0) : OpR X (compareOp .Eq) (rEqOwn C sp) := by
  intro pins s σ H x y v u Q I rx ry h
  obtain ⟨a, b, dx, dy, fs, gs, rfl, rfl, ha, hb', q⟩ := h
  cases rx
  cases ry
  obtain ⟨mA, J, _⟩ := ins_get I.hok ha
  obtain ⟨mB, J', _⟩ := ins_get I.hok hb'
  obtain ⟨od, J, _⟩ := J.look
  obtain ⟨od', J', _⟩ := J'.look
  obtain ⟨m, hF⟩ := I.fr
  show wpAny (model X.prog X.w) X.A (richCompare .Eq (.ref a) (.ref b)) (EP X pins σ Q) X.xe s
  refine PySem.W.cmp_K (op := .Eq) (tb := .ref C) hr.units0 hF I.ok.mod.kin J J'.type o.nt o.at_ o.fn (wpAny_mono (run_below (us := [.ref a, .ref b]) (vs := [.ref a, .ref b]) F hr I.env0 hb hx I (.cons rfl (.cons rfl .nil)) q) (fun w s' z => ?_) fun _ _ x => x)
  obtain ⟨z, H', I', rz, r, rfl, qz⟩ := z
  cases rz
  exact ⟨.bl r, H', I', rfl, qz⟩
end
section
open Builtin PySem.W
variable {prog : Program} {w : World} {A : Around} {E : Value → Shared → Prop} {s : Shared} {K : PySem.W.Frag} {x C f : Addr} {ox : Obj} {od : Option Obj} {b : Value}
theorem ifBound_B {M : Model} {A : Around} {id : String} {name : Str} {args : List Value} {Q : Option Value → Shared → Prop} (X : K.In s.heap) (I : InstAt s.heap x ox C od) (hs : findIn K (.ref C) name = some (some (.builtin id)))
    (hb : ∀ self, bindSpecial (.builtin id) self = pure (.builtin id, [self]))
    (h : wpAny M A (call (.builtin id) (.ref x :: args)) (fun v => Q (some v)) E s) : wpAny M A (callSpecialIfBound? (.ref x) name args) Q E s := by
  simp only [callSpecialIfBound?, bindSpecialIfBound?]
  refine wpAny_holding (wpAny_bind (wpAny_bind (wpAny_bind (I.type.here ((looks_findIn X hs).here ?_)))))
  refine wpAny_bind (wpAny_askSetting (wpAny_ite ?_))
  have fin : wpAny M A (call (.builtin id) ([.ref x] ++ args) >>= fun v => pure (some v)) Q E s := wpAny_bind (wpAny_mono h (fun v s' h' => wpAny_pure h') fun _ _ h' => h')
  split
  · exact wpAny_bind ((Looks.of_pure (hb _)).here (wpAny_pure (by exact fin)))
  · exact wpAny_tryCatch (wpAny_bind ((Looks.of_pure (hb _)).here (wpAny_pure (by exact fin))))
theorem ne_own {Q : Value → Shared → Prop} (hu : A.units + 1 < cLine) (X : K.In s.heap) (I : InstAt s.heap x ox C od) (hb : Looks (model prog w) s.heap (typeOf b) (.ref C)) (hne : findIn K (.ref C) "__ne__" = some (some (.builtin "object.__ne__")))
    (hm : mroIn K C (.type "object") = some true) (hs : findIn K (.ref C) "__eq__" = some (some (.ref f))) (hf : isFn K (.ref f) = true)
    (h : wpAny (model prog w) A.in1 (call (.ref f) [.ref x, b]) (fun v s' => ∃ r, v = .bool r ∧ Q (.bool (!r)) s') E s) : wpAny (model prog w) A (richCompare .NotEq (.ref x) b) Q E s := by
  have one : wpAny (model prog w) A (tryCompare (.ref x) "__ne__" b) (fun r s' => ∃ v, r = some v ∧ Q v s') E s := by
    unfold tryCompare
    refine wpAny_bind (ifBound_B X I hne PySem.F.slot_object_ne.bind (wpAny_call (codeAny_call_builtin PySem.F.slot_object_ne.plain PySem.F.cmpEntry_ne
      (check_slot (i := "object.__ne__") (owner := "object") (n := "__ne__") PySem.F.cmpKind_ne PySem.F.cmpSplit_ne (I.type.andThen (looks_mroIn X hm)) (PySem.F.cmpArgs_ne _ _) ?_))))
    unfold Builtin.«object.__ne__»
    refine wpAny_bind (m := slotArgs "__ne__" 1 _) (wpAny_pure ?_)
    refine wpAny_bind (m := cRoomFor _ _) (wpAny_cRoomFor hu ?_)
    refine wpAny_bind (m := callSpecialIfBound? (.ref x) (Str.ofString "__eq__") [b]) (ifBound_K X I hs hf (wpAny_mono h (fun r s' hr => ?_) fun _ _ y => y))
    obtain ⟨r, rfl, hq⟩ := hr
    exact wpAny_bind (wpAny_truthy_bool (wpAny_pure (wpAny_pure ⟨_, rfl, hq⟩)))
  unfold richCompare
  simp only [oneThing_ref]
  refine wpAny_holding (wpAny_bind (wpAny_cRoomFor (Nat.lt_of_succ_lt hu) ?_))
  refine wpAny_bind (I.type.here (wpAny_bind (hb.here ?_)))
  rw [show (Value.ref C != Value.ref C) = false from by simp]
  simp only [Bool.false_eq_true, if_false]
  refine wpAny_bind (wpAny_pure ?_)
  simp only [Bool.false_eq_true, if_false]
  refine wpAny_bind (wpAny_mono one (fun r s' z => ?_) fun _ _ e => e)
  obtain ⟨v, rfl, hq⟩ := z
  exact wpAny_pure hq
end
section
variable {X : Cx} {CX : CXT} {C f : Addr} {fd : FuncData} {ps : List Str} {sp : Sp} {n : Nat}
structure OwnN (K : PySem.W.Frag) (C f : Addr) : Prop where
  eq : OwnE K C f
  ne : PySem.W.findIn K (.ref C) "__ne__" = some (some (.builtin "object.__ne__"))
  obj : PySem.W.mroIn K C (.type "object") = some true
def rNeOwn (C : Addr) (sp : Sp) : R2 := fun x y H Q => ∃ a b dx dy fs gs, x = .ref a ∧ y = .ref b ∧ H a = some (.ins C dx fs) ∧ H b = some (.ins C dy gs) ∧ sp [x, y] H (fun z H' => ∃ r, z = .bl r ∧ Q (.bl (!r)) H') E0
theorem op_neOwn (o : OwnN X.K C f) (F : FnOk X.prog X.w X.K X.mg X.base CX n f fd ps sp) (hr : Room (n + 1) X.A) (hb : Binds X.K fd ps []) (hx : Passes CX X E0) : OpR X (compareOp .NotEq) (rNeOwn C sp) := by
  intro pins s σ H x y v u Q I rx ry h
  obtain ⟨a, b, dx, dy, fs, gs, rfl, rfl, ha, hb', q⟩ := h
  cases rx
  cases ry
  obtain ⟨mA, J, _⟩ := ins_get I.hok ha
  obtain ⟨mB, J', _⟩ := ins_get I.hok hb'
  obtain ⟨od, J, _⟩ := J.look
  obtain ⟨od', J', _⟩ := J'.look
  show wpAny (model X.prog X.w) X.A (richCompare .NotEq (.ref a) (.ref b)) (EP X pins σ Q) X.xe s
  refine ne_own (hu_of hr) I.kIn J J'.type o.ne o.obj o.eq.at_ o.eq.fn (wpAny_mono (run_below (us := [.ref a, .ref b]) (vs := [.ref a, .ref b]) F hr.in1 I.env0.in1 hb hx I (.cons rfl (.cons rfl .nil)) q) (fun w s' z => ?_) fun _ _ x => x)
  obtain ⟨z, H', I', rz, r, rfl, qz⟩ := z
  cases rz
  exact ⟨r, rfl, .bl (!r), H', I', rfl, qz⟩
end
end FtR
/-! values as plain data: a reading's states told by data (Dt), owned objects (Ob), a frame -/
namespace FtR
open PySem PySem.Spec PyProof.Rows L2

inductive Dt where
  | non | bl (b : Bool) | int (i : Int) | adr (p : Addr) | ty (n : String)
  | lst (ds : List Dt) | tup (ds : List Dt) | dic (ks : List Int) (ds : List Dt) | dct (ks : List (Int × Int)) (ds : List Dt) | ins (C : Addr) (fs : List Str) (ds : List Dt)
inductive Ob where
  | lst (ds : List Dt) | dic (ks : List Int) (ds : List Dt) | dct (ks : List (Int × Int)) (ds : List Dt) | set (S : Int → Bool) (n : Nat) | ins (C : Addr) (fs : List Str) (ds : List Dt)
abbrev DEnv := List (Option Dt)
abbrev Own := List (Addr × Ob)
def kI (i : Int) : Key := .inl i
def kT (p : Int × Int) : List Key := [.inl p.1, .inl p.2]
mutual
def Is (H : Hp) : Dt → V → Prop
  | .non, v => v = .non
  | .bl b, v => v = .bl b
  | .int i, v => v = .int i
  | .adr p, v => v = .ref p
  | .ty n, v => v = .ty n
  | .lst ds, v => ∃ p vs, v = .ref p ∧ H p = some (.lst vs) ∧ IsA H ds vs
  | .tup ds, v => ∃ p vs, v = .ref p ∧ H p = some (.tup vs) ∧ IsA H ds vs
  | .dic ks ds, v => ∃ p vs, v = .ref p ∧ H p = some (.dK ((ks.map kI).zip vs)) ∧ ks.length = vs.length ∧ IsA H ds vs
  | .dct ks ds, v => ∃ p vs, v = .ref p ∧ H p = some (.dT ((ks.map kT).zip vs)) ∧ ks.length = vs.length ∧ IsA H ds vs
  | .ins C fs ds, v => ∃ p dx vs, v = .ref p ∧ H p = some (.ins C dx (fs.zip vs)) ∧ fs.length = vs.length ∧ IsA H ds vs
def IsA (H : Hp) : List Dt → List V → Prop
  | [], vs => vs = []
  | d :: ds, vs => ∃ v r, vs = v :: r ∧ Is H d v ∧ IsA H ds r
end
mutual
theorem Is.mono {H H' : Hp} (e : Same H H') : ∀ {d : Dt} {v : V}, Is H d v → Is H' d v
  | .non, _, h => by simpa only [Is] using h
  | .bl _, _, h => by simpa only [Is] using h
  | .int _, _, h => by simpa only [Is] using h
  | .adr _, _, h => by simpa only [Is] using h
  | .ty _, _, h => by simpa only [Is] using h
  | .lst ds, _, h => by
    simp only [Is] at h ⊢
    obtain ⟨p, vs, h1, h2, h3⟩ := h
    exact ⟨p, vs, h1, e _ _ h2, IsA.mono e h3⟩
  | .tup ds, _, h => by
    simp only [Is] at h ⊢
    obtain ⟨p, vs, h1, h2, h3⟩ := h
    exact ⟨p, vs, h1, e _ _ h2, IsA.mono e h3⟩
  | .dic ks ds, _, h => by
    simp only [Is] at h ⊢
    obtain ⟨p, vs, h1, h2, h3, h4⟩ := h
    exact ⟨p, vs, h1, e _ _ h2, h3, IsA.mono e h4⟩
  | .dct ks ds, _, h => by
    simp only [Is] at h ⊢
    obtain ⟨p, vs, h1, h2, h3, h4⟩ := h
    exact ⟨p, vs, h1, e _ _ h2, h3, IsA.mono e h4⟩
  | .ins C fs ds, _, h => by
    simp only [Is] at h ⊢
    obtain ⟨p, dx, vs, h1, h2, h3, h4⟩ := h
    exact ⟨p, dx, vs, h1, e _ _ h2, h3, IsA.mono e h4⟩
theorem IsA.mono {H H' : Hp} (e : Same H H') : ∀ {ds : List Dt} {vs : List V}, IsA H ds vs → IsA H' ds vs
  | [], _, h => by simpa only [IsA] using h
  | d :: ds, _, h => by
    simp only [IsA] at h ⊢
    obtain ⟨v, r, h1, h2, h3⟩ := h
    exact ⟨v, r, h1, Is.mono e h2, IsA.mono e h3⟩
end
section
variable {H : Hp}
theorem IsA.nil : IsA H [] [] := by simp only [IsA]
theorem IsA.cons {d : Dt} {ds : List Dt} {v : V} {vs : List V} (h : Is H d v) (t : IsA H ds vs) : IsA H (d :: ds) (v :: vs) := by
  simp only [IsA]
  exact ⟨v, vs, rfl, h, t⟩
theorem IsA.inv {d : Dt} {ds : List Dt} {vs : List V} (h : IsA H (d :: ds) vs) : ∃ v r, vs = v :: r ∧ Is H d v ∧ IsA H ds r := by simpa only [IsA] using h
theorem IsA.inv0 {vs : List V} (h : IsA H [] vs) : vs = [] := by simpa only [IsA] using h
theorem IsA.length : ∀ {ds : List Dt} {vs : List V}, IsA H ds vs → ds.length = vs.length
  | [], _, h => by rw [h.inv0]; rfl
  | d :: ds, _, h => by
    obtain ⟨v, r, rfl, _, h3⟩ := h.inv
    simp [h3.length]
theorem IsA.get : ∀ {ds : List Dt} {vs : List V} {i : Nat} {d : Dt}, IsA H ds vs → ds[i]? = some d → ∃ v, vs[i]? = some v ∧ Is H d v
  | [], _, _, _, _, e => by simp at e
  | d :: ds, _, 0, _, h, e => by
    obtain ⟨v, r, rfl, h2, _⟩ := h.inv
    have e' : d = _ := Option.some.inj e
    subst e'
    exact ⟨v, rfl, h2⟩
  | d :: ds, _, i + 1, _, h, e => by
    obtain ⟨v, r, rfl, _, h3⟩ := h.inv
    obtain ⟨u, h4, h5⟩ := IsA.get (i := i) h3 (by simpa using e)
    exact ⟨u, by simpa using h4, h5⟩
theorem IsA.append : ∀ {ds es : List Dt} {vs us : List V}, IsA H ds vs → IsA H es us → IsA H (ds ++ es) (vs ++ us)
  | [], _, _, _, h, h' => by
    rw [h.inv0]
    exact h'
  | d :: ds, _, _, _, h, h' => by
    obtain ⟨v, r, rfl, h2, h3⟩ := h.inv
    exact .cons h2 (IsA.append h3 h')
theorem IsA.take (n : Nat) : ∀ {ds : List Dt} {vs : List V}, IsA H ds vs → IsA H (ds.take n) (vs.take n) := by
  induction n with
  | zero => intro ds vs h; simp [IsA.nil]
  | succ n ih =>
    intro ds vs h
    cases ds with
    | nil => rw [h.inv0]; exact IsA.nil
    | cons d ds =>
      obtain ⟨v, r, rfl, h2, h3⟩ := h.inv
      exact .cons h2 (ih h3)
theorem IsA.drop (n : Nat) : ∀ {ds : List Dt} {vs : List V}, IsA H ds vs → IsA H (ds.drop n) (vs.drop n) := by
  induction n with
  | zero => intro ds vs h; simpa using h
  | succ n ih =>
    intro ds vs h
    cases ds with
    | nil => rw [h.inv0]; exact IsA.nil
    | cons d ds =>
      obtain ⟨v, r, rfl, h2, h3⟩ := h.inv
      exact ih h3
theorem IsA.reverse : ∀ {ds : List Dt} {vs : List V}, IsA H ds vs → IsA H ds.reverse vs.reverse
  | [], _, h => by rw [h.inv0]; exact IsA.nil
  | d :: ds, _, h => by
    obtain ⟨v, r, rfl, h2, h3⟩ := h.inv
    rw [List.reverse_cons, List.reverse_cons]
    exact (IsA.reverse h3).append (.cons h2 .nil)
theorem IsA.set : ∀ {ds : List Dt} {vs : List V} (i : Nat) {d : Dt} {v : V}, IsA H ds vs → Is H d v → IsA H (ds.set i d) (vs.set i v)
  | [], _, _, _, _, h, _ => by rw [h.inv0]; exact IsA.nil
  | d :: ds, _, 0, _, _, h, g => by
    obtain ⟨v, r, rfl, h2, h3⟩ := h.inv
    exact .cons g h3
  | d :: ds, _, i + 1, _, _, h, g => by
    obtain ⟨v, r, rfl, h2, h3⟩ := h.inv
    exact .cons h2 (IsA.set i h3 g)
theorem IsA.ints : ∀ {is : List Int} {vs : List V}, IsA H (is.map Dt.int) vs → vs = is.map V.int
  | [], _, h => by rw [h.inv0]; rfl
  | i :: is, _, h => by
    obtain ⟨v, r, rfl, h2, h3⟩ := IsA.inv (d := .int i) (ds := is.map Dt.int) h
    simp only [Is] at h2
    rw [h2, IsA.ints h3]
    rfl
theorem IsA.of_ints : ∀ (is : List Int), IsA H (is.map Dt.int) (is.map V.int)
  | [] => IsA.nil
  | i :: is => .cons (by simp only [Is]) (IsA.of_ints is)
theorem IsA.bools : ∀ {is : List Bool} {vs : List V}, IsA H (is.map Dt.bl) vs → vs = is.map V.bl
  | [], _, h => by rw [h.inv0]; rfl
  | i :: is, _, h => by
    obtain ⟨v, r, rfl, h2, h3⟩ := IsA.inv (d := .bl i) (ds := is.map Dt.bl) h
    simp only [Is] at h2
    rw [h2, IsA.bools h3]
    rfl
theorem is_int {i : Int} {v : V} (h : Is H (.int i) v) : v = .int i := by simpa only [Is] using h
theorem is_bl {i : Bool} {v : V} (h : Is H (.bl i) v) : v = .bl i := by simpa only [Is] using h
theorem is_non {v : V} (h : Is H .non v) : v = .non := by simpa only [Is] using h
theorem is_adr {p : Addr} {v : V} (h : Is H (.adr p) v) : v = .ref p := by simpa only [Is] using h
theorem is_ty {p : String} {v : V} (h : Is H (.ty p) v) : v = .ty p := by simpa only [Is] using h
theorem is_lst {ds : List Dt} {v : V} (h : Is H (.lst ds) v) : ∃ p vs, v = .ref p ∧ H p = some (.lst vs) ∧ IsA H ds vs := by simpa only [Is] using h
theorem is_tup {ds : List Dt} {v : V} (h : Is H (.tup ds) v) : ∃ p vs, v = .ref p ∧ H p = some (.tup vs) ∧ IsA H ds vs := by simpa only [Is] using h
theorem is_dic {ks : List Int} {ds : List Dt} {v : V} (h : Is H (.dic ks ds) v) : ∃ p vs, v = .ref p ∧ H p = some (.dK ((ks.map kI).zip vs)) ∧ ks.length = vs.length ∧ IsA H ds vs := by simpa only [Is] using h
theorem is_dct {ks : List (Int × Int)} {ds : List Dt} {v : V} (h : Is H (.dct ks ds) v) : ∃ p vs, v = .ref p ∧ H p = some (.dT ((ks.map kT).zip vs)) ∧ ks.length = vs.length ∧ IsA H ds vs := by simpa only [Is] using h
theorem is_ins {C : Addr} {fs : List Str} {ds : List Dt} {v : V} (h : Is H (.ins C fs ds) v) : ∃ p dx vs, v = .ref p ∧ H p = some (.ins C dx (fs.zip vs)) ∧ fs.length = vs.length ∧ IsA H ds vs := by simpa only [Is] using h
theorem Is.mk_int {i : Int} : Is H (.int i) (.int i) := by simp only [Is]
theorem Is.mk_bl {i : Bool} : Is H (.bl i) (.bl i) := by simp only [Is]
theorem Is.mk_non : Is H .non .non := by simp only [Is]
theorem Is.mk_adr {p : Addr} : Is H (.adr p) (.ref p) := by simp only [Is]
theorem Is.mk_ty {p : String} : Is H (.ty p) (.ty p) := by simp only [Is]
theorem Is.mk_lst {ds : List Dt} {p : Addr} {vs : List V} (h : H p = some (.lst vs)) (a : IsA H ds vs) : Is H (.lst ds) (.ref p) := by
  simp only [Is]
  exact ⟨p, vs, rfl, h, a⟩
theorem Is.mk_tup {ds : List Dt} {p : Addr} {vs : List V} (h : H p = some (.tup vs)) (a : IsA H ds vs) : Is H (.tup ds) (.ref p) := by
  simp only [Is]
  exact ⟨p, vs, rfl, h, a⟩
end
/-! ### to the kit's data -/
mutual
def Dt.toP : Dt → PyData
  | .bl b => .bool b
  | .int i => .int i
  | .lst ds => .list (toPs ds)
  | .tup ds => .tuple (toPs ds)
  | _ => .none
def toPs : List Dt → List PyData
  | [] => []
  | d :: ds => d.toP :: toPs ds
end
mutual
def Dt.dat : Dt → Bool
  | .bl _ => true
  | .int _ => true
  | .non => true
  | .lst ds => dats ds
  | .tup ds => dats ds
  | _ => false
def dats : List Dt → Bool
  | [] => true
  | d :: ds => d.dat && dats ds
end
mutual
theorem Is.dp {K : PySem.W.Frag} {H : Hp} : ∀ {d : Dt} {v : V}, d.dat = true → Is H d v → Dp K H v d.toP
  | .non, _, _, h => by rw [is_non h]; simp only [Dt.toP]; exact .non
  | .bl b, _, _, h => by rw [is_bl h]; simp only [Dt.toP]; exact .bl b
  | .int i, _, _, h => by rw [is_int h]; simp only [Dt.toP]; exact .int i
  | .adr _, _, g, _ => by simp [Dt.dat] at g
  | .ty _, _, g, _ => by simp [Dt.dat] at g
  | .dic _ _, _, g, _ => by simp [Dt.dat] at g
  | .dct _ _, _, g, _ => by simp [Dt.dat] at g
  | .ins _ _ _, _, g, _ => by simp [Dt.dat] at g
  | .lst ds, _, g, h => by
    obtain ⟨p, vs, rfl, h2, h3⟩ := is_lst h
    simp only [Dt.toP, Dt.dat] at g ⊢
    exact .lst (.inl (.inl h2)) (IsA.dp g h3)
  | .tup ds, _, g, h => by
    obtain ⟨p, vs, rfl, h2, h3⟩ := is_tup h
    simp only [Dt.toP, Dt.dat] at g ⊢
    exact .tup (.inl (.inl h2)) (IsA.dp g h3)
theorem IsA.dp {K : PySem.W.Frag} {H : Hp} : ∀ {ds : List Dt} {vs : List V}, dats ds = true → IsA H ds vs → DpAll K H vs (toPs ds)
  | [], _, _, h => by rw [h.inv0]; simp only [toPs]; exact .nil
  | d :: ds, _, g, h => by
    obtain ⟨v, r, rfl, h2, h3⟩ := h.inv
    simp only [dats, Bool.and_eq_true] at g
    simp only [toPs]
    exact .cons (Is.dp g.1 h2) (IsA.dp g.2 h3)
end
theorem toPs_map : ∀ ds : List Dt, toPs ds = ds.map Dt.toP
  | [] => rfl
  | d :: ds => by rw [toPs, toPs_map ds]; rfl
theorem dats_all : ∀ ds : List Dt, dats ds = ds.all Dt.dat
  | [] => rfl
  | d :: ds => by rw [dats, dats_all ds]; rfl

/-! ### slots, owned objects, states -/
def Slots (B : Hp) : List (Option V) → DEnv → Prop
  | [], [] => True
  | _ :: σ, none :: ds => Slots B σ ds
  | u :: σ, some d :: ds => (∃ v, u = some v ∧ Is B d v) ∧ Slots B σ ds
  | _, _ => False
theorem Slots.mono {B B' : Hp} (e : Same B B') : ∀ {σ : List (Option V)} {ds : DEnv}, Slots B σ ds → Slots B' σ ds
  | [], [], _ => trivial
  | _ :: σ, none :: ds, h => Slots.mono e (σ := σ) (ds := ds) h
  | u :: σ, some d :: ds, h => ⟨let ⟨v, h1, h2⟩ := h.1; ⟨v, h1, h2.mono e⟩, Slots.mono e (σ := σ) (ds := ds) h.2⟩
  | [], _ :: _, h => h.elim
  | _ :: _, [], h => h.elim
theorem Slots.get {B : Hp} : ∀ {σ : List (Option V)} {ds : DEnv} {i : Nat} {d : Dt}, Slots B σ ds → ds[i]? = some (some d) → ∃ v, σ[i]? = some (some v) ∧ Is B d v
  | [], [], _, _, _, e => by simp at e
  | _ :: σ, none :: ds, 0, _, h, e => by simp at e
  | _ :: σ, none :: ds, i + 1, _, h, e => by
    obtain ⟨v, h1, h2⟩ := Slots.get (σ := σ) (ds := ds) (i := i) h (by simpa using e)
    exact ⟨v, by simpa using h1, h2⟩
  | u :: σ, some d :: ds, 0, _, h, e => by
    obtain ⟨⟨v, rfl, h2⟩, _⟩ := h
    have e' : d = _ := Option.some.inj (Option.some.inj e)
    subst e'
    exact ⟨v, rfl, h2⟩
  | u :: σ, some d :: ds, i + 1, _, h, e => by
    obtain ⟨v, h1, h2⟩ := Slots.get (σ := σ) (ds := ds) (i := i) h.2 (by simpa using e)
    exact ⟨v, by simpa using h1, h2⟩
  | [], _ :: _, _, _, h, _ => h.elim
  | _ :: _, [], _, _, h, _ => h.elim
theorem Slots.set {B : Hp} : ∀ {σ : List (Option V)} {ds : DEnv} (i : Nat) {d : Dt} {v : V}, Slots B σ ds → Is B d v → Slots B (σ.set i (some v)) (ds.set i (some d))
  | [], [], _, _, _, _, _ => trivial
  | _ :: σ, none :: ds, 0, _, _, h, g => ⟨⟨_, rfl, g⟩, h⟩
  | _ :: σ, none :: ds, i + 1, _, _, h, g => Slots.set (σ := σ) (ds := ds) i h g
  | u :: σ, some d :: ds, 0, _, _, h, g => ⟨⟨_, rfl, g⟩, h.2⟩
  | u :: σ, some d :: ds, i + 1, _, _, h, g => ⟨h.1, Slots.set (σ := σ) (ds := ds) i h.2 g⟩
  | [], _ :: _, _, _, _, h, _ => h.elim
  | _ :: _, [], _, _, _, h, _ => h.elim
theorem Slots.unset {B : Hp} : ∀ {σ : List (Option V)} {ds : DEnv} (i : Nat) {u : Option V}, Slots B σ ds → Slots B (σ.set i u) (ds.set i none)
  | [], [], _, _, _ => trivial
  | _ :: σ, none :: ds, 0, _, h => h
  | _ :: σ, none :: ds, i + 1, _, h => Slots.unset (σ := σ) (ds := ds) i h
  | u :: σ, some d :: ds, 0, _, h => h.2
  | u :: σ, some d :: ds, i + 1, _, h => ⟨h.1, Slots.unset (σ := σ) (ds := ds) i h.2⟩
  | [], _ :: _, _, _, h => h.elim
  | _ :: _, [], _, _, h => h.elim
/-- ds' knows no more than ds -/
def Sub : DEnv → DEnv → Prop
  | [], [] => True
  | none :: ds, _ :: es => Sub ds es
  | some d :: ds, e :: es => e = some d ∧ Sub ds es
  | _, _ => False
theorem Sub.refl : ∀ ds : DEnv, Sub ds ds
  | [] => trivial
  | none :: ds => Sub.refl ds
  | some d :: ds => ⟨rfl, Sub.refl ds⟩
theorem Sub.n : Sub [] [] := trivial
theorem Sub.s0 {ds es : DEnv} {e : Option Dt} (h : Sub ds es) : Sub (none :: ds) (e :: es) := h
theorem Sub.s1 {ds es : DEnv} {d e : Dt} (k : d = e) (h : Sub ds es) : Sub (some d :: ds) (some e :: es) := ⟨by rw [k], h⟩
theorem Slots.sub {B : Hp} : ∀ {σ : List (Option V)} {es ds : DEnv}, Slots B σ es → Sub ds es → Slots B σ ds
  | [], [], [], _, _ => trivial
  | [], [], _ :: _, _, h => by cases ‹Option Dt› <;> exact h.elim
  | _ :: σ, none :: es, none :: ds, h, g => Slots.sub (σ := σ) (es := es) (ds := ds) h g
  | _ :: σ, some _ :: es, none :: ds, h, g => Slots.sub (σ := σ) (es := es) (ds := ds) h.2 g
  | u :: σ, some e :: es, some d :: ds, h, g => by
    have e1 : some e = some d := g.1
    cases e1
    exact ⟨h.1, Slots.sub (σ := σ) (es := es) (ds := ds) h.2 g.2⟩
  | u :: σ, none :: es, some d :: ds, h, g => by cases g.1
  | _ :: _, none :: _, [], _, g => g.elim
  | _ :: _, some _ :: _, [], _, g => g.elim
  | [], _ :: _, _, h, _ => h.elim
  | _ :: _, [], _, h, _ => h.elim
theorem Slots.start {B : Hp} (n : Nat) : ∀ {ds : List Dt} {vs : List V}, IsA B ds vs → Slots B (vs.map some ++ List.replicate n none) (ds.map some ++ List.replicate n none)
  | [], _, h => by
    rw [h.inv0]
    simp only [List.map_nil, List.nil_append]
    induction n with
    | zero => trivial
    | succ n ih => exact ih
  | d :: ds, _, h => by
    obtain ⟨v, r, rfl, h2, h3⟩ := h.inv
    exact ⟨⟨v, rfl, h2⟩, Slots.start n h3⟩

section
variable (w : World)
def OwnAt (B H : Hp) (p : Addr) : Ob → Prop
  | .lst ds => ∃ vs, H p = some (.lst vs) ∧ IsA B ds vs
  | .dic ks ds => ∃ vs, H p = some (.dK ((ks.map kI).zip vs)) ∧ ks.length = vs.length ∧ IsA B ds vs
  | .dct ks ds => ∃ vs, H p = some (.dT ((ks.map kT).zip vs)) ∧ ks.length = vs.length ∧ IsA B ds vs
  | .set S n => H p = some (SetO w p S n)
  | .ins C fs ds => ∃ dx vs, H p = some (.ins C dx (fs.zip vs)) ∧ fs.length = vs.length ∧ IsA B ds vs
def Owns (B H : Hp) : Own → Prop
  | [] => True
  | q :: os => B q.1 = none ∧ OwnAt w B H q.1 q.2 ∧ (∀ r ∈ os, r.1 ≠ q.1) ∧ Owns B H os
end
structure Fr where
  B : Hp
  H : Hp
structure Sh (w : World) (F : Fr) (B H : Hp) (os : Own) : Prop where
  eB : Same F.B B
  eH : Same F.H H
  bh : Same B H
  nw : ∀ a, F.H a ≠ none → B a = F.B a
  ow : Owns w B H os
  fr : ∀ q ∈ os, F.H q.1 = none
/-- what a call leaves -/
structure Up (B H B' H' : Hp) : Prop where
  eB : Same B B'
  eH : Same H H'
  bh : Same B' H'
  nw : ∀ a, H a ≠ none → B' a = B a
section
variable {w : World} {F : Fr} {B H B' H' : Hp} {os : Own}
theorem Sh.toUp (S : Sh w F B H os) : Up F.B F.H B H := ⟨S.eB, S.eH, S.bh, S.nw⟩
theorem OwnAt.there {p : Addr} : ∀ {o : Ob}, OwnAt w B H p o → ∃ x, H p = some x
  | .lst _, ⟨_, h, _⟩ => ⟨_, h⟩
  | .dic _ _, ⟨_, h, _⟩ => ⟨_, h⟩
  | .dct _ _, ⟨_, h, _⟩ => ⟨_, h⟩
  | .set _ _, h => ⟨_, h⟩
  | .ins _ _ _, ⟨_, _, h, _⟩ => ⟨_, h⟩
theorem OwnAt.mono {p : Addr} (eB : Same B B') (eH : H' p = H p) : ∀ {o : Ob}, OwnAt w B H p o → OwnAt w B' H' p o
  | .lst _, ⟨vs, h, a⟩ => ⟨vs, eH.trans h, a.mono eB⟩
  | .dic _ _, ⟨vs, h, l, a⟩ => ⟨vs, eH.trans h, l, a.mono eB⟩
  | .dct _ _, ⟨vs, h, l, a⟩ => ⟨vs, eH.trans h, l, a.mono eB⟩
  | .set _ _, h => eH.trans h
  | .ins _ _ _, ⟨dx, vs, h, l, a⟩ => ⟨dx, vs, eH.trans h, l, a.mono eB⟩
theorem Owns.mono (eB : Same B B') : ∀ {os : Own}, (∀ q ∈ os, B q.1 = none → B' q.1 = none) → (∀ q ∈ os, H' q.1 = H q.1) → Owns w B H os → Owns w B' H' os
  | [], _, _, _ => trivial
  | q :: os, hB, hH, ⟨h1, h2, h3, h4⟩ => ⟨hB q List.mem_cons_self h1, h2.mono eB (hH q List.mem_cons_self), h3, Owns.mono eB (fun r hr => hB r (List.mem_cons_of_mem _ hr)) (fun r hr => hH r (List.mem_cons_of_mem _ hr)) h4⟩
theorem Owns.mem : ∀ {os : Own}, Owns w B H os → ∀ q ∈ os, B q.1 = none ∧ OwnAt w B H q.1 q.2
  | [], _, q, hq => by cases hq
  | r :: os, ⟨h1, h2, _, h4⟩, q, hq => by
    rcases List.mem_cons.mp hq with rfl | hq
    · exact ⟨h1, h2⟩
    · exact Owns.mem h4 q hq
theorem Owns.get {k : Nat} {p : Addr} {o : Ob} (h : Owns w B H os) (e : os[k]? = some (p, o)) : B p = none ∧ OwnAt w B H p o := h.mem (p, o) (List.mem_of_getElem? e)
theorem Sh.get (S : Sh w F B H os) {k : Nat} {p : Addr} {o : Ob} (e : os[k]? = some (p, o)) : B p = none ∧ F.H p = none ∧ OwnAt w B H p o := ⟨(S.ow.get e).1, S.fr _ (List.mem_of_getElem? e), (S.ow.get e).2⟩
theorem Same.upd {p : Addr} {o : HO} (h : H p = none) : Same H (upd H p o) := fun b x e => by
  rw [upd_ne (ne_of_none e h)]
  exact e
theorem Sh.bnone (S : Sh w F B H os) {p : Addr} (h : H p = none) : B p = none := S.bh.free h
theorem Sh.fnone (S : Sh w F B H os) {p : Addr} (h : H p = none) : F.H p = none := S.eH.free h
/-- a new immutable object -/
theorem Sh.new (S : Sh w F B H os) {p : Addr} (h : H p = none) (o : HO) : Same B (upd B p o) ∧ Sh w F (upd B p o) (upd H p o) os := by
  have hb := S.bnone h
  refine ⟨Same.upd hb, S.eB.trans (Same.upd hb), S.eH.trans (Same.upd h), fun b x e => ?_, fun a ha => ?_, Owns.mono (Same.upd hb) (fun q hq e => ?_) (fun q hq => ?_) S.ow, S.fr⟩
  · by_cases z : b = p
    · subst z
      rw [upd_same] at e ⊢
      exact e
    · rw [upd_ne z] at e ⊢
      exact S.bh b x e
  · rw [upd_ne (fun z => by rw [z] at ha; exact ha (S.fnone h))]
    exact S.nw a ha
  · obtain ⟨x, hx⟩ := (S.ow.mem q hq).2.there
    rw [upd_ne (ne_of_none hx h)]
    exact e
  · obtain ⟨x, hx⟩ := (S.ow.mem q hq).2.there
    exact upd_ne (ne_of_none hx h)
/-- a new object of one's own -/
theorem Sh.newO (S : Sh w F B H os) {p : Addr} (h : H p = none) {x : HO} {o : Ob} (ha : OwnAt w B (upd H p x) p o) : Sh w F B (upd H p x) ((p, o) :: os) := by
  refine ⟨S.eB, S.eH.trans (Same.upd h), S.bh.trans (Same.upd h), S.nw, ⟨S.bnone h, ha, fun r hr z => ?_, Owns.mono (Same.refl B) (fun q hq e => e) (fun q hq => ?_) S.ow⟩, fun q hq => ?_⟩
  · obtain ⟨x, hx⟩ := (S.ow.mem r hr).2.there
    exact ne_of_none hx h z
  · obtain ⟨x, hx⟩ := (S.ow.mem q hq).2.there
    exact upd_ne (ne_of_none hx h)
  · rcases List.mem_cons.mp hq with rfl | hq
    · exact S.fnone h
    · exact S.fr q hq
theorem Owns.put {p : Addr} {o' : Ob} {x : HO} : ∀ {os : Own} {k : Nat} {o : Ob}, Owns w B H os → os[k]? = some (p, o) → OwnAt w B (upd H p x) p o' → Owns w B (upd H p x) (os.set k (p, o'))
  | [], k, o, _, e, _ => by simp at e
  | q :: os, 0, o, ⟨h1, h2, h3, h4⟩, e, ha => by
    have e' : q = (p, o) := Option.some.inj e
    subst e'
    exact ⟨h1, ha, h3, Owns.mono (Same.refl B) (fun q hq e => e) (fun q hq => upd_ne (h3 q hq)) h4⟩
  | q :: os, k + 1, o, ⟨h1, h2, h3, h4⟩, e, ha => by
    have e2 : os[k]? = some (p, o) := by simpa using e
    have hm : (p, o) ∈ os := List.mem_of_getElem? e2
    have hne : q.1 ≠ p := fun z => h3 _ hm z.symm
    refine ⟨h1, h2.mono (Same.refl B) (upd_ne hne), fun r hr => ?_, Owns.put h4 e2 ha⟩
    rcases List.mem_or_eq_of_mem_set hr with hr | rfl
    · exact h3 r hr
    · exact hne.symm
/-- an object of one's own changed -/
theorem Sh.put (S : Sh w F B H os) {k : Nat} {p : Addr} {o o' : Ob} {x : HO} (e : os[k]? = some (p, o)) (ha : OwnAt w B (upd H p x) p o') : Sh w F B (upd H p x) (os.set k (p, o')) := by
  obtain ⟨hb, hf, _⟩ := S.get e
  refine ⟨S.eB, fun b y h => ?_, fun b y h => ?_, S.nw, S.ow.put e ha, fun q hq => ?_⟩
  · rw [upd_ne (ne_of_none h hf)]
    exact S.eH b y h
  · rw [upd_ne (ne_of_none h hb)]
    exact S.bh b y h
  · rcases List.mem_or_eq_of_mem_set hq with hq | rfl
    · exact S.fr q hq
    · exact hf
theorem Owns.erase {x : HO} {p : Addr} : ∀ {os : Own} {k : Nat} {o : Ob}, Owns w B H os → os[k]? = some (p, o) → Owns w (upd B p x) H (os.eraseIdx k)
  | [], k, o, _, e => by simp at e
  | q :: os, 0, o, ⟨h1, h2, h3, h4⟩, e => by
    have e' : q = (p, o) := Option.some.inj e
    subst e'
    exact Owns.mono (Same.upd h1) (fun r hr z => by rw [upd_ne (h3 r hr)]; exact z) (fun _ _ => rfl) h4
  | q :: os, k + 1, o, ⟨h1, h2, h3, h4⟩, e => by
    have e2 : os[k]? = some (p, o) := by simpa using e
    have hm : (p, o) ∈ os := List.mem_of_getElem? e2
    have hne : q.1 ≠ p := fun z => h3 _ hm z.symm
    exact ⟨by rw [upd_ne hne]; exact h1, h2.mono (Same.upd (h4.get e2).1) rfl, fun r hr => h3 r (List.mem_of_mem_eraseIdx hr), Owns.erase h4 e2⟩
theorem Sh.freeze (S : Sh w F B H os) {k : Nat} {p : Addr} {o : Ob} {x : HO} (e : os[k]? = some (p, o)) (hx : H p = some x) : Same B (upd B p x) ∧ Sh w F (upd B p x) H (os.eraseIdx k) := by
  obtain ⟨hb, hf, _⟩ := S.get e
  refine ⟨Same.upd hb, S.eB.trans (Same.upd hb), S.eH, fun b y h => ?_, fun a ha => ?_, S.ow.erase e, fun q hq => S.fr q (List.mem_of_mem_eraseIdx hq)⟩
  · by_cases z : b = p
    · subst z
      rw [upd_same] at h
      rw [hx]
      exact h
    · rw [upd_ne z] at h
      exact S.bh b y h
  · rw [upd_ne (fun z => by rw [z] at ha; exact ha hf)]
    exact S.nw a ha
/-- an object of one's own forgotten -/
theorem Owns.drop1 : ∀ {os : Own} (k : Nat), Owns w B H os → Owns w B H (os.eraseIdx k)
  | [], _, h => h
  | q :: os, 0, ⟨_, _, _, h4⟩ => h4
  | q :: os, k + 1, ⟨h1, h2, h3, h4⟩ => ⟨h1, h2, fun r hr => h3 r (List.mem_of_mem_eraseIdx hr), Owns.drop1 k h4⟩
theorem Sh.drop (S : Sh w F B H os) (k : Nat) : Sh w F B H (os.eraseIdx k) := ⟨S.eB, S.eH, S.bh, S.nw, S.ow.drop1 k, fun q hq => S.fr q (List.mem_of_mem_eraseIdx hq)⟩
theorem Sh.same (S : Sh w F B H os) (hH : ∀ a, H' a = H a) : Sh w F B H' os := by
  have : H' = H := funext hH
  rw [this]
  exact S
/-- behind a call -/
theorem Sh.call (S : Sh w F B H os) (U : Up B H B' H') : Sh w F B' H' os := by
  refine ⟨S.eB.trans U.eB, S.eH.trans U.eH, U.bh, fun a ha => ?_, Owns.mono U.eB (fun q hq e => ?_) (fun q hq => ?_) S.ow, S.fr⟩
  · refine (U.nw a fun z => ?_).trans (S.nw a ha)
    exact ha (S.eH.free z)
  · obtain ⟨x, hx⟩ := (S.ow.mem q hq).2.there
    rw [U.nw q.1 (by rw [hx]; exact fun z => nomatch z)]
    exact e
  · obtain ⟨x, hx⟩ := (S.ow.mem q hq).2.there
    rw [hx]
    exact U.eH _ _ hx
def cut (H : Hp) (p : Addr) : Hp := fun a => if a = p then none else H a
theorem cut_self {p : Addr} : cut H p p = none := if_pos rfl
theorem cut_ne {p a : Addr} (h : a ≠ p) : cut H p a = H a := if_neg h
theorem cut_same {p : Addr} : Same (cut H p) H := fun b x e => by
  unfold cut at e
  split at e
  · cases e
  · exact e
theorem Owns.putC {p : Addr} {o' : Ob} : ∀ {os : Own} {k : Nat} {o : Ob}, Owns w B H os → os[k]? = some (p, o) → Up B (cut H p) B' H' → B' p = none → OwnAt w B' H' p o' → Owns w B' H' (os.set k (p, o'))
  | [], k, o, _, e, _, _, _ => by simp at e
  | q :: os, 0, o, ⟨h1, h2, h3, h4⟩, e, U, hb, ha => by
    have e' : q = (p, o) := Option.some.inj e
    subst e'
    refine ⟨hb, ha, h3, Owns.mono U.eB (fun r hr z => ?_) (fun r hr => ?_) h4⟩
    · obtain ⟨x, hx⟩ := (h4.mem r hr).2.there
      rw [U.nw r.1 (by rw [cut_ne (h3 r hr), hx]; exact fun z => nomatch z)]
      exact z
    · obtain ⟨x, hx⟩ := (h4.mem r hr).2.there
      rw [hx]
      exact U.eH _ _ (by rw [cut_ne (h3 r hr)]; exact hx)
  | q :: os, k + 1, o, ⟨h1, h2, h3, h4⟩, e, U, hb, ha => by
    have e2 : os[k]? = some (p, o) := by simpa using e
    have hm : (p, o) ∈ os := List.mem_of_getElem? e2
    have hne : q.1 ≠ p := fun z => h3 _ hm z.symm
    obtain ⟨x, hx⟩ := h2.there
    refine ⟨?_, h2.mono U.eB ?_, fun r hr => ?_, Owns.putC h4 e2 U hb ha⟩
    · rw [U.nw q.1 (by rw [cut_ne hne, hx]; exact fun z => nomatch z)]
      exact h1
    · rw [hx]
      exact U.eH _ _ (by rw [cut_ne hne]; exact hx)
    · rcases List.mem_or_eq_of_mem_set hr with hr | rfl
      · exact h3 r hr
      · exact hne.symm
/-- behind a call that changes one object -/
theorem Sh.callM (S : Sh w F B H os) {k : Nat} {p : Addr} {o o' : Ob} (e : os[k]? = some (p, o)) (U : Up B (cut H p) B' H') (hb : B' p = none) (ha : OwnAt w B' H' p o') : Sh w F B' H' (os.set k (p, o')) := by
  obtain ⟨hb0, hf, _⟩ := S.get e
  refine ⟨S.eB.trans U.eB, fun b x h => U.eH b x ?_, U.bh, fun a hx => ?_, S.ow.putC e U hb ha, fun q hq => ?_⟩
  · rw [cut_ne (ne_of_none h hf)]
    exact S.eH b x h
  · have hne : a ≠ p := fun z => by rw [z] at hx; exact hx hf
    refine (U.nw a ?_).trans (S.nw a hx)
    rw [cut_ne hne]
    exact fun z => hx (S.eH.free z)
  · rcases List.mem_or_eq_of_mem_set hq with hq | rfl
    · exact S.fr q hq
    · exact hf
/-- a def's own state at its start -/
theorem Sh.start (h : Same B H) : Sh w ⟨B, H⟩ B H [] := ⟨Same.refl _, Same.refl _, h, fun _ _ => rfl, trivial, fun q hq => by cases hq⟩
theorem Sh.startM {p : Addr} {o : Ob} (h : Same B H) (hb : B p = none) (ha : OwnAt w B H p o) : Sh w ⟨B, cut H p⟩ B H [(p, o)] :=
  ⟨Same.refl _, cut_same, h, fun _ _ => rfl, ⟨hb, ha, (fun r hr => nomatch hr), trivial⟩, fun q hq => by
    rcases List.mem_cons.mp hq with rfl | hq
    · exact cut_self
    · cases hq⟩
end
end FtR
/-! expressions over data states -/
namespace FtR
open PySem PySem.Spec PyProof.Rows L2
open FtM (getA putA)

/-- contexts that a piece of text is read in, all at once -/
structure Cxs where
  ι : Type
  X : ι → Cx
  P : Program
  w : World
  K : PySem.W.Frag
  mg : Str → Option Value
  base : Heap
  k : Nat
  hP : ∀ i, (X i).prog = P
  hw : ∀ i, (X i).w = w
  hK : ∀ i, (X i).K = K
  hm : ∀ i, (X i).mg = mg
  hb : ∀ i, (X i).base = base
  hr : ∀ i, Room k (X i).A
  calm : ∀ i, (X i).calm = true
def EX (C : Cxs) (e : Expr) : TE := fun σ H Q => ∃ te, (∀ i, PE (C.X i) e te) ∧ te σ H Q
def TX (C : Cxs) (e : Expr) : TT := fun σ H Q => ∃ te, (∀ i, PT (C.X i) e te) ∧ te σ H Q
def AX (C : Cxs) (es : List Expr) : TA := fun σ H Q => ∃ te, (∀ i, PA (C.X i) es te) ∧ te σ H Q
theorem pe_EX {C : Cxs} {e : Expr} (i : C.ι) : PE (C.X i) e (EX C e) := ⟨fun pins s σ H Q I ⟨_, h, q⟩ => (h i).run pins s σ H Q I q⟩
theorem pt_TX {C : Cxs} {e : Expr} (i : C.ι) : PT (C.X i) e (TX C e) := ⟨fun pins s σ H Q I ⟨_, h, q⟩ => (h i).run pins s σ H Q I q⟩
theorem pa_AX {C : Cxs} {es : List Expr} (i : C.ι) : PA (C.X i) es (AX C es) := ⟨fun pos pins s σ H Q I ⟨_, h, q⟩ => (h i).run pos pins s σ H Q I q⟩
section
variable (w : World) (F : Fr)
def Ev (te : TE) (ds : DEnv) (os : Own) (d : Dt) (os' : Own) : Prop := ∀ B H σ, Sh w F B H os → Slots B σ ds → ∀ Q : VK, (∀ v B' H', Same B B' → Sh w F B' H' os' → Is B' d v → Q v H') → te σ H Q
def EvN (te : TE) (ds : DEnv) (os : Own) (o : Ob) (os' : Own) : Prop := ∀ B H σ, Sh w F B H os → Slots B σ ds → ∀ Q : VK, (∀ p B' H', Same B B' → Sh w F B' H' ((p, o) :: os') → Q (.ref p) H') → te σ H Q
def EvB (te : TT) (ds : DEnv) (os : Own) (b : Bool) (os' : Own) : Prop := ∀ B H σ, Sh w F B H os → Slots B σ ds → ∀ Q : Bool → Hp → Prop, (∀ B' H', Same B B' → Sh w F B' H' os' → Q b H') → te σ H Q
def EvL (te : TA) (ds : DEnv) (os : Own) (xs : List Dt) (os' : Own) : Prop := ∀ B H σ, Sh w F B H os → Slots B σ ds → ∀ Q : List V → Hp → Prop, (∀ vs B' H', Same B B' → Sh w F B' H' os' → IsA B' xs vs → Q vs H') → te σ H Q
/-- by values -/
def RD (r : R2) (os : Own) (x y d : Dt) (os' : Own) : Prop := ∀ B H u v, Sh w F B H os → Is B x u → Is B y v → ∀ Q : VK, (∀ z B' H', Same B B' → Sh w F B' H' os' → Is B' d z → Q z H') → r u v H Q
def RN (r : R2) (os : Own) (x y : Dt) (o : Ob) (os' : Own) : Prop := ∀ B H u v, Sh w F B H os → Is B x u → Is B y v → ∀ Q : VK, (∀ p B' H', Same B B' → Sh w F B' H' ((p, o) :: os') → Q (.ref p) H') → r u v H Q
def RL (r : List V → Hp → VK → Prop) (os : Own) (xs : List Dt) (d : Dt) (os' : Own) : Prop := ∀ B H us, Sh w F B H os → IsA B xs us → ∀ Q : VK, (∀ z B' H', Same B B' → Sh w F B' H' os' → Is B' d z → Q z H') → r us H Q
def RLN (r : List V → Hp → VK → Prop) (os : Own) (xs : List Dt) (o : Ob) (os' : Own) : Prop := ∀ B H us, Sh w F B H os → IsA B xs us → ∀ Q : VK, (∀ p B' H', Same B B' → Sh w F B' H' ((p, o) :: os') → Q (.ref p) H') → r us H Q
def RM (r : V → List V → Hp → VK → Prop) (os : Own) (x : Dt) (xs : List Dt) (d : Dt) (os' : Own) : Prop := ∀ B H u us, Sh w F B H os → Is B x u → IsA B xs us → ∀ Q : VK, (∀ z B' H', Same B B' → Sh w F B' H' os' → Is B' d z → Q z H') → r u us H Q
end
def PX (C : Cxs) (F : Fr) (e : Expr) := Ev C.w F (EX C e)
def PN (C : Cxs) (F : Fr) (e : Expr) := EvN C.w F (EX C e)
def PB (C : Cxs) (F : Fr) (e : Expr) := EvB C.w F (TX C e)
def PL (C : Cxs) (F : Fr) (es : List Expr) := EvL C.w F (AX C es)
section
variable {C : Cxs} {F : Fr} {e a b c : Expr} {es : List Expr} {ds : DEnv} {os os1 os2 os3 : Own} {d x y z : Dt} {pos : Pos}
theorem px_of {te : TE} (h : ∀ i, PE (C.X i) e te) (g : Ev C.w F te ds os d os1) : PX C F e ds os d os1 := fun B H σ S L Q q => ⟨te, h, g B H σ S L Q q⟩
theorem pn_of {te : TE} {o : Ob} (h : ∀ i, PE (C.X i) e te) (g : EvN C.w F te ds os o os1) : PN C F e ds os o os1 := fun B H σ S L Q q => ⟨te, h, g B H σ S L Q q⟩
theorem pb_of {te : TT} {o : Bool} (h : ∀ i, PT (C.X i) e te) (g : EvB C.w F te ds os o os1) : PB C F e ds os o os1 := fun B H σ S L Q q => ⟨te, h, g B H σ S L Q q⟩
theorem pl_of {te : TA} {xs : List Dt} (h : ∀ i, PA (C.X i) es te) (g : EvL C.w F te ds os xs os1) : PL C F es ds os xs os1 := fun B H σ S L Q q => ⟨te, h, g B H σ S L Q q⟩
theorem PX.to (h : PX C F e ds os x os1) (k : x = d) : PX C F e ds os d os1 := k ▸ h
theorem PB.to {u v : Bool} (h : PB C F e ds os u os1) (k : u = v) : PB C F e ds os v os1 := k ▸ h
/-! ### names and constants -/
theorem x_var (i : Nat) {n : Str} (hd : ds[i]? = some (some d)) (hN : ∀ j, (C.X j).N[i]? = some n) (hv : ∀ j, Vis (C.X j).env.scope n) (h1 : (n == ("__debug__" : Str)) = false := by decide) (h2 : (n == ("__classdict__" : Str)) = false := by decide) : PX C F (.Name n pos) ds os d os :=
  px_of (fun j => pe_var (hN j) (hv j) h1 h2) fun B H σ S L Q q => by
    obtain ⟨v, h1, h2⟩ := L.get hd
    exact ⟨v, h1, q v B H (Same.refl _) S h2⟩
theorem ev_c {v : V} (h : ∀ B, Is B d v) : Ev C.w F (tC v) ds os d os := fun B H σ S L Q q => q v B H (Same.refl _) S (h B)
theorem x_int {i : Int} {j : Nat} : PX C F (.Constant (.int i) j pos) ds os (.int i) os := px_of (fun _ => pe_int) (ev_c fun _ => Is.mk_int)
theorem x_bl {i : Bool} {j : Nat} : PX C F (.Constant (.bool i) j pos) ds os (.bl i) os := px_of (fun _ => pe_bl) (ev_c fun _ => Is.mk_bl)
theorem x_non {j : Nat} : PX C F (.Constant .none j pos) ds os .non os := px_of (fun _ => pe_non) (ev_c fun _ => Is.mk_non)
theorem x_glob {i : Int} {n : Str} {t : Tok} (hm : C.mg n = some (.int i t)) (hg : ∀ j, Gl (C.X j) n) (hd : (n == ("__debug__" : Str)) = false := by decide) : PX C F (.Name n pos) ds os (.int i) os :=
  px_of (fun j => pe_glob (v := .int i) (hg j) (by rw [C.hm j]; exact hm) ⟨t, rfl⟩ hd) (ev_c fun _ => Is.mk_int)
theorem x_cls {p : Addr} {n : Str} (hm : C.mg n = some (.ref p)) (hg : ∀ j, Gl (C.X j) n) (hd : (n == ("__debug__" : Str)) = false := by decide) : PX C F (.Name n pos) ds os (.adr p) os :=
  px_of (fun j => pe_glob (v := .ref p) (hg j) (by rw [C.hm j]; exact hm) rfl hd) (ev_c fun _ => Is.mk_adr)
theorem x_ty {T : String} {n : Str} (hm : C.mg n = none) (hv : bootBuiltins n = some (.type T)) (hg : ∀ j, Gl (C.X j) n) (hn : n ≠ "__name__" := by decide) (hd : (n == ("__debug__" : Str)) = false := by decide) : PX C F (.Name n pos) ds os (.ty T) os :=
  px_of (fun j => pe_bltn (v := .ty T) (hg j) (by rw [C.hm j]; exact hm) hv rfl hn hd) (ev_c fun _ => Is.mk_ty)
/-! ### operators -/
theorem ev_op {r : R2} {ta tb : TE} (ha : Ev C.w F ta ds os x os1) (hb : Ev C.w F tb ds os1 y os2) (hr : RD C.w F r os2 x y d os3) : Ev C.w F (tOp r ta tb) ds os d os3 := fun B H σ S L Q q =>
  ha B H σ S L _ fun u B1 H1 e1 S1 i1 => hb B1 H1 σ S1 (L.mono e1) _ fun v B2 H2 e2 S2 i2 => hr B2 H2 u v S2 (i1.mono e2) i2 Q fun z B3 H3 e3 S3 i3 => q z B3 H3 ((e1.trans e2).trans e3) S3 i3
theorem ev_opN {r : R2} {ta tb : TE} {o : Ob} (ha : Ev C.w F ta ds os x os1) (hb : Ev C.w F tb ds os1 y os2) (hr : RN C.w F r os2 x y o os3) : EvN C.w F (tOp r ta tb) ds os o os3 := fun B H σ S L Q q =>
  ha B H σ S L _ fun u B1 H1 e1 S1 i1 => hb B1 H1 σ S1 (L.mono e1) _ fun v B2 H2 e2 S2 i2 => hr B2 H2 u v S2 (i1.mono e2) i2 Q fun z B3 H3 e3 S3 => q z B3 H3 ((e1.trans e2).trans e3) S3
theorem x_op {op : Operator} {r : R2} (ho : ∀ i, OpR (C.X i) (binaryOp op) r) (ha : PX C F a ds os x os1) (hb : PX C F b ds os1 y os2) (hr : RD C.w F r os2 x y d os3) : PX C F (.BinOp a op b pos) ds os d os3 :=
  px_of (fun i => pe_op (ho i) (pe_EX i) (pe_EX i)) (ev_op ha hb hr)
theorem n_op {op : Operator} {r : R2} {o : Ob} (ho : ∀ i, OpR (C.X i) (binaryOp op) r) (ha : PX C F a ds os x os1) (hb : PX C F b ds os1 y os2) (hr : RN C.w F r os2 x y o os3) : PN C F (.BinOp a op b pos) ds os o os3 :=
  pn_of (fun i => pe_op (ho i) (pe_EX i) (pe_EX i)) (ev_opN ha hb hr)
theorem rd_I0 {g : Int → Int → V} {i j : Int} {d : Dt} (h : ∀ B, Is B d (g i j)) : RD C.w F (rI0 g) os (.int i) (.int j) d os := fun B H u v S hu hv Q q => ⟨i, j, is_int hu, is_int hv, q _ B H (Same.refl _) S (h B)⟩
theorem rd_I {cc : Int → Int → Prop} {g : Int → Int → V} {i j : Int} {d : Dt} (hc : cc i j) (h : ∀ B, Is B d (g i j)) : RD C.w F (rI cc g) os (.int i) (.int j) d os := fun B H u v S hu hv Q q => ⟨i, j, is_int hu, is_int hv, hc, q _ B H (Same.refl _) S (h B)⟩
section
variable {i j : Int}
theorem x_add (ha : PX C F a ds os (.int i) os1) (hb : PX C F b ds os1 (.int j) os2) : PX C F (.BinOp a .Add b pos) ds os (.int (i + j)) os2 := x_op (fun _ => op_add) ha hb (rd_I0 fun _ => Is.mk_int)
theorem x_sub (ha : PX C F a ds os (.int i) os1) (hb : PX C F b ds os1 (.int j) os2) : PX C F (.BinOp a .Sub b pos) ds os (.int (i - j)) os2 := x_op (fun _ => op_sub) ha hb (rd_I0 fun _ => Is.mk_int)
theorem x_mul (ha : PX C F a ds os (.int i) os1) (hb : PX C F b ds os1 (.int j) os2) (h : CMul i j) : PX C F (.BinOp a .Mult b pos) ds os (.int (i * j)) os2 := x_op (fun _ => op_mul) ha hb (rd_I h fun _ => Is.mk_int)
theorem x_fdiv (ha : PX C F a ds os (.int i) os1) (hb : PX C F b ds os1 (.int j) os2) (h : CDiv i j) : PX C F (.BinOp a .FloorDiv b pos) ds os (.int (i / j)) os2 := x_op (fun _ => op_fdiv) ha hb (rd_I h fun _ => Is.mk_int)
theorem x_mod (ha : PX C F a ds os (.int i) os1) (hb : PX C F b ds os1 (.int j) os2) (h : 0 < j) : PX C F (.BinOp a .Mod b pos) ds os (.int (i % j)) os2 := x_op (fun _ => op_mod) ha hb (rd_I h fun _ => Is.mk_int)
theorem x_neg (ha : PX C F a ds os (.int i) os1) : PX C F (.UnaryOp .USub a pos) ds os (.int (-i)) os1 := px_of (fun _ => pe_un un_neg (pe_EX _)) fun B H σ S L Q q =>
  ha B H σ S L _ fun u B1 H1 e1 S1 i1 => ⟨i, is_int i1, q _ B1 H1 e1 S1 Is.mk_int⟩
/-! ### comparisons -/
theorem x_cmp {op : CmpOp} {r : R2} (ho : ∀ i, OpR (C.X i) (compareOp op) r) (ha : PX C F a ds os x os1) (hb : PX C F b ds os1 y os2) (hm : behindInMarks op b = false) (hr : RD C.w F r os2 x y d os3) : PX C F (.Compare a [op] [b] pos) ds os d os3 :=
  px_of (fun i => pe_cmpR (ho i) (pe_EX i) (pe_EX i) hm) (ev_op ha hb hr)
theorem x_lt (ha : PX C F a ds os (.int i) os1) (hb : PX C F b ds os1 (.int j) os2) : PX C F (.Compare a [.Lt] [b] pos) ds os (.bl (decide (i < j))) os2 := x_cmp (fun _ => op_lt) ha hb (nomark _) (rd_I0 fun _ => Is.mk_bl)
theorem x_le (ha : PX C F a ds os (.int i) os1) (hb : PX C F b ds os1 (.int j) os2) : PX C F (.Compare a [.LtE] [b] pos) ds os (.bl (decide (i ≤ j))) os2 := x_cmp (fun _ => op_le) ha hb (nomark _) (rd_I0 fun _ => Is.mk_bl)
theorem x_gt (ha : PX C F a ds os (.int i) os1) (hb : PX C F b ds os1 (.int j) os2) : PX C F (.Compare a [.Gt] [b] pos) ds os (.bl (decide (j < i))) os2 := x_cmp (fun _ => op_gt) ha hb (nomark _) (rd_I0 fun _ => Is.mk_bl)
theorem x_ge (ha : PX C F a ds os (.int i) os1) (hb : PX C F b ds os1 (.int j) os2) : PX C F (.Compare a [.GtE] [b] pos) ds os (.bl (decide (j ≤ i))) os2 := x_cmp (fun _ => op_ge) ha hb (nomark _) (rd_I0 fun _ => Is.mk_bl)
theorem dec_int (i j : Int) : decide (V.int i = V.int j) = decide (i = j) := by
  by_cases h : i = j
  · simp [h]
  · rw [decide_eq_false h, decide_eq_false (fun e => h (V.int.inj e))]
theorem x_eq (ha : PX C F a ds os (.int i) os1) (hb : PX C F b ds os1 (.int j) os2) : PX C F (.Compare a [.Eq] [b] pos) ds os (.bl (decide (i = j))) os2 := x_cmp (fun _ => op_eq) ha hb (nomark _) fun B H u v S hu hv Q q => by
  rw [is_int hu, is_int hv]
  exact ⟨rfl, q _ B H (Same.refl _) S (by rw [dec_int]; exact Is.mk_bl)⟩
theorem x_ne (ha : PX C F a ds os (.int i) os1) (hb : PX C F b ds os1 (.int j) os2) : PX C F (.Compare a [.NotEq] [b] pos) ds os (.bl (!decide (i = j))) os2 := x_cmp (fun _ => op_ne) ha hb (nomark _) fun B H u v S hu hv Q q => by
  rw [is_int hu, is_int hv]
  exact ⟨rfl, q _ B H (Same.refl _) S (by rw [dec_int]; exact Is.mk_bl)⟩
end
theorem C_hu (C : Cxs) (i : C.ι) : (C.X i).A.units + 65 < cLine := by have := (C.hr i).un; omega
theorem C_u1 (C : Cxs) (i : C.ι) : (C.X i).A.units + 1 < cLine := by have := (C.hr i).un; omega
theorem C_u64 (C : Cxs) (i : C.ι) : (C.X i).A.units + 64 < cLine := by have := (C.hr i).un; omega
/-- == and != of data -/
theorem x_eqD (ha : PX C F a ds os x os1) (hb : PX C F b ds os1 y os2) (hx : x.dat = true) (hy : y.dat = true) (sx : SeqAt.shaped x.toP = true) (sy : SeqAt.shaped y.toP = true) : PX C F (.Compare a [.Eq] [b] pos) ds os (.bl (PyData.eqv x.toP y.toP)) os2 :=
  x_cmp (r := rEqD C.K) (fun i => by rw [← C.hK i]; exact op_eqD (X := C.X i) (C_u64 C i)) ha hb (nomark _) fun B H u v S hu hv Q q => ⟨_, _, (hu.mono S.bh).dp hx, (hv.mono S.bh).dp hy, sx, sy, q _ B H (Same.refl _) S Is.mk_bl⟩
theorem x_neD (ha : PX C F a ds os x os1) (hb : PX C F b ds os1 y os2) (hx : x.dat = true) (hy : y.dat = true) (sx : SeqAt.shaped x.toP = true) (sy : SeqAt.shaped y.toP = true) : PX C F (.Compare a [.NotEq] [b] pos) ds os (.bl (!PyData.eqv x.toP y.toP)) os2 :=
  x_cmp (r := rNeD C.K) (fun i => by rw [← C.hK i]; exact op_neD (X := C.X i) (C_u64 C i)) ha hb (nomark _) fun B H u v S hu hv Q q => ⟨_, _, (hu.mono S.bh).dp hx, (hv.mono S.bh).dp hy, sx, sy, q _ B H (Same.refl _) S Is.mk_bl⟩
/-- a in t, t a tuple of data -/
theorem x_inDT {ys : List Dt} (ha : PX C F a ds os x os1) (hb : PX C F b ds os1 (.tup ys) os2) (hm : behindInMarks .In b = false) (hx : x.dat = true) (hy : dats ys = true) (sx : SeqAt.shaped x.toP = true) (sy : SeqAt.shaped (Dt.tup ys).toP = true) : PX C F (.Compare a [.In] [b] pos) ds os (.bl ((toPs ys).any fun z => PyData.eqv z x.toP)) os2 :=
  x_cmp (r := rInDT C.K) (fun i => by rw [← C.hK i]; exact op_inDT (X := C.X i) (C_hu C i)) ha hb hm fun B H u v S hu hv Q q => ⟨_, _, (hu.mono S.bh).dp hx, by have := (hv.mono S.bh).dp (K := C.K) (by simpa only [Dt.dat] using hy); simpa only [Dt.toP] using this, sx, by simpa only [Dt.toP] using sy, q _ B H (Same.refl _) S Is.mk_bl⟩
/-- an owned list or a list of data -/
inductive AsL (os : Own) : Dt → List Dt → Prop
  | dat (ds : List Dt) : AsL os (.lst ds) ds
  | own (k : Nat) {p : Addr} {ds : List Dt} (h : os[k]? = some (p, .lst ds)) : AsL os (.adr p) ds
theorem AsL.get {w : World} {B H : Hp} {xs : List Dt} {v : V} (h : AsL os x xs) (S : Sh w F B H os) (g : Is B x v) : ∃ p vs, v = .ref p ∧ H p = some (.lst vs) ∧ IsA B xs vs := by
  cases h with
  | dat =>
    obtain ⟨p, vs, h1, h2, h3⟩ := is_lst g
    exact ⟨p, vs, h1, S.bh _ _ h2, h3⟩
  | own k h =>
    obtain ⟨_, _, vs, h1, h2⟩ := S.get h
    exact ⟨_, vs, is_adr g, h1, h2⟩
/-- a list or a tuple -/
inductive AsQ (os : Own) : Dt → List Dt → Prop
  | lst {x : Dt} {ds : List Dt} (h : AsL os x ds) : AsQ os x ds
  | tup (ds : List Dt) : AsQ os (.tup ds) ds
theorem AsQ.get {w : World} {B H : Hp} {K : PySem.W.Frag} {xs : List Dt} {v : V} (h : AsQ os x xs) (S : Sh w F B H os) (g : Is B x v) : ∃ p vs, v = .ref p ∧ (SqL K H p vs ∨ SqT K H p vs) ∧ IsA B xs vs := by
  cases h with
  | lst h =>
    obtain ⟨p, vs, h1, h2, h3⟩ := h.get S g
    exact ⟨p, vs, h1, .inl (.inl (.inl h2)), h3⟩
  | tup =>
    obtain ⟨p, vs, h1, h2, h3⟩ := is_tup g
    exact ⟨p, vs, h1, .inr (.inl (.inl (S.bh _ _ h2))), h3⟩
theorem ints_flat (is : List Int) : (is.map V.int).all flatV = true := by
  rw [List.all_map]
  exact List.all_eq_true.mpr fun _ _ => rfl
theorem inV_ints (i : Int) : ∀ is : List Int, inV (.int i) (is.map V.int) = decide (i ∈ is)
  | [] => rfl
  | j :: is => by
    show (eqV (.int j) (.int i) || inV (.int i) (is.map V.int)) = _
    rw [inV_ints i is]
    show ((j == i) || decide (i ∈ is)) = _
    rw [show (j == i) = decide (i = j) from by rw [Bool.beq_eq_decide_eq]; exact decide_eq_decide.mpr eq_comm]
    simp only [List.mem_cons, Bool.decide_or]
/-- i in ints, i not in ints -/
theorem x_in {i : Int} {is : List Int} (ha : PX C F a ds os (.int i) os1) (hb : PX C F b ds os1 y os2) (hq : AsQ os2 y (is.map Dt.int)) (hm : behindInMarks .In b = false) : PX C F (.Compare a [.In] [b] pos) ds os (.bl (decide (i ∈ is))) os2 :=
  x_cmp (r := rIn C.K false) (fun i => by rw [← C.hK i]; exact op_in_seq (X := C.X i)) ha hb hm fun B H u v S hu hv Q q => by
    obtain ⟨p, vs, h1, h2, h3⟩ := hq.get (K := C.K) S hv
    rw [h3.ints] at h2
    rw [is_int hu]
    exact ⟨p, _, h1, h2, rfl, ints_flat _, by rw [if_neg Bool.false_ne_true, inV_ints]; exact q _ B H (Same.refl _) S Is.mk_bl⟩
theorem x_nin {i : Int} {is : List Int} (ha : PX C F a ds os (.int i) os1) (hb : PX C F b ds os1 y os2) (hq : AsQ os2 y (is.map Dt.int)) (hm : behindInMarks .NotIn b = false) : PX C F (.Compare a [.NotIn] [b] pos) ds os (.bl (!decide (i ∈ is))) os2 :=
  x_cmp (r := rIn C.K true) (fun i => by rw [← C.hK i]; exact op_notIn_seq (X := C.X i)) ha hb hm fun B H u v S hu hv Q q => by
    obtain ⟨p, vs, h1, h2, h3⟩ := hq.get (K := C.K) S hv
    rw [h3.ints] at h2
    rw [is_int hu]
    exact ⟨p, _, h1, h2, rfl, ints_flat _, by rw [if_pos rfl, inV_ints]; exact q _ B H (Same.refl _) S Is.mk_bl⟩
/-- i in an owned set -/
theorem x_inS {i : Int} {p : Addr} (k : Nat) {T : Int → Bool} {n : Nat} (ha : PX C F a ds os (.int i) os1) (hb : PX C F b ds os1 (.adr p) os2) (hs : os2[k]? = some (p, .set T n)) (hm : behindInMarks .In b = false) : PX C F (.Compare a [.In] [b] pos) ds os (.bl (T i)) os2 :=
  x_cmp (r := rSIn C.w) (fun i => by rw [← C.hw i]; exact or_sin (X := C.X i)) ha hb hm fun B H u v S hu hv Q q =>
    ⟨i, p, T, n, is_int hu, is_adr hv, (S.get hs).2.2, q _ B H (Same.refl _) S Is.mk_bl⟩
theorem x_ninS {i : Int} {p : Addr} (k : Nat) {T : Int → Bool} {n : Nat} (ha : PX C F a ds os (.int i) os1) (hb : PX C F b ds os1 (.adr p) os2) (hs : os2[k]? = some (p, .set T n)) (hm : behindInMarks .NotIn b = false) : PX C F (.Compare a [.NotIn] [b] pos) ds os (.bl (!T i)) os2 :=
  x_cmp (r := rSNotIn C.w) (fun i => by rw [← C.hw i]; exact or_snotin (X := C.X i)) ha hb hm fun B H u v S hu hv Q q =>
    ⟨i, p, T, n, is_int hu, is_adr hv, (S.get hs).2.2, q _ B H (Same.refl _) S Is.mk_bl⟩
/-! ### dicts as data -/
end
/-- the dict of a table -/
def dicOf (kvs : List (Int × Dt)) : Dt := .dic (kvs.map (·.1)) (kvs.map (·.2))
def dctOf (kvs : List ((Int × Int) × Dt)) : Dt := .dct (kvs.map (·.1)) (kvs.map (·.2))
def odic (kvs : List (Int × Dt)) : Ob := .dic (kvs.map (·.1)) (kvs.map (·.2))
def odct (kvs : List ((Int × Int) × Dt)) : Ob := .dct (kvs.map (·.1)) (kvs.map (·.2))
theorem kI_inj {a b : Int} : (kI a = kI b) ↔ a = b := ⟨fun h => Sum.inl.inj h, fun h => h ▸ rfl⟩
theorem kT_inj {a b : Int × Int} : (kT a = kT b) ↔ a = b := ⟨fun h => by
  obtain ⟨a1, a2⟩ := a
  obtain ⟨b1, b2⟩ := b
  have h' : ([Sum.inl a1, Sum.inl a2] : List Key) = [Sum.inl b1, Sum.inl b2] := h
  simp only [List.cons.injEq, Sum.inl.injEq, and_true] at h'
  rw [h'.1, h'.2], fun h => h ▸ rfl⟩
section
variable {κ μ : Type} [DecidableEq κ] [DecidableEq μ] {f : κ → μ} (hf : ∀ a b, f a = f b ↔ a = b) {B : Hp}
include hf
theorem valV_is (k : κ) : ∀ {kvs : List (κ × Dt)} {vs : List V}, IsA B (kvs.map (·.2)) vs → match getA kvs k, valV (((kvs.map (·.1)).map f).zip vs) (f k) with
    | some d, some v => Is B d v
    | none, none => True
    | _, _ => False
  | [], vs, h => by rw [h.inv0]; trivial
  | (k', d) :: kvs, _, h => by
    obtain ⟨v, r, rfl, h2, h3⟩ := IsA.inv (d := d) (ds := kvs.map (·.2)) h
    have ih := valV_is k h3
    have e1 : getA ((k', d) :: kvs) k = if k' = k then some d else getA kvs k := by
      unfold getA
      rw [List.find?_cons]
      by_cases e : k' = k
      · simp [e]
      · simp [e]
    have e2 : valV ((((k', d) :: kvs).map (·.1) |>.map f).zip (v :: r)) (f k) = if k' = k then some v else valV (((kvs.map (·.1)).map f).zip r) (f k) := by
      by_cases e : k' = k
      · subst e
        rw [if_pos rfl]
        exact valV_pos (p := (f k', v)) rfl
      · rw [if_neg e]
        exact valV_neg (p := (f k', v)) (fun z => e ((hf _ _).mp z))
    rw [e1, e2]
    by_cases e : k' = k
    · simp only [e, if_true]
      exact h2
    · simp only [e, if_false]
      exact ih
omit [DecidableEq μ] in
theorem map_put [DecidableEq μ] (k : κ) (d : Dt) (v : V) (hv : Is B d v) : ∀ {kvs : List (κ × Dt)} {vs : List V}, IsA B (kvs.map (·.2)) vs →
    ∃ us, (((kvs.map (·.1)).map f).zip vs).map (fun kv => if kv.1 = f k then (kv.1, v) else kv) = (((kvs.map fun kv => if kv.1 = k then (kv.1, d) else kv).map (·.1)).map f).zip us ∧ IsA B ((kvs.map fun kv => if kv.1 = k then (kv.1, d) else kv).map (·.2)) us
  | [], vs, h => ⟨[], by rw [h.inv0]; rfl, IsA.nil⟩
  | (k', d') :: kvs, _, h => by
    obtain ⟨v', r, rfl, h2, h3⟩ := IsA.inv (d := d') (ds := kvs.map (·.2)) h
    obtain ⟨us, e1, e2⟩ := map_put k d v hv h3
    by_cases e : k' = k
    · subst e
      refine ⟨v :: us, ?_, ?_⟩
      · simp only [List.map_cons, List.zip_cons_cons, if_true]
        rw [e1]
      · simp only [List.map_cons, if_true]
        exact .cons hv e2
    · have e' : ¬ f k' = f k := fun z => e ((hf _ _).mp z)
      refine ⟨v' :: us, ?_, ?_⟩
      · simp only [List.map_cons, List.zip_cons_cons, e', e, if_false]
        rw [e1]
      · simp only [List.map_cons, e, if_false]
        exact .cons h2 e2
theorem any_zip (k : κ) : ∀ {kvs : List (κ × Dt)} {vs : List V}, IsA B (kvs.map (·.2)) vs → ((((kvs.map (·.1)).map f).zip vs).any fun kv => decide (kv.1 = f k)) = (kvs.any fun kv => decide (kv.1 = k))
  | [], vs, h => by rw [h.inv0]; rfl
  | (k', d') :: kvs, _, h => by
    obtain ⟨v', r, rfl, h2, h3⟩ := IsA.inv (d := d') (ds := kvs.map (·.2)) h
    simp only [List.map_cons, List.zip_cons_cons, List.any_cons]
    rw [any_zip k h3, decide_eq_decide.mpr (hf k' k)]
theorem putK_is (k : κ) {d : Dt} {v : V} (hv : Is B d v) {kvs : List (κ × Dt)} {vs : List V} (h : IsA B (kvs.map (·.2)) vs) :
    ∃ us, putK (((kvs.map (·.1)).map f).zip vs) (f k) v = ((((putA kvs k d).map (·.1))).map f).zip us ∧ IsA B ((putA kvs k d).map (·.2)) us := by
  unfold putK putA
  rw [any_zip hf k h]
  split
  · exact map_put hf k d v hv h
  · refine ⟨vs ++ [v], ?_, ?_⟩
    · have hl : ((kvs.map (·.1)).map f).length = vs.length := by rw [List.length_map, List.length_map, ← h.length, List.length_map]
      rw [List.map_append, List.map_append, List.zip_append hl]
      rfl
    · rw [List.map_append]
      exact h.append (.cons hv .nil)
end
section
variable {C : Cxs} {F : Fr} {e a b c : Expr} {es : List Expr} {ds : DEnv} {os os1 os2 os3 : Own} {d x y z : Dt} {pos : Pos}
/-- a dict of ints, owned or data; of pairs -/
inductive AsD (os : Own) : Dt → List (Int × Dt) → Prop
  | dat (kvs : List (Int × Dt)) : AsD os (dicOf kvs) kvs
  | own (k : Nat) {p : Addr} {kvs : List (Int × Dt)} (h : os[k]? = some (p, odic kvs)) : AsD os (.adr p) kvs
inductive AsD2 (os : Own) : Dt → List ((Int × Int) × Dt) → Prop
  | dat (kvs : List ((Int × Int) × Dt)) : AsD2 os (dctOf kvs) kvs
  | own (k : Nat) {p : Addr} {kvs : List ((Int × Int) × Dt)} (h : os[k]? = some (p, odct kvs)) : AsD2 os (.adr p) kvs
theorem AsD.get {w : World} {B H : Hp} {kvs : List (Int × Dt)} {v : V} (h : AsD os x kvs) (S : Sh w F B H os) (g : Is B x v) : ∃ p vs, v = .ref p ∧ H p = some (.dK (((kvs.map (·.1)).map kI).zip vs)) ∧ IsA B (kvs.map (·.2)) vs := by
  cases h with
  | dat =>
    obtain ⟨p, vs, h1, h2, h3, h4⟩ := is_dic g
    exact ⟨p, vs, h1, S.bh _ _ h2, h4⟩
  | own k h =>
    obtain ⟨_, _, vs, h1, h2, h3⟩ := S.get h
    exact ⟨_, vs, is_adr g, h1, h3⟩
theorem AsD2.get {w : World} {B H : Hp} {kvs : List ((Int × Int) × Dt)} {v : V} (h : AsD2 os x kvs) (S : Sh w F B H os) (g : Is B x v) : ∃ p vs, v = .ref p ∧ H p = some (.dT (((kvs.map (·.1)).map kT).zip vs)) ∧ IsA B (kvs.map (·.2)) vs := by
  cases h with
  | dat =>
    obtain ⟨p, vs, h1, h2, h3, h4⟩ := is_dct g
    exact ⟨p, vs, h1, S.bh _ _ h2, h4⟩
  | own k h =>
    obtain ⟨_, _, vs, h1, h2, h3⟩ := S.get h
    exact ⟨_, vs, is_adr g, h1, h3⟩
theorem x_dget {i : Int} {kvs : List (Int × Dt)} (ha : PX C F a ds os x os1) (hb : PX C F b ds os1 (.int i) os2) (hd : AsD os2 x kvs) (hv : getA kvs i = some d) (hs : ∀ j : C.ι, NoSl b := by exact fun _ _ _ => rfl) : PX C F (.Subscript a b pos) ds os d os2 :=
  px_of (fun j => pe_dget (C_u1 C j) (pe_EX j) (pe_EX j) (hs j)) fun B H σ S L Q q =>
    ha B H σ S L _ fun u B1 H1 e1 S1 i1 => hb B1 H1 σ S1 (L.mono e1) _ fun v B2 H2 e2 S2 i2 => by
      obtain ⟨p, vs, h1, h2, h3⟩ := hd.get S2 (i1.mono e2)
      have hh := valV_is (f := kI) (fun _ _ => kI_inj) i h3
      rw [hv] at hh
      cases e : valV (((kvs.map (·.1)).map kI).zip vs) (kI i) with
      | none =>
        rw [e] at hh
        exact hh.elim
      | some z =>
        rw [e] at hh
        refine ⟨p, z, h1, ?_, q z B2 H2 (e1.trans e2) S2 hh⟩
        rw [is_int i2, ← e]
        exact DGet.k (k := kI i) h2
theorem x_dget2 {i j : Int} {kvs : List ((Int × Int) × Dt)} (ha : PX C F a ds os x os1) (hb : PX C F b ds os1 (.tup [.int i, .int j]) os2) (hd : AsD2 os2 x kvs) (hv : getA kvs (i, j) = some d) (hs : ∀ j : C.ι, NoSl b := by exact fun _ _ _ => rfl) : PX C F (.Subscript a b pos) ds os d os2 :=
  px_of (fun l => pe_dget (C_u1 C l) (pe_EX l) (pe_EX l) (hs l)) fun B H σ S L Q q =>
    ha B H σ S L _ fun u B1 H1 e1 S1 i1 => hb B1 H1 σ S1 (L.mono e1) _ fun v B2 H2 e2 S2 i2 => by
      obtain ⟨p, vs, h1, h2, h3⟩ := hd.get S2 (i1.mono e2)
      have hh := valV_is (f := kT) (fun _ _ => kT_inj) (i, j) h3
      rw [hv] at hh
      obtain ⟨tp, us, rfl, h5, h6⟩ := is_tup i2
      have eu := IsA.ints (is := [i, j]) h6
      subst eu
      cases e : valV (((kvs.map (·.1)).map kT).zip vs) (kT (i, j)) with
      | none =>
        rw [e] at hh
        exact hh.elim
      | some z =>
        rw [e] at hh
        refine ⟨p, z, h1, ?_, q z B2 H2 (e1.trans e2) S2 hh⟩
        rw [← e]
        exact DGet.t h2 (S2.bh _ _ h5)
theorem isSome_of {o : Option Dt} {u : Option V} {B : Hp} (h : match o, u with
    | some d, some v => Is B d v
    | none, none => True
    | _, _ => False) : u.isSome = o.isSome := by
  cases o <;> cases u <;> first | rfl | exact h.elim
theorem x_din {i : Int} {kvs : List (Int × Dt)} (ha : PX C F a ds os (.int i) os1) (hb : PX C F b ds os1 x os2) (hd : AsD os2 x kvs) (hm : behindInMarks .In b = false) : PX C F (.Compare a [.In] [b] pos) ds os (.bl (getA kvs i).isSome) os2 :=
  px_of (fun j => pe_cmp (pc_din (C_u1 C j) (pe_EX j) (pe_EX j)) hm) fun B H σ S L Q q =>
    ha B H σ S L _ fun u B1 H1 e1 S1 i1 => hb B1 H1 σ S1 (L.mono e1) _ fun v B2 H2 e2 S2 i2 => by
      obtain ⟨p, vs, h1, h2, h3⟩ := hd.get S2 i2
      refine ⟨p, valV (((kvs.map (·.1)).map kI).zip vs) (kI i), h1, ?_, q (.bl _) B2 H2 (e1.trans e2) S2 ?_⟩
      · rw [is_int i1]
        exact DGet.k (k := kI i) h2
      · rw [isSome_of (valV_is (f := kI) (fun _ _ => kI_inj) i h3)]
        exact Is.mk_bl
theorem x_dnin {i : Int} {kvs : List (Int × Dt)} (ha : PX C F a ds os (.int i) os1) (hb : PX C F b ds os1 x os2) (hd : AsD os2 x kvs) (hm : behindInMarks .NotIn b = false) : PX C F (.Compare a [.NotIn] [b] pos) ds os (.bl (!(getA kvs i).isSome)) os2 :=
  px_of (fun j => pe_cmp (pc_dnotin (C_u1 C j) (pe_EX j) (pe_EX j)) hm) fun B H σ S L Q q =>
    ha B H σ S L _ fun u B1 H1 e1 S1 i1 => hb B1 H1 σ S1 (L.mono e1) _ fun v B2 H2 e2 S2 i2 => by
      obtain ⟨p, vs, h1, h2, h3⟩ := hd.get S2 i2
      refine ⟨p, valV (((kvs.map (·.1)).map kI).zip vs) (kI i), h1, ?_, q (.bl _) B2 H2 (e1.trans e2) S2 ?_⟩
      · rw [is_int i1]
        exact DGet.k (k := kI i) h2
      · rw [isSome_of (valV_is (f := kI) (fun _ _ => kI_inj) i h3)]
        exact Is.mk_bl
theorem x_dnin2 {i j : Int} {kvs : List ((Int × Int) × Dt)} (ha : PX C F a ds os (.tup [.int i, .int j]) os1) (hb : PX C F b ds os1 x os2) (hd : AsD2 os2 x kvs) (hm : behindInMarks .NotIn b = false) : PX C F (.Compare a [.NotIn] [b] pos) ds os (.bl (!(getA kvs (i, j)).isSome)) os2 :=
  px_of (fun j => pe_cmp (pc_dnotin (C_u1 C j) (pe_EX j) (pe_EX j)) hm) fun B H σ S L Q q =>
    ha B H σ S L _ fun u B1 H1 e1 S1 i1 => hb B1 H1 σ S1 (L.mono e1) _ fun v B2 H2 e2 S2 i2 => by
      obtain ⟨p, vs, h1, h2, h3⟩ := hd.get S2 i2
      obtain ⟨tp, us, rfl, h5, h6⟩ := is_tup i1
      have eu := IsA.ints (is := [i, j]) h6
      subst eu
      refine ⟨p, valV (((kvs.map (·.1)).map kT).zip vs) (kT (i, j)), h1, ?_, q (.bl _) B2 H2 (e1.trans e2) S2 ?_⟩
      · exact DGet.t h2 (S2.bh _ _ (e2 _ _ h5))
      · rw [isSome_of (valV_is (f := kT) (fun _ _ => kT_inj) (i, j) h3)]
        exact Is.mk_bl
/-! ### None, tests, and, or, not, if -/
theorem x_isN (ha : PX C F a ds os d os1) (hb : PX C F b ds os1 .non os2) {k : Bool} (hk : ∀ B v, Is B d v → decide (v = V.non) = k) : PX C F (.Compare a [.Is] [b] pos) ds os (.bl k) os2 :=
  x_cmp (fun _ => op_isN) ha hb (nomark _) fun B H u v S hu hv Q q => ⟨is_non hv, by rw [hk B u hu]; exact q _ B H (Same.refl _) S Is.mk_bl⟩
theorem b_val {k : Bool} (h : PX C F a ds os (.bl k) os1) (he : ∀ i whole, isTrue a (C.X i).env whole = (do let v ← whole; standAt a.pos; holding [v] (truthy v)) := by intro _ _; rfl) : PB C F a ds os k os1 :=
  pb_of (fun i => pt_val (pe_EX i) (he i)) fun B H σ S L Q q => h B H σ S L _ fun v B1 H1 e1 S1 i1 => ⟨k, is_bl i1, q B1 H1 e1 S1⟩
theorem x_not {k : Bool} (h : PX C F a ds os (.bl k) os1) : PX C F (.UnaryOp .Not a pos) ds os (.bl (!k)) os1 :=
  px_of (fun i => pe_not (pe_EX i)) fun B H σ S L Q q => h B H σ S L _ fun v B1 H1 e1 S1 i1 => ⟨k, is_bl i1, q _ B1 H1 e1 S1 Is.mk_bl⟩
theorem b_not {k : Bool} (h : PB C F a ds os k os1) : PB C F (.UnaryOp .Not a pos) ds os (!k) os1 :=
  pb_of (fun i => pt_not (pt_TX i)) fun B H σ S L Q q => h B H σ S L _ fun B1 H1 e1 S1 => q B1 H1 e1 S1
theorem x_one {op : BoolOp} (h : PX C F a ds os d os1) : PX C F (.BoolOp op [a] pos) ds os d os1 := px_of (fun i => pe_one (pe_EX i)) h
theorem x_and {k l : Bool} {rest : List Expr} (ha : PX C F a ds os (.bl k) os1) (hb : k = true → PX C F (.BoolOp .And (b :: rest) pos) ds os1 (.bl l) os2) (hc : k = false → os1 = os2) : PX C F (.BoolOp .And (a :: b :: rest) pos) ds os (.bl (k && l)) os2 :=
  px_of (fun i => pe_and (pe_EX i) (pe_EX i)) fun B H σ S L Q q => ha B H σ S L _ fun v B1 H1 e1 S1 i1 => ⟨k, is_bl i1, by
    cases k with
    | true =>
      rw [if_pos rfl]
      exact hb rfl B1 H1 σ S1 (L.mono e1) Q fun v B2 H2 e2 S2 i2 => q v B2 H2 (e1.trans e2) S2 i2
    | false =>
      rw [if_neg Bool.false_ne_true]
      rw [hc rfl] at S1
      exact q _ B1 H1 e1 S1 Is.mk_bl⟩
theorem x_or {k l : Bool} {rest : List Expr} (ha : PX C F a ds os (.bl k) os1) (hb : k = false → PX C F (.BoolOp .Or (b :: rest) pos) ds os1 (.bl l) os2) (hc : k = true → os1 = os2) : PX C F (.BoolOp .Or (a :: b :: rest) pos) ds os (.bl (k || l)) os2 :=
  px_of (fun i => pe_or (pe_EX i) (pe_EX i)) fun B H σ S L Q q => ha B H σ S L _ fun v B1 H1 e1 S1 i1 => ⟨k, is_bl i1, by
    cases k with
    | false =>
      rw [if_neg Bool.false_ne_true]
      exact hb rfl B1 H1 σ S1 (L.mono e1) Q fun v B2 H2 e2 S2 i2 => q v B2 H2 (e1.trans e2) S2 i2
    | true =>
      rw [if_pos rfl]
      rw [hc rfl] at S1
      exact q _ B1 H1 e1 S1 Is.mk_bl⟩
theorem b_and1 {k : Bool} (h : PB C F a ds os k os1) (hp : ∀ i, PT (C.X i) e (TX C a)) : PB C F e ds os k os1 := pb_of hp h
/-- and, or as tests -/
def WX (C : Cxs) (e : Expr) : TT := fun σ H Q => ∃ te, (∀ i, PW (C.X i) e te) ∧ te σ H Q
theorem pw_WX (i : C.ι) : PW (C.X i) e (WX C e) := ⟨fun wh pins s σ H Q I ⟨_, h, q⟩ => (h i).run wh pins s σ H Q I q⟩
def PWB (C : Cxs) (F : Fr) (e : Expr) := EvB C.w F (WX C e)
theorem b_w {k : Bool} (h : PWB C F e ds os k os1) : PB C F e ds os k os1 := pb_of (fun i => (pw_WX i).pt) h
theorem w_and1 {k : Bool} (h : PB C F a ds os k os1) : PWB C F (.BoolOp .And [a] pos) ds os k os1 := fun B H σ S L Q q => ⟨_, fun i => pw_and1 (pt_TX i), h B H σ S L Q q⟩
theorem w_or1 {k : Bool} (h : PB C F a ds os k os1) : PWB C F (.BoolOp .Or [a] pos) ds os k os1 := fun B H σ S L Q q => ⟨_, fun i => pw_or1 (pt_TX i), h B H σ S L Q q⟩
theorem w_and {k l : Bool} {rest : List Expr} (ha : PB C F a ds os k os1) (hb : k = true → PWB C F (.BoolOp .And (b :: rest) pos) ds os1 l os2) (hc : k = false → os1 = os2) : PWB C F (.BoolOp .And (a :: b :: rest) pos) ds os (k && l) os2 :=
  fun B H σ S L Q q => ⟨_, fun i => pw_and (pt_TX i) (pw_WX i), ha B H σ S L _ fun B1 H1 e1 S1 => by
    cases k with
    | true =>
      rw [if_pos rfl]
      exact hb rfl B1 H1 σ S1 (L.mono e1) Q fun B2 H2 e2 S2 => q B2 H2 (e1.trans e2) S2
    | false =>
      rw [if_neg Bool.false_ne_true]
      rw [hc rfl] at S1
      exact q B1 H1 e1 S1⟩
theorem w_or {k l : Bool} {rest : List Expr} (ha : PB C F a ds os k os1) (hb : k = false → PWB C F (.BoolOp .Or (b :: rest) pos) ds os1 l os2) (hc : k = true → os1 = os2) : PWB C F (.BoolOp .Or (a :: b :: rest) pos) ds os (k || l) os2 :=
  fun B H σ S L Q q => ⟨_, fun i => pw_or (pt_TX i) (pw_WX i), ha B H σ S L _ fun B1 H1 e1 S1 => by
    cases k with
    | false =>
      rw [if_neg Bool.false_ne_true]
      exact hb rfl B1 H1 σ S1 (L.mono e1) Q fun B2 H2 e2 S2 => q B2 H2 (e1.trans e2) S2
    | true =>
      rw [if_pos rfl]
      rw [hc rfl] at S1
      exact q B1 H1 e1 S1⟩
theorem x_if {k : Bool} (hc : PB C F c ds os k os1) (ha : k = true → PX C F a ds os1 d os2) (hb : k = false → PX C F b ds os1 d os2) : PX C F (.IfExp c a b pos) ds os d os2 :=
  px_of (fun i => pe_ifExp (pt_TX i) (pe_EX i) (pe_EX i)) fun B H σ S L Q q => hc B H σ S L _ fun B1 H1 e1 S1 => by
    cases k with
    | true =>
      rw [if_pos rfl]
      exact ha rfl B1 H1 σ S1 (L.mono e1) Q fun v B2 H2 e2 S2 i2 => q v B2 H2 (e1.trans e2) S2 i2
    | false =>
      rw [if_neg Bool.false_ne_true]
      exact hb rfl B1 H1 σ S1 (L.mono e1) Q fun v B2 H2 e2 S2 i2 => q v B2 H2 (e1.trans e2) S2 i2
theorem x_chain {op op' : CmpOp} {r r' : R2} {k l : Bool} (ho : ∀ i, OpR (C.X i) (compareOp op) r) (ho' : ∀ i, OpR (C.X i) (compareOp op') r') (ha : PX C F a ds os x os1) (hb : PX C F b ds os1 y os2) (hr : RD C.w F r os2 x y (.bl k) os2)
    (hc : k = true → PX C F c ds os2 z os2) (hr' : k = true → RD C.w F r' os2 y z (.bl l) os2) (hm : lastMarks [op, op'] [b, c] = false) : PX C F (.Compare a [op, op'] [b, c] pos) ds os (.bl (k && l)) os2 :=
  px_of (fun i => pe_chain (ho i) (ho' i) (pe_EX i) (pe_EX i) (pe_EX i) hm) fun B H σ S L Q q =>
    ha B H σ S L _ fun u B1 H1 e1 S1 i1 => hb B1 H1 σ S1 (L.mono e1) _ fun v B2 H2 e2 S2 i2 => hr B2 H2 u v S2 (i1.mono e2) i2 _ fun t B3 H3 e3 S3 i3 => ⟨k, is_bl i3, by
      cases k with
      | true =>
        rw [if_pos rfl]
        exact hc rfl B3 H3 σ S3 (L.mono ((e1.trans e2).trans e3)) _ fun v4 B4 H4 e4 S4 i4 => hr' rfl B4 H4 v v4 S4 (i2.mono (e3.trans e4)) i4 Q fun t B5 H5 e5 S5 i5 => q t B5 H5 ((e1.trans e2).trans (e3.trans (e4.trans e5))) S5 i5
      | false =>
        rw [if_neg Bool.false_ne_true]
        exact q _ B3 H3 ((e1.trans e2).trans e3) S3 Is.mk_bl⟩
theorem x_lele {i j l : Int} (ha : PX C F a ds os (.int i) os1) (hb : PX C F b ds os1 (.int j) os2) (hc : PX C F c ds os2 (.int l) os2) (hm : lastMarks [.LtE, .LtE] [b, c] = false) : PX C F (.Compare a [.LtE, .LtE] [b, c] pos) ds os (.bl (decide (i ≤ j) && decide (j ≤ l))) os2 :=
  x_chain (fun _ => op_le) (fun _ => op_le) ha hb (rd_I0 fun _ => Is.mk_bl) (fun _ => hc) (fun _ => rd_I0 fun _ => Is.mk_bl) hm
/-! ### argument lists, tuples, lists -/
theorem l_nil : PL C F [] ds os [] os := pl_of (fun _ => pa_nil) fun B H σ S L Q q => q [] B H (Same.refl _) S IsA.nil
theorem l_cons {xs : List Dt} (ha : PX C F a ds os x os1) (hb : PL C F es ds os1 xs os2) (hs : ∀ i, starEach (a :: es) (C.X i).env = (false, eval a (C.X i).env) :: starEach es (C.X i).env := by intro _; rfl) : PL C F (a :: es) ds os (x :: xs) os2 :=
  pl_of (fun i => pa_cons (pe_EX i) (pa_AX i) (hs i)) fun B H σ S L Q q => ha B H σ S L _ fun u B1 H1 e1 S1 i1 => hb B1 H1 σ S1 (L.mono e1) _ fun vs B2 H2 e2 S2 i2 => q _ B2 H2 (e1.trans e2) S2 (.cons (i1.mono e2) i2)
/-- *xs within a display -/
theorem l_star {xs ys : List Dt} {p : Pos} (ha : PX C F a ds os x os1) (hq : AsQ os1 x ys) (hz : ∀ os, AsQ os x ys ∨ True := by exact fun _ => .inr trivial) (hb : PL C F es ds os1 xs os1) (hs : ∀ i, starEach (.Starred a p :: es) (C.X i).env = (true, eval a (C.X i).env) :: starEach es (C.X i).env := by intro _; rfl) : PL C F (.Starred a p :: es) ds os (ys ++ xs) os1 :=
  pl_of (te := StX.tStar C.K (EX C a) (AX C es)) (fun i => by rw [← C.hK i]; exact StX.pa_star (X := C.X i) (pe_EX i) (pa_AX i) (hs i)) fun B H σ S L Q q => ha B H σ S L _ fun u B1 H1 e1 S1 i1 => by
    obtain ⟨p, vs, h1, h2, h3⟩ := hq.get (K := C.K) S1 i1
    exact ⟨p, vs, h1, h2.symm, hb B1 H1 σ S1 (L.mono e1) _ fun us B2 H2 e2 S2 i2 => q _ B2 H2 (e1.trans e2) S2 ((h3.mono e2).append i2)⟩
theorem sz_ok {n : Nat} (h : n ≤ 1000000) : n ≤ sizeLine := by rw [sizeLine_eq]; omega
theorem sz_lt {n : Nat} (h : n < 1000000) : n < sizeLine := by rw [sizeLine_eq]; omega
theorem is_len {xs : List Dt} {vs : List V} {B : Hp} (h : IsA B xs vs) : vs.length = xs.length := h.length.symm
theorem Sh.newT {w : World} {B H : Hp} {xs : List Dt} {vs : List V} (S : Sh w F B H os) (h : IsA B xs vs) {p : Addr} (hp : H p = none) : Same B (upd B p (.tup vs)) ∧ Sh w F (upd B p (.tup vs)) (upd H p (.tup vs)) os ∧ Is (upd B p (.tup vs)) (.tup xs) (.ref p) :=
  let h1 := S.new hp (.tup vs)
  ⟨h1.1, h1.2, Is.mk_tup upd_same (h.mono h1.1)⟩
theorem Sh.newL {w : World} {B H : Hp} {xs : List Dt} {vs : List V} (S : Sh w F B H os) (h : IsA B xs vs) {p : Addr} (hp : H p = none) : Sh w F B (upd H p (.lst vs)) ((p, .lst xs) :: os) := S.newO hp ⟨vs, upd_same, h⟩
theorem x_tup {xs : List Dt} {n : Nat} (h : PL C F es ds os xs os1) (hz : xs.length ≤ 1000000 := by first | decide | (simp only [List.length_map, List.length_cons, List.length_nil]; omega)) : PX C F (.Tuple es n pos) ds os (.tup xs) os1 :=
  px_of (fun i => pe_tup (pa_AX i)) fun B H σ S L Q q => h B H σ S L _ fun vs B1 H1 e1 S1 i1 => ⟨by rw [is_len i1]; exact sz_ok hz, fun p hp =>
    let ⟨h1, h2, h3⟩ := S1.newT i1 hp
    q _ _ _ (e1.trans h1) h2 h3⟩
theorem n_lst {xs : List Dt} (h : PL C F es ds os xs os1) (hz : xs.length ≤ 1000000 := by first | decide | (simp only [List.length_map, List.length_cons, List.length_nil]; omega)) : PN C F (.List es pos) ds os (.lst xs) os1 :=
  pn_of (fun i => pe_lst (pa_AX i)) fun B H σ S L Q q => h B H σ S L _ fun vs B1 H1 e1 S1 i1 => ⟨by rw [is_len i1]; exact sz_ok hz, fun p hp => q p _ _ e1 (S1.newL i1 hp)⟩
/-- a new object frozen at once -/
theorem x_ofL {xs : List Dt} (h : PN C F e ds os (.lst xs) os1) : PX C F e ds os (.lst xs) os1 := fun B H σ S L Q q => h B H σ S L _ fun p B1 H1 e1 S1 => by
  obtain ⟨_, _, vs, h1, h2⟩ := S1.get (k := 0) rfl
  obtain ⟨h3, h4⟩ := S1.freeze (k := 0) rfl h1
  exact q _ _ _ (e1.trans h3) h4 (Is.mk_lst upd_same (h2.mono h3))
theorem x_ofD {kvs : List (Int × Dt)} (h : PN C F e ds os (odic kvs) os1) : PX C F e ds os (dicOf kvs) os1 := fun B H σ S L Q q => h B H σ S L _ fun p B1 H1 e1 S1 => by
  obtain ⟨_, _, vs, h1, h2, h3⟩ := S1.get (k := 0) rfl
  obtain ⟨h4, h5⟩ := S1.freeze (k := 0) rfl h1
  refine q _ _ _ (e1.trans h4) h5 ?_
  unfold dicOf
  simp only [Is]
  exact ⟨p, vs, rfl, upd_same, h2, h3.mono h4⟩
theorem n_dnew : PN C F (.Dict [] [] pos) ds os (.dic [] []) os := pn_of (fun _ => pe_dnewK) fun B H σ S L Q q => fun p hp => q p _ _ (Same.refl _) (S.newO hp ⟨[], upd_same, rfl, IsA.nil⟩)
theorem n_dnew2 : PN C F (.Dict [] [] pos) ds os (.dct [] []) os := pn_of (fun _ => pe_dnewT) fun B H σ S L Q q => fun p hp => q p _ _ (Same.refl _) (S.newO hp ⟨[], upd_same, rfl, IsA.nil⟩)
/-! ### subscripts -/
theorem atI_is {B : Hp} {xs : List Dt} {vs : List V} {i : Int} (h : IsA B xs vs) (e : atI xs i = some d) : ∃ v, atI vs i = some v ∧ Is B d v := by
  unfold atI at e ⊢
  rw [is_len h]
  cases hx : ixN xs.length i with
  | none =>
    rw [hx] at e
    cases e
  | some j =>
    rw [hx] at e
    exact h.get e
theorem x_ixL {xs : List Dt} {i : Int} (ha : PX C F a ds os x os1) (hb : PX C F b ds os1 (.int i) os2) (hq : AsL os2 x xs) (hv : atI xs i = some d) (hs : ∀ j : C.ι, PlainIx b := by exact fun _ _ _ => rfl) : PX C F (.Subscript a b pos) ds os d os2 :=
  px_of (te := tOp (rIxL C.K) (EX C a) (EX C b)) (fun j => by rw [← C.hK j]; exact pe_ix (X := C.X j) (pos := pos) ix_list (pe_EX j) (pe_EX j) (hs j)) (ev_op ha hb fun B H u v S hu hv' Q q => by
    obtain ⟨p, vs, h1, h2, h3⟩ := hq.get S hu
    obtain ⟨z, h4, h5⟩ := atI_is h3 hv
    exact ⟨p, vs, i, z, h1, is_int hv', .inl (.inl h2), h4, q z B H (Same.refl _) S h5⟩)
theorem x_ixT {xs : List Dt} {i : Int} (ha : PX C F a ds os (.tup xs) os1) (hb : PX C F b ds os1 (.int i) os2) (hv : atI xs i = some d) (hs : ∀ j : C.ι, PlainIx b := by exact fun _ _ _ => rfl) : PX C F (.Subscript a b pos) ds os d os2 :=
  px_of (te := tOp (rIxT C.K) (EX C a) (EX C b)) (fun j => by rw [← C.hK j]; exact pe_ix (X := C.X j) (pos := pos) ix_tup (pe_EX j) (pe_EX j) (hs j)) (ev_op ha hb fun B H u v S hu hv' Q q => by
    obtain ⟨p, vs, h1, h2, h3⟩ := is_tup hu
    obtain ⟨z, h4, h5⟩ := atI_is h3 hv
    exact ⟨p, vs, i, z, h1, is_int hv', .inl (.inl (S.bh _ _ h2)), h4, q z B H (Same.refl _) S h5⟩)
/-- slices -/
def cutD {α : Type} (xs : List α) (lo hi : Option Int) : List α := (xs.drop (HT.sIx xs.length 0 lo)).take (HT.sIx xs.length xs.length hi - HT.sIx xs.length 0 lo)
theorem cutD_is {B : Hp} {xs : List Dt} {vs : List V} {lo hi : Option Int} (h : IsA B xs vs) : IsA B (cutD xs lo hi) (cutV vs lo hi) := by
  unfold cutD cutV
  rw [is_len h]
  exact (h.drop _).take _
def OX (C : Cxs) (e : Option Expr) : TO := fun σ H Q => ∃ te, (∀ i, PO (C.X i) e te) ∧ te σ H Q
theorem po_OX {e : Option Expr} (i : C.ι) : PO (C.X i) e (OX C e) := ⟨fun pins s σ H Q I ⟨_, h, q⟩ => (h i).run pins s σ H Q I q⟩
def PP (C : Cxs) (F : Fr) (e : Option Expr) (ds : DEnv) (os : Own) (o : Option Int) : Prop := ∀ B H σ, Sh C.w F B H os → Slots B σ ds → ∀ Q : Option Int → Hp → Prop, (∀ B' H', Same B B' → Sh C.w F B' H' os → Q o H') → OX C e σ H Q
theorem p_none : PP C F none ds os none := fun B H σ S L Q q => ⟨_, fun _ => po_none, q B H (Same.refl _) S⟩
theorem p_some {i : Int} (h : PX C F e ds os (.int i) os) : PP C F (some e) ds os (some i) := fun B H σ S L Q q => ⟨_, fun j => po_some (pe_EX j), h B H σ S L _ fun v B1 H1 e1 S1 i1 => ⟨i, is_int i1, q B1 H1 e1 S1⟩⟩
theorem x_slT {xs : List Dt} {lo hi : Option Expr} {l u : Option Int} {p2 : Pos} (ha : PX C F a ds os (.tup xs) os1) (hl : PP C F lo ds os1 l) (hu : PP C F hi ds os1 u) : PX C F (.Subscript a (.Slice lo hi none p2) pos) ds os (.tup (cutD xs l u)) os1 :=
  px_of (te := tSl (rSlA C.K) (EX C a) (OX C lo) (OX C hi)) (fun j => by rw [← C.hK j]; exact pe_slice (X := C.X j) (pos := pos) (p2 := p2) sl_tupA (pe_EX j) (po_OX j) (po_OX j)) fun B H σ S L Q q =>
    ha B H σ S L _ fun v B1 H1 e1 S1 i1 => hl B1 H1 σ S1 (L.mono e1) _ fun B2 H2 e2 S2 => hu B2 H2 σ S2 (L.mono (e1.trans e2)) _ fun B3 H3 e3 S3 => by
      obtain ⟨p, vs, h1, h2, h3⟩ := is_tup (i1.mono (e2.trans e3))
      refine ⟨p, vs, h1, .inl (.inl (S3.bh _ _ h2)), fun hw => ?_, fun _ p' hp => ?_⟩
      · refine q _ B3 H3 (e1.trans (e2.trans e3)) S3 (Is.mk_tup (vs := cutV vs l u) ?_ (cutD_is h3))
        rw [show cutV vs l u = vs by
          unfold cutV
          rw [hw.1, hw.2]
          simp]
        exact h2
      · obtain ⟨h4, h5, h6⟩ := S3.newT (cutD_is (lo := l) (hi := u) h3) hp
        exact q _ _ _ (e1.trans (e2.trans (e3.trans h4))) h5 h6
theorem n_slL {xs : List Dt} {lo hi : Option Expr} {l u : Option Int} {p2 : Pos} (ha : PX C F a ds os x os1) (hq : AsL os1 x xs) (hl : PP C F lo ds os1 l) (hu : PP C F hi ds os1 u) : PN C F (.Subscript a (.Slice lo hi none p2) pos) ds os (.lst (cutD xs l u)) os1 :=
  pn_of (te := tSl (rSlL C.K) (EX C a) (OX C lo) (OX C hi)) (fun j => by rw [← C.hK j]; exact pe_slice (X := C.X j) (pos := pos) (p2 := p2) sl_list (pe_EX j) (po_OX j) (po_OX j)) fun B H σ S L Q q =>
    ha B H σ S L _ fun v B1 H1 e1 S1 i1 => hl B1 H1 σ S1 (L.mono e1) _ fun B2 H2 e2 S2 => hu B2 H2 σ S2 (L.mono (e1.trans e2)) _ fun B3 H3 e3 S3 => by
      obtain ⟨p, vs, h1, h2, h3⟩ := hq.get S3 (i1.mono (e2.trans e3))
      exact ⟨p, vs, h1, .inl (.inl h2), fun p' hp => q _ _ _ (e1.trans (e2.trans e3)) (S3.newL (cutD_is h3) hp)⟩
theorem x_revT {xs : List Dt} {k : Nat} {p1 p2 p3 : Pos} (ha : PX C F a ds os (.tup xs) os1) : PX C F (.Subscript a (.Slice none none (some (.UnaryOp .USub (.Constant (.int 1) k p1) p2)) p3) pos) ds os (.tup xs.reverse) os1 :=
  px_of (te := tRevT C.K (EX C a)) (fun j => by rw [← C.hK j]; exact pe_revT (X := C.X j) (k := k) (p1 := p1) (p2 := p2) (p3 := p3) (pos := pos) (pe_EX (e := a) j)) fun B H σ S L Q q =>
    ha B H σ S L _ fun v B1 H1 e1 S1 i1 => by
      obtain ⟨p, vs, h1, h2, h3⟩ := is_tup i1
      refine ⟨p, vs, h1, .inl (.inl (S1.bh _ _ h2)), fun p' hp => ?_⟩
      obtain ⟨h4, h5, h6⟩ := S1.newT h3.reverse hp
      exact q _ _ _ (e1.trans h4) h5 h6
theorem n_revL {xs : List Dt} {k : Nat} {p1 p2 p3 : Pos} (ha : PX C F a ds os x os1) (hq : AsL os1 x xs) : PN C F (.Subscript a (.Slice none none (some (.UnaryOp .USub (.Constant (.int 1) k p1) p2)) p3) pos) ds os (.lst xs.reverse) os1 :=
  pn_of (te := tRevL C.K (EX C a)) (fun j => by rw [← C.hK j]; exact pe_revL (X := C.X j) (k := k) (p1 := p1) (p2 := p2) (p3 := p3) (pos := pos) (pe_EX (e := a) j)) fun B H σ S L Q q =>
    ha B H σ S L _ fun v B1 H1 e1 S1 i1 => by
      obtain ⟨p, vs, h1, h2, h3⟩ := hq.get S1 i1
      exact ⟨p, vs, h1, .inl (.inl h2), fun p' hp => q _ _ _ e1 (S1.newL h3.reverse hp)⟩
/-! ### joining -/
theorem n_catL {xs ys : List Dt} (ha : PX C F a ds os x os1) (hb : PX C F b ds os1 y os2) (hx : AsL os2 x xs) (hy : AsL os2 y ys) (hz : xs.length + ys.length ≤ 1000000) : PN C F (.BinOp a .Add b pos) ds os (.lst (xs ++ ys)) os2 :=
  n_op (fun _ => op_cat) ha hb fun B H u v S hu hv Q q => by
    obtain ⟨p, vs, h1, h2, h3⟩ := hx.get S hu
    obtain ⟨p', vs', h4, h5, h6⟩ := hy.get S hv
    exact ⟨p, p', vs, vs', h1, h4, h2, h5, by rw [is_len h3, is_len h6]; exact sz_ok hz, fun r hr => q _ _ _ (Same.refl _) (S.newL (h3.append h6) hr)⟩
theorem x_catT {xs ys : List Dt} (ha : PX C F a ds os (.tup xs) os1) (hb : PX C F b ds os1 (.tup ys) os2) (hz : xs.length + ys.length ≤ 1000000) : PX C F (.BinOp a .Add b pos) ds os (.tup (xs ++ ys)) os2 :=
  x_op (r := rCatA C.K) (fun i => by rw [← C.hK i]; exact op_catA (X := C.X i)) ha hb fun B H u v S hu hv Q q => by
    obtain ⟨p, vs, h1, h2, h3⟩ := is_tup hu
    obtain ⟨p', vs', h4, h5, h6⟩ := is_tup hv
    refine ⟨p, p', vs, vs', h1, h4, .inl (.inl (S.bh _ _ h2)), .inl (.inl (S.bh _ _ h5)), by rw [is_len h3, is_len h6]; exact sz_ok hz, fun e => ?_, fun _ e => ?_, fun _ _ r hr => ?_⟩
    · subst e
      have : xs = [] := List.eq_nil_of_length_eq_zero (is_len h3).symm
      subst this
      exact q _ B H (Same.refl _) S (Is.mk_tup h5 h6)
    · subst e
      have : ys = [] := List.eq_nil_of_length_eq_zero (is_len h6).symm
      subst this
      exact q _ B H (Same.refl _) S (by rw [List.append_nil]; exact Is.mk_tup h2 h3)
    · obtain ⟨h4, h5, h6⟩ := S.newT (h3.append h6) hr
      exact q _ _ _ h4 h5 h6
theorem rep_one {α : Type} (a : α) : ∀ n : Nat, (List.replicate n [a]).flatten = List.replicate n a
  | 0 => rfl
  | n + 1 => by
    rw [List.replicate_succ, List.flatten_cons, rep_one a n]
    rfl
theorem isA_rep {B : Hp} {v : V} (h : Is B d v) : ∀ n : Nat, IsA B (List.replicate n d) (List.replicate n v)
  | 0 => IsA.nil
  | n + 1 => .cons h (isA_rep h n)
/-- [d] * n -/
theorem n_rep {n : Int} (ha : PX C F a ds os x os1) (hb : PX C F b ds os1 (.int n) os2) (hx : AsL os2 x [d]) (hz : n ≤ 1000000 ∧ -1000000 ≤ n) : PN C F (.BinOp a .Mult b pos) ds os (.lst (List.replicate n.toNat d)) os2 :=
  n_op (fun _ => op_rep) ha hb fun B H u v S hu hv Q q => by
    obtain ⟨p, vs, h1, h2, h3⟩ := hx.get S hu
    obtain ⟨v0, r, rfl, h4, h5⟩ := h3.inv
    rw [h5.inv0] at h2
    refine ⟨p, n, [v0], h1, is_int hv, h2, by omega, by omega, by rw [List.length_singleton, Nat.one_mul]; exact sz_ok (by omega), fun r hr => ?_⟩
    rw [rep_one]
    exact q _ _ _ (Same.refl _) (S.newL (isA_rep h4 _) hr)
end
end FtR
/-! calls of built-ins over data states -/
namespace FtR
open PySem PySem.Spec PyProof.Rows L2 PySem.W
open FtM (getA putA)
section
variable {C : Cxs} {F : Fr} {e a b c : Expr} {es : List Expr} {ds : DEnv} {os os1 os2 os3 : Own} {d x y z : Dt} {pos p p2 : Pos} {n : Str}
abbrev St1 (C : Cxs) (a : Expr) (es : List Expr) : Prop := ∀ i, starEach (a :: es) (C.X i).env = (false, eval a (C.X i).env) :: starEach es (C.X i).env
abbrev St2 (C : Cxs) (es : List Expr) (pos : Pos) : Prop := ∀ i, (backTo pos (starEach es (C.X i).env)).any (·.1) = false
theorem ev_cb {r : List V → Hp → VK → Prop} {ta : TA} {xs : List Dt} (ha : EvL C.w F ta ds os xs os1) (hr : RL C.w F r os1 xs d os2) : Ev C.w F (tCB r ta) ds os d os2 := fun B H σ S L Q q =>
  ha B H σ S L _ fun vs B1 H1 e1 S1 i1 => hr B1 H1 vs S1 i1 Q fun z B2 H2 e2 S2 i2 => q z B2 H2 (e1.trans e2) S2 i2
theorem ev_cbN {r : List V → Hp → VK → Prop} {ta : TA} {xs : List Dt} {o : Ob} (ha : EvL C.w F ta ds os xs os1) (hr : RLN C.w F r os1 xs o os2) : EvN C.w F (tCB r ta) ds os o os2 := fun B H σ S L Q q =>
  ha B H σ S L _ fun vs B1 H1 e1 S1 i1 => hr B1 H1 vs S1 i1 Q fun z B2 H2 e2 S2 => q z B2 H2 (e1.trans e2) S2
section
variable {r : List V → Hp → VK → Prop} {id T : String} {xs : List Dt} {o : Ob}
theorem x_bi (hc : ∀ i, CallR (C.X i) (.builtin id) r) (hm : C.mg n = none) (hv : bootBuiltins n = some (.builtin id)) (ha : PL C F (a :: es) ds os xs os1) (hr : RL C.w F r os1 xs d os2)
    (hg : ∀ i, Gl (C.X i) n := by intro _; rfl) (hn : n ≠ "__name__" := by decide) (hdb : (n == ("__debug__" : Str)) = false := by decide) (h1 : St1 C a es := by intro _; rfl) (h2 : St2 C es pos := by intro _; rfl) : PX C F (.Call (.Name n p) (a :: es) [] pos) ds os d os2 :=
  px_of (fun i => pe_callB (hc i) (hg i) (by rw [C.hm i]; exact hm) hv (pa_AX i) hn hdb (h1 i) (h2 i)) (ev_cb ha hr)
theorem n_bi (hc : ∀ i, CallR (C.X i) (.builtin id) r) (hm : C.mg n = none) (hv : bootBuiltins n = some (.builtin id)) (ha : PL C F (a :: es) ds os xs os1) (hr : RLN C.w F r os1 xs o os2)
    (hg : ∀ i, Gl (C.X i) n := by intro _; rfl) (hn : n ≠ "__name__" := by decide) (hdb : (n == ("__debug__" : Str)) = false := by decide) (h1 : St1 C a es := by intro _; rfl) (h2 : St2 C es pos := by intro _; rfl) : PN C F (.Call (.Name n p) (a :: es) [] pos) ds os o os2 :=
  pn_of (fun i => pe_callB (hc i) (hg i) (by rw [C.hm i]; exact hm) hv (pa_AX i) hn hdb (h1 i) (h2 i)) (ev_cbN ha hr)
theorem x_bt (hc : ∀ i, CallR (C.X i) (.type T) r) (hm : C.mg n = none) (hv : bootBuiltins n = some (.type T)) (ha : PL C F (a :: es) ds os xs os1) (hr : RL C.w F r os1 xs d os2)
    (hg : ∀ i, Gl (C.X i) n := by intro _; rfl) (hn : n ≠ "__name__" := by decide) (hdb : (n == ("__debug__" : Str)) = false := by decide) (h1 : St1 C a es := by intro _; rfl) (h2 : St2 C es pos := by intro _; rfl) : PX C F (.Call (.Name n p) (a :: es) [] pos) ds os d os2 :=
  px_of (fun i => pe_callTy (hc i) (hg i) (by rw [C.hm i]; exact hm) hv (pa_AX i) hn hdb (h1 i) (h2 i)) (ev_cb ha hr)
theorem n_bt (hc : ∀ i, CallR (C.X i) (.type T) r) (hm : C.mg n = none) (hv : bootBuiltins n = some (.type T)) (ha : PL C F (a :: es) ds os xs os1) (hr : RLN C.w F r os1 xs o os2)
    (hg : ∀ i, Gl (C.X i) n := by intro _; rfl) (hn : n ≠ "__name__" := by decide) (hdb : (n == ("__debug__" : Str)) = false := by decide) (h1 : St1 C a es := by intro _; rfl) (h2 : St2 C es pos := by intro _; rfl) : PN C F (.Call (.Name n p) (a :: es) [] pos) ds os o os2 :=
  pn_of (fun i => pe_callTy (hc i) (hg i) (by rw [C.hm i]; exact hm) hv (pa_AX i) hn hdb (h1 i) (h2 i)) (ev_cbN ha hr)
end
/-- one argument -/
theorem l1 (ha : PX C F a ds os x os1) (h1 : St1 C a [] := by intro _; rfl) : PL C F [a] ds os [x] os1 := l_cons ha l_nil h1
theorem l2 (ha : PX C F a ds os x os1) (hb : PX C F b ds os1 y os2) (h1 : St1 C a [b] := by intro _; rfl) (h2 : St1 C b [] := by intro _; rfl) : PL C F [a, b] ds os [x, y] os2 := l_cons ha (l_cons hb l_nil h2) h1
theorem l3 (ha : PX C F a ds os x os1) (hb : PX C F b ds os1 y os2) (hc : PX C F c ds os2 z os3) (h1 : St1 C a [b, c] := by intro _; rfl) (h2 : St1 C b [c] := by intro _; rfl) (h3 : St1 C c [] := by intro _; rfl) : PL C F [a, b, c] ds os [x, y, z] os3 := l_cons ha (l_cons hb (l_cons hc l_nil h3) h2) h1
theorem isA1 {B : Hp} {us : List V} (h : IsA B [x] us) : ∃ u, us = [u] ∧ Is B x u := by
  obtain ⟨u, r, rfl, h2, h3⟩ := h.inv
  rw [h3.inv0]
  exact ⟨u, rfl, h2⟩
theorem isA2 {B : Hp} {us : List V} (h : IsA B [x, y] us) : ∃ u v, us = [u, v] ∧ Is B x u ∧ Is B y v := by
  obtain ⟨u, r, rfl, h2, h3⟩ := h.inv
  obtain ⟨v, rfl, h4⟩ := isA1 h3
  exact ⟨u, v, rfl, h2, h4⟩
section
variable {i j k : Int} {us : List Dt} {is : List Int}
/-! ### numbers -/
theorem x_abs (hm : C.mg "abs" = none) (ha : PX C F a ds os (.int i) os1) (h1 : St1 C a [] := by intro _; rfl) (h2 : St2 C [] pos := by intro _; rfl) (hg : ∀ i, Gl (C.X i) "abs" := by intro _; rfl) : PX C F (.Call (.Name "abs" p) [a] [] pos) ds os (.int (i.natAbs : Int)) os1 :=
  x_bi (fun _ => call_abs) hm (by decide +kernel) (l1 ha h1) (fun B H us S h Q q => by
    obtain ⟨u, rfl, h3⟩ := isA1 h
    rw [is_int h3]
    refine ⟨i, rfl, ?_⟩
    rw [show (if i < 0 then -i else i) = (i.natAbs : Int) by split <;> omega]
    exact q _ B H (Same.refl _) S Is.mk_int) hg (by decide) (by decide) h1 h2
theorem x_max2 (hm : C.mg "max" = none) (ha : PX C F a ds os (.int i) os1) (hb : PX C F b ds os1 (.int j) os2) (h1 : St1 C a [b] := by intro _; rfl) (h3 : St1 C b [] := by intro _; rfl) (h2 : St2 C [b] pos := by intro _; rfl) (hg : ∀ i, Gl (C.X i) "max" := by intro _; rfl) : PX C F (.Call (.Name "max" p) [a, b] [] pos) ds os (.int (max i j)) os2 :=
  x_bi (fun l => call_max2 (C.calm l)) hm (by decide +kernel) (l2 ha hb h1 h3) (fun B H us S h Q q => by
    obtain ⟨u, v, rfl, h3, h4⟩ := isA2 h
    rw [is_int h3, is_int h4]
    refine ⟨i, j, rfl, ?_⟩
    rw [show (if j > i then j else i) = max i j by omega]
    exact q _ B H (Same.refl _) S Is.mk_int) hg (by decide) (by decide) h1 h2
theorem x_max3 (hm : C.mg "max" = none) (ha : PX C F a ds os (.int i) os1) (hb : PX C F b ds os1 (.int j) os2) (hc : PX C F c ds os2 (.int k) os3) (h1 : St1 C a [b, c] := by intro _; rfl) (h3 : St1 C b [c] := by intro _; rfl) (h4 : St1 C c [] := by intro _; rfl) (h2 : St2 C [b, c] pos := by intro _; rfl) (hg : ∀ i, Gl (C.X i) "max" := by intro _; rfl) : PX C F (.Call (.Name "max" p) [a, b, c] [] pos) ds os (.int (max (max i j) k)) os3 :=
  x_bi (fun l => call_max3 (C.calm l)) hm (by decide +kernel) (l3 ha hb hc h1 h3 h4) (fun B H us S h Q q => by
    obtain ⟨u, r, rfl, h3, h'⟩ := h.inv
    obtain ⟨v, w', rfl, h4, h5⟩ := isA2 h'
    rw [is_int h3, is_int h4, is_int h5]
    exact ⟨i, j, k, rfl, q _ B H (Same.refl _) S Is.mk_int⟩) hg (by decide) (by decide) h1 h2
theorem x_int1 (hm : C.mg "int" = none) (ha : PX C F a ds os (.int i) os1) (h1 : St1 C a [] := by intro _; rfl) (h2 : St2 C [] pos := by intro _; rfl) (hg : ∀ i, Gl (C.X i) "int" := by intro _; rfl) : PX C F (.Call (.Name "int" p) [a] [] pos) ds os (.int i) os1 :=
  x_bt (fun _ => call_int1) hm (by decide +kernel) (l1 ha h1) (fun B H us S h Q q => by
    obtain ⟨u, rfl, h3⟩ := isA1 h
    rw [is_int h3]
    exact .inl ⟨i, rfl, q _ B H (Same.refl _) S Is.mk_int⟩) hg (by decide) (by decide) h1 h2
theorem x_intB {t : Bool} (hm : C.mg "int" = none) (ha : PX C F a ds os (.bl t) os1) (h1 : St1 C a [] := by intro _; rfl) (h2 : St2 C [] pos := by intro _; rfl) (hg : ∀ i, Gl (C.X i) "int" := by intro _; rfl) : PX C F (.Call (.Name "int" p) [a] [] pos) ds os (.int (if t then 1 else 0)) os1 :=
  x_bt (fun _ => call_int1) hm (by decide +kernel) (l1 ha h1) (fun B H us S h Q q => by
    obtain ⟨u, rfl, h3⟩ := isA1 h
    rw [is_bl h3]
    exact .inr ⟨t, rfl, q _ B H (Same.refl _) S Is.mk_int⟩) hg (by decide) (by decide) h1 h2
/-! ### sequences -/
theorem x_len (hm : C.mg "len" = none) (ha : PX C F a ds os x os1) (hq : AsQ os1 x us) (h1 : St1 C a [] := by intro _; rfl) (h2 : St2 C [] pos := by intro _; rfl) (hg : ∀ i, Gl (C.X i) "len" := by intro _; rfl) : PX C F (.Call (.Name "len" p) [a] [] pos) ds os (.int (us.length : Int)) os1 :=
  x_bi (r := fun xs H Q => ∃ p ys, xs = [.ref p] ∧ (SqL C.K H p ys ∨ SqT C.K H p ys) ∧ Q (.int ys.length) H) (fun l => by rw [← C.hK l]; exact call_len_seq) hm PySem.boot_len (l1 ha h1) (fun B H us S h Q q => by
    obtain ⟨u, rfl, h3⟩ := isA1 h
    obtain ⟨p, vs, rfl, h4, h5⟩ := hq.get (K := C.K) S h3
    refine ⟨p, vs, rfl, h4, ?_⟩
    rw [is_len h5]
    exact q _ B H (Same.refl _) S Is.mk_int) hg (by decide) (by decide) h1 h2
theorem x_lenD {kvs : List (Int × Dt)} (hm : C.mg "len" = none) (ha : PX C F a ds os x os1) (hq : AsD os1 x kvs) (h1 : St1 C a [] := by intro _; rfl) (h2 : St2 C [] pos := by intro _; rfl) (hg : ∀ i, Gl (C.X i) "len" := by intro _; rfl) : PX C F (.Call (.Name "len" p) [a] [] pos) ds os (.int (kvs.length : Int)) os1 :=
  x_bi (fun _ => call_lenD) hm PySem.boot_len (l1 ha h1) (fun B H us S h Q q => by
    obtain ⟨u, rfl, h3⟩ := isA1 h
    obtain ⟨p, vs, rfl, h4, h5⟩ := hq.get S h3
    refine ⟨p, _, rfl, h4, ?_⟩
    rw [List.length_zip, List.length_map, List.length_map, is_len h5, List.length_map, Nat.min_self]
    exact q _ B H (Same.refl _) S Is.mk_int) hg (by decide) (by decide) h1 h2
theorem x_lenS {q : Addr} (k : Nat) {T : Int → Bool} {m : Nat} (hm : C.mg "len" = none) (ha : PX C F a ds os (.adr q) os1) (hs : os1[k]? = some (q, .set T m)) (h1 : St1 C a [] := by intro _; rfl) (h2 : St2 C [] pos := by intro _; rfl) (hg : ∀ i, Gl (C.X i) "len" := by intro _; rfl) : PX C F (.Call (.Name "len" p) [a] [] pos) ds os (.int (m : Int)) os1 :=
  x_bi (r := fun xs H Q => ∃ a S n, xs = [V.ref a] ∧ H a = some (SetO C.w a S n) ∧ Q (.int (n : Nat)) H) (fun l => by rw [← C.hw l]; exact call_lenS) hm PySem.boot_len (l1 ha h1) (fun B H us S h Q q' => by
    obtain ⟨u, rfl, h3⟩ := isA1 h
    rw [is_adr h3]
    exact ⟨q, T, m, rfl, (S.get hs).2.2, q' _ B H (Same.refl _) S Is.mk_int⟩) hg (by decide) (by decide) h1 h2
theorem n_list (hm : C.mg "list" = none) (ha : PX C F a ds os x os1) (hq : AsQ os1 x us) (h1 : St1 C a [] := by intro _; rfl) (h2 : St2 C [] pos := by intro _; rfl) (hg : ∀ i, Gl (C.X i) "list" := by intro _; rfl) : PN C F (.Call (.Name "list" p) [a] [] pos) ds os (.lst us) os1 :=
  n_bt (r := fun xs H Q => ∃ p ys, xs = [.ref p] ∧ (SqL C.K H p ys ∨ SqT C.K H p ys) ∧ ∀ l, H l = none → Q (.ref l) (upd H l (.lst ys))) (fun l => by rw [← C.hK l]; exact call_list_of) hm (by decide +kernel) (l1 ha h1) (fun B H us S h Q q => by
    obtain ⟨u, rfl, h3⟩ := isA1 h
    obtain ⟨p, vs, rfl, h4, h5⟩ := hq.get (K := C.K) S h3
    exact ⟨p, vs, rfl, h4, fun l hl => q _ B _ (Same.refl _) (S.newL h5 hl)⟩) hg (by decide) (by decide) h1 h2
theorem x_tupleL (hm : C.mg "tuple" = none) (ha : PX C F a ds os x os1) (hq : AsQ os1 x us) (h1 : St1 C a [] := by intro _; rfl) (h2 : St2 C [] pos := by intro _; rfl) (hg : ∀ i, Gl (C.X i) "tuple" := by intro _; rfl) : PX C F (.Call (.Name "tuple" p) [a] [] pos) ds os (.tup us) os1 :=
  x_bt (r := fun xs H Q => ∃ p ys, xs = [.ref p] ∧ ((SqL C.K H p ys ∧ ∀ l, H l = none → Q (.ref l) (upd H l (.tup ys))) ∨ (SqT C.K H p ys ∧ Q (.ref p) H))) (fun l => by rw [← C.hK l]; exact call_tuple_of) hm (by decide +kernel) (l1 ha h1) (fun B H us S h Q q => by
    obtain ⟨u, rfl, h3⟩ := isA1 h
    cases hq with
    | lst hq =>
      obtain ⟨p, vs, rfl, h4, h5⟩ := hq.get S h3
      refine ⟨p, vs, rfl, .inl ⟨.inl (.inl h4), fun l hl => ?_⟩⟩
      obtain ⟨h6, h7, h8⟩ := S.newT h5 hl
      exact q _ _ _ h6 h7 h8
    | tup =>
      obtain ⟨p, vs, rfl, h4, h5⟩ := is_tup h3
      exact ⟨p, vs, rfl, .inr ⟨.inl (.inl (S.bh _ _ h4)), q _ B H (Same.refl _) S (Is.mk_tup h4 h5)⟩⟩) hg (by decide) (by decide) h1 h2
theorem x_sum (hm : C.mg "sum" = none) (ha : PX C F a ds os x os1) (hq : AsL os1 x (is.map Dt.int)) (h1 : St1 C a [] := by intro _; rfl) (h2 : St2 C [] pos := by intro _; rfl) (hg : ∀ i, Gl (C.X i) "sum" := by intro _; rfl) : PX C F (.Call (.Name "sum" p) [a] [] pos) ds os (.int is.sum) os1 :=
  x_bi (r := rSum C.K) (fun l => by rw [← C.hK l]; exact cr_sum (C.calm l)) hm (by decide +kernel) (l1 ha h1) (fun B H us S h Q q => by
    obtain ⟨u, rfl, h3⟩ := isA1 h
    obtain ⟨p, vs, rfl, h4, h5⟩ := hq.get S h3
    rw [h5.ints] at h4
    exact ⟨p, is, rfl, .inl (.inl h4), q _ B H (Same.refl _) S Is.mk_int⟩) hg (by decide) (by decide) h1 h2
theorem x_minI {m : Int} (hm : C.mg "min" = none) (ha : PX C F a ds os x os1) (hq : AsL os1 x (is.map Dt.int)) (h0 : m ∈ is) (hl : ∀ j ∈ is, m ≤ j) (h1 : St1 C a [] := by intro _; rfl) (h2 : St2 C [] pos := by intro _; rfl) (hg : ∀ i, Gl (C.X i) "min" := by intro _; rfl) : PX C F (.Call (.Name "min" p) [a] [] pos) ds os (.int m) os1 :=
  x_bi (r := rMin C.K) (fun l => by rw [← C.hK l]; exact cr_min (C.calm l)) hm (by decide +kernel) (l1 ha h1) (fun B H us S h Q q => by
    obtain ⟨u, rfl, h3⟩ := isA1 h
    obtain ⟨p, vs, rfl, h4, h5⟩ := hq.get S h3
    rw [h5.ints] at h4
    refine ⟨p, is, rfl, .inl (.inl h4), List.length_pos_of_mem h0, fun m' h6 h7 => ?_⟩
    have e : m' = m := Int.le_antisymm (h7 m h0) (hl m' h6)
    subst e
    exact q _ B H (Same.refl _) S Is.mk_int) hg (by decide) (by decide) h1 h2
theorem x_any {bs : List Bool} (hm : C.mg "any" = none) (ha : PX C F a ds os x os1) (hq : AsL os1 x (bs.map Dt.bl)) (h1 : St1 C a [] := by intro _; rfl) (h2 : St2 C [] pos := by intro _; rfl) (hg : ∀ i, Gl (C.X i) "any" := by intro _; rfl) : PX C F (.Call (.Name "any" p) [a] [] pos) ds os (.bl (bs.any id)) os1 :=
  x_bi (r := rAny C.K) (fun l => by rw [← C.hK l]; exact cr_any (C.calm l)) hm (by decide +kernel) (l1 ha h1) (fun B H us S h Q q => by
    obtain ⟨u, rfl, h3⟩ := isA1 h
    obtain ⟨p, vs, rfl, h4, h5⟩ := hq.get S h3
    rw [h5.bools] at h4
    exact ⟨p, bs, rfl, .inl (.inl h4), q _ B H (Same.refl _) S Is.mk_bl⟩) hg (by decide) (by decide) h1 h2
theorem x_all {bs : List Bool} (hm : C.mg "all" = none) (ha : PX C F a ds os x os1) (hq : AsL os1 x (bs.map Dt.bl)) (h1 : St1 C a [] := by intro _; rfl) (h2 : St2 C [] pos := by intro _; rfl) (hg : ∀ i, Gl (C.X i) "all" := by intro _; rfl) : PX C F (.Call (.Name "all" p) [a] [] pos) ds os (.bl (bs.all id)) os1 :=
  x_bi (r := rAll C.K) (fun l => by rw [← C.hK l]; exact cr_all (C.calm l)) hm (by decide +kernel) (l1 ha h1) (fun B H us S h Q q => by
    obtain ⟨u, rfl, h3⟩ := isA1 h
    obtain ⟨p, vs, rfl, h4, h5⟩ := hq.get S h3
    rw [h5.bools] at h4
    exact ⟨p, bs, rfl, .inl (.inl h4), q _ B H (Same.refl _) S Is.mk_bl⟩) hg (by decide) (by decide) h1 h2
theorem perm_sorted_eq : ∀ {xs ys : List Int}, xs.Perm ys → xs.Pairwise (· ≤ ·) → ys.Pairwise (· ≤ ·) → xs = ys
  | [], ys, h, _, _ => (List.nil_perm.mp h).symm ▸ rfl
  | x :: xs, [], h, _, _ => absurd h (by simp)
  | x :: xs, y :: ys, h, h1, h2 => by
    obtain ⟨a1, a2⟩ := List.pairwise_cons.mp h1
    obtain ⟨b1, b2⟩ := List.pairwise_cons.mp h2
    have hx : x ∈ y :: ys := h.subset List.mem_cons_self
    have hy : y ∈ x :: xs := h.symm.subset List.mem_cons_self
    have e : x = y := by
      rcases List.mem_cons.mp hx with e | hx
      · exact e
      · rcases List.mem_cons.mp hy with e | hy
        · exact e.symm
        · exact Int.le_antisymm (a1 y hy) (b1 x hx)
    subst e
    rw [perm_sorted_eq (List.perm_cons x |>.mp h) a2 b2]
/-- sorted ints, told by what they are sorted -/
theorem n_sortedI {zs : List Int} (hm : C.mg "sorted" = none) (ha : PX C F a ds os x os1) (hq : AsL os1 x (is.map Dt.int)) (hp : zs.Perm is) (hs : zs.Pairwise (· ≤ ·)) (h1 : St1 C a [] := by intro _; rfl) (h2 : St2 C [] pos := by intro _; rfl) (hg : ∀ i, Gl (C.X i) "sorted" := by intro _; rfl) : PN C F (.Call (.Name "sorted" p) [a] [] pos) ds os (.lst (zs.map Dt.int)) os1 :=
  n_bi (r := rSortedI C.K) (fun l => by rw [← C.hK l]; exact cr_sortedI) hm (by decide +kernel) (l1 ha h1) (fun B H us S h Q q => by
    obtain ⟨u, rfl, h3⟩ := isA1 h
    obtain ⟨p, vs, rfl, h4, h5⟩ := hq.get S h3
    rw [h5.ints] at h4
    refine ⟨p, is, rfl, .inl (.inl h4), fun ns' r h6 h7 hr => ?_⟩
    rw [perm_sorted_eq (h6.trans hp.symm) h7 hs]
    exact q _ B _ (Same.refl _) (S.newL (IsA.of_ints zs) hr)) hg (by decide) (by decide) h1 h2
end
/-! ### rows of ints: least, sorted -/
theorem ltRow_cons (i j : Int) (r t : List Int) : FtM.ltR (i :: r) (j :: t) = if i = j then FtM.ltR r t else decide (i < j) := rfl
def eT (r : List Int) : Dt := .tup (r.map Dt.int)
def eL (r : List Int) : Dt := .lst (r.map Dt.int)
theorem toPs_ints : ∀ r : List Int, toPs (r.map Dt.int) = r.map PyData.int
  | [] => rfl
  | i :: r => by
    rw [List.map_cons, toPs, toPs_ints r]
    simp only [Dt.toP, List.map_cons]
theorem eT_toP (r : List Int) : (eT r).toP = .tuple (r.map PyData.int) := by
  unfold eT
  simp only [Dt.toP, toPs_ints]
theorem eL_toP (r : List Int) : (eL r).toP = .list (r.map PyData.int) := by
  unfold eL
  simp only [Dt.toP, toPs_ints]
theorem dats_ints : ∀ r : List Int, dats (r.map Dt.int) = true
  | [] => rfl
  | i :: r => by
    rw [List.map_cons, dats, dats_ints r]
    simp only [Dt.dat, Bool.and_self]
theorem eT_dat (r : List Int) : (eT r).dat = true := by
  unfold eT
  simp only [Dt.dat, dats_ints]
theorem eL_dat (r : List Int) : (eL r).dat = true := by
  unfold eL
  simp only [Dt.dat, dats_ints]
theorem ints_depth : ∀ r : List Int, PyData.depthAll (r.map PyData.int) ≤ 1
  | [] => by simp [PyData.depthAll]
  | i :: r => by
    have := ints_depth r
    simp only [List.map_cons, PyData.depthAll, PyData.depth]
    omega
theorem tup_depth (r : List Int) : (PyData.tuple (r.map PyData.int)).depth ≤ 2 := by
  have := ints_depth r
  simp only [PyData.depth]
  omega
theorem lst_depth (r : List Int) : (PyData.list (r.map PyData.int)).depth ≤ 2 := by
  have := ints_depth r
  simp only [PyData.depth]
  omega
theorem ints_alike : ∀ r t : List Int, alikeAll (r.map PyData.int) (t.map PyData.int) = true
  | [], _ => by simp [alikeAll]
  | _ :: _, [] => by simp [alikeAll]
  | i :: r, j :: t => by
    rw [List.map_cons, List.map_cons, alikeAll, ints_alike r t]
    simp [alike]
theorem tup_alike (r t : List Int) : alike (.tuple (r.map PyData.int)) (.tuple (t.map PyData.int)) = true := by
  rw [alike]
  exact ints_alike r t
theorem lst_alike (r t : List Int) : alike (.list (r.map PyData.int)) (.list (t.map PyData.int)) = true := by
  rw [alike]
  exact ints_alike r t
theorem lex_ints : ∀ r t : List Int, PyProof.Rows.lexLt itemOrd (keyToksAll (r.map PyData.int)) (keyToksAll (t.map PyData.int)) = FtM.ltR r t
  | [], [] => by
    simp only [List.map_nil, keyToksAll]
    rfl
  | [], j :: t => by
    simp only [List.map_nil, List.map_cons, keyToksAll]
    rw [lex_atom (by simp)]
    rfl
  | i :: r, [] => by
    simp only [List.map_nil, List.map_cons, keyToksAll]
    rw [lex_atom (by simp)]
    rfl
  | i :: r, j :: t => by
    rw [List.map_cons, List.map_cons, ltRow_cons]
    by_cases e : i = j
    · subst e
      rw [dataLt_all_yes (by simp [alike]) (by simp [PyData.eqv]), if_pos rfl, lex_ints r t]
    · rw [dataLt_all_no (by simp [alike]) (by simp [PyData.eqv, e]), if_neg e, dataLt_int]
theorem lt_tup (r t : List Int) : dataLt (.tuple (r.map PyData.int)) (.tuple (t.map PyData.int)) = FtM.ltR r t := by rw [dataLt_tuple, lex_ints]
theorem lt_lst (r t : List Int) : dataLt (.list (r.map PyData.int)) (.list (t.map PyData.int)) = FtM.ltR r t := by rw [dataLt_list, lex_ints]
def tupP (r : List Int) : PyData := .tuple (r.map PyData.int)
theorem tupP_inj {r t : List Int} (h : tupP r = tupP t) : r = t := by
  unfold tupP at h
  injection h with h
  exact List.map_inj_right (fun _ _ e => PyData.int.inj e) |>.mp h
theorem minD_rows (y : List Int) : ∀ ys : List (List Int), minD (tupP y) (ys.map tupP) = tupP (FtM.minR (y :: ys)) := by
  intro ys
  show (ys.map tupP).foldl (fun a y => if dataLt y a then y else a) (tupP y) = tupP (ys.foldl (fun a y => if FtM.ltR y a = true then y else a) y)
  induction ys generalizing y with
  | nil => rfl
  | cons z zs ih =>
    rw [List.map_cons, List.foldl_cons, List.foldl_cons, ← ih]
    congr 1
    rw [show dataLt (tupP z) (tupP y) = FtM.ltR z y from lt_tup z y]
    split <;> rfl
theorem toPs_rows (rows : List (List Int)) : toPs (rows.map eT) = rows.map tupP := by
  rw [toPs_map, List.map_map]
  exact List.map_congr_left fun r _ => eT_toP r
theorem dats_rows (rows : List (List Int)) : dats (rows.map eT) = true := by
  rw [dats_all, List.all_map]
  exact List.all_eq_true.mpr fun r _ => eT_dat r
theorem rows_depth : ∀ rows : List (List Int), PyData.depthAll (rows.map tupP) ≤ 2
  | [] => by simp [PyData.depthAll]
  | r :: rows => by
    have h1 := rows_depth rows
    have h2 := tup_depth r
    simp only [List.map_cons, PyData.depthAll]
    unfold tupP
    unfold tupP at h1
    omega
def KX (C : Cxs) (es : List Keyword) : TA := fun σ H Q => ∃ te, (∀ i, PK (C.X i) es te) ∧ te σ H Q
theorem pk_KX {es : List Keyword} (i : C.ι) : PK (C.X i) es (KX C es) := ⟨fun pos pins s σ H Q I ⟨_, h, q⟩ => (h i).run pos pins s σ H Q I q⟩
def PKL (C : Cxs) (F : Fr) (es : List Keyword) := EvL C.w F (KX C es)
theorem k1 {nm : Option Str} {kp : Pos} (ha : PX C F a ds os x os1) : PKL C F [⟨nm, a, kp⟩] ds os [x] os1 := fun B H σ S L Q q => ⟨_, fun i => pk_cons (pe_EX i) pk_nil, ha B H σ S L _ fun v B1 H1 e1 S1 i1 => q [v] B1 H1 e1 S1 (.cons i1 .nil)⟩
/-- min(rows, default=()) -/
theorem x_minRows {rows : List (List Int)} {kp : Pos} (hm : C.mg "min" = none) (ha : PX C F a ds os x os1) (hq : AsL os1 x (rows.map eT)) (hb : PX C F b ds os1 (.tup []) os1) (h1 : St1 C a [] := by intro _; rfl)
    (h2 : ∀ i, backTo pos (starEach [a] (C.X i).env) = (false, eval a (C.X i).env) :: backTo pos (starEach [] (C.X i).env) := by intro _; rfl) (h3 : ∀ i, (backTo pos (starEach [a] (C.X i).env)).any (·.1) = false := by intro _; rfl)
    (h4 : ∀ i, (backToKw pos (keywordEach [⟨some "default", b, kp⟩] (C.X i).env)).all (·.1.isSome) = true := by intro _; rfl) (h5 : ∀ i, (backToKw pos (keywordEach [⟨some "default", b, kp⟩] (C.X i).env)).any (·.1.isNone) = false := by intro _; rfl)
    (h6 : ∀ i, (backToKw pos (keywordEach [⟨some "default", b, kp⟩] (C.X i).env)).filterMap (·.1) = [Str.ofString "default"] := by intro _; rfl) (hg : ∀ i, Gl (C.X i) "min" := by intro _; rfl) : PX C F (.Call (.Name "min" p) [a] [⟨some "default", b, kp⟩] pos) ds os (eT (FtM.minR rows)) os1 :=
  px_of (te := tCKw (rMinD C.K) (AX C [a]) (KX C [⟨some "default", b, kp⟩])) (fun i => by
    rw [← C.hK i]
    exact pe_callBK (cr_minD (C.calm i) (C_u64 C i)) (hg i) (by rw [C.hm i]; exact hm) (by decide +kernel) (pa_AX i) (pk_KX i) (by decide) (by decide) (h2 i) (h3 i) (h4 i) (h5 i) (h6 i)) fun B H σ S L Q q =>
      l1 ha h1 B H σ S L _ fun us B1 H1 e1 S1 i1 => k1 hb B1 H1 σ S1 (L.mono e1) _ fun zs B2 H2 e2 S2 i2 => by
        obtain ⟨u, rfl, h7⟩ := isA1 i1
        obtain ⟨z, rfl, h8⟩ := isA1 i2
        obtain ⟨p, vs, rfl, h9, h10⟩ := hq.get S2 (h7.mono e2)
        refine ⟨p, z, vs, rows.map tupP, rfl, rfl, .inl (.inl h9), by rw [← toPs_rows]; exact (h10.mono S2.bh).dp (dats_rows rows), ⟨fun x hx y hy => ?_, fun x hx => ?_⟩, Nat.le_trans (rows_depth rows) (by decide), fun e => ?_, fun y ys i v e hv hi => ?_⟩
        · obtain ⟨r, _, rfl⟩ := List.mem_map.mp hx
          obtain ⟨t, _, rfl⟩ := List.mem_map.mp hy
          exact tup_alike r t
        · obtain ⟨r, _, rfl⟩ := List.mem_map.mp hx
          exact fun z => nomatch z
        · have e0 : rows = [] := List.map_eq_nil_iff.mp e
          subst e0
          exact q _ B2 H2 (e1.trans e2) S2 h8
        · cases rows with
          | nil => cases e
          | cons r rs =>
            have e3 : tupP r = y := (List.cons.inj e).1
            have e4 : rs.map tupP = ys := (List.cons.inj e).2
            subst e3 e4
            rw [minD_rows, List.getElem?_map] at hi
            cases hr : (r :: rs)[i]? with
            | none =>
              rw [hr] at hi
              cases hi
            | some t =>
              rw [hr] at hi
              have e5 : t = FtM.minR (r :: rs) := tupP_inj (Option.some.inj hi)
              have hd : ((r :: rs).map eT)[i]? = some (eT t) := by rw [List.getElem?_map, hr]; rfl
              obtain ⟨v', h11, h12⟩ := h10.get hd
              rw [hv] at h11
              cases h11
              exact q _ B2 H2 (e1.trans e2) S2 (e5 ▸ h12)
/-- min(r, t) of tuples of ints -/
theorem x_min2T {r t : List Int} (hm : C.mg "min" = none) (ha : PX C F a ds os (eT r) os1) (hb : PX C F b ds os1 (eT t) os2) (h1 : St1 C a [b] := by intro _; rfl) (h3 : St1 C b [] := by intro _; rfl) (h2 : St2 C [b] pos := by intro _; rfl) (hg : ∀ i, Gl (C.X i) "min" := by intro _; rfl) : PX C F (.Call (.Name "min" p) [a, b] [] pos) ds os (eT (if FtM.ltR t r = true then t else r)) os2 :=
  x_bi (r := rMin2D C.K) (fun l => by rw [← C.hK l]; exact cr_min2D (C.calm l) (C_u64 C l)) hm (by decide +kernel) (l2 ha hb h1 h3) (fun B H us S h Q q => by
    obtain ⟨u, v, rfl, h3, h4⟩ := isA2 h
    refine ⟨u, v, tupP r, tupP t, rfl, ?_, ?_, ⟨fun x hx y hy => ?_, fun x hx => ?_⟩, ?_, ?_⟩
    · have := (h3.mono S.bh).dp (K := C.K) (eT_dat r)
      rw [eT_toP] at this
      exact this
    · have := (h4.mono S.bh).dp (K := C.K) (eT_dat t)
      rw [eT_toP] at this
      exact this
    · simp only [List.mem_cons, List.not_mem_nil, or_false] at hx hy
      rcases hx with rfl | rfl <;> rcases hy with rfl | rfl <;> exact tup_alike _ _
    · simp only [List.mem_cons, List.not_mem_nil, or_false] at hx
      rcases hx with rfl | rfl <;> exact fun z => nomatch z
    · exact Nat.le_trans (rows_depth [r, t]) (by decide)
    · rw [show dataLt (tupP t) (tupP r) = FtM.ltR t r from lt_tup t r]
      by_cases hl : FtM.ltR t r = true
      · rw [if_pos hl]
        exact q _ B H (Same.refl _) S (by rw [if_pos hl]; exact h4)
      · rw [if_neg hl]
        exact q _ B H (Same.refl _) S (by rw [if_neg hl]; exact h3)) hg (by decide) (by decide) h1 h2
def leRow (r t : List Int) : Bool := !FtM.ltR t r
theorem dataLe_of {β : Type} {enc : β → PyData} {f : β → List Int} (h : ∀ a b, dataLt (enc a) (enc b) = FtM.ltR (f a) (f b)) : dataLe false enc = fun a b => leRow (f a) (f b) := by
  funext a b
  show (!PyProof.Rows.lexLt itemOrd (keyToks (enc b)) (keyToks (enc a))) = _
  unfold leRow
  rw [← h b a]
  rfl
theorem paired_of {β : Type} {enc : β → Dt} {B : Hp} : ∀ {bs : List β} {vs : List V}, IsA B (bs.map enc) vs → Paired (fun v b => Is B (enc b) v) vs bs
  | [], _, h => by
    rw [h.inv0]
    exact .nil
  | b :: bs, _, h => by
    obtain ⟨v, r, rfl, h2, h3⟩ := IsA.inv (d := enc b) (ds := bs.map enc) h
    exact .cons h2 (paired_of h3)
theorem of_paired {β : Type} {enc : β → Dt} {B : Hp} : ∀ {bs : List β} {vs : List V}, Paired (fun v b => Is B (enc b) v) vs bs → IsA B (bs.map enc) vs
  | _, _, .nil => IsA.nil
  | _, _, .cons h t => .cons h (of_paired t)
/-- sorted(xs), tuples or lists of ints -/
theorem n_sortedT {β : Type} {enc : β → Dt} {f : β → List Int} {bs : List β} (hm : C.mg "sorted" = none) (ha : PX C F a ds os x os1) (hq : AsL os1 x (bs.map enc)) (he : (∀ b, enc b = eT (f b) ∧ f b ≠ []) ∨ ∀ b, enc b = eL (f b)) (h1 : St1 C a [] := by intro _; rfl) (h2 : St2 C [] pos := by intro _; rfl) (hg : ∀ i, Gl (C.X i) "sorted" := by intro _; rfl) :
    PN C F (.Call (.Name "sorted" p) [a] [] pos) ds os (.lst ((bs.mergeSort fun a b => leRow (f a) (f b)).map enc)) os1 := by
  have hd : ∀ b, (enc b).dat = true := fun b => by rcases he with h | h; rw [(h b).1]; exact eT_dat _; rw [h b]; exact eL_dat _
  have hlt : ∀ a b, dataLt ((fun b => (enc b).toP) a) ((fun b => (enc b).toP) b) = FtM.ltR (f a) (f b) := fun a b => by
    rcases he with h | h
    · simp only [(h _).1, eT_toP, lt_tup]
    · simp only [h, eL_toP, lt_lst]
  refine n_bi (r := rSortD C.K (fun b : β => (enc b).toP)) (fun l => by rw [← C.hK l]; exact cr_sortD (C_u64 C l)) hm (by decide +kernel) (l1 ha h1) (fun B H us S h Q q => ?_) hg (by decide) (by decide) h1 h2
  obtain ⟨u, rfl, h3⟩ := isA1 h
  obtain ⟨p, vs, rfl, h4, h5⟩ := hq.get S h3
  refine ⟨p, vs, bs, fun v b => Is B (enc b) v, rfl, .inl (.inl h4), paired_of h5, fun x b hb => (hb.mono S.bh).dp (hd b), fun d hd1 d' hd2 => ?_, ?_, fun b _ => ?_, fun r ys hr hp => ?_⟩
  · obtain ⟨b1, _, rfl⟩ := List.mem_map.mp hd1
    obtain ⟨b2, _, rfl⟩ := List.mem_map.mp hd2
    rcases he with h | h
    · simp only [(h _).1, eT_toP, tup_alike]
    · simp only [h, eL_toP, lst_alike]
  · rcases he with h | h
    · refine .inl fun d hd1 => ?_
      obtain ⟨b1, _, rfl⟩ := List.mem_map.mp hd1
      simp only [(h _).1, eT_toP]
      cases hf : f b1 with
      | nil => exact absurd hf (h b1).2
      | cons i r => exact ⟨_, _, rfl⟩
    · refine .inr fun d hd1 => ?_
      obtain ⟨b1, _, rfl⟩ := List.mem_map.mp hd1
      simp only [h, eL_toP]
      exact ⟨(fun z => nomatch z), fun _ z => nomatch z⟩
  · rcases he with h | h
    · simp only [(h _).1, eT_toP]
      exact Nat.le_trans (tup_depth _) (by decide)
    · simp only [h, eL_toP]
      exact Nat.le_trans (lst_depth _) (by decide)
  · rw [dataLe_of hlt] at hp
    exact q _ B _ (Same.refl _) (S.newL (of_paired hp) hr)
/-! ### isinstance -/
inductive TyD : Dt → String → Prop
  | int (i : Int) : TyD (.int i) "int"
  | bl (i : Bool) : TyD (.bl i) "bool"
  | lst (xs : List Dt) : TyD (.lst xs) "list"
  | tup (xs : List Dt) : TyD (.tup xs) "tuple"
theorem TyD.get {T : String} {w : World} {B H : Hp} {K : PySem.W.Frag} {v : V} (h : TyD x T) (S : Sh w F B H os) (g : Is B x v) : TyX K H v (.type T) := by
  cases h with
  | int i => rw [is_int g]; exact .base (.int i)
  | bl i => rw [is_bl g]; exact .base (.bl i)
  | lst xs =>
    obtain ⟨p, vs, rfl, h2, _⟩ := is_lst g
    exact .base (.lst (S.bh _ _ h2))
  | tup xs =>
    obtain ⟨p, vs, rfl, h2, _⟩ := is_tup g
    exact .base (.tup (S.bh _ _ h2))
theorem x_isi {T U : String} {k : Bool} (hm : C.mg "isinstance" = none) (ha : PX C F a ds os x os1) (hb : PX C F b ds os1 (.ty U) os2) (ht : TyD x T) (hk : kitB T U = some k) (h1 : St1 C a [b] := by intro _; rfl) (h3 : St1 C b [] := by intro _; rfl) (h2 : St2 C [b] pos := by intro _; rfl) (hg : ∀ i, Gl (C.X i) "isinstance" := by intro _; rfl) : PX C F (.Call (.Name "isinstance" p) [a, b] [] pos) ds os (.bl k) os2 :=
  x_bi (r := rIsi C.K) (fun l => by rw [← C.hK l]; exact call_isi) hm (by decide +kernel) (l2 ha hb h1 h3) (fun B H us S h Q q => by
    obtain ⟨u, v, rfl, h3, h4⟩ := isA2 h
    rw [is_ty h4]
    exact ⟨u, .ty U, .type T, .type U, k, rfl, .ty U, ht.get S h3, kit_ty hk, q _ B H (Same.refl _) S Is.mk_bl⟩) hg (by decide) (by decide) h1 h2
theorem x_isi2 {T U U' : String} {k k' : Bool} (hm : C.mg "isinstance" = none) (ha : PX C F a ds os x os1) (hb : PX C F b ds os1 (.tup [.ty U, .ty U']) os2) (ht : TyD x T) (hk : kitB T U = some k) (hk' : kitB T U' = some k') (h1 : St1 C a [b] := by intro _; rfl) (h3 : St1 C b [] := by intro _; rfl) (h2 : St2 C [b] pos := by intro _; rfl) (hg : ∀ i, Gl (C.X i) "isinstance" := by intro _; rfl) : PX C F (.Call (.Name "isinstance" p) [a, b] [] pos) ds os (.bl (k || k')) os2 :=
  x_bi (r := rIsiT C.K) (fun l => by rw [← C.hK l]; exact call_isiT) hm (by decide +kernel) (l2 ha hb h1 h3) (fun B H us S h Q q => by
    obtain ⟨u, v, rfl, h3, h4⟩ := isA2 h
    obtain ⟨tp, cs, rfl, h5, h6⟩ := is_tup h4
    obtain ⟨c1, c2, rfl, h7, h8⟩ := isA2 h6
    rw [is_ty h7, is_ty h8] at h5
    refine ⟨u, tp, [.ty U, .ty U'], .type T, [.type U, .type U'], k || k', rfl, S.bh _ _ h5, .cons (.ty U) (.cons (.ty U') .nil), ht.get S h3, ?_, q _ B H (Same.refl _) S Is.mk_bl⟩
    refine kitAny_cons (kit_ty hk) (fun e => ?_) (fun e => by rw [e]; rfl)
    rw [e, Bool.false_or]
    exact kitAny_cons (kit_ty hk') (fun e => by rw [e]; rfl) (fun e => e)) hg (by decide) (by decide) h1 h2
/-- what isinstance asks of an own class -/
structure IsOwn (K : PySem.W.Frag) (D : Addr) : Prop where
  cl : Cls K D
  ha : PySem.W.findIn K (.ref D) "__class__" = some (some (.builtin "object.__class__"))
  hn : PySem.W.specialIn K (.builtin "object.__class__") "__get__" = some (some (.builtin "getset_descriptor.__get__"))
  ht : PySem.W.takesIn K (.builtin "object.__class__") = some true
  ho : PySem.W.mroIn K D (.type "object") = some true
  kit : PySem.W.kitOne K (.ref D) (.ref D) = some true
theorem x_isiO {D : Addr} {fs : List Str} {xs : List Dt} (O : IsOwn C.K D) (hm : C.mg "isinstance" = none) (ha : PX C F a ds os (.ins D fs xs) os1) (hb : PX C F b ds os1 (.adr D) os2) (h1 : St1 C a [b] := by intro _; rfl) (h3 : St1 C b [] := by intro _; rfl) (h2 : St2 C [b] pos := by intro _; rfl) (hg : ∀ i, Gl (C.X i) "isinstance" := by intro _; rfl) : PX C F (.Call (.Name "isinstance" p) [a, b] [] pos) ds os (.bl true) os2 :=
  x_bi (r := rIsi C.K) (fun l => by rw [← C.hK l]; exact call_isi) hm (by decide +kernel) (l2 ha hb h1 h3) (fun B H us S h Q q => by
    obtain ⟨u, v, rfl, h3, h4⟩ := isA2 h
    rw [is_adr h4]
    obtain ⟨q', dx, vs, rfl, h5, _⟩ := is_ins h3
    exact ⟨.ref q', .ref D, .ref D, .ref D, true, rfl, .own D, .base (.ins (S.bh _ _ h5) O.cl O.ha O.hn O.ht O.ho), O.kit, q _ B H (Same.refl _) S Is.mk_bl⟩) hg (by decide) (by decide) h1 h2
/-! ### list(range(..)), dict(d), set() -/
def rgD (i j : Int) : List Dt := (List.range (j - i).toNat).map fun k => Dt.int (i + (k : Nat))
theorem rg_is {B : Hp} (i j : Int) : IsA B (rgD i j) (rgV i j) := by
  unfold rgD rgV
  generalize List.range (j - i).toNat = l
  induction l with
  | nil => exact IsA.nil
  | cons k l ih => exact .cons Is.mk_int ih
theorem n_listR1 {j : Int} (hm : C.mg "list" = none) (hm2 : C.mg "range" = none) (ha : PX C F a ds os (.int j) os1) (hz : 0 ≤ j ∧ j ≤ 16777216) (h1 : St1 C a [] := by intro _; rfl) (h2 : ∀ i, starEach [.Call (.Name "range" p2) [a] [] pos] (C.X i).env = (false, eval (.Call (.Name "range" p2) [a] [] pos) (C.X i).env) :: starEach [] (C.X i).env := by intro _; rfl)
    {pos2 : Pos} (hg : ∀ i, Gl (C.X i) "list" := by intro _; rfl) (hg2 : ∀ i, Gl (C.X i) "range" := by intro _; rfl) : PN C F (.Call (.Name "list" p) [.Call (.Name "range" p2) [a] [] pos] [] pos2) ds os (.lst (rgD 0 j)) os1 :=
  pn_of (fun i => pe_listRg (C.calm i) (hg i) (by rw [C.hm i]; exact hm) (prg_1 (hg2 i) (by rw [C.hm i]; exact hm2) (pe_EX i) (h1 i)) (h2 i)) fun B H σ S L Q q => ha B H σ S L _ fun v B1 H1 e1 S1 i1 =>
    ⟨j, is_int i1, RgOk.of_le (by omega) (by omega) (by omega) (by omega), fun r hr => q _ _ _ e1 (S1.newL (rg_is 0 j) hr)⟩
theorem n_dict {kvs : List (Int × Dt)} (hm : C.mg "dict" = none) (ha : PX C F a ds os x os1) (hq : AsD os1 x kvs) (h1 : St1 C a [] := by intro _; rfl) (h2 : St2 C [] pos := by intro _; rfl) (hg : ∀ i, Gl (C.X i) "dict" := by intro _; rfl) : PN C F (.Call (.Name "dict" p) [a] [] pos) ds os (odic kvs) os1 :=
  n_bt (fun _ => call_dictD) hm (by decide +kernel) (l1 ha h1) (fun B H us S h Q q => by
    obtain ⟨u, rfl, h3⟩ := isA1 h
    obtain ⟨p, vs, rfl, h4, h5⟩ := hq.get S h3
    exact ⟨p, _, rfl, .inl h4, fun r hr => q _ B _ (Same.refl _) (S.newO hr ⟨vs, upd_same, by rw [← h5.length, List.length_map, List.length_map], h5⟩)⟩) hg (by decide) (by decide) h1 h2
theorem n_set0 (hm : C.mg "set" = none) (hg : ∀ i, Gl (C.X i) "set" := by intro _; rfl) : PN C F (.Call (.Name "set" p) [] [] pos) ds os (.set (fun _ => false) 0) os :=
  pn_of (te := tCB (rSet0 C.w) tNil) (fun i => by rw [← C.hw i]; exact pe_callTy0 cr_set0 (hg i) (by rw [C.hm i]; exact hm) (by decide +kernel)) fun B H σ S L Q q => ⟨rfl, fun r hr => q r B _ (Same.refl _) (S.newO hr upd_same)⟩
/-! ### methods of built-in types -/
theorem ev_bm {T : String} {r : V → List V → Hp → VK → Prop} {to : TE} {ta : TA} {xs : List Dt} (ho : Ev C.w F to ds os x os1) (hty : ∀ B H u, Sh C.w F B H os1 → Is B x u → tyV C.K T u H) (ha : EvL C.w F ta ds os1 xs os2) (hr : RM C.w F r os2 x xs d os3) : Ev C.w F (tBM C.K T r to ta) ds os d os3 := fun B H σ S L Q q =>
  ho B H σ S L _ fun u B1 H1 e1 S1 i1 => ⟨hty B1 H1 u S1 i1, ha B1 H1 σ S1 (L.mono e1) _ fun vs B2 H2 e2 S2 i2 => hr B2 H2 u vs S2 (i1.mono e2) i2 Q fun z B3 H3 e3 S3 i3 => q z B3 H3 ((e1.trans e2).trans e3) S3 i3⟩
theorem AsL.ty {w : World} {us : List Dt} (hq : AsL os x us) (K : PySem.W.Frag) : ∀ B H u, Sh w F B H os → Is B x u → tyV K "list" u H := fun B H u S i => by
  obtain ⟨p, vs, rfl, h4, _⟩ := hq.get S i
  exact .inl ⟨rfl, vs, .inl (.inl h4)⟩
abbrev MA (C : Cxs) (o : Expr) (m : Str) : Prop := ∀ i, attributeBase o m (C.X i).env (eval o (C.X i).env) = eval o (C.X i).env
abbrev MF (C : Cxs) (e : Expr) (es : List Expr) (cpos : Pos) : Prop := ∀ i, ((backTo cpos (starEach (e :: es) (C.X i).env)).all (fun x => !x.1) && (backToKw cpos (keywordEach [] (C.X i).env)).all (fun x => x.1.isSome)
      && decide ((e :: es).length + ([] : List Keyword).length + (if ([] : List Keyword).isEmpty then 0 else 1) < 30)) = true
theorem x_bm {T id : String} {nm : Str} {r : V → List V → Hp → VK → Prop} {o : Expr} {apos cpos : Pos} {xs : List Dt} (pa : PlainAttrs T) (slot : Slot T nm id) (hty : typeOf (.builtin id) = pure (.type "method_descriptor")) (hm : ∀ i, MtR (C.X i) id r)
    (ho : PX C F o ds os x os1) (ht : ∀ B H u, Sh C.w F B H os1 → Is B x u → tyV C.K T u H) (ha : PL C F (a :: es) ds os1 xs os2) (hr : RM C.w F r os2 x xs d os3)
    (h1 : MA C o nm) (h2 : MF C a es cpos) (h3 : (apos.endLine == cpos.line) = true) (h4 : St1 C a es) (h5 : St2 C es cpos) : PX C F (.Call (.Attribute o nm apos) (a :: es) [] cpos) ds os d os3 :=
  px_of (te := tBM C.K T r (EX C o) (AX C (a :: es))) (fun i => by rw [← C.hK i]; exact pe_bm pa slot hty (hm i) (pe_EX i) (pa_AX i) (h1 i) (h2 i) h3 (h4 i) (h5 i)) (ev_bm ho ht ha hr)
theorem x_append {o : Expr} {apos cpos : Pos} {q : Addr} (k : Nat) {us : List Dt} (ho : PX C F o ds os (.adr q) os) (ha : PX C F a ds os y os1) (h0 : ∃ us, os[k]? = some (q, .lst us)) (hk : os1[k]? = some (q, .lst us)) (hz : us.length < 1000000)
    (h1 : MA C o "append" := by intro _; rfl) (h2 : MF C a [] cpos := by intro _; rfl) (h3 : (apos.endLine == cpos.line) = true := by rfl) (h4 : St1 C a [] := by intro _; rfl) (h5 : St2 C [] cpos := by intro _; rfl) : PX C F (.Call (.Attribute o "append" apos) [a] [] cpos) ds os .non (os1.set k (q, .lst (us ++ [y]))) :=
  x_bm PySem.F.plainAttrs_list PySem.F.slot_list_append PySem.F.type_list_append (fun _ => mt_append) ho (let ⟨_, h⟩ := h0; (AsL.own k h).ty C.K) (l1 ha h4) (fun B H u vs S iu iv Q q' => by
    obtain ⟨v, rfl, h6⟩ := isA1 iv
    obtain ⟨_, _, ws, h7, h8⟩ := S.get hk
    exact ⟨q, ws, v, is_adr iu, rfl, h7, by rw [is_len h8]; exact sz_lt hz, q' _ B _ (Same.refl _) (S.put hk ⟨_, upd_same, h8.append (.cons h6 .nil)⟩) Is.mk_non⟩) h1 h2 h3 h4 h5
theorem x_extendL {o : Expr} {apos cpos : Pos} {q : Addr} (k : Nat) {us ys : List Dt} (ho : PX C F o ds os (.adr q) os) (ha : PX C F a ds os y os) (hk : os[k]? = some (q, .lst us)) (hy : AsL os y ys) (hz : us.length + ys.length ≤ 1000000)
    (h1 : MA C o "extend" := by intro _; rfl) (h2 : MF C a [] cpos := by intro _; rfl) (h3 : (apos.endLine == cpos.line) = true := by rfl) (h4 : St1 C a [] := by intro _; rfl) (h5 : St2 C [] cpos := by intro _; rfl) : PX C F (.Call (.Attribute o "extend" apos) [a] [] cpos) ds os .non (os.set k (q, .lst (us ++ ys))) :=
  x_bm PySem.F.plainAttrs_list PySem.F.slot_list_extend PySem.F.type_list_extend (fun _ => mt_extend) ho ((AsL.own k hk).ty C.K) (l1 ha h4) (fun B H u vs S iu iv Q q' => by
    obtain ⟨v, rfl, h6⟩ := isA1 iv
    obtain ⟨_, _, ws, h7, h8⟩ := S.get hk
    obtain ⟨p', zs, rfl, h9, h10⟩ := hy.get S h6
    exact ⟨q, p', ws, zs, is_adr iu, rfl, h7, h9, by rw [is_len h8, is_len h10]; exact sz_ok hz, q' _ B _ (Same.refl _) (S.put hk ⟨_, upd_same, h8.append h10⟩) Is.mk_non⟩) h1 h2 h3 h4 h5
theorem x_extendT {o : Expr} {apos cpos : Pos} {q : Addr} (k : Nat) {us ys : List Dt} (ho : PX C F o ds os (.adr q) os) (ha : PX C F a ds os (.tup ys) os) (hk : os[k]? = some (q, .lst us)) (hz : us.length + ys.length ≤ 1000000)
    (h1 : MA C o "extend" := by intro _; rfl) (h2 : MF C a [] cpos := by intro _; rfl) (h3 : (apos.endLine == cpos.line) = true := by rfl) (h4 : St1 C a [] := by intro _; rfl) (h5 : St2 C [] cpos := by intro _; rfl) : PX C F (.Call (.Attribute o "extend" apos) [a] [] cpos) ds os .non (os.set k (q, .lst (us ++ ys))) :=
  x_bm (r := rExtendT C.K) PySem.F.plainAttrs_list PySem.F.slot_list_extend PySem.F.type_list_extend (fun i => by rw [← C.hK i]; exact mt_extendT) ho ((AsL.own k hk).ty C.K) (l1 ha h4) (fun B H u vs S iu iv Q q' => by
    obtain ⟨v, rfl, h6⟩ := isA1 iv
    obtain ⟨_, _, ws, h7, h8⟩ := S.get hk
    obtain ⟨p', zs, rfl, h9, h10⟩ := is_tup h6
    exact ⟨q, p', ws, zs, is_adr iu, rfl, h7, .inl (.inl (S.bh _ _ h9)), by rw [is_len h8, is_len h10]; exact sz_ok hz, q' _ B _ (Same.refl _) (S.put hk ⟨_, upd_same, h8.append h10⟩) Is.mk_non⟩) h1 h2 h3 h4 h5
theorem x_insert {o : Expr} {apos cpos : Pos} {q : Addr} (k : Nat) {us : List Dt} {i : Int} (ho : PX C F o ds os (.adr q) os) (ha : PX C F a ds os (.int i) os1) (hb : PX C F b ds os1 y os1) (h0 : ∃ us, os[k]? = some (q, .lst us)) (hk : os1[k]? = some (q, .lst us)) (hz : us.length < 1000000) (hi : 0 ≤ i ∧ i < 2 ^ 63)
    (h1 : MA C o "insert" := by intro _; rfl) (h2 : MF C a [b] cpos := by intro _; rfl) (h3 : (apos.endLine == cpos.line) = true := by rfl) (h4 : St1 C a [b] := by intro _; rfl) (h6 : St1 C b [] := by intro _; rfl) (h5 : St2 C [b] cpos := by intro _; rfl) : PX C F (.Call (.Attribute o "insert" apos) [a, b] [] cpos) ds os .non (os1.set k (q, .lst (us.take i.toNat ++ [y] ++ us.drop i.toNat))) :=
  x_bm PySem.F.plainAttrs_list PySem.F.slot_list_insert PySem.F.type_list_insert (fun _ => mt_insert) ho (let ⟨_, h⟩ := h0; (AsL.own k h).ty C.K) (l2 ha hb h4 h6) (fun B H u vs S iu iv Q q' => by
    obtain ⟨v, v', rfl, h6, h9⟩ := isA2 iv
    obtain ⟨_, _, ws, h7, h8⟩ := S.get hk
    rw [is_int h6]
    exact ⟨q, ws, i, v', is_adr iu, rfl, h7, by rw [is_len h8]; exact sz_lt hz, hi.1, hi.2, q' _ B _ (Same.refl _) (S.put hk ⟨_, upd_same, ((h8.take _).append (.cons h9 .nil)).append (h8.drop _)⟩) Is.mk_non⟩) h1 h2 h3 h4 h5
theorem x_index {o : Expr} {apos cpos : Pos} {is : List Int} {i : Int} {j : Nat} (ho : PX C F o ds os x os1) (ha : PX C F a ds os1 (.int i) os2) (hq : AsL os1 x (is.map Dt.int)) (hq2 : AsL os2 x (is.map Dt.int)) (hj : is[j]? = some i) (hn : ∀ m, m < j → is[m]? ≠ some i)
    (h1 : MA C o "index" := by intro _; rfl) (h2 : MF C a [] cpos := by intro _; rfl) (h3 : (apos.endLine == cpos.line) = true := by rfl) (h4 : St1 C a [] := by intro _; rfl) (h5 : St2 C [] cpos := by intro _; rfl) : PX C F (.Call (.Attribute o "index" apos) [a] [] cpos) ds os (.int (j : Int)) os2 :=
  x_bm (r := rIndex C.K) PySem.F.plainAttrs_list PySem.F.slot_list_index PySem.F.type_list_index (fun i => by rw [← C.hK i]; exact mt_index) ho (hq.ty C.K) (l1 ha h4) (fun B H u vs S iu iv Q q' => by
    obtain ⟨v, rfl, h6⟩ := isA1 iv
    obtain ⟨p', zs, rfl, h9, h10⟩ := hq2.get S iu
    rw [h10.ints] at h9
    rw [is_int h6]
    refine ⟨p', _, .int i, j, .int i, rfl, rfl, .inl (.inl h9), rfl, ints_flat _, by rw [List.getElem?_map, hj]; rfl, by show (i == i) = true; exact beq_self_eq_true i, fun m z' hm hz => ?_, q' _ B H (Same.refl _) S Is.mk_int⟩
    rw [List.getElem?_map] at hz
    cases hx : is[m]? with
    | none =>
      rw [hx] at hz
      cases hz
    | some t =>
      rw [hx] at hz
      cases hz
      show (t == i) = false
      exact beq_eq_false_iff_ne.mpr fun e => hn m hm (by rw [hx, e])) h1 h2 h3 h4 h5
/-- xs.pop() -/
theorem x_pop {o : Expr} {apos cpos : Pos} {q : Addr} (k : Nat) {us : List Dt} (ho : PX C F o ds os (.adr q) os) (hk : os[k]? = some (q, .lst us)) (hl : us[us.length - 1]? = some d)
    (h1 : MA C o "pop" := by intro _; rfl) (h3 : (apos.endLine == cpos.line) = true := by rfl) : PX C F (.Call (.Attribute o "pop" apos) [] [] cpos) ds os d (os.set k (q, .lst us.dropLast)) :=
  px_of (te := tBM0 C.K "list" rPop (EX C o)) (fun i => by rw [← C.hK i]; exact pe_bm0 PySem.F.plainAttrs_list PySem.F.slot_list_pop PySem.F.type_list_pop mt_pop (pe_EX i) (h1 i) h3) fun B H σ S L Q q' => ho B H σ S L _ fun u B1 H1 e1 S1 i1 => by
    obtain ⟨_, _, ws, h7, h8⟩ := S1.get hk
    have e := is_len h8
    obtain ⟨v, h9, h10⟩ := h8.get hl
    refine ⟨(AsL.own k hk).ty C.K B1 H1 u S1 i1, q, ws, v, is_adr i1, rfl, h7, by rw [e]; exact h9, q' _ B1 _ e1 (S1.put hk ⟨_, upd_same, ?_⟩) h10⟩
    rw [List.dropLast_eq_take, List.dropLast_eq_take, e]
    exact h8.take _
/-- s.add(i) -/
theorem x_sadd {o : Expr} {apos cpos : Pos} {q : Addr} (k : Nat) {T : Int → Bool} {m : Nat} {i : Int} (ho : PX C F o ds os (.adr q) os) (ha : PX C F a ds os (.int i) os) (hk : os[k]? = some (q, .set T m)) (hz : m + 1 < 4000)
    (h1 : MA C o "add" := by intro _; rfl) (h2 : MF C a [] cpos := by intro _; rfl) (h3 : (apos.endLine == cpos.line) = true := by rfl) (h4 : St1 C a [] := by intro _; rfl) (h5 : St2 C [] cpos := by intro _; rfl) : PX C F (.Call (.Attribute o "add" apos) [a] [] cpos) ds os .non (os.set k (q, .set (fun j => T j || decide (j = i)) (if T i = true then m else m + 1))) :=
  px_of (te := tSAdd C.w (EX C o) (AX C [a])) (fun l => by rw [← C.hw l]; exact pe_sadd (pe_EX l) (pa_AX l) (h1 l) (h2 l) h3 (h4 l) (h5 l)) fun B H σ S L Q q' => ho B H σ S L _ fun u B1 H1 e1 S1 i1 =>
    ⟨⟨q, T, m, is_adr i1, (S1.get hk).2.2⟩, l1 ha h4 B1 H1 σ S1 (L.mono e1) _ fun vs B2 H2 e2 S2 i2 => by
      obtain ⟨v, rfl, h6⟩ := isA1 i2
      rw [is_int h6]
      exact ⟨q, i, T, m, is_adr i1, rfl, (S2.get hk).2.2, by rw [show scanBound = 4096 from rfl]; omega, q' _ B2 _ (e1.trans e2) (S2.put hk upd_same) Is.mk_non⟩⟩
end
end FtR
/-! statements, targets, walks, comprehensions over data states -/
namespace FtR
open PySem PySem.Spec PyProof.Rows L2
open FtM (getA putA)
structure Le (D D' : Ends) : Prop where
  nx : ∀ σ H, D.nx σ H → D'.nx σ H
  rt : ∀ v H, D.rt v H → D'.rt v H
  bk : ∀ σ H, D.bk σ H → D'.bk σ H
  ct : ∀ σ H, D.ct σ H → D'.ct σ H
theorem Le.refl (D : Ends) : Le D D := ⟨fun _ _ h => h, fun _ _ h => h, fun _ _ h => h, fun _ _ h => h⟩
theorem Le.trans {D D' D'' : Ends} (a : Le D D') (b : Le D' D'') : Le D D'' := ⟨fun σ H h => b.nx σ H (a.nx σ H h), fun σ H h => b.rt σ H (a.rt σ H h), fun σ H h => b.bk σ H (a.bk σ H h), fun σ H h => b.ct σ H (a.ct σ H h)⟩
theorem SP.le {X : Cx} {pins : List (Addr × Obj)} {D D' : Ends} (l : Le D D') {f : Flow} {s : Shared} (h : SP X pins D f s) : SP X pins D' f s := by
  cases f with
  | next => obtain ⟨σ, H, I, q⟩ := h; exact ⟨σ, H, I, l.nx _ _ q⟩
  | brk => obtain ⟨σ, H, I, q⟩ := h; exact ⟨σ, H, I, l.bk _ _ q⟩
  | cont => obtain ⟨σ, H, I, q⟩ := h; exact ⟨σ, H, I, l.ct _ _ q⟩
  | ret u => obtain ⟨v, σ, H, I, r, q⟩ := h; exact ⟨v, σ, H, I, r, l.rt _ _ q⟩
def BX (C : Cxs) (sts : List Stmt) : TS := fun D σ H => ∃ t D', Le D' D ∧ (∀ i, PSs (C.X i) sts t) ∧ t D' σ H
theorem BX.le {C : Cxs} {sts : List Stmt} {D D' : Ends} {σ : L2.St} {H : Hp} (l : Le D D') (h : BX C sts D σ H) : BX C sts D' σ H := let ⟨t, E, l', h1, h2⟩ := h; ⟨t, E, l'.trans l, h1, h2⟩
def GX (C : Cxs) (tg : Expr) : TG := fun v σ H Q => ∃ g, (∀ i, PG (C.X i) tg g) ∧ g v σ H Q
def GXs (C : Cxs) (tg : List Expr) : TGs := fun v σ H Q => ∃ g, (∀ i, PGs (C.X i) tg g) ∧ g v σ H Q
def IX (C : Cxs) (tg iter : Expr) : TI := fun σ H R => ∃ wi, (∀ i, PI (C.X i) tg iter wi) ∧ wi σ H R
section
variable {C : Cxs} {F : Fr}
theorem pss_BX {sts : List Stmt} (i : C.ι) : PSs (C.X i) sts (BX C sts) := ⟨fun pins s σ H D I ⟨_, D', l, h, q⟩ => thn ((h i).run pins s σ H D' I q) fun _ _ z => SP.le l z⟩
theorem pg_GX {tg : Expr} (i : C.ι) : PG (C.X i) tg (GX C tg) := ⟨fun pins s σ H v u Q I r ⟨_, h, q⟩ => (h i).run pins s σ H v u Q I r q⟩
theorem pgs_GXs {tg : List Expr} (i : C.ι) : PGs (C.X i) tg (GXs C tg) := ⟨fun pins s σ H v u Q I r ⟨_, h, q⟩ => (h i).run pins s σ H v u Q I r q⟩
theorem pi_IX {tg iter : Expr} (i : C.ι) : PI (C.X i) tg iter (IX C tg iter) := ⟨fun pins s σ H R I ⟨_, h, q⟩ => (h i).run pins s σ H R I q⟩
end
def Run (C : Cxs) (F : Fr) (sts : List Stmt) (D : Ends) (ds : DEnv) (os : Own) : Prop := ∀ B H σ, Sh C.w F B H os → Slots B σ ds → BX C sts D σ H
def NxP (w : World) (F : Fr) (P : DEnv → Own → Prop) : L2.St → Hp → Prop := fun σ H => ∃ ds os B, P ds os ∧ Sh w F B H os ∧ Slots B σ ds
def RtOk (w : World) (F : Fr) (R : VK) (d : Dt) (os : Own) : Prop := ∀ B H v, Sh w F B H os → Is B d v → R v H
/-! ### wiping -/
def wipeD (ds : DEnv) : List Nat → DEnv
  | [] => ds
  | v :: vs => (wipeD ds vs).set v none
theorem Slots.wipe {B : Hp} {σ : L2.St} {ds : DEnv} (h : Slots B σ ds) : ∀ vs : List Nat, Slots B (L2.wipe σ vs) (wipeD ds vs)
  | [] => h
  | v :: vs => (Slots.wipe h vs).unset v
theorem wipe_set0 (σ : L2.St) (j : Nat) (x : Option V) : ∀ vs : List Nat, (wipe (σ.set j x) vs).set j none = (wipe σ vs).set j none
  | [] => by
    show (σ.set j x).set j none = σ.set j none
    rw [List.set_set]
  | v :: vs => by
    show ((wipe (σ.set j x) vs).set v none).set j none = ((wipe σ vs).set v none).set j none
    by_cases e : v = j
    · subst e
      rw [List.set_set, List.set_set, wipe_set0 σ v x vs]
    · rw [List.set_comm _ _ e, List.set_comm _ _ e, wipe_set0 σ j x vs]
theorem wipe_set (σ : L2.St) (j : Nat) (x : Option V) : ∀ {vs : List Nat}, j ∈ vs → wipe (σ.set j x) vs = wipe σ vs
  | [], h => by cases h
  | v :: vs, h => by
    show (wipe (σ.set j x) vs).set v none = (wipe σ vs).set v none
    by_cases e : j = v
    · subst e
      exact wipe_set0 σ j x vs
    · rw [wipe_set σ j x (by simpa [e] using h)]
theorem wipe_wipe (σ : L2.St) : ∀ vs : List Nat, wipe (wipe σ vs) vs = wipe σ vs
  | [] => rfl
  | v :: vs => by
    show (wipe ((wipe σ vs).set v none) vs).set v none = (wipe σ vs).set v none
    rw [wipe_set0, wipe_wipe σ vs]
/-! ### targets -/
def PGt (C : Cxs) (F : Fr) (tg : Expr) (d : Dt) (ds ds' : DEnv) (js : List Nat) : Prop := ∀ B H σ v os, Sh C.w F B H os → Slots B σ ds → Is B d v → ∀ Q : L2.St → Hp → Prop, (∀ σ', Slots B σ' ds' → (∀ vs : List Nat, (∀ j ∈ js, j ∈ vs) → wipe σ' vs = wipe σ vs) → Q σ' H) → GX C tg v σ H Q
def PGs' (C : Cxs) (F : Fr) (tg : List Expr) (xs : List Dt) (ds ds' : DEnv) (js : List Nat) : Prop := ∀ B H σ v os, Sh C.w F B H os → Slots B σ ds → IsA B xs v → ∀ Q : L2.St → Hp → Prop, (∀ σ', Slots B σ' ds' → (∀ vs : List Nat, (∀ j ∈ js, j ∈ vs) → wipe σ' vs = wipe σ vs) → Q σ' H) → GXs C tg v σ H Q
section
variable {C : Cxs} {F : Fr} {e a b c o : Expr} {es : List Expr} {ds ds1 ds2 : DEnv} {os os1 os2 os3 : Own} {d x y z : Dt} {pos pos' p p2 : Pos} {n : Str} {D : Ends} {rest : List Stmt}
abbrev NmOk (C : Cxs) (i : Nat) (n : Str) : Prop := ∀ j, (C.X j).N.Nodup ∧ (C.X j).N[i]? = some n ∧ Loc (C.X j).env.scope n ∧ ((C.X j).fn n = true ∨ (C.X j).env.scope.names.lookup n = some .local)
theorem g_name (i : Nat) (h : NmOk C i n := by exact fun _ => ⟨‹List.Nodup _›, rfl, by first | exact .inl rfl | exact .inr rfl, by first | exact .inl rfl | exact .inr rfl⟩) : PGt C F (.Name n pos) d ds (ds.set i (some d)) [i] := fun B H σ v os S L iv Q q =>
  ⟨gName i, fun j => pg_name (h j).1 (h j).2.1 (h j).2.2.1 (h j).2.2.2, q _ (L.set i iv) fun vs hv => wipe_set _ _ _ (hv i List.mem_cons_self)⟩
theorem gs_nil : PGs' C F [] [] ds ds [] := fun B H σ v os S L iv Q q => ⟨gNil, fun j => pgs_nil, iv.inv0, q σ L fun _ _ => rfl⟩
theorem gs_cons {xs : List Dt} {js ks : List Nat} (h : PGt C F e x ds ds1 js) (t : PGs' C F es xs ds1 ds2 ks) (hs : ∀ i, (assignEach (e :: es) (C.X i).env).map (·.2) = assign e (C.X i).env :: (assignEach es (C.X i).env).map (·.2) := by intro _; rfl) : PGs' C F (e :: es) (x :: xs) ds ds2 (js ++ ks) := fun B H σ v os S L iv Q q => by
  obtain ⟨u, r, rfl, h1, h2⟩ := iv.inv
  exact ⟨gCons (GX C e) (GXs C es), fun i => pgs_cons (pg_GX i) (pgs_GXs i) (hs i), u, r, rfl, h B H σ u os S L h1 _ fun σ1 L1 w1 => t B H σ1 r os S L1 h2 _ fun σ2 L2' w2 => q σ2 L2' fun vs hv =>
    (w2 vs fun j hj => hv j (List.mem_append_right _ hj)).trans (w1 vs fun j hj => hv j (List.mem_append_left _ hj))⟩
theorem g_tup {xs : List Dt} {js : List Nat} {k m : Nat} (h : PGs' C F es xs ds ds1 js) (hl : xs.length = m) (hn : ∀ i, (assignEach es (C.X i).env).length = m := by intro _; rfl) (hst : ∀ i, (assignEach es (C.X i).env).findIdx? (·.1) = none := by intro _; rfl) : PGt C F (.Tuple es k pos) (.tup xs) ds ds1 js := fun B H σ v os S L iv Q q => by
  obtain ⟨p, vs, rfl, h1, h2⟩ := is_tup iv
  exact ⟨gTup C.K m (GXs C es), fun i => by rw [← C.hK i]; exact pg_tup (C.calm i) (pgs_GXs i) (hn i) (hst i), p, vs, rfl, .inl (.inl (S.bh _ _ h1)), (is_len h2).trans hl, h B H σ vs os S L h2 Q q⟩
theorem g_unl {xs : List Dt} {js : List Nat} {k m : Nat} (h : PGs' C F es xs ds ds1 js) (hl : xs.length = m) (hn : ∀ i, (assignEach es (C.X i).env).length = m := by intro _; rfl) (hst : ∀ i, (assignEach es (C.X i).env).findIdx? (·.1) = none := by intro _; rfl) : PGt C F (.Tuple es k pos) (.lst xs) ds ds1 js := fun B H σ v os S L iv Q q => by
  obtain ⟨p, vs, rfl, h1, h2⟩ := is_lst iv
  exact ⟨gUnl C.K m (GXs C es), fun i => by rw [← C.hK i]; exact pg_unl (C.calm i) (pgs_GXs i) (hn i) (hst i), p, vs, rfl, .inl (.inl (S.bh _ _ h1)), (is_len h2).trans hl, h B H σ vs os S L h2 Q q⟩
/-! ### blocks -/
theorem r_step {st : Stmt} {t : TS} (h : ∀ i, PS (C.X i) st t) (g : ∀ B H σ, Sh C.w F B H os → Slots B σ ds → t { D with nx := BX C rest D } σ H) : Run C F (st :: rest) D ds os := fun B H σ S L => ⟨tSeq t (BX C rest), D, Le.refl D, fun i => pss_cons (h i) (pss_BX i), g B H σ S L⟩
theorem r_nil (h : ∀ B H σ, Sh C.w F B H os → Slots B σ ds → D.nx σ H) : Run C F [] D ds os := fun B H σ S L => ⟨tNext, D, Le.refl D, fun i => pss_nil, h B H σ S L⟩
/-- the end of a branch -/
theorem r_end {D' : Ends} {R : VK} {K T : L2.St → Hp → Prop} (h : Run C F rest D' ds os) : Run C F [] ⟨BX C rest D', R, K, T⟩ ds os := r_nil fun B H σ S L => h B H σ S L
/-- the end of a loop's body -/
theorem r_loop {P : DEnv → Own → Prop} {R : VK} {K T : L2.St → Hp → Prop} (ds' : DEnv) (h : P ds' os) (hs : Sub ds' ds) : Run C F [] ⟨NxP C.w F P, R, K, T⟩ ds os := r_nil fun B H σ S L => ⟨ds', os, B, h, S, L.sub hs⟩
theorem r_sub {sts : List Stmt} (h : Run C F sts D ds1 os) (hs : Sub ds1 ds) : Run C F sts D ds os := fun B H σ S L => h B H σ S (L.sub hs)
theorem r_ret (h : PX C F e ds os d os1) (q : RtOk C.w F D.rt d os1) : Run C F (.Return (some e) pos :: rest) D ds os := r_step (fun i => ps_ret (pe_EX i)) fun B H σ S L => h B H σ S L _ fun v B1 H1 e1 S1 i1 => q B1 H1 v S1 i1
theorem r_pass (h : Run C F rest D ds os) : Run C F (.Pass pos :: rest) D ds os := r_step (fun i => ps_pass) fun B H σ S L => h B H σ S L
theorem r_never {st : Stmt} (h : False) : Run C F (st :: rest) D ds os := h.elim
theorem r_expr (h : PX C F e ds os d os1) (k : Run C F rest D ds os1) (hs : ∀ i, swapsWith e none pos.line (C.X i).env = pure false := by intro _; rfl) : Run C F (.Expr e pos :: rest) D ds os := r_step (fun i => ps_expr (pe_EX i) (hs i)) fun B H σ S L => h B H σ S L _ fun v B1 H1 e1 S1 i1 => k B1 H1 σ S1 (L.mono e1)
theorem r_set (i : Nat) (h : PX C F e ds os d os1) (k : Run C F rest D (ds.set i (some d)) os1) (hn : NmOk C i n := by exact fun _ => ⟨‹List.Nodup _›, rfl, by first | exact .inl rfl | exact .inr rfl, by first | exact .inl rfl | exact .inr rfl⟩) (hs : ∀ i, swapsWith e (some (.Name n pos')) pos.line (C.X i).env = pure false := by intro _; rfl) : Run C F (.Assign [.Name n pos'] e pos :: rest) D ds os :=
  r_step (fun j => ps_set (hn j).1 (hn j).2.1 (hn j).2.2.1 (pe_EX j) (hs j) (hn j).2.2.2) fun B H σ S L => h B H σ S L _ fun v B1 H1 e1 S1 i1 => k B1 H1 _ S1 ((L.mono e1).set i i1)
theorem r_setN {ob : Ob} (i : Nat) (h : PN C F e ds os ob os1) (k : ∀ q, Run C F rest D (ds.set i (some (.adr q))) ((q, ob) :: os1)) (hn : NmOk C i n := by exact fun _ => ⟨‹List.Nodup _›, rfl, by first | exact .inl rfl | exact .inr rfl, by first | exact .inl rfl | exact .inr rfl⟩) (hs : ∀ i, swapsWith e (some (.Name n pos')) pos.line (C.X i).env = pure false := by intro _; rfl) : Run C F (.Assign [.Name n pos'] e pos :: rest) D ds os :=
  r_step (fun j => ps_set (hn j).1 (hn j).2.1 (hn j).2.2.1 (pe_EX j) (hs j) (hn j).2.2.2) fun B H σ S L => h B H σ S L _ fun q B1 H1 e1 S1 => k q B1 H1 _ S1 ((L.mono e1).set i Is.mk_adr)
theorem r_asg {tg : Expr} {js : List Nat} (h : PX C F e ds os d os1) (g : PGt C F tg d ds ds1 js) (k : Run C F rest D ds1 os1) (hs : ∀ i, swapsWithSole [tg] e pos.line (C.X i).env = pure false := by intro _; rfl) (hw : ∀ i, swappedStores [tg] e (C.X i).env = pure none := by intro _; rfl)
    (h1 : ∀ i, (assignEach [tg] (C.X i).env).map (·.2) = [assign tg (C.X i).env] := by intro _; rfl) : Run C F (.Assign [tg] e pos :: rest) D ds os :=
  r_step (fun j => ps_asg (pe_EX j) (pg_GX j) (hs j) (hw j) (h1 j)) fun B H σ S L => h B H σ S L _ fun v B1 H1 e1 S1 i1 => g B1 H1 σ v os1 S1 (L.mono e1) i1 _ fun σ' L' _ => k B1 H1 σ' S1 L'
/-- freezing, forgetting -/
theorem x_froz (k : Nat) {q : Addr} {us : List Dt} (h : PX C F e ds os (.adr q) os1) (hk : os1[k]? = some (q, .lst us)) : PX C F e ds os (.lst us) (os1.eraseIdx k) := fun B H σ S L Q f => h B H σ S L _ fun v B1 H1 e1 S1 i1 => by
  obtain ⟨_, _, vs, h1, h2⟩ := S1.get hk
  obtain ⟨h3, h4⟩ := S1.freeze hk h1
  rw [is_adr i1]
  exact f _ _ _ (e1.trans h3) h4 (Is.mk_lst upd_same (h2.mono h3))
theorem is_of_dic {B : Hp} {q : Addr} {kvs : List (Int × Dt)} {vs : List V} (h : B q = some (.dK (((kvs.map (·.1)).map kI).zip vs))) (h2 : (kvs.map (·.1)).length = vs.length) (h3 : IsA B (kvs.map (·.2)) vs) : Is B (dicOf kvs) (.ref q) := by
  unfold dicOf
  simp only [Is]
  exact ⟨q, vs, rfl, h, h2, h3⟩
theorem is_of_dct {B : Hp} {q : Addr} {kvs : List ((Int × Int) × Dt)} {vs : List V} (h : B q = some (.dT (((kvs.map (·.1)).map kT).zip vs))) (h2 : (kvs.map (·.1)).length = vs.length) (h3 : IsA B (kvs.map (·.2)) vs) : Is B (dctOf kvs) (.ref q) := by
  unfold dctOf
  simp only [Is]
  exact ⟨q, vs, rfl, h, h2, h3⟩
theorem x_frozD (k : Nat) {q : Addr} {kvs : List (Int × Dt)} (h : PX C F e ds os (.adr q) os1) (hk : os1[k]? = some (q, odic kvs)) : PX C F e ds os (dicOf kvs) (os1.eraseIdx k) := fun B H σ S L Q f => h B H σ S L _ fun v B1 H1 e1 S1 i1 => by
  obtain ⟨_, _, vs, h1, h2, h2'⟩ := S1.get hk
  obtain ⟨h3, h4⟩ := S1.freeze hk h1
  rw [is_adr i1]
  exact f _ _ _ (e1.trans h3) h4 (is_of_dic upd_same h2 (h2'.mono h3))
theorem x_frozD2 (k : Nat) {q : Addr} {kvs : List ((Int × Int) × Dt)} (h : PX C F e ds os (.adr q) os1) (hk : os1[k]? = some (q, odct kvs)) : PX C F e ds os (dctOf kvs) (os1.eraseIdx k) := fun B H σ S L Q f => h B H σ S L _ fun v B1 H1 e1 S1 i1 => by
  obtain ⟨_, _, vs, h1, h2, h2'⟩ := S1.get hk
  obtain ⟨h3, h4⟩ := S1.freeze hk h1
  rw [is_adr i1]
  exact f _ _ _ (e1.trans h3) h4 (is_of_dct upd_same h2 (h2'.mono h3))
theorem Slots.reset {B : Hp} : ∀ {σ : List (Option V)} {ds : DEnv} {i : Nat} {d d' : Dt}, Slots B σ ds → ds[i]? = some (some d) → (∀ v, Is B d v → Is B d' v) → Slots B σ (ds.set i (some d'))
  | [], [], _, _, _, _, e, _ => by simp at e
  | _ :: σ, none :: ds, 0, _, _, h, e, _ => by simp at e
  | _ :: σ, none :: ds, i + 1, _, _, h, e, f => Slots.reset (σ := σ) (ds := ds) (i := i) h (by simpa using e) f
  | u :: σ, some d :: ds, 0, _, _, h, e, f => by
    obtain ⟨⟨v, rfl, h2⟩, h3⟩ := h
    have e' : d = _ := Option.some.inj (Option.some.inj e)
    subst e'
    exact ⟨⟨v, rfl, f v h2⟩, h3⟩
  | u :: σ, some d :: ds, i + 1, _, _, h, e, f => ⟨h.1, Slots.reset (σ := σ) (ds := ds) (i := i) h.2 (by simpa using e) f⟩
  | [], _ :: _, _, _, _, h, _, _ => h.elim
  | _ :: _, [], _, _, _, h, _, _ => h.elim
theorem r_freeze {sts : List Stmt} (i k : Nat) {q : Addr} {us : List Dt} (hd : ds[i]? = some (some (.adr q))) (hk : os[k]? = some (q, .lst us)) (h : Run C F sts D (ds.set i (some (.lst us))) (os.eraseIdx k)) : Run C F sts D ds os := fun B H σ S L => by
  obtain ⟨_, _, vs, h1, h2⟩ := S.get hk
  obtain ⟨h3, h4⟩ := S.freeze hk h1
  exact h _ H σ h4 ((L.mono h3).reset hd fun v iv => by rw [is_adr iv]; exact Is.mk_lst upd_same (h2.mono h3))
theorem r_freezeD {sts : List Stmt} (i k : Nat) {q : Addr} {kvs : List (Int × Dt)} (hd : ds[i]? = some (some (.adr q))) (hk : os[k]? = some (q, odic kvs)) (h : Run C F sts D (ds.set i (some (dicOf kvs))) (os.eraseIdx k)) : Run C F sts D ds os := fun B H σ S L => by
  obtain ⟨_, _, vs, h1, h2, h2'⟩ := S.get hk
  obtain ⟨h3, h4⟩ := S.freeze hk h1
  exact h _ H σ h4 ((L.mono h3).reset hd fun v iv => by rw [is_adr iv]; exact is_of_dic upd_same h2 (h2'.mono h3))
theorem r_drop {sts : List Stmt} (k : Nat) (h : Run C F sts D ds (os.eraseIdx k)) : Run C F sts D ds os := fun B H σ S L => h B H σ (S.drop k) L
theorem Owns.swap {w : World} {B H : Hp} {q r : Addr × Ob} {os : Own} (h : Owns w B H (q :: r :: os)) : Owns w B H (r :: q :: os) := by
  obtain ⟨h1, h2, h3, h4, h5, h6, h7⟩ := h
  refine ⟨h4, h5, fun s hs => ?_, h1, h2, fun s hs => h3 s (List.mem_cons_of_mem _ hs), h7⟩
  rcases List.mem_cons.mp hs with rfl | hs
  · exact fun e => h3 r List.mem_cons_self e.symm
  · exact h6 s hs
theorem r_swap {sts : List Stmt} {q r : Addr × Ob} {os : Own} (h : Run C F sts D ds (r :: q :: os)) : Run C F sts D ds (q :: r :: os) := fun B H σ S L => h B H σ ⟨S.eB, S.eH, S.bh, S.nw, S.ow.swap, fun s hs => S.fr s (by simp only [List.mem_cons] at hs ⊢; rcases hs with h | h | h; exact .inr (.inl h); exact .inl h; exact .inr (.inr h))⟩ L
/-! ### pairs stored -/
abbrev P2 (C : Cxs) (i j : Nat) (x y : Str) : Prop := i ≠ j ∧ ∀ l, (C.X l).N.Nodup ∧ (C.X l).N[i]? = some x ∧ (C.X l).N[j]? = some y ∧ (C.X l).env.scope.names.lookup x = some .local ∧ (C.X l).env.scope.names.lookup y = some .local
section
variable {x' y' : Str} {px py pt pt2 : Pos} {kt k2 : Nat}
abbrev Sw2 (C : Cxs) (x' y' : Str) (px py pt pt2 : Pos) (kt k2 : Nat) (a b : Expr) : Prop := ∀ l, swappedStores [.Tuple [.Name x' px, .Name y' py] kt pt] (.Tuple [a, b] k2 pt2) (C.X l).env = pure (some [x', y'])
abbrev Sw3 (C : Cxs) (x' y' : Str) (px py pt pt2 pos : Pos) (kt k2 : Nat) (a b : Expr) : Prop := ∀ l, swapsWithSole [.Tuple [.Name x' px, .Name y' py] kt pt] (.Tuple [a, b] k2 pt2) pos.line (C.X l).env = pure false
theorem r_parDD (i j : Nat) (ha : PX C F a ds os x os1) (hb : PX C F b ds os1 y os2) (k : Run C F rest D ((ds.set i (some x)).set j (some y)) os2) (hn : P2 C i j x' y' := by exact ⟨by decide, fun _ => ⟨‹List.Nodup _›, rfl, rfl, rfl, rfl⟩⟩) (hw : Sw2 C x' y' px py pt pt2 kt k2 a b := by intro _; rfl) (hs : Sw3 C x' y' px py pt pt2 pos kt k2 a b := by intro _; rfl)
    (h1 : St1 C a [b] := by intro _; rfl) (h2 : St1 C b [] := by intro _; rfl) : Run C F (.Assign [.Tuple [.Name x' px, .Name y' py] kt pt] (.Tuple [a, b] k2 pt2) pos :: rest) D ds os :=
  r_step (fun l => ps_par (C.calm l) (hn.2 l).1 (hn.2 l).2.1 (hn.2 l).2.2.1 hn.1 (hn.2 l).2.2.2.1 (hn.2 l).2.2.2.2 (pa_cons (pe_EX l) (pa_cons (pe_EX l) pa_nil (h2 l)) (h1 l)) (hw l) (hs l)) fun B H σ S L =>
    ha B H σ S L _ fun u B1 H1 e1 S1 i1 => hb B1 H1 σ S1 (L.mono e1) _ fun v B2 H2 e2 S2 i2 => ⟨u, v, rfl, k B2 H2 _ S2 (((L.mono (e1.trans e2)).set i (i1.mono e2)).set j i2)⟩
theorem r_parND {ob : Ob} (i j : Nat) (ha : PN C F a ds os ob os1) (hb : ∀ q, PX C F b ds ((q, ob) :: os1) y ((q, ob) :: os2)) (k : ∀ q, Run C F rest D ((ds.set i (some (.adr q))).set j (some y)) ((q, ob) :: os2)) (hn : P2 C i j x' y' := by exact ⟨by decide, fun _ => ⟨‹List.Nodup _›, rfl, rfl, rfl, rfl⟩⟩) (hw : Sw2 C x' y' px py pt pt2 kt k2 a b := by intro _; rfl) (hs : Sw3 C x' y' px py pt pt2 pos kt k2 a b := by intro _; rfl)
    (h1 : St1 C a [b] := by intro _; rfl) (h2 : St1 C b [] := by intro _; rfl) : Run C F (.Assign [.Tuple [.Name x' px, .Name y' py] kt pt] (.Tuple [a, b] k2 pt2) pos :: rest) D ds os :=
  r_step (fun l => ps_par (C.calm l) (hn.2 l).1 (hn.2 l).2.1 (hn.2 l).2.2.1 hn.1 (hn.2 l).2.2.2.1 (hn.2 l).2.2.2.2 (pa_cons (pe_EX l) (pa_cons (pe_EX l) pa_nil (h2 l)) (h1 l)) (hw l) (hs l)) fun B H σ S L =>
    ha B H σ S L _ fun q B1 H1 e1 S1 => hb q B1 H1 σ S1 (L.mono e1) _ fun v B2 H2 e2 S2 i2 => ⟨_, v, rfl, k q B2 H2 _ S2 (((L.mono (e1.trans e2)).set i Is.mk_adr).set j i2)⟩
theorem r_parDN {ob : Ob} (i j : Nat) (ha : PX C F a ds os x os1) (hb : PN C F b ds os1 ob os2) (k : ∀ q, Run C F rest D ((ds.set i (some x)).set j (some (.adr q))) ((q, ob) :: os2)) (hn : P2 C i j x' y' := by exact ⟨by decide, fun _ => ⟨‹List.Nodup _›, rfl, rfl, rfl, rfl⟩⟩) (hw : Sw2 C x' y' px py pt pt2 kt k2 a b := by intro _; rfl) (hs : Sw3 C x' y' px py pt pt2 pos kt k2 a b := by intro _; rfl)
    (h1 : St1 C a [b] := by intro _; rfl) (h2 : St1 C b [] := by intro _; rfl) : Run C F (.Assign [.Tuple [.Name x' px, .Name y' py] kt pt] (.Tuple [a, b] k2 pt2) pos :: rest) D ds os :=
  r_step (fun l => ps_par (C.calm l) (hn.2 l).1 (hn.2 l).2.1 (hn.2 l).2.2.1 hn.1 (hn.2 l).2.2.2.1 (hn.2 l).2.2.2.2 (pa_cons (pe_EX l) (pa_cons (pe_EX l) pa_nil (h2 l)) (h1 l)) (hw l) (hs l)) fun B H σ S L =>
    ha B H σ S L _ fun u B1 H1 e1 S1 i1 => hb B1 H1 σ S1 (L.mono e1) _ fun q B2 H2 e2 S2 => ⟨u, _, rfl, k q B2 H2 _ S2 (((L.mono (e1.trans e2)).set i (i1.mono e2)).set j Is.mk_adr)⟩
variable {z' : Str} {pz : Pos}
theorem r_par3DNN {ob oc : Ob} (i j m : Nat) (ha : PX C F a ds os x os1) (hb : PN C F b ds os1 ob os2) (hc : ∀ q, PN C F c ds ((q, ob) :: os2) oc ((q, ob) :: os2)) (k : ∀ q r, Run C F rest D (((ds.set i (some x)).set j (some (.adr q))).set m (some (.adr r))) ((r, oc) :: (q, ob) :: os2))
    (hij : i ≠ j := by decide) (him : i ≠ m := by decide) (hjm : j ≠ m := by decide) (hn : ∀ l, (C.X l).N.Nodup ∧ (C.X l).N[i]? = some x' ∧ (C.X l).N[j]? = some y' ∧ (C.X l).N[m]? = some z' ∧ (C.X l).env.scope.names.lookup x' = some .local ∧ (C.X l).env.scope.names.lookup y' = some .local ∧ (C.X l).env.scope.names.lookup z' = some .local := by exact fun _ => ⟨‹List.Nodup _›, rfl, rfl, rfl, rfl, rfl, rfl⟩)
    (hw : ∀ l, swappedStores [.Tuple [.Name x' px, .Name y' py, .Name z' pz] kt pt] (.Tuple [a, b, c] k2 pt2) (C.X l).env = pure (some [x', y', z']) := by intro _; rfl) (hs : ∀ l, swapsWithSole [.Tuple [.Name x' px, .Name y' py, .Name z' pz] kt pt] (.Tuple [a, b, c] k2 pt2) pos.line (C.X l).env = pure false := by intro _; rfl)
    (h1 : St1 C a [b, c] := by intro _; rfl) (h2 : St1 C b [c] := by intro _; rfl) (h3 : St1 C c [] := by intro _; rfl) : Run C F (.Assign [.Tuple [.Name x' px, .Name y' py, .Name z' pz] kt pt] (.Tuple [a, b, c] k2 pt2) pos :: rest) D ds os :=
  r_step (fun l => let ⟨n1, n2, n3, n4, n5, n6, n7⟩ := hn l; ps_par3 (C.calm l) n1 n2 n3 n4 hij him hjm n5 n6 n7 (pa_cons (pe_EX l) (pa_cons (pe_EX l) (pa_cons (pe_EX l) pa_nil (h3 l)) (h2 l)) (h1 l)) (hw l) (hs l)) fun B H σ S L =>
    ha B H σ S L _ fun u B1 H1 e1 S1 i1 => hb B1 H1 σ S1 (L.mono e1) _ fun q B2 H2 e2 S2 => hc q B2 H2 σ S2 (L.mono (e1.trans e2)) _ fun r B3 H3 e3 S3 => ⟨u, _, _, rfl, k q r B3 H3 _ S3 ((((L.mono (e1.trans (e2.trans e3))).set i (i1.mono (e2.trans e3))).set j Is.mk_adr).set m Is.mk_adr)⟩
end
/-! ### stores -/
theorem r_setix {q : Addr} {i : Int} {us : List Dt} {j : Nat} {tpos : Pos} (k : Nat) (he : PX C F e ds os d os1) (ho : PX C F a ds os1 (.adr q) os1) (hi : PX C F b ds os1 (.int i) os2) (hk : os2[k]? = some (q, .lst us)) (hj : ixN us.length i = some j) (kk : Run C F rest D ds (os2.set k (q, .lst (us.set j d))))
    (hs : ∀ l, swapsWithSole [.Subscript a b tpos] e pos.line (C.X l).env = pure false := by intro _; rfl) (hw : ∀ l, swappedStores [.Subscript a b tpos] e (C.X l).env = pure none := by intro _; rfl) (h1 : ∀ l, (assignEach [.Subscript a b tpos] (C.X l).env).map (·.2) = [assign (.Subscript a b tpos) (C.X l).env] := by intro _; rfl)
    (h2 : ∀ l v, assign (.Subscript a b tpos) (C.X l).env v = (do
      let ov ← holding [v] (eval a (C.X l).env)
      let iv ← holding [v, ov] (eval b (C.X l).env)
      standAt tpos
      holding [v, ov, iv] (setItem ov iv v)
      release [v, ov, iv] []) := by intro _ _; rfl) : Run C F (.Assign [.Subscript a b tpos] e pos :: rest) D ds os :=
  r_step (fun l => ps_asg (pe_EX l) (pg_sub (pe_EX l) (pe_EX l) set_list (h2 l)) (hs l) (hw l) (h1 l)) fun B H σ S L => he B H σ S L _ fun v B1 H1 e1 S1 i1 => ho B1 H1 σ S1 (L.mono e1) _ fun u B2 H2 e2 S2 i2 => hi B2 H2 σ S2 (L.mono (e1.trans e2)) _ fun t B3 H3 e3 S3 i3 => by
    obtain ⟨_, _, ws, h7, h8⟩ := S3.get hk
    exact ⟨q, ws, i, j, is_adr i2, is_int i3, h7, by rw [is_len h8]; exact hj, kk B3 _ σ (S3.put hk ⟨_, upd_same, h8.set j (i1.mono (e2.trans e3))⟩) (L.mono (e1.trans (e2.trans e3)))⟩
theorem r_augix {q : Addr} {i : Int} {us : List Dt} {u v : Int} {tpos : Pos} (k : Nat) (ho : PX C F a ds os (.adr q) os) (hi : PX C F b ds os (.int i) os) (he : PX C F e ds os (.int v) os) (hk : os[k]? = some (q, .lst us)) (h0 : 0 ≤ i) (hj : us[i.toNat]? = some (.int u)) (kk : Run C F rest D ds (os.set k (q, .lst (us.set i.toNat (.int (u + v))))))
    (h2 : ∀ ov iv new, augStore b ov iv new = (do holding [new, ov, iv] (setItem ov iv new); release [new, ov, iv] []; pure .next) := by intros; rfl) : Run C F (.AugAssign (.Subscript a b tpos) .Add e pos :: rest) D ds os :=
  r_step (t := tAugS (EX C a) (EX C b) (EX C e) (rGetL C.K) (ipI fun i j => i + j) rSetL) (fun l => by rw [← C.hK l]; exact ps_augS (pe_EX l) (pe_EX l) get_list (pe_EX l) ip_add set_list h2) fun B H σ S L => ho B H σ S L _ fun w1 B1 H1 e1 S1 i1 => hi B1 H1 σ S1 (L.mono e1) _ fun w2 B2 H2 e2 S2 i2 => by
    obtain ⟨_, _, ws, h7, h8⟩ := S2.get hk
    obtain ⟨t, h9, h10⟩ := h8.get hj
    refine ⟨q, ws, i, t, is_adr (i1.mono e2), is_int i2, .inl (.inl h7), h0, h9, he B2 H2 σ S2 (L.mono (e1.trans e2)) _ fun w3 B3 H3 e3 S3 i3 => ?_⟩
    obtain ⟨_, _, ws', h7', h8'⟩ := S3.get hk
    have hl : i.toNat < us.length := (List.getElem?_eq_some_iff.mp hj).1
    refine ⟨u, v, is_int h10, is_int i3, q, ws', i, i.toNat, is_adr (i1.mono e2), is_int i2, h7', ?_, kk B3 _ σ (S3.put hk ⟨_, upd_same, h8'.set _ Is.mk_int⟩) (L.mono (e1.trans (e2.trans e3)))⟩
    unfold ixN
    rw [if_pos h0, is_len h8', if_pos (by omega)]
theorem r_dput {q : Addr} {i : Int} {kvs : List (Int × Dt)} {tpos : Pos} (k : Nat) (he : PX C F e ds os d os1) (ho : PX C F a ds os1 (.adr q) os1) (hi : PX C F b ds os1 (.int i) os2) (hk : os2[k]? = some (q, odic kvs)) (hz : kvs.length < 1000000) (kk : Run C F rest D ds (os2.set k (q, odic (putA kvs i d))))
    (hs : ∀ l, swapsWith e (some (.Subscript a b tpos)) pos.line (C.X l).env = pure false := by intro _; rfl) : Run C F (.Assign [.Subscript a b tpos] e pos :: rest) D ds os :=
  r_step (fun l => ps_dput (C_u1 C l) (pe_EX l) (pe_EX l) (pe_EX l) (hs l)) fun B H σ S L => he B H σ S L _ fun v B1 H1 e1 S1 i1 => ho B1 H1 σ S1 (L.mono e1) _ fun u B2 H2 e2 S2 i2 => hi B2 H2 σ S2 (L.mono (e1.trans e2)) _ fun t B3 H3 e3 S3 i3 => by
    obtain ⟨_, _, vs, h1, h2, h2'⟩ := S3.get hk
    obtain ⟨us, h3, h4⟩ := putK_is (f := kI) (fun _ _ => kI_inj) i (i1.mono (e2.trans e3)) h2'
    have hz2 : (((kvs.map (·.1)).map kI).zip vs).length < sizeLine := by
      rw [List.length_zip, List.length_map, ← h2, Nat.min_self, List.length_map]
      exact sz_lt hz
    refine ⟨q, _, is_adr i2, by rw [is_int i3]; exact DPut.k (k := kI i) h1 hz2, kk B3 _ σ (S3.put hk ⟨us, by rw [h3]; exact upd_same, by rw [← h4.length, List.length_map, List.length_map], h4⟩) (L.mono (e1.trans (e2.trans e3)))⟩
theorem r_dput2 {q : Addr} {i j : Int} {kvs : List ((Int × Int) × Dt)} {tpos : Pos} (k : Nat) (he : PX C F e ds os d os1) (ho : PX C F a ds os1 (.adr q) os1) (hi : PX C F b ds os1 (.tup [.int i, .int j]) os2) (hk : os2[k]? = some (q, odct kvs)) (hz : kvs.length < 1000000) (kk : Run C F rest D ds (os2.set k (q, odct (putA kvs (i, j) d))))
    (hs : ∀ l, swapsWith e (some (.Subscript a b tpos)) pos.line (C.X l).env = pure false := by intro _; rfl) : Run C F (.Assign [.Subscript a b tpos] e pos :: rest) D ds os :=
  r_step (fun l => ps_dput (C_u1 C l) (pe_EX l) (pe_EX l) (pe_EX l) (hs l)) fun B H σ S L => he B H σ S L _ fun v B1 H1 e1 S1 i1 => ho B1 H1 σ S1 (L.mono e1) _ fun u B2 H2 e2 S2 i2 => hi B2 H2 σ S2 (L.mono (e1.trans e2)) _ fun t B3 H3 e3 S3 i3 => by
    obtain ⟨_, _, vs, h1, h2, h2'⟩ := S3.get hk
    obtain ⟨us, h3, h4⟩ := putK_is (f := kT) (fun _ _ => kT_inj) (i, j) (i1.mono (e2.trans e3)) h2'
    have hz2 : (((kvs.map (·.1)).map kT).zip vs).length < sizeLine := by
      rw [List.length_zip, List.length_map, ← h2, Nat.min_self, List.length_map]
      exact sz_lt hz
    obtain ⟨tp, us', rfl, h5, h6⟩ := is_tup i3
    have eu := IsA.ints (is := [i, j]) h6
    subst eu
    refine ⟨q, _, is_adr i2, DPut.t (k := kT (i, j)) h1 (S3.bh _ _ h5) hz2, kk B3 _ σ (S3.put hk ⟨us, by rw [h3]; exact upd_same, by rw [← h4.length, List.length_map, List.length_map], h4⟩) (L.mono (e1.trans (e2.trans e3)))⟩
/-! ### if, while -/
theorem r_if {t : Bool} {A A' : List Stmt} (hc : PB C F c ds os t os1) (h1 : t = true → Run C F A { D with nx := BX C rest D } ds os1) (h2 : t = false → Run C F A' { D with nx := BX C rest D } ds os1) : Run C F (.If c A A' pos :: rest) D ds os :=
  r_step (fun i => ps_if (pt_TX i) (pss_BX i) (pss_BX i)) fun B H σ S L => hc B H σ S L _ fun B1 H1 e1 S1 => by
    cases t with
    | true =>
      rw [if_pos rfl]
      exact h1 rfl B1 H1 σ S1 (L.mono e1)
    | false =>
      rw [if_neg Bool.false_ne_true]
      exact h2 rfl B1 H1 σ S1 (L.mono e1)
/-- if without else -/
theorem r_when {t : Bool} {A : List Stmt} (hc : PB C F c ds os t os1) (h1 : t = true → Run C F A { D with nx := BX C rest D } ds os1) (h2 : t = false → Run C F rest D ds os1) : Run C F (.If c A [] pos :: rest) D ds os := r_if hc h1 fun e => r_end (h2 e)
theorem Run.le {sts : List Stmt} {D' : Ends} (l : Le D D') (h : Run C F sts D ds os) : Run C F sts D' ds os := fun B H σ S L => (h B H σ S L).le l
/-- an if, a word behind it -/
theorem r_ifM {t : Bool} {A A' : List Stmt} (P : DEnv → Own → Prop) (hc : PB C F c ds os t os1) (h1 : t = true → Run C F A { D with nx := NxP C.w F P } ds os1) (h2 : t = false → Run C F A' { D with nx := NxP C.w F P } ds os1) (k : ∀ ds' os', P ds' os' → Run C F rest D ds' os') : Run C F (.If c A A' pos :: rest) D ds os := by
  have l : Le { D with nx := NxP C.w F P } { D with nx := BX C rest D } := ⟨fun σ H ⟨ds', os', B', p, S', L'⟩ => k ds' os' p B' H σ S' L', fun _ _ h => h, fun _ _ h => h, fun _ _ h => h⟩
  exact r_if hc (fun e => (h1 e).le l) (fun e => (h2 e).le l)
/-- while: I by a measure -/
theorem r_while {body : List Stmt} (I : Nat → DEnv → Own → Prop) (m0 : Nat) (h0 : I m0 ds os)
    (h : ∀ m ds os, I m ds os → ∃ t os1, PB C F c ds os t os1 ∧ (t = true → Run C F body { nx := NxP C.w F (fun ds os => ∃ m', m' < m ∧ I m' ds os), rt := D.rt, bk := BX C rest D, ct := NxP C.w F (fun ds os => ∃ m', m' < m ∧ I m' ds os) } ds os1) ∧ (t = false → Run C F rest D ds os1))
    (hp : ∀ i, PassesOwn (model (C.X i).prog (C.X i).w) (C.X i).A (C.X i).env (C.X i).xe := by intro _; exact PassesOwn.never) : Run C F (.While c body [] pos :: rest) D ds os :=
  r_step (fun i => ps_while (hp i) (pt_TX i) (pss_BX i)) fun B H σ S L => ⟨fun m σ H => ∃ ds os B, I m ds os ∧ Sh C.w F B H os ∧ Slots B σ ds, ⟨m0, ds, os, B, h0, S, L⟩, fun m σ H ⟨ds, os, B, hi, S, L⟩ => by
    obtain ⟨t, os1, hb, h1, h2⟩ := h m ds os hi
    refine hb B H σ S L _ fun B1 H1 e1 S1 => ?_
    cases t with
    | true =>
      rw [if_pos rfl]
      exact ⟨NxP C.w F (fun ds os => ∃ m', m' < m ∧ I m' ds os), fun σ' H' ⟨ds', os', B', ⟨m', lt, i'⟩, S', L'⟩ => ⟨m', lt, ds', os', B', i', S', L'⟩, h1 rfl B1 H1 σ S1 (L.mono e1)⟩
    | false =>
      rw [if_neg Bool.false_ne_true]
      exact h2 rfl B1 H1 σ S1 (L.mono e1)⟩
/-! ### walks -/
structure Wk (w : World) (F : Fr) (J : It) (B : Hp) (xs : List Dt) : Prop where
  go : ∀ i B2 H2 os, i < xs.length → Same B B2 → Sh w F B2 H2 os → J.go i H2
  stop : ∀ B2 H2 os, Same B B2 → Sh w F B2 H2 os → J.stop xs.length H2
  yld : ∀ i B2 H2 os x H3, i < xs.length → Same B B2 → Sh w F B2 H2 os → J.yld i H2 x H3 → ∃ B3 d, Same B2 B3 ∧ Sh w F B3 H3 os ∧ xs[i]? = some d ∧ Is B3 d x
def PIt (C : Cxs) (F : Fr) (tg iter : Expr) (ds : DEnv) (os : Own) (xs : List Dt) (os1 : Own) : Prop := ∀ B H σ, Sh C.w F B H os → Slots B σ ds → ∀ R : It → Hp → Prop, (∀ J B' H', Same B B' → Sh C.w F B' H' os1 → Wk C.w F J B' xs → R J H') → IX C tg iter σ H R
theorem SqL.uniq {K : PySem.W.Frag} {H : Hp} {p : Addr} {xs : List V} (h : H p = some (.lst xs)) : SqL K H p xs := .inl (.inl h)
theorem lt_get {xs : List Dt} {i : Nat} (h : i < xs.length) : ∃ d, xs[i]? = some d := ⟨_, List.getElem?_eq_getElem h⟩
theorem i_list {tg : Expr} {xs : List Dt} (h : PX C F e ds os (.lst xs) os1) : PIt C F tg e ds os xs os1 := fun B H σ S L R q => ⟨iList C.K (EX C e), fun i => by rw [← C.hK i]; exact pi_list (pe_EX i), h B H σ S L _ fun v B1 H1 e1 S1 i1 => by
  obtain ⟨p, vs, rfl, h1, h2⟩ := is_lst i1
  have hl := is_len h2
  have wk := walk_list (K := C.K) (a := p) (xs := vs)
  refine ⟨p, rfl, ⟨vs, .inl (.inl (S1.bh _ _ h1))⟩, q _ B1 H1 e1 S1 ⟨fun i B2 H2 os2 hi eB S2 => wk.goes i H2 (by omega) (.inl (.inl (S2.bh _ _ (eB _ _ h1)))), fun B2 H2 os2 eB S2 => ?_, fun i B2 H2 os2 x H3 hi eB S2 y => ?_⟩⟩
  · have := wk.stops H2 (.inl (.inl (S2.bh _ _ (eB _ _ h1))))
    rw [hl] at this
    exact this
  · obtain ⟨y1, y2⟩ := wk.yields i H2 x H3 (by omega) (.inl (.inl (S2.bh _ _ (eB _ _ h1)))) y
    subst y1
    obtain ⟨d, hd⟩ := lt_get hi
    obtain ⟨v, hv, iv⟩ := h2.get hd
    rw [y2] at hv
    cases hv
    exact ⟨B2, d, Same.refl _, S2, hd, iv.mono eB⟩⟩
theorem i_tup {tg : Expr} {xs : List Dt} (h : PX C F e ds os (.tup xs) os1) : PIt C F tg e ds os xs os1 := fun B H σ S L R q => ⟨iTup C.K (EX C e), fun i => by rw [← C.hK i]; exact pi_tup (pe_EX i), h B H σ S L _ fun v B1 H1 e1 S1 i1 => by
  obtain ⟨p, vs, rfl, h1, h2⟩ := is_tup i1
  have hl := is_len h2
  have wk := walk_tup (K := C.K) (a := p) (xs := vs)
  refine ⟨p, rfl, ⟨vs, .inl (.inl (S1.bh _ _ h1))⟩, q _ B1 H1 e1 S1 ⟨fun i B2 H2 os2 hi eB S2 => wk.goes i H2 (by omega) (.inl (.inl (S2.bh _ _ (eB _ _ h1)))), fun B2 H2 os2 eB S2 => ?_, fun i B2 H2 os2 x H3 hi eB S2 y => ?_⟩⟩
  · have := wk.stops H2 (.inl (.inl (S2.bh _ _ (eB _ _ h1))))
    rw [hl] at this
    exact this
  · obtain ⟨y1, y2⟩ := wk.yields i H2 x H3 (by omega) (.inl (.inl (S2.bh _ _ (eB _ _ h1)))) y
    subst y1
    obtain ⟨d, hd⟩ := lt_get hi
    obtain ⟨v, hv, iv⟩ := h2.get hd
    rw [y2] at hv
    cases hv
    exact ⟨B2, d, Same.refl _, S2, hd, iv.mono eB⟩⟩
theorem wk_range {w : World} {lo : Int} {m : Nat} {B : Hp} : Wk w F (Itr lo m) B ((List.range m).map fun i => Dt.int (lo + (i : Nat))) := by
  have hl : ((List.range m).map fun i => Dt.int (lo + (i : Nat))).length = m := by rw [List.length_map, List.length_range]
  refine ⟨fun i B2 H2 os2 hi eB S2 => by rw [hl] at hi; exact hi, fun B2 H2 os2 eB S2 => by rw [hl]; exact Nat.le_refl _, fun i B2 H2 os2 x H3 hi eB S2 y => ?_⟩
  obtain ⟨y1, y2⟩ := y
  subst y1 y2
  rw [hl] at hi
  exact ⟨B2, _, Same.refl _, S2, by rw [List.getElem?_map, List.getElem?_range hi]; rfl, Is.mk_int⟩
theorem i_rng1 {tg : Expr} {j : Int} (hm : C.mg "range" = none) (h : PX C F a ds os (.int j) os1) (hz : -1000000 ≤ j ∧ j ≤ 1000000) (h1 : St1 C a [] := by intro _; rfl) (h2 : ∀ i, starEach [a] (C.X i).env = [(false, eval a (C.X i).env)] := by intro _; rfl) (hg : ∀ i, Gl (C.X i) "range" := by intro _; rfl) :
    PIt C F tg (.Call (.Name "range" p) [a] [] pos) ds os ((List.range j.toNat).map fun i => Dt.int ((i : Nat) : Int)) os1 := fun B H σ S L R q => ⟨iRng1 (AX C [a]), fun i => pi_range1 (hg i) (by rw [C.hm i]; exact hm) (pa_AX i) (h2 i), l1 h h1 B H σ S L _ fun vs B1 H1 e1 S1 i1 => by
  obtain ⟨u, rfl, h3⟩ := isA1 i1
  rw [is_int h3]
  have wk := wk_range (w := C.w) (F := F) (lo := 0) (m := j.toNat) (B := B1)
  simp only [Int.zero_add] at wk
  exact ⟨j, rfl, by omega, by omega, q _ B1 H1 e1 S1 wk⟩⟩
theorem i_rng2 {tg : Expr} {i j : Int} (hm : C.mg "range" = none) (ha : PX C F a ds os (.int i) os1) (hb : PX C F b ds os1 (.int j) os2) (hz : -1000000 ≤ i ∧ i ≤ 1000000 ∧ -1000000 ≤ j ∧ j ≤ 1000000) (h1 : St1 C a [b] := by intro _; rfl) (h3 : St1 C b [] := by intro _; rfl) (h2 : ∀ i, starEach [a, b] (C.X i).env = [(false, eval a (C.X i).env), (false, eval b (C.X i).env)] := by intro _; rfl)
    (h4 : ∀ i, starEach [b] (C.X i).env = [(false, eval b (C.X i).env)] := by intro _; rfl) (hg : ∀ i, Gl (C.X i) "range" := by intro _; rfl) : PIt C F tg (.Call (.Name "range" p) [a, b] [] pos) ds os (rgD i j) os2 := fun B H σ S L R q => ⟨iRng2 (AX C [a, b]), fun l => pi_range2 (hg l) (by rw [C.hm l]; exact hm) (pa_AX l) (h2 l) (h4 l), l2 ha hb h1 h3 B H σ S L _ fun vs B1 H1 e1 S1 i1 => by
  obtain ⟨u, v, rfl, h5, h6⟩ := isA2 i1
  rw [is_int h5, is_int h6]
  exact ⟨i, j, rfl, ⟨by omega, by omega, by omega, by omega⟩, q _ B1 H1 e1 S1 wk_range⟩⟩
theorem wk_pair {w : World} {B : Hp} {J : It} {m : Nat} {f g : Nat → Dt} (hgo : ∀ i B2 H2 os, i < m → Same B B2 → Sh w F B2 H2 os → J.go i H2) (hst : ∀ B2 H2 os, Same B B2 → Sh w F B2 H2 os → J.stop m H2)
    (hy : ∀ i B2 H2 os v H3, i < m → Same B B2 → Sh w F B2 H2 os → J.yld i H2 v H3 → ∃ T x y, v = .ref T ∧ H2 T = none ∧ H3 = upd H2 T (.tup [x, y]) ∧ Is B2 (f i) x ∧ Is B2 (g i) y) : Wk w F J B ((List.range m).map fun i => .tup [f i, g i]) := by
  have hl : ((List.range m).map fun i => Dt.tup [f i, g i]).length = m := by rw [List.length_map, List.length_range]
  refine ⟨fun i B2 H2 os2 hi eB S2 => hgo i B2 H2 os2 (by rw [hl] at hi; exact hi) eB S2, fun B2 H2 os2 eB S2 => by rw [hl]; exact hst B2 H2 os2 eB S2, fun i B2 H2 os2 x H3 hi eB S2 y => ?_⟩
  rw [hl] at hi
  obtain ⟨T, x', y', rfl, hT, rfl, hx, hy'⟩ := hy i B2 H2 os2 x H3 hi eB S2 y
  obtain ⟨h1, h2, h3⟩ := S2.newT (xs := [f i, g i]) (.cons hx (.cons hy' .nil)) hT
  exact ⟨_, _, h1, h2, by rw [List.getElem?_map, List.getElem?_range hi]; rfl, h3⟩
def enumD (xs : List Dt) : List Dt := (List.range xs.length).map fun i => .tup [.int (i : Nat), xs.getD i .non]
theorem getD_of {xs : List Dt} {i : Nat} (h : i < xs.length) : xs[i]? = some (xs.getD i .non) := by
  rw [List.getElem?_eq_getElem h, List.getD_eq_getElem?_getD, List.getElem?_eq_getElem h]
  rfl
theorem i_enumL {xs : List Dt} {elts : List Expr} {kk : Nat} {tpos : Pos} (hm : C.mg "enumerate" = none) (h : PX C F a ds os (.lst xs) os1) (h1 : St1 C a [] := by intro _; rfl) (h2 : ∀ i, starEach [a] (C.X i).env = [(false, eval a (C.X i).env)] := by intro _; rfl) (hg : ∀ i, Gl (C.X i) "enumerate" := by intro _; rfl) :
    PIt C F (.Tuple elts kk tpos) (.Call (.Name "enumerate" p) [a] [] pos) ds os (enumD xs) os1 := fun B H σ S L R q => ⟨iEnum C.K (AX C [a]), fun i => by rw [← C.hK i]; exact pi_enum (hg i) (by rw [C.hm i]; exact hm) (pa_AX i) (h2 i), l1 h h1 B H σ S L _ fun us B1 H1 e1 S1 i1 => by
  obtain ⟨u, rfl, h3⟩ := isA1 i1
  obtain ⟨r, vs, rfl, h4, h5⟩ := is_lst h3
  have hl := is_len h5
  have wk := walk_enum (K := C.K) (a := r) (xs := vs)
  have g : ∀ {B2 H2 os2}, Same B1 B2 → Sh C.w F B2 H2 os2 → SqL C.K H2 r vs := fun eB S2 => .inl (.inl (S2.bh _ _ (eB _ _ h4)))
  refine ⟨r, vs, rfl, g (Same.refl _) S1, q _ B1 H1 e1 S1 (wk_pair (fun i B2 H2 os2 hi eB S2 => wk.goes i H2 (by omega) (g eB S2)) (fun B2 H2 os2 eB S2 => ?_) fun i B2 H2 os2 v H3 hi eB S2 y => ?_)⟩
  · have := wk.stops H2 (g eB S2)
    rw [hl] at this
    exact this
  · obtain ⟨T, x, y', h6, h7, h8, h9, h10⟩ := wk.yields i H2 v H3 (by omega) (g eB S2) y
    cases h9
    obtain ⟨v', hv, iv⟩ := h5.get (getD_of hi)
    rw [show vs[i]? = _ from h10] at hv
    cases hv
    exact ⟨T, _, _, h6, h7, h8, Is.mk_int, iv.mono eB⟩⟩
theorem i_enumT {xs : List Dt} {elts : List Expr} {kk : Nat} {tpos : Pos} (hm : C.mg "enumerate" = none) (h : PX C F a ds os (.tup xs) os1) (h1 : St1 C a [] := by intro _; rfl) (h2 : ∀ i, starEach [a] (C.X i).env = [(false, eval a (C.X i).env)] := by intro _; rfl) (hg : ∀ i, Gl (C.X i) "enumerate" := by intro _; rfl) :
    PIt C F (.Tuple elts kk tpos) (.Call (.Name "enumerate" p) [a] [] pos) ds os (enumD xs) os1 := fun B H σ S L R q => ⟨iEnumT C.K (AX C [a]), fun i => by rw [← C.hK i]; exact pi_enumT (hg i) (by rw [C.hm i]; exact hm) (pa_AX i) (h2 i), l1 h h1 B H σ S L _ fun us B1 H1 e1 S1 i1 => by
  obtain ⟨u, rfl, h3⟩ := isA1 i1
  obtain ⟨r, vs, rfl, h4, h5⟩ := is_tup h3
  have hl := is_len h5
  have g : ∀ {B2 H2 os2}, Same B1 B2 → Sh C.w F B2 H2 os2 → SqT C.K H2 r vs := fun eB S2 => .inl (.inl (S2.bh _ _ (eB _ _ h4)))
  refine ⟨r, vs, rfl, g (Same.refl _) S1, q _ B1 H1 e1 S1 (wk_pair (fun i B2 H2 os2 hi eB S2 => ?_) (fun B2 H2 os2 eB S2 => ⟨vs, g eB S2, by omega⟩) fun i B2 H2 os2 v H3 hi eB S2 y => ?_)⟩
  · exact ⟨vs, vs[i]'(by omega), g eB S2, List.getElem?_eq_getElem (by omega)⟩
  · obtain ⟨T, x, h6, h7, h8, h9⟩ := y
    obtain ⟨v', hv, iv⟩ := h5.get (getD_of hi)
    rw [h9 vs (g eB S2)] at hv
    cases hv
    exact ⟨T, _, _, h6, h7, h8, Is.mk_int, iv.mono eB⟩⟩
def zipD (xs ys : List Dt) : List Dt := (List.range (min xs.length ys.length)).map fun i => .tup [xs.getD i .non, ys.getD i .non]
theorem i_zip {xs ys : List Dt} {elts : List Expr} {kk : Nat} {tpos : Pos} (hm : C.mg "zip" = none) (ha : PX C F a ds os x os1) (hb : PX C F b ds os1 y os2) (hx : x = .lst xs) (hy : y = .lst ys) (h1 : St1 C a [b] := by intro _; rfl) (h3 : St1 C b [] := by intro _; rfl) (h2 : St2 C [b] pos := by intro _; rfl) (hg : ∀ i, Gl (C.X i) "zip" := by intro _; rfl) :
    PIt C F (.Tuple elts kk tpos) (.Call (.Name "zip" p) [a, b] [] pos) ds os (zipD xs ys) os2 := fun B H σ S L R q => ⟨iZip C.K (AX C [a, b]), fun i => by rw [← C.hK i]; exact pi_zip (hg i) (by rw [C.hm i]; exact hm) (pa_AX i) (h1 i) (h2 i), l2 ha hb h1 h3 B H σ S L _ fun us B1 H1 e1 S1 i1 => by
  subst hx hy
  obtain ⟨u, v, rfl, h5, h6⟩ := isA2 i1
  obtain ⟨r, vs, rfl, h7, h8⟩ := is_lst h5
  obtain ⟨t, ws, rfl, h9, h10⟩ := is_lst h6
  have hl := is_len h8
  have hl2 := is_len h10
  have wk := walk_zip (K := C.K) (a := r) (b := t) (xs := vs) (ys := ws) (n := min xs.length ys.length) (by rw [hl, hl2])
  have g : ∀ {B2 H2 os2}, Same B1 B2 → Sh C.w F B2 H2 os2 → SqL C.K H2 r vs ∧ SqL C.K H2 t ws := fun eB S2 => ⟨.inl (.inl (S2.bh _ _ (eB _ _ h7))), .inl (.inl (S2.bh _ _ (eB _ _ h9)))⟩
  refine ⟨r, t, vs, ws, rfl, (g (Same.refl _) S1).1, (g (Same.refl _) S1).2, q _ B1 H1 e1 S1 (wk_pair (fun i B2 H2 os2 hi eB S2 => wk.goes i H2 hi (g eB S2)) (fun B2 H2 os2 eB S2 => wk.stops H2 (g eB S2)) fun i B2 H2 os2 v H3 hi eB S2 y => ?_)⟩
  obtain ⟨T, x, y', h11, h12, h13, h14, h15⟩ := wk.yields i H2 v H3 hi (g eB S2) y
  obtain ⟨v', hv, iv⟩ := h8.get (getD_of (i := i) (by omega))
  obtain ⟨w', hw, iw⟩ := h10.get (getD_of (i := i) (by omega))
  rw [show vs[i]? = _ from h14] at hv
  rw [show ws[i]? = _ from h15] at hw
  cases hv
  cases hw
  exact ⟨T, _, _, h11, h12, h13, iv.mono eB, iw.mono eB⟩⟩
/-! ### for -/
def Fle (w : World) (F F' : Fr) : Prop := ∀ {B H : Hp} {os : Own}, Sh w F' B H os → Sh w F B H os
theorem Fle.refl {w : World} (F : Fr) : Fle w F F := fun h => h
theorem Fle.trans {w : World} {F F' F'' : Fr} (a : Fle w F F') (b : Fle w F' F'') : Fle w F F'' := fun h => a (b h)
theorem RtOk.up {w : World} {F F' : Fr} {R : VK} (l : Fle w F F') (h : RtOk w F R d os) : RtOk w F' R d os := fun B H v S => h B H v (l S)
theorem Run.up {F' : Fr} {sts : List Stmt} (l : Fle C.w F F') (h : Run C F sts D ds os) : Run C F' sts D ds os := fun B H σ S => h B H σ (l S)
theorem Sh.anchor {w : World} {B1 H1 : Hp} {os1 : Own} (S1 : Sh w F B1 H1 os1) : Fle w F ⟨B1, F.H⟩ := fun S => ⟨S1.eB.trans S.eB, S.eH, S.bh, fun a ha => (S.nw a ha).trans (S1.nw a ha), S.ow, S.fr⟩
theorem Sh.anchored {w : World} {B1 H1 B H : Hp} {os1 os : Own} (S1 : Sh w F B1 H1 os1) (S : Sh w F B H os) (e : Same B1 B) : Sh w ⟨B1, F.H⟩ B H os := ⟨e, S.eH, S.bh, fun a ha => (S.nw a ha).trans (S1.nw a ha).symm, S.ow, S.fr⟩
theorem r_for {tg iter : Expr} {body : List Stmt} {xs : List Dt} (I : Nat → DEnv → Own → Prop) (hi : PIt C F tg iter ds os xs os1) (h0 : I 0 ds os1)
    (hb : ∀ F', Fle C.w F F' → ∀ i d ds os, xs[i]? = some d → I i ds os → ∃ ds' js, PGt C F' tg d ds ds' js ∧ Run C F' body { nx := NxP C.w F' (I (i + 1)), rt := D.rt, bk := BX C rest D, ct := NxP C.w F' (I (i + 1)) } ds' os) (hd : ∀ ds os, I xs.length ds os → Run C F rest D ds os)
    (hs : ∀ l x, foldedSetIterable iter (C.X l).env x = pure x := by intro _ _; rfl) (hp : ∀ i, PassesOwn (model (C.X i).prog (C.X i).w) (C.X i).A (C.X i).env (C.X i).xe := by intro _; exact PassesOwn.never) : Run C F (.For tg iter body [] pos :: rest) D ds os :=
  r_step (fun i => ps_for (hp i) (C.calm i) (pi_IX i) (pg_GX i) (pss_BX i) (hs i)) fun B H σ S L => hi B H σ S L _ fun J B1 H1 e1 S1 wk => by
    have lF : Fle C.w F ⟨B1, F.H⟩ := S1.anchor
    refine ⟨fun i m σ H => m = xs.length - i ∧ i ≤ xs.length ∧ ∃ ds os B, I i ds os ∧ Sh C.w ⟨B1, F.H⟩ B H os ∧ Slots B σ ds, ⟨xs.length, by simp, Nat.zero_le _, ds, os1, B1, h0, S1.anchored S1 (Same.refl _), L.mono e1⟩, fun i m σ H ⟨em, hil, ds', os', B', hI, S', L'⟩ => ?_⟩
    subst em
    by_cases hlt : i < xs.length
    · refine .inr ⟨wk.go i B' H os' hlt S'.eB (lF S'), fun σ2 H2 => NxP C.w ⟨B1, F.H⟩ (I (i + 1)) σ2 H2, fun σ2 H2 ⟨ds, os, B, q1, q2, q3⟩ => ⟨xs.length - (i + 1), by omega, rfl, hlt, ds, os, B, q1, q2, q3⟩, fun x H2 y => ?_⟩
      obtain ⟨B3, d, e3, S3, hd3, i3⟩ := wk.yld i B' H os' x H2 hlt S'.eB (lF S') y
      have S3' : Sh C.w ⟨B1, F.H⟩ B3 H2 os' := S1.anchored S3 (S'.eB.trans e3)
      obtain ⟨ds2, js, g, rn⟩ := hb _ lF i d ds' os' hd3 hI
      exact g B3 H2 σ x os' S3' (L'.mono e3) i3 _ fun σ3 L3 _ => rn B3 H2 σ3 S3' L3
    · have e : i = xs.length := by omega
      subst e
      exact .inl ⟨wk.stop B' H os' S'.eB (lF S'), hd ds' os' hI B' H σ (lF S') L'⟩
end
/-! ### comprehensions -/
def Cxs.blk (C : Cxs) (scope : Scope) : Cxs where
  ι := C.ι × Shared × Hp × Addr × List (Str × Addr) × List Addr
  X := fun p => (C.X p.1).blk p.2.1 p.2.2.1 scope (compEnvC scope p.2.2.2.2.1 p.2.2.2.1 (C.X p.1).env) p.2.2.2.2.2
  P := C.P
  w := C.w
  K := C.K
  mg := C.mg
  base := C.base
  k := C.k
  hP := fun p => C.hP p.1
  hw := fun p => C.hw p.1
  hK := fun p => C.hK p.1
  hm := fun p => C.hm p.1
  hb := fun p => C.hb p.1
  hr := fun p => C.hr p.1
  calm := fun p => C.calm p.1
def TSX (C : Cxs) (ifs : List Expr) : TT := fun σ H Q => ∃ t, (∀ i, PTs (C.X i) ifs t) ∧ t σ H Q
theorem pts_TSX {C : Cxs} {ifs : List Expr} (i : C.ι) : PTs (C.X i) ifs (TSX C ifs) := ⟨fun pins s σ H Q I ⟨_, h, q⟩ => (h i).run pins s σ H Q I q⟩
def PTsB (C : Cxs) (F : Fr) (ifs : List Expr) := EvB C.w F (TSX C ifs)
section
variable {C : Cxs} {F : Fr} {e a b c o : Expr} {es : List Expr} {ds ds1 ds2 : DEnv} {os os1 os2 os3 : Own} {d x y z : Dt} {pos pos' p p2 : Pos} {n : Str} {D : Ends} {rest : List Stmt}
theorem t_nil : PTsB C F [] ds os true os := fun B H σ S L Q q => ⟨tYes, fun _ => pts_nil, q B H (Same.refl _) S⟩
theorem t_one {k : Bool} (h : PB C F c ds os k os1) : PTsB C F [c] ds os k os1 := fun B H σ S L Q q => ⟨TX C c, fun i => pts_one (pt_TX i), h B H σ S L Q q⟩
/-- all that is not one's own is kept in the frame -/
def fcut (B H : Hp) (os : Own) : Fr := ⟨B, fun a => if os.any (fun q => decide (q.1 = a)) then none else H a⟩
theorem fcut_of {B H : Hp} {a : Addr} {o : HO} (h : (fcut B H os).H a = some o) : H a = some o ∧ ∀ q ∈ os, q.1 ≠ a := by
  unfold fcut at h
  simp only at h
  split at h
  · cases h
  · rename_i hn
    refine ⟨h, fun q hq e => hn ?_⟩
    rw [List.any_eq_true]
    exact ⟨q, hq, decide_eq_true e⟩
theorem fcut_mk {B H : Hp} {a : Addr} {o : HO} (h : H a = some o) (hn : ∀ q ∈ os, q.1 ≠ a) : (fcut B H os).H a = some o := by
  unfold fcut
  simp only
  rw [if_neg, h]
  rw [Bool.not_eq_true, List.any_eq_false]
  exact fun q hq e => hn q hq (of_decide_eq_true e)
theorem fcut_sh {w : World} {B H : Hp} {q : Addr × Ob} (S : Sh w F B H (q :: os)) : Sh w (fcut B H os) B H os :=
  ⟨Same.refl _, fun a x h => (fcut_of h).1, S.bh, fun _ _ => rfl, S.ow.2.2.2, fun r hr => by
    unfold fcut
    simp only
    rw [if_pos]
    rw [List.any_eq_true]
    exact ⟨r, hr, decide_eq_true rfl⟩⟩
theorem fcut_back {w : World} {B H B' H' : Hp} {q : Addr × Ob} {os' : Own} (S : Sh w F B H (q :: os)) (S' : Sh w (fcut B H os) B' H' os') : Sh w F B' H' (q :: os') := by
  obtain ⟨h1, h2, h3, h4⟩ := S.ow
  obtain ⟨x, hx⟩ := h2.there
  have hq : (fcut B H os).H q.1 = some x := fcut_mk hx h3
  refine ⟨S.eB.trans S'.eB, fun a y h => S'.eH a y (fcut_mk (S.eH a y h) fun r hr e => ?_), S'.bh, fun a ha => ?_, ⟨?_, h2.mono S'.eB ((S'.eH _ _ hq).trans hx.symm), fun r hr e => ?_, S'.ow⟩, fun r hr => ?_⟩
  · have := S.fr r (List.mem_cons_of_mem _ hr)
    rw [e, h] at this
    cases this
  · obtain ⟨y, hy⟩ := Option.ne_none_iff_exists'.mp ha
    have := fcut_mk (B := B) (os := os) (S.eH a y hy) fun r hr e => by
      have := S.fr r (List.mem_cons_of_mem _ hr)
      rw [e, hy] at this
      cases this
    exact (S'.nw a (by rw [this]; exact fun z => nomatch z)).trans (S.nw a ha)
  · exact (S'.nw q.1 (by rw [hq]; exact fun z => nomatch z)).trans h1
  · have := S'.fr r hr
    rw [e, hq] at this
    cases this
  · rcases List.mem_cons.mp hr with rfl | hr
    · exact S.fr _ List.mem_cons_self
    · have := S'.fr r hr
      cases hf : F.H r.1 with
      | none => rfl
      | some y =>
        rw [fcut_mk (B := B) (os := os) (S.eH _ y hf) fun s hs e => by
          have := S.fr s (List.mem_cons_of_mem _ hs)
          rw [e, hf] at this
          cases this] at this
        cases this
theorem ev_frame {w : World} {te : TE} {q : Addr × Ob} (h : ∀ F, Ev w F te ds os d os1) : Ev w F te ds (q :: os) d (q :: os1) := fun B H σ S L Q f => h (fcut B H os) B H σ (fcut_sh S) L Q fun v B' H' e S' i => f v B' H' e (fcut_back S S') i
theorem evB_frame {w : World} {te : TT} {q : Addr × Ob} {t : Bool} (h : ∀ F, EvB w F te ds os t os1) : EvB w F te ds (q :: os) t (q :: os1) := fun B H σ S L Q f => h (fcut B H os) B H σ (fcut_sh S) L Q fun B' H' e S' => f B' H' e (fcut_back S S')
abbrev BlkO (C : Cxs) (scope : Scope) (own : List (Str × Nat)) : Prop := ∀ i, (C.X i).N.Nodup ∧ BlkOk (C.X i).N (C.X i).env.scope scope own
section
variable {α : Type} {l : List α} {enc : α → Dt} {f : α → Bool} {g : α → Dt} {tg iter elt : Expr} {ifs : List Expr} {scope : Scope}
theorem filt_snoc {i : Nat} {a : α} (h : l[i]? = some a) (f : α → Bool) (g : α → Dt) : ((l.take (i + 1)).filter f).map g = ((l.take i).filter f).map g ++ (if f a = true then [g a] else []) := by
  rw [List.take_add_one, h, List.filter_append, List.map_append]
  congr 1
  show ((([a] : List α).filter f).map g) = _
  by_cases hf : f a = true
  · simp [hf]
  · simp [hf]
/-- the core: from the walk on -/
theorem lc_run {w : World} {K : PySem.W.Frag} {gg : TG} {tt : TT} {te : TE} {own : List Nat} {J : It} {B1 H1 : Hp} {σ : L2.St} {ds' : α → DEnv} {Q : VK} (S1 : Sh w F B1 H1 os1) (L1 : Slots B1 σ ds) (wk : Wk w F J B1 (l.map enc)) (hz : l.length ≤ 900000)
    (hg : ∀ a ∈ l, ∀ F B H σ v os, Sh w F B H os → Slots B σ (wipeD ds own) → Is B (enc a) v → ∀ Q : L2.St → Hp → Prop, (∀ σ', Slots B σ' (ds' a) → wipe σ' own = wipe σ own → Q σ' H) → gg v σ H Q)
    (ht : ∀ a ∈ l, ∀ F, EvB w F tt (ds' a) os1 (f a) os1) (he : ∀ a ∈ l, f a = true → ∀ F, Ev w F te (ds' a) os1 (g a) os1) (q : ∀ p B' H', Same B1 B' → Sh w F B' H' ((p, .lst ((l.filter f).map g)) :: os1) → Q (.ref p) H') :
    ∀ D, H1 D = none → ∃ W : Nat → Nat → Hp → Prop, (∃ m, W 0 m (upd H1 D (.lst []))) ∧ ∀ i m H, W i m H →
      (J.stop i H ∧ Q (.ref D) H) ∨ (J.go i H ∧ ∃ Nx : Hp → Prop, (∀ H', Nx H' → ∃ m', m' < m ∧ W (i + 1) m' H') ∧ ∀ x H', J.yld i H x H' → gg x (wipe σ own) H' fun σ2 H2 => wipe σ2 own = wipe σ own ∧ tt σ2 H2 fun b H3 =>
        if b = true then te σ2 H3 fun y H4 => ∃ acc, H4 D = some (.lst acc) ∧ acc.length < sizeLine ∧ Nx (upd H4 D (.lst (acc ++ [y]))) else Nx H3) := by
  intro E hE
  have hll : (l.map enc).length = l.length := List.length_map _
  let P : Nat → Hp → Prop := fun i H => ∃ B, Same B1 B ∧ Sh w F B H ((E, .lst (((l.take i).filter f).map g)) :: os1)
  refine ⟨fun i m H => m = l.length - i ∧ i ≤ l.length ∧ P i H, ⟨l.length, by simp, Nat.zero_le _, B1, Same.refl _, S1.newL IsA.nil hE⟩, ?_⟩
  rintro i m H ⟨rfl, hil, B, eB, S⟩
  by_cases hlt : i < l.length
  · refine .inr ⟨wk.go i B H _ (by omega) eB S, P (i + 1), fun H' p' => ⟨l.length - (i + 1), by omega, rfl, hlt, p'⟩, fun x H' y => ?_⟩
    obtain ⟨B3, d, e3, S3, hd3, i3⟩ := wk.yld i B H _ x H' (by omega) eB S y
    have ha : l[i]? = some l[i] := List.getElem?_eq_getElem hlt
    have hm : l[i] ∈ l := List.getElem_mem hlt
    rw [List.getElem?_map, ha] at hd3
    cases hd3
    refine hg _ hm F B3 H' _ x _ S3 ((L1.mono (eB.trans e3)).wipe own) i3 _ fun σ3 L3 hw => ⟨?_, evB_frame (ht _ hm) B3 H' σ3 S3 L3 _ fun B4 H4 e4 S4 => ?_⟩
    · rw [hw]
      exact wipe_wipe σ own
    · cases hf : f l[i] with
      | false =>
        rw [if_neg Bool.false_ne_true]
        refine ⟨B4, eB.trans (e3.trans e4), ?_⟩
        rw [filt_snoc ha, hf, if_neg Bool.false_ne_true, List.append_nil]
        exact S4
      | true =>
        rw [if_pos rfl]
        refine ev_frame (he _ hm hf) B4 H4 σ3 S4 (L3.mono e4) _ fun v B5 H5 e5 S5 i5 => ?_
        obtain ⟨_, _, vs, h1, h2⟩ := S5.get (k := 0) rfl
        refine ⟨vs, h1, ?_, B5, eB.trans (e3.trans (e4.trans e5)), ?_⟩
        · rw [is_len h2, List.length_map]
          refine sz_lt ?_
          have := List.length_filter_le f (l.take i)
          rw [List.length_take] at this
          omega
        · have := S5.put (k := 0) (o' := .lst (((l.take (i + 1)).filter f).map g)) (x := .lst (vs ++ [v])) rfl ⟨_, upd_same, by rw [filt_snoc ha, hf, if_pos rfl]; exact h2.append (.cons i5 .nil)⟩
          exact this
  · have e : i = l.length := by omega
    subst e
    rw [List.take_length] at S
    have := wk.stop B H _ eB S
    rw [hll] at this
    exact .inl ⟨this, q E B H eB S⟩
/-- [elt for tg in iter if ..] -/
theorem n_lc (own : List (Str × Nat)) (ds' : α → DEnv) (hi : PIt C F tg iter ds os (l.map enc) os1) (ok : BlkO C scope own)
    (hg : ∀ a ∈ l, ∀ F, ∃ js, PGt (C.blk scope) F tg (enc a) (wipeD ds (own.map (·.2))) (ds' a) js ∧ ∀ j ∈ js, j ∈ own.map (·.2)) (ht : ∀ a ∈ l, ∀ F, PTsB (C.blk scope) F ifs (ds' a) os1 (f a) os1) (he : ∀ a ∈ l, f a = true → ∀ F, PX (C.blk scope) F elt (ds' a) os1 (g a) os1) (hz : l.length ≤ 900000)
    (hs : ∀ i x, foldedSetIterable iter (C.X i).env x = pure x := by intro _ _; rfl) : PN C F (.ListComp elt [⟨tg, iter, ifs, 0⟩] scope pos) ds os (.lst ((l.filter f).map g)) os1 :=
  pn_of (te := tLc (IX C tg iter) (GX (C.blk scope) tg) (TSX (C.blk scope) ifs) (EX (C.blk scope) elt) (own.map (·.2))) (fun i => pe_lc (C.calm i) (ok i).1 (pi_IX i) (ok i).2 (fun s H A cl fp => pg_GX (C := C.blk scope) (i, s, H, A, cl, fp)) (fun s H A cl fp => pts_TSX (C := C.blk scope) (i, s, H, A, cl, fp)) (fun s H A cl fp => pe_EX (C := C.blk scope) (i, s, H, A, cl, fp)) (hs i))
    fun B H σ S L Q q => hi B H σ S L _ fun J B1 H1 e1 S1 wk => lc_run (K := C.K) (ds' := ds') S1 (L.mono e1) wk hz (fun a ha F B H σ v os S L i Q q => by
      obtain ⟨js, h1, h2⟩ := hg a ha F
      exact h1 B H σ v os S L i Q fun σ' L' hw => q σ' L' (hw _ h2)) ht he fun p B' H' e S' => q p B' H' (e1.trans e) S'
/-- name = [..] on one line -/
theorem r_setLc (own : List (Str × Nat)) (ds' : α → DEnv) (k : Nat) {py spos : Pos} (hi : PIt C F tg iter ds os (l.map enc) os1) (ok : BlkO C scope own)
    (hg : ∀ a ∈ l, ∀ F, ∃ js, PGt (C.blk scope) F tg (enc a) (wipeD ds (own.map (·.2))) (ds' a) js ∧ ∀ j ∈ js, j ∈ own.map (·.2)) (ht : ∀ a ∈ l, ∀ F, PTsB (C.blk scope) F ifs (ds' a) os1 (f a) os1) (he : ∀ a ∈ l, f a = true → ∀ F, PX (C.blk scope) F elt (ds' a) os1 (g a) os1) (hz : l.length ≤ 900000)
    (kk : ∀ q, Run C F rest D (ds.set k (some (.adr q))) ((q, .lst ((l.filter f).map g)) :: os1)) (hn : NmOk C k n := by exact fun _ => ⟨‹List.Nodup _›, rfl, by first | exact .inl rfl | exact .inr rfl, by first | exact .inl rfl | exact .inr rfl⟩) (hyl : ∀ i, (C.X i).env.scope.names.lookup n = some .local := by intro _; rfl) (hsw : ∀ i, swapsWith (.ListComp elt [⟨tg, iter, ifs, 0⟩] scope pos) (some (.Name n py)) spos.line (C.X i).env = pure true := by exact fun _ => sw_true rfl rfl rfl (by decide +kernel))
    (hs : ∀ i x, foldedSetIterable iter (C.X i).env x = pure x := by intro _ _; rfl) : Run C F (.Assign [.Name n py] (.ListComp elt [⟨tg, iter, ifs, 0⟩] scope pos) spos :: rest) D ds os :=
  r_step (t := tAsg (tLc (IX C tg iter) (GX (C.blk scope) tg) (TSX (C.blk scope) ifs) (EX (C.blk scope) elt) (own.map (·.2))) (gName k)) (fun i => ps_setLc (C.calm i) (ok i).1 (hn i).2.1 (hyl i) (hsw i) (pi_IX i) (ok i).2 (fun s H A cl fp => pg_GX (C := C.blk scope) (i, s, H, A, cl, fp)) (fun s H A cl fp => pts_TSX (C := C.blk scope) (i, s, H, A, cl, fp)) (fun s H A cl fp => pe_EX (C := C.blk scope) (i, s, H, A, cl, fp)) (hs i))
    fun B H σ S L => hi B H σ S L _ fun J B1 H1 e1 S1 wk => lc_run (K := C.K) (ds' := ds') (Q := fun x H1 => gName k x σ H1 (BX C rest D)) S1 (L.mono e1) wk hz (fun a ha F B H σ v os S L i Q q => by
      obtain ⟨js, h1, h2⟩ := hg a ha F
      exact h1 B H σ v os S L i Q fun σ' L' hw => q σ' L' (hw _ h2)) ht he fun p B' H' e S' => kk p B' H' _ S' ((L.mono (e1.trans e)).set k Is.mk_adr)
end
end
end FtR
/-! defs, calls, instances over data states -/
namespace FtR
open PySem PySem.Spec PyProof.Rows L2
open FtM (getA putA)

/-- what stands around every def -/
structure Mo where
  P : Program
  w : World
  K : PySem.W.Frag
  mg : Str → Option Value
  base : Heap
def Cxs.mo (C : Cxs) : Mo := ⟨C.P, C.w, C.K, C.mg, C.base⟩
def spP (P : List Dt → Dt → Prop) : Sp := fun vs H Q _ => ∃ B ds d, Same B H ∧ IsA B ds vs ∧ P ds d ∧ ∀ v B' H', Up B H B' H' → Is B' d v → Q v H'
/-- the first argument is an object that the caller owns -/
def spM (w : World) (P : Ob → List Dt → Dt → Ob → Prop) : Sp := fun vs H Q _ => ∃ B p us st ds d st', vs = .ref p :: us ∧ Same B H ∧ B p = none ∧ OwnAt w B H p st ∧ IsA B ds us ∧ P st ds d st' ∧
  ∀ v B' H', Up B (cut H p) B' H' → B' p = none → OwnAt w B' H' p st' → Is B' d v → Q v H'
structure Fn (M : Mo) (k : Nat) (f : Addr) (ps : List Str) (sp : Sp) : Prop where
  ex : ∃ fd, FnOk M.P M.w M.K M.mg M.base CX0 k f fd ps sp ∧ Binds M.K fd ps []
  kp : PySem.W.keepIn M.K (.ref f) = true
def Glob (M : Mo) (x : Str) (k : Nat) (ps : List Str) (sp : Sp) : Prop := ∃ f, M.mg x = some (.ref f) ∧ Fn M k f ps sp
theorem fnok_at {C : Cxs} {k : Nat} {f : Addr} {fd : FuncData} {ps : List Str} {sp : Sp} (h : FnOk C.mo.P C.mo.w C.mo.K C.mo.mg C.mo.base CX0 k f fd ps sp) (i : C.ι) : FnOk (C.X i).prog (C.X i).w (C.X i).K (C.X i).mg (C.X i).base CX0 k f fd ps sp := by
  rw [C.hP i, C.hw i, C.hK i, C.hm i, C.hb i]
  exact h
section
variable {C : Cxs} {F : Fr} {e a b c o : Expr} {es : List Expr} {ds ds1 ds2 : DEnv} {os os1 os2 os3 : Own} {d x y z : Dt} {pos pos' p p2 apos : Pos} {n : Str} {D : Ends} {rest : List Stmt} {k : Nat} {ps : List Str} {xs : List Dt}
theorem ev_call {P : List Dt → Dt → Prop} {ta : TA} (ha : EvL C.w F ta ds os xs os1) (hp : P xs d) : Ev C.w F (tCall (spP P) [] E0 ta) ds os d os1 := fun B H σ S L Q q =>
  ha B H σ S L _ fun vs B1 H1 e1 S1 i1 => ⟨B1, xs, d, S1.bh, by rw [List.append_nil]; exact i1, hp, fun v B' H' U i => q v B' H' (e1.trans U.eB) (S1.call U) i⟩
theorem ev_callM {P : Ob → List Dt → Dt → Ob → Prop} {ta : TA} {q : Addr} {st st' : Ob} (j : Nat) (ha : EvL C.w F ta ds os (.adr q :: xs) os1) (hk : os1[j]? = some (q, st)) (hp : P st xs d st') : Ev C.w F (tCall (spM C.w P) [] E0 ta) ds os d (os1.set j (q, st')) := fun B H σ S L Q f =>
  ha B H σ S L _ fun vs B1 H1 e1 S1 i1 => by
    obtain ⟨v, us, rfl, h1, h2⟩ := i1.inv
    obtain ⟨h3, _, h4⟩ := S1.get hk
    exact ⟨B1, q, us, st, xs, d, st', by rw [List.append_nil, is_adr h1], S1.bh, h3, h4, h2, hp, fun v B' H' U hb ho i => f v B' H' (e1.trans U.eB) (S1.callM hk U hb ho) i⟩
theorem x_call {M : Mo} {P : List Dt → Dt → Prop} (G : Glob M n k ps (spP P)) (ha : PL C F (a :: es) ds os xs os1) (hp : P xs d) (hg : ∀ i, Gl (C.X i) n := by intro _; rfl) (hdb : (n == ("__debug__" : Str)) = false := by decide) (h1 : St1 C a es := by intro _; rfl) (h2 : St2 C es pos := by intro _; rfl) (hk : k ≤ C.k := by exact Nat.le_of_ble_eq_true rfl) (hM : C.mo = M := by rfl) : PX C F (.Call (.Name n p) (a :: es) [] pos) ds os d os1 := by
  subst hM
  obtain ⟨f, hf, ⟨fd, hF, hb⟩, kp⟩ := G
  exact px_of (fun i => pe_call (ds := []) (dvs := []) (fnok_at hF i) ((C.hr i).mono hk) (hg i) (by rw [C.hm i]; exact hf) (by rw [C.hK i]; exact kp) (by rw [C.hK i]; exact hb) .nil pass0 (pa_AX i) hdb (h1 i) (h2 i)) (ev_call ha hp)
theorem x_callM {M : Mo} {P : Ob → List Dt → Dt → Ob → Prop} {q : Addr} {st st' : Ob} (G : Glob M n k ps (spM M.w P)) (j : Nat) (ha : PL C F (a :: es) ds os (.adr q :: xs) os1) (hj : os1[j]? = some (q, st)) (hp : P st xs d st') (hg : ∀ i, Gl (C.X i) n := by intro _; rfl) (hdb : (n == ("__debug__" : Str)) = false := by decide) (h1 : St1 C a es := by intro _; rfl) (h2 : St2 C es pos := by intro _; rfl) (hk : k ≤ C.k := by exact Nat.le_of_ble_eq_true rfl) (hM : C.mo = M := by rfl) : PX C F (.Call (.Name n p) (a :: es) [] pos) ds os d (os1.set j (q, st')) := by
  subst hM
  obtain ⟨f, hf, ⟨fd, hF, hb⟩, kp⟩ := G
  exact px_of (fun i => pe_call (ds := []) (dvs := []) (fnok_at hF i) ((C.hr i).mono hk) (hg i) (by rw [C.hm i]; exact hf) (by rw [C.hK i]; exact kp) (by rw [C.hK i]; exact hb) .nil pass0 (pa_AX i) hdb (h1 i) (h2 i)) (ev_callM j ha hj hp)
/-! ### instances -/
def getF (fs : List Str) (xs : List Dt) (f : Str) : Option Dt := (fs.zip xs).lookup f
theorem lookup_zip {B : Hp} {f : Str} : ∀ {fs : List Str} {xs : List Dt} {vs : List V}, IsA B xs vs → fs.length = vs.length → (fs.zip xs).lookup f = some d → ∃ v, (fs.zip vs).lookup f = some v ∧ Is B d v
  | [], _, _, _, _, h => by simp at h
  | g :: fs, [], _, _, _, h => by simp at h
  | g :: fs, x :: xs, _, ha, hl, h => by
    obtain ⟨v, r, rfl, h1, h2⟩ := ha.inv
    simp only [List.zip_cons_cons, List.lookup_cons] at h ⊢
    cases e : f == g with
    | true =>
      rw [e] at h
      cases h
      exact ⟨v, rfl, h1⟩
    | false =>
      rw [e] at h
      exact lookup_zip h2 (Nat.succ.inj hl) h
theorem lookup_zip_no {α : Type} {f : Str} : ∀ {fs : List Str} {vs : List α}, fs.all (fun g => !(f == g)) = true → (fs.zip vs).lookup f = none
  | [], _, _ => by simp
  | g :: fs, [], _ => by simp
  | g :: fs, v :: vs, h => by
    simp only [List.all_cons, Bool.and_eq_true, Bool.not_eq_true'] at h
    simp only [List.zip_cons_cons, List.lookup_cons, h.1]
    exact lookup_zip_no h.2
theorem putF_new {f : Str} {v : V} : ∀ {fs : List Str} {vs : List V}, fs.length = vs.length → fs.all (fun g => !(g == f)) = true → putF f v (fs.zip vs) = (fs ++ [f]).zip (vs ++ [v])
  | [], [], _, _ => rfl
  | [], _ :: _, h, _ => by cases h
  | _ :: _, [], h, _ => by cases h
  | g :: fs, u :: vs, hl, h => by
    simp only [List.all_cons, Bool.and_eq_true, Bool.not_eq_true'] at h
    have hne : g ≠ f := fun e => by
      rw [e, beq_self_eq_true] at h
      cases h.1
    show (if g = f then (g, v) :: fs.zip vs else (g, u) :: putF f v (fs.zip vs)) = _
    rw [if_neg hne, putF_new (Nat.succ.inj hl) h.2]
    rfl
/-- an instance, owned or data -/
inductive AsI (os : Own) : Dt → Addr → List Str → List Dt → Prop
  | dat (A : Addr) (fs : List Str) (xs : List Dt) : AsI os (.ins A fs xs) A fs xs
  | own (k : Nat) {q A : Addr} {fs : List Str} {xs : List Dt} (h : os[k]? = some (q, .ins A fs xs)) : AsI os (.adr q) A fs xs
theorem AsI.get {w : World} {B H : Hp} {A : Addr} {fs : List Str} {v : V} (h : AsI os x A fs xs) (S : Sh w F B H os) (g : Is B x v) : ∃ q dx vs, v = .ref q ∧ H q = some (.ins A dx (fs.zip vs)) ∧ fs.length = vs.length ∧ IsA B xs vs := by
  cases h with
  | dat =>
    obtain ⟨p, dx, vs, h1, h2, h3, h4⟩ := is_ins g
    exact ⟨p, dx, vs, h1, S.bh _ _ h2, h3, h4⟩
  | own k h =>
    obtain ⟨_, _, dx, vs, h1, h2, h3⟩ := S.get h
    exact ⟨_, dx, vs, is_adr g, h1, h2, h3⟩
section
variable {A : Addr} {fs : List Str} {f : Str}
theorem x_fld {M : Mo} (cl : Cls M.K A) (na : NoAttr M.K A f) (h : PX C F e ds os x os1) (hi : AsI os1 x A fs xs) (hf : getF fs xs f = some d) (hb : ∀ i, attributeBase e f (C.X i).env (eval e (C.X i).env) = eval e (C.X i).env := by intro _; rfl) (hM : C.mo = M := by rfl) : PX C F (.Attribute e f pos) ds os d os1 := by
  subst hM
  exact px_of (te := tFld C.K (EX C e) f) (fun i => by rw [← C.hK i]; exact pe_fld (pe_EX i) (hb i)) fun B H σ S L Q q => h B H σ S L _ fun v B1 H1 e1 S1 i1 => by
    obtain ⟨r, dx, vs, rfl, h2, h3, h4⟩ := hi.get S1 i1
    obtain ⟨v, h5, h6⟩ := lookup_zip h4 h3 hf
    exact ⟨r, A, dx, _, v, rfl, h2, cl, na, h5, q v B1 H1 e1 S1 h6⟩
theorem x_con {v : V} {u : Value} (cl : Cls C.K A) (co : Con C.K A f v u) (h : PX C F e ds os x os1) (hi : AsI os1 x A fs xs) (hf : fs.all (fun g => !(f == g)) = true) (hd : ∀ B, Is B d v) (hb : ∀ i, attributeBase e f (C.X i).env (eval e (C.X i).env) = eval e (C.X i).env := by intro _; rfl) : PX C F (.Attribute e f pos) ds os d os1 :=
  px_of (te := tCon C.K (EX C e) f) (fun i => by rw [← C.hK i]; exact pe_con (pe_EX i) (hb i)) fun B H σ S L Q q => h B H σ S L _ fun v' B1 H1 e1 S1 i1 => by
    obtain ⟨r, dx, vs, rfl, h2, h3, h4⟩ := hi.get S1 i1
    exact ⟨r, A, dx, _, v, u, rfl, h2, cl, co, lookup_zip_no hf, q v B1 H1 e1 S1 (hd _)⟩
structure Me (M : Mo) (A : Addr) (m : Str) (k : Nat) (ps : List Str) (sp : Sp) : Prop where
  ex : ∃ f, Meth M.K A m f ∧ Fn M k f ps sp
theorem ev_meth {P : List Dt → Dt → Prop} {to : TE} {ta : TA} (ho : Ev C.w F to ds os (.ins A fs xs) os1) {ys : List Dt} (ha : EvL C.w F ta ds os1 ys os2) (hf : fs.all (fun g => !(f == g)) = true) (hp : P (.ins A fs xs :: ys) d) : Ev C.w F (tMeth A f (spP P) [] E0 to ta) ds os d os2 := fun B H σ S L Q q =>
  ho B H σ S L _ fun v B1 H1 e1 S1 i1 => by
    obtain ⟨r, dx, vs, rfl, h2, h3, h4⟩ := is_ins i1
    exact ⟨r, dx, _, rfl, S1.bh _ _ h2, lookup_zip_no hf, ha B1 H1 σ S1 (L.mono e1) _ fun us B2 H2 e2 S2 i2 => ⟨B2, _, d, S2.bh, by rw [List.append_nil]; exact .cons (i1.mono e2) i2, hp, fun v B' H' U i => q v B' H' ((e1.trans e2).trans U.eB) (S2.call U) i⟩⟩
theorem x_meth {M : Mo} {P : List Dt → Dt → Prop} {ys : List Dt} {pl : C.ι → Sem Bool} (cl : Cls M.K A) (G : Me M A f k ps (spP P)) (ho : PX C F o ds os (.ins A fs xs) os1) (ha : PL C F (a :: es) ds os1 ys os2) (hf : fs.all (fun g => !(f == g)) = true) (hp : P (.ins A fs xs :: ys) d)
    (h1 : St1 C a es := by intro _; rfl) (h2 : St2 C es pos := by intro _; rfl) (ht : ∀ i, eval (.Call (.Attribute o f apos) (a :: es) [] pos) (C.X i).env = (do
      let ov ← eval o (C.X i).env
      standAt apos.atName
      let (f, first) ← holding [ov] (getMethod ov f (pl i))
      callWith pos f first (backTo pos (starEach (a :: es) (C.X i).env)) (backToKw pos (keywordEach [] (C.X i).env))) := by intro _; rfl) (hk : k ≤ C.k := by exact Nat.le_of_ble_eq_true rfl) (hM : C.mo = M := by rfl) : PX C F (.Call (.Attribute o f apos) (a :: es) [] pos) ds os d os2 := by
  subst hM
  obtain ⟨g, hm, ⟨fd, hF, hb⟩, kp⟩ := G.ex
  exact px_of (te := tMeth A f (spP P) [] E0 (EX C o) (AX C (a :: es))) (fun i => pe_meth (ds := []) (dvs := []) (pe_EX i) (by rw [C.hK i]; exact cl) (by rw [C.hK i]; exact hm) (fnok_at hF i) ((C.hr i).mono hk) (by rw [C.hK i]; exact hb) .nil pass0 (pa_AX i) (h1 i) (h2 i) (ht i)) (ev_meth ho ha hf hp)
theorem x_meth0 {M : Mo} {P : List Dt → Dt → Prop} {pl : C.ι → Sem Bool} (cl : Cls M.K A) (G : Me M A f k ps (spP P)) (ho : PX C F o ds os (.ins A fs xs) os1) (hf : fs.all (fun g => !(f == g)) = true) (hp : P [.ins A fs xs] d)
    (ht : ∀ i, eval (.Call (.Attribute o f apos) [] [] pos) (C.X i).env = (do
      let ov ← eval o (C.X i).env
      standAt apos.atName
      let (f, first) ← holding [ov] (getMethod ov f (pl i))
      callWith pos f first (backTo pos (starEach [] (C.X i).env)) (backToKw pos (keywordEach [] (C.X i).env))) := by intro _; rfl) (hk : k ≤ C.k := by exact Nat.le_of_ble_eq_true rfl) (hM : C.mo = M := by rfl) : PX C F (.Call (.Attribute o f apos) [] [] pos) ds os d os1 := by
  subst hM
  obtain ⟨g, hm, ⟨fd, hF, hb⟩, kp⟩ := G.ex
  exact px_of (te := tMeth A f (spP P) [] E0 (EX C o) tNil) (fun i => pe_meth0 (ds := []) (dvs := []) (pe_EX i) (by rw [C.hK i]; exact cl) (by rw [C.hK i]; exact hm) (fnok_at hF i) ((C.hr i).mono hk) (by rw [C.hK i]; exact hb) .nil pass0 (ht i)) (ev_meth ho (fun B H σ S L Q q => q [] B H (Same.refl _) S IsA.nil) hf hp)
/-- a property -/
structure Pr (M : Mo) (A : Addr) (f : Str) (k : Nat) (P : List Dt → Dt → Prop) : Prop where
  ex : ∃ p g, PropOf M.K A f p g ∧ Fn M k g ["self"] (spP P)
theorem x_prop {M : Mo} {P : List Dt → Dt → Prop} (cl : Cls M.K A) (R : Pr M A f k P) (h : PX C F e ds os (.ins A fs xs) os1) (hp : P [.ins A fs xs] d) (hb : ∀ i, attributeBase e f (C.X i).env (eval e (C.X i).env) = eval e (C.X i).env := by intro _; rfl) (hk : k + 1 ≤ C.k := by exact Nat.le_of_ble_eq_true rfl) (hM : C.mo = M := by rfl) : PX C F (.Attribute e f pos) ds os d os1 := by
  subst hM
  obtain ⟨q, g, hpr, ⟨fd, hF, hbd⟩, kp⟩ := R.ex
  refine px_of (te := tProp A (spP P) [] E0 (EX C e)) (fun i => pe_prop (ds := []) (dvs := []) (pe_EX i) (by rw [C.hK i]; exact cl) (by rw [C.hK i]; exact hpr) (fnok_at hF i) ((C.hr i).mono hk) (by rw [C.hK i]; exact hbd) .nil pass0 (hb i)) fun B H σ S L Q q => h B H σ S L _ fun v B1 H1 e1 S1 i1 => ?_
  obtain ⟨r, dx, vs, rfl, h2, h3, h4⟩ := is_ins i1
  exact ⟨r, dx, _, rfl, S1.bh _ _ h2, B1, _, d, S1.bh, .cons i1 .nil, hp, fun v B' H' U i => q v B' H' (e1.trans U.eB) (S1.call U) i⟩
/-! ### instances made -/
def spI (w : World) (A : Addr) (P : List Dt → List Str → List Dt → Prop) : Sp := fun vs H Q _ => ∃ B r us ds fs xs, vs = .ref r :: us ∧ Same B H ∧ B r = none ∧ OwnAt w B H r (.ins A [] []) ∧ IsA B ds us ∧ P ds fs xs ∧
  ∀ B' H', Up B (cut H r) B' H' → B' r = none → OwnAt w B' H' r (.ins A fs xs) → Q .non H'
theorem Sh.made {w : World} {B H : Hp} (S : Sh w F B H os) {r dx A : Addr} (hr : H r = none) (hd : H dx = none) (hne : dx ≠ r) : Sh w F B (upd (upd H dx (.own r)) r (.ins A dx [])) ((r, .ins A [] []) :: os) := by
  have S1 : Sh w F B (upd H dx (.own r)) os := by
    refine ⟨S.eB, S.eH.trans (Same.upd hd), S.bh.trans (Same.upd hd), S.nw, Owns.mono (Same.refl _) (fun q hq e => e) (fun q hq => ?_) S.ow, S.fr⟩
    obtain ⟨x, hx⟩ := (S.ow.mem q hq).2.there
    exact upd_ne (ne_of_none hx hd)
  exact S1.newO (by rw [upd_ne hne.symm]; exact hr) ⟨dx, [], upd_same, rfl, IsA.nil⟩
theorem is_of_ins {B : Hp} {q dx : Addr} {vs : List V} (h : B q = some (.ins A dx (fs.zip vs))) (h2 : fs.length = vs.length) (h3 : IsA B xs vs) : Is B (.ins A fs xs) (.ref q) := by
  simp only [Is]
  exact ⟨q, dx, vs, rfl, h, h2, h3⟩
structure Mk1 (M : Mo) (x : Str) (A : Addr) (k : Nat) (ps : List Str) (sp : Sp) : Prop where
  ex : ∃ f fd, M.mg x = some (.ref A) ∧ Mk M.K A f ∧ FnOk M.P M.w M.K M.mg M.base CX0 k f fd ps sp ∧ Binds M.K fd ps []
theorem x_make {M : Mo} {P : List Dt → List Str → List Dt → Prop} {ys : List Dt} (G : Mk1 M n A k ps (spI M.w A P)) (ha : PL C F (a :: es) ds os ys os1) (hp : P ys fs xs) (hg : ∀ i, Gl (C.X i) n := by intro _; rfl) (hdb : (n == ("__debug__" : Str)) = false := by decide) (h1 : St1 C a es := by intro _; rfl) (h2 : St2 C es pos := by intro _; rfl) (hk : k + 1 ≤ C.k := by exact Nat.le_of_ble_eq_true rfl) (hM : C.mo = M := by rfl) : PX C F (.Call (.Name n p) (a :: es) [] pos) ds os (.ins A fs xs) os1 := by
  subst hM
  obtain ⟨f, fd, hm, mk, hF, hb⟩ := G.ex
  refine px_of (te := tMake A (spI C.w A P) [] E0 (AX C (a :: es))) (fun i => pe_make (ds := []) (dvs := []) (by rw [C.hK i]; exact mk) (fnok_at hF i) ((C.hr i).mono hk) (hg i) (by rw [C.hm i]; exact hm) (by rw [C.hK i]; exact hb) .nil pass0 (pa_AX i) hdb (h1 i) (h2 i)) fun B H σ S L Q q => ha B H σ S L _ fun vs B1 H1 e1 S1 i1 => fun r dx hr hd hne => ?_
  have S2 := S1.made (A := A) hr hd hne
  obtain ⟨h3, _, h4⟩ := S2.get (k := 0) rfl
  refine ⟨B1, r, vs, ys, fs, xs, by rw [List.append_nil], S2.bh, h3, h4, i1, hp, fun B' H' U hb ho => ⟨rfl, ?_⟩⟩
  have S3 := S2.callM (k := 0) rfl U hb ho
  obtain ⟨dx', vs', h5, h6, h7⟩ := ho
  obtain ⟨h8, h9⟩ := S3.freeze (k := 0) rfl h5
  exact q _ _ _ (e1.trans (U.eB.trans h8)) h9 (is_of_ins upd_same h6 (h7.mono h8))
/-- self.f = e, a new attribute -/
theorem r_attr {M : Mo} {q : Addr} (j : Nat) (cl : Cls M.K A) (na : NoAttr M.K A f) (he : PX C F e ds os d os1) (ho : PX C F o ds os1 (.adr q) os1) (hk : os1[j]? = some (q, .ins A fs xs)) (hf : fs.all (fun g => !(g == f)) = true) (hl : fs.length < 900) (kk : Run C F rest D ds (os1.set j (q, .ins A (fs ++ [f]) (xs ++ [d]))))
    (hs : ∀ i, swapsWith e (some (.Attribute o f pos')) pos.line (C.X i).env = pure false := by intro _; rfl) (hM : C.mo = M := by rfl) : Run C F (.Assign [.Attribute o f pos'] e pos :: rest) D ds os := by
  subst hM
  exact r_step (t := sFld C.K (EX C o) (EX C e) f) (fun i => by rw [← C.hK i]; exact ps_fld (pe_EX i) (pe_EX i) (hs i)) fun B H σ S L => he B H σ S L _ fun v B1 H1 e1 S1 i1 => ho B1 H1 σ S1 (L.mono e1) _ fun u B2 H2 e2 S2 i2 => by
    obtain ⟨_, _, dx, vs, h1, h2, h3⟩ := S2.get hk
    refine ⟨q, A, dx, _, is_adr i2, h1, cl, na, ?_, ?_⟩
    · rw [List.length_zip, h2, Nat.min_self, ← h2]
      omega
    · rw [putF_new h2 hf]
      exact kk B2 _ σ (S2.put hk ⟨dx, _, upd_same, by rw [List.length_append, List.length_append, h2]; rfl, h3.append (.cons (i1.mono e2) .nil)⟩) (L.mono (e1.trans e2))
/-! ### == , != , truth of own classes -/
structure EqO (M : Mo) (A : Addr) (k : Nat) (P : List Dt → Dt → Prop) : Prop where
  ex : ∃ f fd, OwnE M.K A f ∧ OwnN M.K A f ∧ FnOk M.P M.w M.K M.mg M.base CX0 k f fd ["self", "other"] (spP P) ∧ Binds M.K fd ["self", "other"] []
theorem x_eqO {M : Mo} {P : List Dt → Dt → Prop} {gs : List Str} {ys : List Dt} {t : Bool} (G : EqO M A k P) (ha : PX C F a ds os (.ins A fs xs) os1) (hb : PX C F b ds os1 (.ins A gs ys) os2) (hp : P [.ins A fs xs, .ins A gs ys] (.bl t)) (hk : k ≤ C.k := by exact Nat.le_of_ble_eq_true rfl) (hM : C.mo = M := by rfl) : PX C F (.Compare a [.Eq] [b] pos) ds os (.bl t) os2 := by
  subst hM
  obtain ⟨f, fd, h1, h2, h3, h4⟩ := G.ex
  refine x_cmp (r := rEqOwn A (spP P)) (fun i => op_eqOwn (by rw [C.hK i]; exact h1) (fnok_at h3 i) ((C.hr i).mono hk) (by rw [C.hK i]; exact h4) pass0) ha hb (nomark _) fun B H u v S hu hv Q q => ?_
  obtain ⟨r, dx, vs, rfl, g2, g3, g4⟩ := is_ins hu
  obtain ⟨r', dx', vs', rfl, g2', g3', g4'⟩ := is_ins hv
  exact ⟨r, r', dx, dx', _, _, rfl, rfl, S.bh _ _ g2, S.bh _ _ g2', B, _, _, S.bh, .cons hu (.cons hv .nil), hp, fun v B' H' U i => ⟨t, is_bl i, q _ B' H' U.eB (S.call U) Is.mk_bl⟩⟩
theorem x_neO {M : Mo} {P : List Dt → Dt → Prop} {gs : List Str} {ys : List Dt} {t : Bool} (G : EqO M A k P) (ha : PX C F a ds os (.ins A fs xs) os1) (hb : PX C F b ds os1 (.ins A gs ys) os2) (hp : P [.ins A fs xs, .ins A gs ys] (.bl t)) (hk : k + 1 ≤ C.k := by exact Nat.le_of_ble_eq_true rfl) (hM : C.mo = M := by rfl) : PX C F (.Compare a [.NotEq] [b] pos) ds os (.bl (!t)) os2 := by
  subst hM
  obtain ⟨f, fd, h1, h2, h3, h4⟩ := G.ex
  refine x_cmp (r := rNeOwn A (spP P)) (fun i => op_neOwn (by rw [C.hK i]; exact h2) (fnok_at h3 i) ((C.hr i).mono hk) (by rw [C.hK i]; exact h4) pass0) ha hb (nomark _) fun B H u v S hu hv Q q => ?_
  obtain ⟨r, dx, vs, rfl, g2, g3, g4⟩ := is_ins hu
  obtain ⟨r', dx', vs', rfl, g2', g3', g4'⟩ := is_ins hv
  exact ⟨r, r', dx, dx', _, _, rfl, rfl, S.bh _ _ g2, S.bh _ _ g2', B, _, _, S.bh, .cons hu (.cons hv .nil), hp, fun v B' H' U i => ⟨t, is_bl i, q _ B' H' U.eB (S.call U) Is.mk_bl⟩⟩
structure TrO (M : Mo) (A : Addr) (k : Nat) (P : List Dt → Dt → Prop) : Prop where
  ex : ∃ f fd, OwnB M.K A f ∧ FnOk M.P M.w M.K M.mg M.base CX0 k f fd ["self"] (spP P) ∧ Binds M.K fd ["self"] []
theorem b_tru {M : Mo} {P : List Dt → Dt → Prop} {t : Bool} (G : TrO M A k P) (ha : PX C F a ds os (.ins A fs xs) os1) (hp : P [.ins A fs xs] (.bl t)) (he : ∀ i whole, isTrue a (C.X i).env whole = (do let v ← whole; standAt a.pos; holding [v] (truthy v)) := by intro _ _; rfl) (hk : k ≤ C.k := by exact Nat.le_of_ble_eq_true rfl) (hM : C.mo = M := by rfl) : PB C F a ds os t os1 := by
  subst hM
  obtain ⟨f, fd, h1, h3, h4⟩ := G.ex
  refine pb_of (fun i => pt_truthR (pe_EX (e := a) i) (tru_own (by rw [C.hK i]; exact h1) (fnok_at h3 i) ((C.hr i).mono hk) (by rw [C.hK i]; exact h4) pass0) (he i)) fun B H σ S L Q q => ha B H σ S L _ fun v B1 H1 e1 S1 i1 => ?_
  obtain ⟨r, dx, vs, rfl, g2, g3, g4⟩ := is_ins i1
  exact ⟨r, dx, _, rfl, S1.bh _ _ g2, B1, _, _, S1.bh, .cons i1 .nil, hp, fun v B' H' U i => ⟨t, is_bl i, q B' H' (e1.trans U.eB) (S1.call U)⟩⟩
theorem x_boolO {M : Mo} {P : List Dt → Dt → Prop} {t : Bool} (G : TrO M A k P) (hm : C.mg "bool" = none) (ha : PX C F a ds os (.ins A fs xs) os1) (hp : P [.ins A fs xs] (.bl t)) (h1 : St1 C a [] := by intro _; rfl) (h2 : St2 C [] pos := by intro _; rfl) (hg : ∀ i, Gl (C.X i) "bool" := by intro _; rfl) (hk : k + 2 ≤ C.k := by exact Nat.le_of_ble_eq_true rfl) (hM : C.mo = M := by rfl) : PX C F (.Call (.Name "bool" p) [a] [] pos) ds os (.bl t) os1 := by
  subst hM
  obtain ⟨f, fd, g1, g3, g4⟩ := G.ex
  refine x_bt (r := rBoolOwn A (spP P)) (fun i => call_boolOwn (by rw [C.hK i]; exact g1) (fnok_at g3 i) ((C.hr i).mono hk) (by rw [C.hK i]; exact g4) pass0) hm (by decide +kernel) (l1 ha h1) (fun B H us S h Q q => ?_) hg (by decide) (by decide) h1 h2
  obtain ⟨u, rfl, i1⟩ := isA1 h
  obtain ⟨r, dx, vs, rfl, g2, g3, g4⟩ := is_ins i1
  exact ⟨r, dx, _, rfl, S.bh _ _ g2, B, _, _, S.bh, .cons i1 .nil, hp, fun v B' H' U i => ⟨t, is_bl i, q _ B' H' U.eB (S.call U) Is.mk_bl⟩⟩
end
end
/-- the name in the i-th slot -/
theorem v {C : Cxs} {F : Fr} {ds : DEnv} {os : Own} {d : Dt} {pos : Pos} {n : Str} (i : Nat) (hd : ds[i]? = some (some d)) (hN : ∀ j, (C.X j).N[i]? = some n := by intro _; rfl) (hv : ∀ j, Vis (C.X j).env.scope n := by intro _; first | exact .inl rfl | exact .inr (.inl rfl) | exact .inr (.inr rfl))
    (h1 : (n == ("__debug__" : Str)) = false := by decide) (h2 : (n == ("__classdict__" : Str)) = false := by decide) : PX C F (.Name n pos) ds os d os := x_var i hd hN hv h1 h2
/-! ### the defs themselves -/
def cx0 (M : Mo) (k : Nat) (N : List Str) (qual : Str) (scope : Scope) (f : Addr) (cdv : Value) (A : Around) (outer : List Env) (s : Shared) (H : Hp) (E : XK) (hr : Room k (A.deeper (envOfC qual scope s.heap.objs.size f cdv))) : Cxs where
  ι := Unit
  X := fun _ => (cxOf CX0 M.P M.w M.K M.mg M.base N qual scope f cdv A outer s H E).nox
  P := M.P
  w := M.w
  K := M.K
  mg := M.mg
  base := M.base
  k := k
  hP := fun _ => rfl
  hw := fun _ => rfl
  hK := fun _ => rfl
  hm := fun _ => rfl
  hb := fun _ => rfl
  hr := fun _ => hr
  calm := fun _ => rfl
section
variable {M : Mo} {x qual : Str} {st : Stmt} {f : Addr} {fd : FuncData} {N ps : List Str} {k : Nat}
theorem start_eq (N : List Str) (vs : List V) (n : Nat) (h : vs.length = n) : L2.start N vs = vs.map some ++ List.replicate (N.length - n) none := by
  unfold L2.start
  rw [h]
theorem Fun.okP {P : List Dt → Dt → Prop} (F : L2.Fun M.K x qual st f fd) (S : FnScope N ps (defScope st)) (hl : ∀ ds d, P ds d → ds.length = ps.length)
    (body : ∀ (cdv : Value) (A : Around) (outer : List Env) (s : Shared) (H : Hp) (E : XK) (hr : Room k (A.deeper (envOfC qual (defScope st) s.heap.objs.size f cdv))) (F : Fr) (D : Ends) (ds : List Dt) (d : Dt), P ds d → (∀ os, RtOk M.w F D.rt d os) → (d = .non → ∀ B H σ os, Sh M.w F B H os → D.nx σ H) →
      Run (cx0 M k N qual (defScope st) f cdv A outer s H E hr) F (defBody st) D (ds.map some ++ List.replicate (N.length - ps.length) none) []) : FnOk M.P M.w M.K M.mg M.base CX0 (k + 1) f fd ps (spP P) := by
  refine F.ok S (fun vs H Q E h => ?_) (fun cdv A outer s H vs Q E hr h => ?_)
  · obtain ⟨B, ds, d, _, h2, h3, _⟩ := h
    rw [← h2.length]
    exact hl ds d h3
  · obtain ⟨B, ds, d, hB, hA, hp, q⟩ := h
    have hl2 := (hA.length.symm.trans (hl ds d hp))
    obtain ⟨t, D', l, h1, h2⟩ := body cdv A outer s H E hr ⟨B, H⟩ { nx := fun _ H' => Q .non H', rt := Q } ds d hp (fun os B' H' v S' i => q v B' H' S'.toUp i) (fun e B' H' σ os S' => by subst e; exact q .non B' H' S'.toUp Is.mk_non) B H (L2.start N vs) (Sh.start hB) (by rw [start_eq N vs _ hl2]; exact Slots.start _ hA)
    refine ⟨fun D σ H => ∃ D', Le D' D ∧ t D' σ H, ⟨fun pins s σ H D I hw => ?_⟩, D', l, h2⟩
    obtain ⟨D'', l2, hw⟩ := hw
    exact thn ((h1 ()).run pins s σ H D'' I hw) fun _ _ z => SP.le l2 z
theorem Fun.okM {P : Ob → List Dt → Dt → Ob → Prop} (F : L2.Fun M.K x qual st f fd) (S : FnScope N ps (defScope st)) (hl : ∀ o ds d o', P o ds d o' → ds.length + 1 = ps.length)
    (body : ∀ (cdv : Value) (A : Around) (outer : List Env) (s : Shared) (H : Hp) (E : XK) (hr : Room k (A.deeper (envOfC qual (defScope st) s.heap.objs.size f cdv))) (F : Fr) (D : Ends) (q : Addr) (o : Ob) (ds : List Dt) (d : Dt) (o' : Ob), P o ds d o' → (∀ (os : Own) (j : Nat), os[j]? = some (q, o') → RtOk M.w F D.rt d os) →
      Run (cx0 M k N qual (defScope st) f cdv A outer s H E hr) F (defBody st) D ((Dt.adr q :: ds).map some ++ List.replicate (N.length - ps.length) none) [(q, o)]) : FnOk M.P M.w M.K M.mg M.base CX0 (k + 1) f fd ps (spM M.w P) := by
  refine F.ok S (fun vs H Q E h => ?_) (fun cdv A outer s H vs Q E hr h => ?_)
  · obtain ⟨B, p, us, o, ds, d, o', rfl, _, _, _, h2, h3, _⟩ := h
    rw [List.length_cons, ← h2.length]
    exact hl o ds d o' h3
  · obtain ⟨B, p, us, o, ds, d, o', rfl, hB, hb, ho, hA, hp, q⟩ := h
    have hl2 : (V.ref p :: us).length = ps.length := by rw [List.length_cons, ← hA.length]; exact hl o ds d o' hp
    obtain ⟨t, D', l, h1, h2⟩ := body cdv A outer s H E hr ⟨B, cut H p⟩ { nx := fun _ H' => Q .non H', rt := Q } p o ds d o' hp (fun os j hj B' H' v S' i => q v B' H' S'.toUp (S'.get hj).1 (S'.get hj).2.2 i) B H (L2.start N (V.ref p :: us)) (Sh.startM hB hb ho) (by rw [start_eq N _ _ hl2]; exact Slots.start _ (.cons Is.mk_adr hA))
    refine ⟨fun D σ H => ∃ D', Le D' D ∧ t D' σ H, ⟨fun pins s σ H D I hw => ?_⟩, D', l, h2⟩
    obtain ⟨D'', l2, hw⟩ := hw
    exact thn ((h1 ()).run pins s σ H D'' I hw) fun _ _ z => SP.le l2 z
/-- __init__ -/
theorem Fun.okI {A' : Addr} {P : List Dt → List Str → List Dt → Prop} (F : L2.Fun M.K x qual st f fd) (S : FnScope N ps (defScope st)) (hl : ∀ ds fs xs, P ds fs xs → ds.length + 1 = ps.length)
    (body : ∀ (cdv : Value) (A : Around) (outer : List Env) (s : Shared) (H : Hp) (E : XK) (hr : Room k (A.deeper (envOfC qual (defScope st) s.heap.objs.size f cdv))) (F : Fr) (D : Ends) (q : Addr) (ds : List Dt) (fs : List Str) (xs : List Dt), P ds fs xs → (∀ (B H : Hp) (σ : L2.St) (os : Own) (j : Nat), os[j]? = some (q, Ob.ins A' fs xs) → Sh M.w F B H os → D.nx σ H) →
      Run (cx0 M k N qual (defScope st) f cdv A outer s H E hr) F (defBody st) D ((Dt.adr q :: ds).map some ++ List.replicate (N.length - ps.length) none) [(q, .ins A' [] [])]) : FnOk M.P M.w M.K M.mg M.base CX0 (k + 1) f fd ps (spI M.w A' P) := by
  refine F.ok S (fun vs H Q E h => ?_) (fun cdv A outer s H vs Q E hr h => ?_)
  · obtain ⟨B, p, us, ds, fs, xs, rfl, _, _, _, h2, h3, _⟩ := h
    rw [List.length_cons, ← h2.length]
    exact hl ds fs xs h3
  · obtain ⟨B, p, us, ds, fs, xs, rfl, hB, hb, ho, hA, hp, q⟩ := h
    have hl2 : (V.ref p :: us).length = ps.length := by rw [List.length_cons, ← hA.length]; exact hl ds fs xs hp
    obtain ⟨t, D', l, h1, h2⟩ := body cdv A outer s H E hr ⟨B, cut H p⟩ { nx := fun _ H' => Q .non H', rt := Q } p ds fs xs hp (fun B' H' σ os j hj S' => q B' H' S'.toUp (S'.get hj).1 (S'.get hj).2.2) B H (L2.start N (V.ref p :: us)) (Sh.startM hB hb ho) (by rw [start_eq N _ _ hl2]; exact Slots.start _ (.cons Is.mk_adr hA))
    refine ⟨fun D σ H => ∃ D', Le D' D ∧ t D' σ H, ⟨fun pins s σ H D I hw => ?_⟩, D', l, h2⟩
    obtain ⟨D'', l2, hw⟩ := hw
    exact thn ((h1 ()).run pins s σ H D'' I hw) fun _ _ z => SP.le l2 z
end
end FtR
/-! comparisons as tests -/
namespace FtR
open PySem PySem.Spec PyProof.Rows L2
open FtM (getA putA)
section
variable {C : Cxs} {F : Fr} {e a b c : Expr} {es : List Expr} {ds : DEnv} {os os1 os2 os3 : Own} {d x y z : Dt} {pos : Pos}
theorem ev_tB {te : TE} {k : Bool} (h : Ev C.w F te ds os (.bl k) os1) : EvB C.w F (tB te) ds os k os1 := fun B H σ S L Q q => h B H σ S L _ fun v B1 H1 e1 S1 i1 => ⟨k, is_bl i1, q B1 H1 e1 S1⟩
theorem b_cmp {op : CmpOp} {r : R2} {k : Bool} (ho : ∀ i, OpR (C.X i) (compareOp op) r) (ha : PX C F a ds os x os1) (hb : PX C F b ds os1 y os2) (hm : behindInMarks op b = false) (hr : RD C.w F r os2 x y (.bl k) os3) : PB C F (.Compare a [op] [b] pos) ds os k os3 :=
  pb_of (fun i => pt_cmpR (ho i) (pe_EX i) (pe_EX i) hm) fun B H σ S L Q q => ev_op ha hb hr B H σ S L _ fun v B1 H1 e1 S1 i1 => ⟨k, is_bl i1, q B1 H1 e1 S1⟩
section
variable {i j : Int}
theorem b_lt (ha : PX C F a ds os (.int i) os1) (hb : PX C F b ds os1 (.int j) os2) : PB C F (.Compare a [.Lt] [b] pos) ds os (decide (i < j)) os2 := b_cmp (fun _ => op_lt) ha hb (nomark _) (rd_I0 fun _ => Is.mk_bl)
theorem b_le (ha : PX C F a ds os (.int i) os1) (hb : PX C F b ds os1 (.int j) os2) : PB C F (.Compare a [.LtE] [b] pos) ds os (decide (i ≤ j)) os2 := b_cmp (fun _ => op_le) ha hb (nomark _) (rd_I0 fun _ => Is.mk_bl)
theorem b_gt (ha : PX C F a ds os (.int i) os1) (hb : PX C F b ds os1 (.int j) os2) : PB C F (.Compare a [.Gt] [b] pos) ds os (decide (j < i)) os2 := b_cmp (fun _ => op_gt) ha hb (nomark _) (rd_I0 fun _ => Is.mk_bl)
theorem b_ge (ha : PX C F a ds os (.int i) os1) (hb : PX C F b ds os1 (.int j) os2) : PB C F (.Compare a [.GtE] [b] pos) ds os (decide (j ≤ i)) os2 := b_cmp (fun _ => op_ge) ha hb (nomark _) (rd_I0 fun _ => Is.mk_bl)
theorem b_eq (ha : PX C F a ds os (.int i) os1) (hb : PX C F b ds os1 (.int j) os2) : PB C F (.Compare a [.Eq] [b] pos) ds os (decide (i = j)) os2 := b_cmp (fun _ => op_eq) ha hb (nomark _) fun B H u v S hu hv Q q => by
  rw [is_int hu, is_int hv]
  exact ⟨rfl, q _ B H (Same.refl _) S (by rw [dec_int]; exact Is.mk_bl)⟩
theorem b_ne (ha : PX C F a ds os (.int i) os1) (hb : PX C F b ds os1 (.int j) os2) : PB C F (.Compare a [.NotEq] [b] pos) ds os (!decide (i = j)) os2 := b_cmp (fun _ => op_ne) ha hb (nomark _) fun B H u v S hu hv Q q => by
  rw [is_int hu, is_int hv]
  exact ⟨rfl, q _ B H (Same.refl _) S (by rw [dec_int]; exact Is.mk_bl)⟩
end
theorem b_eqD (ha : PX C F a ds os x os1) (hb : PX C F b ds os1 y os2) (hx : x.dat = true) (hy : y.dat = true) (sx : SeqAt.shaped x.toP = true) (sy : SeqAt.shaped y.toP = true) : PB C F (.Compare a [.Eq] [b] pos) ds os (PyData.eqv x.toP y.toP) os2 :=
  b_cmp (r := rEqD C.K) (fun i => by rw [← C.hK i]; exact op_eqD (X := C.X i) (C_u64 C i)) ha hb (nomark _) fun B H u v S hu hv Q q => ⟨_, _, (hu.mono S.bh).dp hx, (hv.mono S.bh).dp hy, sx, sy, q _ B H (Same.refl _) S Is.mk_bl⟩
theorem b_neD (ha : PX C F a ds os x os1) (hb : PX C F b ds os1 y os2) (hx : x.dat = true) (hy : y.dat = true) (sx : SeqAt.shaped x.toP = true) (sy : SeqAt.shaped y.toP = true) : PB C F (.Compare a [.NotEq] [b] pos) ds os (!PyData.eqv x.toP y.toP) os2 :=
  b_cmp (r := rNeD C.K) (fun i => by rw [← C.hK i]; exact op_neD (X := C.X i) (C_u64 C i)) ha hb (nomark _) fun B H u v S hu hv Q q => ⟨_, _, (hu.mono S.bh).dp hx, (hv.mono S.bh).dp hy, sx, sy, q _ B H (Same.refl _) S Is.mk_bl⟩
theorem b_inDT {ys : List Dt} (ha : PX C F a ds os x os1) (hb : PX C F b ds os1 (.tup ys) os2) (hm : behindInMarks .In b = false) (hx : x.dat = true) (hy : dats ys = true) (sx : SeqAt.shaped x.toP = true) (sy : SeqAt.shaped (Dt.tup ys).toP = true) : PB C F (.Compare a [.In] [b] pos) ds os ((toPs ys).any fun z => PyData.eqv z x.toP) os2 :=
  b_cmp (r := rInDT C.K) (fun i => by rw [← C.hK i]; exact op_inDT (X := C.X i) (C_hu C i)) ha hb hm fun B H u v S hu hv Q q => ⟨_, _, (hu.mono S.bh).dp hx, by have := (hv.mono S.bh).dp (K := C.K) (by simpa only [Dt.dat] using hy); simpa only [Dt.toP] using this, sx, by simpa only [Dt.toP] using sy, q _ B H (Same.refl _) S Is.mk_bl⟩
theorem b_in {i : Int} {is : List Int} (ha : PX C F a ds os (.int i) os1) (hb : PX C F b ds os1 y os2) (hq : AsQ os2 y (is.map Dt.int)) (hm : behindInMarks .In b = false) : PB C F (.Compare a [.In] [b] pos) ds os (decide (i ∈ is)) os2 :=
  b_cmp (r := rIn C.K false) (fun i => by rw [← C.hK i]; exact op_in_seq (X := C.X i)) ha hb hm fun B H u v S hu hv Q q => by
    obtain ⟨p, vs, h1, h2, h3⟩ := hq.get (K := C.K) S hv
    rw [h3.ints] at h2
    rw [is_int hu]
    exact ⟨p, _, h1, h2, rfl, ints_flat _, by rw [if_neg Bool.false_ne_true, inV_ints]; exact q _ B H (Same.refl _) S Is.mk_bl⟩
theorem b_nin {i : Int} {is : List Int} (ha : PX C F a ds os (.int i) os1) (hb : PX C F b ds os1 y os2) (hq : AsQ os2 y (is.map Dt.int)) (hm : behindInMarks .NotIn b = false) : PB C F (.Compare a [.NotIn] [b] pos) ds os (!decide (i ∈ is)) os2 :=
  b_cmp (r := rIn C.K true) (fun i => by rw [← C.hK i]; exact op_notIn_seq (X := C.X i)) ha hb hm fun B H u v S hu hv Q q => by
    obtain ⟨p, vs, h1, h2, h3⟩ := hq.get (K := C.K) S hv
    rw [h3.ints] at h2
    rw [is_int hu]
    exact ⟨p, _, h1, h2, rfl, ints_flat _, by rw [if_pos rfl, inV_ints]; exact q _ B H (Same.refl _) S Is.mk_bl⟩
theorem b_inS {i : Int} {p : Addr} (k : Nat) {T : Int → Bool} {n : Nat} (ha : PX C F a ds os (.int i) os1) (hb : PX C F b ds os1 (.adr p) os2) (hs : os2[k]? = some (p, .set T n)) (hm : behindInMarks .In b = false) : PB C F (.Compare a [.In] [b] pos) ds os (T i) os2 :=
  b_cmp (r := rSIn C.w) (fun i => by rw [← C.hw i]; exact or_sin (X := C.X i)) ha hb hm fun B H u v S hu hv Q q =>
    ⟨i, p, T, n, is_int hu, is_adr hv, (S.get hs).2.2, q _ B H (Same.refl _) S Is.mk_bl⟩
theorem b_ninS {i : Int} {p : Addr} (k : Nat) {T : Int → Bool} {n : Nat} (ha : PX C F a ds os (.int i) os1) (hb : PX C F b ds os1 (.adr p) os2) (hs : os2[k]? = some (p, .set T n)) (hm : behindInMarks .NotIn b = false) : PB C F (.Compare a [.NotIn] [b] pos) ds os (!T i) os2 :=
  b_cmp (r := rSNotIn C.w) (fun i => by rw [← C.hw i]; exact or_snotin (X := C.X i)) ha hb hm fun B H u v S hu hv Q q =>
    ⟨i, p, T, n, is_int hu, is_adr hv, (S.get hs).2.2, q _ B H (Same.refl _) S Is.mk_bl⟩
theorem b_isN (ha : PX C F a ds os d os1) (hb : PX C F b ds os1 .non os2) {k : Bool} (hk : ∀ B v, Is B d v → decide (v = V.non) = k) : PB C F (.Compare a [.Is] [b] pos) ds os k os2 :=
  b_cmp (fun _ => op_isN) ha hb (nomark _) fun B H u v S hu hv Q q => ⟨is_non hv, by rw [hk B u hu]; exact q _ B H (Same.refl _) S Is.mk_bl⟩
theorem ev_din {i : Int} {kvs : List (Int × Dt)} (ha : PX C F a ds os (.int i) os1) (hb : PX C F b ds os1 x os2) (hd : AsD os2 x kvs) : Ev C.w F (tDIn (EX C a) (EX C b)) ds os (.bl (getA kvs i).isSome) os2 :=
  fun B H σ S L Q q =>
    ha B H σ S L _ fun u B1 H1 e1 S1 i1 => hb B1 H1 σ S1 (L.mono e1) _ fun v B2 H2 e2 S2 i2 => by
      obtain ⟨p, vs, h1, h2, h3⟩ := hd.get S2 i2
      refine ⟨p, valV (((kvs.map (·.1)).map kI).zip vs) (kI i), h1, ?_, q (.bl _) B2 H2 (e1.trans e2) S2 ?_⟩
      · rw [is_int i1]
        exact DGet.k (k := kI i) h2
      · rw [isSome_of (valV_is (f := kI) (fun _ _ => kI_inj) i h3)]
        exact Is.mk_bl
theorem b_din {i : Int} {kvs : List (Int × Dt)} (ha : PX C F a ds os (.int i) os1) (hb : PX C F b ds os1 x os2) (hd : AsD os2 x kvs) (hm : behindInMarks .In b = false) : PB C F (.Compare a [.In] [b] pos) ds os ((getA kvs i).isSome) os2 :=
  pb_of (fun j => pt_cmp (pc_din (C_u1 C j) (pe_EX j) (pe_EX j)) hm) (ev_tB (ev_din ha hb hd))
theorem ev_dnin {i : Int} {kvs : List (Int × Dt)} (ha : PX C F a ds os (.int i) os1) (hb : PX C F b ds os1 x os2) (hd : AsD os2 x kvs) : Ev C.w F (tDNotIn (EX C a) (EX C b)) ds os (.bl (!(getA kvs i).isSome)) os2 :=
  fun B H σ S L Q q =>
    ha B H σ S L _ fun u B1 H1 e1 S1 i1 => hb B1 H1 σ S1 (L.mono e1) _ fun v B2 H2 e2 S2 i2 => by
      obtain ⟨p, vs, h1, h2, h3⟩ := hd.get S2 i2
      refine ⟨p, valV (((kvs.map (·.1)).map kI).zip vs) (kI i), h1, ?_, q (.bl _) B2 H2 (e1.trans e2) S2 ?_⟩
      · rw [is_int i1]
        exact DGet.k (k := kI i) h2
      · rw [isSome_of (valV_is (f := kI) (fun _ _ => kI_inj) i h3)]
        exact Is.mk_bl
theorem b_dnin {i : Int} {kvs : List (Int × Dt)} (ha : PX C F a ds os (.int i) os1) (hb : PX C F b ds os1 x os2) (hd : AsD os2 x kvs) (hm : behindInMarks .NotIn b = false) : PB C F (.Compare a [.NotIn] [b] pos) ds os (!(getA kvs i).isSome) os2 :=
  pb_of (fun j => pt_cmp (pc_dnotin (C_u1 C j) (pe_EX j) (pe_EX j)) hm) (ev_tB (ev_dnin ha hb hd))
theorem ev_dnin2 {i j : Int} {kvs : List ((Int × Int) × Dt)} (ha : PX C F a ds os (.tup [.int i, .int j]) os1) (hb : PX C F b ds os1 x os2) (hd : AsD2 os2 x kvs) : Ev C.w F (tDNotIn (EX C a) (EX C b)) ds os (.bl (!(getA kvs (i, j)).isSome)) os2 :=
  fun B H σ S L Q q =>
    ha B H σ S L _ fun u B1 H1 e1 S1 i1 => hb B1 H1 σ S1 (L.mono e1) _ fun v B2 H2 e2 S2 i2 => by
      obtain ⟨p, vs, h1, h2, h3⟩ := hd.get S2 i2
      obtain ⟨tp, us, rfl, h5, h6⟩ := is_tup i1
      have eu := IsA.ints (is := [i, j]) h6
      subst eu
      refine ⟨p, valV (((kvs.map (·.1)).map kT).zip vs) (kT (i, j)), h1, ?_, q (.bl _) B2 H2 (e1.trans e2) S2 ?_⟩
      · exact DGet.t h2 (S2.bh _ _ (e2 _ _ h5))
      · rw [isSome_of (valV_is (f := kT) (fun _ _ => kT_inj) (i, j) h3)]
        exact Is.mk_bl
theorem b_dnin2 {i j : Int} {kvs : List ((Int × Int) × Dt)} (ha : PX C F a ds os (.tup [.int i, .int j]) os1) (hb : PX C F b ds os1 x os2) (hd : AsD2 os2 x kvs) (hm : behindInMarks .NotIn b = false) : PB C F (.Compare a [.NotIn] [b] pos) ds os (!(getA kvs (i, j)).isSome) os2 :=
  pb_of (fun j => pt_cmp (pc_dnotin (C_u1 C j) (pe_EX j) (pe_EX j)) hm) (ev_tB (ev_dnin2 ha hb hd))
theorem ev_chain {r r' : R2} {k l : Bool} {ta tb tc : TE} (ha : Ev C.w F ta ds os x os1) (hb : Ev C.w F tb ds os1 y os2) (hr : RD C.w F r os2 x y (.bl k) os2)
    (hc : k = true → Ev C.w F tc ds os2 z os2) (hr' : k = true → RD C.w F r' os2 y z (.bl l) os2) : Ev C.w F (tChain r r' ta tb tc) ds os (.bl (k && l)) os2 := fun B H σ S L Q q =>
    ha B H σ S L _ fun u B1 H1 e1 S1 i1 => hb B1 H1 σ S1 (L.mono e1) _ fun v B2 H2 e2 S2 i2 => hr B2 H2 u v S2 (i1.mono e2) i2 _ fun t B3 H3 e3 S3 i3 => ⟨k, is_bl i3, by
      cases k with
      | true =>
        rw [if_pos rfl]
        exact hc rfl B3 H3 σ S3 (L.mono ((e1.trans e2).trans e3)) _ fun v4 B4 H4 e4 S4 i4 => hr' rfl B4 H4 v v4 S4 (i2.mono (e3.trans e4)) i4 Q fun t B5 H5 e5 S5 i5 => q t B5 H5 ((e1.trans e2).trans (e3.trans (e4.trans e5))) S5 i5
      | false =>
        rw [if_neg Bool.false_ne_true]
        exact q _ B3 H3 ((e1.trans e2).trans e3) S3 Is.mk_bl⟩
theorem b_lele {i j l : Int} (ha : PX C F a ds os (.int i) os1) (hb : PX C F b ds os1 (.int j) os2) (hc : PX C F c ds os2 (.int l) os2) (hm : lastMarks [.LtE, .LtE] [b, c] = false) : PB C F (.Compare a [.LtE, .LtE] [b, c] pos) ds os (decide (i ≤ j) && decide (j ≤ l)) os2 :=
  pb_of (fun i => pt_chain op_le op_le (pe_EX i) (pe_EX i) (pe_EX i) hm) fun B H σ S L Q q => ev_chain ha hb (rd_I0 fun _ => Is.mk_bl) (fun _ => hc) (fun _ => rd_I0 fun _ => Is.mk_bl) B H σ S L _ fun v B1 H1 e1 S1 i1 => ⟨_, is_bl i1, q B1 H1 e1 S1⟩
section
variable {A : Addr} {fs : List Str} {xs : List Dt} {k : Nat}
theorem b_eqO {M : Mo} {P : List Dt → Dt → Prop} {gs : List Str} {ys : List Dt} {t : Bool} (G : EqO M A k P) (ha : PX C F a ds os (.ins A fs xs) os1) (hb : PX C F b ds os1 (.ins A gs ys) os2) (hp : P [.ins A fs xs, .ins A gs ys] (.bl t)) (hk : k ≤ C.k := by exact Nat.le_of_ble_eq_true rfl) (hM : C.mo = M := by rfl) : PB C F (.Compare a [.Eq] [b] pos) ds os t os2 := by
  subst hM
  obtain ⟨f, fd, h1, h2, h3, h4⟩ := G.ex
  refine b_cmp (r := rEqOwn A (spP P)) (fun i => op_eqOwn (by rw [C.hK i]; exact h1) (fnok_at h3 i) ((C.hr i).mono hk) (by rw [C.hK i]; exact h4) pass0) ha hb (nomark _) fun B H u v S hu hv Q q => ?_
  obtain ⟨r, dx, vs, rfl, g2, g3, g4⟩ := is_ins hu
  obtain ⟨r', dx', vs', rfl, g2', g3', g4'⟩ := is_ins hv
  exact ⟨r, r', dx, dx', _, _, rfl, rfl, S.bh _ _ g2, S.bh _ _ g2', B, _, _, S.bh, .cons hu (.cons hv .nil), hp, fun v B' H' U i => ⟨t, is_bl i, q _ B' H' U.eB (S.call U) Is.mk_bl⟩⟩
theorem b_neO {M : Mo} {P : List Dt → Dt → Prop} {gs : List Str} {ys : List Dt} {t : Bool} (G : EqO M A k P) (ha : PX C F a ds os (.ins A fs xs) os1) (hb : PX C F b ds os1 (.ins A gs ys) os2) (hp : P [.ins A fs xs, .ins A gs ys] (.bl t)) (hk : k + 1 ≤ C.k := by exact Nat.le_of_ble_eq_true rfl) (hM : C.mo = M := by rfl) : PB C F (.Compare a [.NotEq] [b] pos) ds os (!t) os2 := by
  subst hM
  obtain ⟨f, fd, h1, h2, h3, h4⟩ := G.ex
  refine b_cmp (r := rNeOwn A (spP P)) (fun i => op_neOwn (by rw [C.hK i]; exact h2) (fnok_at h3 i) ((C.hr i).mono hk) (by rw [C.hK i]; exact h4) pass0) ha hb (nomark _) fun B H u v S hu hv Q q => ?_
  obtain ⟨r, dx, vs, rfl, g2, g3, g4⟩ := is_ins hu
  obtain ⟨r', dx', vs', rfl, g2', g3', g4'⟩ := is_ins hv
  exact ⟨r, r', dx, dx', _, _, rfl, rfl, S.bh _ _ g2, S.bh _ _ g2', B, _, _, S.bh, .cons hu (.cons hv .nil), hp, fun v B' H' U i => ⟨t, is_bl i, q _ B' H' U.eB (S.call U) Is.mk_bl⟩⟩
end
end
end FtR
/-! results told by a property; new objects given out; comprehensions of dicts and sets -/
namespace FtR
open PySem PySem.Spec PyProof.Rows L2
open FtM (getA putA)
def EvE (w : World) (F : Fr) (te : TE) (ds : DEnv) (os : Own) (R : Dt → Own → Prop) : Prop := ∀ B H σ, Sh w F B H os → Slots B σ ds → ∀ Q : VK, (∀ d os' v B' H', R d os' → Same B B' → Sh w F B' H' os' → Is B' d v → Q v H') → te σ H Q
def EvLE (w : World) (F : Fr) (te : TA) (ds : DEnv) (os : Own) (R : List Dt → Own → Prop) : Prop := ∀ B H σ, Sh w F B H os → Slots B σ ds → ∀ Q : List V → Hp → Prop, (∀ d os' v B' H', R d os' → Same B B' → Sh w F B' H' os' → IsA B' d v → Q v H') → te σ H Q
def PXE (C : Cxs) (F : Fr) (e : Expr) := EvE C.w F (EX C e)
def PLE (C : Cxs) (F : Fr) (es : List Expr) := EvLE C.w F (AX C es)
def spE (P : List Dt → Prop) (R : List Dt → Dt → Prop) : Sp := fun vs H Q _ => ∃ B ds, Same B H ∧ IsA B ds vs ∧ P ds ∧ ∀ d v B' H', R ds d → Up B H B' H' → Is B' d v → Q v H'
def spME (w : World) (P : Ob → List Dt → Prop) (R : Ob → List Dt → Dt → Ob → Prop) : Sp := fun vs H Q _ => ∃ B p us st ds, vs = .ref p :: us ∧ Same B H ∧ B p = none ∧ OwnAt w B H p st ∧ IsA B ds us ∧ P st ds ∧
  ∀ d st' v B' H', R st ds d st' → Up B (cut H p) B' H' → B' p = none → OwnAt w B' H' p st' → Is B' d v → Q v H'
section
variable {C : Cxs} {F : Fr} {e a b c o : Expr} {es : List Expr} {ds ds1 ds2 : DEnv} {os os1 os2 os3 : Own} {d x y z : Dt} {pos pos' p p2 apos : Pos} {n : Str} {D : Ends} {rest : List Stmt} {k : Nat} {ps : List Str} {xs : List Dt} {R : Dt → Own → Prop}
theorem PX.E (h : PX C F e ds os d os1) : PXE C F e ds os (fun d' o => d' = d ∧ o = os1) := fun B H σ S L Q q => h B H σ S L Q fun v B' H' e' S' i => q _ _ v B' H' ⟨rfl, rfl⟩ e' S' i
theorem l2E {Rb : Dt → Own → Prop} (ha : PX C F a ds os x os1) (hb : PXE C F b ds os1 Rb) (h1 : St1 C a [b] := by intro _; rfl) (h2 : St1 C b [] := by intro _; rfl) : PLE C F [a, b] ds os (fun xs o => ∃ y, xs = [x, y] ∧ Rb y o) := fun B H σ S L Q q =>
  ⟨_, fun i => pa_cons (pe_EX i) (pa_cons (pe_EX i) pa_nil (h2 i)) (h1 i), ha B H σ S L _ fun u B1 H1 e1 S1 i1 => hb B1 H1 σ S1 (L.mono e1) _ fun y o v B2 H2 r e2 S2 i2 => q [x, y] o [u, v] B2 H2 ⟨y, rfl, r⟩ (e1.trans e2) S2 (.cons (i1.mono e2) (.cons i2 .nil))⟩
theorem PL.E (h : PL C F es ds os xs os1) : PLE C F es ds os (fun ys o => ys = xs ∧ o = os1) := fun B H σ S L Q q => h B H σ S L Q fun v B' H' e' S' i => q _ _ v B' H' ⟨rfl, rfl⟩ e' S' i
theorem x_callE {M : Mo} {P : List Dt → Prop} {Rf : List Dt → Dt → Prop} {RL : List Dt → Own → Prop} (G : Glob M n k ps (spE P Rf)) (ha : PLE C F (a :: es) ds os RL) (hp : ∀ xs o, RL xs o → P xs) (hg : ∀ i, Gl (C.X i) n := by intro _; rfl) (hdb : (n == ("__debug__" : Str)) = false := by decide) (h1 : St1 C a es := by intro _; rfl) (h2 : St2 C es pos := by intro _; rfl) (hk : k ≤ C.k := by exact Nat.le_of_ble_eq_true rfl) (hM : C.mo = M := by rfl) :
    PXE C F (.Call (.Name n p) (a :: es) [] pos) ds os (fun d o => ∃ xs, RL xs o ∧ Rf xs d) := by
  subst hM
  obtain ⟨f, hf, ⟨fd, hF, hb⟩, kp⟩ := G
  exact fun B H σ S L Q q => ⟨tCall (spE P Rf) [] E0 (AX C (a :: es)), fun i => pe_call (ds := []) (dvs := []) (fnok_at hF i) ((C.hr i).mono hk) (hg i) (by rw [C.hm i]; exact hf) (by rw [C.hK i]; exact kp) (by rw [C.hK i]; exact hb) .nil pass0 (pa_AX i) hdb (h1 i) (h2 i),
    ha B H σ S L _ fun xs o vs B1 H1 r e1 S1 i1 => ⟨B1, xs, S1.bh, by rw [List.append_nil]; exact i1, hp xs o r, fun d v B' H' rd U i => q d o v B' H' ⟨xs, r, rd⟩ (e1.trans U.eB) (S1.call U) i⟩⟩
theorem x_callME {M : Mo} {P : Ob → List Dt → Prop} {Rf : Ob → List Dt → Dt → Ob → Prop} {q : Addr} {st : Ob} (G : Glob M n k ps (spME M.w P Rf)) (j : Nat) (ha : PL C F (a :: es) ds os (.adr q :: xs) os1) (hj : os1[j]? = some (q, st)) (hp : P st xs) (hg : ∀ i, Gl (C.X i) n := by intro _; rfl) (hdb : (n == ("__debug__" : Str)) = false := by decide) (h1 : St1 C a es := by intro _; rfl) (h2 : St2 C es pos := by intro _; rfl) (hk : k ≤ C.k := by exact Nat.le_of_ble_eq_true rfl) (hM : C.mo = M := by rfl) :
    PXE C F (.Call (.Name n p) (a :: es) [] pos) ds os (fun d o => ∃ st', Rf st xs d st' ∧ o = os1.set j (q, st')) := by
  subst hM
  obtain ⟨f, hf, ⟨fd, hF, hb⟩, kp⟩ := G
  refine fun B H σ S L Q qq => ⟨tCall (spME C.w P Rf) [] E0 (AX C (a :: es)), fun i => pe_call (ds := []) (dvs := []) (fnok_at hF i) ((C.hr i).mono hk) (hg i) (by rw [C.hm i]; exact hf) (by rw [C.hK i]; exact kp) (by rw [C.hK i]; exact hb) .nil pass0 (pa_AX i) hdb (h1 i) (h2 i),
    ha B H σ S L _ fun vs B1 H1 e1 S1 i1 => ?_⟩
  obtain ⟨v, us, rfl, h1, h2⟩ := i1.inv
  obtain ⟨h3, _, h4⟩ := S1.get hj
  exact ⟨B1, q, us, st, xs, by rw [List.append_nil, is_adr h1], S1.bh, h3, h4, h2, hp, fun d st' v B' H' r U hb ho i => qq d _ v B' H' ⟨st', r, rfl⟩ (e1.trans U.eB) (S1.callM hj U hb ho) i⟩
theorem r_setE (i : Nat) (h : PXE C F e ds os R) (kk : ∀ d o, R d o → Run C F rest D (ds.set i (some d)) o) (hn : NmOk C i n := by exact fun _ => ⟨‹List.Nodup _›, rfl, by first | exact .inl rfl | exact .inr rfl, by first | exact .inl rfl | exact .inr rfl⟩) (hs : ∀ i, swapsWith e (some (.Name n pos')) pos.line (C.X i).env = pure false := by intro _; rfl) : Run C F (.Assign [.Name n pos'] e pos :: rest) D ds os :=
  r_step (fun j => ps_set (hn j).1 (hn j).2.1 (hn j).2.2.1 (pe_EX j) (hs j) (hn j).2.2.2) fun B H σ S L => h B H σ S L _ fun d o v B1 H1 r e1 S1 i1 => kk d o r B1 H1 _ S1 ((L.mono e1).set i i1)
theorem r_parDE {x' y' : Str} {px py pt pt2 : Pos} {kt k2 : Nat} (i j : Nat) (ha : PX C F a ds os x os1) (hb : PXE C F b ds os1 R) (kk : ∀ y o, R y o → Run C F rest D ((ds.set i (some x)).set j (some y)) o) (hn : P2 C i j x' y' := by exact ⟨by decide, fun _ => ⟨‹List.Nodup _›, rfl, rfl, rfl, rfl⟩⟩) (hw : Sw2 C x' y' px py pt pt2 kt k2 a b := by intro _; rfl) (hs : Sw3 C x' y' px py pt pt2 pos kt k2 a b := by intro _; rfl)
    (h1 : St1 C a [b] := by intro _; rfl) (h2 : St1 C b [] := by intro _; rfl) : Run C F (.Assign [.Tuple [.Name x' px, .Name y' py] kt pt] (.Tuple [a, b] k2 pt2) pos :: rest) D ds os :=
  r_step (fun l => ps_par (C.calm l) (hn.2 l).1 (hn.2 l).2.1 (hn.2 l).2.2.1 hn.1 (hn.2 l).2.2.2.1 (hn.2 l).2.2.2.2 (pa_cons (pe_EX l) (pa_cons (pe_EX l) pa_nil (h2 l)) (h1 l)) (hw l) (hs l)) fun B H σ S L =>
    ha B H σ S L _ fun u B1 H1 e1 S1 i1 => hb B1 H1 σ S1 (L.mono e1) _ fun y o v B2 H2 r e2 S2 i2 => ⟨u, v, rfl, kk y o r B2 H2 _ S2 (((L.mono (e1.trans e2)).set i (i1.mono e2)).set j i2)⟩
theorem r_retE (h : PXE C F e ds os R) (q : ∀ d o, R d o → RtOk C.w F D.rt d o) : Run C F (.Return (some e) pos :: rest) D ds os := r_step (fun i => ps_ret (pe_EX i)) fun B H σ S L => h B H σ S L _ fun d o v B1 H1 r e1 S1 i1 => q d o r B1 H1 v S1 i1
/-- for over a list that is told by a property -/
theorem r_forE {tg iter : Expr} {body : List Stmt} {XS : List Dt → Own → Prop} (I : List Dt → Nat → DEnv → Own → Prop) (hi : PXE C F iter ds os (fun d o => ∃ xs, d = .lst xs ∧ XS xs o)) (h0 : ∀ xs o, XS xs o → I xs 0 ds o)
    (hb : ∀ F', Fle C.w F F' → ∀ xs i d ds os, xs[i]? = some d → I xs i ds os → ∃ ds' js, PGt C F' tg d ds ds' js ∧ Run C F' body { nx := NxP C.w F' (I xs (i + 1)), rt := D.rt, bk := BX C rest D, ct := NxP C.w F' (I xs (i + 1)) } ds' os) (hd : ∀ xs ds os, I xs xs.length ds os → Run C F rest D ds os)
    (hs : ∀ l x, foldedSetIterable iter (C.X l).env x = pure x := by intro _ _; rfl) (hp : ∀ i, PassesOwn (model (C.X i).prog (C.X i).w) (C.X i).A (C.X i).env (C.X i).xe := by intro _; exact PassesOwn.never) : Run C F (.For tg iter body [] pos :: rest) D ds os :=
  r_step (fun i => ps_for (hp i) (C.calm i) (pi_IX i) (pg_GX i) (pss_BX i) (hs i)) fun B H σ S L => ⟨iList C.K (EX C iter), fun i => by rw [← C.hK i]; exact pi_list (pe_EX i), hi B H σ S L _ fun d0 o v B1 H1 r e1 S1 i1 => by
    obtain ⟨xs, rfl, hx⟩ := r
    obtain ⟨p, vs, rfl, h1, h2⟩ := is_lst i1
    have hl := is_len h2
    have wk0 := walk_list (K := C.K) (a := p) (xs := vs)
    have wk : Wk C.w F (Itl C.K p) B1 xs := by
      refine ⟨fun i B2 H2 os2 hi eB S2 => wk0.goes i H2 (by omega) (.inl (.inl (S2.bh _ _ (eB _ _ h1)))), fun B2 H2 os2 eB S2 => ?_, fun i B2 H2 os2 x H3 hi eB S2 y => ?_⟩
      · have := wk0.stops H2 (.inl (.inl (S2.bh _ _ (eB _ _ h1))))
        rw [hl] at this
        exact this
      · obtain ⟨y1, y2⟩ := wk0.yields i H2 x H3 (by omega) (.inl (.inl (S2.bh _ _ (eB _ _ h1)))) y
        subst y1
        obtain ⟨d, hd⟩ := lt_get hi
        obtain ⟨v, hv, iv⟩ := h2.get hd
        rw [y2] at hv
        cases hv
        exact ⟨B2, d, Same.refl _, S2, hd, iv.mono eB⟩
    refine ⟨p, rfl, ⟨vs, .inl (.inl (S1.bh _ _ h1))⟩, ?_⟩
    have lF : Fle C.w F ⟨B1, F.H⟩ := S1.anchor
    refine ⟨fun i m σ H => m = xs.length - i ∧ i ≤ xs.length ∧ ∃ ds os B, I xs i ds os ∧ Sh C.w ⟨B1, F.H⟩ B H os ∧ Slots B σ ds, ⟨xs.length, by simp, Nat.zero_le _, ds, o, B1, h0 xs o hx, S1.anchored S1 (Same.refl _), L.mono e1⟩, fun i m σ H ⟨em, hil, ds', os', B', hI, S', L'⟩ => ?_⟩
    subst em
    by_cases hlt : i < xs.length
    · refine .inr ⟨wk.go i B' H os' hlt S'.eB (lF S'), fun σ2 H2 => NxP C.w ⟨B1, F.H⟩ (I xs (i + 1)) σ2 H2, fun σ2 H2 ⟨ds, os, B, q1, q2, q3⟩ => ⟨xs.length - (i + 1), by omega, rfl, hlt, ds, os, B, q1, q2, q3⟩, fun x H2 y => ?_⟩
      obtain ⟨B3, d, e3, S3, hd3, i3⟩ := wk.yld i B' H os' x H2 hlt S'.eB (lF S') y
      have S3' : Sh C.w ⟨B1, F.H⟩ B3 H2 os' := S1.anchored S3 (S'.eB.trans e3)
      obtain ⟨ds2, js, g, rn⟩ := hb _ lF xs i d ds' os' hd3 hI
      exact g B3 H2 σ x os' S3' (L'.mono e3) i3 _ fun σ3 L3 _ => rn B3 H2 σ3 S3' L3
    · have e : i = xs.length := by omega
      subst e
      exact .inl ⟨wk.stop B' H os' S'.eB (lF S'), hd xs ds' os' hI B' H σ (lF S') L'⟩⟩
end
section
variable {M : Mo} {x qual : Str} {st : Stmt} {f : Addr} {fd : FuncData} {N ps : List Str} {k : Nat}
theorem Fun.okE {P : List Dt → Prop} {R : List Dt → Dt → Prop} (F : L2.Fun M.K x qual st f fd) (S : FnScope N ps (defScope st)) (hl : ∀ ds, P ds → ds.length = ps.length)
    (body : ∀ (cdv : Value) (A : Around) (outer : List Env) (s : Shared) (H : Hp) (E : XK) (hr : Room k (A.deeper (envOfC qual (defScope st) s.heap.objs.size f cdv))) (F : Fr) (D : Ends) (ds : List Dt), P ds → (∀ d os, R ds d → RtOk M.w F D.rt d os) →
      Run (cx0 M k N qual (defScope st) f cdv A outer s H E hr) F (defBody st) D (ds.map some ++ List.replicate (N.length - ps.length) none) []) : FnOk M.P M.w M.K M.mg M.base CX0 (k + 1) f fd ps (spE P R) := by
  refine F.ok S (fun vs H Q E h => ?_) (fun cdv A outer s H vs Q E hr h => ?_)
  · obtain ⟨B, ds, _, h2, h3, _⟩ := h
    rw [← h2.length]
    exact hl ds h3
  · obtain ⟨B, ds, hB, hA, hp, q⟩ := h
    have hl2 := (hA.length.symm.trans (hl ds hp))
    obtain ⟨t, D', l, h1, h2⟩ := body cdv A outer s H E hr ⟨B, H⟩ { nx := fun _ H' => Q .non H', rt := Q } ds hp (fun d os r B' H' v S' i => q d v B' H' r S'.toUp i) B H (L2.start N vs) (Sh.start hB) (by rw [start_eq N vs _ hl2]; exact Slots.start _ hA)
    refine ⟨fun D σ H => ∃ D', Le D' D ∧ t D' σ H, ⟨fun pins s σ H D I hw => ?_⟩, D', l, h2⟩
    obtain ⟨D'', l2, hw⟩ := hw
    exact thn ((h1 ()).run pins s σ H D'' I hw) fun _ _ z => SP.le l2 z
theorem Fun.okME {P : Ob → List Dt → Prop} {R : Ob → List Dt → Dt → Ob → Prop} (F : L2.Fun M.K x qual st f fd) (S : FnScope N ps (defScope st)) (hl : ∀ o ds, P o ds → ds.length + 1 = ps.length)
    (body : ∀ (cdv : Value) (A : Around) (outer : List Env) (s : Shared) (H : Hp) (E : XK) (hr : Room k (A.deeper (envOfC qual (defScope st) s.heap.objs.size f cdv))) (F : Fr) (D : Ends) (q : Addr) (o : Ob) (ds : List Dt), P o ds → (∀ (d : Dt) (o' : Ob) (os : Own) (j : Nat), R o ds d o' → os[j]? = some (q, o') → RtOk M.w F D.rt d os) →
      Run (cx0 M k N qual (defScope st) f cdv A outer s H E hr) F (defBody st) D ((Dt.adr q :: ds).map some ++ List.replicate (N.length - ps.length) none) [(q, o)]) : FnOk M.P M.w M.K M.mg M.base CX0 (k + 1) f fd ps (spME M.w P R) := by
  refine F.ok S (fun vs H Q E h => ?_) (fun cdv A outer s H vs Q E hr h => ?_)
  · obtain ⟨B, p, us, o, ds, rfl, _, _, _, h2, h3, _⟩ := h
    rw [List.length_cons, ← h2.length]
    exact hl o ds h3
  · obtain ⟨B, p, us, o, ds, rfl, hB, hb, ho, hA, hp, q⟩ := h
    have hl2 : (V.ref p :: us).length = ps.length := by rw [List.length_cons, ← hA.length]; exact hl o ds hp
    obtain ⟨t, D', l, h1, h2⟩ := body cdv A outer s H E hr ⟨B, cut H p⟩ { nx := fun _ H' => Q .non H', rt := Q } p o ds hp (fun d o' os j r hj B' H' v S' i => q d o' v B' H' r S'.toUp (S'.get hj).1 (S'.get hj).2.2 i) B H (L2.start N (V.ref p :: us)) (Sh.startM hB hb ho) (by rw [start_eq N _ _ hl2]; exact Slots.start _ (.cons Is.mk_adr hA))
    refine ⟨fun D σ H => ∃ D', Le D' D ∧ t D' σ H, ⟨fun pins s σ H D I hw => ?_⟩, D', l, h2⟩
    obtain ⟨D'', l2, hw⟩ := hw
    exact thn ((h1 ()).run pins s σ H D'' I hw) fun _ _ z => SP.le l2 z
end
/-! ### dict comprehensions of two clauses, sets of ints -/
section
variable {C : Cxs} {F : Fr} {ds ds1 ds2 : DEnv} {os os1 os2 os3 : Own} {pos : Pos}
variable {α β : Type} {l : List α} {enc : α → Dt} {encb : β → Dt} {m : α → List β} {key : α → β → Int} {val : α → β → Dt} {tg iter tg1 iter1 kx vx : Expr} {scope : Scope}
/-- the pairs put, a list at a time -/
def putF2 (l : List α) (m : α → List β) (key : α → β → Int) (val : α → β → Dt) (d : List (Int × Dt)) : List (Int × Dt) := l.foldl (fun d a => (m a).foldl (fun d b => putA d (key a b) (val a b)) d) d
theorem fold_snoc {γ : Type} {f : γ → α → γ} {g : γ} {i : Nat} {a : α} (h : l[i]? = some a) : (l.take (i + 1)).foldl f g = f ((l.take i).foldl f g) a := by
  rw [List.take_add_one, h, List.foldl_append]
  rfl
theorem odic_len {w : World} {B H : Hp} {p : Addr} {kvs : List (Int × Dt)} (h : OwnAt w B H p (odic kvs)) : ∃ vs, H p = some (.dK (((kvs.map (·.1)).map kI).zip vs)) ∧ IsA B (kvs.map (·.2)) vs ∧ (((kvs.map (·.1)).map kI).zip vs).length = kvs.length := by
  obtain ⟨vs, h1, h2, h3⟩ := h
  exact ⟨vs, h1, h3, by rw [List.length_zip, List.length_map, ← h2, Nat.min_self, List.length_map]⟩
theorem putA_le {d : List (Int × Dt)} {k : Int} {v : Dt} : (putA d k v).length ≤ d.length + 1 := by
  rw [show putA d k v = if (d.any fun kv => decide (kv.1 = k)) = true then d.map (fun kv => if kv.1 = k then (kv.1, v) else kv) else d ++ [(k, v)] from rfl]
  split
  · rw [List.length_map]; omega
  · rw [List.length_append]; exact Nat.le_refl _
theorem n_dc2 (own : List (Str × Nat)) (vs1 : List Nat) (ds' : α → DEnv) (ds'' : α → β → DEnv) (hi : PIt C F tg iter ds os (l.map enc) os1) (ok : BlkO C scope own) (hv : ∀ i ∈ vs1, i ∈ own.map (·.2))
    (hg : ∀ a ∈ l, ∀ F, ∃ js, PGt (C.blk scope) F tg (enc a) (wipeD ds (own.map (·.2))) (ds' a) js ∧ ∀ j ∈ js, j ∈ own.map (·.2))
    (hi1 : ∀ a ∈ l, ∀ F q, PIt (C.blk scope) F tg1 iter1 (ds' a) (q :: os1) ((m a).map encb) (q :: os1))
    (hg1 : ∀ a ∈ l, ∀ b ∈ m a, ∀ F, ∃ js, PGt (C.blk scope) F tg1 (encb b) (wipeD (ds' a) vs1) (ds'' a b) js ∧ ∀ j ∈ js, j ∈ vs1)
    (hk : ∀ a ∈ l, ∀ b ∈ m a, ∀ F, PX (C.blk scope) F kx (ds'' a b) os1 (.int (key a b)) os1) (hx : ∀ a ∈ l, ∀ b ∈ m a, ∀ F, PX (C.blk scope) F vx (ds'' a b) os1 (val a b) os1) (hz : ∀ i, i ≤ l.length → (putF2 (l.take i) m key val []).length ≤ 1000) (hz2 : ∀ a ∈ l, (m a).length ≤ 1000)
    (hs : ∀ i x, foldedSetIterable iter (C.X i).env x = pure x := by intro _ _; rfl) (hs1 : ∀ (env : Env) (x : Value), foldedSetIterable iter1 env x = pure x := by intro _ _; rfl) :
    PN C F (.DictComp kx vx [⟨tg, iter, [], 0⟩, ⟨tg1, iter1, [], 0⟩] scope pos) ds os (odic (putF2 l m key val [])) os1 := by
  refine pn_of (te := tDc2 (IX C tg iter) (GX (C.blk scope) tg) tYes (IX (C.blk scope) tg1 iter1) (GX (C.blk scope) tg1) tYes (EX (C.blk scope) kx) (EX (C.blk scope) vx) (own.map (·.2)) vs1)
    (fun i => pe_dc2 (C.calm i) (ok i).1 (pi_IX i) (ok i).2 hv (fun s H A cl fp => pg_GX (C := C.blk scope) (i, s, H, A, cl, fp)) (fun s H A cl fp => pts_nil) (fun s H A cl fp => pi_IX (C := C.blk scope) (i, s, H, A, cl, fp)) (fun s H A cl fp => pg_GX (C := C.blk scope) (i, s, H, A, cl, fp)) (fun s H A cl fp => pts_nil) (fun s H A cl fp => pe_EX (C := C.blk scope) (i, s, H, A, cl, fp)) (fun s H A cl fp => pe_EX (C := C.blk scope) (i, s, H, A, cl, fp)) (hs i) hs1) ?_
  refine fun B H σ S L Q q => hi B H σ S L _ fun J B1 H1 e1 S1 wk => fun E hE => ?_
  have hll : (l.map enc).length = l.length := List.length_map _
  let P : Nat → Hp → Prop := fun i H => ∃ B, Same B1 B ∧ Sh C.w F B H ((E, odic (putF2 (l.take i) m key val [])) :: os1)
  refine ⟨fun i m H => m = l.length - i ∧ i ≤ l.length ∧ P i H, ⟨l.length, by simp, Nat.zero_le _, B1, Same.refl _, S1.newO hE ⟨[], upd_same, rfl, IsA.nil⟩⟩, ?_⟩
  rintro i mm H ⟨rfl, hil, B, eB, S⟩
  by_cases hlt : i < l.length
  · refine .inr ⟨wk.go i B H _ (by omega) eB S, P (i + 1), fun H' p' => ⟨l.length - (i + 1), by omega, rfl, hlt, p'⟩, fun x H' y => ?_⟩
    obtain ⟨B3, d, e3, S3, hd3, i3⟩ := wk.yld i B H _ x H' (by omega) eB S y
    have ha : l[i]? = some l[i] := List.getElem?_eq_getElem hlt
    have hm : l[i] ∈ l := List.getElem_mem hlt
    rw [List.getElem?_map, ha] at hd3
    cases hd3
    obtain ⟨js, g1, g2⟩ := hg _ hm F
    refine g1 B3 H' _ x _ S3 ((L.mono (e1.trans (eB.trans e3))).wipe _) i3 _ fun σ3 L3 hw => ⟨(hw _ g2).trans (wipe_wipe σ _), ?_⟩
    dsimp only [tYes]
    rw [if_pos rfl]
    refine hi1 _ hm F _ B3 H' σ3 S3 L3 _ fun J1 B4 H4 e4 S4 wk1 => ?_
    have hlb : ((m l[i]).map encb).length = (m l[i]).length := List.length_map _
    let P1 : Nat → Hp → Prop := fun j H => ∃ B, Same B4 B ∧ Sh C.w F B H ((E, odic (((m l[i]).take j).foldl (fun d b => putA d (key l[i] b) (val l[i] b)) (putF2 (l.take i) m key val []))) :: os1)
    refine ⟨fun j n H => n = (m l[i]).length - j ∧ j ≤ (m l[i]).length ∧ P1 j H, ⟨_, rfl, Nat.zero_le _, B4, Same.refl _, S4⟩, ?_⟩
    rintro j n H5 ⟨rfl, hjl, B5, eB5, S5⟩
    by_cases hjt : j < (m l[i]).length
    · refine .inr ⟨wk1.go j B5 H5 _ (by omega) eB5 S5, P1 (j + 1), fun H' p' => ⟨(m l[i]).length - (j + 1), by omega, rfl, hjt, p'⟩, fun x H6 y => ?_⟩
      obtain ⟨B6, d, e6, S6, hd6, i6⟩ := wk1.yld j B5 H5 _ x H6 (by omega) eB5 S5 y
      have hb : (m l[i])[j]? = some (m l[i])[j] := List.getElem?_eq_getElem hjt
      have hmb : (m l[i])[j] ∈ m l[i] := List.getElem_mem hjt
      rw [List.getElem?_map, hb] at hd6
      cases hd6
      obtain ⟨js1, k1, k2⟩ := hg1 _ hm _ hmb F
      refine k1 B6 H6 _ x _ S6 ((L3.mono (e4.trans (eB5.trans e6))).wipe _) i6 _ fun σ7 L7 hw7 => ⟨(hw7 _ k2).trans (wipe_wipe σ3 _), ?_⟩
      rw [if_pos rfl]
      refine ev_frame (hk _ hm _ hmb) B6 H6 σ7 S6 L7 _ fun kv B8 H8 e8 S8 i8 => ev_frame (hx _ hm _ hmb) B8 H8 σ7 S8 (L7.mono e8) _ fun vv B9 H9 e9 S9 i9 => ?_
      obtain ⟨vs, h1, h3, h4⟩ := odic_len (S9.get (k := 0) rfl).2.2
      obtain ⟨us, h5, h6⟩ := putK_is (f := kI) (fun _ _ => kI_inj) (key l[i] (m l[i])[j]) i9 h3
      refine ⟨_, kI (key l[i] (m l[i])[j]), is_int i8, h1, ?_, B9, eB5.trans (e6.trans (e8.trans e9)), ?_⟩
      · rw [h4]
        have hz1 := hz i (by omega)
        have : ∀ (bs : List β) (d : List (Int × Dt)), (bs.foldl (fun d b => putA d (key l[i] b) (val l[i] b)) d).length ≤ d.length + bs.length := fun bs => by
          induction bs with
          | nil => intro d; exact Nat.le_refl _
          | cons b bs ih =>
            intro d
            have := ih (putA d (key l[i] b) (val l[i] b))
            have h9 := putA_le (d := d) (k := key l[i] b) (v := val l[i] b)
            rw [List.foldl_cons, List.length_cons]
            omega
        have h8 := this ((m l[i]).take j) (putF2 (l.take i) m key val [])
        rw [List.length_take] at h8
        have := hz2 _ hm
        exact sz_lt (by omega)
      · have := S9.put (k := 0) (o' := odic (((m l[i]).take (j + 1)).foldl (fun d b => putA d (key l[i] b) (val l[i] b)) (putF2 (l.take i) m key val []))) (x := .dK (putK (((_ : List (Int × Dt)).map (·.1)).map kI |>.zip vs) (kI (key l[i] (m l[i])[j])) vv)) rfl ⟨us, by rw [fold_snoc hb]; exact upd_same.trans (by rw [h5]), by rw [fold_snoc hb, ← h6.length, List.length_map, List.length_map], by rw [fold_snoc hb]; exact h6⟩
        exact this
    · have e : j = (m l[i]).length := by omega
      subst e
      rw [List.take_length] at S5
      have := wk1.stop B5 H5 _ eB5 S5
      rw [hlb] at this
      refine .inl ⟨this, B5, eB.trans (e3.trans (e4.trans eB5)), ?_⟩
      unfold putF2
      rw [fold_snoc ha]
      exact S5
  · have e : i = l.length := by omega
    subst e
    rw [List.take_length] at S
    have := wk.stop B H _ eB S
    rw [hll] at this
    exact .inl ⟨this, q E B H (e1.trans eB) S⟩
def setS (l : List Int) : (Int → Bool) × Nat := l.foldl (fun s c => (fun j => s.1 j || decide (j = c), if s.1 c = true then s.2 else s.2 + 1)) (fun _ => false, 0)
theorem n_sc {elt : Expr} (own : List (Str × Nat)) (ds' : α → DEnv) {g : α → Int} (hi : PIt C F tg iter ds os (l.map enc) os1) (ok : BlkO C scope own)
    (hg : ∀ a ∈ l, ∀ F, ∃ js, PGt (C.blk scope) F tg (enc a) (wipeD ds (own.map (·.2))) (ds' a) js ∧ ∀ j ∈ js, j ∈ own.map (·.2)) (he : ∀ a ∈ l, ∀ F, PX (C.blk scope) F elt (ds' a) os1 (.int (g a)) os1) (hz : ∀ i, i ≤ l.length → (setS ((l.take i).map g)).2 ≤ 4000)
    (hs : ∀ i x, foldedSetIterable iter (C.X i).env x = pure x := by intro _ _; rfl) : PN C F (.SetComp elt [⟨tg, iter, [], 0⟩] scope pos) ds os (.set (setS (l.map g)).1 (setS (l.map g)).2) os1 := by
  refine pn_of (te := tScI C.w (IX C tg iter) (GX (C.blk scope) tg) tYes (EX (C.blk scope) elt) (own.map (·.2))) (fun i => by rw [← C.hw i]; exact pe_scI (C.calm i) (ok i).1 (pi_IX i) (ok i).2 (fun s H A cl fp => pg_GX (C := C.blk scope) (i, s, H, A, cl, fp)) (fun s H A cl fp => pts_nil) (fun s H A cl fp => pe_EX (C := C.blk scope) (i, s, H, A, cl, fp)) (hs i)) ?_
  refine fun B H σ S L Q q => hi B H σ S L _ fun J B1 H1 e1 S1 wk => fun E hE => ?_
  have hll : (l.map enc).length = l.length := List.length_map _
  let T : Nat → (Int → Bool) × Nat := fun i => setS ((l.take i).map g)
  let P : Nat → Hp → Prop := fun i H => ∃ B, Same B1 B ∧ Sh C.w F B H ((E, .set (T i).1 (T i).2) :: os1)
  refine ⟨fun i m H => m = l.length - i ∧ i ≤ l.length ∧ P i H, ⟨l.length, by simp, Nat.zero_le _, B1, Same.refl _, S1.newO hE upd_same⟩, ?_⟩
  rintro i mm H ⟨rfl, hil, B, eB, S⟩
  by_cases hlt : i < l.length
  · refine .inr ⟨wk.go i B H _ (by omega) eB S, P (i + 1), fun H' p' => ⟨l.length - (i + 1), by omega, rfl, hlt, p'⟩, fun x H' y => ?_⟩
    obtain ⟨B3, d, e3, S3, hd3, i3⟩ := wk.yld i B H _ x H' (by omega) eB S y
    have ha : l[i]? = some l[i] := List.getElem?_eq_getElem hlt
    have hm : l[i] ∈ l := List.getElem_mem hlt
    rw [List.getElem?_map, ha] at hd3
    cases hd3
    obtain ⟨js, g1, g2⟩ := hg _ hm F
    refine g1 B3 H' _ x _ S3 ((L.mono (e1.trans (eB.trans e3))).wipe _) i3 _ fun σ3 L3 hw => ⟨(hw _ g2).trans (wipe_wipe σ _), ?_⟩
    dsimp only [tYes]
    rw [if_pos rfl]
    refine ev_frame (he _ hm) B3 H' σ3 S3 L3 _ fun v B5 H5 e5 S5 i5 => ?_
    have hT : T (i + 1) = (fun j => (T i).1 j || decide (j = g l[i]), if (T i).1 (g l[i]) = true then (T i).2 else (T i).2 + 1) := by
      show setS ((l.take (i + 1)).map g) = _
      unfold setS
      rw [List.take_add_one, ha, List.map_append, List.foldl_append]
      rfl
    have hz1 := hz i hil
    refine ⟨g l[i], (T i).1, (T i).2, is_int i5, (S5.get (k := 0) rfl).2.2, ?_, B5, eB.trans (e3.trans e5), ?_⟩
    · show (setS ((l.take i).map g)).2 + 1 < scanBound
      rw [show scanBound = 4096 from rfl]
      omega
    · rw [hT]
      exact S5.put (k := 0) (o' := .set (fun j => (T i).1 j || decide (j = g l[i])) (if (T i).1 (g l[i]) = true then (T i).2 else (T i).2 + 1)) rfl upd_same
  · have e : i = l.length := by omega
    subst e
    have e2 : T l.length = setS (l.map g) := by
      show setS ((l.take l.length).map g) = _
      rw [List.take_length]
    rw [e2] at S
    have := wk.stop B H _ eB S
    rw [hll] at this
    exact .inl ⟨this, q E B H (e1.trans eB) S⟩
end
end FtR
/-! triangulations by their next-line function; flips -/
namespace FtM
abbrev Tri := Int × Int × Int
/-- i steps of s from x -/
def it {α : Type} (s : α → α) : Nat → α → α
  | 0, x => x
  | i + 1, x => s (it s i x)
def orb {α : Type} (s : α → α) (x : α) (n : Nat) : List α := (List.range n).map fun i => it s i x
def IsLn (L : Nat) (x : Int) : Prop := 0 < x.natAbs ∧ x.natAbs ≤ L
instance (L : Nat) (x : Int) : Decidable (IsLn L x) := inferInstanceAs (Decidable (_ ∧ _))
theorem IsLn.neg {L : Nat} {x : Int} (h : IsLn L x) : IsLn L (-x) := by unfold IsLn at *; rwa [Int.natAbs_neg]
theorem IsLn.ne {L : Nat} {x : Int} (h : IsLn L x) : x ≠ 0 := by have := h.1; omega
structure Tr (L : Nat) (f : Int → Int) : Prop where
  ln : ∀ x, IsLn L x → IsLn L (f x)
  f3 : ∀ x, IsLn L x → f (f (f x)) = x
  ne : ∀ x, IsLn L x → (f x).natAbs ≠ x.natAbs
/-- the next line around the nail where a line starts -/
def sg (f : Int → Int) (x : Int) : Int := -f (f x)
structure Web (L n : Nat) (f e : Int → Int) : Prop where
  tr : Tr L f
  es : ∀ x, IsLn L x → e (sg f x) = e x
  eo : ∀ P : Int → Prop, (∀ w, IsLn L w → (P w ↔ P (sg f w))) → ∀ x y, IsLn L x → IsLn L y → e x = e y → P x → P y
  er : ∀ x, IsLn L x → 0 ≤ e x ∧ e x < n
  ex : ∀ v : Int, 0 ≤ v → v < n → ∃ x, IsLn L x ∧ e x = v
  cn : ∀ P : Int → Prop, (∀ w, IsLn L w → P w → P (-w)) → (∀ w, IsLn L w → P w → P (f w)) → P 1 → ∀ x, IsLn L x → P x
  hn : 5 ≤ n ∧ n ≤ 7
  hL : L = 3 * (n - 2)
section
variable {L : Nat} {f : Int → Int} {x y : Int}
theorem Tr.inj (T : Tr L f) (hx : IsLn L x) (hy : IsLn L y) (h : f x = f y) : x = y := by rw [← T.f3 x hx, ← T.f3 y hy, h]
theorem Tr.ne2 (T : Tr L f) (hx : IsLn L x) : (f (f x)).natAbs ≠ x.natAbs := fun e => by
  have := T.ne (f (f x)) (T.ln _ (T.ln _ hx))
  rw [T.f3 x hx] at this
  exact this e.symm
theorem Tr.ne3 (T : Tr L f) (hx : IsLn L x) : (f (f x)).natAbs ≠ (f x).natAbs := T.ne _ (T.ln _ hx)
end
/-- the six lines of the two triangles at x -/
structure Six (L : Nat) (f : Int → Int) (x p q r s : Int) : Prop where
  tr : Tr L f
  lx : IsLn L x
  ep : f x = p
  eq : f p = q
  ex : f q = x
  er : f (-x) = r
  es : f r = s
  em : f s = -x
section
variable {L : Nat} {f : Int → Int} {x p q r s : Int}
theorem Tr.six (T : Tr L f) (hx : IsLn L x) : Six L f x (f x) (f (f x)) (f (-x)) (f (f (-x))) := ⟨T, hx, rfl, rfl, T.f3 x hx, rfl, rfl, T.f3 _ hx.neg⟩
variable (S : Six L f x p q r s)
include S
theorem Six.lp : IsLn L p := S.ep ▸ S.tr.ln _ S.lx
theorem Six.lq : IsLn L q := S.eq ▸ S.tr.ln _ S.lp
theorem Six.lr : IsLn L r := S.er ▸ S.tr.ln _ S.lx.neg
theorem Six.ls : IsLn L s := S.es ▸ S.tr.ln _ S.lr
theorem Six.apx : p.natAbs ≠ x.natAbs := S.ep ▸ S.tr.ne _ S.lx
theorem Six.aqp : q.natAbs ≠ p.natAbs := S.eq ▸ S.tr.ne _ S.lp
theorem Six.aqx : q.natAbs ≠ x.natAbs := fun e => by
  have := S.tr.ne _ S.lq
  rw [S.ex] at this
  exact this e.symm
theorem Six.arx : r.natAbs ≠ x.natAbs := by
  have := S.tr.ne _ S.lx.neg
  rw [S.er, Int.natAbs_neg] at this
  exact this
theorem Six.asr : s.natAbs ≠ r.natAbs := S.es ▸ S.tr.ne _ S.lr
theorem Six.asx : s.natAbs ≠ x.natAbs := fun e => by
  have := S.tr.ne _ S.ls
  rw [S.em, Int.natAbs_neg] at this
  exact this e.symm
theorem Six.px : p ≠ x := fun e => S.apx (by rw [e])
theorem Six.pm : p ≠ -x := fun e => S.apx (by rw [e, Int.natAbs_neg])
theorem Six.qx : q ≠ x := fun e => S.aqx (by rw [e])
theorem Six.qm : q ≠ -x := fun e => S.aqx (by rw [e, Int.natAbs_neg])
theorem Six.rx : r ≠ x := fun e => S.arx (by rw [e])
theorem Six.rm : r ≠ -x := fun e => S.arx (by rw [e, Int.natAbs_neg])
theorem Six.sx : s ≠ x := fun e => S.asx (by rw [e])
theorem Six.sm : s ≠ -x := fun e => S.asx (by rw [e, Int.natAbs_neg])
theorem Six.qp : q ≠ p := fun e => S.aqp (by rw [e])
theorem Six.sr : s ≠ r := fun e => S.asr (by rw [e])
theorem Six.xm : x ≠ -x := by
  have := S.lx.ne
  omega
theorem Six.npr : p ≠ r := fun e => by
  have h1 := S.ex
  have h2 := S.em
  rw [← S.eq, e, S.es, h2] at h1
  have := S.lx.ne
  omega
theorem Six.nps : p ≠ s := fun e => by
  have h2 := S.em
  rw [← e, S.eq] at h2
  have := S.aqx
  rw [h2, Int.natAbs_neg] at this
  exact this rfl
theorem Six.nqr : q ≠ r := fun e => by
  have h2 := S.es
  rw [← e, S.ex] at h2
  exact S.asx (by rw [← h2])
theorem Six.nqs : q ≠ s := fun e => by
  have h2 := S.em
  rw [← e, S.ex] at h2
  have := S.lx.ne
  omega
end
/-- the next line behind a flip of a -/
def flF (f : Int → Int) (a w : Int) : Int :=
  let x : Int := a.natAbs
  let p := f x
  let q := f p
  let r := f (-x)
  let s := f r
  if w = a then q else if w = q then r else if w = r then a else if w = -a then s else if w = s then p else if w = p then -a else f w
def flE (f e : Int → Int) (a w : Int) : Int := if w = a then e (-f (-(a.natAbs : Int))) else if w = -a then e (-f (a.natAbs : Int)) else e w
def can (f : Int → Int) (a : Int) : Bool := decide ((f (f (a.natAbs : Int))).natAbs ≠ (f (-(a.natAbs : Int))).natAbs) && decide ((f (f (-(a.natAbs : Int)))).natAbs ≠ (f (a.natAbs : Int)).natAbs)
/-- what a flip is: x the size of a, the new next line g -/
structure Flp (L : Nat) (f : Int → Int) (a x p q r s : Int) (g : Int → Int) : Prop where
  six : Six L f x p q r s
  ax : a = x ∨ a = -x
  aqr : q.natAbs ≠ r.natAbs
  asp : s.natAbs ≠ p.natAbs
  ga : g a = q
  gq : g q = r
  gr : g r = a
  gb : g (-a) = s
  gs : g s = p
  gp : g p = -a
  go : ∀ w, w ≠ x → w ≠ -x → w ≠ p → w ≠ q → w ≠ r → w ≠ s → g w = f w
theorem flp_of {L : Nat} {f : Int → Int} {a : Int} (T : Tr L f) (ha : IsLn L a) (hc : can f a = true) :
    Flp L f a (a.natAbs : Int) (f (a.natAbs : Int)) (f (f (a.natAbs : Int))) (f (-(a.natAbs : Int))) (f (f (-(a.natAbs : Int)))) (flF f a) := by
  have hx : IsLn L (a.natAbs : Int) := by unfold IsLn at *; rwa [Int.natAbs_natCast]
  have S := T.six hx
  have hax : a = (a.natAbs : Int) ∨ a = -(a.natAbs : Int) := by omega
  unfold can at hc
  simp only [Bool.and_eq_true, decide_eq_true_eq] at hc
  obtain ⟨h1, h2⟩ := hc
  generalize hxx : (a.natAbs : Int) = x at S hax h1 h2
  generalize hp : f x = p at S h1 h2
  generalize hq : f p = q at S h1 h2
  generalize hr : f (-x) = r at S h1 h2
  generalize hs : f r = s at S h1 h2
  have off : ∀ w : Int, w ≠ x → w ≠ -x → w ≠ a ∧ w ≠ -a := fun w h1 h2 => by
    rcases hax with h | h
    · rw [h]; exact ⟨h1, h2⟩
    · rw [h, Int.neg_neg]; exact ⟨h2, h1⟩
  obtain ⟨pa, pb⟩ := off p S.px S.pm
  obtain ⟨qa, qb⟩ := off q S.qx S.qm
  obtain ⟨ra, rb⟩ := off r S.rx S.rm
  obtain ⟨sa, sb⟩ := off s S.sx S.sm
  have ab : a ≠ -a := by
    have := ha.ne
    omega
  have hg : ∀ w, flF f a w = if w = a then q else if w = q then r else if w = r then a else if w = -a then s else if w = s then p else if w = p then -a else f w := fun w => by
    unfold flF
    simp only [hxx, hp, hq, hr, hs]
  refine ⟨S, hax, h1, h2, ?_, ?_, ?_, ?_, ?_, ?_, fun w w1 w2 w3 w4 w5 w6 => ?_⟩
  · rw [hg, if_pos rfl]
  · rw [hg, if_neg qa, if_pos rfl]
  · rw [hg, if_neg ra, if_neg S.nqr.symm, if_pos rfl]
  · rw [hg, if_neg ab.symm, if_neg qb.symm, if_neg rb.symm, if_pos rfl]
  · rw [hg, if_neg sa, if_neg S.nqs.symm, if_neg S.sr, if_neg sb, if_pos rfl]
  · rw [hg, if_neg pa, if_neg S.qp.symm, if_neg S.npr, if_neg pb, if_neg S.nps, if_pos rfl]
  · obtain ⟨wa, wb⟩ := off w w1 w2
    rw [hg, if_neg wa, if_neg w4, if_neg w5, if_neg wb, if_neg w6, if_neg w3]
section
variable {L : Nat} {f g : Int → Int} {a x p q r s : Int}
/-- the cases of a line -/
theorem Flp.cases (X : Flp L f a x p q r s g) (w : Int) : w = a ∨ w = q ∨ w = r ∨ w = -a ∨ w = s ∨ w = p ∨ (w ≠ x ∧ w ≠ -x ∧ w ≠ p ∧ w ≠ q ∧ w ≠ r ∧ w ≠ s) := by
  by_cases h1 : w = a
  · exact .inl h1
  by_cases h2 : w = q
  · exact .inr (.inl h2)
  by_cases h3 : w = r
  · exact .inr (.inr (.inl h3))
  by_cases h4 : w = -a
  · exact .inr (.inr (.inr (.inl h4)))
  by_cases h5 : w = s
  · exact .inr (.inr (.inr (.inr (.inl h5))))
  by_cases h6 : w = p
  · exact .inr (.inr (.inr (.inr (.inr (.inl h6)))))
  have hx : w ≠ x ∧ w ≠ -x := by
    rcases X.ax with h | h
    · rw [← h]; exact ⟨h1, h4⟩
    · rw [show x = -a by omega, Int.neg_neg]; exact ⟨h4, h1⟩
  exact .inr (.inr (.inr (.inr (.inr (.inr ⟨hx.1, hx.2, h6, h2, h3, h5⟩)))))
theorem Flp.off (X : Flp L f a x p q r s g) {w : Int} (h1 : w ≠ x) (h2 : w ≠ -x) : w ≠ a ∧ w ≠ -a := by
  rcases X.ax with h | h
  · rw [h]; exact ⟨h1, h2⟩
  · rw [h, Int.neg_neg]; exact ⟨h2, h1⟩
theorem Flp.off' (X : Flp L f a x p q r s g) {w : Int} (h1 : w ≠ a) (h2 : w ≠ -a) : w ≠ x ∧ w ≠ -x := by
  rcases X.ax with h | h
  · rw [← h]; exact ⟨h1, h2⟩
  · rw [show x = -a by omega, Int.neg_neg]; exact ⟨h2, h1⟩
theorem Flp.xa (X : Flp L f a x p q r s g) : x.natAbs = a.natAbs := by
  rcases X.ax with h | h
  · rw [h]
  · rw [h, Int.natAbs_neg]
theorem Flp.la (X : Flp L f a x p q r s g) : IsLn L a := by
  rcases X.ax with h | h
  · exact h ▸ X.six.lx
  · exact h ▸ X.six.lx.neg
/-- what f does elsewhere stays elsewhere -/
theorem Flp.out (X : Flp L f a x p q r s g) {w : Int} (hw : IsLn L w) (h : w ≠ x ∧ w ≠ -x ∧ w ≠ p ∧ w ≠ q ∧ w ≠ r ∧ w ≠ s) : f w ≠ x ∧ f w ≠ -x ∧ f w ≠ p ∧ f w ≠ q ∧ f w ≠ r ∧ f w ≠ s := by
  have S := X.six
  have T := S.tr
  obtain ⟨h1, h2, h3, h4, h5, h6⟩ := h
  exact ⟨fun e => h4 (T.inj hw S.lq (e.trans S.ex.symm)), fun e => h6 (T.inj hw S.ls (e.trans S.em.symm)), fun e => h1 (T.inj hw S.lx (e.trans S.ep.symm)),
    fun e => h3 (T.inj hw S.lp (e.trans S.eq.symm)), fun e => h2 (T.inj hw S.lx.neg (e.trans S.er.symm)), fun e => h5 (T.inj hw S.lr (e.trans S.es.symm))⟩
theorem Flp.gtr (X : Flp L f a x p q r s g) : Tr L g := by
  have S := X.six
  have T := S.tr
  have la := X.la
  have xa := X.xa
  refine ⟨fun w hw => ?_, fun w hw => ?_, fun w hw => ?_⟩
  · rcases X.cases w with h | h | h | h | h | h | h
    · rw [h, X.ga]; exact S.lq
    · rw [h, X.gq]; exact S.lr
    · rw [h, X.gr]; exact la
    · rw [h, X.gb]; exact S.ls
    · rw [h, X.gs]; exact S.lp
    · rw [h, X.gp]; exact la.neg
    · obtain ⟨h1, h2, h3, h4, h5, h6⟩ := h
      rw [X.go w h1 h2 h3 h4 h5 h6]
      exact T.ln w hw
  · rcases X.cases w with h | h | h | h | h | h | h
    · rw [h, X.ga, X.gq, X.gr]
    · rw [h, X.gq, X.gr, X.ga]
    · rw [h, X.gr, X.ga, X.gq]
    · rw [h, X.gb, X.gs, X.gp]
    · rw [h, X.gs, X.gp, X.gb]
    · rw [h, X.gp, X.gb, X.gs]
    · obtain ⟨h1, h2, h3, h4, h5, h6⟩ := h
      obtain ⟨k1, k2, k3, k4, k5, k6⟩ := X.out hw ⟨h1, h2, h3, h4, h5, h6⟩
      obtain ⟨l1, l2, l3, l4, l5, l6⟩ := X.out (T.ln w hw) ⟨k1, k2, k3, k4, k5, k6⟩
      rw [X.go w h1 h2 h3 h4 h5 h6, X.go _ k1 k2 k3 k4 k5 k6, X.go _ l1 l2 l3 l4 l5 l6]
      exact T.f3 w hw
  · rcases X.cases w with h | h | h | h | h | h | h
    · rw [h, X.ga, ← xa]; exact S.aqx
    · rw [h, X.gq]; exact fun e => X.aqr e.symm
    · rw [h, X.gr, ← xa]; exact fun e => S.arx e.symm
    · rw [h, X.gb, Int.natAbs_neg, ← xa]; exact S.asx
    · rw [h, X.gs]; exact fun e => X.asp e.symm
    · rw [h, X.gp, Int.natAbs_neg, ← xa]; exact fun e => S.apx e.symm
    · obtain ⟨h1, h2, h3, h4, h5, h6⟩ := h
      rw [X.go w h1 h2 h3 h4 h5 h6]
      exact T.ne w hw
/-- the ends by a line's other side -/
theorem Web.en {n : Nat} {e : Int → Int} (W : Web L n f e) {w : Int} (hw : IsLn L w) : e (-w) = e (f w) := by
  have := W.es (f w) (W.tr.ln w hw)
  unfold sg at this
  rw [W.tr.f3 w hw] at this
  exact this
theorem Flp.web {n : Nat} {e e' : Int → Int} (X : Flp L f a x p q r s g) (W : Web L n f e) (ha : e' a = e (-r)) (hb : e' (-a) = e (-p)) (ho : ∀ w, w ≠ a → w ≠ -a → e' w = e w) : Web L n g e' := by
  have S := X.six
  have T := S.tr
  have la := X.la
  have neg_ne : ∀ {u v : Int}, u ≠ -v → -u ≠ v := fun h e => h (by rw [← e, Int.neg_neg])
  have nn_ne : ∀ {u v : Int}, u ≠ v → -u ≠ -v := fun h e => h (Int.neg_inj.mp e)
  have n1 : e (-x) = e p := by rw [W.en S.lx, S.ep]
  have n2 : e (-p) = e q := by rw [W.en S.lp, S.eq]
  have n3 : e (-q) = e x := by rw [W.en S.lq, S.ex]
  have n4 : e x = e r := by
    have := W.en S.lx.neg
    rwa [Int.neg_neg, S.er] at this
  have n5 : e (-r) = e s := by rw [W.en S.lr, S.es]
  have n6 : e (-s) = e (-x) := by rw [W.en S.ls, S.em]
  have op : e' p = e p := ho p (X.off S.px S.pm).1 (X.off S.px S.pm).2
  have oq : e' q = e q := ho q (X.off S.qx S.qm).1 (X.off S.qx S.qm).2
  have orr : e' r = e r := ho r (X.off S.rx S.rm).1 (X.off S.rx S.rm).2
  have os : e' s = e s := ho s (X.off S.sx S.sm).1 (X.off S.sx S.sm).2
  have mp : e' (-p) = e (-p) := ho _ (X.off (neg_ne S.pm) (nn_ne S.px)).1 (X.off (neg_ne S.pm) (nn_ne S.px)).2
  have mq : e' (-q) = e (-q) := ho _ (X.off (neg_ne S.qm) (nn_ne S.qx)).1 (X.off (neg_ne S.qm) (nn_ne S.qx)).2
  have mr : e' (-r) = e (-r) := ho _ (X.off (neg_ne S.rm) (nn_ne S.rx)).1 (X.off (neg_ne S.rm) (nn_ne S.rx)).2
  have ms : e' (-s) = e (-s) := ho _ (X.off (neg_ne S.sm) (nn_ne S.sx)).1 (X.off (neg_ne S.sm) (nn_ne S.sx)).2
  have s1 : sg g a = -r := by unfold sg; rw [X.ga, X.gq]
  have s2 : sg g q = -a := by unfold sg; rw [X.gq, X.gr]
  have s3 : sg g r = -q := by unfold sg; rw [X.gr, X.ga]
  have s4 : sg g (-a) = -p := by unfold sg; rw [X.gb, X.gs]
  have s5 : sg g s = a := by unfold sg; rw [X.gs, X.gp, Int.neg_neg]
  have s6 : sg g p = -s := by unfold sg; rw [X.gp, X.gb]
  have s7 : ∀ w, IsLn L w → (w ≠ x ∧ w ≠ -x ∧ w ≠ p ∧ w ≠ q ∧ w ≠ r ∧ w ≠ s) → sg g w = sg f w ∧ sg f w ≠ x ∧ sg f w ≠ -x := fun w hw h => by
    obtain ⟨h1, h2, h3, h4, h5, h6⟩ := id h
    obtain ⟨k1, k2, k3, k4, k5, k6⟩ := X.out hw h
    obtain ⟨l1, l2, l3, l4, l5, l6⟩ := X.out (T.ln w hw) ⟨k1, k2, k3, k4, k5, k6⟩
    unfold sg
    rw [X.go w h1 h2 h3 h4 h5 h6, X.go _ k1 k2 k3 k4 k5 k6]
    exact ⟨rfl, neg_ne l2, nn_ne l1⟩
  have an : ∀ w, w ≠ x → w ≠ -x → w ≠ a ∧ w ≠ -a := fun w h1 h2 => X.off h1 h2
  refine ⟨X.gtr, fun w hw => ?_, fun P hP => ?_, fun w hw => ?_, fun v h0 h1 => ?_, fun P hP1 hP2 h1 => ?_, W.hn, W.hL⟩
  · rcases X.cases w with h | h | h | h | h | h | h
    · rw [h, s1, mr, ha]
    · rw [h, s2, hb, oq, n2]
    · rw [h, s3, mq, orr, n3, n4]
    · rw [h, s4, mp, hb]
    · rw [h, s5, ha, os, n5]
    · rw [h, s6, ms, op, n6, n1]
    · obtain ⟨z1, z2, z3⟩ := s7 w hw h
      rw [z1, ho _ (an _ z2 z3).1 (an _ z2 z3).2, ho _ (an _ h.1 h.2.1).1 (an _ h.1 h.2.1).2]
      exact W.es w hw
  · have pa : P a ↔ P (-r) := by have := hP a la; rwa [s1] at this
    have pq : P q ↔ P (-a) := by have := hP q S.lq; rwa [s2] at this
    have pr : P r ↔ P (-q) := by have := hP r S.lr; rwa [s3] at this
    have pb : P (-a) ↔ P (-p) := by have := hP _ la.neg; rwa [s4] at this
    have ps : P s ↔ P a := by have := hP s S.ls; rwa [s5] at this
    have pp : P p ↔ P (-s) := by have := hP p S.lp; rwa [s6] at this
    have key := W.eo (fun w => if w = x then P r else if w = -x then P p else P w) (fun w hw => ?_)
    · have red : ∀ w, IsLn L w → ∃ u, IsLn L u ∧ u ≠ x ∧ u ≠ -x ∧ e' w = e u ∧ (P w ↔ P u) := fun w hw => by
        by_cases h1 : w = a
        · exact ⟨-r, S.lr.neg, neg_ne S.rm, nn_ne S.rx, by rw [h1, ha], by rw [h1]; exact pa⟩
        · by_cases h2 : w = -a
          · exact ⟨-p, S.lp.neg, neg_ne S.pm, nn_ne S.px, by rw [h2, hb], by rw [h2]; exact pb⟩
          · exact ⟨w, hw, (X.off' h1 h2).1, (X.off' h1 h2).2, ho w h1 h2, Iff.rfl⟩
      intro u v hu hv huv pu
      obtain ⟨u', lu, u1, u2, eu, iu⟩ := red u hu
      obtain ⟨v', lv, v1, v2, ev, iv⟩ := red v hv
      have := key u' v' lu lv (by rw [← eu, ← ev, huv])
      simp only [u1, u2, v1, v2, if_false] at this
      exact iv.mpr (this (iu.mp pu))
    · have t1 : sg f x = -q := by unfold sg; rw [S.ep, S.eq]
      have t2 : sg f q = -p := by unfold sg; rw [S.ex, S.ep]
      have t3 : sg f p = -x := by unfold sg; rw [S.eq, S.ex]
      have t4 : sg f (-x) = -s := by unfold sg; rw [S.er, S.es]
      have t5 : sg f s = -r := by unfold sg; rw [S.em, S.er]
      have t6 : sg f r = x := by unfold sg; rw [S.es, S.em, Int.neg_neg]
      by_cases h1 : w = x
      · subst h1
        rw [t1, if_pos rfl, if_neg (neg_ne S.qm), if_neg (nn_ne S.qx)]
        exact pr
      · by_cases h2 : w = -x
        · subst h2
          rw [t4, if_neg h1, if_pos rfl, if_neg (neg_ne S.sm), if_neg (nn_ne S.sx)]
          exact pp
        · rw [if_neg h1, if_neg h2]
          by_cases h3 : w = p
          · subst h3
            rw [t3, if_neg S.xm.symm, if_pos rfl]
          · by_cases h4 : w = q
            · subst h4
              rw [t2, if_neg (neg_ne S.pm), if_neg (nn_ne S.px)]
              exact pq.trans pb
            · by_cases h5 : w = r
              · subst h5
                rw [t6, if_pos rfl]
              · by_cases h6 : w = s
                · subst h6
                  rw [t5, if_neg (neg_ne S.rm), if_neg (nn_ne S.rx)]
                  exact ps.trans pa
                · obtain ⟨z1, z2, z3⟩ := s7 w hw ⟨h1, h2, h3, h4, h5, h6⟩
                  rw [if_neg z2, if_neg z3, ← z1]
                  exact hP w hw
  · by_cases h1 : w = a
    · rw [h1, ha]
      exact W.er _ S.lr.neg
    · by_cases h2 : w = -a
      · rw [h2, hb]
        exact W.er _ S.lp.neg
      · rw [ho w h1 h2]
        exact W.er w hw
  · obtain ⟨w, hw, ew⟩ := W.ex v h0 h1
    by_cases h1 : w = x
    · exact ⟨r, S.lr, by rw [orr, ← n4, ← h1, ew]⟩
    · by_cases h2 : w = -x
      · exact ⟨p, S.lp, by rw [op, ← n1, ← h2, ew]⟩
      · exact ⟨w, hw, by rw [ho w (an w h1 h2).1 (an w h1 h2).2, ew]⟩
  · refine W.cn P hP1 (fun w hw pw => ?_) h1
    have c1 : P a → P q := fun h => X.ga ▸ hP2 a la h
    have c2 : P q → P r := fun h => X.gq ▸ hP2 q S.lq h
    have c3 : P r → P a := fun h => X.gr ▸ hP2 r S.lr h
    have c4 : P (-a) → P s := fun h => X.gb ▸ hP2 _ la.neg h
    have c5 : P s → P p := fun h => X.gs ▸ hP2 s S.ls h
    have c6 : P p → P (-a) := fun h => X.gp ▸ hP2 p S.lp h
    have c7 : P a → P (-a) := hP1 a la
    have c8 : P (-a) → P a := fun h => by
      have := hP1 _ la.neg h
      rwa [Int.neg_neg] at this
    have c9 : P a → P x := fun h => by rcases X.ax with e | e; exact e ▸ h; have := c7 h; rw [e, Int.neg_neg] at this; exact this
    have c10 : P a → P (-x) := fun h => hP1 x S.lx (c9 h)
    have c11 : P x → P a := fun h => by rcases X.ax with e | e; exact e ▸ h; have := hP1 x S.lx h; rw [← e] at this; exact this
    have c12 : P (-x) → P a := fun h => c11 (by have := hP1 _ S.lx.neg h; rwa [Int.neg_neg] at this)
    by_cases h1 : w = x
    · subst h1
      rw [S.ep]
      exact c5 (c4 (c7 (c11 pw)))
    · by_cases h2 : w = -x
      · subst h2
        rw [S.er]
        exact c2 (c1 (c12 pw))
      · by_cases h3 : w = p
        · subst h3
          rw [S.eq]
          exact c1 (c8 (c6 pw))
        · by_cases h4 : w = q
          · subst h4
            rw [S.ex]
            exact c9 (c3 (c2 pw))
          · by_cases h5 : w = r
            · subst h5
              rw [S.es]
              exact c4 (c7 (c3 pw))
            · by_cases h6 : w = s
              · subst h6
                rw [S.em]
                exact c10 (c8 (c6 (c5 pw)))
              · have := hP2 w hw pw
                rwa [X.go w h1 h2 h3 h4 h5 h6] at this
/-- flipped back -/
theorem Flp.back (X : Flp L f a x p q r s g) : (a = x → Flp L g (-a) x q r s p f) ∧ (a = -x → Flp L g (-a) x s p q r f) := by
  have S := X.six
  have G := X.gtr
  have h1 := X.ga
  have h2 := X.gb
  have g1 := X.gq
  have g2 := X.gr
  have g3 := X.gs
  have g4 := X.gp
  refine ⟨fun e => ?_, fun e => ?_⟩
  · subst e
    exact ⟨⟨G, S.lx, h1, g1, g2, h2, g3, g4⟩, .inr rfl, fun e => S.asr e.symm, fun e => S.aqp e.symm, S.er, S.es, S.em, by rw [Int.neg_neg]; exact S.ep, S.eq, by rw [Int.neg_neg]; exact S.ex,
      fun w w1 w2 w3 w4 w5 w6 => (X.go w w1 w2 w6 w3 w4 w5).symm⟩
  · have e' : -a = x := by omega
    rw [e'] at h2 g4
    rw [e] at h1 g2
    exact ⟨⟨G, S.lx, h2, g3, g4, h1, g1, g2⟩, .inl e', fun e => S.aqp e.symm, fun e => S.asr e.symm, by rw [e']; exact S.ep, S.eq, by rw [e']; exact S.ex, by rw [Int.neg_neg, e]; exact S.er, S.es, by rw [Int.neg_neg, e]; exact S.em,
      fun w w1 w2 w3 w4 w5 w6 => (X.go w w1 w2 w4 w5 w6 w3).symm⟩
end
end FtM
set_option maxHeartbeats 1000000
/-! counts on a triangulation; the step of a thread; threads under flips -/
namespace FtM
abbrev St := Int × Int
def In (L : Nat) (c : Int → Int) (s : St) : Prop := IsLn L s.1 ∧ 0 ≤ s.2 ∧ s.2 < c s.1
def arc (f c : Int → Int) (x : Int) : Int := (c x + c (f (f x)) - c (f x)) / 2
def stp (f c : Int → Int) (s : St) : St := if s.2 < arc f c s.1 then (-f (f s.1), s.2) else (-f s.1, s.2 + c (f s.1) - c s.1)
def rv (c : Int → Int) (s : St) : St := (-s.1, c s.1 - 1 - s.2)
structure Fit (L : Nat) (f c : Int → Int) : Prop where
  tr : Tr L f
  sy : ∀ x, c (-x) = c x
  nn : ∀ x, IsLn L x → 0 ≤ c x
  ev : ∀ x, IsLn L x → (c x + c (f x) + c (f (f x))) % 2 = 0
  le : ∀ x, IsLn L x → c x ≤ c (f x) + c (f (f x))
section
variable {L : Nat} {f c : Int → Int} {x : Int} {s t : St}
theorem Fit.arc (T : Fit L f c) (hx : IsLn L x) : 2 * arc f c x = c x + c (f (f x)) - c (f x) ∧ 0 ≤ arc f c x ∧ arc f c x ≤ c x := by
  have h1 := T.ev x hx
  have h2 := T.le (f x) (T.tr.ln x hx)
  rw [T.tr.f3 x hx] at h2
  have h3 := T.le (f (f x)) (T.tr.ln _ (T.tr.ln x hx))
  rw [T.tr.f3 x hx] at h3
  unfold FtM.arc
  omega
theorem stp_lt (h : s.2 < arc f c s.1) : stp f c s = (-f (f s.1), s.2) := if_pos h
theorem stp_ge (h : ¬ s.2 < arc f c s.1) : stp f c s = (-f s.1, s.2 + c (f s.1) - c s.1) := if_neg h
theorem Fit.stp_in (T : Fit L f c) (h : In L c s) : In L c (stp f c s) := by
  obtain ⟨h1, h2, h3⟩ := h
  have l1 := T.tr.ln _ h1
  have l2 := T.tr.ln _ l1
  obtain ⟨a1, a2, a3⟩ := T.arc h1
  by_cases hl : s.2 < FtM.arc f c s.1
  · rw [stp_lt hl]
    obtain ⟨b1, b2, b3⟩ := T.arc l2
    rw [T.tr.f3 _ h1] at b1
    refine ⟨l2.neg, h2, ?_⟩
    show s.2 < c (-f (f s.1))
    rw [T.sy]
    omega
  · rw [stp_ge hl]
    obtain ⟨b1, b2, b3⟩ := T.arc l1
    rw [T.tr.f3 _ h1] at b1
    refine ⟨l1.neg, ?_, ?_⟩
    · show 0 ≤ s.2 + c (f s.1) - c s.1
      have := T.nn _ l2
      omega
    · show s.2 + c (f s.1) - c s.1 < c (-f s.1)
      rw [T.sy]
      omega
theorem Fit.rv_in (T : Fit L f c) (h : In L c s) : In L c (rv c s) := by
  obtain ⟨h1, h2, h3⟩ := h
  refine ⟨h1.neg, ?_, ?_⟩
  · show 0 ≤ c s.1 - 1 - s.2
    omega
  · show c s.1 - 1 - s.2 < c (-s.1)
    rw [T.sy]
    omega
theorem rv_eq {k c : Int → Int} {s : St} (h : k s.1 = c s.1) : rv k s = rv c s := by
  unfold rv
  rw [h]
theorem Fit.rv_rv (T : Fit L f c) (s : St) : rv c (rv c s) = s := by
  unfold rv
  simp only
  rw [T.sy, Int.neg_neg]
  exact Prod.ext rfl (by show c s.1 - 1 - (c s.1 - 1 - s.2) = s.2; omega)
theorem Fit.stp_rv (T : Fit L f c) (h : In L c s) : stp f c (rv c (stp f c s)) = rv c s := by
  obtain ⟨h1, h2, h3⟩ := h
  have l1 := T.tr.ln _ h1
  have l2 := T.tr.ln _ l1
  obtain ⟨a1, a2, a3⟩ := T.arc h1
  by_cases hl : s.2 < FtM.arc f c s.1
  · obtain ⟨b1, b2, b3⟩ := T.arc l2
    have e1 : rv c (stp f c s) = (f (f s.1), c (f (f s.1)) - 1 - s.2) := by
      rw [stp_lt hl]
      unfold rv
      simp only
      rw [Int.neg_neg, T.sy]
    rw [e1, stp_ge]
    · simp only
      rw [T.tr.f3 _ h1]
      unfold rv
      exact Prod.ext rfl (by show c (f (f s.1)) - 1 - s.2 + c s.1 - c (f (f s.1)) = c s.1 - 1 - s.2; omega)
    · rw [T.tr.f3 _ h1] at b1
      show ¬ c (f (f s.1)) - 1 - s.2 < FtM.arc f c (f (f s.1))
      omega
  · obtain ⟨b1, b2, b3⟩ := T.arc l1
    have e1 : rv c (stp f c s) = (f s.1, c s.1 - 1 - s.2) := by
      rw [stp_ge hl]
      unfold rv
      simp only
      rw [Int.neg_neg, T.sy]
      exact Prod.ext rfl (by show c (f s.1) - 1 - (s.2 + c (f s.1) - c s.1) = c s.1 - 1 - s.2; omega)
    rw [e1, stp_lt]
    · simp only
      rw [T.tr.f3 _ h1]
      rfl
    · rw [T.tr.f3 _ h1] at b1
      show c s.1 - 1 - s.2 < FtM.arc f c (f s.1)
      omega
theorem Fit.stp_inj (T : Fit L f c) (hs : In L c s) (ht : In L c t) (h : stp f c s = stp f c t) : s = t := by
  have h1 := T.stp_rv hs
  rw [h, T.stp_rv ht] at h1
  rw [← T.rv_rv s, ← h1, T.rv_rv]
end
/-- all states hang together -/
structure Thr (L : Nat) (f c : Int → Int) : Prop where
  fit : Fit L f c
  some : ∃ s, In L c s
  one : ∀ P : St → Prop, (∀ s, In L c s → (P s ↔ P (stp f c s))) → (∀ s, In L c s → (P s ↔ P (rv c s))) → ∀ s t, In L c s → In L c t → P s → P t
/-! ### a flip -/
section
variable {L : Nat} {f g c k : Int → Int} {a x p q r s : Int}
theorem Flp.sym (X : Flp L f a x p q r s g) : Flp L f (-a) (-x) r s p q g := by
  have S := X.six
  exact ⟨⟨S.tr, S.lx.neg, S.er, S.es, S.em, by rw [Int.neg_neg]; exact S.ep, S.eq, by rw [Int.neg_neg]; exact S.ex⟩, by rcases X.ax with h | h <;> omega, X.asp, X.aqr, X.gb, X.gs, X.gp, by rw [Int.neg_neg]; exact X.ga, X.gq, by rw [Int.neg_neg]; exact X.gr,
    fun w h1 h2 h3 h4 h5 h6 => X.go w (by omega) h1 h5 h6 h3 h4⟩
/-- the counts behind a flip -/
structure Car (c k : Int → Int) (x p q r s : Int) : Prop where
  sy : ∀ w, k (-w) = k w
  kx : k x = max (c r + c p) (c s + c q) - c x
  ko : ∀ w, w ≠ x → w ≠ -x → k w = c w
theorem Car.sym (Y : Car c k x p q r s) (h : ∀ w, c (-w) = c w) : Car c k (-x) r s p q :=
  ⟨Y.sy, by rw [Y.sy, Y.kx, h, Int.add_comm (c r), Int.add_comm (c s)], fun w h1 h2 => Y.ko w (by omega) h1⟩
variable (X : Flp L f a x p q r s g) (Y : Car c k x p q r s) (T : Fit L f c)
include X Y T
theorem Flp.ka : k a = max (c r + c p) (c s + c q) - c x ∧ k (-a) = max (c r + c p) (c s + c q) - c x := by
  have := Y.kx
  rcases X.ax with h | h
  · rw [h, Y.sy]; exact ⟨this, this⟩
  · rw [h, Y.sy, Int.neg_neg]; exact ⟨this, this⟩
theorem Flp.nums : k p = c p ∧ k q = c q ∧ k r = c r ∧ k s = c s ∧ (c x + c p + c q) % 2 = 0 ∧ (c x + c r + c s) % 2 = 0 ∧ c x ≤ c p + c q ∧ c p ≤ c q + c x ∧ c q ≤ c x + c p ∧ c x ≤ c r + c s ∧ c r ≤ c s + c x ∧ c s ≤ c x + c r := by
  have S := X.six
  have e1 := T.ev x S.lx
  have e2 := T.ev _ S.lx.neg
  have l1 := T.le x S.lx
  have l2 := T.le p S.lp
  have l3 := T.le q S.lq
  have l4 := T.le _ S.lx.neg
  have l5 := T.le r S.lr
  have l6 := T.le s S.ls
  rw [S.ep, S.eq] at e1 l1
  rw [S.er, S.es, T.sy] at e2 l4
  rw [S.eq, S.ex] at l2
  rw [S.ex, S.ep] at l3
  rw [S.es, S.em, T.sy] at l5
  rw [S.em, S.er, T.sy] at l6
  exact ⟨Y.ko p S.px S.pm, Y.ko q S.qx S.qm, Y.ko r S.rx S.rm, Y.ko s S.sx S.sm, e1, e2, l1, l2, l3, l4, l5, l6⟩
theorem Flp.fit : Fit L g k := by
  have S := X.six
  obtain ⟨kp, kq, kr, ks, e1, e2, l1, l2, l3, l4, l5, l6⟩ := X.nums Y T
  obtain ⟨ka, kb⟩ := X.ka Y T
  have n1 := T.nn p S.lp
  have n2 := T.nn q S.lq
  have n3 := T.nn r S.lr
  have n4 := T.nn s S.ls
  have n5 := T.nn x S.lx
  have m := Int.max_def (c r + c p) (c s + c q)
  refine ⟨X.gtr, Y.sy, fun w hw => ?_, fun w hw => ?_, fun w hw => ?_⟩
  · rcases X.cases w with h | h | h | h | h | h | h
    · rw [h, ka]; split at m <;> omega
    · rw [h, kq]; exact n2
    · rw [h, kr]; exact n3
    · rw [h, kb]; split at m <;> omega
    · rw [h, ks]; exact n4
    · rw [h, kp]; exact n1
    · rw [Y.ko w h.1 h.2.1]; exact T.nn w hw
  · rcases X.cases w with h | h | h | h | h | h | h
    · rw [h, X.ga, X.gq, ka, kq, kr]; split at m <;> omega
    · rw [h, X.gq, X.gr, ka, kq, kr]; split at m <;> omega
    · rw [h, X.gr, X.ga, ka, kq, kr]; split at m <;> omega
    · rw [h, X.gb, X.gs, kb, ks, kp]; split at m <;> omega
    · rw [h, X.gs, X.gp, kb, ks, kp]; split at m <;> omega
    · rw [h, X.gp, X.gb, kb, ks, kp]; split at m <;> omega
    · obtain ⟨h1, h2, h3, h4, h5, h6⟩ := id h
      obtain ⟨k1, k2, k3, k4, k5, k6⟩ := X.out hw h
      obtain ⟨m1, m2, _⟩ := X.out (T.tr.ln w hw) ⟨k1, k2, k3, k4, k5, k6⟩
      rw [X.go w h1 h2 h3 h4 h5 h6, X.go _ k1 k2 k3 k4 k5 k6, Y.ko w h1 h2, Y.ko _ k1 k2, Y.ko _ m1 m2]
      exact T.ev w hw
  · rcases X.cases w with h | h | h | h | h | h | h
    · rw [h, X.ga, X.gq, ka, kq, kr]; split at m <;> omega
    · rw [h, X.gq, X.gr, ka, kq, kr]; split at m <;> omega
    · rw [h, X.gr, X.ga, ka, kq, kr]; split at m <;> omega
    · rw [h, X.gb, X.gs, kb, ks, kp]; split at m <;> omega
    · rw [h, X.gs, X.gp, kb, ks, kp]; split at m <;> omega
    · rw [h, X.gp, X.gb, kb, ks, kp]; split at m <;> omega
    · obtain ⟨h1, h2, h3, h4, h5, h6⟩ := id h
      obtain ⟨k1, k2, k3, k4, k5, k6⟩ := X.out hw h
      obtain ⟨m1, m2, _⟩ := X.out (T.tr.ln w hw) ⟨k1, k2, k3, k4, k5, k6⟩
      rw [X.go w h1 h2 h3 h4 h5 h6, X.go _ k1 k2 k3 k4 k5 k6, Y.ko w h1 h2, Y.ko _ k1 k2, Y.ko _ m1 m2]
      exact T.le w hw
end
/-- the first state off the line x: v is the return of u -/
def Ret (f c : Int → Int) (x : Int) (u v : St) : Prop := ((stp f c u).1 ≠ x ∧ (stp f c u).1 ≠ -x ∧ stp f c u = v) ∨ (((stp f c u).1 = x ∨ (stp f c u).1 = -x) ∧ stp f c (stp f c u) = v)
section
variable {L : Nat} {f g c k : Int → Int} {a x p q r s : Int}
theorem stp_eq {f c : Int → Int} {u y z i cu cy cz A : Int} (e1 : f u = y) (e2 : f y = z) (h1 : c u = cu) (h2 : c y = cy) (h3 : c z = cz) (hA : 2 * A = cu + cz - cy) : stp f c (u, i) = if i < A then (-z, i) else (-y, i + cy - cu) := by
  unfold stp arc
  simp only [e1, e2, h1, h2, h3]
  rw [show (cu + cz - cy) / 2 = A by omega]
/-- p's and q's returns -/
theorem ret_p (X : Flp L f a x p q r s g) (Y : Car c k x p q r s) (T : Fit L f c) (i : Int) : ∃ v, Ret f c x (p, i) v ∧ Ret g k x (p, i) v := by
  have S := X.six
  obtain ⟨kp, kq, kr, ks, e1, e2, l1, l2, l3, l4, l5, l6⟩ := X.nums Y T
  obtain ⟨ka, kb⟩ := X.ka Y T
  have cm : c (-x) = c x := T.sy x
  have m := Int.max_def (c r + c p) (c s + c q)
  have nqx : -q ≠ x := fun e => S.qm (by rw [← e, Int.neg_neg])
  have nqm : -q ≠ -x := fun e => S.qx (Int.neg_inj.mp e)
  have nsx : -s ≠ x := fun e => S.sm (by rw [← e, Int.neg_neg])
  have nsm : -s ≠ -x := fun e => S.sx (Int.neg_inj.mp e)
  have aox : a = x ∨ a = -x := X.ax
  obtain ⟨A1, hA1⟩ : ∃ A, 2 * A = c p + c x - c q := ⟨(c p + c x - c q) / 2, by omega⟩
  obtain ⟨A2, hA2⟩ : ∃ A, 2 * A = c x + c s - c r := ⟨(c x + c s - c r) / 2, by omega⟩
  obtain ⟨B1, hB1⟩ : ∃ A, 2 * A = c p + c s - k a := ⟨(c p + c s - k a) / 2, by rw [ka]; split at m <;> omega⟩
  obtain ⟨B2, hB2⟩ : ∃ A, 2 * A = k a + c r - c q := ⟨(k a + c r - c q) / 2, by rw [ka]; split at m <;> omega⟩
  have f1 : stp f c (p, i) = if i < A1 then (-x, i) else (-q, i + c q - c p) := stp_eq S.eq S.ex rfl rfl rfl hA1
  have f2 : ∀ j, stp f c (-x, j) = if j < A2 then (-s, j) else (-r, j + c r - c x) := fun j => stp_eq S.er S.es cm rfl rfl hA2
  have kba : k (-a) = k a := Y.sy a
  have g1 : stp g k (p, i) = if i < B1 then (-s, i) else (- -a, i + k a - c p) := stp_eq X.gp X.gb kp kba ks hB1
  have g2 : ∀ j, stp g k (a, j) = if j < B2 then (-r, j) else (-q, j + c q - k a) := fun j => stp_eq X.ga X.gq rfl kq kr hB2
  rw [Int.neg_neg] at g1
  unfold Ret
  rw [f1, g1]
  by_cases c1 : i < A1
  · rw [if_pos c1]
    by_cases c2 : i < A2
    · rw [if_pos (show i < B1 by rw [ka] at hB1; split at m <;> omega)]
      exact ⟨(-s, i), .inr ⟨.inr rfl, by rw [f2, if_pos c2]⟩, .inl ⟨nsx, nsm, rfl⟩⟩
    · rw [if_neg (show ¬ i < B1 by rw [ka] at hB1; split at m <;> omega)]
      refine ⟨(-r, i + c r - c x), .inr ⟨.inr rfl, by rw [f2, if_neg c2]⟩, .inr ⟨aox, ?_⟩⟩
      rw [g2, if_pos (show i + k a - c p < B2 by rw [ka] at hB2 ⊢; split at m <;> omega)]
      exact Prod.ext rfl (by show i + k a - c p = i + c r - c x; rw [ka]; split at m <;> omega)
  · rw [if_neg c1, if_neg (show ¬ i < B1 by rw [ka] at hB1; split at m <;> omega)]
    refine ⟨(-q, i + c q - c p), .inl ⟨nqx, nqm, rfl⟩, .inr ⟨aox, ?_⟩⟩
    rw [g2, if_neg (show ¬ i + k a - c p < B2 by rw [ka] at hB2 ⊢; split at m <;> omega)]
    exact Prod.ext rfl (by show i + k a - c p + c q - k a = i + c q - c p; omega)
theorem ret_q (X : Flp L f a x p q r s g) (Y : Car c k x p q r s) (T : Fit L f c) (i : Int) : ∃ v, Ret f c x (q, i) v ∧ Ret g k x (q, i) v := by
  have S := X.six
  obtain ⟨kp, kq, kr, ks, e1, e2, l1, l2, l3, l4, l5, l6⟩ := X.nums Y T
  obtain ⟨ka, kb⟩ := X.ka Y T
  have cm : c (-x) = c x := T.sy x
  have m := Int.max_def (c r + c p) (c s + c q)
  have npx : -p ≠ x := fun e => S.pm (by rw [← e, Int.neg_neg])
  have npm : -p ≠ -x := fun e => S.px (Int.neg_inj.mp e)
  have nrx : -r ≠ x := fun e => S.rm (by rw [← e, Int.neg_neg])
  have nrm : -r ≠ -x := fun e => S.rx (Int.neg_inj.mp e)
  have aox : -a = x ∨ -a = -x := by rcases X.ax with h | h <;> omega
  obtain ⟨A1, hA1⟩ : ∃ A, 2 * A = c q + c p - c x := ⟨(c q + c p - c x) / 2, by omega⟩
  obtain ⟨A2, hA2⟩ : ∃ A, 2 * A = c x + c s - c r := ⟨(c x + c s - c r) / 2, by omega⟩
  obtain ⟨B1, hB1⟩ : ∃ A, 2 * A = c q + k a - c r := ⟨(c q + k a - c r) / 2, by rw [ka]; split at m <;> omega⟩
  obtain ⟨B2, hB2⟩ : ∃ A, 2 * A = k a + c p - c s := ⟨(k a + c p - c s) / 2, by rw [ka]; split at m <;> omega⟩
  have f1 : stp f c (q, i) = if i < A1 then (-p, i) else (-x, i + c x - c q) := stp_eq S.ex S.ep rfl rfl rfl hA1
  have f2 : ∀ j, stp f c (-x, j) = if j < A2 then (-s, j) else (-r, j + c r - c x) := fun j => stp_eq S.er S.es cm rfl rfl hA2
  have kba : k (-a) = k a := Y.sy a
  have g1 : stp g k (q, i) = if i < B1 then (-a, i) else (-r, i + c r - c q) := stp_eq X.gq X.gr kq kr rfl hB1
  have g2 : ∀ j, stp g k (-a, j) = if j < B2 then (-p, j) else (-s, j + c s - k a) := fun j => stp_eq X.gb X.gs kba ks kp hB2
  unfold Ret
  rw [f1, g1]
  by_cases c1 : i < A1
  · rw [if_pos c1, if_pos (show i < B1 by rw [ka] at hB1; split at m <;> omega)]
    refine ⟨(-p, i), .inl ⟨npx, npm, rfl⟩, .inr ⟨aox, ?_⟩⟩
    rw [g2, if_pos (show i < B2 by rw [ka] at hB2; split at m <;> omega)]
  · rw [if_neg c1]
    by_cases c2 : i + c x - c q < A2
    · rw [if_pos (show i < B1 by rw [ka] at hB1; split at m <;> omega)]
      refine ⟨(-s, i + c x - c q), .inr ⟨.inr rfl, by rw [f2, if_pos c2]⟩, .inr ⟨aox, ?_⟩⟩
      rw [g2, if_neg (show ¬ i < B2 by rw [ka] at hB2; split at m <;> omega)]
      exact Prod.ext rfl (by show i + c s - k a = i + c x - c q; rw [ka]; split at m <;> omega)
    · rw [if_neg (show ¬ i < B1 by rw [ka] at hB1; split at m <;> omega)]
      refine ⟨(-r, i + c r - c q), .inr ⟨.inr rfl, ?_⟩, .inl ⟨nrx, nrm, rfl⟩⟩
      rw [f2, if_neg c2]
      exact Prod.ext rfl (by show i + c x - c q + c r - c x = i + c r - c q; omega)
theorem Ret.neg {u v : St} (h : Ret f c (-x) u v) : Ret f c x u v := by
  unfold Ret at h ⊢
  rw [Int.neg_neg] at h
  rcases h with ⟨h1, h2, h3⟩ | ⟨h1, h2⟩
  · exact .inl ⟨h2, h1, h3⟩
  · exact .inr ⟨h1.symm, h2⟩
theorem ret_all (X : Flp L f a x p q r s g) (Y : Car c k x p q r s) (T : Fit L f c) {u : St} (hu : IsLn L u.1) (h1 : u.1 ≠ x) (h2 : u.1 ≠ -x) : ∃ v, Ret f c x u v ∧ Ret g k x u v := by
  obtain ⟨w, i⟩ := u
  have S := X.six
  rcases X.cases w with h | h | h | h | h | h | h
  · exact absurd h (X.off h1 h2).1
  · rw [h]
    exact ret_q X Y T i
  · rw [h]
    obtain ⟨v, r1, r2⟩ := ret_p X.sym (Y.sym T.sy) T i
    exact ⟨v, r1.neg, r2.neg⟩
  · exact absurd h (X.off h1 h2).2
  · rw [h]
    obtain ⟨v, r1, r2⟩ := ret_q X.sym (Y.sym T.sy) T i
    exact ⟨v, r1.neg, r2.neg⟩
  · rw [h]
    exact ret_p X Y T i
  · obtain ⟨h1, h2, h3, h4, h5, h6⟩ := id h
    obtain ⟨k1, k2, k3, k4, k5, k6⟩ := X.out hu h
    obtain ⟨m1, m2, _⟩ := X.out (T.tr.ln w hu) ⟨k1, k2, k3, k4, k5, k6⟩
    have e : stp g k (w, i) = stp f c (w, i) := by
      unfold stp arc
      simp only [X.go w h1 h2 h3 h4 h5 h6, X.go _ k1 k2 k3 k4 k5 k6, Y.ko w h1 h2, Y.ko _ k1 k2, Y.ko _ m1 m2]
    have hl : (stp f c (w, i)).1 ≠ x ∧ (stp f c (w, i)).1 ≠ -x := by
      unfold stp
      simp only
      split
      · exact ⟨fun e => m2 (by rw [← e, Int.neg_neg]), fun e => m1 (Int.neg_inj.mp e)⟩
      · exact ⟨fun e => k2 (by rw [← e, Int.neg_neg]), fun e => k1 (Int.neg_inj.mp e)⟩
    exact ⟨_, .inl ⟨hl.1, hl.2, rfl⟩, .inl ⟨by rw [e]; exact hl.1, by rw [e]; exact hl.2, e⟩⟩
/-- a state on the line leaves it at once -/
theorem off_line (X : Flp L f a x p q r s g) {u : St} (h : u.1 = x ∨ u.1 = -x) : (stp f c u).1 ≠ x ∧ (stp f c u).1 ≠ -x := by
  have S := X.six
  have np : ∀ {w : Int}, w ≠ x → w ≠ -x → -w ≠ x ∧ -w ≠ -x := fun h1 h2 => ⟨fun e => h2 (by rw [← e, Int.neg_neg]), fun e => h1 (Int.neg_inj.mp e)⟩
  unfold stp
  rcases h with h | h
  · rw [h, S.ep, S.eq]
    split
    · exact np S.qx S.qm
    · exact np S.px S.pm
  · rw [h, S.er, S.es]
    split
    · exact np S.sx S.sm
    · exact np S.rx S.rm
theorem off_line' (X : Flp L f a x p q r s g) {u : St} (h : u.1 = x ∨ u.1 = -x) : (stp g k u).1 ≠ x ∧ (stp g k u).1 ≠ -x := by
  rcases X.ax with e | e
  · exact (off_line ((X.back).1 e) h)
  · exact (off_line ((X.back).2 e) h)
theorem Flp.thr (X : Flp L f a x p q r s g) (Y : Car c k x p q r s) (T : Thr L f c) : Thr L g k := by
  have S := X.six
  have Ft := T.fit
  have G := X.fit Y Ft
  have inn : ∀ {u : St}, u.1 ≠ x → u.1 ≠ -x → (In L k u ↔ In L c u) := fun {u} h1 h2 => by unfold In; rw [Y.ko u.1 h1 h2]
  have on : ∀ u : St, (u.1 = x ∨ u.1 = -x) ∨ (u.1 ≠ x ∧ u.1 ≠ -x) := fun u => by
    by_cases h1 : u.1 = x
    · exact .inl (.inl h1)
    · by_cases h2 : u.1 = -x
      · exact .inl (.inr h2)
      · exact .inr ⟨h1, h2⟩
  have off : ∀ u, In L k u → ∃ v, In L c v ∧ v.1 ≠ x ∧ v.1 ≠ -x ∧ (v = u ∨ v = stp g k u) := fun u hu => by
    rcases on u with h | h
    · obtain ⟨h1, h2⟩ := off_line' (k := k) X h
      exact ⟨_, (inn h1 h2).mp (G.stp_in hu), h1, h2, .inr rfl⟩
    · exact ⟨u, (inn h.1 h.2).mp hu, h.1, h.2, .inl rfl⟩
  refine ⟨G, ?_, fun P hs hr => ?_⟩
  · obtain ⟨u, hu⟩ := T.some
    rcases on u with h | h
    · obtain ⟨h1, h2⟩ := off_line (c := c) X h
      exact ⟨_, (inn h1 h2).mpr (Ft.stp_in hu)⟩
    · exact ⟨u, (inn h.1 h.2).mpr hu⟩
  · have ret : ∀ u v, In L c u → u.1 ≠ x → u.1 ≠ -x → Ret f c x u v → (P u ↔ P v) := fun u v hu h1 h2 hv => by
      obtain ⟨v', r1, r2⟩ := ret_all X Y Ft hu.1 h1 h2
      have e : v' = v := by
        rcases hv with ⟨a1, a2, a3⟩ | ⟨a1, a2⟩ <;> rcases r1 with ⟨b1, b2, b3⟩ | ⟨b1, b2⟩
        · exact b3.symm.trans a3
        · rcases b1 with b1 | b1
          · exact absurd b1 a1
          · exact absurd b1 a2
        · rcases a1 with a1 | a1
          · exact absurd a1 b1
          · exact absurd a1 b2
        · exact b2.symm.trans a2
      subst e
      have hk := (inn h1 h2).mpr hu
      rcases r2 with ⟨b1, b2, b3⟩ | ⟨b1, b2⟩
      · rw [← b3]
        exact hs u hk
      · rw [← b2]
        exact (hs u hk).trans (hs _ (G.stp_in hk))
    have key := T.one (fun u => if u.1 = x ∨ u.1 = -x then P (stp f c u) else P u) (fun u hu => ?_) (fun u hu => ?_)
    · intro u v hu hv pu
      obtain ⟨u', iu, u1, u2, eu⟩ := off u hu
      obtain ⟨v', iv, v1, v2, ev⟩ := off v hv
      have ku : P u ↔ P u' := by
        rcases eu with e | e
        · rw [e]
        · rw [e]; exact hs u hu
      have kv : P v ↔ P v' := by
        rcases ev with e | e
        · rw [e]
        · rw [e]; exact hs v hv
      have := key u' v' iu iv
      rw [if_neg (fun h => h.elim u1 u2), if_neg (fun h => h.elim v1 v2)] at this
      exact kv.mpr (this (ku.mp pu))
    · rcases on u with h | h
      · obtain ⟨h1, h2⟩ := off_line (c := c) X h
        rw [if_pos h, if_neg (fun h => h.elim h1 h2)]
      · rw [if_neg (fun z => z.elim h.1 h.2)]
        rcases on (stp f c u) with h' | h'
        · rw [if_pos h']
          exact ret u _ hu h.1 h.2 (.inr ⟨h', rfl⟩)
        · rw [if_neg (fun z => z.elim h'.1 h'.2)]
          exact ret u _ hu h.1 h.2 (.inl ⟨h'.1, h'.2, rfl⟩)
    · rcases on u with h | h
      · have hr' : (rv c u).1 = x ∨ (rv c u).1 = -x := by
          show -u.1 = x ∨ -u.1 = -x
          rcases h with h | h
          · exact .inr (by rw [h])
          · exact .inl (by rw [h, Int.neg_neg])
        rw [if_pos h, if_pos hr']
        have hru := Ft.rv_in hu
        obtain ⟨h1, h2⟩ := off_line (c := c) X hr'
        have ht := Ft.stp_in hru
        have ht' := Ft.rv_in ht
        have t1 : (rv c (stp f c (rv c u))).1 ≠ x := fun e => h2 (by have e' : -(stp f c (rv c u)).1 = x := e; rw [← e', Int.neg_neg])
        have t2 : (rv c (stp f c (rv c u))).1 ≠ -x := fun e => h1 (Int.neg_inj.mp (show -(stp f c (rv c u)).1 = -x from e))
        have e1 : stp f c (rv c (stp f c (rv c u))) = u := (Ft.stp_rv hru).trans (Ft.rv_rv u)
        have k1 := ret _ (stp f c u) ht' t1 t2 (.inr ⟨by rw [e1]; exact h, by rw [e1]⟩)
        have k2 := hr _ ((inn h1 h2).mpr ht)
        have e2 : rv k (stp f c (rv c u)) = rv c (stp f c (rv c u)) := rv_eq (Y.ko _ h1 h2)
        rw [e2] at k2
        exact k1.symm.trans k2.symm
      · have hr' : ¬ ((rv c u).1 = x ∨ (rv c u).1 = -x) := by
          show ¬ (-u.1 = x ∨ -u.1 = -x)
          rintro (e | e)
          · exact h.2 (by rw [← e, Int.neg_neg])
          · exact h.1 (Int.neg_inj.mp e)
        rw [if_neg (fun z => z.elim h.1 h.2), if_neg hr']
        have := hr u ((inn h.1 h.2).mpr hu)
        have e2 : rv k u = rv c u := rv_eq (Y.ko _ h.1 h.2)
        rwa [e2] at this
end
end FtM
/-! orbits; the counts of one orbit are a thread -/
namespace FtM
section
variable {α : Type} {s : α → α} {x : α}
theorem it_succ (s : α → α) : ∀ (m : Nat) (x : α), it s (m + 1) x = it s m (s x)
  | 0, _ => rfl
  | m + 1, x => congrArg s (it_succ s m x)
theorem it_add (s : α → α) (x : α) (m : Nat) : ∀ k : Nat, it s (m + k) x = it s k (it s m x)
  | 0 => rfl
  | k + 1 => congrArg s (it_add s x m k)
theorem orb_succ (s : α → α) (x : α) (n : Nat) : orb s x (n + 1) = orb s x n ++ [it s n x] := by
  unfold orb
  rw [List.range_succ, List.map_append]
  rfl
theorem orb_len (s : α → α) (x : α) (n : Nat) : (orb s x n).length = n := by
  unfold orb
  rw [List.length_map, List.length_range]
theorem mem_orb {n : Nat} {y : α} : y ∈ orb s x n ↔ ∃ i, i < n ∧ it s i x = y := by
  unfold orb
  simp only [List.mem_map, List.mem_range]
theorem exists_min {P : Nat → Prop} (h : ∃ n, P n) : ∃ n, P n ∧ ∀ m, m < n → ¬ P m := by
  obtain ⟨n, hn⟩ := h
  induction n using Nat.strongRecOn with
  | ind n ih =>
    by_cases h : ∃ m, m < n ∧ P m
    · obtain ⟨m, h1, h2⟩ := h
      exact ih m h1 h2
    · exact ⟨n, hn, fun m h1 h2 => h ⟨m, h1, h2⟩⟩
theorem it_mem {X : List α} (hc : ∀ y ∈ X, s y ∈ X) (hx : x ∈ X) : ∀ i, it s i x ∈ X
  | 0 => hx
  | i + 1 => hc _ (it_mem hc hx i)
theorem it_cancel {X : List α} (hc : ∀ y ∈ X, s y ∈ X) (hi : ∀ y ∈ X, ∀ z ∈ X, s y = s z → y = z) (hx : x ∈ X) : ∀ (i k : Nat), it s i x = it s (i + k) x → it s k x = x
  | 0, k, h => by rw [Nat.zero_add] at h; exact h.symm
  | i + 1, k, h => it_cancel hc hi hx i k (hi _ (it_mem hc hx i) _ (it_mem hc hx (i + k)) (by rw [show i + 1 + k = (i + k) + 1 by omega] at h; exact h))
/-- the least period -/
structure Per (s : α → α) (x : α) (n : Nat) : Prop where
  pos : 0 < n
  end_ : it s n x = x
  min : ∀ i, 0 < i → i < n → it s i x ≠ x
theorem period [DecidableEq α] {X : List α} (hc : ∀ y ∈ X, s y ∈ X) (hi : ∀ y ∈ X, ∀ z ∈ X, s y = s z → y = z) (hx : x ∈ X) : ∃ n, Per s x n ∧ n ≤ X.length := by
  have hex : ∃ n, 0 < n ∧ n ≤ X.length ∧ it s n x = x := by
    refine Classical.byContradiction fun hno => ?_
    have hnd : (orb s x (X.length + 1)).Nodup := by
      unfold orb
      rw [List.nodup_iff_pairwise_ne, List.pairwise_map]
      refine List.Pairwise.imp_of_mem ?_ (List.pairwise_lt_range (n := X.length + 1))
      intro a b ha hb hab e
      have ha' := List.mem_range.mp ha
      have hb' := List.mem_range.mp hb
      refine hno ⟨b - a, by omega, by omega, ?_⟩
      exact it_cancel hc hi hx a (b - a) (by rw [show a + (b - a) = b by omega]; exact e)
    have := List.Nodup.length_le_of_subset hnd (l₂ := X) fun y hy => by
      obtain ⟨i, _, e⟩ := mem_orb.mp hy
      exact e ▸ it_mem hc hx i
    rw [orb_len] at this
    omega
  obtain ⟨n, ⟨h1, h2, h3⟩, h4⟩ := exists_min hex
  exact ⟨n, ⟨h1, h3, fun i hi1 hi2 e => h4 i hi2 ⟨hi1, by omega, e⟩⟩, h2⟩
theorem Per.nodup {X : List α} {n : Nat} (hc : ∀ y ∈ X, s y ∈ X) (hi : ∀ y ∈ X, ∀ z ∈ X, s y = s z → y = z) (hx : x ∈ X) (P : Per s x n) : (orb s x n).Nodup := by
  unfold orb
  rw [List.nodup_iff_pairwise_ne, List.pairwise_map]
  refine List.Pairwise.imp_of_mem ?_ (List.pairwise_lt_range (n := n))
  intro a b ha hb hab e
  have ha' := List.mem_range.mp ha
  have hb' := List.mem_range.mp hb
  exact P.min (b - a) (by omega) (by omega) (it_cancel hc hi hx a (b - a) (by rw [show a + (b - a) = b by omega]; exact e))
theorem Per.next {n : Nat} (P : Per s x n) {y : α} (h : y ∈ orb s x n) : s y ∈ orb s x n := by
  obtain ⟨i, h1, rfl⟩ := mem_orb.mp h
  by_cases e : i + 1 < n
  · exact mem_orb.mpr ⟨i + 1, e, rfl⟩
  · have : i + 1 = n := by omega
    refine mem_orb.mpr ⟨0, P.pos, ?_⟩
    have h2 := P.end_
    rw [← this] at h2
    exact h2.symm
theorem Per.prev {n : Nat} (P : Per s x n) {y : α} (h : y ∈ orb s x n) : ∃ z ∈ orb s x n, s z = y := by
  obtain ⟨i, h1, rfl⟩ := mem_orb.mp h
  cases i with
  | zero =>
    refine ⟨it s (n - 1) x, mem_orb.mpr ⟨n - 1, by have := P.pos; omega, rfl⟩, ?_⟩
    have := P.pos
    have h2 := P.end_
    rw [show n = (n - 1) + 1 by omega] at h2
    exact h2
  | succ i => exact ⟨it s i x, mem_orb.mpr ⟨i, by omega, rfl⟩, rfl⟩
theorem Per.self {n : Nat} (P : Per s x n) : x ∈ orb s x n := mem_orb.mpr ⟨0, P.pos, rfl⟩
end
/-! ### counting -/
def cntR (n : Nat) (P : Nat → Bool) : Nat := (List.range n).countP P
theorem cntR_succ (n : Nat) (P : Nat → Bool) : cntR (n + 1) P = cntR n P + if P n = true then 1 else 0 := by
  unfold cntR
  rw [List.range_succ, List.countP_append]
  congr 1
  simp [List.countP_cons]
theorem cntR_congr {n : Nat} {P Q : Nat → Bool} (h : ∀ i, i < n → P i = Q i) : cntR n P = cntR n Q := by
  induction n with
  | zero => rfl
  | succ n ih => rw [cntR_succ, cntR_succ, ih fun i hi => h i (by omega), h n (by omega)]
theorem cntR_add (a k : Nat) (P : Nat → Bool) : cntR (a + k) P = cntR a P + cntR k fun i => P (a + i) := by
  induction k with
  | zero => simp [cntR]
  | succ k ih => rw [← Nat.add_assoc, cntR_succ, ih, cntR_succ, Nat.add_assoc]
theorem cntR_rev (n : Nat) (P : Nat → Bool) : (cntR n fun i => P (n - 1 - i)) = cntR n P := by
  induction n with
  | zero => rfl
  | succ n ih =>
    have e1 : (cntR (n + 1) fun i => P (n + 1 - 1 - i)) = cntR (1 + n) fun i => P (n - i) := by rw [Nat.add_comm 1 n]; rfl
    rw [e1, cntR_add, cntR_succ (P := P)]
    have e2 : (cntR n fun i => P (n - (1 + i))) = cntR n P := by
      rw [← ih]
      exact cntR_congr fun i hi => by rw [show n - (1 + i) = n - 1 - i by omega]
    rw [e2]
    have e3 : (cntR 1 fun i => P (n - i)) = if P n = true then 1 else 0 := by
      rw [show (1 : Nat) = 0 + 1 from rfl, cntR_succ]
      simp [cntR]
    rw [e3, Nat.add_comm]
theorem cntR_le (n : Nat) (P : Nat → Bool) : cntR n P ≤ n := by
  have := List.countP_le_length (p := P) (l := List.range n)
  rw [List.length_range] at this
  exact this
theorem cntR_all {n : Nat} {P : Nat → Bool} (h : ∀ i, i < n → P i = true) : cntR n P = n := by
  induction n with
  | zero => rfl
  | succ n ih => rw [cntR_succ, ih fun i hi => h i (by omega), if_pos (h n (by omega))]
theorem cntR_mono {a b : Nat} (h : a ≤ b) (P : Nat → Bool) : cntR a P ≤ cntR b P := by
  obtain ⟨k, rfl⟩ := Nat.exists_eq_add_of_le h
  rw [cntR_add]
  omega
theorem cntR_lt {a b : Nat} (h : a < b) {P : Nat → Bool} (hp : P a = true) : cntR a P < cntR b P := by
  have := cntR_mono (show a + 1 ≤ b from h) P
  rw [cntR_succ, if_pos hp] at this
  omega
theorem cntR_find {P : Nat → Bool} : ∀ {n r : Nat}, r < cntR n P → ∃ p, p < n ∧ P p = true ∧ cntR p P = r
  | 0, r, h => absurd h (by simp [cntR])
  | n + 1, r, h => by
    rw [cntR_succ] at h
    by_cases h1 : r < cntR n P
    · obtain ⟨p, a, b, c⟩ := cntR_find h1
      exact ⟨p, by omega, b, c⟩
    · by_cases h2 : P n = true
      · rw [if_pos h2] at h
        exact ⟨n, by omega, h2, by omega⟩
      · rw [if_neg h2] at h
        omega
/-! ### a part that is closed -/
section
variable {L : Nat} {f c : Int → Int}
/-- the states of a part on a line, its size, the place within it -/
def sz (c : Int → Int) (U : St → Bool) (x : Int) : Int := (cntR (c x).toNat fun p => U (x, p) : Nat)
def rk (U : St → Bool) (s : St) : St := (s.1, (cntR s.2.toNat fun p => U (s.1, p) : Nat))
structure Clo (L : Nat) (f c : Int → Int) (U : St → Bool) : Prop where
  fit : Fit L f c
  st : ∀ s, In L c s → U s = U (stp f c s)
  re : ∀ s, In L c s → U s = U (rv c s)
variable {U : St → Bool}
def low (f c : Int → Int) (U : St → Bool) (x : Int) : Nat := cntR (arc f c x).toNat fun p => U (x, p)
theorem Clo.sz_neg (K : Clo L f c U) {x : Int} (hx : IsLn L x) : sz c U (-x) = sz c U x := by
  have T := K.fit
  have hn := T.nn x hx
  unfold sz
  rw [T.sy]
  congr 1
  rw [← cntR_rev]
  refine cntR_congr fun i hi => ?_
  have hin : In L c (x, ((i : Nat) : Int)) := ⟨hx, by show (0 : Int) ≤ (i : Int); omega, by show (i : Int) < c x; omega⟩
  rw [K.re _ hin]
  congr 1
  unfold rv
  exact Prod.ext rfl (by show (((c x).toNat - 1 - i : Nat) : Int) = c x - 1 - (i : Int); omega)
theorem Clo.high_eq (K : Clo L f c U) {x : Int} (hx : IsLn L x) : (cntR (arc f c (f x)).toNat fun j => U (x, (((arc f c x).toNat + j : Nat) : Int))) = low f c U (f x) := by
  have T := K.fit
  obtain ⟨a1, a2, a3⟩ := T.arc hx
  obtain ⟨b1, b2, b3⟩ := T.arc (T.tr.ln x hx)
  rw [T.tr.f3 x hx] at b1
  unfold low
  rw [← cntR_rev (arc f c (f x)).toNat]
  refine cntR_congr fun i hi => ?_
  have hin : In L c (x, (((arc f c x).toNat + ((arc f c (f x)).toNat - 1 - i) : Nat) : Int)) := ⟨hx, by show (0 : Int) ≤ ((_ : Nat) : Int); omega, by show ((_ : Nat) : Int) < c x; omega⟩
  rw [K.st _ hin, K.re _ (T.stp_in hin), stp_ge (by show ¬ ((_ : Nat) : Int) < FtM.arc f c x; omega)]
  congr 1
  unfold rv
  simp only
  rw [Int.neg_neg, T.sy]
  exact Prod.ext rfl (by show c (f x) - 1 - (_ + c (f x) - c x) = ((i : Nat) : Int); omega)
theorem Clo.high (K : Clo L f c U) {x : Int} (hx : IsLn L x) : sz c U x = (low f c U x : Int) + low f c U (f x) := by
  have T := K.fit
  obtain ⟨a1, a2, a3⟩ := T.arc hx
  obtain ⟨b1, b2, b3⟩ := T.arc (T.tr.ln x hx)
  rw [T.tr.f3 x hx] at b1
  rw [← K.high_eq hx]
  unfold sz low
  rw [show (c x).toNat = (arc f c x).toNat + (arc f c (f x)).toNat by omega, cntR_add, Int.natCast_add]
/-- the sizes of a part fit -/
theorem Clo.fits (K : Clo L f c U) (k : Int → Int) (hk : ∀ x, IsLn L x → k x = sz c U x) (hs : ∀ x, k (-x) = k x) : Fit L f k := by
  have T := K.fit
  refine ⟨T.tr, hs, fun x hx => ?_, fun x hx => ?_, fun x hx => ?_⟩
  · rw [hk x hx]
    unfold sz
    omega
  · have l1 := T.tr.ln x hx
    have l2 := T.tr.ln _ l1
    have e1 := K.high hx
    have e2 := K.high l1
    have e3 := K.high l2
    rw [T.tr.f3 x hx] at e3
    rw [hk x hx, hk _ l1, hk _ l2]
    omega
  · have l1 := T.tr.ln x hx
    have l2 := T.tr.ln _ l1
    have e1 := K.high hx
    have e2 := K.high l1
    have e3 := K.high l2
    rw [T.tr.f3 x hx] at e3
    rw [hk x hx, hk _ l1, hk _ l2]
    omega
theorem Clo.arc (K : Clo L f c U) {k : Int → Int} (hk : ∀ x, IsLn L x → k x = sz c U x) {x : Int} (hx : IsLn L x) : arc f k x = low f c U x := by
  have T := K.fit
  have l1 := T.tr.ln x hx
  have l2 := T.tr.ln _ l1
  have e1 := K.high hx
  have e2 := K.high l1
  have e3 := K.high l2
  rw [T.tr.f3 x hx] at e3
  unfold FtM.arc
  rw [hk x hx, hk _ l1, hk _ l2]
  omega
theorem rk_in {k : Int → Int} (hk : ∀ x, IsLn L x → k x = sz c U x) {s : St} (hs : In L c s) (hu : U s = true) : In L k (rk U s) := by
  obtain ⟨h1, h2, h3⟩ := hs
  refine ⟨h1, by unfold rk; show (0 : Int) ≤ ((_ : Nat) : Int); omega, ?_⟩
  show ((cntR s.2.toNat fun p => U (s.1, p) : Nat) : Int) < k s.1
  rw [hk _ h1]
  unfold sz
  have := cntR_lt (a := s.2.toNat) (b := (c s.1).toNat) (P := fun p => U (s.1, ((p : Nat) : Int))) (by omega) (by
    show U (s.1, ((s.2.toNat : Nat) : Int)) = true
    rw [Int.toNat_of_nonneg h2]
    exact hu)
  omega
theorem U_at {s : St} (h2 : 0 ≤ s.2) (hu : U s = true) : U (s.1, ((s.2.toNat : Nat) : Int)) = true := by
  rw [Int.toNat_of_nonneg h2]
  exact hu
/-- the places within the part go as the states do -/
theorem Clo.rk_stp (K : Clo L f c U) {k : Int → Int} (hk : ∀ x, IsLn L x → k x = sz c U x) {s : St} (hs : In L c s) (hu : U s = true) : rk U (stp f c s) = stp f k (rk U s) := by
  have T := K.fit
  obtain ⟨h1, h2, h3⟩ := id hs
  have l1 := T.tr.ln _ h1
  have l2 := T.tr.ln _ l1
  obtain ⟨a1, a2, a3⟩ := T.arc h1
  by_cases hl : s.2 < FtM.arc f c s.1
  · have hlow : (cntR s.2.toNat fun p => U (s.1, ((p : Nat) : Int))) < low f c U s.1 := cntR_lt (by omega) (U_at h2 hu)
    rw [stp_lt hl, stp_lt (show ((cntR s.2.toNat fun p => U (s.1, ((p : Nat) : Int)) : Nat) : Int) < FtM.arc f k s.1 by rw [K.arc hk h1]; omega)]
    unfold rk
    refine Prod.ext rfl ?_
    show ((cntR s.2.toNat fun p => U (-f (f s.1), ((p : Nat) : Int)) : Nat) : Int) = _
    congr 1
    refine cntR_congr fun i hi => ?_
    have hin : In L c (s.1, ((i : Nat) : Int)) := ⟨h1, by show (0 : Int) ≤ (i : Int); omega, by show (i : Int) < c s.1; omega⟩
    rw [K.st _ hin, stp_lt (by show (i : Int) < FtM.arc f c s.1; omega)]
  · obtain ⟨b1, b2, b3⟩ := T.arc l1
    rw [T.tr.f3 _ h1] at b1
    have hge : low f c U s.1 ≤ (cntR s.2.toNat fun p => U (s.1, ((p : Nat) : Int))) := cntR_mono (by omega) _
    rw [stp_ge hl, stp_ge (show ¬ ((cntR s.2.toNat fun p => U (s.1, ((p : Nat) : Int)) : Nat) : Int) < FtM.arc f k s.1 by rw [K.arc hk h1]; omega)]
    unfold rk
    refine Prod.ext rfl ?_
    show ((cntR (s.2 + c (f s.1) - c s.1).toNat fun p => U (-f s.1, ((p : Nat) : Int)) : Nat) : Int) = ((cntR s.2.toNat fun p => U (s.1, ((p : Nat) : Int)) : Nat) : Int) + k (f s.1) - k s.1
    have hz := T.nn _ l2
    have e1 : k s.1 = ((cntR s.2.toNat fun p => U (s.1, ((p : Nat) : Int)) : Nat) : Int) + ((cntR (c s.1 - s.2).toNat fun j => U (s.1, ((s.2.toNat + j : Nat) : Int)) : Nat) : Int) := by
      rw [hk _ h1]
      unfold sz
      rw [show (c s.1).toNat = s.2.toNat + (c s.1 - s.2).toNat by omega, cntR_add, Int.natCast_add]
    have e2 : k (f s.1) = ((cntR (s.2 + c (f s.1) - c s.1).toNat fun p => U (-f s.1, ((p : Nat) : Int)) : Nat) : Int) + ((cntR (c s.1 - s.2).toNat fun j => U (-f s.1, (((s.2 + c (f s.1) - c s.1).toNat + j : Nat) : Int)) : Nat) : Int) := by
      rw [hk _ l1, ← K.sz_neg l1]
      unfold sz
      rw [T.sy, show (c (f s.1)).toNat = (s.2 + c (f s.1) - c s.1).toNat + (c s.1 - s.2).toNat by omega, cntR_add, Int.natCast_add]
    have e3 : (cntR (c s.1 - s.2).toNat fun j => U (s.1, ((s.2.toNat + j : Nat) : Int))) = cntR (c s.1 - s.2).toNat fun j => U (-f s.1, (((s.2 + c (f s.1) - c s.1).toNat + j : Nat) : Int)) := by
      refine cntR_congr fun i hi => ?_
      have hin : In L c (s.1, ((s.2.toNat + i : Nat) : Int)) := ⟨h1, by show (0 : Int) ≤ ((_ : Nat) : Int); omega, by show ((_ : Nat) : Int) < c s.1; omega⟩
      rw [K.st _ hin, stp_ge (by show ¬ ((_ : Nat) : Int) < FtM.arc f c s.1; omega)]
      congr 1
      exact Prod.ext rfl (by show ((_ : Nat) : Int) + c (f s.1) - c s.1 = ((_ : Nat) : Int); omega)
    rw [e1, e2, e3]
    omega
theorem Clo.rk_rv (K : Clo L f c U) {k : Int → Int} (hk : ∀ x, IsLn L x → k x = sz c U x) {s : St} (hs : In L c s) (hu : U s = true) : rk U (rv c s) = rv k (rk U s) := by
  have T := K.fit
  obtain ⟨h1, h2, h3⟩ := id hs
  unfold rk rv
  refine Prod.ext rfl ?_
  show ((cntR (c s.1 - 1 - s.2).toNat fun p => U (-s.1, ((p : Nat) : Int)) : Nat) : Int) = k s.1 - 1 - ((cntR s.2.toNat fun p => U (s.1, ((p : Nat) : Int)) : Nat) : Int)
  have e1 : k s.1 = ((cntR s.2.toNat fun p => U (s.1, ((p : Nat) : Int)) : Nat) : Int) + 1 + ((cntR (c s.1 - 1 - s.2).toNat fun j => U (s.1, ((s.2.toNat + 1 + j : Nat) : Int)) : Nat) : Int) := by
    rw [hk _ h1]
    unfold sz
    rw [show (c s.1).toNat = s.2.toNat + 1 + (c s.1 - 1 - s.2).toNat by omega, cntR_add, cntR_succ, if_pos (U_at h2 hu), Int.natCast_add, Int.natCast_add]
    rfl
  have e2 : (cntR (c s.1 - 1 - s.2).toNat fun p => U (-s.1, ((p : Nat) : Int))) = cntR (c s.1 - 1 - s.2).toNat fun j => U (s.1, ((s.2.toNat + 1 + j : Nat) : Int)) := by
    rw [← cntR_rev]
    refine cntR_congr fun i hi => ?_
    have hin : In L c (s.1, ((s.2.toNat + 1 + i : Nat) : Int)) := ⟨h1, by show (0 : Int) ≤ ((_ : Nat) : Int); omega, by show ((_ : Nat) : Int) < c s.1; omega⟩
    rw [K.re _ hin]
    congr 1
    unfold rv
    exact Prod.ext rfl (by show ((_ : Nat) : Int) = c s.1 - 1 - ((_ : Nat) : Int); omega)
  rw [e1, e2]
  omega
theorem rk_onto {k : Int → Int} (hk : ∀ x, IsLn L x → k x = sz c U x) (hn : ∀ x, IsLn L x → 0 ≤ c x) {t : St} (ht : In L k t) : ∃ s, In L c s ∧ U s = true ∧ rk U s = t := by
  obtain ⟨h1, h2, h3⟩ := ht
  rw [hk _ h1] at h3
  unfold sz at h3
  obtain ⟨p, a1, a2, a3⟩ := cntR_find (r := t.2.toNat) (n := (c t.1).toNat) (P := fun p => U (t.1, ((p : Nat) : Int))) (by omega)
  refine ⟨(t.1, ((p : Nat) : Int)), ⟨h1, by show (0 : Int) ≤ (p : Int); omega, by show (p : Int) < c t.1; omega⟩, a2, ?_⟩
  unfold rk
  refine Prod.ext rfl ?_
  show ((cntR ((p : Nat) : Int).toNat fun p => U (t.1, ((p : Nat) : Int)) : Nat) : Int) = t.2
  rw [Int.toNat_natCast, a3]
  omega
/-- a part that one state reaches is a thread -/
theorem Clo.thr (K : Clo L f c U) {k : Int → Int} (hk : ∀ x, IsLn L x → k x = sz c U x) (hs : ∀ x, k (-x) = k x) {s0 : St} (h0 : In L c s0) (u0 : U s0 = true)
    (hone : ∀ P : St → Prop, (∀ s, In L c s → U s = true → (P s ↔ P (stp f c s))) → (∀ s, In L c s → U s = true → (P s ↔ P (rv c s))) → ∀ s, In L c s → U s = true → (P s ↔ P s0)) : Thr L f k := by
  have T := K.fit
  refine ⟨K.fits k hk hs, ⟨_, rk_in hk h0 u0⟩, fun P h1 h2 s t hs ht ps => ?_⟩
  obtain ⟨s', a1, a2, rfl⟩ := rk_onto hk T.nn hs
  obtain ⟨t', b1, b2, rfl⟩ := rk_onto hk T.nn ht
  have key := hone (fun s => P (rk U s)) (fun s hs hu => by rw [K.rk_stp hk hs hu]; exact h1 _ (rk_in hk hs hu)) (fun s hs hu => by rw [K.rk_rv hk hs hu]; exact h2 _ (rk_in hk hs hu))
  exact (key t' b1 b2).mpr ((key s' a1 a2).mp ps)
end
/-! ### one orbit -/
section
variable {L : Nat} {f c : Int → Int}
def lns (L : Nat) : List Int := (List.range L).flatMap fun i => [((i : Nat) : Int) + 1, -(((i : Nat) : Int) + 1)]
theorem mem_lns {L : Nat} {x : Int} : x ∈ lns L ↔ IsLn L x := by
  unfold lns IsLn
  simp only [List.mem_flatMap, List.mem_range, List.mem_cons, List.not_mem_nil, or_false]
  constructor
  · rintro ⟨i, h1, h2 | h2⟩ <;> omega
  · intro h
    exact ⟨x.natAbs - 1, by omega, by omega⟩
def sts (L : Nat) (c : Int → Int) : List St := (lns L).flatMap fun x => (List.range (c x).toNat).map fun p => (x, ((p : Nat) : Int))
theorem mem_sts {s : St} : s ∈ sts L c ↔ In L c s := by
  unfold sts In
  simp only [List.mem_flatMap, List.mem_map, List.mem_range, mem_lns]
  constructor
  · rintro ⟨x, h1, p, h2, rfl⟩
    exact ⟨h1, by show (0 : Int) ≤ (p : Int); omega, by show (p : Int) < c x; omega⟩
  · rintro ⟨h1, h2, h3⟩
    exact ⟨s.1, h1, s.2.toNat, by omega, Prod.ext rfl (by show ((s.2.toNat : Nat) : Int) = s.2; omega)⟩
variable (T : Fit L f c)
include T
theorem Fit.per {s0 : St} (h0 : In L c s0) : ∃ n, Per (stp f c) s0 n ∧ n ≤ (sts L c).length :=
  period (X := sts L c) (fun y hy => mem_sts.mpr (T.stp_in (mem_sts.mp hy))) (fun y hy z hz e => T.stp_inj (mem_sts.mp hy) (mem_sts.mp hz) e) (mem_sts.mpr h0)
theorem Fit.orb_in {s0 : St} (h0 : In L c s0) {n : Nat} {s : St} (h : s ∈ orb (stp f c) s0 n) : In L c s := by
  obtain ⟨i, _, rfl⟩ := mem_orb.mp h
  exact mem_sts.mp (it_mem (X := sts L c) (fun y hy => mem_sts.mpr (T.stp_in (mem_sts.mp hy))) (mem_sts.mpr h0) i)
theorem Fit.orb_nodup {s0 : St} (h0 : In L c s0) {n : Nat} (P : Per (stp f c) s0 n) : (orb (stp f c) s0 n).Nodup :=
  P.nodup (X := sts L c) (fun y hy => mem_sts.mpr (T.stp_in (mem_sts.mp hy))) (fun y hy z hz e => T.stp_inj (mem_sts.mp hy) (mem_sts.mp hz) e) (mem_sts.mpr h0)
/-- no state comes to its own reverse -/
theorem Fit.no_rv : ∀ (m : Nat) {s : St}, In L c s → rv c s ≠ it (stp f c) m s
  | 0, s, h, e => by
    have e1 : -s.1 = s.1 := congrArg Prod.fst e
    have := h.1.ne
    omega
  | 1, s, h, e => by
    have e1 : -s.1 = (stp f c s).1 := congrArg Prod.fst e
    have h1 := T.tr.ne _ h.1
    have h2 := T.tr.ne2 h.1
    unfold stp at e1
    split at e1
    · exact h2 (by rw [← Int.neg_inj.mp e1])
    · exact h1 (by rw [← Int.neg_inj.mp e1])
  | m + 2, s, h, e => by
    have h1 := T.stp_in h
    refine Fit.no_rv m h1 (T.stp_inj (T.rv_in h1) (mem_sts.mp (it_mem (X := sts L c) (fun y hy => mem_sts.mpr (T.stp_in (mem_sts.mp hy))) (mem_sts.mpr h1) m)) ?_)
    rw [T.stp_rv h, e, ← it_succ]
    rfl
def ofOrb (c : Int → Int) (O : List St) (s : St) : Bool := decide (s ∈ O) || decide (rv c s ∈ O)
omit T in
theorem ofOrb_iff {O : List St} {s : St} : ofOrb c O s = true ↔ s ∈ O ∨ rv c s ∈ O := by
  unfold ofOrb
  rw [Bool.or_eq_true, decide_eq_true_eq, decide_eq_true_eq]
theorem Fit.disj {s0 : St} (h0 : In L c s0) {n : Nat} (P : Per (stp f c) s0 n) {s : St} (h : s ∈ orb (stp f c) s0 n) : rv c s ∉ orb (stp f c) s0 n := fun h' => by
  obtain ⟨i, hi, rfl⟩ := mem_orb.mp h
  obtain ⟨j, hj, e⟩ := mem_orb.mp h'
  have hin := T.orb_in h0 h
  rcases Nat.le_total i j with hij | hij
  · refine T.no_rv (j - i) hin ?_
    rw [← it_add, show i + (j - i) = j by omega, e]
  · refine T.no_rv (n - i + j) hin ?_
    rw [← it_add, show i + (n - i + j) = n + j by omega, it_add, P.end_, e]
theorem Fit.clo {s0 : St} (h0 : In L c s0) {n : Nat} (P : Per (stp f c) s0 n) : Clo L f c (ofOrb c (orb (stp f c) s0 n)) := by
  have inj : ∀ s, In L c s → stp f c s ∈ orb (stp f c) s0 n → s ∈ orb (stp f c) s0 n := fun s hs h => by
    obtain ⟨z, hz, e⟩ := P.prev h
    exact T.stp_inj (T.orb_in h0 hz) hs e ▸ hz
  refine ⟨T, fun s hs => Bool.eq_iff_iff.mpr ?_, fun s hs => Bool.eq_iff_iff.mpr ?_⟩
  · rw [ofOrb_iff, ofOrb_iff]
    constructor
    · rintro (h | h)
      · exact .inl (P.next h)
      · refine .inr (inj _ (T.rv_in (T.stp_in hs)) ?_)
        rw [T.stp_rv hs]
        exact h
    · rintro (h | h)
      · exact .inl (inj s hs h)
      · refine .inr ?_
        rw [← T.stp_rv hs]
        exact P.next h
  · rw [ofOrb_iff, ofOrb_iff, T.rv_rv]
    exact Or.comm
/-- a statement that steps and reverses keep is one for all of an orbit -/
theorem Fit.one_orb {s0 : St} (h0 : In L c s0) {n : Nat} (P : Per (stp f c) s0 n) (Q : St → Prop) (h1 : ∀ s, In L c s → ofOrb c (orb (stp f c) s0 n) s = true → (Q s ↔ Q (stp f c s))) (h2 : ∀ s, In L c s → ofOrb c (orb (stp f c) s0 n) s = true → (Q s ↔ Q (rv c s))) :
    ∀ s, In L c s → ofOrb c (orb (stp f c) s0 n) s = true → (Q s ↔ Q s0) := by
  have base : ∀ i, i < n → (Q (it (stp f c) i s0) ↔ Q s0) := fun i => by
    induction i with
    | zero => exact fun _ => Iff.rfl
    | succ i ih =>
      intro hi
      have hm : it (stp f c) i s0 ∈ orb (stp f c) s0 n := mem_orb.mpr ⟨i, by omega, rfl⟩
      exact (h1 _ (T.orb_in h0 hm) (ofOrb_iff.mpr (.inl hm))).symm.trans (ih (by omega))
  intro s hs hu
  rcases ofOrb_iff.mp hu with h | h
  · obtain ⟨i, hi, rfl⟩ := mem_orb.mp h
    exact base i hi
  · obtain ⟨i, hi, e⟩ := mem_orb.mp h
    have := base i hi
    rw [e] at this
    exact (h2 s hs hu).trans this
/-- how often an orbit meets a line -/
theorem Fit.cnt {s0 : St} (h0 : In L c s0) {n : Nat} (P : Per (stp f c) s0 n) {x : Int} (hx : IsLn L x) :
    (((orb (stp f c) s0 n).countP fun s => decide (s.1.natAbs = x.natAbs) : Nat) : Int) = sz c (ofOrb c (orb (stp f c) s0 n)) x := by
  have hn := T.nn x hx
  unfold sz cntR
  congr 1
  rw [List.countP_eq_length_filter, List.countP_eq_length_filter]
  generalize hO : orb (stp f c) s0 n = O
  have dj : ∀ s, s ∈ O → rv c s ∉ O := fun s h => by subst hO; exact T.disj h0 P h
  have oin : ∀ s, s ∈ O → In L c s := fun s h => by subst hO; exact T.orb_in h0 h
  let g : Nat → St := fun p => if ((x, ((p : Nat) : Int)) : St) ∈ O then (x, ((p : Nat) : Int)) else rv c (x, ((p : Nat) : Int))
  rw [← List.length_map g]
  refine List.Perm.length_eq ((List.perm_ext_iff_of_nodup ?_ ?_).mpr fun s => ?_)
  · rw [← hO]
    exact (T.orb_nodup h0 P).filter _
  · rw [List.nodup_iff_pairwise_ne, List.pairwise_map]
    refine List.Pairwise.imp_of_mem ?_ ((List.pairwise_lt_range (n := (c x).toNat)).filter _)
    intro i j _ _ hij e
    show False
    have e' : (if ((x, ((i : Nat) : Int)) : St) ∈ O then ((x, ((i : Nat) : Int)) : St) else rv c (x, ((i : Nat) : Int))) = if ((x, ((j : Nat) : Int)) : St) ∈ O then ((x, ((j : Nat) : Int)) : St) else rv c (x, ((j : Nat) : Int)) := e
    have nx := hx.ne
    by_cases c1 : ((x, ((i : Nat) : Int)) : St) ∈ O <;> by_cases c2 : ((x, ((j : Nat) : Int)) : St) ∈ O
    · rw [if_pos c1, if_pos c2] at e'
      have := congrArg Prod.snd e'
      simp only at this
      omega
    · rw [if_pos c1, if_neg c2] at e'
      have : x = -x := congrArg Prod.fst e'
      omega
    · rw [if_neg c1, if_pos c2] at e'
      have : -x = x := congrArg Prod.fst e'
      omega
    · rw [if_neg c1, if_neg c2] at e'
      have : c x - 1 - (i : Int) = c x - 1 - (j : Int) := congrArg Prod.snd e'
      omega
  · simp only [List.mem_filter, List.mem_map, List.mem_range, decide_eq_true_eq]
    constructor
    · rintro ⟨h1, h2⟩
      obtain ⟨a1, a2, a3⟩ := oin s h1
      by_cases e : s.1 = x
      · have es : ((x, ((s.2.toNat : Nat) : Int)) : St) = s := Prod.ext e.symm (by show ((s.2.toNat : Nat) : Int) = s.2; omega)
        refine ⟨s.2.toNat, ⟨by rw [e] at a3; omega, ?_⟩, ?_⟩
        · rw [es]
          exact ofOrb_iff.mpr (.inl h1)
        · show (if ((x, ((s.2.toNat : Nat) : Int)) : St) ∈ O then ((x, ((s.2.toNat : Nat) : Int)) : St) else rv c (x, ((s.2.toNat : Nat) : Int))) = s
          rw [es, if_pos h1]
      · have e2 : s.1 = -x := by omega
        have cs : c s.1 = c x := by rw [e2, T.sy]
        have es : ((x, (((c x - 1 - s.2).toNat : Nat) : Int)) : St) = rv c s := by
          unfold rv
          rw [cs, e2, Int.neg_neg]
          exact Prod.ext rfl (by show (((c x - 1 - s.2).toNat : Nat) : Int) = c x - 1 - s.2; omega)
        refine ⟨(c x - 1 - s.2).toNat, ⟨by omega, ?_⟩, ?_⟩
        · rw [es]
          exact ofOrb_iff.mpr (.inr (by rw [T.rv_rv]; exact h1))
        · show (if ((x, (((c x - 1 - s.2).toNat : Nat) : Int)) : St) ∈ O then ((x, (((c x - 1 - s.2).toNat : Nat) : Int)) : St) else rv c (x, (((c x - 1 - s.2).toNat : Nat) : Int))) = s
          rw [es, if_neg (dj s h1), T.rv_rv]
    · rintro ⟨i, ⟨h1, h2⟩, e⟩
      have e' : (if ((x, ((i : Nat) : Int)) : St) ∈ O then ((x, ((i : Nat) : Int)) : St) else rv c (x, ((i : Nat) : Int))) = s := e
      by_cases c1 : ((x, ((i : Nat) : Int)) : St) ∈ O
      · rw [if_pos c1] at e'
        subst e'
        exact ⟨c1, rfl⟩
      · rw [if_neg c1] at e'
        rcases ofOrb_iff.mp h2 with h | h
        · exact absurd h c1
        · subst e'
          exact ⟨h, Int.natAbs_neg x⟩
/-- the counts of one orbit are a thread -/
theorem Fit.part {s0 : St} (h0 : In L c s0) {n : Nat} (P : Per (stp f c) s0 n) {k : Int → Int} (hs : ∀ x, k (-x) = k x) (hk : ∀ x, IsLn L x → k x = (((orb (stp f c) s0 n).countP fun s => decide (s.1.natAbs = x.natAbs) : Nat) : Int)) : Thr L f k :=
  (T.clo h0 P).thr (fun x hx => (hk x hx).trans (T.cnt h0 P hx)) hs h0 (ofOrb_iff.mpr (.inl P.self)) (T.one_orb h0 P)
omit T in
/-- of a thread, an orbit meets each line as often as it is crossed -/
theorem Thr.cnt (H : Thr L f c) {s0 : St} (h0 : In L c s0) {n : Nat} (P : Per (stp f c) s0 n) {x : Int} (hx : IsLn L x) : (((orb (stp f c) s0 n).countP fun s => decide (s.1.natAbs = x.natAbs) : Nat) : Int) = c x := by
  have T := H.fit
  have K := T.clo h0 P
  have hn := T.nn x hx
  rw [T.cnt h0 P hx]
  unfold sz
  rw [cntR_all fun i hi => ?_]
  · omega
  · exact H.one (fun s => ofOrb c (orb (stp f c) s0 n) s = true) (fun s hs => by rw [K.st s hs]) (fun s hs => by rw [K.re s hs]) s0 _ h0 ⟨hx, by show (0 : Int) ≤ (i : Int); omega, by show (i : Int) < c x; omega⟩ (ofOrb_iff.mpr (.inl P.self))
end
end FtM
/-! rings and loops; words -/
namespace FtM
def b1 (p : Prop) [Decidable p] : Int := if p then 1 else 0
theorem b1_range (p : Prop) [Decidable p] : 0 ≤ b1 p ∧ b1 p ≤ 1 := by unfold b1; split <;> omega
def ringC (e : Int → Int) (v x : Int) : Int := b1 (e x = v) + b1 (e (-x) = v)
def loopC (e : Int → Int) (l x : Int) : Int := if x.natAbs = l.natAbs then 0 else b1 (e x = e l ∨ e x = e (-l)) + b1 (e (-x) = e l ∨ e (-x) = e (-l))
section
variable {L n : Nat} {f e c d : Int → Int}
theorem fit_ring (W : Web L n f e) (v : Int) : Fit L f (ringC e v) := by
  have T := W.tr
  refine ⟨T, fun x => by unfold ringC; rw [Int.neg_neg, Int.add_comm], fun x hx => ?_, fun x hx => ?_, fun x hx => ?_⟩
  · have h1 := b1_range (e x = v)
    have h2 := b1_range (e (-x) = v)
    unfold ringC
    omega
  · have l1 := T.ln x hx
    have l2 := T.ln _ l1
    have e3 := W.en l2
    rw [T.f3 x hx] at e3
    unfold ringC
    rw [W.en hx, W.en l1, e3]
    omega
  · have l1 := T.ln x hx
    have l2 := T.ln _ l1
    have e3 := W.en l2
    rw [T.f3 x hx] at e3
    have h3 := b1_range (e (f (f x)) = v)
    unfold ringC
    rw [W.en hx, W.en l1, e3]
    omega
theorem fit_loop (W : Web L n f e) {l : Int} (hl : IsLn L l) : Fit L f (loopC e l) := by
  have T := W.tr
  have nn : ∀ x, 0 ≤ loopC e l x := fun x => by
    have h1 := b1_range (e x = e l ∨ e x = e (-l))
    have h2 := b1_range (e (-x) = e l ∨ e (-x) = e (-l))
    unfold loopC
    split <;> omega
  have key : ∀ x, IsLn L x → ∃ A B C : Int, (0 ≤ A ∧ A ≤ 1) ∧ (0 ≤ B ∧ B ≤ 1) ∧ (0 ≤ C ∧ C ≤ 1) ∧ loopC e l x = (if x.natAbs = l.natAbs then 0 else A + B) ∧ loopC e l (f x) = (if (f x).natAbs = l.natAbs then 0 else B + C) ∧ loopC e l (f (f x)) = (if (f (f x)).natAbs = l.natAbs then 0 else C + A) ∧
      (x.natAbs = l.natAbs → A = 1 ∧ B = 1) ∧ ((f x).natAbs = l.natAbs → B = 1 ∧ C = 1) ∧ ((f (f x)).natAbs = l.natAbs → C = 1 ∧ A = 1) := fun x hx => by
    have l1 := T.ln x hx
    have l2 := T.ln _ l1
    have e1 := W.en hx
    have e2 := W.en l1
    have e3 := W.en l2
    rw [T.f3 x hx] at e3
    have one : ∀ y z, e (-y) = e z → y.natAbs = l.natAbs → b1 (e y = e l ∨ e y = e (-l)) = 1 ∧ b1 (e z = e l ∨ e z = e (-l)) = 1 := fun y z hz hy => by
      unfold b1
      have : y = l ∨ y = -l := by omega
      rcases this with h | h
      · rw [← hz, h]
        exact ⟨if_pos (.inl rfl), if_pos (.inr rfl)⟩
      · rw [← hz, h, Int.neg_neg]
        exact ⟨if_pos (.inr rfl), if_pos (.inl rfl)⟩
    refine ⟨_, _, _, b1_range (e x = e l ∨ e x = e (-l)), b1_range (e (f x) = e l ∨ e (f x) = e (-l)), b1_range (e (f (f x)) = e l ∨ e (f (f x)) = e (-l)), ?_, ?_, ?_, one _ _ e1, one _ _ e2, one _ _ e3⟩
    · unfold loopC
      rw [e1]
    · unfold loopC
      rw [e2]
    · unfold loopC
      rw [e3]
  refine ⟨T, fun x => ?_, fun x _ => nn x, fun x hx => ?_, fun x hx => ?_⟩
  · unfold loopC
    rw [Int.natAbs_neg, Int.neg_neg, Int.add_comm]
  · obtain ⟨A, B, C, h1, h2, h3, a1, a2, a3, c1, c2, c3⟩ := key x hx
    have d1 := T.ne x hx
    have d2 := T.ne2 hx
    have d3 := T.ne3 hx
    rw [a1, a2, a3]
    by_cases q1 : x.natAbs = l.natAbs
    · obtain ⟨r1, r2⟩ := c1 q1
      rw [if_pos q1, if_neg (fun z => d1 (z.trans q1.symm)), if_neg (fun z => d2 (z.trans q1.symm))]
      omega
    · by_cases q2 : (f x).natAbs = l.natAbs
      · obtain ⟨r1, r2⟩ := c2 q2
        rw [if_neg q1, if_pos q2, if_neg (fun z => d3 (z.trans q2.symm))]
        omega
      · by_cases q3 : (f (f x)).natAbs = l.natAbs
        · obtain ⟨r1, r2⟩ := c3 q3
          rw [if_neg q1, if_neg q2, if_pos q3]
          omega
        · rw [if_neg q1, if_neg q2, if_neg q3]
          omega
  · obtain ⟨A, B, C, h1, h2, h3, a1, a2, a3, c1, c2, c3⟩ := key x hx
    have d1 := T.ne x hx
    have d2 := T.ne2 hx
    have d3 := T.ne3 hx
    rw [a1, a2, a3]
    by_cases q1 : x.natAbs = l.natAbs
    · rw [if_pos q1, if_neg (fun z => d1 (z.trans q1.symm)), if_neg (fun z => d2 (z.trans q1.symm))]
      omega
    · by_cases q2 : (f x).natAbs = l.natAbs
      · obtain ⟨r1, r2⟩ := c2 q2
        rw [if_neg q1, if_pos q2, if_neg (fun z => d3 (z.trans q2.symm))]
        omega
      · by_cases q3 : (f (f x)).natAbs = l.natAbs
        · obtain ⟨r1, r2⟩ := c3 q3
          rw [if_neg q1, if_neg q2, if_pos q3]
          omega
        · rw [if_neg q1, if_neg q2, if_neg q3]
          omega
theorem fit_zero (T : Tr L f) : Fit L f (fun _ => 0) := ⟨T, fun _ => rfl, fun _ _ => Int.le_refl 0, fun _ _ => rfl, fun _ _ => Int.le_refl 0⟩
theorem fit_add (hc : Fit L f c) (hd : Fit L f d) : Fit L f (fun x => c x + d x) := by
  refine ⟨hc.tr, fun x => by rw [hc.sy, hd.sy], fun x hx => ?_, fun x hx => ?_, fun x hx => ?_⟩
  · have h1 := hc.nn x hx
    have h2 := hd.nn x hx
    omega
  · have h1 := hc.ev x hx
    have h2 := hd.ev x hx
    omega
  · have h1 := hc.le x hx
    have h2 := hd.le x hx
    omega
/-- a ring is a thread -/
theorem thr_ring (W : Web L n f e) {v : Int} (hv : ∃ x, IsLn L x ∧ e x = v) : Thr L f (ringC e v) := by
  have T := W.tr
  have Ft := fit_ring W v
  have i1 : ∀ {p : Prop} [Decidable p], p → b1 p = 1 := fun h => if_pos h
  have i0 : ∀ {p : Prop} [Decidable p], ¬ p → b1 p = 0 := fun h => if_neg h
  have hin : ∀ w, IsLn L w → e w = v → In L (ringC e v) (w, 0) := fun w hw ew => by
    refine ⟨hw, Int.le_refl 0, ?_⟩
    show (0 : Int) < ringC e v w
    have := b1_range (e (-w) = v)
    unfold ringC
    rw [i1 ew]
    omega
  refine ⟨Ft, ?_, fun P h1 h2 => ?_⟩
  · obtain ⟨x, hx, ex⟩ := hv
    exact ⟨_, hin x hx ex⟩
  · have hst : ∀ w, IsLn L w → e w = v → stp f (ringC e v) (w, 0) = (sg f w, 0) := fun w hw ew => by
      refine stp_lt ?_
      show (0 : Int) < arc f (ringC e v) w
      have l1 := T.ln w hw
      have l2 := T.ln _ l1
      have e3 := W.en l2
      rw [T.f3 w hw] at e3
      unfold arc ringC
      rw [W.en hw, W.en l1, e3, i1 ew]
      omega
    have key := W.eo (fun w => e w = v → P (w, 0)) (fun w hw => by
      rw [W.es w hw]
      constructor
      · intro h ew
        have := (h1 _ (hin w hw ew)).mp (h ew)
        rwa [hst w hw ew] at this
      · intro h ew
        refine (h1 _ (hin w hw ew)).mpr ?_
        rw [hst w hw ew]
        exact h ew)
    have red : ∀ s, In L (ringC e v) s → ∃ w, IsLn L w ∧ e w = v ∧ (P s ↔ P (w, 0)) := fun s hs => by
      obtain ⟨a1, a2, a3⟩ := id hs
      obtain ⟨w, p⟩ := s
      simp only at a1 a2 a3
      unfold ringC at a3
      by_cases c1 : e w = v
      · rw [i1 c1] at a3
        by_cases c2 : e (-w) = v
        · rw [i1 c2] at a3
          by_cases p0 : p = 0
          · exact ⟨w, a1, c1, by rw [p0]⟩
          · have hp : p = 1 := by omega
            refine ⟨-w, a1.neg, c2, (h2 _ hs).trans ?_⟩
            unfold rv ringC
            simp only
            rw [i1 c1, i1 c2, hp]
            exact Iff.rfl
        · rw [i0 c2] at a3
          have hp : p = 0 := by omega
          exact ⟨w, a1, c1, by rw [hp]⟩
      · rw [i0 c1] at a3
        by_cases c2 : e (-w) = v
        · rw [i1 c2] at a3
          have hp : p = 0 := by omega
          refine ⟨-w, a1.neg, c2, (h2 _ hs).trans ?_⟩
          unfold rv ringC
          simp only
          rw [i0 c1, i1 c2, hp]
          exact Iff.rfl
        · rw [i0 c2] at a3
          omega
    intro s t hs ht ps
    obtain ⟨u, lu, eu, iu⟩ := red s hs
    obtain ⟨w, lw, ew, iw⟩ := red t ht
    exact iw.mpr (key u w lu lw (eu.trans ew.symm) (fun _ => iu.mp ps) ew)
end
/-! ### rows of lines -/
theorem ltR_irrefl : ∀ r : List Int, ltR r r = false
  | [] => rfl
  | i :: r => by
    unfold ltR
    rw [if_pos rfl]
    exact ltR_irrefl r
theorem ltR_trans : ∀ {a b c : List Int}, ltR a b = true → ltR b c = true → ltR a c = true
  | a, b, [], h1, h2 => by cases b <;> exact absurd h2 (by simp [ltR])
  | [], b, _ :: _, _, _ => by simp [ltR]
  | i :: a, [], k :: c, h1, h2 => absurd h1 (by simp [ltR])
  | i :: a, j :: b, k :: c, h1, h2 => by
    unfold ltR at h1 h2 ⊢
    by_cases e1 : i = j
    · subst e1
      rw [if_pos rfl] at h1
      by_cases e2 : i = k
      · rw [if_pos e2] at h2 ⊢
        exact ltR_trans h1 h2
      · rw [if_neg e2] at h2 ⊢
        exact h2
    · rw [if_neg e1] at h1
      have h1' := of_decide_eq_true h1
      by_cases e2 : j = k
      · subst e2
        rw [if_neg e1]
        exact decide_eq_true h1'
      · rw [if_neg e2] at h2
        have h2' := of_decide_eq_true h2
        rw [if_neg (by omega)]
        exact decide_eq_true (by omega)
theorem ltR_total : ∀ {a b : List Int}, ltR a b = false → ltR b a = false → a = b
  | [], [], _, _ => rfl
  | [], _ :: _, h, _ => absurd h (by simp [ltR])
  | _ :: _, [], _, h => absurd h (by simp [ltR])
  | i :: a, j :: b, h1, h2 => by
    unfold ltR at h1 h2
    by_cases e : i = j
    · subst e
      rw [if_pos rfl] at h1 h2
      rw [ltR_total h1 h2]
    · rw [if_neg e] at h1
      rw [if_neg (Ne.symm e)] at h2
      have h1' := of_decide_eq_false h1
      have h2' := of_decide_eq_false h2
      omega
theorem minR_spec (ys : List (List Int)) : ∀ y, minR (y :: ys) ∈ y :: ys ∧ ∀ z ∈ y :: ys, ltR z (minR (y :: ys)) = false := by
  show ∀ y, ys.foldl (fun a y => if ltR y a = true then y else a) y ∈ y :: ys ∧ ∀ z ∈ y :: ys, ltR z (ys.foldl (fun a y => if ltR y a = true then y else a) y) = false
  induction ys with
  | nil =>
    intro y
    refine ⟨List.mem_cons_self, fun z hz => ?_⟩
    rw [List.mem_singleton.mp hz]
    exact ltR_irrefl y
  | cons w ws ih =>
    intro y
    rw [List.foldl_cons]
    obtain ⟨h1, h2⟩ := ih (if ltR w y = true then w else y)
    generalize hm : ws.foldl (fun a y => if ltR y a = true then y else a) (if ltR w y = true then w else y) = m at h1 h2
    by_cases c : ltR w y = true
    · rw [if_pos c] at h1 h2
      refine ⟨List.mem_cons_of_mem _ h1, fun z hz => ?_⟩
      rcases List.mem_cons.mp hz with rfl | hz
      · cases e : ltR z m with
        | false => rfl
        | true =>
          have := ltR_trans c e
          rw [h2 w List.mem_cons_self] at this
          cases this
      · exact h2 z hz
    · rw [if_neg c] at h1 h2
      refine ⟨?_, fun z hz => ?_⟩
      · rcases List.mem_cons.mp h1 with e | h
        · rw [e]; exact List.mem_cons_self
        · exact List.mem_cons_of_mem _ (List.mem_cons_of_mem _ h)
      · rcases List.mem_cons.mp hz with rfl | hz
        · exact h2 z List.mem_cons_self
        · rcases List.mem_cons.mp hz with rfl | hz
          · cases e : ltR z m with
            | false => rfl
            | true =>
              have hym := h2 y List.mem_cons_self
              have c' : ltR z y = false := by cases h : ltR z y; rfl; exact absurd h c
              cases hmy : ltR m y with
              | true =>
                have := ltR_trans e hmy
                rw [c'] at this
                cases this
              | false =>
                have := ltR_total hmy hym
                rw [this] at e
                rw [c'] at e
                cases e
          · exact h2 z (List.mem_cons_of_mem _ hz)
theorem minR_mem {ys : List (List Int)} (h : ys ≠ []) : minR ys ∈ ys := by
  cases ys with
  | nil => exact absurd rfl h
  | cons y ys => exact (minR_spec ys y).1
theorem minR_le {ys : List (List Int)} {z : List Int} (h : z ∈ ys) : ltR z (minR ys) = false := by
  cases ys with
  | nil => cases h
  | cons y ys => exact (minR_spec ys y).2 z h
theorem minR_same {xs ys : List (List Int)} (h : ∀ z, z ∈ xs ↔ z ∈ ys) : minR xs = minR ys := by
  cases xs with
  | nil =>
    cases ys with
    | nil => rfl
    | cons y ys => exact absurd ((h y).mpr List.mem_cons_self) (by simp)
  | cons x xs =>
    have h1 := (h _).mp (minR_mem (ys := x :: xs) (by simp))
    have hne : ys ≠ [] := fun e => by rw [e] at h1; cases h1
    exact ltR_total (minR_le h1) (minR_le ((h _).mpr (minR_mem hne)))
/-- turned by i -/
def rot (r : List Int) (i : Nat) : List Int := r.drop i ++ r.take i
def rots (r : List Int) : List (List Int) := (List.range r.length).map (rot r)
def lt1 (r : List Int) : List Int := minR (rots r)
theorem rot_get {r : List Int} {i j : Nat} (hi : i < r.length) (hj : j < r.length) : (rot r i)[j]? = r[(j + i) % r.length]? := by
  unfold rot
  by_cases h : j < r.length - i
  · rw [List.getElem?_append_left (by rw [List.length_drop]; exact h), List.getElem?_drop, Nat.mod_eq_of_lt (by omega), Nat.add_comm]
  · rw [List.getElem?_append_right (by rw [List.length_drop]; omega), List.length_drop, List.getElem?_take_of_lt (by omega)]
    rw [show (j + i) % r.length = j - (r.length - i) by
      rw [Nat.mod_eq_sub_mod (by omega), Nat.mod_eq_of_lt (by omega)]
      omega]
theorem rot_len {r : List Int} {i : Nat} (hi : i ≤ r.length) : (rot r i).length = r.length := by
  unfold rot
  rw [List.length_append, List.length_drop, List.length_take]
  omega
theorem rot_ext {r t : List Int} {i : Nat} (hi : i < r.length) (hl : t.length = r.length) (h : ∀ j, j < r.length → t[j]? = r[(j + i) % r.length]?) : t = rot r i := by
  refine List.ext_getElem? fun j => ?_
  by_cases hj : j < r.length
  · rw [h j hj, rot_get hi hj]
  · rw [List.getElem?_eq_none (by omega), List.getElem?_eq_none (by rw [rot_len (by omega)]; omega)]
theorem rot_rot {r : List Int} {i j : Nat} (hi : i < r.length) (hj : j < r.length) : rot (rot r i) j = rot r ((j + i) % r.length) := by
  have hl := rot_len (r := r) (i := i) (by omega)
  refine rot_ext (Nat.mod_lt _ (by omega)) (by rw [rot_len (by omega), hl]) fun k hk => ?_
  rw [rot_get (by omega) (by omega), hl, rot_get hi (Nat.mod_lt _ (by omega))]
  congr 1
  rw [Nat.mod_add_mod, Nat.add_mod_mod]
  congr 1
  omega
theorem mem_rots {r z : List Int} : z ∈ rots r ↔ ∃ i, i < r.length ∧ z = rot r i := by
  unfold rots
  simp only [List.mem_map, List.mem_range]
  exact ⟨fun ⟨i, h1, h2⟩ => ⟨i, h1, h2.symm⟩, fun ⟨i, h1, h2⟩ => ⟨i, h1, h2.symm⟩⟩
theorem rots_rot {r : List Int} {i : Nat} (hi : i < r.length) (z : List Int) : z ∈ rots (rot r i) ↔ z ∈ rots r := by
  have hl := rot_len (r := r) (i := i) (by omega)
  rw [mem_rots, mem_rots, hl]
  constructor
  · rintro ⟨j, hj, rfl⟩
    exact ⟨_, Nat.mod_lt _ (by omega), rot_rot hi hj⟩
  · rintro ⟨j, hj, rfl⟩
    refine ⟨(j + (r.length - i)) % r.length, Nat.mod_lt _ (by omega), ?_⟩
    rw [rot_rot hi (Nat.mod_lt _ (by omega))]
    congr 1
    rw [Nat.mod_add_mod, show j + (r.length - i) + i = j + r.length by omega, Nat.add_mod_right, Nat.mod_eq_of_lt hj]
theorem lt1_rot {r : List Int} {i : Nat} (hi : i < r.length) : lt1 (rot r i) = lt1 r := minR_same (rots_rot hi)
/-- the least turn is one of the turns -/
theorem lt1_is {r : List Int} (h : r ≠ []) : ∃ i, i < r.length ∧ lt1 r = rot r i := by
  have hl : 0 < r.length := List.length_pos_iff.mpr h
  refine mem_rots.mp (minR_mem fun e => ?_)
  have : (rots r).length = 0 := by rw [e]; rfl
  unfold rots at this
  rw [List.length_map, List.length_range] at this
  omega
theorem lt1_lt1 {r : List Int} (h : r ≠ []) : lt1 (lt1 r) = lt1 r := by
  obtain ⟨i, hi, e⟩ := lt1_is h
  rw [e, lt1_rot hi, e]
def bkw (r : List Int) : List Int := (r.map fun x => -x).reverse
def min2 (a b : List Int) : List Int := if ltR b a = true then b else a
def wrd (r : List Int) : List Int := min2 (lt1 r) (lt1 (bkw r))
theorem bkw_len (r : List Int) : (bkw r).length = r.length := by
  unfold bkw
  rw [List.length_reverse, List.length_map]
theorem wrd_is {r : List Int} (h : r ≠ []) : ∃ t, (t = r ∨ t = bkw r) ∧ ∃ i, i < t.length ∧ wrd r = rot t i := by
  unfold wrd min2
  split
  · refine ⟨bkw r, .inr rfl, lt1_is fun e => h ?_⟩
    have := bkw_len r
    rw [e] at this
    exact List.eq_nil_of_length_eq_zero this.symm
  · exact ⟨r, .inl rfl, lt1_is h⟩
theorem wrd_lt1 {r : List Int} (h : r ≠ []) : lt1 (wrd r) = wrd r := by
  unfold wrd min2
  split
  · refine lt1_lt1 fun e => h ?_
    have := bkw_len r
    rw [e] at this
    exact List.eq_nil_of_length_eq_zero this.symm
  · exact lt1_lt1 h
/-- each followed by R, around -/
def Cyc (R : Int → Int → Prop) (r : List Int) : Prop := ∀ i u v, r[i]? = some u → r[(i + 1) % r.length]? = some v → R u v
theorem Cyc.rot {R : Int → Int → Prop} {r : List Int} (h : Cyc R r) {i : Nat} (hi : i < r.length) : Cyc R (rot r i) := by
  have hl := rot_len (r := r) (i := i) (by omega)
  intro j u v hu hv
  have hj : j < r.length := by
    have := (List.getElem?_eq_some_iff.mp hu).1
    omega
  rw [hl] at hv
  rw [rot_get hi hj] at hu
  rw [rot_get hi (Nat.mod_lt _ (by omega))] at hv
  refine h _ u v hu ?_
  rw [← hv]
  congr 1
  rw [Nat.mod_add_mod, Nat.mod_add_mod]
  congr 1
  omega
theorem Cyc.bkw {R : Int → Int → Prop} {r : List Int} (h : Cyc R r) (hs : ∀ u v, R u v → R (-v) (-u)) : Cyc R (bkw r) := by
  have hl := bkw_len r
  have hg : ∀ j, j < r.length → (FtM.bkw r)[j]? = (r[r.length - 1 - j]?).map fun x => -x := fun j hj => by
    unfold FtM.bkw
    rw [List.getElem?_reverse (by rw [List.length_map]; exact hj), List.getElem?_map, List.length_map]
  intro j u v hu hv
  have hj : j < r.length := by
    have := (List.getElem?_eq_some_iff.mp hu).1
    omega
  rw [hl] at hv
  rw [hg j hj] at hu
  rw [hg _ (Nat.mod_lt _ (by omega))] at hv
  obtain ⟨u', hu', rfl⟩ := Option.map_eq_some_iff.mp hu
  obtain ⟨v', hv', rfl⟩ := Option.map_eq_some_iff.mp hv
  refine hs _ _ (h (r.length - 1 - (j + 1) % r.length) v' u' hv' ?_)
  rw [← hu']
  congr 1
  by_cases e : j + 1 < r.length
  · rw [Nat.mod_eq_of_lt e, Nat.mod_eq_of_lt (by omega)]
    omega
  · have : j + 1 = r.length := by omega
    rw [this, Nat.mod_self, show r.length - 1 - 0 + 1 = r.length by omega, Nat.mod_self]
    omega
/-- the lines of an orbit follow each other -/
def Adj (f : Int → Int) (u v : Int) : Prop := v = -f u ∨ v = -f (f u)
section
variable {L : Nat} {f c : Int → Int}
theorem adj_orb {s0 : St} {n : Nat} (P : Per (stp f c) s0 n) : Cyc (Adj f) ((orb (stp f c) s0 n).map Prod.fst) := by
  intro i u v hu hv
  rw [List.length_map, orb_len] at hv
  rw [List.getElem?_map] at hu hv
  obtain ⟨s, hs, rfl⟩ := Option.map_eq_some_iff.mp hu
  obtain ⟨t, ht, rfl⟩ := Option.map_eq_some_iff.mp hv
  have hi : i < n := by
    have := (List.getElem?_eq_some_iff.mp hs).1
    rwa [orb_len] at this
  have gs : ∀ j, j < n → (orb (stp f c) s0 n)[j]? = some (it (stp f c) j s0) := fun j hj => by
    unfold orb
    rw [List.getElem?_map, List.getElem?_range hj]
    rfl
  rw [gs i hi] at hs
  cases hs
  have e : t = stp f c (it (stp f c) i s0) := by
    by_cases h : i + 1 < n
    · rw [Nat.mod_eq_of_lt h, gs _ h] at ht
      cases ht
      rfl
    · have : i + 1 = n := by omega
      rw [this, Nat.mod_self, gs 0 P.pos] at ht
      cases ht
      show s0 = it (stp f c) (i + 1) s0
      rw [this, P.end_]
  subst e
  unfold Adj stp
  split
  · exact .inr rfl
  · exact .inl rfl
theorem adj_bkw (T : Tr L f) {u v : Int} (hu : IsLn L u) (h : Adj f u v) : Adj f (-v) (-u) := by
  unfold Adj at *
  rcases h with h | h
  · rw [h, Int.neg_neg, T.f3 u hu]
    exact .inr rfl
  · rw [h, Int.neg_neg, T.f3 u hu]
    exact .inl rfl
end
end FtM
/-! triangles as lists; the nails met; a sheet's parts -/
namespace FtM
def tl (t : Tri) : List Int := [t.1, t.2.1, t.2.2]
structure Reps (ts : List Tri) (L : Nat) (f : Int → Int) : Prop where
  rot : ∀ t ∈ ts, f t.1 = t.2.1 ∧ f t.2.1 = t.2.2 ∧ f t.2.2 = t.1
  perm : (ts.flatMap tl).Perm (lns L)
def prs (t : Tri) : List (Int × Tri) := [(t.1, t), (t.2.1, (t.2.1, t.2.2, t.1)), (t.2.2, (t.2.2, t.1, t.2.1))]
def putAll {α : Type} (kvs : List (Int × α)) : List (Int × α) := kvs.foldl (fun m kv => putA m kv.1 kv.2) []
def parts (ts : List Tri) : List (Int × Tri) := putAll (ts.flatMap prs)
section
variable {α : Type}
theorem getA_of_nodup {kvs : List (Int × α)} {k : Int} {v : α} (hn : (kvs.map (·.1)).Nodup) (h : (k, v) ∈ kvs) : getA kvs k = some v := by
  unfold getA
  induction kvs with
  | nil => cases h
  | cons kv r ih =>
    rw [List.map_cons, List.nodup_cons] at hn
    rw [List.find?_cons]
    rcases List.mem_cons.mp h with e | h
    · subst e
      simp
    · have : kv.1 ≠ k := fun e => hn.1 (List.mem_map.mpr ⟨_, h, e.symm⟩)
      simp only [this, decide_false]
      exact ih hn.2 h
theorem getA_some {kvs : List (Int × α)} {k : Int} {v : α} (h : getA kvs k = some v) : (k, v) ∈ kvs := by
  unfold getA at h
  obtain ⟨kv, h1, h2⟩ := Option.map_eq_some_iff.mp h
  have h3 := List.find?_some h1
  have h4 := List.mem_of_find?_eq_some h1
  have e : kv.1 = k := of_decide_eq_true h3
  rw [← e, ← h2]
  exact h4
theorem getA_put {κ : Type} [DecidableEq κ] (kvs : List (κ × α)) (k j : κ) (v : α) : getA (putA kvs k v) j = if j = k then some v else getA kvs j := by
  unfold putA getA
  by_cases h : (kvs.any fun kv => decide (kv.1 = k)) = true
  · rw [if_pos h]
    induction kvs with
    | nil => cases h
    | cons kv r ih =>
      rw [List.map_cons, List.find?_cons, List.find?_cons]
      by_cases e : kv.1 = k
      · rw [if_pos e]
        by_cases e2 : j = k
        · subst e2
          simp [e]
        · have e3 : ¬ kv.1 = j := fun z => e2 (z.symm.trans e)
          simp only [e3, decide_false, if_neg e2]
          by_cases h' : (r.any fun kv => decide (kv.1 = k)) = true
          · have := ih h'
            rw [if_neg e2] at this
            exact this
          · have hr : r.map (fun kv => if kv.1 = k then (kv.1, v) else kv) = r := by
              refine (List.map_congr_left fun a ha => ?_).trans (List.map_id r)
              rw [if_neg]
              · rfl
              · intro z
                exact h' (List.any_eq_true.mpr ⟨a, ha, decide_eq_true z⟩)
            rw [hr]
      · rw [if_neg e]
        by_cases e4 : kv.1 = j
        · have e2 : ¬ j = k := fun z => e (e4.trans z)
          simp [e4, e2]
        · simp only [e4, decide_false]
          refine ih ?_
          rw [List.any_cons, decide_eq_false e, Bool.false_or] at h
          exact h
  · rw [if_neg h, List.find?_append]
    by_cases e : j = k
    · subst e
      have : kvs.find? (fun kv => decide (kv.1 = j)) = none := by
        rw [List.find?_eq_none]
        intro x hx hz
        exact h (List.any_eq_true.mpr ⟨x, hx, hz⟩)
      rw [this]
      simp
    · rw [if_neg e]
      have : [(k, v)].find? (fun kv => decide (kv.1 = j)) = none := by
        simp [List.find?_cons, Ne.symm e]
      rw [this, Option.or_none]
theorem putA_len {κ : Type} [DecidableEq κ] (kvs : List (κ × α)) (k : κ) (v : α) : (putA kvs k v).length = if (getA kvs k).isSome then kvs.length else kvs.length + 1 := by
  have h : (getA kvs k).isSome = kvs.any fun kv => decide (kv.1 = k) := by
    unfold getA
    rw [Option.isSome_map, Bool.eq_iff_iff, List.find?_isSome, List.any_eq_true]
  unfold putA
  rw [h]
  split
  · rw [List.length_map]
  · rw [List.length_append]
    rfl
theorem putA_new {κ : Type} [DecidableEq κ] {kvs : List (κ × α)} {k : κ} {v : α} (h : getA kvs k = none) : putA kvs k v = kvs ++ [(k, v)] := by
  unfold putA
  rw [if_neg]
  rw [Bool.not_eq_true, List.any_eq_false]
  intro x hx hz
  unfold getA at h
  rw [Option.map_eq_none_iff, List.find?_eq_none] at h
  exact h x hx hz
theorem getA_none {κ : Type} [DecidableEq κ] {kvs : List (κ × α)} {k : κ} (h : ∀ kv ∈ kvs, kv.1 ≠ k) : getA kvs k = none := by
  unfold getA
  rw [Option.map_eq_none_iff, List.find?_eq_none]
  intro x hx hz
  exact h x hx (of_decide_eq_true hz)
/-- put in turn, keys that differ: the pairs themselves -/
theorem putAll_nodup : ∀ (kvs m : List (Int × α)), ((m ++ kvs).map (·.1)).Nodup → kvs.foldl (fun m kv => putA m kv.1 kv.2) m = m ++ kvs
  | [], m, _ => (List.append_nil m).symm
  | kv :: r, m, h => by
    have hk : getA m kv.1 = none := getA_none fun x hx e => by
      rw [List.map_append, List.map_cons] at h
      have := List.nodup_append.mp h
      exact this.2.2 x.1 (List.mem_map.mpr ⟨x, hx, rfl⟩) kv.1 List.mem_cons_self e
    rw [List.foldl_cons, putA_new hk, putAll_nodup r _ (by rw [List.append_assoc]; exact h), List.append_assoc]
    rfl
end
section
variable {ts ts' : List Tri} {L : Nat} {f : Int → Int}
theorem lns_nodup (L : Nat) : (lns L).Nodup := by
  unfold lns
  induction L with
  | zero => exact List.nodup_nil
  | succ L ih =>
    rw [List.range_succ, List.flatMap_append]
    refine List.nodup_append.mpr ⟨ih, ?_, fun a ha b hb e => ?_⟩
    · simp only [List.flatMap_cons, List.flatMap_nil, List.append_nil, List.nodup_cons, List.mem_cons, List.not_mem_nil, or_false, not_false_eq_true, List.nodup_nil, and_true]
      omega
    · subst e
      have h1 : IsLn L a := mem_lns.mp ha
      simp only [List.flatMap_cons, List.flatMap_nil, List.append_nil, List.mem_cons, List.not_mem_nil, or_false] at hb
      unfold IsLn at h1
      omega
theorem lns_len (L : Nat) : (lns L).length = 2 * L := by
  unfold lns
  induction L with
  | zero => rfl
  | succ L ih =>
    rw [List.range_succ, List.flatMap_append, List.length_append, ih]
    simp only [List.flatMap_cons, List.flatMap_nil, List.append_nil, List.length_cons, List.length_nil]
    omega
theorem prs_keys (ts : List Tri) : (ts.flatMap prs).map (·.1) = ts.flatMap tl := by
  induction ts with
  | nil => rfl
  | cons t r ih =>
    rw [List.flatMap_cons, List.map_append, ih, List.flatMap_cons]
    rfl
theorem Reps.nodup (R : Reps ts L f) : (ts.flatMap tl).Nodup := R.perm.nodup_iff.mpr (lns_nodup L)
theorem Reps.mem (R : Reps ts L f) {x : Int} : x ∈ ts.flatMap tl ↔ IsLn L x := R.perm.mem_iff.trans mem_lns
theorem Reps.parts_eq (R : Reps ts L f) : parts ts = ts.flatMap prs := by
  unfold parts putAll
  rw [putAll_nodup _ [] (by rw [List.nil_append, prs_keys]; exact R.nodup), List.nil_append]
theorem Reps.get (R : Reps ts L f) {x : Int} (hx : IsLn L x) : getA (parts ts) x = some (x, f x, f (f x)) := by
  rw [R.parts_eq]
  refine getA_of_nodup (by rw [prs_keys]; exact R.nodup) ?_
  obtain ⟨t, ht, hxt⟩ := List.mem_flatMap.mp (R.mem.mpr hx)
  refine List.mem_flatMap.mpr ⟨t, ht, ?_⟩
  obtain ⟨h1, h2, h3⟩ := R.rot t ht
  unfold tl at hxt
  simp only [List.mem_cons, List.not_mem_nil, or_false] at hxt
  unfold prs
  rcases hxt with e | e | e
  · rw [e, h1, h2]
    exact List.mem_cons_self
  · rw [e, h2, h3]
    exact List.mem_cons_of_mem _ List.mem_cons_self
  · rw [e, h3, h1]
    exact List.mem_cons_of_mem _ (List.mem_cons_of_mem _ List.mem_cons_self)
theorem prs_len (ts : List Tri) : (ts.flatMap prs).length = 3 * ts.length := by
  induction ts with
  | nil => rfl
  | cons t r ih =>
    rw [List.flatMap_cons, List.length_append, ih, List.length_cons]
    show 3 + 3 * r.length = _
    omega
theorem Reps.len (R : Reps ts L f) : 3 * ts.length = 2 * L := by
  have h1 := R.perm.length_eq
  rw [lns_len, ← prs_keys, List.length_map, prs_len] at h1
  exact h1
theorem Reps.parts_len (R : Reps ts L f) : (parts ts).length = 2 * L := by rw [R.parts_eq, prs_len, R.len]
theorem Reps.keys (R : Reps ts L f) {x : Int} : x ∈ (parts ts).map (·.1) ↔ IsLn L x := by rw [R.parts_eq, prs_keys]; exact R.mem
/-! ### triangles begun at the least line, sorted -/
def mi (t : Tri) : Nat := if t.1.natAbs ≤ t.2.1.natAbs ∧ t.1.natAbs ≤ t.2.2.natAbs then 0 else if t.2.1.natAbs ≤ t.2.2.natAbs then 1 else 2
def canon (t : Tri) : Tri := if t.1.natAbs ≤ t.2.1.natAbs ∧ t.1.natAbs ≤ t.2.2.natAbs then t else if t.2.1.natAbs ≤ t.2.2.natAbs then (t.2.1, t.2.2, t.1) else (t.2.2, t.1, t.2.1)
def leT (a b : Tri) : Bool := !ltR (tl b) (tl a)
def inOrder (ts : List Tri) : List Tri := (ts.map canon).mergeSort leT
theorem tl_inj {a b : Tri} (h : tl a = tl b) : a = b := by
  unfold tl at h
  simp only [List.cons.injEq, and_true] at h
  exact Prod.ext h.1 (Prod.ext h.2.1 h.2.2)
theorem canon_perm (t : Tri) : (tl (canon t)).Perm (tl t) := by
  unfold canon tl
  split
  · exact List.Perm.refl _
  · split
    · exact List.perm_append_comm (l₁ := [t.2.1, t.2.2]) (l₂ := [t.1])
    · exact List.perm_append_comm (l₁ := [t.2.2]) (l₂ := [t.1, t.2.1])
theorem flatMap_perm {l : List Tri} {g : Tri → Tri} (h : ∀ t, (tl (g t)).Perm (tl t)) : ((l.map g).flatMap tl).Perm (l.flatMap tl) := by
  induction l with
  | nil => exact List.Perm.refl _
  | cons t r ih =>
    rw [List.map_cons, List.flatMap_cons, List.flatMap_cons]
    exact (h t).append ih
theorem Reps.ord (R : Reps ts L f) : Reps (inOrder ts) L f := by
  refine ⟨fun t ht => ?_, ?_⟩
  · unfold inOrder at ht
    obtain ⟨u, hu, rfl⟩ := List.mem_map.mp (List.mem_mergeSort.mp ht)
    obtain ⟨h1, h2, h3⟩ := R.rot u hu
    unfold canon
    split
    · exact ⟨h1, h2, h3⟩
    · split
      · exact ⟨h2, h3, h1⟩
      · exact ⟨h3, h1, h2⟩
  · have h1 : ((inOrder ts).flatMap tl).Perm ((ts.map canon).flatMap tl) := List.Perm.flatMap_right _ (List.mergeSort_perm _ _)
    exact h1.trans ((flatMap_perm canon_perm).trans R.perm)
theorem leT_trans (a b c : Tri) (h1 : leT a b = true) (h2 : leT b c = true) : leT a c = true := by
  unfold leT at *
  rw [Bool.not_eq_true'] at *
  cases h : ltR (tl c) (tl a) with
  | false => rfl
  | true =>
    cases h3 : ltR (tl a) (tl b) with
    | true =>
      have := ltR_trans h h3
      rw [h2] at this
      cases this
    | false =>
      have := ltR_total h3 h1
      rw [this] at h
      rw [h2] at h
      cases h
theorem leT_total (a b : Tri) : (leT a b || leT b a) = true := by
  unfold leT
  cases h1 : ltR (tl b) (tl a) with
  | false => rfl
  | true =>
    cases h2 : ltR (tl a) (tl b) with
    | false => rfl
    | true =>
      have := ltR_trans h1 h2
      rw [ltR_irrefl] at this
      cases this
theorem leT_anti {a b : Tri} (h1 : leT a b = true) (h2 : leT b a = true) : a = b := by
  unfold leT at h1 h2
  rw [Bool.not_eq_true'] at h1 h2
  exact tl_inj (ltR_total h2 h1)
theorem sorted_eq : ∀ {xs ys : List Tri}, xs.Perm ys → xs.Pairwise (fun a b => leT a b = true) → ys.Pairwise (fun a b => leT a b = true) → xs = ys
  | [], ys, h, _, _ => (List.nil_perm.mp h).symm ▸ rfl
  | x :: xs, [], h, _, _ => absurd h (by simp)
  | x :: xs, y :: ys, h, h1, h2 => by
    obtain ⟨a1, a2⟩ := List.pairwise_cons.mp h1
    obtain ⟨b1, b2⟩ := List.pairwise_cons.mp h2
    have hx : x ∈ y :: ys := h.subset List.mem_cons_self
    have hy : y ∈ x :: xs := h.symm.subset List.mem_cons_self
    have e : x = y := by
      rcases List.mem_cons.mp hx with e | hx
      · exact e
      · rcases List.mem_cons.mp hy with e | hy
        · exact e.symm
        · exact leT_anti (a1 y hy) (b1 x hx)
    subst e
    rw [sorted_eq (List.perm_cons x |>.mp h) a2 b2]
theorem Reps.sub (R : Reps ts L f) {t : Tri} (ht : t ∈ ts) : IsLn L t.1 ∧ IsLn L t.2.1 ∧ IsLn L t.2.2 := by
  have g : ∀ x ∈ tl t, IsLn L x := fun x hx => R.mem.mp (List.mem_flatMap.mpr ⟨t, ht, hx⟩)
  unfold tl at g
  exact ⟨g _ List.mem_cons_self, g _ (List.mem_cons_of_mem _ List.mem_cons_self), g _ (List.mem_cons_of_mem _ (List.mem_cons_of_mem _ List.mem_cons_self))⟩
/-- the begun triangles, by f -/
theorem Reps.canon_mem (R : Reps ts L f) (T : Tr L f) (u : Tri) : u ∈ ts.map canon ↔ IsLn L u.1 ∧ u.2.1 = f u.1 ∧ u.2.2 = f (f u.1) ∧ u.1.natAbs < (f u.1).natAbs ∧ u.1.natAbs < (f (f u.1)).natAbs := by
  constructor
  · intro h
    obtain ⟨t, ht, rfl⟩ := List.mem_map.mp h
    obtain ⟨l1, l2, l3⟩ := R.sub ht
    obtain ⟨h1, h2, h3⟩ := R.rot t ht
    have d1 := T.ne _ l1
    have d2 := T.ne _ l2
    have d3 := T.ne _ l3
    rw [h1] at d1
    rw [h2] at d2
    rw [h3] at d3
    unfold canon
    split
    · rename_i c
      rw [h1, h2]
      exact ⟨l1, rfl, rfl, by omega, by omega⟩
    · split
      · rename_i c1 c2
        simp only
        rw [h2, h3]
        exact ⟨l2, rfl, rfl, by omega, by omega⟩
      · rename_i c1 c2
        simp only
        rw [h3, h1]
        exact ⟨l3, rfl, rfl, by omega, by omega⟩
  · rintro ⟨l1, e2, e3, c1, c2⟩
    obtain ⟨x, y, z⟩ := u
    simp only at l1 e2 e3 c1 c2
    subst e2 e3
    obtain ⟨t, ht, hxt⟩ := List.mem_flatMap.mp (R.mem.mpr l1)
    obtain ⟨h1, h2, h3⟩ := R.rot t ht
    refine List.mem_map.mpr ⟨t, ht, ?_⟩
    obtain ⟨a, b, c⟩ := t
    simp only at h1 h2 h3
    unfold tl at hxt
    simp only [List.mem_cons, List.not_mem_nil, or_false] at hxt
    unfold canon
    simp only
    rcases hxt with e | e | e
    · subst e
      rw [h1] at c1 c2 ⊢
      rw [h2] at c2 ⊢
      rw [if_pos ⟨by omega, by omega⟩]
    · subst e
      rw [h2] at c1 c2 ⊢
      rw [h3] at c2 ⊢
      rw [if_neg (by omega), if_pos (by omega)]
    · subst e
      rw [h3] at c1 c2 ⊢
      rw [h1] at c2 ⊢
      rw [if_neg (by omega), if_neg (by omega)]
theorem Reps.canon_nodup (R : Reps ts L f) : (ts.map canon).Nodup := by
  have h := (flatMap_perm (l := ts) canon_perm).nodup_iff.mpr R.nodup
  generalize ts.map canon = l at h
  induction l with
  | nil => exact List.nodup_nil
  | cons t r ih =>
    rw [List.flatMap_cons] at h
    obtain ⟨h1, h2, h3⟩ := List.nodup_append.mp h
    refine List.nodup_cons.mpr ⟨fun hm => ?_, ih h2⟩
    exact h3 t.1 List.mem_cons_self t.1 (List.mem_flatMap.mpr ⟨t, hm, List.mem_cons_self⟩) rfl
/-- the sorted triangles depend on f alone -/
theorem Reps.ord_eq (R : Reps ts L f) (R' : Reps ts' L f) (T : Tr L f) : inOrder ts = inOrder ts' := by
  unfold inOrder
  have hp : (ts.map canon).Perm (ts'.map canon) := (List.perm_ext_iff_of_nodup R.canon_nodup R'.canon_nodup).mpr fun u => (R.canon_mem T u).trans (R'.canon_mem T u).symm
  exact sorted_eq ((List.mergeSort_perm _ _).trans (hp.trans (List.mergeSort_perm _ _).symm)) (List.pairwise_mergeSort leT_trans leT_total _) (List.pairwise_mergeSort leT_trans leT_total _)
end
/-! ### the nails met -/
open Classical in
noncomputable def perOf {α : Type} (s : α → α) (x : α) : Nat := if h : ∃ n, Per s x n then h.choose else 0
noncomputable def sOrb (f : Int → Int) (x : Int) : List Int := orb (sg f) x (perOf (sg f) x)
theorem perOf_spec {α : Type} {s : α → α} {x : α} (h : ∃ n, Per s x n) : Per s x (perOf s x) := by
  unfold perOf
  rw [dif_pos h]
  exact h.choose_spec
theorem Per.uniq {α : Type} {s : α → α} {x : α} {m n : Nat} (a : Per s x m) (b : Per s x n) : m = n := by
  rcases Nat.lt_trichotomy m n with h | h | h
  · exact absurd a.end_ (b.min m a.pos h)
  · exact h
  · exact absurd b.end_ (a.min n b.pos h)
theorem Per.eq {α : Type} {s : α → α} {x : α} {n : Nat} (a : Per s x n) : perOf s x = n := (perOf_spec ⟨n, a⟩).uniq a
noncomputable def metL (f : Int → Int) (xs : List Int) : List (List Int) := xs.foldl (fun fd x => if fd.any (fun l => decide (x ∈ l)) = true then fd else fd ++ [sOrb f x]) []
section
variable {L n : Nat} {f e : Int → Int}
theorem Tr.sg_in (T : Tr L f) {x : Int} (hx : IsLn L x) : IsLn L (sg f x) := (T.ln _ (T.ln _ hx)).neg
theorem Tr.sg_inj (T : Tr L f) {x y : Int} (hx : IsLn L x) (hy : IsLn L y) (h : sg f x = sg f y) : x = y := by
  unfold sg at h
  exact T.inj hx hy (T.inj (T.ln _ hx) (T.ln _ hy) (Int.neg_inj.mp h))
theorem Tr.sper (T : Tr L f) {x : Int} (hx : IsLn L x) : Per (sg f) x (perOf (sg f) x) ∧ perOf (sg f) x ≤ 2 * L := by
  obtain ⟨n, h1, h2⟩ := period (s := sg f) (X := lns L) (fun y hy => mem_lns.mpr (T.sg_in (mem_lns.mp hy))) (fun y hy z hz e => T.sg_inj (mem_lns.mp hy) (mem_lns.mp hz) e) (mem_lns.mpr hx)
  rw [h1.eq, ← lns_len L]
  exact ⟨h1, h2⟩
theorem Tr.sorb_in (T : Tr L f) {x y : Int} (hx : IsLn L x) (h : y ∈ sOrb f x) : IsLn L y := by
  obtain ⟨i, _, rfl⟩ := mem_orb.mp h
  exact mem_lns.mp (it_mem (X := lns L) (fun y hy => mem_lns.mpr (T.sg_in (mem_lns.mp hy))) (mem_lns.mpr hx) i)
theorem Web.sorb (W : Web L n f e) {x y : Int} (hx : IsLn L x) (hy : IsLn L y) : y ∈ sOrb f x ↔ e y = e x := by
  have T := W.tr
  obtain ⟨P, _⟩ := T.sper hx
  constructor
  · intro h
    have key : ∀ i, e (it (sg f) i x) = e x := fun i => by
      induction i with
      | zero => rfl
      | succ i ih => exact (W.es _ (mem_lns.mp (it_mem (s := sg f) (X := lns L) (fun y hy => mem_lns.mpr (T.sg_in (mem_lns.mp hy))) (mem_lns.mpr hx) i))).trans ih
    obtain ⟨i, _, rfl⟩ := mem_orb.mp h
    exact key i
  · intro h
    refine W.eo (fun w => w ∈ sOrb f x) (fun w hw => ⟨fun hm => P.next hm, fun hm => ?_⟩) x y hx hy h.symm P.self
    obtain ⟨z, hz, ez⟩ := P.prev hm
    exact T.sg_inj (T.sorb_in hx hz) hw ez ▸ hz
/-- what is met, up to a place -/
structure Met (L : Nat) (f e : Int → Int) (xs : List Int) (fd : List (List Int)) : Prop where
  is : ∀ l ∈ fd, ∃ x, IsLn L x ∧ l = sOrb f x ∧ l.head? = some x
  dis : fd.Pairwise fun l m => ∀ x ∈ l, ∀ y ∈ m, e x ≠ e y
  all : ∀ x ∈ xs, ∃ l ∈ fd, x ∈ l
theorem met_of (W : Web L n f e) : ∀ (xs ys : List Int) (fd : List (List Int)), (∀ x ∈ ys, IsLn L x) → Met L f e xs fd → Met L f e (xs ++ ys) (ys.foldl (fun fd x => if fd.any (fun l => decide (x ∈ l)) = true then fd else fd ++ [sOrb f x]) fd)
  | xs, [], fd, _, M => by rw [List.append_nil]; exact M
  | xs, y :: ys, fd, hl, M => by
    rw [List.foldl_cons, List.append_cons]
    refine met_of W _ ys _ (fun x hx => hl x (List.mem_cons_of_mem _ hx)) ?_
    have hy := hl y List.mem_cons_self
    by_cases h : (fd.any fun l => decide (y ∈ l)) = true
    · rw [if_pos h]
      refine ⟨M.is, M.dis, fun x hx => ?_⟩
      rcases List.mem_append.mp hx with hx | hx
      · exact M.all x hx
      · rw [List.mem_singleton.mp hx]
        obtain ⟨l, h1, h2⟩ := List.any_eq_true.mp h
        exact ⟨l, h1, of_decide_eq_true h2⟩
    · rw [if_neg h]
      obtain ⟨P, _⟩ := W.tr.sper hy
      refine ⟨fun l hl' => ?_, List.pairwise_append.mpr ⟨M.dis, List.pairwise_singleton _ _, fun l hl' m hm => ?_⟩, fun x hx => ?_⟩
      · rcases List.mem_append.mp hl' with hl' | hl'
        · exact M.is l hl'
        · rw [List.mem_singleton.mp hl']
          refine ⟨y, hy, rfl, ?_⟩
          unfold sOrb orb
          rw [List.head?_map, List.head?_range, if_neg (by have := P.pos; omega)]
          rfl
      · rw [List.mem_singleton.mp hm]
        intro x hx z hz e0
        obtain ⟨w, hw, rfl, _⟩ := M.is l hl'
        have lx := W.tr.sorb_in hw hx
        have lz := W.tr.sorb_in hy hz
        have e1 := (W.sorb hw lx).mp hx
        have e2 := (W.sorb hy lz).mp hz
        exact h (List.any_eq_true.mpr ⟨_, hl', decide_eq_true ((W.sorb hw hy).mpr (by rw [← e2, ← e0, e1]))⟩)
      · rcases List.mem_append.mp hx with hx | hx
        · obtain ⟨l, h1, h2⟩ := M.all x hx
          exact ⟨l, List.mem_append_left _ h1, h2⟩
        · rw [List.mem_singleton.mp hx]
          exact ⟨_, List.mem_append_right _ List.mem_cons_self, P.self⟩
theorem Web.met (W : Web L n f e) : Met L f e (lns L) (metL f (lns L)) := by
  have := met_of W [] (lns L) [] (fun x hx => mem_lns.mp hx) ⟨fun l hl => (nomatch hl), List.Pairwise.nil, fun x hx => (nomatch hx)⟩
  rwa [List.nil_append] at this
def hd (l : List Int) : Int := l.headD 0
/-- the nails in the order met -/
noncomputable def ordL (L : Nat) (f e : Int → Int) : List Int := (metL f (lns L)).map fun l => e (hd l)
theorem Met.head {xs : List Int} {fd : List (List Int)} (M : Met L f e xs fd) (W : Web L n f e) {l : List Int} (hl : l ∈ fd) : IsLn L (hd l) ∧ l = sOrb f (hd l) ∧ hd l ∈ l ∧ ∀ x ∈ l, IsLn L x ∧ e x = e (hd l) := by
  obtain ⟨x, hx, h1, h2⟩ := M.is l hl
  have e1 : hd l = x := by unfold hd; rw [List.headD_eq_head?_getD, h2]; rfl
  rw [e1]
  obtain ⟨P, _⟩ := W.tr.sper hx
  refine ⟨hx, h1, by rw [h1]; exact P.self, fun y hy => ?_⟩
  rw [h1] at hy
  have ly := W.tr.sorb_in hx hy
  exact ⟨ly, (W.sorb hx ly).mp hy⟩
theorem Web.ord_perm (W : Web L n f e) : (ordL L f e).Perm ((List.range n).map fun i => ((i : Nat) : Int)) := by
  have M := W.met
  refine (List.perm_ext_iff_of_nodup ?_ ?_).mpr fun v => ?_
  · unfold ordL
    rw [List.nodup_iff_pairwise_ne, List.pairwise_map]
    refine M.dis.imp_of_mem fun {l m} hl hm h => ?_
    exact h _ (M.head W hl).2.2.1 _ (M.head W hm).2.2.1
  · rw [List.nodup_iff_pairwise_ne, List.pairwise_map]
    exact List.pairwise_lt_range.imp fun h e => by omega
  · unfold ordL
    simp only [List.mem_map, List.mem_range]
    constructor
    · rintro ⟨l, hl, rfl⟩
      obtain ⟨h1, h2⟩ := W.er _ (M.head W hl).1
      exact ⟨(e (hd l)).toNat, by omega, by omega⟩
    · rintro ⟨i, hi, rfl⟩
      obtain ⟨x, hx, ex⟩ := W.ex i (by omega) (by omega)
      obtain ⟨l, hl, hm⟩ := M.all x (mem_lns.mpr hx)
      exact ⟨l, hl, by rw [← ((M.head W hl).2.2.2 x hm).2, ex]⟩
theorem Web.ord_len (W : Web L n f e) : (metL f (lns L)).length = n := by
  have := W.ord_perm.length_eq
  unfold ordL at this
  rw [List.length_map, List.length_map, List.length_range] at this
  exact this
/-- the ends told by the nails met -/
noncomputable def endsKv (L : Nat) (f : Int → Int) (ord : List Int) : List (Int × Int) := (ord.zip (metL f (lns L))).flatMap fun vl => vl.2.map fun x => (x, vl.1)
theorem zip_map_self {α β : Type} (g : α → β) : ∀ l : List α, (l.map g).zip l = l.map fun a => (g a, a)
  | [] => rfl
  | a :: l => by rw [List.map_cons, List.zip_cons_cons, zip_map_self g l]; rfl
theorem Web.flat_perm (W : Web L n f e) : (metL f (lns L)).flatten.Perm (lns L) := by
  have M := W.met
  refine (List.perm_ext_iff_of_nodup ?_ (lns_nodup L)).mpr fun x => ?_
  · rw [List.nodup_iff_pairwise_ne, List.pairwise_flatten]
    refine ⟨fun l hl => ?_, M.dis.imp fun h a ha b hb e0 => h a ha b hb (by rw [e0])⟩
    rw [← List.nodup_iff_pairwise_ne]
    obtain ⟨h1, h2, _⟩ := M.head W hl
    rw [h2]
    obtain ⟨P, _⟩ := W.tr.sper h1
    exact P.nodup (X := lns L) (fun y hy => mem_lns.mpr (W.tr.sg_in (mem_lns.mp hy))) (fun y hy z hz e => W.tr.sg_inj (mem_lns.mp hy) (mem_lns.mp hz) e) (mem_lns.mpr h1)
  · rw [List.mem_flatten]
    constructor
    · rintro ⟨l, hl, hx⟩
      exact mem_lns.mpr ((M.head W hl).2.2.2 x hx).1
    · exact M.all x
theorem ends_keys (W : Web L n f e) : (endsKv L f (ordL L f e)).map (·.1) = (metL f (lns L)).flatten := by
  unfold endsKv ordL
  rw [zip_map_self]
  generalize metL f (lns L) = l
  induction l with
  | nil => rfl
  | cons a l ih =>
    rw [List.map_cons, List.flatMap_cons, List.map_append, ih, List.flatten_cons, List.map_map]
    congr 1
    exact (List.map_congr_left fun x _ => rfl).trans (List.map_id a)
theorem Web.ends (W : Web L n f e) {x : Int} (hx : IsLn L x) : getA (putAll (endsKv L f (ordL L f e))) x = some (e x) ∧ (putAll (endsKv L f (ordL L f e))).length = 2 * L := by
  have M := W.met
  have hnd : ((endsKv L f (ordL L f e)).map (·.1)).Nodup := by
    rw [ends_keys W]
    exact W.flat_perm.nodup_iff.mpr (lns_nodup L)
  have e0 : putAll (endsKv L f (ordL L f e)) = endsKv L f (ordL L f e) := by
    unfold putAll
    rw [putAll_nodup _ [] (by rw [List.nil_append]; exact hnd), List.nil_append]
  rw [e0]
  constructor
  · refine getA_of_nodup hnd ?_
    obtain ⟨l, hl, hm⟩ := M.all x (mem_lns.mpr hx)
    unfold endsKv ordL
    rw [zip_map_self]
    refine List.mem_flatMap.mpr ⟨(e (hd l), l), List.mem_map.mpr ⟨l, hl, rfl⟩, List.mem_map.mpr ⟨x, hm, ?_⟩⟩
    rw [((M.head W hl).2.2.2 x hm).2]
  · rw [← List.length_map (·.1), ends_keys W, W.flat_perm.length_eq, lns_len]
end
end FtM
set_option maxHeartbeats 4000000
/-! what the walks share -/
namespace FtR
open PySem PySem.Spec PyProof.Rows L2
open FtM (getA putA Tri it orb)
structure Bl (M : Mo) : Prop where
  abs : M.mg "abs" = none
  all : M.mg "all" = none
  any : M.mg "any" = none
  bool : M.mg "bool" = none
  dict : M.mg "dict" = none
  enumerate : M.mg "enumerate" = none
  int : M.mg "int" = none
  isinstance : M.mg "isinstance" = none
  len : M.mg "len" = none
  list : M.mg "list" = none
  max : M.mg "max" = none
  min : M.mg "min" = none
  range : M.mg "range" = none
  set : M.mg "set" = none
  sorted : M.mg "sorted" = none
  sum : M.mg "sum" = none
  tuple : M.mg "tuple" = none
  zip : M.mg "zip" = none
def e3 (t : Tri) : Dt := eT [t.1, t.2.1, t.2.2]
def eD (kvs : List (Int × Tri)) : List (Int × Dt) := kvs.map fun kv => (kv.1, e3 kv.2)
def eI (kvs : List (Int × Int)) : List (Int × Dt) := kvs.map fun kv => (kv.1, Dt.int kv.2)
def eLL (ls : List (List Int)) : Dt := .lst (ls.map eL)
theorem getA_map {κ α β : Type} [DecidableEq κ] (f : α → β) (k : κ) : ∀ kvs : List (κ × α), getA (kvs.map fun kv => (kv.1, f kv.2)) k = (getA kvs k).map f
  | [] => rfl
  | kv :: r => by
    have ih := getA_map f k r
    unfold getA at ih ⊢
    rw [List.map_cons, List.find?_cons, List.find?_cons]
    by_cases e : kv.1 = k
    · simp [e]
    · simp only [e, decide_false]
      exact ih
theorem getD_at {kvs : List (Int × Tri)} {k : Int} {t : Tri} (h : getA kvs k = some t) : getA (eD kvs) k = some (e3 t) := by unfold eD; rw [getA_map, h]; rfl
theorem getI_at {kvs : List (Int × Int)} {k : Int} {t : Int} (h : getA kvs k = some t) : getA (eI kvs) k = some (.int t) := by unfold eI; rw [getA_map, h]; rfl
theorem putA_map {κ α β : Type} [DecidableEq κ] (f : α → β) (k : κ) (v : α) (kvs : List (κ × α)) : putA (kvs.map fun kv => (kv.1, f kv.2)) k (f v) = (putA kvs k v).map fun kv => (kv.1, f kv.2) := by
  unfold putA
  rw [List.any_map]
  by_cases h : (kvs.any fun kv => decide (kv.1 = k)) = true
  · rw [if_pos h, if_pos (by simpa using h), List.map_map, List.map_map]
    refine List.map_congr_left fun kv _ => ?_
    simp only [Function.comp]
    split <;> rfl
  · rw [if_neg h, if_neg (by simpa using h), List.map_append]
    rfl
theorem putI (k v : Int) (kvs : List (Int × Int)) : putA (eI kvs) k (.int v) = eI (putA kvs k v) := putA_map Dt.int k v kvs
theorem putD (k : Int) (v : Tri) (kvs : List (Int × Tri)) : putA (eD kvs) k (e3 v) = eD (putA kvs k v) := putA_map e3 k v kvs
section
variable {C : Cxs} {F : Fr} {e a b c o : Expr} {es : List Expr} {ds : DEnv} {os os1 os2 : Own} {d x y : Dt} {pos : Pos} {i j : Int}
theorem x_pow (ha : PX C F a ds os (.int i) os1) (hb : PX C F b ds os1 (.int j) os2) (h : CPow i j) : PX C F (.BinOp a .Pow b pos) ds os (.int (i ^ j.toNat)) os2 := x_op (fun _ => op_pow) ha hb (rd_I h fun _ => Is.mk_int)
theorem x_ixI {is : List Int} {v : Int} (ha : PX C F a ds os x os1) (hb : PX C F b ds os1 (.int i) os2) (hq : AsL os2 x (is.map Dt.int)) (h0 : 0 ≤ i) (hv : is[i.toNat]? = some v) (hs : ∀ j : C.ι, PlainIx b := by exact fun _ _ _ => rfl) : PX C F (.Subscript a b pos) ds os (.int v) os2 :=
  x_ixL ha hb hq (by rw [show i = ((i.toNat : Nat) : Int) by omega]; exact atI_nat (by rw [List.getElem?_map, hv]; rfl)) hs
end
theorem atI_get {α : Type} {xs : List α} {i : Int} {v : α} (h0 : 0 ≤ i) (h : xs[i.toNat]? = some v) : atI xs i = some v := by
  rw [show i = ((i.toNat : Nat) : Int) by omega]
  exact atI_nat h
end FtR
/-! the law's dice -/
namespace FtR
open PySem PySem.Spec PyProof.Rows L2
open FtM (getA putA Tri it orb)
/-! ### _law_pick -/
structure Deal where
  cells : List Int
  i : Int
  cur : Int
  mark : Int
def eDeal (s : Deal) : Ob := .lst [.lst (s.cells.map Dt.int), .int s.i, .int s.cur, .int s.mark]
def cellOf (s : Deal) : Int := if s.i + 1 ≤ (s.cells.length : Int) then s.cells.getD s.i.toNat 0 else s.mark + (s.i + 1) * 8467
def early (s : Deal) : Int := (cellOf s * 45361 + (s.i + 1) * 39119 + s.mark) % 2147483647
def late (s : Deal) : Int := (early s * early s + (s.i + 1) * 50021) % 998244353
def pick (s : Deal) (m : Int) : Int × Deal :=
  if s.cur < 2 then
    if decide ((s.cells.length : Int) < s.i + 1) || decide (cellOf s < 10 ^ 18) then ((late s * 48619 + early s) % 2147483563 / 19 % m, { s with i := s.i + 1 })
    else (cellOf s % m, { s with i := s.i + 1, cur := cellOf s / m })
  else (s.cur % m, { s with cur := s.cur / m })
theorem pick_lt (s : Deal) {m : Int} (h : 0 < m) : 0 ≤ (pick s m).1 ∧ (pick s m).1 < m := by
  unfold pick
  split
  · split
    · exact ⟨Int.emod_nonneg _ (by omega), Int.emod_lt_of_pos _ h⟩
    · exact ⟨Int.emod_nonneg _ (by omega), Int.emod_lt_of_pos _ h⟩
  · exact ⟨Int.emod_nonneg _ (by omega), Int.emod_lt_of_pos _ h⟩
theorem pick_i (s : Deal) (m : Int) (h : 0 ≤ s.i) : 0 ≤ (pick s m).2.i := by
  unfold pick
  split
  · split
    · show 0 ≤ s.i + 1
      omega
    · show 0 ≤ s.i + 1
      omega
  · exact h
abbrev sPick : Stmt := topS 62
abbrev nPick : List Str := ["_law_deal_here", "_law_many_here", "_law_cell", "_law_early", "_law_late", "_law_drawn"]
theorem scPick : FnScope nPick ["_law_deal_here", "_law_many_here"] (defScope sPick) := ⟨rfl, rfl, rfl, by decide +kernel, rfl, by decide +kernel, by decide +kernel⟩
def PPick (o : Ob) (ds : List Dt) (d : Dt) (o' : Ob) : Prop := ∃ (s : Deal) (m : Int), o = eDeal s ∧ ds = [.int m] ∧ 0 < m ∧ m < 1000000 ∧ 0 ≤ s.i ∧ d = .int (pick s m).1 ∧ o' = eDeal (pick s m).2
section
variable {M : Mo}
theorem ok_pick {f : Addr} {fd : FuncData} (F : L2.Fun M.K "_law_pick" "_law_pick" sPick f fd) (B : Bl M) : FnOk M.P M.w M.K M.mg M.base CX0 1 f fd ["_law_deal_here", "_law_many_here"] (spM M.w PPick) := by
  have nd := scPick.nd
  refine FtR.Fun.okM (k := 0) F scPick (fun o ds d o' ⟨_, _, _, h, _⟩ => by rw [h]; rfl) fun cdv A outer s0 H E hr F D q o ds d o' hP hq => ?_
  obtain ⟨s, m, rfl, rfl, hm0, hm1, hi, rfl, rfl⟩ := hP
  have tail : ∀ (s' : Deal) (a b c : Option Dt), (pick s m).1 = s'.cur % m → (pick s m).2 = { s' with cur := s'.cur / m } →
      Run (cx0 M 0 nPick "_law_pick" (defScope sPick) f cdv A outer s0 H E hr) F ((defBody sPick).drop 1) D [some (.adr q), some (.int m), a, b, c, none] [(q, eDeal s')] := fun s' a b c h1 h2 => by
    refine r_set 5 (x_mod (x_int1 B.int (x_ixL (v 0 rfl) x_int (.own 0 rfl) rfl)) (v 1 rfl) hm0) ?_
    refine r_setix (j := 2) 0 (x_fdiv (x_int1 B.int (x_ixL (v 0 rfl) x_int (.own 0 rfl) rfl)) (v 1 rfl) ⟨hm0, by omega⟩) (v 0 rfl) x_int rfl rfl ?_
    refine r_ret (v 5 rfl) ?_
    rw [h1, h2] at hq
    exact hq _ 0 rfl
  refine r_if (b_lt (x_ixL (v 0 rfl) x_int (.own 0 rfl) rfl) x_int) (fun e => ?_) (fun e => r_end ?_)
  · have hc : s.cur < 2 := of_decide_eq_true e
    refine r_setix (j := 1) 0 (x_add (x_ixL (v 0 rfl) x_int (.own 0 rfl) rfl) x_int) (v 0 rfl) x_int rfl rfl ?_
    refine r_set 2 (x_add (x_ixL (v 0 rfl) x_int (.own 0 rfl) rfl) (x_mul (x_ixL (v 0 rfl) x_int (.own 0 rfl) rfl) x_int (.inr ⟨by decide, by decide⟩))) ?_
    refine r_ifM (fun ds os => ds = [some (.adr q), some (.int m), some (.int (cellOf s)), none, none, none] ∧ os = [(q, eDeal { s with i := s.i + 1 })]) (b_le (x_ixL (v 0 rfl) x_int (.own 0 rfl) rfl) (x_len B.len (x_ixL (v 0 rfl) x_int (.own 0 rfl) rfl) (.lst (.dat _)))) (fun e1 => ?_) (fun e1 => ?_) ?_
    · have h1 : s.i + 1 ≤ (s.cells.length : Int) := by
        have := of_decide_eq_true e1
        rwa [List.length_map] at this
      refine r_set 2 (x_ixI (x_ixL (v 0 rfl) x_int (.own 0 rfl) rfl) (x_sub (x_ixL (v 0 rfl) x_int (.own 0 rfl) rfl) x_int) (.dat _) (by omega) (v := s.cells.getD s.i.toNat 0) ?_) ?_
      · rw [show (s.i + 1 - 1 : Int) = s.i by omega, List.getD_eq_getElem?_getD, List.getElem?_eq_getElem (by omega)]
        rfl
      · refine r_loop _ ⟨rfl, rfl⟩ ?_
        unfold cellOf
        rw [if_pos h1]
        exact Sub.refl _
    · have h1 : ¬ s.i + 1 ≤ (s.cells.length : Int) := by
        have := of_decide_eq_false e1
        rwa [List.length_map] at this
      refine r_loop _ ⟨rfl, rfl⟩ ?_
      unfold cellOf
      rw [if_neg h1]
      exact Sub.refl _
    · rintro _ _ ⟨rfl, rfl⟩
      refine r_if (b_w (w_or (b_gt (x_ixL (v 0 rfl) x_int (.own 0 rfl) rfl) (x_len B.len (x_ixL (v 0 rfl) x_int (.own 0 rfl) rfl) (.lst (.dat _)))) (fun _ => w_or1 (b_lt (v 2 rfl) (x_pow x_int x_int ⟨by decide, by decide, by decide⟩))) (fun _ => rfl))) (fun e2 => ?_) (fun e2 => r_end ?_)
      · rw [List.length_map] at e2
        have e2' : (decide ((s.cells.length : Int) < s.i + 1) || decide (cellOf s < 10 ^ 18)) = true := e2
        have hp : pick s m = ((late s * 48619 + early s) % 2147483563 / 19 % m, { s with i := s.i + 1 }) := by
          unfold pick
          rw [if_pos hc, if_pos e2']
        have he0 : 0 ≤ early s := Int.emod_nonneg _ (by decide)
        have he1 : early s < 2147483647 := Int.emod_lt_of_pos _ (by decide)
        refine r_set 3 (x_mod (x_int1 B.int (x_add (x_add (x_mul (v 2 rfl) x_int (.inr ⟨by decide, by decide⟩)) (x_mul (x_ixL (v 0 rfl) x_int (.own 0 rfl) rfl) x_int (.inr ⟨by decide, by decide⟩))) (x_ixL (v 0 rfl) x_int (.own 0 rfl) rfl))) x_int (by decide)) ?_
        refine r_set (d := .int (late s)) 4 (x_mod (x_int1 B.int (x_add (x_mul (v (d := .int (early s)) 3 rfl) (v (d := .int (early s)) 3 rfl) (.inl ⟨by omega, by omega⟩)) (x_mul (x_ixL (v 0 rfl) x_int (.own 0 rfl) rfl) x_int (.inr ⟨by decide, by decide⟩)))) x_int (by decide)) ?_
        refine r_ret (x_mod (x_fdiv (x_mod (x_int1 B.int (x_add (x_mul (v 4 rfl) x_int (.inr ⟨by decide, by decide⟩)) (v (d := .int (early s)) 3 rfl))) x_int (by decide)) x_int ⟨by decide, by decide⟩) (v 1 rfl) hm0) ?_
        rw [hp] at hq
        exact hq _ 0 rfl
      · rw [List.length_map] at e2
        have e2' : (decide ((s.cells.length : Int) < s.i + 1) || decide (cellOf s < 10 ^ 18)) = false := e2
        have hp : pick s m = (cellOf s % m, { s with i := s.i + 1, cur := cellOf s / m }) := by
          unfold pick
          rw [if_pos hc, if_neg (by rw [e2']; exact Bool.false_ne_true)]
        refine r_setix (j := 2) 0 (v 2 rfl) (v 0 rfl) x_int rfl rfl ?_
        refine r_end ?_
        exact tail { s with i := s.i + 1, cur := cellOf s } _ _ _ (by rw [hp]) (by rw [hp])
  · have hc : ¬ s.cur < 2 := of_decide_eq_false e
    have hp : pick s m = (s.cur % m, { s with cur := s.cur / m }) := by
      unfold pick
      rw [if_neg hc]
    exact tail s _ _ _ (by rw [hp]) (by rw [hp])
end
end FtR
/-! the law's webs -/
namespace FtR
open PySem PySem.Spec PyProof.Rows L2
open FtM (getA putA Tri it orb)
/-! ### _law_of -/
abbrev sOf : Stmt := topS 63
abbrev nOf : List Str := ["_law_deal_here", "_law_items"]
theorem scOf : FnScope nOf ["_law_deal_here", "_law_items"] (defScope sOf) := ⟨rfl, rfl, rfl, by decide +kernel, rfl, by decide +kernel, by decide +kernel⟩
def POf (o : Ob) (ds : List Dt) (d : Dt) (o' : Ob) : Prop := ∃ (s : Deal) (xs : List Dt), o = eDeal s ∧ ds = [.lst xs] ∧ 0 < xs.length ∧ xs.length < 1000000 ∧ 0 ≤ s.i ∧ xs[(pick s xs.length).1.toNat]? = some d ∧ o' = eDeal (pick s xs.length).2
/-! ### _law_mixed -/
abbrev sMixed : Stmt := topS 64
abbrev nMixed : List Str := ["_law_deal_here", "_law_items", "_law_found", "_law_thing"]
theorem scMixed : FnScope nMixed ["_law_deal_here", "_law_items"] (defScope sMixed) := ⟨rfl, rfl, rfl, by decide +kernel, rfl, by decide +kernel, by decide +kernel⟩
def mixL : Deal → List Int → List Int → List Int × Deal
  | s, fd, [] => (fd, s)
  | s, fd, x :: xs => mixL (pick s ((fd.length : Int) + 1)).2 (fd.take (pick s ((fd.length : Int) + 1)).1.toNat ++ [x] ++ fd.drop (pick s ((fd.length : Int) + 1)).1.toNat) xs
theorem mixL_perm : ∀ (xs : List Int) (s : Deal) (fd : List Int), 0 ≤ s.i → (mixL s fd xs).1.Perm (fd ++ xs) ∧ 0 ≤ (mixL s fd xs).2.i
  | [], s, fd, h => ⟨by rw [List.append_nil]; exact List.Perm.refl _, h⟩
  | x :: xs, s, fd, h => by
    unfold mixL
    generalize hr : (pick s ((fd.length : Int) + 1)).1.toNat = r
    obtain ⟨h1, h2⟩ := mixL_perm xs (pick s ((fd.length : Int) + 1)).2 (fd.take r ++ [x] ++ fd.drop r) (pick_i s _ h)
    refine ⟨h1.trans ?_, h2⟩
    rw [List.append_assoc, List.append_assoc]
    have e : (fd.take r ++ (fd.drop r ++ (x :: xs))) = fd ++ (x :: xs) := by rw [← List.append_assoc, List.take_append_drop]
    rw [← e]
    refine List.Perm.append_left _ ?_
    show (x :: (fd.drop r ++ xs)).Perm (fd.drop r ++ (x :: xs))
    exact List.perm_middle.symm
def PMixed (o : Ob) (ds : List Dt) (d : Dt) (o' : Ob) : Prop := ∃ (s : Deal) (xs : List Int), o = eDeal s ∧ ds = [eL xs] ∧ xs.length < 1000 ∧ 0 ≤ s.i ∧ d = eL (mixL s [] xs).1 ∧ o' = eDeal (mixL s [] xs).2
/-! ### _law_drum -/
abbrev sDrum : Stmt := topS 65
abbrev nDrum : List Str := ["_law_many_here", "_law_rim", "_law_found", "_law_here", "_law_late"]
theorem scDrum : FnScope nDrum ["_law_many_here"] (defScope sDrum) := ⟨rfl, rfl, rfl, by decide +kernel, rfl, by decide +kernel, by decide +kernel⟩
def drum1 (rim h : Int) : List Tri := [(h, rim + (if h < rim then h + 1 else 1), -(rim + h)), (-h, 2 * rim + h, -(2 * rim + (if h < rim then h + 1 else 1)))]
def drumT (rim : Int) : List Tri := (List.range rim.toNat).flatMap fun i => drum1 rim (1 + (i : Nat))
def PDrum (ds : List Dt) (d : Dt) : Prop := ∃ n : Int, ds = [.int n] ∧ 2 ≤ n ∧ n < 1000 ∧ d = .lst ((drumT (n - 2)).map e3)
/-! ### _law_parts -/
abbrev sParts : Stmt := topS 66
abbrev nParts : List Str := ["_law_tris", "_law_found", "_law_x", "_law_y", "_law_z"]
theorem scParts : FnScope nParts ["_law_tris"] (defScope sParts) := ⟨rfl, rfl, rfl, by decide +kernel, rfl, by decide +kernel, by decide +kernel⟩
def PParts (ds : List Dt) (d : Dt) : Prop := ∃ ts : List Tri, ds = [.lst (ts.map e3)] ∧ ts.length ≤ 1000 ∧ d = dicOf (eD (FtM.parts ts))
/-! ### _law_around -/
abbrev sAround : Stmt := topS 67
abbrev nAround : List Str := ["_law_parts_here", "_law_line", "_law_found", "_law_here"]
theorem scAround : FnScope nAround ["_law_parts_here", "_law_line"] (defScope sAround) := ⟨rfl, rfl, rfl, by decide +kernel, rfl, by decide +kernel, by decide +kernel⟩
/-- the lines around a nail, by the step s -/
def PAround (ds : List Dt) (d : Dt) : Prop := ∃ (kvs : List (Int × Tri)) (x : Int) (n : Nat) (s : Int → Int), ds = [dicOf (eD kvs), .int x] ∧ (∀ i, i < n → ∃ a b, getA kvs (it s i x) = some (a, b, -s (it s i x))) ∧ FtM.Per s x n ∧ n ≤ 1000 ∧ d = eL (orb s x n)
/-! ### _law_lines -/
abbrev sLines : Stmt := topS 68
abbrev nLines : List Str := ["_law_tris", "_law_found", "_law_line"]
theorem scLines : FnScope nLines ["_law_tris"] (defScope sLines) := ⟨rfl, rfl, rfl, by decide +kernel, rfl, by decide +kernel, by decide +kernel⟩
def PLines (ds : List Dt) (d : Dt) : Prop := ∃ (xs : List Dt) (L : Nat), ds = [.lst xs] ∧ 3 * xs.length = 2 * L ∧ L ≤ 1000 ∧ d = eL (FtM.lns L)
section
variable {M : Mo} {f : Addr} {fd : FuncData}
theorem ok_of (F : L2.Fun M.K "_law_of" "_law_of" sOf f fd) (B : Bl M) (Gp : Glob M "_law_pick" 1 ["_law_deal_here", "_law_many_here"] (spM M.w PPick)) : FnOk M.P M.w M.K M.mg M.base CX0 2 f fd ["_law_deal_here", "_law_items"] (spM M.w POf) := by
  have nd := scOf.nd
  refine FtR.Fun.okM (k := 1) F scOf (fun o ds d o' ⟨_, _, _, h, _⟩ => by rw [h]; rfl) fun cdv A outer s0 H E hr F D q o ds d o' hP hq => ?_
  obtain ⟨s, xs, rfl, rfl, h0, h1, hi, hd, rfl⟩ := hP
  refine r_ret (x_ixL (v 1 rfl) (x_callM Gp 0 (l2 (v 0 rfl) (x_len B.len (v 1 rfl) (.lst (.dat _)))) rfl ⟨s, _, rfl, rfl, by omega, by omega, hi, rfl, rfl⟩) (.dat _) (atI_get (pick_lt s (by omega)).1 hd)) (hq _ 0 rfl)
theorem ok_mixed (F : L2.Fun M.K "_law_mixed" "_law_mixed" sMixed f fd) (B : Bl M) (Gp : Glob M "_law_pick" 1 ["_law_deal_here", "_law_many_here"] (spM M.w PPick)) : FnOk M.P M.w M.K M.mg M.base CX0 2 f fd ["_law_deal_here", "_law_items"] (spM M.w PMixed) := by
  have nd := scMixed.nd
  refine FtR.Fun.okM (k := 1) F scMixed (fun o ds d o' ⟨_, _, _, h, _⟩ => by rw [h]; rfl) fun cdv A outer s0 H E hr F D q o ds d o' hP hq => ?_
  obtain ⟨s, xs, rfl, rfl, h1, hi, rfl, rfl⟩ := hP
  refine r_setN 2 (n_lst l_nil) fun p => ?_
  refine r_for (xs := xs.map Dt.int) (fun i ds os => ∃ (s' : Deal) (fd : List Int) (t : Option Dt), mixL s' fd (xs.drop i) = mixL s [] xs ∧ 0 ≤ s'.i ∧ fd.length = i ∧ ds = [some (.adr q), some (eL xs), some (.adr p), t] ∧ os = [(p, .lst (fd.map Dt.int)), (q, eDeal s')]) (i_list (v 1 rfl)) ⟨s, [], none, rfl, hi, rfl, rfl, rfl⟩ ?_ ?_
  · rintro F' lF i d _ _ hd ⟨s', fd, t, e1, hi', e2, rfl, rfl⟩
    rw [List.getElem?_map] at hd
    obtain ⟨x, hx, rfl⟩ := Option.map_eq_some_iff.mp hd
    have hil := (List.getElem?_eq_some_iff.mp hx).1
    refine ⟨_, _, g_name 3, ?_⟩
    obtain ⟨p1, p2⟩ := pick_lt s' (m := (fd.length : Int) + 1) (by omega)
    refine r_expr (x_insert 0 (i := (pick s' ((fd.length : Int) + 1)).1) (us := fd.map Dt.int) (v 2 rfl) (x_callM Gp 1 (l2 (v 0 rfl) (x_add (x_len B.len (v 2 rfl) (.lst (.own 0 rfl))) x_int)) rfl ⟨s', _, rfl, rfl, by rw [List.length_map]; omega, by rw [List.length_map]; omega, hi', by rw [List.length_map], rfl⟩) (v 3 rfl) ⟨_, rfl⟩ rfl (by rw [List.length_map]; omega) ⟨p1, by omega⟩) ?_
    refine r_loop _ ⟨(pick s' ((fd.length : Int) + 1)).2, fd.take (pick s' ((fd.length : Int) + 1)).1.toNat ++ [x] ++ fd.drop (pick s' ((fd.length : Int) + 1)).1.toNat, some (.int x), ?_, pick_i s' _ hi', ?_, rfl, ?_⟩ (Sub.refl _)
    · rw [← e1, show xs.drop i = x :: xs.drop (i + 1) by rw [List.drop_eq_getElem_cons hil]; congr 1; exact Option.some.inj ((List.getElem?_eq_getElem hil).symm.trans hx)]
      rfl
    · simp only [List.length_append, List.length_take, List.length_drop, List.length_singleton]
      omega
    · simp only [List.map_append, List.map_take, List.map_drop, List.map_cons, List.map_nil, List.length_map]
      rfl
  · rintro _ _ ⟨s', fd, t, e1, hi', e2, rfl, rfl⟩
    rw [List.length_map, List.drop_length] at e1
    have e3 : (fd, s') = mixL s [] xs := e1
    rw [← e3] at hq
    exact r_ret (x_froz 0 (v 2 rfl) rfl) (hq _ 0 rfl)
theorem ok_drum (F : L2.Fun M.K "_law_drum" "_law_drum" sDrum f fd) (B : Bl M) : FnOk M.P M.w M.K M.mg M.base CX0 1 f fd ["_law_many_here"] (spP PDrum) := by
  have nd := scDrum.nd
  refine FtR.Fun.okP (k := 0) F scDrum (fun ds d ⟨_, h, _⟩ => by rw [h]; rfl) fun cdv A outer s0 H E hr F D ds d hP hq hn => ?_
  obtain ⟨n, rfl, h0, h1, rfl⟩ := hP
  refine r_parDN 1 2 (x_sub (v 0 rfl) x_int) (n_lst l_nil) fun q => ?_
  refine r_for (fun i ds os => ∃ a b : Option Dt, ds = [some (.int n), some (.int (n - 2)), some (.adr q), a, b] ∧ os = [(q, .lst (((List.range i).flatMap fun i => drum1 (n - 2) (1 + (i : Nat))).map e3))]) (i_rng2 B.range x_int (x_add (v 1 rfl) x_int) ⟨by omega, by omega, by omega, by omega⟩) ⟨none, none, rfl, rfl⟩ ?_ ?_
  · rintro F' lF i d _ _ hd ⟨a, b, rfl, rfl⟩
    unfold rgD at hd
    rw [List.getElem?_map] at hd
    obtain ⟨x, hx, rfl⟩ := Option.map_eq_some_iff.mp hd
    have hil := (List.getElem?_eq_some_iff.mp hx).1
    rw [List.length_range] at hil
    rw [List.getElem?_range hil] at hx
    cases hx
    have hb : ∀ j, j ≤ 1000 → (((List.range j).flatMap fun i => drum1 (n - 2) (1 + (i : Nat))).map e3).length = 2 * j := fun j _ => by
      rw [List.length_map]
      induction j with
      | zero => rfl
      | succ j ih => rw [List.range_succ, List.flatMap_append, List.length_append, ih (by omega)]; simp [drum1]; omega
    refine ⟨_, _, g_name 3, ?_⟩
    refine r_set (d := .int (if 1 + (i : Int) < n - 2 then 1 + (i : Int) + 1 else 1)) 4 (x_if (b_lt (v 3 rfl) (v 1 rfl)) (fun e => (x_add (v 3 rfl) x_int).to (by rw [if_pos (of_decide_eq_true e)])) (fun e => x_int.to (by rw [if_neg (of_decide_eq_false e)]))) ?_
    refine r_expr (x_append 0 (v 2 rfl) (x_tup (l3 (v 3 rfl) (x_add (v 1 rfl) (v 4 rfl)) (x_neg (x_add (v 1 rfl) (v 3 rfl))))) ⟨_, rfl⟩ rfl (by rw [hb i (by omega)]; omega)) ?_
    refine r_expr (x_append 0 (v 2 rfl) (x_tup (l3 (x_neg (v 3 rfl)) (x_add (x_mul x_int (v 1 rfl) (.inl ⟨by decide, by decide⟩)) (v 3 rfl)) (x_neg (x_add (x_mul x_int (v 1 rfl) (.inl ⟨by decide, by decide⟩)) (v 4 rfl))))) ⟨_, rfl⟩ rfl (by rw [List.length_append, hb i (by omega)]; show 2 * i + 1 < 1000000; omega)) ?_
    refine r_loop _ ⟨some (.int (1 + (i : Int))), some (.int (if 1 + (i : Int) < n - 2 then 1 + (i : Int) + 1 else 1)), rfl, ?_⟩ (Sub.refl _)
    rw [List.range_succ, List.flatMap_append, List.map_append, List.append_assoc]
    rfl
  · rintro _ _ ⟨a, b, rfl, rfl⟩
    have e : (rgD 1 (n - 2 + 1)).length = (n - 2).toNat := by
      unfold rgD
      rw [List.length_map, List.length_range]
      omega
    rw [e]
    exact r_ret (x_froz 0 (v 2 rfl) rfl) (hq _)
theorem e3_at (t : Tri) : e3 t = .tup [.int t.1, .int t.2.1, .int t.2.2] := rfl
theorem ok_parts (F : L2.Fun M.K "_law_parts" "_law_parts" sParts f fd) : FnOk M.P M.w M.K M.mg M.base CX0 1 f fd ["_law_tris"] (spP PParts) := by
  have nd := scParts.nd
  refine FtR.Fun.okP (k := 0) F scParts (fun ds d ⟨_, h, _⟩ => by rw [h]; rfl) fun cdv A outer s0 H E hr F D ds d hP hq hn => ?_
  obtain ⟨ts, rfl, h1, rfl⟩ := hP
  have hlen : ∀ (xs : List (Int × Tri)) (m : List (Int × Tri)), (xs.foldl (fun m kv => putA m kv.1 kv.2) m).length ≤ m.length + xs.length := fun xs => by
    induction xs with
    | nil => intro m; exact Nat.le_refl _
    | cons kv xs ih =>
      intro m
      have h2 := ih (putA m kv.1 kv.2)
      have h3 := FtM.putA_len m kv.1 kv.2
      rw [List.foldl_cons, List.length_cons]
      split at h3 <;> omega
  have hb : ∀ i, i ≤ ts.length → (FtM.putAll ((ts.take i).flatMap FtM.prs)).length ≤ 3000 := fun i hi => by
    have h2 := hlen ((ts.take i).flatMap FtM.prs) []
    rw [FtM.prs_len, List.length_take] at h2
    unfold FtM.putAll
    simp only [List.length_nil] at h2
    omega
  refine r_setN 1 n_dnew fun q => ?_
  refine r_for (xs := ts.map e3) (fun i ds os => ∃ a b c : Option Dt, ds = [some (.lst (ts.map e3)), some (.adr q), a, b, c] ∧ os = [(q, odic (eD (FtM.putAll ((ts.take i).flatMap FtM.prs))))]) (i_list (v 0 rfl)) ⟨none, none, none, rfl, rfl⟩ ?_ ?_
  · rintro F' lF i d _ _ hd ⟨a, b, c, rfl, rfl⟩
    rw [List.getElem?_map] at hd
    obtain ⟨t, ht, rfl⟩ := Option.map_eq_some_iff.mp hd
    have hil := (List.getElem?_eq_some_iff.mp ht).1
    have hz := hb i (by omega)
    have hp : ∀ (m : List (Int × Tri)) (k : Int) (u : Tri), (putA m k u).length ≤ m.length + 1 := fun m k u => by
      have := FtM.putA_len m k u
      split at this <;> omega
    have el : ∀ m, (eD m).length = m.length := fun m => by unfold eD; rw [List.length_map]
    refine ⟨_, _, g_tup (gs_cons (g_name 2) (gs_cons (g_name 3) (gs_cons (g_name 4) gs_nil))) rfl, ?_⟩
    refine r_dput (d := e3 (t.1, t.2.1, t.2.2)) 0 (x_tup (l3 (v 2 rfl) (v 3 rfl) (v 4 rfl))) (v 1 rfl) (v 2 rfl) rfl (by rw [el]; omega) ?_
    rw [putD]
    refine r_dput (d := e3 (t.2.1, t.2.2, t.1)) 0 (x_tup (l3 (v 3 rfl) (v 4 rfl) (v 2 rfl))) (v 1 rfl) (v 3 rfl) rfl (by rw [el]; have := hp (FtM.putAll ((ts.take i).flatMap FtM.prs)) t.1 (t.1, t.2.1, t.2.2); omega) ?_
    rw [putD]
    refine r_dput (d := e3 (t.2.2, t.1, t.2.1)) 0 (x_tup (l3 (v 4 rfl) (v 2 rfl) (v 3 rfl))) (v 1 rfl) (v 4 rfl) rfl (by rw [el]; have := hp (FtM.putAll ((ts.take i).flatMap FtM.prs)) t.1 (t.1, t.2.1, t.2.2); have := hp (putA (FtM.putAll ((ts.take i).flatMap FtM.prs)) t.1 (t.1, t.2.1, t.2.2)) t.2.1 (t.2.1, t.2.2, t.1); omega) ?_
    rw [putD]
    refine r_loop _ ⟨some (.int t.1), some (.int t.2.1), some (.int t.2.2), rfl, ?_⟩ (Sub.refl _)
    rw [List.take_add_one, ht, List.flatMap_append]
    unfold FtM.putAll
    rw [List.foldl_append]
    rfl
  · rintro _ _ ⟨a, b, c, rfl, rfl⟩
    rw [List.length_map, List.take_length]
    exact r_ret (x_frozD 0 (v 1 rfl) rfl) (hq _)
theorem ok_law_around (F : L2.Fun M.K "_law_around" "_law_around" sAround f fd) : FnOk M.P M.w M.K M.mg M.base CX0 1 f fd ["_law_parts_here", "_law_line"] (spP PAround) := by
  have nd := scAround.nd
  refine FtR.Fun.okP (k := 0) F scAround (fun ds d ⟨_, _, _, _, h, _⟩ => by rw [h]; rfl) fun cdv A outer s0 H E hr F D ds d hP hq hn => ?_
  obtain ⟨kvs, x, n, s, rfl, hg, hper, hz, rfl⟩ := hP
  have gd : ∀ i, i < n → ∃ a b, getA (eD kvs) (it s i x) = some (e3 (a, b, -s (it s i x))) := fun i hi => by
    obtain ⟨a, b, h⟩ := hg i hi
    exact ⟨a, b, getD_at h⟩
  have h0 := hper.pos
  obtain ⟨a0, b0, g0⟩ := gd 0 h0
  have st : ∀ i, (0 - -s (it s i x) : Int) = it s (i + 1) x := fun i => by rw [Int.sub_neg, Int.zero_add]; rfl
  refine r_parND 2 3 (n_lst (l1 (v 1 rfl))) (fun q => (x_sub x_int (x_ixT (x_dget (v 0 rfl) (v 1 rfl) (.dat _) g0) x_int rfl)).to (congrArg Dt.int (st 0))) fun q => ?_
  refine r_while (fun m ds os => ∃ i, m = n - i ∧ 1 ≤ i ∧ i ≤ n ∧ ds = [some (dicOf (eD kvs)), some (.int x), some (.adr q), some (.int (it s i x))] ∧ os = [(q, .lst ((orb s x i).map Dt.int))]) (n - 1) ⟨1, rfl, Nat.le_refl _, h0, rfl, rfl⟩ ?_
  rintro m _ _ ⟨i, rfl, h1, h2, rfl, rfl⟩
  refine ⟨_, _, b_ne (v 3 rfl) (v 1 rfl), fun e => ?_, fun e => ?_⟩
  · have hi : i < n := by
      rcases Nat.lt_or_ge i n with h | h
      · exact h
      · have : i = n := by omega
        subst this
        rw [hper.end_] at e
        simp at e
    obtain ⟨a, b, g⟩ := gd i hi
    refine r_expr (x_append 0 (v 2 rfl) (v 3 rfl) ⟨_, rfl⟩ rfl (by rw [List.length_map, FtM.orb_len]; omega)) ?_
    refine r_set 3 ((x_sub x_int (x_ixT (x_dget (v 0 rfl) (v 3 rfl) (.dat _) g) x_int rfl)).to (congrArg Dt.int (st i))) ?_
    refine r_loop _ ⟨n - (i + 1), by omega, i + 1, rfl, by omega, by omega, rfl, ?_⟩ (Sub.refl _)
    rw [FtM.orb_succ, List.map_append]
    rfl
  · have hi : i = n := by
      rcases Nat.lt_or_ge i n with h | h
      · exact absurd (by simpa using e) (hper.min i (by omega) h)
      · omega
    subst hi
    exact r_ret (x_froz 0 (v 2 rfl) rfl) (hq _)
theorem ok_lines (F : L2.Fun M.K "_law_lines" "_law_lines" sLines f fd) (B : Bl M) : FnOk M.P M.w M.K M.mg M.base CX0 1 f fd ["_law_tris"] (spP PLines) := by
  have nd := scLines.nd
  refine FtR.Fun.okP (k := 0) F scLines (fun ds d ⟨_, _, h, _⟩ => by rw [h]; rfl) fun cdv A outer s0 H E hr F D ds d hP hq hn => ?_
  obtain ⟨xs, L, rfl, h1, h2, rfl⟩ := hP
  refine r_set 1 (x_ofL (n_lst l_nil)) ?_
  refine r_for (fun i ds os => ∃ a : Option Dt, ds = [some (.lst xs), some (eL (FtM.lns i)), a] ∧ os = []) (i_rng2 (j := (L : Int) + 1) B.range x_int ((x_add (x_fdiv (x_mul (x_len B.len (v 0 rfl) (.lst (.dat _))) x_int (.inr ⟨by decide, by decide⟩)) x_int ⟨by decide, by decide⟩) x_int).to (by congr 1; omega)) ⟨by omega, by omega, by omega, by omega⟩) ⟨none, rfl, rfl⟩ ?_ ?_
  · rintro F' lF i d _ _ hd ⟨a, rfl, rfl⟩
    unfold rgD at hd
    rw [List.getElem?_map] at hd
    obtain ⟨x, hx, rfl⟩ := Option.map_eq_some_iff.mp hd
    have hil := (List.getElem?_eq_some_iff.mp hx).1
    rw [List.length_range] at hil
    rw [List.getElem?_range hil] at hx
    cases hx
    refine ⟨_, _, g_name 2, ?_⟩
    refine r_set 1 (x_ofL (n_catL (v 1 rfl) (x_ofL (n_lst (l2 (v 2 rfl) (x_sub x_int (v 2 rfl))))) (.dat _) (.dat _) (by rw [List.length_map, FtM.lns_len]; show 2 * i + 2 ≤ 1000000; omega))) ?_
    refine r_loop _ ⟨some (.int (1 + (i : Int))), rfl, rfl⟩ (Sub.s1 rfl (Sub.s1 ?_ (Sub.s1 rfl Sub.n)))
    unfold eL FtM.lns
    rw [List.range_succ, List.flatMap_append, List.map_append]
    congr 2
    show [Dt.int (((i : Nat) : Int) + 1), Dt.int (-(((i : Nat) : Int) + 1))] = [Dt.int (1 + ((i : Nat) : Int)), Dt.int (0 - (1 + ((i : Nat) : Int)))]
    rw [Int.add_comm 1, Int.zero_sub]
  · rintro _ _ ⟨a, rfl, rfl⟩
    have e : (rgD 1 ((L : Int) + 1)).length = L := by
      unfold rgD
      rw [List.length_map, List.length_range]
      omega
    rw [e]
    exact r_ret (v 1 rfl) (hq _)
end
end FtR
/-! for k in d: t[k] = d[k] -/
namespace FtR
open PySem PySem.Spec PyProof.Rows L2
open FtM (getA putA)
theorem Slots.len {B : Hp} : ∀ {σ : List (Option V)} {ds : DEnv}, Slots B σ ds → σ.length = ds.length
  | [], [], _ => rfl
  | _ :: σ, none :: ds, h => congrArg Nat.succ (Slots.len (σ := σ) (ds := ds) h)
  | _ :: σ, some _ :: ds, h => congrArg Nat.succ (Slots.len (σ := σ) (ds := ds) h.2)
  | [], _ :: _, h => h.elim
  | _ :: _, [], h => h.elim
theorem valV_none_of {κ : Type} [DecidableEq κ] {kvs : List (κ × V)} {k : κ} (h : ∀ p ∈ kvs, p.1 ≠ k) : valV kvs k = none := by
  unfold valV
  rw [Option.map_eq_none_iff, List.find?_eq_none]
  intro x hx hz
  exact h x hx (of_decide_eq_true hz)
theorem valV_mem {κ : Type} [DecidableEq κ] {kvs : List (κ × V)} {k : κ} {v : V} (hn : (kvs.map (·.1)).Nodup) (h : (k, v) ∈ kvs) : valV kvs k = some v := by
  unfold valV
  induction kvs with
  | nil => cases h
  | cons kv r ih =>
    rw [List.map_cons, List.nodup_cons] at hn
    rw [List.find?_cons]
    rcases List.mem_cons.mp h with e | h
    · subst e
      simp
    · have : kv.1 ≠ k := fun e => hn.1 (List.mem_map.mpr ⟨_, h, e.symm⟩)
      simp only [this, decide_false]
      exact ih hn.2 h
section
variable {C : Cxs} {F : Fr} {ds : DEnv} {os : Own} {D : Ends} {rest : List Stmt}
section
variable {α : Type} {l : List α} {enc : α → Dt} {g : α → Dt} {tg iter elt : Expr} {scope : Scope} {os1 : Own} {pos : Pos} {n : Str}
/-- no test -/
theorem n_lc0 (own : List (Str × Nat)) (ds' : α → DEnv) (hi : PIt C F tg iter ds os (l.map enc) os1) (ok : BlkO C scope own)
    (hg : ∀ a ∈ l, ∀ F, ∃ js, PGt (C.blk scope) F tg (enc a) (wipeD ds (own.map (·.2))) (ds' a) js ∧ ∀ j ∈ js, j ∈ own.map (·.2)) (he : ∀ a ∈ l, ∀ F, PX (C.blk scope) F elt (ds' a) os1 (g a) os1) (hz : l.length ≤ 900000)
    (hs : ∀ i x, foldedSetIterable iter (C.X i).env x = pure x := by intro _ _; rfl) : PN C F (.ListComp elt [⟨tg, iter, [], 0⟩] scope pos) ds os (.lst (l.map g)) os1 := by
  have h := n_lc (f := fun _ => true) (pos := pos) own ds' hi ok hg (fun a ha F => t_nil) (fun a ha _ F => he a ha F) hz hs
  rw [List.filter_eq_self.mpr fun _ _ => rfl] at h
  exact h
theorem r_setLc0 (own : List (Str × Nat)) (ds' : α → DEnv) (k : Nat) {py spos : Pos} (hi : PIt C F tg iter ds os (l.map enc) os1) (ok : BlkO C scope own)
    (hg : ∀ a ∈ l, ∀ F, ∃ js, PGt (C.blk scope) F tg (enc a) (wipeD ds (own.map (·.2))) (ds' a) js ∧ ∀ j ∈ js, j ∈ own.map (·.2)) (he : ∀ a ∈ l, ∀ F, PX (C.blk scope) F elt (ds' a) os1 (g a) os1) (hz : l.length ≤ 900000)
    (kk : ∀ q, Run C F rest D (ds.set k (some (.adr q))) ((q, .lst (l.map g)) :: os1)) (hn : NmOk C k n := by exact fun _ => ⟨‹List.Nodup _›, rfl, by first | exact .inl rfl | exact .inr rfl, by first | exact .inl rfl | exact .inr rfl⟩) (hyl : ∀ i, (C.X i).env.scope.names.lookup n = some .local := by intro _; rfl) (hsw : ∀ i, swapsWith (.ListComp elt [⟨tg, iter, [], 0⟩] scope pos) (some (.Name n py)) spos.line (C.X i).env = pure true := by exact fun _ => sw_true rfl rfl rfl (by decide +kernel))
    (hs : ∀ i x, foldedSetIterable iter (C.X i).env x = pure x := by intro _ _; rfl) : Run C F (.Assign [.Name n py] (.ListComp elt [⟨tg, iter, [], 0⟩] scope pos) spos :: rest) D ds os := by
  refine r_setLc (f := fun _ => true) own ds' k hi ok hg (fun a ha F => t_nil) (fun a ha _ F => he a ha F) hz ?_ hn hyl hsw hs
  intro q
  rw [List.filter_eq_self.mpr fun _ _ => rfl]
  exact kk q
end
theorem r_copyKeys {kvs : List (Int × Dt)} {q : Addr} {xk xd xt : Str} {p1 p2 p3 p4 p5 p6 p7 p8 p9 : Pos} (iD iT ik k : Nat) (hd : ds[iD]? = some (some (dicOf kvs))) (ht : ds[iT]? = some (some (.adr q))) (hk : os[k]? = some (q, .dic [] [])) (hn : (kvs.map (·.1)).Nodup) (hz : kvs.length < 100000) (hi1 : iD ≠ ik) (hi2 : iT ≠ ik) (hil : ik < ds.length)
    (nD : ∀ j, (C.X j).N[iD]? = some xd ∧ Vis (C.X j).env.scope xd) (nT : ∀ j, (C.X j).N[iT]? = some xt ∧ Vis (C.X j).env.scope xt) (nk : NmOk C ik xk) (vk : ∀ j, Vis (C.X j).env.scope xk)
    (b1 : ∀ x ∈ [xd, xt, xk], (x == ("__debug__" : Str)) = false ∧ (x == ("__classdict__" : Str)) = false)
    (kk : Run C F rest D (ds.set ik none) (os.set k (q, odic kvs)))
    (hp : ∀ i, PassesOwn (model (C.X i).prog (C.X i).w) (C.X i).A (C.X i).env (C.X i).xe) (hs : ∀ l x, foldedSetIterable (.Name xd p2) (C.X l).env x = pure x)
    (h2 : NoSl (.Name xk p8)) (h3 : NoSl (.Name xk p5)) (h4 : ∀ i, swapsWith (.Subscript (.Name xd p7) (.Name xk p8) p6) (some (.Subscript (.Name xt p4) (.Name xk p5) p3)) p9.line (C.X i).env = pure false) {pf : Pos} :
    Run C F (.For (.Name xk p1) (.Name xd p2) [.Assign [.Subscript (.Name xt p4) (.Name xk p5) p3] (.Subscript (.Name xd p7) (.Name xk p8) p6) p9] [] pf :: rest) D ds os := by
  have bd := b1 xd (by simp)
  have bt := b1 xt (by simp)
  have bk := b1 xk (by simp)
  refine r_step (fun j => ps_lock (ps_for (hp j) (C.calm j) (pi_keys (pe_var (nD j).1 (nD j).2 bd.1 bd.2)) (pg_name (nk j).1 (nk j).2.1 (nk j).2.2.1 (nk j).2.2.2)
    (pss_one (ps_dput (C_u1 C j) (pe_var (nT j).1 (nT j).2 bt.1 bt.2) (pe_var (nk j).2.1 (vk j) bk.1 bk.2) (pe_dget (C_u1 C j) (pe_var (nD j).1 (nD j).2 bd.1 bd.2) (pe_var (nk j).2.1 (vk j) bk.1 bk.2) h2) (h4 j))) (hs j))) fun B H σ S L => ?_
  obtain ⟨vd, hvd, id⟩ := L.get hd
  obtain ⟨vt, hvt, iq⟩ := L.get ht
  obtain ⟨d, vs, rfl, hBd, hlen, hA⟩ := is_dic id
  have hHd := S.bh _ _ hBd
  obtain ⟨hq1, _, ws, hq2, _, _⟩ := S.get hk
  rw [is_adr iq] at hvt
  have hdq : d ≠ q := fun e => by
    rw [e, hq1] at hBd
    cases hBd
  have hq3 : H q = some (.dK []) := hq2
  generalize hkv : ((kvs.map (·.1)).map kI).zip vs = kv at hBd hHd
  have hlv : kv.length = kvs.length := by
    rw [← hkv, List.length_zip, List.length_map, hlen, Nat.min_self, ← hlen, List.length_map]
  have hkn : (kv.map (·.1)).Nodup := by
    rw [← hkv, List.map_fst_zip (by rw [List.length_map, hlen]; exact Nat.le_refl _)]
    rw [List.nodup_iff_pairwise_ne] at hn ⊢
    exact List.pairwise_map.mpr (hn.imp fun h e => h (kI_inj.mp e))
  refine ⟨d, .dK kv, hHd, trivial, fun od => ?_⟩
  have e0 : upd (upd H d (.frz od (.dK kv))) q (.dK []) = upd H d (.frz od (.dK kv)) := by
    funext b
    by_cases hb : b = q
    · rw [hb, upd_same, upd_ne hdq.symm, hq3]
    · rw [upd_ne hb]
  have hsl : ∀ σ' : L2.St, (∃ u, σ' = σ.set ik u) → σ'[iD]? = some (some (.ref d)) ∧ σ'[iT]? = some (some (.ref q)) := fun σ' ⟨u, e⟩ => by
    rw [e, List.getElem?_set_ne hi1.symm, List.getElem?_set_ne hi2.symm]
    exact ⟨hvd, hvt⟩
  have hslk : ik < σ.length := by rw [L.len]; exact hil
  refine ⟨.ref d, hvd, d, od, rfl, .inl ⟨kv, upd_same, fun i m σ' H' => m = kv.length - i ∧ i ≤ kv.length ∧ (∃ u, σ' = σ.set ik u) ∧ H' = upd (upd H d (.frz od (.dK kv))) q (.dK (kv.take i)), ⟨_, rfl, Nat.zero_le _, ⟨σ[ik], (List.set_getElem_self hslk).symm⟩, e0.symm⟩, ?_⟩⟩
  rintro i m σ' H' ⟨rfl, hile, hu, rfl⟩
  have hfd : ∀ x, (upd (upd H d (.frz od (.dK kv))) q x) d = some (.frz od (.dK kv)) := fun x => by rw [upd_ne hdq, upd_same]
  by_cases hlt : i < kv.length
  · refine .inr ⟨⟨hfd _, hlt⟩, fun σ2 H2 => (∃ u, σ2 = σ.set ik u) ∧ H2 = upd (upd H d (.frz od (.dK kv))) q (.dK (kv.take (i + 1))), fun σ2 H2 h => ⟨kv.length - (i + 1), by omega, rfl, hlt, h⟩, fun x H2 hy => ?_⟩
    obtain ⟨rfl, key, val, hkv2, rfl⟩ := hy
    have hmem : (key, val) ∈ kv := List.mem_of_getElem? hkv2
    obtain ⟨u0, rfl⟩ := hu
    have hs2 := hsl ((σ.set ik u0).set ik (some (kV key))) ⟨some (kV key), by rw [List.set_set]⟩
    have hkk : ((σ.set ik u0).set ik (some (kV key)))[ik]? = some (some (kV key)) := by
      rw [List.set_set, List.getElem?_set_self hslk]
    refine ⟨.ref d, hs2.1, kV key, hkk, d, val, rfl, .inl ⟨kv, key, .inr ⟨od, hfd _⟩, rfl, (valV_mem hkn hmem).symm⟩, .ref q, hs2.2, kV key, hkk, q, _, rfl, DPut.k (k := key) upd_same ?_, ⟨some (kV key), by rw [List.set_set]⟩, ?_⟩
    · rw [List.length_take]
      exact sz_lt (by omega)
    · rw [upd_upd, putK_new]
      · congr 2
        rw [List.take_add_one, hkv2]
        rfl
      · refine valV_none_of fun p hp e => ?_
        obtain ⟨j, hj⟩ := List.mem_iff_getElem?.mp hp
        have hjl : j < i := by
          have := (List.getElem?_eq_some_iff.mp hj).1
          rw [List.length_take] at this
          omega
        rw [List.getElem?_take_of_lt hjl] at hj
        have h1 : (kv.map (·.1))[j]? = some key := by rw [List.getElem?_map, hj]; exact congrArg some e
        have h2 : (kv.map (·.1))[i]? = some key := by rw [List.getElem?_map, hkv2]; rfl
        exact absurd (nd_ix hkn h1 h2) (by omega)
  · have hie : i = kv.length := by omega
    subst hie
    rw [List.take_length]
    refine .inl ⟨⟨hfd _, Nat.le_refl _⟩, hfd _, ?_⟩
    obtain ⟨u0, rfl⟩ := hu
    have e1 : upd (upd (upd H d (.frz od (.dK kv))) q (.dK kv)) d (.dK kv) = upd H q (.dK kv) := by
      funext b
      by_cases hb : b = d
      · rw [hb, upd_same, upd_ne hdq, hHd]
      · rw [upd_ne hb]
        by_cases hb2 : b = q
        · rw [hb2, upd_same, upd_same]
        · rw [upd_ne hb2, upd_ne hb2, upd_ne hb]
    rw [e1]
    exact kk B _ _ (S.put hk ⟨vs, by rw [← hkv]; exact upd_same, hlen, hA⟩) (L.unset ik)
end
end FtR
set_option maxHeartbeats 1000000
/-! the triangles behind a flip; good webs -/
namespace FtM
def has (x : Int) (t : Tri) : Bool := decide (x ∈ tl t)
def keepT (x : Int) (ts : List Tri) : List Tri := ts.filter fun t => !has x t && !has (-x) t
def fresh (a x p q r s : Int) : List Tri := if 0 < a then [(x, q, r), (-x, s, p)] else [(x, s, p), (-x, q, r)]
/-- the triangles behind a flip of a -/
def turnT (f : Int → Int) (a : Int) (ts : List Tri) : List Tri := keepT a.natAbs ts ++ fresh a a.natAbs (f a.natAbs) (f (f a.natAbs)) (f (-(a.natAbs : Int))) (f (f (-(a.natAbs : Int))))
section
variable {L : Nat} {f g : Int → Int} {a x p q r s : Int} {ts : List Tri}
theorem Reps.tri (R : Reps ts L f) {t : Tri} (ht : t ∈ ts) {w : Int} (hw : w ∈ tl t) : f w ∈ tl t ∧ f (f w) ∈ tl t := by
  obtain ⟨h1, h2, h3⟩ := R.rot t ht
  unfold tl at hw ⊢
  simp only [List.mem_cons, List.not_mem_nil, or_false] at hw ⊢
  rcases hw with e | e | e
  · rw [e, h1, h2]; simp
  · rw [e, h2, h3]; simp
  · rw [e, h3, h1]; simp
theorem Reps.tri' (R : Reps ts L f) {t : Tri} (ht : t ∈ ts) {w u : Int} (hw : w ∈ tl t) (hu : u ∈ tl t) : u = w ∨ u = f w ∨ u = f (f w) := by
  obtain ⟨h1, h2, h3⟩ := R.rot t ht
  unfold tl at hw hu
  simp only [List.mem_cons, List.not_mem_nil, or_false] at hw hu
  rcases hw with e | e | e
  · rw [e, h1, h2]; exact hu
  · rw [e, h2, h3]; rcases hu with h | h | h; exact .inr (.inr h); exact .inl h; exact .inr (.inl h)
  · rw [e, h3, h1]; rcases hu with h | h | h; exact .inr (.inl h); exact .inr (.inr h); exact .inl h
theorem mem_keep {t : Tri} : t ∈ keepT x ts ↔ t ∈ ts ∧ x ∉ tl t ∧ -x ∉ tl t := by
  unfold keepT has
  rw [List.mem_filter]
  simp only [Bool.and_eq_true, Bool.not_eq_true', decide_eq_false_iff_not]
theorem fresh_mem (hx : 0 < x) (X : Flp L f a x p q r s g) {w : Int} : w ∈ (fresh a x p q r s).flatMap tl ↔ w = x ∨ w = -x ∨ w = p ∨ w = q ∨ w = r ∨ w = s := by
  unfold fresh tl
  split
  · simp only [List.flatMap_cons, List.flatMap_nil, List.append_nil, List.mem_append, List.mem_cons, List.not_mem_nil, or_false]
    constructor
    · rintro ((h | h | h) | (h | h | h)) <;> simp [h]
    · rintro (h | h | h | h | h | h) <;> simp [h]
  · simp only [List.flatMap_cons, List.flatMap_nil, List.append_nil, List.mem_append, List.mem_cons, List.not_mem_nil, or_false]
    constructor
    · rintro ((h | h | h) | (h | h | h)) <;> simp [h]
    · rintro (h | h | h | h | h | h) <;> simp [h]
theorem Flp.reps (X : Flp L f a x p q r s g) (hx : 0 < x) (R : Reps ts L f) : Reps (keepT x ts ++ fresh a x p q r s) L g := by
  have S := X.six
  have kept : ∀ t ∈ keepT x ts, ∀ w ∈ tl t, w ≠ x ∧ w ≠ -x ∧ w ≠ p ∧ w ≠ q ∧ w ≠ r ∧ w ≠ s := fun t ht w hw => by
    obtain ⟨h1, h2, h3⟩ := mem_keep.mp ht
    refine ⟨fun e => h2 (e ▸ hw), fun e => h3 (e ▸ hw), fun e => ?_, fun e => ?_, fun e => ?_, fun e => ?_⟩
    · have := (R.tri h1 hw).2
      rw [e, S.eq, S.ex] at this
      exact h2 this
    · have := (R.tri h1 hw).1
      rw [e, S.ex] at this
      exact h2 this
    · have := (R.tri h1 hw).2
      rw [e, S.es, S.em] at this
      exact h3 this
    · have := (R.tri h1 hw).1
      rw [e, S.em] at this
      exact h3 this
  refine ⟨fun t ht => ?_, ?_⟩
  · rcases List.mem_append.mp ht with ht | ht
    · have k := kept t ht
      obtain ⟨h1, h2, h3⟩ := R.rot t (mem_keep.mp ht).1
      have k1 := k t.1 (by unfold tl; simp)
      have k2 := k t.2.1 (by unfold tl; simp)
      have k3 := k t.2.2 (by unfold tl; simp)
      rw [X.go _ k1.1 k1.2.1 k1.2.2.1 k1.2.2.2.1 k1.2.2.2.2.1 k1.2.2.2.2.2, X.go _ k2.1 k2.2.1 k2.2.2.1 k2.2.2.2.1 k2.2.2.2.2.1 k2.2.2.2.2.2, X.go _ k3.1 k3.2.1 k3.2.2.1 k3.2.2.2.1 k3.2.2.2.2.1 k3.2.2.2.2.2]
      exact ⟨h1, h2, h3⟩
    · unfold fresh at ht
      have ga := X.ga
      have gb := X.gb
      have gr := X.gr
      have gp := X.gp
      rcases X.ax with e | e
      · rw [if_pos (by omega)] at ht
        rw [e] at ga gb gr gp
        simp only [List.mem_cons, List.not_mem_nil, or_false] at ht
        rcases ht with rfl | rfl
        · exact ⟨ga, X.gq, gr⟩
        · exact ⟨gb, X.gs, gp⟩
      · rw [if_neg (by omega)] at ht
        rw [e] at ga gr
        rw [e, Int.neg_neg] at gb gp
        simp only [List.mem_cons, List.not_mem_nil, or_false] at ht
        rcases ht with rfl | rfl
        · exact ⟨gb, X.gs, gp⟩
        · exact ⟨ga, X.gq, gr⟩
  · rw [List.flatMap_append]
    refine (List.perm_ext_iff_of_nodup ?_ (lns_nodup L)).mpr fun w => ?_
    · refine List.nodup_append.mpr ⟨?_, ?_, fun u hu w hw e => ?_⟩
      · exact R.nodup.sublist (by
          unfold keepT
          generalize ts = l
          induction l with
          | nil => exact List.Sublist.refl _
          | cons t l ih =>
            rw [List.filter_cons]
            split
            · rw [List.flatMap_cons, List.flatMap_cons]
              exact List.Sublist.append (List.Sublist.refl _) ih
            · rw [List.flatMap_cons]
              exact ih.trans (List.sublist_append_right _ _))
      · have e1 := S.xm
        have e2 := S.px
        have e3 := S.pm
        have e4 := S.qx
        have e5 := S.qm
        have e6 := S.rx
        have e7 := S.rm
        have e8 := S.sx
        have e9 := S.sm
        have d1 := S.qp
        have d2 := S.sr
        have d3 := S.npr
        have d4 := S.nps
        have d5 := S.nqr
        have d6 := S.nqs
        unfold fresh tl
        split
        · simp only [List.flatMap_cons, List.flatMap_nil, List.append_nil, List.cons_append, List.nil_append, List.nodup_cons, List.mem_cons, List.not_mem_nil, or_false, not_or, not_false_eq_true, List.nodup_nil, and_true]
          exact ⟨⟨e4.symm, e6.symm, e1, e8.symm, e2.symm⟩, ⟨d5, e5, d6, d1⟩, ⟨e7, d2.symm, d3.symm⟩, ⟨e9.symm, e3.symm⟩, d4.symm⟩
        · simp only [List.flatMap_cons, List.flatMap_nil, List.append_nil, List.cons_append, List.nil_append, List.nodup_cons, List.mem_cons, List.not_mem_nil, or_false, not_or, not_false_eq_true, List.nodup_nil, and_true]
          exact ⟨⟨e8.symm, e2.symm, e1, e4.symm, e6.symm⟩, ⟨d4.symm, e9, d6.symm, d2⟩, ⟨e3, d1.symm, d3⟩, ⟨e5.symm, e7.symm⟩, d5⟩
      · subst e
        obtain ⟨t, ht, hut⟩ := List.mem_flatMap.mp hu
        obtain ⟨h1, h2, h3, h4, h5, h6⟩ := kept t ht u hut
        rcases (fresh_mem hx X).mp hw with h | h | h | h | h | h
        · exact h1 h
        · exact h2 h
        · exact h3 h
        · exact h4 h
        · exact h5 h
        · exact h6 h
    · rw [List.mem_append, fresh_mem hx X, mem_lns]
      constructor
      · rintro (h | h | h | h | h | h | h)
        · obtain ⟨t, ht, hut⟩ := List.mem_flatMap.mp h
          exact R.mem.mp (List.mem_flatMap.mpr ⟨t, (mem_keep.mp ht).1, hut⟩)
        · exact h ▸ S.lx
        · exact h ▸ S.lx.neg
        · exact h ▸ S.lp
        · exact h ▸ S.lq
        · exact h ▸ S.lr
        · exact h ▸ S.ls
      · intro h
        obtain ⟨t, ht, hwt⟩ := List.mem_flatMap.mp (R.mem.mpr h)
        by_cases c1 : x ∈ tl t
        · have := R.tri' ht c1 hwt
          rw [S.ep, S.eq] at this
          rcases this with h | h | h <;> simp [h]
        · by_cases c2 : -x ∈ tl t
          · have := R.tri' ht c2 hwt
            rw [S.er, S.es] at this
            rcases this with h | h | h <;> simp [h]
          · exact .inl (List.mem_flatMap.mpr ⟨t, mem_keep.mpr ⟨ht, c1, c2⟩, hwt⟩)
theorem turn_reps (T : Tr L f) (ha : IsLn L a) (hc : can f a = true) (R : Reps ts L f) : Reps (turnT f a ts) L (flF f a) := by
  have := ha.1
  exact (flp_of T ha hc).reps (by omega) R
end
/-- the ends behind a flip -/
def turnE (f : Int → Int) (a : Int) (e : Int → Int) (kvs : List (Int × Int)) : List (Int × Int) :=
  if 0 < a then putA (putA kvs a.natAbs (e (-f (-(a.natAbs : Int))))) (-(a.natAbs : Int)) (e (-f a.natAbs)) else putA (putA kvs a.natAbs (e (-f a.natAbs))) (-(a.natAbs : Int)) (e (-f (-(a.natAbs : Int))))
/-- a web as the law holds it -/
structure GoodW (L n : Nat) (f e : Int → Int) (ts : List Tri) (kvs : List (Int × Int)) : Prop where
  reps : Reps ts L f
  web : Web L n f e
  ends : ∀ x, IsLn L x → getA kvs x = some (e x)
  nd : (kvs.map (·.1)).Nodup
  ln : kvs.length = 2 * L
section
variable {L n : Nat} {f e : Int → Int} {ts : List Tri} {kvs : List (Int × Int)} {a : Int}
theorem Web.turn (W : Web L n f e) (ha : IsLn L a) (hc : can f a = true) : Web L n (flF f a) (flE f e a) := by
  refine (flp_of W.tr ha hc).web W ?_ ?_ fun w h1 h2 => ?_
  · unfold flE
    rw [if_pos rfl]
  · unfold flE
    rw [if_neg (by have := ha.ne; omega), if_pos rfl]
  · unfold flE
    rw [if_neg h1, if_neg h2]
theorem put_nodup {k v : Int} (h : (kvs.map (·.1)).Nodup) : ((putA kvs k v).map (·.1)).Nodup := by
  unfold putA
  split
  · rw [List.map_map]
    have : ((fun x => x.1) ∘ fun kv : Int × Int => if kv.1 = k then (kv.1, v) else kv) = fun x => x.1 := by
      funext kv
      simp only [Function.comp]
      split <;> rfl
    rw [this]
    exact h
  · rename_i hn
    rw [List.map_append]
    refine List.nodup_append.mpr ⟨h, by simp, fun u hu w hw e => ?_⟩
    subst e
    obtain ⟨kv, h1, h2⟩ := List.mem_map.mp hu
    simp only [List.map_cons, List.map_nil, List.mem_singleton] at hw
    exact hn (List.any_eq_true.mpr ⟨kv, h1, decide_eq_true (h2.trans hw)⟩)
theorem put_len {k v : Int} (h : ∃ u, getA kvs k = some u) : (putA kvs k v).length = kvs.length := by
  obtain ⟨u, hu⟩ := h
  rw [putA_len, hu]
  rfl
theorem GoodW.turn (G : GoodW L n f e ts kvs) (ha : IsLn L a) (hc : can f a = true) : GoodW L n (flF f a) (flE f e a) (turnT f a ts) (turnE f a e kvs) := by
  have hx : IsLn L (a.natAbs : Int) := by unfold IsLn at *; rwa [Int.natAbs_natCast]
  have ne := hx.ne
  refine ⟨turn_reps G.web.tr ha hc G.reps, G.web.turn ha hc, fun w hw => ?_, ?_, ?_⟩
  · unfold turnE flE
    by_cases h0 : 0 < a
    · rw [if_pos h0]
      have ea : (a.natAbs : Int) = a := by omega
      rw [ea] at *
      rw [getA_put, getA_put]
      by_cases h1 : w = -a
      · rw [if_pos h1, if_neg (by omega), if_pos h1]
      · rw [if_neg h1]
        by_cases h2 : w = a
        · rw [if_pos h2, if_pos h2]
        · rw [if_neg h2, if_neg h2, if_neg h1]
          exact G.ends w hw
    · rw [if_neg h0]
      have ea : (a.natAbs : Int) = -a := by omega
      rw [ea] at *
      rw [getA_put, getA_put, Int.neg_neg]
      by_cases h1 : w = a
      · rw [if_pos h1, if_pos h1]
      · rw [if_neg h1, if_neg h1]
        by_cases h2 : w = -a
        · rw [if_pos h2, if_pos h2]
        · rw [if_neg h2, if_neg h2]
          exact G.ends w hw
  · unfold turnE
    split
    · exact put_nodup (put_nodup G.nd)
    · exact put_nodup (put_nodup G.nd)
  · have k1 : ∀ v u, (putA (putA kvs (a.natAbs : Int) v) (-(a.natAbs : Int)) u).length = kvs.length := fun v u => by
      rw [put_len, put_len ⟨_, G.ends _ hx⟩]
      rw [getA_put, if_neg (by omega)]
      exact ⟨_, G.ends _ hx.neg⟩
    unfold turnE
    split
    · rw [k1, G.ln]
    · rw [k1, G.ln]
end
end FtM
set_option maxHeartbeats 4000000
/-! the law's webs: met, starts, order, sides, can, turned -/
namespace FtR
open PySem PySem.Spec PyProof.Rows L2
open FtM (getA putA Tri it orb)
def eW (ts : List Tri) (kvs : List (Int × Int)) : Dt := .tup [.lst (ts.map e3), dicOf (eI kvs)]
abbrev sMet : Stmt := topS 69
abbrev nMet : List Str := ["_law_tris", "_law_parts_here", "_law_seen", "_law_found", "_law_line", "_law_other"]
theorem scMet : FnScope nMet ["_law_tris"] (defScope sMet) := ⟨rfl, rfl, rfl, by decide +kernel, rfl, by decide +kernel, by decide +kernel⟩
def PMet (ds : List Dt) (d : Dt) : Prop := ∃ (L n : Nat) (f e : Int → Int) (ts : List Tri), FtM.Reps ts L f ∧ FtM.Web L n f e ∧ ds = [.lst (ts.map e3)] ∧ d = eLL (FtM.metL f (FtM.lns L))
abbrev sStarts : Stmt := topS 70
abbrev nStarts : List Str := ["_law_tris", "_law_order_z", "_law_found", "_law_nail", "_law_lines_here", "_law_line"]
theorem scStarts : FnScope nStarts ["_law_tris", "_law_order_z"] (defScope sStarts) := ⟨rfl, rfl, rfl, by decide +kernel, rfl, by decide +kernel, by decide +kernel⟩
def PStarts (ds : List Dt) (d : Dt) : Prop := ∃ (L n : Nat) (f e : Int → Int) (ts : List Tri) (ord : List Int), FtM.Reps ts L f ∧ FtM.Web L n f e ∧ ord.length ≤ 1000 ∧ ds = [.lst (ts.map e3), eL ord] ∧ d = dicOf (eI (FtM.putAll (FtM.endsKv L f ord)))
abbrev sOrder : Stmt := topS 71
abbrev nOrder : List Str := ["_law_web_here", "_law_lines_here"]
theorem scOrder : FnScope nOrder ["_law_web_here"] (defScope sOrder) := ⟨rfl, rfl, rfl, by decide +kernel, rfl, by decide +kernel, by decide +kernel⟩
def POrder (ds : List Dt) (d : Dt) : Prop := ∃ (L n : Nat) (f e : Int → Int) (ts : List Tri) (kvs : List (Int × Int)), FtM.GoodW L n f e ts kvs ∧ ds = [eW ts kvs] ∧ d = eL (FtM.ordL L f e)
abbrev sSides : Stmt := topS 72
abbrev nSides : List Str := ["_law_web_here", "_law_line", "_law_parts_here"]
theorem scSides : FnScope nSides ["_law_web_here", "_law_line"] (defScope sSides) := ⟨rfl, rfl, rfl, by decide +kernel, rfl, by decide +kernel, by decide +kernel⟩
def sidesL (f : Int → Int) (a : Int) : List Int := [f (-(a.natAbs : Int)), f (f (-(a.natAbs : Int))), f (a.natAbs : Int), f (f (a.natAbs : Int))]
def PSides (ds : List Dt) (d : Dt) : Prop := ∃ (L n : Nat) (f e : Int → Int) (ts : List Tri) (kvs : List (Int × Int)) (a : Int), FtM.GoodW L n f e ts kvs ∧ FtM.IsLn L a ∧ ds = [eW ts kvs, .int a] ∧ d = eL (sidesL f a)
abbrev sCan : Stmt := topS 73
abbrev nCan : List Str := ["_law_web_here", "_law_flip", "_law_r", "_law_s", "_law_p", "_law_q"]
theorem scCan : FnScope nCan ["_law_web_here", "_law_flip"] (defScope sCan) := ⟨rfl, rfl, rfl, by decide +kernel, rfl, by decide +kernel, by decide +kernel⟩
def PCan (ds : List Dt) (d : Dt) : Prop := ∃ (L n : Nat) (f e : Int → Int) (ts : List Tri) (kvs : List (Int × Int)) (a : Int), FtM.GoodW L n f e ts kvs ∧ FtM.IsLn L a ∧ ds = [eW ts kvs, .int a] ∧ d = .bl (FtM.can f a)
abbrev sTurned : Stmt := topS 74
abbrev nTurned : List Str := ["_law_web_here", "_law_flip", "_law_x", "_law_r", "_law_s", "_law_p", "_law_q", "_law_found", "_law_fresh", "_law_ends", "_law_late", "_law_line", "_law_row"]
theorem scTurned : FnScope nTurned ["_law_web_here", "_law_flip"] (defScope sTurned) := ⟨rfl, rfl, rfl, by decide +kernel, rfl, by decide +kernel, by decide +kernel⟩
def PTurned (ds : List Dt) (d : Dt) : Prop := ∃ (L n : Nat) (f e : Int → Int) (ts : List Tri) (kvs : List (Int × Int)) (a : Int), FtM.GoodW L n f e ts kvs ∧ FtM.IsLn L a ∧ FtM.can f a = true ∧ ds = [eW ts kvs, .int a] ∧ d = eW (FtM.turnT f a ts) (FtM.turnE f a e kvs)
theorem sg_neg (f : Int → Int) (w : Int) : -FtM.sg f w = f (f w) := by unfold FtM.sg; rw [Int.neg_neg]
theorem web_L {L n : Nat} {f e : Int → Int} (W : FtM.Web L n f e) : 9 ≤ L ∧ L ≤ 15 := by
  have h1 := W.hn
  have h2 := W.hL
  omega
theorem metL_len (f : Int → Int) : ∀ (xs : List Int) (fd : List (List Int)), (xs.foldl (fun fd x => if fd.any (fun l => decide (x ∈ l)) = true then fd else fd ++ [FtM.sOrb f x]) fd).length ≤ fd.length + xs.length
  | [], fd => Nat.le_refl _
  | x :: xs, fd => by
    rw [List.foldl_cons, List.length_cons]
    split
    · have := metL_len f xs fd
      omega
    · have := metL_len f xs (fd ++ [FtM.sOrb f x])
      rw [List.length_append, List.length_singleton] at this
      omega
theorem zipD_map (ord : List Int) (ls : List (List Int)) : zipD (ord.map Dt.int) (ls.map eL) = (ord.zip ls).map fun vl => Dt.tup [.int vl.1, eL vl.2] := by
  unfold zipD
  rw [List.length_map, List.length_map]
  refine List.ext_getElem (by simp) fun i h1 h2 => ?_
  simp only [List.length_map, List.length_range, List.length_zip] at h1 h2
  simp only [List.getElem_map, List.getElem_range, List.getElem_zip]
  rw [List.getD_eq_getElem?_getD, List.getD_eq_getElem?_getD, List.getElem?_map, List.getElem?_map, List.getElem?_eq_getElem (by omega), List.getElem?_eq_getElem (by omega)]
  rfl
section
variable {M : Mo} {f : Addr} {fd : FuncData}
theorem ok_met (F : L2.Fun M.K "_law_met" "_law_met" sMet f fd) (B : Bl M) (Gp : Glob M "_law_parts" 1 ["_law_tris"] (spP PParts)) (Ga : Glob M "_law_around" 1 ["_law_parts_here", "_law_line"] (spP PAround)) (Gl : Glob M "_law_lines" 1 ["_law_tris"] (spP PLines)) : FnOk M.P M.w M.K M.mg M.base CX0 2 f fd ["_law_tris"] (spP PMet) := by
  have nd := scMet.nd
  refine FtR.Fun.okP (k := 1) F scMet (fun ds d ⟨_, _, _, _, _, _, _, h, _⟩ => by rw [h]; rfl) fun cdv A outer s0 H E hr F D ds d hP hq hn => ?_
  obtain ⟨L, n, g, e, ts, R, W, rfl, rfl⟩ := hP
  obtain ⟨hL1, hL2⟩ := web_L W
  have tl3 := R.len
  have hper : ∀ x, FtM.IsLn L x → ∀ i, FtM.IsLn L (it (FtM.sg g) i x) := fun x hx i => FtM.mem_lns.mp (FtM.it_mem (s := FtM.sg g) (X := FtM.lns L) (fun y hy => FtM.mem_lns.mpr (W.tr.sg_in (FtM.mem_lns.mp hy))) (FtM.mem_lns.mpr hx) i)
  refine r_par3DNN 1 2 3 (x_call Gp (l1 (v 0 rfl)) ⟨ts, rfl, by omega, rfl⟩) n_dnew (fun q => n_lst l_nil) fun q r => ?_
  refine r_for (xs := (FtM.lns L).map Dt.int) (fun i ds os => ∃ (kvs : List (Int × Dt)) (a b : Option Dt), ds = [some (.lst (ts.map e3)), some (dicOf (eD (FtM.parts ts))), some (.adr q), some (.adr r), a, b] ∧ os = [(r, .lst ((FtM.metL g ((FtM.lns L).take i)).map eL)), (q, odic kvs)] ∧
    (∀ x, (getA kvs x).isSome = (FtM.metL g ((FtM.lns L).take i)).any fun l => decide (x ∈ l)) ∧ kvs.length ≤ 40 * i) (i_list (x_call Gl (l1 (v 0 rfl)) ⟨_, L, rfl, by rw [List.length_map]; exact tl3, by omega, rfl⟩)) ⟨[], none, none, rfl, rfl, fun _ => rfl, Nat.zero_le _⟩ ?_ ?_
  · rintro F' lF i d _ _ hd ⟨kvs, a, b, rfl, rfl, hs, hz⟩
    rw [List.getElem?_map] at hd
    obtain ⟨x, hx, rfl⟩ := Option.map_eq_some_iff.mp hd
    have hil := (List.getElem?_eq_some_iff.mp hx).1
    rw [FtM.lns_len] at hil
    have lx : FtM.IsLn L x := FtM.mem_lns.mp (List.mem_of_getElem? hx)
    have hstep : FtM.metL g ((FtM.lns L).take (i + 1)) = if ((FtM.metL g ((FtM.lns L).take i)).any fun l => decide (x ∈ l)) = true then FtM.metL g ((FtM.lns L).take i) else FtM.metL g ((FtM.lns L).take i) ++ [FtM.sOrb g x] := by
      unfold FtM.metL
      rw [fold_snoc hx]
    have hml : (FtM.metL g ((FtM.lns L).take i)).length ≤ 40 := by
      have := metL_len g ((FtM.lns L).take i) []
      rw [List.length_take, FtM.lns_len] at this
      simp only [List.length_nil] at this
      unfold FtM.metL
      omega
    refine ⟨_, _, g_name 4, ?_⟩
    refine r_when (b_dnin (v 4 rfl) (v 2 rfl) (.own 1 rfl) rfl) (fun c => ?_) (fun c => ?_)
    · rw [hs x, Bool.not_eq_true'] at c
      rw [c, if_neg Bool.false_ne_true] at hstep
      obtain ⟨P, Pl⟩ := W.tr.sper lx
      refine r_expr (x_append 0 (y := eL (FtM.sOrb g x)) (v 3 rfl) (x_call Ga (l2 (v 1 rfl) (v 4 rfl)) ⟨_, x, FtM.perOf (FtM.sg g) x, FtM.sg g, rfl, fun i hi => ⟨_, _, by rw [R.get (hper x lx i), sg_neg]⟩, P, by omega, rfl⟩) ⟨_, rfl⟩ rfl (by rw [List.length_map]; omega)) ?_
      refine r_for (xs := (FtM.sOrb g x).map Dt.int) (fun j ds os => ∃ (kvs' : List (Int × Dt)) (b : Option Dt), ds = [some (.lst (ts.map e3)), some (dicOf (eD (FtM.parts ts))), some (.adr q), some (.adr r), some (.int x), b] ∧ os = [(r, .lst ((FtM.metL g ((FtM.lns L).take (i + 1))).map eL)), (q, odic kvs')] ∧
        (∀ y, (getA kvs' y).isSome = ((getA kvs y).isSome || decide (y ∈ (FtM.sOrb g x).take j))) ∧ kvs'.length ≤ kvs.length + j) (i_list (x_ixL (v 3 rfl) (x_sub (x_len B.len (v 3 rfl) (.lst (.own 0 rfl))) x_int) (.own 0 rfl) (d := .lst ((FtM.sOrb g x).map Dt.int)) ?_)) ⟨kvs, b, rfl, ?_, fun y => by simp, Nat.le_refl _⟩ ?_ ?_
      · simp only [List.length_append, List.length_singleton]
        refine atI_get (by omega) ?_
        rw [show (((FtM.metL g ((FtM.lns L).take i)).map eL).length + 1 : Nat) - (1 : Int) = (((FtM.metL g ((FtM.lns L).take i)).map eL).length : Int) by omega, Int.toNat_natCast, List.getElem?_append_right (Nat.le_refl _), Nat.sub_self]
        rfl
      · rw [hstep, List.map_append]
        rfl
      · rintro F'' lF' j d _ _ hd ⟨kvs', b', rfl, rfl, hs', hz'⟩
        rw [List.getElem?_map] at hd
        obtain ⟨y, hy, rfl⟩ := Option.map_eq_some_iff.mp hd
        have hjl := (List.getElem?_eq_some_iff.mp hy).1
        have hol : (FtM.sOrb g x).length ≤ 30 := by
          unfold FtM.sOrb
          rw [FtM.orb_len]
          omega
        refine ⟨_, _, g_name 5, ?_⟩
        refine r_dput (d := .bl true) 1 x_bl (v 2 rfl) (v 5 rfl) rfl (by omega) ?_
        refine r_loop _ ⟨_, some (.int y), rfl, rfl, fun w => ?_, ?_⟩ (Sub.refl _)
        · rw [FtM.getA_put, List.take_add_one, hy]
          by_cases hw : w = y
          · rw [if_pos hw]
            simp [hw]
          · rw [if_neg hw, hs' w]
            congr 1
            simp [hw]
        · have := FtM.putA_len kvs' y (Dt.bl true)
          split at this <;> omega
      · rintro _ _ ⟨kvs', b', rfl, rfl, hs', hz'⟩
        rw [List.length_map] at hs' hz'
        have hol : (FtM.sOrb g x).length ≤ 30 := by
          unfold FtM.sOrb
          rw [FtM.orb_len]
          omega
        refine r_end (r_loop _ ⟨kvs', some (.int x), b', rfl, rfl, fun y => ?_, by omega⟩ (Sub.refl _))
        rw [hs' y, List.take_length, hs y, hstep, List.any_append]
        simp
    · rw [hs x, Bool.not_eq_false'] at c
      rw [c, if_pos rfl] at hstep
      exact r_loop _ ⟨kvs, some (.int x), b, rfl, by rw [hstep], fun y => by rw [hstep]; exact hs y, by omega⟩ (Sub.refl _)
  · rintro _ _ ⟨kvs, a, b, rfl, rfl, hs, hz⟩
    rw [List.length_map, List.take_length]
    exact r_ret (x_froz 0 (v 3 rfl) rfl) (hq _)
theorem ok_starts (F : L2.Fun M.K "_law_starts" "_law_starts" sStarts f fd) (B : Bl M) (Gm : Glob M "_law_met" 2 ["_law_tris"] (spP PMet)) : FnOk M.P M.w M.K M.mg M.base CX0 3 f fd ["_law_tris", "_law_order_z"] (spP PStarts) := by
  have nd := scStarts.nd
  refine FtR.Fun.okP (k := 2) F scStarts (fun ds d ⟨_, _, _, _, _, _, _, _, _, h, _⟩ => by rw [h]; rfl) fun cdv A outer s0 H E hr F D ds d hP hq hn => ?_
  obtain ⟨L, n, g, e, ts, ord, R, W, ho, rfl, rfl⟩ := hP
  obtain ⟨hL1, hL2⟩ := web_L W
  have hol : ∀ l ∈ FtM.metL g (FtM.lns L), l.length ≤ 30 := fun l hl => by
    obtain ⟨h1, h2, _⟩ := W.met.head W hl
    rw [h2]
    unfold FtM.sOrb
    rw [FtM.orb_len]
    have := (W.tr.sper h1).2
    omega
  have hfold : ∀ (xs m : List (Int × Int)), (xs.foldl (fun m kv => putA m kv.1 kv.2) m).length ≤ m.length + xs.length := fun xs => by
    induction xs with
    | nil => intro m; exact Nat.le_refl _
    | cons kv xs ih =>
      intro m
      have h2 := ih (putA m kv.1 kv.2)
      have h3 := FtM.putA_len m kv.1 kv.2
      rw [List.foldl_cons, List.length_cons]
      split at h3 <;> omega
  refine r_setN 2 n_dnew fun q => ?_
  refine r_for (fun i ds os => ∃ (kvs : List (Int × Int)) (a b c : Option Dt), ds = [some (.lst (ts.map e3)), some (eL ord), some (.adr q), a, b, c] ∧ os = [(q, odic (eI kvs))] ∧ kvs = FtM.putAll (((ord.zip (FtM.metL g (FtM.lns L))).take i).flatMap fun vl => vl.2.map fun x => (x, vl.1)) ∧ kvs.length ≤ 40 * i) (i_zip B.zip (v 1 rfl) (x_call Gm (l1 (v 0 rfl)) ⟨L, n, g, e, ts, R, W, rfl, rfl⟩) rfl rfl) ⟨[], none, none, none, rfl, rfl, rfl, Nat.zero_le _⟩ ?_ ?_
  · rintro F' lF i d _ _ hd ⟨kvs, a, b, c, rfl, rfl, hk, hz⟩
    rw [zipD_map, List.getElem?_map] at hd
    obtain ⟨vl, hx, rfl⟩ := Option.map_eq_some_iff.mp hd
    have hil := (List.getElem?_eq_some_iff.mp hx).1
    rw [List.length_zip] at hil
    have hm : vl.2 ∈ FtM.metL g (FtM.lns L) := (List.of_mem_zip (List.mem_of_getElem? hx)).2
    have hvl := hol _ hm
    refine ⟨_, _, g_tup (gs_cons (g_name 3) (gs_cons (g_name 4) gs_nil)) rfl, ?_⟩
    refine r_for (xs := vl.2.map Dt.int) (fun j ds os => ∃ (kvs' : List (Int × Int)) (c : Option Dt), ds = [some (.lst (ts.map e3)), some (eL ord), some (.adr q), some (.int vl.1), some (eL vl.2), c] ∧ os = [(q, odic (eI kvs'))] ∧ kvs' = ((vl.2.take j).map fun x => (x, vl.1)).foldl (fun m kv => putA m kv.1 kv.2) kvs) (i_list (v 4 rfl)) ⟨kvs, c, rfl, rfl, rfl⟩ ?_ ?_
    · rintro F'' lF' j d _ _ hd ⟨kvs', c', rfl, rfl, hk'⟩
      rw [List.getElem?_map] at hd
      obtain ⟨y, hy, rfl⟩ := Option.map_eq_some_iff.mp hd
      have hjl := (List.getElem?_eq_some_iff.mp hy).1
      have hz' : kvs'.length ≤ 40 * i + j := by
        have := hfold ((vl.2.take j).map fun x => (x, vl.1)) kvs
        rw [← hk', List.length_map, List.length_take] at this
        omega
      refine ⟨_, _, g_name 5, ?_⟩
      refine r_dput (d := .int vl.1) 0 (v 3 rfl) (v 2 rfl) (v 5 rfl) rfl (by unfold eI; rw [List.length_map]; omega) ?_
      rw [putI]
      refine r_loop _ ⟨_, some (.int y), rfl, rfl, ?_⟩ (Sub.refl _)
      rw [List.take_add_one, hy, List.map_append, List.foldl_append, ← hk']
      rfl
    · rintro _ _ ⟨kvs', c', rfl, rfl, hk'⟩
      rw [List.length_map, List.take_length] at hk'
      refine r_loop _ ⟨kvs', some (.int vl.1), some (eL vl.2), c', rfl, rfl, ?_, ?_⟩ (Sub.refl _)
      · rw [List.take_add_one, hx, List.flatMap_append, hk', hk]
        unfold FtM.putAll
        rw [List.foldl_append]
        simp
      · have := hfold (vl.2.map fun x => (x, vl.1)) kvs
        rw [← hk', List.length_map] at this
        omega
  · rintro _ _ ⟨kvs, a, b, c, rfl, rfl, hk, hz⟩
    rw [zipD_map, List.length_map, List.take_length] at hk
    subst hk
    exact r_ret (x_frozD 0 (v 2 rfl) rfl) (hq _)
theorem ok_order (F : L2.Fun M.K "_law_order" "_law_order" sOrder f fd) (Gm : Glob M "_law_met" 2 ["_law_tris"] (spP PMet)) : FnOk M.P M.w M.K M.mg M.base CX0 3 f fd ["_law_web_here"] (spP POrder) := by
  have nd := scOrder.nd
  refine FtR.Fun.okP (k := 2) F scOrder (fun ds d ⟨_, _, _, _, _, _, _, h, _⟩ => by rw [h]; rfl) fun cdv A outer s0 H E hr F D ds d hP hq hn => ?_
  obtain ⟨L, n, g, e, ts, kvs, G, rfl, rfl⟩ := hP
  have W := G.web
  have hl := web_L W
  refine r_ret (x_ofL (n_lc0 (l := FtM.metL g (FtM.lns L)) (enc := eL) (g := fun l => Dt.int (e (FtM.hd l))) [("_law_lines_here", 1)] (fun l => [some (eW ts kvs), some (eL l)]) (i_list (x_call Gm (l1 (x_ixT (v 0 rfl) x_int rfl)) ⟨L, n, g, e, ts, G.reps, W, rfl, rfl⟩)) (fun _ => ⟨nd, blkOk_by (N := nOrder) (sc := defScope sOrder) (by decide +kernel)⟩)
    (fun l hl F => ⟨_, g_name 1, by simp⟩) (fun l hl F => x_dget (x_ixT (v 0 rfl) x_int rfl) (x_ixL (v 1 rfl) x_int (.dat _) (d := .int (FtM.hd l)) ?_) (.dat _) (getI_at (G.ends _ (W.met.head W hl).1))) ?_)) ?_
  · obtain ⟨x, hx, h1, h2⟩ := W.met.is l hl
    cases l with
    | nil => cases h2
    | cons y r => exact atI_get (Int.le_refl 0) rfl
  · rw [W.ord_len]
    have := W.hn
    omega
  · have e1 : (FtM.metL g (FtM.lns L)).map (fun l => Dt.int (e (FtM.hd l))) = (FtM.ordL L g e).map Dt.int := by
      unfold FtM.ordL
      rw [List.map_map]
      rfl
    rw [e1]
    exact hq _
theorem ok_sides (F : L2.Fun M.K "_law_sides" "_law_sides" sSides f fd) (B : Bl M) (Gp : Glob M "_law_parts" 1 ["_law_tris"] (spP PParts)) : FnOk M.P M.w M.K M.mg M.base CX0 2 f fd ["_law_web_here", "_law_line"] (spP PSides) := by
  have nd := scSides.nd
  refine FtR.Fun.okP (k := 1) F scSides (fun ds d ⟨_, _, _, _, _, _, _, _, _, h, _⟩ => by rw [h]; rfl) fun cdv A outer s0 H E hr F D ds d hP hq hn => ?_
  obtain ⟨L, n, g, e, ts, kvs, a, G, ha, rfl, rfl⟩ := hP
  have hL := web_L G.web
  have tl3 := G.reps.len
  have hx : FtM.IsLn L (a.natAbs : Int) := by unfold FtM.IsLn at *; rwa [Int.natAbs_natCast]
  refine r_parDD 2 1 (x_call Gp (l1 (x_ixT (v 0 rfl) x_int rfl)) ⟨ts, rfl, by omega, rfl⟩) (x_abs B.abs (v 1 rfl)) ?_
  have e0 : (0 - (a.natAbs : Int)) = -(a.natAbs : Int) := Int.zero_sub _
  have g1 : getA (eD (FtM.parts ts)) (0 - (a.natAbs : Int)) = some (e3 (-(a.natAbs : Int), g (-(a.natAbs : Int)), g (g (-(a.natAbs : Int))))) := by rw [e0]; exact getD_at (G.reps.get hx.neg)
  have g2 := getD_at (G.reps.get hx)
  exact r_ret (x_ofL (n_lst (xs := (sidesL g a).map Dt.int) (l_cons (x_ixT (x_dget (v 2 rfl) (x_sub x_int (v 1 rfl)) (.dat _) g1) x_int rfl) (l3 (x_ixT (x_dget (v 2 rfl) (x_sub x_int (v 1 rfl)) (.dat _) g1) x_int rfl) (x_ixT (x_dget (v 2 rfl) (v 1 rfl) (.dat _) g2) x_int rfl) (x_ixT (x_dget (v 2 rfl) (v 1 rfl) (.dat _) g2) x_int rfl))) (by rw [List.length_map]; show 4 ≤ 1000000; decide))) (hq _)
theorem can_eq (g : Int → Int) (a : Int) : ((!decide (((g (g (a.natAbs : Int))).natAbs : Int) = ((g (-(a.natAbs : Int))).natAbs : Int))) && (!decide (((g (g (-(a.natAbs : Int)))).natAbs : Int) = ((g (a.natAbs : Int)).natAbs : Int)))) = FtM.can g a := by
  unfold FtM.can
  simp only [Int.natCast_inj, ne_eq, decide_not]
theorem ok_can (F : L2.Fun M.K "_law_can" "_law_can" sCan f fd) (B : Bl M) (Gs : Glob M "_law_sides" 2 ["_law_web_here", "_law_line"] (spP PSides)) : FnOk M.P M.w M.K M.mg M.base CX0 3 f fd ["_law_web_here", "_law_flip"] (spP PCan) := by
  have nd := scCan.nd
  refine FtR.Fun.okP (k := 2) F scCan (fun ds d ⟨_, _, _, _, _, _, _, _, _, h, _⟩ => by rw [h]; rfl) fun cdv A outer s0 H E hr F D ds d hP hq hn => ?_
  obtain ⟨L, n, g, e, ts, kvs, a, G, ha, rfl, rfl⟩ := hP
  refine r_asg (x_call Gs (l2 (v 0 rfl) (v 1 rfl)) ⟨L, n, g, e, ts, kvs, a, G, ha, rfl, rfl⟩) (g_unl (gs_cons (g_name 2) (gs_cons (g_name 3) (gs_cons (g_name 4) (gs_cons (g_name 5) gs_nil)))) rfl) ?_
  exact r_ret ((x_and (x_ne (x_abs B.abs (v 5 rfl)) (x_abs B.abs (v 2 rfl))) (fun _ => x_one (x_ne (x_abs B.abs (v 3 rfl)) (x_abs B.abs (v 4 rfl)))) (fun _ => rfl)).to (congrArg Dt.bl (can_eq g a))) (hq _)
theorem nin_tri (x : Int) (t : Tri) : (!decide (x ∈ [t.1, t.2.1, t.2.2])) = !FtM.has x t := rfl
theorem ok_turned (F : L2.Fun M.K "_law_turned" "_law_turned" sTurned f fd) (B : Bl M) (Gs : Glob M "_law_sides" 2 ["_law_web_here", "_law_line"] (spP PSides)) : FnOk M.P M.w M.K M.mg M.base CX0 3 f fd ["_law_web_here", "_law_flip"] (spP PTurned) := by
  have nd := scTurned.nd
  refine FtR.Fun.okP (k := 2) F scTurned (fun ds d ⟨_, _, _, _, _, _, _, _, _, _, h, _⟩ => by rw [h]; rfl) fun cdv A outer s0 H E hr F D ds d hP hq hn => ?_
  obtain ⟨L, n, g, e, ts, kvs, a, G, ha, hc, rfl, rfl⟩ := hP
  have hL := web_L G.web
  have tl3 := G.reps.len
  have hx : FtM.IsLn L (a.natAbs : Int) := by unfold FtM.IsLn at *; rwa [Int.natAbs_natCast]
  have X := FtM.flp_of G.web.tr ha hc
  have S := X.six
  have e0 : (0 - (a.natAbs : Int)) = -(a.natAbs : Int) := Int.zero_sub _
  generalize hX : (a.natAbs : Int) = x at *
  generalize hP : g x = p at *
  generalize hQ : g p = q' at *
  generalize hR : g (-x) = r at *
  generalize hS : g r = s at *
  refine r_set 2 ((x_abs B.abs (v 1 rfl)).to (congrArg Dt.int hX)) ?_
  refine r_asg (d := .lst [.int r, .int s, .int p, .int q']) ((x_call Gs (l2 (v 0 rfl) (v 1 rfl)) ⟨L, n, g, e, ts, kvs, a, G, ha, rfl, rfl⟩).to (by unfold eL sidesL; rw [hX, hP, hQ, hR, hS]; rfl)) (g_unl (gs_cons (g_name 3) (gs_cons (g_name 4) (gs_cons (g_name 5) (gs_cons (g_name 6) gs_nil)))) rfl) ?_
  refine r_setLc (l := ts) (enc := e3) (f := fun t => !FtM.has x t && !FtM.has (-x) t) (g := e3) [("_law_row", 12)] (fun t => [some (eW ts kvs), some (.int a), some (.int x), some (.int r), some (.int s), some (.int p), some (.int q'), none, none, none, none, none, some (e3 t)]) 7 (i_list (x_ixT (v 0 rfl) x_int rfl)) (fun _ => ⟨nd, blkOk_by (N := nTurned) (sc := defScope sTurned) (by decide +kernel)⟩)
    (fun t ht F => ⟨_, g_name 12, by simp⟩) (fun t ht F => t_one (b_w (w_and (b_nin (is := [t.1, t.2.1, t.2.2]) (v 2 rfl) (v 12 rfl) (.tup _) rfl) (fun _ => w_and1 ?_) (fun _ => rfl)))) (fun t ht _ F => v 12 rfl) (by omega) (fun qf => ?_)
  · refine PB.to (b_nin (i := 0 - x) (is := [t.1, t.2.1, t.2.2]) (x_sub x_int (v 2 rfl)) (v 12 rfl) (.tup _) rfl) ?_
    rw [e0]
    rfl
  refine r_set (d := .lst ((FtM.fresh a x p q' r s).map e3)) 8 (x_if (b_gt (v 1 rfl) x_int) (fun c => (x_ofL (n_lst (l2 (x_tup (l3 (v 2 rfl) (v 6 rfl) (v 3 rfl))) (x_tup (l3 (x_sub x_int (v 2 rfl)) (v 4 rfl) (v 5 rfl)))))).to ?_) (fun c => (x_ofL (n_lst (l2 (x_tup (l3 (v 2 rfl) (v 4 rfl) (v 5 rfl))) (x_tup (l3 (x_sub x_int (v 2 rfl)) (v 6 rfl) (v 3 rfl)))))).to ?_)) ?_
  · rw [e0]
    unfold FtM.fresh
    rw [if_pos (of_decide_eq_true c)]
    rfl
  · rw [e0]
    unfold FtM.fresh
    rw [if_neg (of_decide_eq_false c)]
    rfl
  refine r_parDN 9 10 (x_ixT (v 0 rfl) x_int rfl) n_dnew fun ql => ?_
  refine r_copyKeys (kvs := eI kvs) 9 10 11 0 rfl rfl rfl (by unfold eI; rw [List.map_map]; exact G.nd) (by unfold eI; rw [List.length_map, G.ln]; omega) (by decide) (by decide) (by show 11 < 13; decide) (fun _ => ⟨rfl, .inl rfl⟩) (fun _ => ⟨rfl, .inl rfl⟩) (fun _ => ⟨nd, rfl, .inl rfl, .inl rfl⟩) (fun _ => .inl rfl) (by decide) ?_ (fun _ => PassesOwn.never) (fun _ _ => rfl) (fun _ _ => rfl) (fun _ _ => rfl) (fun _ => rfl)
  refine r_for (xs := (FtM.fresh a x p q' r s).map e3) (fun i ds os => ∃ (kv : List (Int × Int)) (t : Option Dt), ds = [some (eW ts kvs), some (.int a), some (.int x), some (.int r), some (.int s), some (.int p), some (.int q'), some (.adr qf), some (.lst ((FtM.fresh a x p q' r s).map e3)), some (dicOf (eI kvs)), some (.adr ql), none, t] ∧
    os = [(ql, odic (eI kv)), (qf, .lst ((ts.filter fun t => !FtM.has x t && !FtM.has (-x) t).map e3))] ∧ kv = ((FtM.fresh a x p q' r s).take i).foldl (fun m t => putA m t.1 (e (-t.2.2))) kvs ∧ kv.length ≤ 40 + i) (i_list (v 8 rfl)) ⟨kvs, none, rfl, rfl, rfl, by rw [G.ln]; omega⟩ ?_ ?_
  · rintro F' lF i d _ _ hd ⟨kv, t0, rfl, rfl, hk, hz⟩
    rw [List.getElem?_map] at hd
    obtain ⟨t, ht, rfl⟩ := Option.map_eq_some_iff.mp hd
    have hil := (List.getElem?_eq_some_iff.mp ht).1
    have hfl : (FtM.fresh a x p q' r s).length = 2 := by unfold FtM.fresh; split <;> rfl
    have hmem := List.mem_of_getElem? ht
    have lt : FtM.IsLn L (0 - t.2.2) := by
      rw [Int.zero_sub]
      refine FtM.IsLn.neg ?_
      unfold FtM.fresh at hmem
      split at hmem
      · simp only [List.mem_cons, List.not_mem_nil, or_false] at hmem
        rcases hmem with rfl | rfl
        · exact S.lr
        · exact S.lp
      · simp only [List.mem_cons, List.not_mem_nil, or_false] at hmem
        rcases hmem with rfl | rfl
        · exact S.lp
        · exact S.lr
    refine ⟨_, _, g_name 12, ?_⟩
    refine r_dput (d := .int (e (0 - t.2.2))) 0 (x_dget (v 9 rfl) (x_sub x_int (x_ixT (v 12 rfl) x_int rfl)) (.dat _) (getI_at (G.ends _ lt))) (v 10 rfl) (x_ixT (v 12 rfl) x_int rfl) rfl (by unfold eI; rw [List.length_map]; omega) ?_
    rw [putI]
    refine r_loop _ ⟨_, some (e3 t), rfl, rfl, ?_, ?_⟩ (Sub.refl _)
    · rw [fold_snoc ht, ← hk, Int.zero_sub]
    · have := FtM.putA_len kv t.1 (e (0 - t.2.2))
      split at this <;> omega
  · rintro _ _ ⟨kv, t0, rfl, rfl, hk, hz⟩
    rw [List.length_map, List.take_length] at hk
    have h1 : kv = FtM.turnE g a e kvs := by
      rw [hk]
      unfold FtM.turnE FtM.fresh
      rw [hX, hP, hR]
      split
      · rfl
      · rfl
    have h2 : (ts.filter fun t => !FtM.has x t && !FtM.has (-x) t) ++ FtM.fresh a x p q' r s = FtM.turnT g a ts := by
      unfold FtM.turnT FtM.keepT
      rw [hX, hP, hQ, hR, hS]
    rw [← h1, ← h2] at hq
    refine r_ret (x_tup (l2 (x_ofL (n_catL (v 7 rfl) (v 8 rfl) (.own 1 rfl) (.dat _) ?_)) (x_frozD 0 (v 10 rfl) rfl))) ?_
    · rw [List.length_map, List.length_map]
      have hfl : (FtM.fresh a x p q' r s).length = 2 := by unfold FtM.fresh; split <;> rfl
      have := List.length_filter_le (fun t => !FtM.has x t && !FtM.has (-x) t) ts
      omega
    · rw [← List.map_append]
      exact hq _
end
end FtR
set_option maxHeartbeats 1000000
/-! the drums; nails in any order -/
namespace FtM
def drum1 (rim h : Int) : List Tri := [(h, rim + (if h < rim then h + 1 else 1), -(rim + h)), (-h, 2 * rim + h, -(2 * rim + (if h < rim then h + 1 else 1)))]
def drumT (rim : Int) : List Tri := (List.range rim.toNat).flatMap fun i => drum1 rim (1 + (i : Nat))
def fOf (ts : List Tri) (x : Int) : Int := match getA (parts ts) x with
  | some t => t.2.1
  | none => 0
/-- lines joined from 1 on, k rounds -/
def grow (f : Int → Int) : Nat → List Int
  | 0 => [1]
  | k + 1 => (grow f k ++ (grow f k).flatMap fun z => [-z, f z]).eraseDups
def orbF (f : Int → Int) (x : Int) : Nat → Int → List Int
  | 0, _ => []
  | k + 1, y => if sg f y = x then [y] else y :: orbF f x k (sg f y)
def metC (f : Int → Int) (xs : List Int) : List (List Int) := xs.foldl (fun fd x => if fd.any (fun l => decide (x ∈ l)) = true then fd else fd ++ [orbF f x 40 x]) []
def chain (f : Int → Int) : List Int → Bool
  | x :: y :: r => decide (sg f x = y) && chain f (y :: r)
  | _ => true
def ixC (ls : List (List Int)) (x : Int) : Int := (ls.findIdx fun l => decide (x ∈ l) : Nat)
def webChk (L n : Nat) (f : Int → Int) (ls : List (List Int)) : Bool :=
  ((lns L).all fun x => decide (f x ∈ lns L) && decide (f (f (f x)) = x) && decide ((f x).natAbs ≠ x.natAbs) && decide (ixC ls (sg f x) = ixC ls x) && decide (ixC ls x < n) && decide (x ∈ grow f 8)) &&
  (ls.all fun l => chain f l) && ((List.range n).all fun v => (lns L).any fun x => decide (ixC ls x = (v : Nat)))
def repChk (ts : List Tri) (L : Nat) (f : Int → Int) : Bool := (ts.all fun t => decide (f t.1 = t.2.1) && decide (f t.2.1 = t.2.2) && decide (f t.2.2 = t.1)) && (ts.flatMap tl).isPerm (lns L)
theorem reps_chk {ts : List Tri} {L : Nat} {f : Int → Int} (h : repChk ts L f = true) : Reps ts L f := by
  unfold repChk at h
  rw [Bool.and_eq_true, List.all_eq_true] at h
  refine ⟨fun t ht => ?_, List.isPerm_iff.mp h.2⟩
  have := h.1 t ht
  simp only [Bool.and_eq_true, decide_eq_true_eq] at this
  exact ⟨this.1.1, this.1.2, this.2⟩
theorem chain_iff {f : Int → Int} {P : Int → Prop} {L : Nat} (hP : ∀ w, IsLn L w → (P w ↔ P (sg f w))) : ∀ {l : List Int} {x : Int}, chain f (x :: l) = true → (∀ y ∈ x :: l, IsLn L y) → ∀ y ∈ x :: l, (P x ↔ P y)
  | [], x, _, _, y, hy => by rw [List.mem_singleton.mp hy]
  | z :: r, x, h, hl, y, hy => by
    unfold chain at h
    rw [Bool.and_eq_true, decide_eq_true_eq] at h
    rcases List.mem_cons.mp hy with rfl | hy
    · exact Iff.rfl
    · have h1 := hP x (hl x List.mem_cons_self)
      rw [h.1] at h1
      exact h1.trans (chain_iff hP h.2 (fun y hy => hl y (List.mem_cons_of_mem _ hy)) y hy)
theorem grow_all {f : Int → Int} {L : Nat} (hf : ∀ w, IsLn L w → IsLn L (f w)) (h1 : IsLn L 1) (P : Int → Prop) (a : ∀ w, IsLn L w → P w → P (-w)) (b : ∀ w, IsLn L w → P w → P (f w)) (p1 : P 1) : ∀ k, ∀ x ∈ grow f k, IsLn L x ∧ P x
  | 0, x, hx => by rw [List.mem_singleton.mp hx]; exact ⟨h1, p1⟩
  | k + 1, x, hx => by
    unfold grow at hx
    rw [List.mem_eraseDups] at hx
    rcases List.mem_append.mp hx with hx | hx
    · exact grow_all hf h1 P a b p1 k x hx
    · obtain ⟨z, hz, hx⟩ := List.mem_flatMap.mp hx
      obtain ⟨c1, c2⟩ := grow_all hf h1 P a b p1 k z hz
      simp only [List.mem_cons, List.not_mem_nil, or_false] at hx
      rcases hx with rfl | rfl
      · exact ⟨c1.neg, a z c1 c2⟩
      · exact ⟨hf z c1, b z c1 c2⟩
theorem web_chk {L n : Nat} {f : Int → Int} {ls : List (List Int)} (h : webChk L n f ls = true) (hn : 5 ≤ n ∧ n ≤ 7) (hL : L = 3 * (n - 2)) (hls : ∀ l ∈ ls, ∀ y ∈ l, y ∈ lns L) (hlen : ls.length = n) : Web L n f (ixC ls) := by
  unfold webChk at h
  rw [Bool.and_eq_true, Bool.and_eq_true, List.all_eq_true, List.all_eq_true, List.all_eq_true] at h
  obtain ⟨⟨h1, h2⟩, h3⟩ := h
  have g : ∀ x, IsLn L x → IsLn L (f x) ∧ f (f (f x)) = x ∧ (f x).natAbs ≠ x.natAbs ∧ ixC ls (sg f x) = ixC ls x ∧ ixC ls x < n ∧ x ∈ grow f 8 := fun x hx => by
    have := h1 x (mem_lns.mpr hx)
    simp only [Bool.and_eq_true, decide_eq_true_eq] at this
    exact ⟨mem_lns.mp this.1.1.1.1.1, this.1.1.1.1.2, this.1.1.1.2, this.1.1.2, this.1.2, this.2⟩
  have nn : ∀ x, 0 ≤ ixC ls x := fun x => by unfold ixC; omega
  refine ⟨⟨fun x hx => (g x hx).1, fun x hx => (g x hx).2.1, fun x hx => (g x hx).2.2.1⟩, fun x hx => (g x hx).2.2.2.1, fun P hP x y hx hy e px => ?_, fun x hx => ⟨nn x, (g x hx).2.2.2.2.1⟩, fun v h0 hv => ?_, fun P a b p1 x hx => ?_, hn, hL⟩
  · by_cases hi : ls.findIdx (fun l => decide (x ∈ l)) < ls.length
    · have m1 := List.findIdx_getElem (w := hi)
      have e' : ls.findIdx (fun l => decide (x ∈ l)) = ls.findIdx (fun l => decide (y ∈ l)) := by unfold ixC at e; omega
      have hj : ls.findIdx (fun l => decide (y ∈ l)) < ls.length := e' ▸ hi
      have m2 := List.findIdx_getElem (w := hj)
      have m1' : x ∈ ls[ls.findIdx (fun l => decide (x ∈ l))] := of_decide_eq_true m1
      have m2' : y ∈ ls[ls.findIdx (fun l => decide (y ∈ l))] := of_decide_eq_true m2
      have m3 : y ∈ ls[ls.findIdx (fun l => decide (x ∈ l))] := by
        simp only [e']
        exact m2'
      have hm := List.getElem_mem hi
      have hc := h2 _ hm
      have hl := hls _ hm
      generalize ls[ls.findIdx (fun l => decide (x ∈ l))] = l at m1' m3 hm hc hl
      cases l with
      | nil => cases m1'
      | cons z r =>
        have k := chain_iff (L := L) hP hc (fun y hy => mem_lns.mp (hl y hy))
        exact (k y m3).mp ((k x m1').mpr px)
    · have hlt := (g x hx).2.2.2.2.1
      have hge : ls.length ≤ ls.findIdx (fun l => decide (x ∈ l)) := Nat.le_of_not_lt hi
      have hlt2 : ixC ls x < (n : Int) := hlt
      unfold ixC at hlt2
      omega
  · have := h3 v.toNat (List.mem_range.mpr (by omega))
    obtain ⟨x, hx, ex⟩ := List.any_eq_true.mp this
    refine ⟨x, mem_lns.mp hx, ?_⟩
    have := of_decide_eq_true ex
    omega
  · have h1L : IsLn L 1 := by unfold IsLn; omega
    exact (grow_all (fun w hw => (g w hw).1) h1L P a b p1 8 x (g x hx).2.2.2.2.2).2
def drF (rim : Int) : Int → Int := fOf (drumT rim)
theorem drum_reps : ∀ m ∈ [3, 4, 5], repChk (drumT (m : Nat)) (3 * m) (drF (m : Nat)) = true := by decide +kernel
theorem drum_web : ∀ m ∈ [3, 4, 5], (webChk (3 * m) (m + 2) (drF (m : Nat)) (metC (drF (m : Nat)) (lns (3 * m))) = true ∧ (∀ l ∈ metC (drF (m : Nat)) (lns (3 * m)), ∀ y ∈ l, y ∈ lns (3 * m)) ∧ (metC (drF (m : Nat)) (lns (3 * m))).length = m + 2) := by decide +kernel
theorem drum_ok {m : Nat} (h : m ∈ [3, 4, 5]) : Reps (drumT m) (3 * m) (drF m) ∧ Web (3 * m) (m + 2) (drF m) (ixC (metC (drF m) (lns (3 * m)))) := by
  refine ⟨reps_chk (drum_reps m h), ?_⟩
  obtain ⟨a, b, c⟩ := drum_web m h
  exact web_chk a (by simp only [List.mem_cons, List.not_mem_nil, or_false] at h; omega) (by omega) b c
end FtM
/-! nails in any order -/
namespace FtM
section
variable {L n : Nat} {f e : Int → Int} {ts : List Tri}
theorem Web.re (W : Web L n f e) (b : Int → Int) (hr : ∀ v : Int, 0 ≤ v → v < n → 0 ≤ b v ∧ b v < n) (hi : ∀ u v : Int, 0 ≤ u → u < n → 0 ≤ v → v < n → b u = b v → u = v) (ho : ∀ v : Int, 0 ≤ v → v < n → ∃ u : Int, 0 ≤ u ∧ u < n ∧ b u = v) : Web L n f (fun x => b (e x)) := by
  refine ⟨W.tr, fun x hx => ?_, fun P hP x y hx hy h px => ?_, fun x hx => ?_, fun v h0 hv => ?_, W.cn, W.hn, W.hL⟩
  · show b _ = b _
    rw [W.es x hx]
  · obtain ⟨a1, a2⟩ := W.er x hx
    obtain ⟨b1, b2⟩ := W.er y hy
    exact W.eo P hP x y hx hy (hi _ _ a1 a2 b1 b2 h) px
  · obtain ⟨a1, a2⟩ := W.er x hx
    exact hr _ a1 a2
  · obtain ⟨u, u0, u1, eu⟩ := ho v h0 hv
    obtain ⟨x, hx, ex⟩ := W.ex u u0 u1
    exact ⟨x, hx, by show b (e x) = v; rw [ex, eu]⟩
theorem map_idx : ∀ {v o : List Int}, v.Nodup → v.length = o.length → v.map (fun u => o.getD (v.idxOf u) 0) = o := fun {v o} hn hl => by
  refine List.ext_getElem (by rw [List.length_map, hl]) fun i h1 h2 => ?_
  rw [List.getElem_map, hn.idxOf_getElem, List.getD_eq_getElem?_getD, List.getElem?_eq_getElem h2]
  rfl
theorem Web.reorder (W : Web L n f e) {ord : List Int} (ho : ord.Perm ((List.range n).map fun i => ((i : Nat) : Int))) : ∃ e', Web L n f e' ∧ ordL L f e' = ord := by
  have hv := W.ord_perm
  have nr : ((List.range n).map fun i => ((i : Nat) : Int)).Nodup := by
    rw [List.nodup_iff_pairwise_ne, List.pairwise_map]
    exact List.pairwise_lt_range.imp fun h e => by omega
  have mr : ∀ v : Int, v ∈ ((List.range n).map fun i => ((i : Nat) : Int)) ↔ 0 ≤ v ∧ v < n := fun v => by
    simp only [List.mem_map, List.mem_range]
    exact ⟨fun ⟨i, h1, h2⟩ => by omega, fun ⟨h1, h2⟩ => ⟨v.toNat, by omega, by omega⟩⟩
  have nv : (ordL L f e).Nodup := hv.nodup_iff.mpr nr
  have no : ord.Nodup := ho.nodup_iff.mpr nr
  have hl : (ordL L f e).length = ord.length := hv.length_eq.trans ho.length_eq.symm
  have hmap := map_idx nv hl
  have hb : ∀ u : Int, 0 ≤ u → u < n → (ordL L f e).idxOf u < (ordL L f e).length := fun u h0 h1 => List.idxOf_lt_length_iff.mpr (hv.mem_iff.mpr ((mr u).mpr ⟨h0, h1⟩))
  refine ⟨fun x => ord.getD ((ordL L f e).idxOf (e x)) 0, W.re (fun u => ord.getD ((ordL L f e).idxOf u) 0) (fun (v : Int) h0 h1 => ?_) (fun (u v : Int) u0 u1 v0 v1 h => ?_) (fun (v : Int) h0 h1 => ?_), ?_⟩
  · have h := hb v h0 h1
    rw [hl] at h
    rw [List.getD_eq_getElem?_getD, List.getElem?_eq_getElem h]
    exact (mr _).mp (ho.mem_iff.mp (List.getElem_mem h))
  · have hu := hb u u0 u1
    have hv' := hb v v0 v1
    have hu2 := hu
    have hv2 := hv'
    rw [hl] at hu2 hv2
    simp only [List.getD_eq_getElem?_getD, List.getElem?_eq_getElem hu2, List.getElem?_eq_getElem hv2, Option.getD_some] at h
    have e1 := (List.getElem_inj no).mp h
    rw [← List.getElem_idxOf hu, ← List.getElem_idxOf hv']
    simp only [e1]
  · have hm : v ∈ ord := ho.mem_iff.mpr ((mr v).mpr ⟨h0, h1⟩)
    rw [← hmap] at hm
    obtain ⟨u, hu, eu⟩ := List.mem_map.mp hm
    obtain ⟨a1, a2⟩ := (mr u).mp (hv.mem_iff.mp hu)
    exact ⟨u, a1, a2, eu⟩
  · unfold ordL at hmap ⊢
    rw [List.map_map] at hmap
    exact hmap
theorem Web.good (W : Web L n f e) (R : Reps ts L f) : GoodW L n f e ts (putAll (endsKv L f (ordL L f e))) := by
  have hnd : ((endsKv L f (ordL L f e)).map (·.1)).Nodup := by
    rw [ends_keys W]
    exact W.flat_perm.nodup_iff.mpr (lns_nodup L)
  have e0 : putAll (endsKv L f (ordL L f e)) = endsKv L f (ordL L f e) := by
    unfold putAll
    rw [putAll_nodup _ [] (by rw [List.nil_append]; exact hnd), List.nil_append]
  refine ⟨R, W, fun x hx => (W.ends hx).1, by rw [e0]; exact hnd, ?_⟩
  have hL := W.hL
  have hn := W.hn
  exact (W.ends (x := 1) (by unfold IsLn; omega)).2
theorem good_start {m : Nat} (h : m ∈ [3, 4, 5]) {ord : List Int} (ho : ord.Perm ((List.range (m + 2)).map fun i => ((i : Nat) : Int))) : Web (3 * m) (m + 2) (drF m) (ixC (metC (drF m) (lns (3 * m)))) ∧ Reps (drumT m) (3 * m) (drF m) ∧ ∃ e, GoodW (3 * m) (m + 2) (drF m) e (drumT m) (putAll (endsKv (3 * m) (drF m) ord)) := by
  obtain ⟨R, W⟩ := drum_ok h
  obtain ⟨e', W', eo⟩ := W.reorder ho
  refine ⟨W, R, e', ?_⟩
  have := W'.good R
  rwa [eo] at this
end
/-- an open line -/
def isOpen (e : Int → Int) (x : Int) : Bool := !decide (e x = e (-x))
theorem Web.open_ {L n : Nat} {f e : Int → Int} (W : Web L n f e) : ∃ x, 0 < x ∧ IsLn L x ∧ isOpen e x = true := by
  refine Classical.byContradiction fun hno => ?_
  have hL := W.hL
  have hn := W.hn
  have key : ∀ x, IsLn L x → e x = e (-x) := fun x hx => by
    refine Classical.byContradiction fun hne => ?_
    have ne := hx.ne
    rcases Int.lt_trichotomy 0 x with h | h | h
    · exact hno ⟨x, h, hx, by unfold isOpen; rw [decide_eq_false hne]; rfl⟩
    · omega
    · refine hno ⟨-x, by omega, hx.neg, ?_⟩
      unfold isOpen
      rw [Int.neg_neg, decide_eq_false fun h => hne h.symm]
      rfl
  have all : ∀ x, IsLn L x → e x = e 1 := W.cn (fun x => e x = e 1) (fun w hw h => (key w hw).symm.trans h) (fun w hw h => ?_) rfl
  · obtain ⟨x, hx, ex⟩ := W.ex 0 (by omega) (by omega)
    obtain ⟨y, hy, ey⟩ := W.ex 1 (by omega) (by omega)
    have h1 := all x hx
    have h2 := all y hy
    omega
  · have h1 := W.es (f w) (W.tr.ln _ hw)
    have e1 : sg f (f w) = -w := by
      show -(f (f (f w))) = -w
      rw [W.tr.f3 w hw]
    rw [e1] at h1
    exact (h1.symm.trans (key w hw).symm).trans h
end FtM
set_option maxHeartbeats 4000000
/-! the law's flips and webs -/
namespace FtR
open PySem PySem.Spec PyProof.Rows L2
open FtM (getA putA Tri it orb)
structure WS where
  f : Int → Int
  e : Int → Int
  ts : List Tri
  kvs : List (Int × Int)
def WS.d (w : WS) : Dt := eW w.ts w.kvs
def WS.turn (w : WS) (a : Int) : WS := ⟨FtM.flF w.f a, FtM.flE w.f w.e a, FtM.turnT w.f a w.ts, FtM.turnE w.f a w.e w.kvs⟩
def WS.all (w : WS) (fl : List Int) : WS := fl.foldl WS.turn w
def GoodS (L n : Nat) (w : WS) : Prop := FtM.GoodW L n w.f w.e w.ts w.kvs
def Oks (L : Nat) : WS → List Int → Prop
  | _, [] => True
  | w, a :: r => FtM.IsLn L a ∧ FtM.can w.f a = true ∧ Oks L (w.turn a) r
theorem GoodS.turn {L n : Nat} {w : WS} {a : Int} (G : GoodS L n w) (ha : FtM.IsLn L a) (hc : FtM.can w.f a = true) : GoodS L n (w.turn a) := FtM.GoodW.turn G ha hc
theorem GoodS.all {L n : Nat} : ∀ {fl : List Int} {w : WS}, GoodS L n w → Oks L w fl → GoodS L n (w.all fl)
  | [], w, G, _ => G
  | a :: r, w, G, h => GoodS.all (fl := r) (w := w.turn a) (G.turn h.1 h.2.1) h.2.2
theorem Oks.take {L : Nat} : ∀ {fl : List Int} {w : WS} (i : Nat), Oks L w fl → Oks L w (fl.take i)
  | [], w, i, h => by rw [List.take_nil]; exact h
  | a :: r, w, 0, h => trivial
  | a :: r, w, i + 1, h => ⟨h.1, h.2.1, Oks.take i h.2.2⟩
theorem Oks.at {L : Nat} : ∀ {fl : List Int} {w : WS} {i : Nat} {a : Int}, Oks L w fl → fl[i]? = some a → FtM.IsLn L a ∧ FtM.can (w.all (fl.take i)).f a = true
  | [], w, i, a, h, e => by simp at e
  | b :: r, w, 0, a, h, e => by
    cases e
    exact ⟨h.1, h.2.1⟩
  | b :: r, w, i + 1, a, h, e => Oks.at (w := w.turn b) h.2.2 e
theorem all_snoc {w : WS} {fl : List Int} {i : Nat} {a : Int} (h : fl[i]? = some a) : w.all (fl.take (i + 1)) = (w.all (fl.take i)).turn a := by
  unfold WS.all
  rw [fold_snoc h]
theorem GoodS.size {L n : Nat} {w : WS} (G : GoodS L n w) : (w.ts.length : Int) * 3 / 2 = L ∧ (w.ts.length : Int) / 2 + 2 = n ∧ 9 ≤ L ∧ L ≤ 15 := by
  have h1 := G.reps.len
  have h2 := web_L G.web
  have h3 := G.web.hL
  have h4 := G.web.hn
  omega
def flipsR (L : Nat) : Nat → Deal → WS → List Int × Deal
  | 0, s, _ => ([], s)
  | k + 1, s, w =>
    let a := if (pick (pick s L).2 2).1 = 0 then 1 + (pick s L).1 else 0 - (1 + (pick s L).1)
    if FtM.can w.f a = true then (a :: (flipsR L k (pick (pick s L).2 2).2 (w.turn a)).1, (flipsR L k (pick (pick s L).2 2).2 (w.turn a)).2) else flipsR L k (pick (pick s L).2 2).2 w
def flipA (L : Nat) (s : Deal) : Int := if (pick (pick s L).2 2).1 = 0 then 1 + (pick s L).1 else 0 - (1 + (pick s L).1)
theorem flipA_ln {L : Nat} (h : 9 ≤ L) (s : Deal) : FtM.IsLn L (flipA L s) := by
  have := pick_lt s (m := L) (by omega)
  unfold flipA FtM.IsLn
  split <;> omega
theorem flipsR_succ (L k : Nat) (s : Deal) (w : WS) : flipsR L (k + 1) s w = if FtM.can w.f (flipA L s) = true then (flipA L s :: (flipsR L k (pick (pick s L).2 2).2 (w.turn (flipA L s))).1, (flipsR L k (pick (pick s L).2 2).2 (w.turn (flipA L s))).2) else flipsR L k (pick (pick s L).2 2).2 w := rfl
theorem flipsR_ok {L n : Nat} : ∀ (k : Nat) {s : Deal} {w : WS}, GoodS L n w → 0 ≤ s.i → Oks L w (flipsR L k s w).1 ∧ 0 ≤ (flipsR L k s w).2.i ∧ (flipsR L k s w).1.length ≤ k
  | 0, s, w, G, h => ⟨trivial, h, Nat.le_refl _⟩
  | k + 1, s, w, G, h => by
    have hi := pick_i _ 2 (pick_i s L h)
    have hl := flipA_ln G.size.2.2.1 s
    rw [flipsR_succ]
    by_cases hc : FtM.can w.f (flipA L s) = true
    · rw [if_pos hc]
      obtain ⟨a, b, c⟩ := flipsR_ok k (G.turn hl hc) hi
      exact ⟨⟨hl, hc, a⟩, b, Nat.succ_le_succ c⟩
    · rw [if_neg hc]
      obtain ⟨a, b, c⟩ := flipsR_ok k G hi
      exact ⟨a, b, Nat.le_succ_of_le c⟩
abbrev sFlips : Stmt := topS 76
abbrev nFlips : List Str := ["_law_deal_here", "_law_web_here", "_law_many_here", "_law_found", "_law_step", "_law_line", "_law_flip"]
theorem scFlips : FnScope nFlips ["_law_deal_here", "_law_web_here", "_law_many_here"] (defScope sFlips) := ⟨rfl, rfl, rfl, by decide +kernel, rfl, by decide +kernel, by decide +kernel⟩
def PFlips (o : Ob) (ds : List Dt) (d : Dt) (o' : Ob) : Prop := ∃ (L n : Nat) (s : Deal) (w : WS) (k : Nat), GoodS L n w ∧ o = eDeal s ∧ 0 ≤ s.i ∧ k ≤ 100 ∧ ds = [w.d, .int k] ∧ d = eL (flipsR L k s w).1 ∧ o' = eDeal (flipsR L k s w).2
def rangeL (n : Nat) : List Int := (List.range n).map fun i => ((i : Nat) : Int)
def ordOf (s : Deal) (n : Nat) : List Int × Deal := if (pick s 2).1 = 0 then (rangeL n, (pick s 2).2) else mixL (pick s 2).2 [] (rangeL n)
theorem ordOf_ok {s : Deal} {n : Nat} (h : 0 ≤ s.i) : (ordOf s n).1.Perm (rangeL n) ∧ 0 ≤ (ordOf s n).2.i := by
  unfold ordOf
  split
  · exact ⟨List.Perm.refl _, pick_i s 2 h⟩
  · exact mixL_perm _ _ [] (pick_i s 2 h)
open Classical in
noncomputable def startS (m : Nat) (ord : List Int) : WS := ⟨FtM.drF m, if h : ∃ e, FtM.GoodW (3 * m) (m + 2) (FtM.drF m) e (FtM.drumT m) (FtM.putAll (FtM.endsKv (3 * m) (FtM.drF m) ord)) then h.choose else fun _ => 0, FtM.drumT m, FtM.putAll (FtM.endsKv (3 * m) (FtM.drF m) ord)⟩
theorem startS_ok {m : Nat} (h : m ∈ [3, 4, 5]) {ord : List Int} (ho : ord.Perm (rangeL (m + 2))) : GoodS (3 * m) (m + 2) (startS m ord) := by
  have hg := (FtM.good_start h ho).2.2
  unfold GoodS startS
  simp only [dif_pos hg]
  exact hg.choose_spec
def webM (s : Deal) : Nat := (pick s 3).1.toNat + 3
theorem webM_ok (s : Deal) : webM s ∈ [3, 4, 5] ∧ (pick s 3).1 = (webM s : Int) - 3 := by
  have := pick_lt s (m := 3) (by decide)
  unfold webM
  refine ⟨?_, by omega⟩
  simp only [List.mem_cons, List.not_mem_nil, or_false]
  omega
noncomputable def webOf (s : Deal) : WS × Deal :=
  let m := webM s
  let o := ordOf (pick s 3).2 (m + 2)
  let w0 := startS m o.1
  let r := pick o.2 4
  let fl := flipsR (3 * m) r.1.toNat r.2 w0
  (w0.all fl.1, fl.2)
theorem webOf_ok {s : Deal} (h : 0 ≤ s.i) : GoodS (3 * webM s) (webM s + 2) (webOf s).1 ∧ 0 ≤ (webOf s).2.i := by
  obtain ⟨h1, h2⟩ := webM_ok s
  obtain ⟨o1, o2⟩ := ordOf_ok (n := webM s + 2) (pick_i s 3 h)
  have G := startS_ok h1 o1
  obtain ⟨a, b, _⟩ := flipsR_ok (pick (ordOf (pick s 3).2 (webM s + 2)).2 4).1.toNat G (pick_i _ 4 o2)
  exact ⟨G.all a, b⟩
abbrev sWeb : Stmt := topS 75
abbrev nWeb : List Str := ["_law_deal_here", "_law_most", "_law_many_here", "_law_nails", "_law_tris", "_law_order_z", "_law_web_here", "_law_flip"]
theorem scWeb : FnScope nWeb ["_law_deal_here", "_law_most", "_law_many_here"] (defScope sWeb) := ⟨rfl, rfl, rfl, by decide +kernel, rfl, by decide +kernel, by decide +kernel⟩
def PWeb (o : Ob) (ds : List Dt) (d : Dt) (o' : Ob) : Prop := ∃ s : Deal, o = eDeal s ∧ 0 ≤ s.i ∧ ds = [.int 7, .int 3] ∧ d = (webOf s).1.d ∧ o' = eDeal (webOf s).2
abbrev sSize : Stmt := topS 77
abbrev nSize : List Str := ["_law_web_here"]
theorem scSize : FnScope nSize ["_law_web_here"] (defScope sSize) := ⟨rfl, rfl, rfl, by decide +kernel, rfl, by decide +kernel, by decide +kernel⟩
def PSize (ds : List Dt) (d : Dt) : Prop := ∃ (L n : Nat) (w : WS), GoodS L n w ∧ ds = [w.d] ∧ d = .int L
abbrev sMany : Stmt := topS 78
theorem scMany : FnScope nSize ["_law_web_here"] (defScope sMany) := ⟨rfl, rfl, rfl, by decide +kernel, rfl, by decide +kernel, by decide +kernel⟩
def PMany (ds : List Dt) (d : Dt) : Prop := ∃ (L n : Nat) (w : WS), GoodS L n w ∧ ds = [w.d] ∧ d = .int n
section
variable {M : Mo} {f : Addr} {fd : FuncData}
theorem ok_size (F : L2.Fun M.K "_law_size" "_law_size" sSize f fd) (B : Bl M) : FnOk M.P M.w M.K M.mg M.base CX0 1 f fd ["_law_web_here"] (spP PSize) := by
  have nd := scSize.nd
  refine FtR.Fun.okP (k := 0) F scSize (fun ds d ⟨_, _, _, _, h, _⟩ => by rw [h]; rfl) fun cdv A outer s0 H E hr F D ds d hP hq hn => ?_
  obtain ⟨L, n, w, G, rfl, rfl⟩ := hP
  refine r_ret ((x_fdiv (x_mul (x_len B.len (x_ixT (v 0 rfl) x_int rfl) (.lst (.dat _))) x_int (.inr ⟨by decide, by decide⟩)) x_int ⟨by decide, by decide⟩).to ?_) (hq _)
  rw [List.length_map, G.size.1]
theorem ok_many (F : L2.Fun M.K "_law_many" "_law_many" sMany f fd) (B : Bl M) : FnOk M.P M.w M.K M.mg M.base CX0 1 f fd ["_law_web_here"] (spP PMany) := by
  have nd := scMany.nd
  refine FtR.Fun.okP (k := 0) F scMany (fun ds d ⟨_, _, _, _, h, _⟩ => by rw [h]; rfl) fun cdv A outer s0 H E hr F D ds d hP hq hn => ?_
  obtain ⟨L, n, w, G, rfl, rfl⟩ := hP
  refine r_ret ((x_add (x_fdiv (x_len B.len (x_ixT (v 0 rfl) x_int rfl) (.lst (.dat _))) x_int ⟨by decide, by decide⟩) x_int).to ?_) (hq _)
  rw [List.length_map, G.size.2.1]
theorem ok_flips (F : L2.Fun M.K "_law_flips" "_law_flips" sFlips f fd) (B : Bl M) (Gp : Glob M "_law_pick" 1 ["_law_deal_here", "_law_many_here"] (spM M.w PPick)) (Gc : Glob M "_law_can" 3 ["_law_web_here", "_law_flip"] (spP PCan)) (Gt : Glob M "_law_turned" 3 ["_law_web_here", "_law_flip"] (spP PTurned)) : FnOk M.P M.w M.K M.mg M.base CX0 4 f fd ["_law_deal_here", "_law_web_here", "_law_many_here"] (spM M.w PFlips) := by
  have nd := scFlips.nd
  refine FtR.Fun.okM (k := 3) F scFlips (fun o ds d o' ⟨_, _, _, _, _, _, _, _, _, h, _⟩ => by rw [h]; rfl) fun cdv A outer s0 H E hr F D q o ds d o' hP hq => ?_
  obtain ⟨L, n, s, w, k, G, rfl, hi, hk, rfl, rfl, rfl⟩ := hP
  refine r_setN 3 (n_lst l_nil) fun p => ?_
  refine r_for (fun i ds os => ∃ (s' : Deal) (w' : WS) (fd : List Int) (a b c : Option Dt), GoodS L n w' ∧ 0 ≤ s'.i ∧ fd.length ≤ i ∧ fd ++ (flipsR L (k - i) s' w').1 = (flipsR L k s w).1 ∧ (flipsR L (k - i) s' w').2 = (flipsR L k s w).2 ∧ ds = [some (.adr q), some w'.d, some (.int k), some (.adr p), a, b, c] ∧ os = [(p, .lst (fd.map Dt.int)), (q, eDeal s')]) (i_rng1 B.range (v 2 rfl) ⟨by omega, by omega⟩) ⟨s, w, [], none, none, none, G, hi, Nat.le_refl _, rfl, rfl, rfl, rfl⟩ ?_ ?_
  · rintro F' lF i d _ _ hd ⟨s', w', fd, a, b, c, G', hi', hfl, e1, e2, rfl, rfl⟩
    rw [List.getElem?_map] at hd
    obtain ⟨x, hx, rfl⟩ := Option.map_eq_some_iff.mp hd
    have hil := (List.getElem?_eq_some_iff.mp hx).1
    rw [List.length_range, Int.toNat_natCast] at hil
    obtain ⟨z1, z2, z3, z4⟩ := G'.size
    have hki : k - i = (k - (i + 1)) + 1 := by omega
    rw [hki, flipsR_succ] at e1 e2
    have hln := flipA_ln z3 s'
    refine ⟨_, _, g_name 4, ?_⟩
    refine r_set (d := .int (1 + (pick s' L).1)) 5 (x_add x_int (x_callM Gp 1 (l2 (v 0 rfl) (x_fdiv (x_mul (x_len B.len (x_ixT (v 1 rfl) x_int rfl) (.lst (.dat _))) x_int (.inr ⟨by decide, by decide⟩)) x_int ⟨by decide, by decide⟩)) rfl ⟨s', L, rfl, by rw [List.length_map, z1], by omega, by omega, hi', rfl, rfl⟩)) ?_
    refine r_set (d := .int (flipA L s')) 6 (x_if (b_eq (x_callM Gp 1 (l2 (v 0 rfl) x_int) rfl ⟨(pick s' L).2, 2, rfl, rfl, by decide, by decide, pick_i s' _ hi', rfl, rfl⟩) x_int) (fun c => (v 5 rfl).to (by unfold flipA; rw [if_pos (of_decide_eq_true c)])) (fun c => (x_sub x_int (v 5 rfl)).to (by unfold flipA; rw [if_neg (of_decide_eq_false c)]))) ?_
    refine r_when (b_val (x_call Gc (l2 (v 1 rfl) (v 6 rfl)) ⟨L, n, w'.f, w'.e, w'.ts, w'.kvs, _, G', hln, rfl, rfl⟩)) (fun hc => ?_) (fun hc => ?_)
    · rw [if_pos hc] at e1 e2
      refine r_set (d := (w'.turn (flipA L s')).d) 1 (x_call Gt (l2 (v 1 rfl) (v 6 rfl)) ⟨L, n, w'.f, w'.e, w'.ts, w'.kvs, _, G', hln, hc, rfl, rfl⟩) ?_
      refine r_expr (x_append 0 (v 3 rfl) (v 6 rfl) ⟨_, rfl⟩ rfl (by rw [List.length_map]; omega)) ?_
      refine r_end (r_loop _ (?_) (Sub.refl _))
      refine ⟨_, _, fd ++ [flipA L s'], _, _, _, G'.turn hln hc, pick_i _ _ (pick_i _ _ hi'), ?_, ?_, e2, rfl, ?_⟩
      · rw [List.length_append, List.length_singleton]; omega
      · rw [List.append_assoc]; exact e1
      · rw [List.map_append]
        rfl
    · rw [if_neg (by rw [hc]; exact Bool.false_ne_true)] at e1 e2
      exact r_loop _ ⟨_, _, fd, _, _, _, G', pick_i _ _ (pick_i _ _ hi'), by omega, e1, e2, rfl, rfl⟩ (Sub.refl _)
  · rintro _ _ ⟨s', w', fd, a, b, c, G', hi', hfl, e1, e2, rfl, rfl⟩
    rw [List.length_map, List.length_range, Int.toNat_natCast, Nat.sub_self] at e1 e2
    rw [show flipsR L 0 s' w' = ([], s') from rfl] at e1 e2
    rw [List.append_nil] at e1
    rw [← e1, ← e2] at hq
    exact r_ret (x_froz 0 (v 3 rfl) rfl) (hq _ 0 rfl)
theorem rgD0 (n : Nat) (j : Int) (h : j = n) : Dt.lst (rgD 0 j) = eL (rangeL n) := by
  subst h
  unfold rgD eL rangeL
  rw [List.map_map, Int.sub_zero, Int.toNat_natCast]
  congr 1
  exact List.map_congr_left fun i _ => by simp
theorem ok_web (F : L2.Fun M.K "_law_web" "_law_web" sWeb f fd) (B : Bl M) (Gp : Glob M "_law_pick" 1 ["_law_deal_here", "_law_many_here"] (spM M.w PPick)) (Gm : Glob M "_law_mixed" 2 ["_law_deal_here", "_law_items"] (spM M.w PMixed)) (Gd : Glob M "_law_drum" 1 ["_law_many_here"] (spP PDrum)) (Gs : Glob M "_law_starts" 3 ["_law_tris", "_law_order_z"] (spP PStarts))
    (Gf : Glob M "_law_flips" 4 ["_law_deal_here", "_law_web_here", "_law_many_here"] (spM M.w PFlips)) (Gt : Glob M "_law_turned" 3 ["_law_web_here", "_law_flip"] (spP PTurned)) : FnOk M.P M.w M.K M.mg M.base CX0 5 f fd ["_law_deal_here", "_law_most", "_law_many_here"] (spM M.w PWeb) := by
  have nd := scWeb.nd
  refine FtR.Fun.okM (k := 4) F scWeb (fun o ds d o' ⟨_, _, _, h, _⟩ => by rw [h]; rfl) fun cdv A outer s0 H E hr F D q o ds d o' hP hq => ?_
  obtain ⟨s, rfl, hi, rfl, rfl, rfl⟩ := hP
  obtain ⟨hm, hp⟩ := webM_ok s
  obtain ⟨o1, o2⟩ := ordOf_ok (n := webM s + 2) (pick_i s 3 hi)
  have G := startS_ok hm o1
  have hm5 : 3 ≤ webM s ∧ webM s ≤ 5 := by
    simp only [List.mem_cons, List.not_mem_nil, or_false] at hm
    omega
  have hl : (rangeL (webM s + 2)).length = webM s + 2 := by unfold rangeL; rw [List.length_map, List.length_range]
  have hr4 := pick_lt (ordOf (pick s 3).2 (webM s + 2)).2 (m := 4) (by decide)
  obtain ⟨ok, oi, ol⟩ := flipsR_ok (pick (ordOf (pick s 3).2 (webM s + 2)).2 4).1.toNat G (pick_i _ 4 o2)
  obtain ⟨R0, W0⟩ := FtM.drum_ok hm
  refine r_set (d := .int ((webM s + 2 : Nat) : Int)) 3 ((x_add x_int (x_callM (d := .int (pick s 3).1) Gp 0 (l2 (v 0 rfl) (x_sub (v 1 rfl) x_int)) rfl ⟨s, 3, rfl, rfl, by decide, by decide, hi, rfl, rfl⟩)).to (by congr 1; omega)) ?_
  refine r_set (d := .lst ((FtM.drumT (webM s)).map e3)) 4 ((x_call Gd (l1 (v 3 rfl)) ⟨((webM s + 2 : Nat) : Int), rfl, by omega, by omega, rfl⟩).to (by rw [show (((webM s + 2 : Nat) : Int) - 2) = (webM s : Int) by omega]; rfl)) ?_
  refine r_set (d := eL (ordOf (pick s 3).2 (webM s + 2)).1) (os1 := [(q, eDeal (ordOf (pick s 3).2 (webM s + 2)).2)]) 5 ?_ ?_
  · by_cases h0 : (pick (pick s 3).2 2).1 = 0
    · have e0 : ordOf (pick s 3).2 (webM s + 2) = (rangeL (webM s + 2), (pick (pick s 3).2 2).2) := by unfold ordOf; rw [if_pos h0]
      rw [e0]
      exact x_if (b_eq (x_callM Gp 0 (l2 (v 0 rfl) x_int) rfl ⟨(pick s 3).2, 2, rfl, rfl, by decide, by decide, pick_i s _ hi, rfl, rfl⟩) x_int) (fun c => (x_ofL (n_listR1 B.list B.range (v 3 rfl) ⟨by omega, by omega⟩)).to (rgD0 _ _ rfl)) (fun c => absurd h0 (of_decide_eq_false c))
    · have e0 : ordOf (pick s 3).2 (webM s + 2) = mixL (pick (pick s 3).2 2).2 [] (rangeL (webM s + 2)) := by unfold ordOf; rw [if_neg h0]
      rw [e0]
      exact x_if (b_eq (x_callM Gp 0 (l2 (v 0 rfl) x_int) rfl ⟨(pick s 3).2, 2, rfl, rfl, by decide, by decide, pick_i s _ hi, rfl, rfl⟩) x_int) (fun c => absurd (of_decide_eq_true c) h0) (fun c => x_callM Gm 0 (l2 (v 0 rfl) ((x_ofL (n_listR1 B.list B.range (v 3 rfl) ⟨by omega, by omega⟩)).to (rgD0 _ _ rfl))) rfl ⟨(pick (pick s 3).2 2).2, rangeL (webM s + 2), rfl, rfl, by omega, pick_i _ _ (pick_i s _ hi), rfl, rfl⟩)
  refine r_set (d := (startS (webM s) (ordOf (pick s 3).2 (webM s + 2)).1).d) 6 (x_tup (l2 (v 4 rfl) (x_call Gs (l2 (v 4 rfl) (v 5 rfl)) ⟨3 * webM s, webM s + 2, FtM.drF (webM s), _, FtM.drumT (webM s), (ordOf (pick s 3).2 (webM s + 2)).1, R0, W0, by rw [o1.length_eq, hl]; omega, rfl, rfl⟩))) ?_
  generalize hw : startS (webM s) (ordOf (pick s 3).2 (webM s + 2)).1 = w0 at *
  generalize ho : ordOf (pick s 3).2 (webM s + 2) = oo at *
  have hweb : webOf s = (w0.all (flipsR (3 * webM s) (pick oo.2 4).1.toNat (pick oo.2 4).2 w0).1, (flipsR (3 * webM s) (pick oo.2 4).1.toNat (pick oo.2 4).2 w0).2) := by
    rw [← hw, ← ho]
    rfl
  rw [hweb] at hq
  generalize hfl : flipsR (3 * webM s) (pick oo.2 4).1.toNat (pick oo.2 4).2 w0 = fl at *
  refine r_for (xs := fl.1.map Dt.int) (fun i ds os => ∃ t : Option Dt, ds = [some (.adr q), some (.int 7), some (.int 3), some (.int ((webM s + 2 : Nat) : Int)), some (.lst ((FtM.drumT (webM s)).map e3)), some (eL oo.1), some (w0.all (fl.1.take i)).d, t] ∧ os = [(q, eDeal fl.2)])
    (i_list (x_callM (d := .lst (fl.1.map Dt.int)) Gf 0 (l3 (v 0 rfl) (v 6 rfl) (x_callM (d := .int (pick oo.2 4).1) Gp 0 (l2 (v 0 rfl) (x_add (v 2 rfl) x_int)) rfl ⟨oo.2, 4, rfl, rfl, by decide, by decide, o2, rfl, rfl⟩)) rfl ⟨3 * webM s, webM s + 2, (pick oo.2 4).2, w0, (pick oo.2 4).1.toNat, G, rfl, pick_i _ _ o2, by omega, by rw [Int.toNat_of_nonneg hr4.1], by rw [hfl]; rfl, by rw [hfl]⟩)) ⟨none, rfl, rfl⟩ ?_ ?_
  · rintro F' lF i d _ _ hd ⟨t, rfl, rfl⟩
    rw [List.getElem?_map] at hd
    obtain ⟨x, hx, rfl⟩ := Option.map_eq_some_iff.mp hd
    obtain ⟨lx, cx⟩ := ok.at hx
    have G' := G.all (ok.take i)
    refine ⟨_, _, g_name 7, ?_⟩
    refine r_set (d := ((w0.all (fl.1.take i)).turn x).d) 6 (x_call Gt (l2 (v 6 rfl) (v 7 rfl)) ⟨_, _, (w0.all (fl.1.take i)).f, (w0.all (fl.1.take i)).e, (w0.all (fl.1.take i)).ts, (w0.all (fl.1.take i)).kvs, x, G', lx, cx, rfl, rfl⟩) ?_
    exact r_loop _ ⟨some (.int x), by rw [all_snoc hx]; rfl, rfl⟩ (Sub.refl _)
  · rintro _ _ ⟨t, rfl, rfl⟩
    rw [List.length_map, List.take_length]
    exact r_ret (v 6 rfl) (hq _ 0 rfl)
end
end FtR
/-! the law's rows of counts -/
namespace FtR
open PySem PySem.Spec PyProof.Rows L2
open FtM (getA putA Tri it orb)
def rowC (L : Nat) (c : Int → Int) : List Int := (List.range L).map fun i => c (1 + ((i : Nat) : Int))
def eC (L : Nat) (c : Int → Int) : Dt := eL (rowC L c)
theorem rowC_len (L : Nat) (c : Int → Int) : (rowC L c).length = L := by unfold rowC; rw [List.length_map, List.length_range]
theorem rowC_at {L : Nat} {c : Int → Int} (hs : ∀ x, c (-x) = c x) {x : Int} (hx : FtM.IsLn L x) : (rowC L c)[((x.natAbs : Int) - 1).toNat]? = some (c x) := by
  have hx' : x ≠ 0 ∧ x.natAbs ≤ L := by
    have := hx.ne
    unfold FtM.IsLn at hx
    omega
  unfold rowC
  rw [List.getElem?_map, List.getElem?_range (by omega)]
  show some (c (1 + _)) = _
  rcases Int.lt_trichotomy 0 x with h | h | h
  · rw [show (1 + ((((x.natAbs : Int) - 1).toNat : Nat) : Int)) = x by omega]
  · omega
  · rw [show (1 + ((((x.natAbs : Int) - 1).toNat : Nat) : Int)) = -x by omega, hs]
theorem rowC_ext {L : Nat} {c k : Int → Int} (h : ∀ x, FtM.IsLn L x → c x = k x) : rowC L c = rowC L k := List.map_congr_left fun i hi => h _ (by
  have := List.mem_range.mp hi
  unfold FtM.IsLn
  omega)
theorem rowC_get (L : Nat) (c : Int → Int) (i : Nat) : (rowC L c)[i]? = if i < L then some (c (1 + (i : Int))) else none := by
  unfold rowC
  rw [List.getElem?_map]
  by_cases h : i < L
  · rw [List.getElem?_range h, if_pos h]
    rfl
  · rw [List.getElem?_eq_none (by rw [List.length_range]; omega), if_neg h]
    rfl
/-- a row with one place set -/
theorem row_set {L : Nat} {c k : Int → Int} {x v : Int} (hx : x ≠ 0) (h : ∀ i : Nat, i < L → k (1 + (i : Int)) = if (1 + (i : Int)).natAbs = x.natAbs then v else c (1 + (i : Int))) : ((rowC L c).map Dt.int).set (x.natAbs - 1) (.int v) = (rowC L k).map Dt.int := by
  refine List.ext_getElem? fun i => ?_
  rw [List.getElem?_set, List.getElem?_map, List.getElem?_map, rowC_get, rowC_get, List.length_map, rowC_len]
  by_cases hi : i < L
  · rw [if_pos hi, if_pos hi, h i hi]
    by_cases e : x.natAbs - 1 = i
    · rw [if_pos e, if_pos (by omega), if_pos (by omega)]
      rfl
    · rw [if_neg e, if_neg (by omega)]
  · rw [if_neg hi, if_neg hi]
    by_cases e : x.natAbs - 1 = i
    · rw [if_pos e, if_neg (by omega)]
      rfl
    · rw [if_neg e]
theorem rg_ln {L i : Nat} (h : i ∈ List.range ((L : Int) + 1 - 1).toNat) : FtM.IsLn L (1 + ((i : Nat) : Int)) := by
  have := List.mem_range.mp h
  unfold FtM.IsLn
  omega
theorem rg_eq (L : Nat) (c : Int → Int) : ((List.range ((L : Int) + 1 - 1).toNat).map fun i => Dt.int (c (1 + ((i : Nat) : Int)))) = (rowC L c).map Dt.int := by
  unfold rowC
  rw [List.map_map, show ((L : Int) + 1 - 1).toNat = L by omega]
  rfl
theorem rg_len (L : Nat) : (List.range ((L : Int) + 1 - 1).toNat).length = L := by
  rw [List.length_range]
  omega
theorem b1_dec (p : Prop) [Decidable p] : (if decide p = true then (1 : Int) else 0) = FtM.b1 p := by
  unfold FtM.b1
  by_cases h : p
  · rw [decide_eq_true h, if_pos rfl, if_pos h]
  · rw [decide_eq_false h, if_neg Bool.false_ne_true, if_neg h]
abbrev sRing : Stmt := topS 80
abbrev nRing : List Str := ["_law_web_here", "_law_nail", "_law_line"]
theorem scRing : FnScope nRing ["_law_web_here", "_law_nail"] (defScope sRing) := ⟨rfl, rfl, rfl, by decide +kernel, rfl, by decide +kernel, by decide +kernel⟩
def PRing (ds : List Dt) (d : Dt) : Prop := ∃ (L n : Nat) (w : WS) (v : Int), GoodS L n w ∧ ds = [w.d, .int v] ∧ d = eC L (FtM.ringC w.e v)
abbrev sLoop : Stmt := topS 81
abbrev nLoop : List Str := ["_law_web_here", "_law_line", "_law_both", "_law_found", "_law_other"]
theorem scLoop : FnScope nLoop ["_law_web_here", "_law_line"] (defScope sLoop) := ⟨rfl, rfl, rfl, by decide +kernel, rfl, by decide +kernel, by decide +kernel⟩
def PLoop (ds : List Dt) (d : Dt) : Prop := ∃ (L n : Nat) (w : WS) (l : Int), GoodS L n w ∧ FtM.IsLn L l ∧ ds = [w.d, .int l] ∧ d = eC L (FtM.loopC w.e l)
abbrev sOpen : Stmt := topS 82
abbrev nOpen : List Str := ["_law_web_here", "_law_line"]
theorem scOpen : FnScope nOpen ["_law_web_here"] (defScope sOpen) := ⟨rfl, rfl, rfl, by decide +kernel, rfl, by decide +kernel, by decide +kernel⟩
def openL (L : Nat) (e : Int → Int) : List Int := ((List.range L).filter fun i => FtM.isOpen e (1 + ((i : Nat) : Int))).map fun i => 1 + ((i : Nat) : Int)
def POpen (ds : List Dt) (d : Dt) : Prop := ∃ (L n : Nat) (w : WS), GoodS L n w ∧ ds = [w.d] ∧ d = eL (openL L w.e)
abbrev sAdded : Stmt := topS 83
abbrev nAdded : List Str := ["_law_one", "_law_two", "_law_a", "_law_b"]
theorem scAdded : FnScope nAdded ["_law_one", "_law_two"] (defScope sAdded) := ⟨rfl, rfl, rfl, by decide +kernel, rfl, by decide +kernel, by decide +kernel⟩
def PAdded (ds : List Dt) (d : Dt) : Prop := ∃ (L : Nat) (c k : Int → Int), L ≤ 1000 ∧ ds = [eC L c, eC L k] ∧ d = eC L (fun x => c x + k x)
theorem open_mem {L : Nat} {e : Int → Int} {x : Int} (h : x ∈ openL L e) : FtM.IsLn L x ∧ FtM.isOpen e x = true := by
  obtain ⟨i, hi, rfl⟩ := List.mem_map.mp h
  obtain ⟨h1, h2⟩ := List.mem_filter.mp hi
  have := List.mem_range.mp h1
  exact ⟨by unfold FtM.IsLn; omega, h2⟩
theorem open_len {L n : Nat} {f e : Int → Int} (W : FtM.Web L n f e) : 0 < (openL L e).length ∧ (openL L e).length ≤ L := by
  refine ⟨?_, ?_⟩
  · obtain ⟨x, h0, hx, ho⟩ := W.open_
    unfold FtM.IsLn at hx
    refine List.length_pos_of_mem (List.mem_map.mpr ⟨(x - 1).toNat, List.mem_filter.mpr ⟨List.mem_range.mpr (by omega), ?_⟩, by omega⟩) (a := x)
    rw [show (1 + (((x - 1).toNat : Nat) : Int)) = x by omega]
    exact ho
  · unfold openL
    rw [List.length_map]
    have := List.length_filter_le (fun i => FtM.isOpen e (1 + ((i : Nat) : Int))) (List.range L)
    rw [List.length_range] at this
    exact this
/-! ### _law_counts -/
def rowR (L n : Nat) (e : Int → Int) (s : Deal) : (Int → Int) × Deal :=
  if (pick s 3).1 = 0 then (FtM.ringC e (pick (pick s 3).2 n).1, (pick (pick s 3).2 n).2)
  else (FtM.loopC e ((openL L e).getD (pick (pick s 3).2 (openL L e).length).1.toNat 0), (pick (pick s 3).2 (openL L e).length).2)
def countsR (L n : Nat) (e : Int → Int) : Nat → Deal → (Int → Int) → (Int → Int) × Deal
  | 0, s, c => (c, s)
  | k + 1, s, c => countsR L n e k (pick (rowR L n e s).2 3).2 (if (pick (rowR L n e s).2 3).1 = 0 then fun x => c x + (rowR L n e s).1 x + (rowR L n e s).1 x else fun x => c x + (rowR L n e s).1 x)
def countsOf (L n : Nat) (e : Int → Int) (s : Deal) : (Int → Int) × Deal := countsR L n e (pick s 3).1.toNat (pick s 3).2 fun _ => 0
theorem rowR_ok {L n : Nat} {f e : Int → Int} (W : FtM.Web L n f e) {s : Deal} (h : 0 ≤ s.i) : FtM.Fit L f (rowR L n e s).1 ∧ 0 ≤ (rowR L n e s).2.i ∧ ∀ x, (rowR L n e s).1 x ≤ 2 := by
  unfold rowR
  split
  · refine ⟨FtM.fit_ring W _, pick_i _ _ (pick_i _ _ h), fun x => ?_⟩
    unfold FtM.ringC
    have h1 := FtM.b1_range (e x = (pick (pick s 3).2 n).1)
    have h2 := FtM.b1_range (e (-x) = (pick (pick s 3).2 n).1)
    show FtM.b1 _ + FtM.b1 _ ≤ 2
    omega
  · obtain ⟨h1, h2⟩ := open_len W
    have h3 := pick_lt (pick s 3).2 (m := (openL L e).length) (by omega)
    have hl : FtM.IsLn L ((openL L e).getD (pick (pick s 3).2 (openL L e).length).1.toNat 0) := by
      rw [List.getD_eq_getElem?_getD, List.getElem?_eq_getElem (by omega)]
      exact (open_mem (List.getElem_mem (by omega))).1
    refine ⟨FtM.fit_loop W hl, pick_i _ _ (pick_i _ _ h), fun x => ?_⟩
    generalize (openL L e).getD (pick (pick s 3).2 (openL L e).length).1.toNat 0 = l
    show FtM.loopC e l x ≤ 2
    unfold FtM.loopC
    have h1 := FtM.b1_range (e x = e l ∨ e x = e (-l))
    have h2 := FtM.b1_range (e (-x) = e l ∨ e (-x) = e (-l))
    split <;> omega
theorem countsR_ok {L n : Nat} {f e : Int → Int} (W : FtM.Web L n f e) : ∀ (k : Nat) {s : Deal} {c : Int → Int} {m : Int}, 0 ≤ s.i → FtM.Fit L f c → (∀ x, c x ≤ m) → FtM.Fit L f (countsR L n e k s c).1 ∧ 0 ≤ (countsR L n e k s c).2.i ∧ ∀ x, (countsR L n e k s c).1 x ≤ m + 4 * k
  | 0, s, c, m, h, T, hm => ⟨T, h, fun x => by have := hm x; show c x ≤ _; omega⟩
  | k + 1, s, c, m, h, T, hm => by
    obtain ⟨r1, r2, r3⟩ := rowR_ok W h
    unfold countsR
    have hi := pick_i _ 3 r2
    have key : ∀ c', FtM.Fit L f c' → (∀ x, c' x ≤ m + 4) → FtM.Fit L f (countsR L n e k (pick (rowR L n e s).2 3).2 c').1 ∧ 0 ≤ (countsR L n e k (pick (rowR L n e s).2 3).2 c').2.i ∧ ∀ x, (countsR L n e k (pick (rowR L n e s).2 3).2 c').1 x ≤ m + 4 * (k + 1 : Nat) := fun c' T' h' => by
      obtain ⟨a1, a2, a3⟩ := countsR_ok W k hi T' h'
      exact ⟨a1, a2, fun x => by have := a3 x; omega⟩
    split
    · exact key _ (FtM.fit_add (FtM.fit_add T r1) r1) fun x => by
        have := hm x
        have := r3 x
        show c x + (rowR L n e s).1 x + (rowR L n e s).1 x ≤ _
        omega
    · exact key _ (FtM.fit_add T r1) fun x => by
        have := hm x
        have := r3 x
        show c x + (rowR L n e s).1 x ≤ _
        omega
theorem countsOf_ok {L n : Nat} {f e : Int → Int} (W : FtM.Web L n f e) {s : Deal} (h : 0 ≤ s.i) : FtM.Fit L f (countsOf L n e s).1 ∧ 0 ≤ (countsOf L n e s).2.i ∧ ∀ x, (countsOf L n e s).1 x ≤ 8 := by
  obtain ⟨a, b, c⟩ := countsR_ok W (pick s 3).1.toNat (pick_i s 3 h) (FtM.fit_zero W.tr) (m := 0) fun _ => Int.le_refl 0
  have := pick_lt s (m := 3) (by decide)
  exact ⟨a, b, fun x => by have := c x; show (countsR _ _ _ _ _ _).1 x ≤ 8; omega⟩
abbrev sCounts : Stmt := topS 84
abbrev nCounts : List Str := ["_law_deal_here", "_law_web_here", "_law_most", "_law_found", "_law_step", "_law_row"]
theorem scCounts : FnScope nCounts ["_law_deal_here", "_law_web_here", "_law_most"] (defScope sCounts) := ⟨rfl, rfl, rfl, by decide +kernel, rfl, by decide +kernel, by decide +kernel⟩
def PCounts (o : Ob) (ds : List Dt) (d : Dt) (o' : Ob) : Prop := ∃ (L n : Nat) (s : Deal) (w : WS), GoodS L n w ∧ o = eDeal s ∧ 0 ≤ s.i ∧ ds = [w.d, .int 2] ∧ d = eC L (countsOf L n w.e s).1 ∧ o' = eDeal (countsOf L n w.e s).2
section
variable {M : Mo} {f : Addr} {fd : FuncData}
theorem ok_ring (F : L2.Fun M.K "_law_ring" "_law_ring" sRing f fd) (B : Bl M) (Gs : Glob M "_law_size" 1 ["_law_web_here"] (spP PSize)) : FnOk M.P M.w M.K M.mg M.base CX0 2 f fd ["_law_web_here", "_law_nail"] (spP PRing) := by
  have nd := scRing.nd
  refine FtR.Fun.okP (k := 1) F scRing (fun ds d ⟨_, _, _, _, _, h, _⟩ => by rw [h]; rfl) fun cdv A outer s0 H E hr F D ds d hP hq hn => ?_
  obtain ⟨L, n, w, u, G, rfl, rfl⟩ := hP
  obtain ⟨z1, z2, z3, z4⟩ := G.size
  refine r_ret ((x_ofL (n_lc0 (l := List.range ((L : Int) + 1 - 1).toNat) (enc := fun i => Dt.int (1 + ((i : Nat) : Int))) (g := fun i => Dt.int (FtM.ringC w.e u (1 + ((i : Nat) : Int)))) [("_law_line", 2)] (fun i => [some w.d, some (.int u), some (.int (1 + ((i : Nat) : Int)))]) (i_rng2 B.range x_int (x_add (x_call Gs (l1 (v 0 rfl)) ⟨L, n, w, G, rfl, rfl⟩) x_int) ⟨by omega, by omega, by omega, by omega⟩)
    (fun _ => ⟨nd, blkOk_by (N := nRing) (sc := defScope sRing) (by decide +kernel)⟩) (fun i hi F => ⟨_, g_name 2, by simp⟩)
    (fun i hi F => (x_add (x_intB B.int (x_eq (x_dget (x_ixT (v 0 rfl) x_int rfl) (v 2 rfl) (.dat _) (getI_at (G.ends _ (rg_ln hi)))) (v 1 rfl))) (x_intB B.int (x_eq (x_dget (x_ixT (v 0 rfl) x_int rfl) (x_sub x_int (v 2 rfl)) (.dat _) (getI_at (G.ends (0 - (1 + ((i : Nat) : Int))) (by rw [Int.zero_sub]; exact (rg_ln hi).neg)))) (v 1 rfl)))).to (by rw [b1_dec, b1_dec, Int.zero_sub]; rfl)) (by rw [rg_len]; omega))).to ?_) (hq _)
  rw [rg_eq]
  rfl
theorem ok_loop (F : L2.Fun M.K "_law_loop" "_law_loop" sLoop f fd) (B : Bl M) (Gs : Glob M "_law_size" 1 ["_law_web_here"] (spP PSize)) : FnOk M.P M.w M.K M.mg M.base CX0 2 f fd ["_law_web_here", "_law_line"] (spP PLoop) := by
  have nd := scLoop.nd
  refine FtR.Fun.okP (k := 1) F scLoop (fun ds d ⟨_, _, _, _, _, _, h, _⟩ => by rw [h]; rfl) fun cdv A outer s0 H E hr F D ds d hP hq hn => ?_
  obtain ⟨L, n, w, l, G, hl, rfl, rfl⟩ := hP
  obtain ⟨z1, z2, z3, z4⟩ := G.size
  have hne := hl.ne
  have hll : l.natAbs ≤ L := by unfold FtM.IsLn at hl; omega
  refine r_set (d := eL [w.e l, w.e (-l)]) 2 ((x_ofL (n_lst (l2 (x_dget (x_ixT (v 0 rfl) x_int rfl) (v 1 rfl) (.dat _) (getI_at (G.ends _ hl))) (x_dget (x_ixT (v 0 rfl) x_int rfl) (x_sub x_int (v 1 rfl)) (.dat _) (getI_at (G.ends (0 - l) (by rw [Int.zero_sub]; exact hl.neg))))))).to (by rw [Int.zero_sub]; rfl)) ?_
  obtain ⟨c0, hc0⟩ : ∃ c0 : Int → Int, ∀ x, c0 x = FtM.b1 (w.e x = w.e l ∨ w.e x = w.e (-l)) + FtM.b1 (w.e (-x) = w.e l ∨ w.e (-x) = w.e (-l)) := ⟨_, fun x => rfl⟩
  refine r_setLc0 (l := List.range ((L : Int) + 1 - 1).toNat) (enc := fun i => Dt.int (1 + ((i : Nat) : Int))) (g := fun i => Dt.int (c0 (1 + ((i : Nat) : Int)))) [("_law_other", 4)] (fun i => [some w.d, some (.int l), some (eL [w.e l, w.e (-l)]), none, some (.int (1 + ((i : Nat) : Int)))]) 3 (i_rng2 B.range x_int (x_add (x_call Gs (l1 (v 0 rfl)) ⟨L, n, w, G, rfl, rfl⟩) x_int) ⟨by omega, by omega, by omega, by omega⟩)
    (fun _ => ⟨nd, blkOk_by (N := nLoop) (sc := defScope sLoop) (by decide +kernel)⟩) (fun i hi F => ⟨_, g_name 4, by simp⟩)
    (fun i hi F => (x_add (x_intB B.int (x_in (is := [w.e l, w.e (-l)]) (x_dget (x_ixT (v 0 rfl) x_int rfl) (v 4 rfl) (.dat _) (getI_at (G.ends _ (rg_ln hi)))) (v 2 rfl) (.lst (.dat _)) rfl)) (x_intB B.int (x_in (is := [w.e l, w.e (-l)]) (x_dget (x_ixT (v 0 rfl) x_int rfl) (x_sub x_int (v 4 rfl)) (.dat _) (getI_at (G.ends (0 - (1 + ((i : Nat) : Int))) (by rw [Int.zero_sub]; exact (rg_ln hi).neg)))) (v 2 rfl) (.lst (.dat _)) rfl))).to (by
      rw [b1_dec, b1_dec, Int.zero_sub, hc0]
      unfold FtM.b1
      simp only [List.mem_cons, List.not_mem_nil, or_false])) (by rw [rg_len]; omega) fun q => ?_
  rw [rg_eq]
  refine r_setix (d := .int 0) (j := l.natAbs - 1) 0 x_int (v 3 rfl) (x_sub (x_abs B.abs (v 1 rfl)) x_int) rfl ?_ ?_
  · rw [List.length_map, rowC_len]
    unfold ixN
    rw [if_pos (by omega), if_pos (by omega)]
    congr 1
    omega
  · refine r_ret ((x_froz 0 (v 3 rfl) rfl).to ?_) (hq _)
    unfold eC eL
    congr 1
    refine row_set (x := l) (by omega) fun i hi => ?_
    unfold FtM.loopC
    split
    · rfl
    · exact (hc0 _).symm
theorem ok_open (F : L2.Fun M.K "_law_open_lines" "_law_open_lines" sOpen f fd) (B : Bl M) (Gs : Glob M "_law_size" 1 ["_law_web_here"] (spP PSize)) : FnOk M.P M.w M.K M.mg M.base CX0 2 f fd ["_law_web_here"] (spP POpen) := by
  have nd := scOpen.nd
  refine FtR.Fun.okP (k := 1) F scOpen (fun ds d ⟨_, _, _, _, h, _⟩ => by rw [h]; rfl) fun cdv A outer s0 H E hr F D ds d hP hq hn => ?_
  obtain ⟨L, n, w, G, rfl, rfl⟩ := hP
  obtain ⟨z1, z2, z3, z4⟩ := G.size
  refine r_ret ((x_ofL (n_lc (l := List.range ((L : Int) + 1 - 1).toNat) (enc := fun i => Dt.int (1 + ((i : Nat) : Int))) (f := fun i => FtM.isOpen w.e (1 + ((i : Nat) : Int))) (g := fun i => Dt.int (1 + ((i : Nat) : Int))) [("_law_line", 1)] (fun i => [some w.d, some (.int (1 + ((i : Nat) : Int)))]) (i_rng2 B.range x_int (x_add (x_call Gs (l1 (v 0 rfl)) ⟨L, n, w, G, rfl, rfl⟩) x_int) ⟨by omega, by omega, by omega, by omega⟩)
    (fun _ => ⟨nd, blkOk_by (N := nOpen) (sc := defScope sOpen) (by decide +kernel)⟩) (fun i hi F => ⟨_, g_name 1, by simp⟩)
    (fun i hi F => t_one (PB.to (b_ne (x_dget (x_ixT (v 0 rfl) x_int rfl) (v 1 rfl) (.dat _) (getI_at (G.ends _ (rg_ln hi)))) (x_dget (x_ixT (v 0 rfl) x_int rfl) (x_sub x_int (v 1 rfl)) (.dat _) (getI_at (G.ends (0 - (1 + ((i : Nat) : Int))) (by rw [Int.zero_sub]; exact (rg_ln hi).neg))))) (by rw [Int.zero_sub]; rfl))) (fun i hi _ F => v 1 rfl) (by rw [rg_len]; omega))).to ?_) (hq _)
  unfold eL openL
  rw [List.map_map, show ((L : Int) + 1 - 1).toNat = L by omega]
  rfl
theorem zipD_rows (L : Nat) (c k : Int → Int) : zipD ((rowC L c).map Dt.int) ((rowC L k).map Dt.int) = (List.range L).map fun i => Dt.tup [.int (c (1 + ((i : Nat) : Int))), .int (k (1 + ((i : Nat) : Int)))] := by
  unfold zipD
  rw [List.length_map, List.length_map, rowC_len, rowC_len, Nat.min_self]
  refine List.map_congr_left fun i hi => ?_
  have := List.mem_range.mp hi
  rw [List.getD_eq_getElem?_getD, List.getD_eq_getElem?_getD, List.getElem?_map, List.getElem?_map]
  unfold rowC
  rw [List.getElem?_map, List.getElem?_map, List.getElem?_range this]
  rfl
theorem ok_added (F : L2.Fun M.K "_law_added" "_law_added" sAdded f fd) (B : Bl M) : FnOk M.P M.w M.K M.mg M.base CX0 1 f fd ["_law_one", "_law_two"] (spP PAdded) := by
  have nd := scAdded.nd
  refine FtR.Fun.okP (k := 0) F scAdded (fun ds d ⟨_, _, _, _, h, _⟩ => by rw [h]; rfl) fun cdv A outer s0 H E hr F D ds d hP hq hn => ?_
  obtain ⟨L, c, k, hL, rfl, rfl⟩ := hP
  refine r_ret ((x_ofL (n_lc0 (l := List.range L) (enc := fun i => Dt.tup [.int (c (1 + ((i : Nat) : Int))), .int (k (1 + ((i : Nat) : Int)))]) (g := fun i => Dt.int (c (1 + ((i : Nat) : Int)) + k (1 + ((i : Nat) : Int)))) [("_law_a", 2), ("_law_b", 3)] (fun i => [some (eC L c), some (eC L k), some (.int (c (1 + ((i : Nat) : Int)))), some (.int (k (1 + ((i : Nat) : Int))))]) (by rw [← zipD_rows]; exact i_zip B.zip (v 0 rfl) (v 1 rfl) rfl rfl)
    (fun _ => ⟨nd, blkOk_by (N := nAdded) (sc := defScope sAdded) (by decide +kernel)⟩) (fun i hi F => ⟨_, g_tup (gs_cons (g_name 2) (gs_cons (g_name 3) gs_nil)) rfl, by simp⟩)
    (fun i hi F => x_add (v 2 rfl) (v 3 rfl)) (by rw [List.length_range]; omega))).to ?_) (hq _)
  unfold eC eL rowC
  rw [List.map_map]
  rfl
theorem ok_counts (F : L2.Fun M.K "_law_counts" "_law_counts" sCounts f fd) (B : Bl M) (Gp : Glob M "_law_pick" 1 ["_law_deal_here", "_law_many_here"] (spM M.w PPick)) (Go : Glob M "_law_of" 2 ["_law_deal_here", "_law_items"] (spM M.w POf)) (Gs : Glob M "_law_size" 1 ["_law_web_here"] (spP PSize)) (Gm : Glob M "_law_many" 1 ["_law_web_here"] (spP PMany))
    (Gr : Glob M "_law_ring" 2 ["_law_web_here", "_law_nail"] (spP PRing)) (Gl : Glob M "_law_loop" 2 ["_law_web_here", "_law_line"] (spP PLoop)) (Gol : Glob M "_law_open_lines" 2 ["_law_web_here"] (spP POpen)) (Ga : Glob M "_law_added" 1 ["_law_one", "_law_two"] (spP PAdded)) : FnOk M.P M.w M.K M.mg M.base CX0 3 f fd ["_law_deal_here", "_law_web_here", "_law_most"] (spM M.w PCounts) := by
  have nd := scCounts.nd
  refine FtR.Fun.okM (k := 2) F scCounts (fun o ds d o' ⟨_, _, _, _, _, _, _, h, _⟩ => by rw [h]; rfl) fun cdv A outer s0 H E hr F D q o ds d o' hP hq => ?_
  obtain ⟨L, n, s, w, G, rfl, hi, rfl, rfl, rfl⟩ := hP
  obtain ⟨z1, z2, z3, z4⟩ := G.size
  have hn := G.web.hn
  have hp3 := pick_lt s (m := 3) (by decide)
  refine r_set (d := eC L fun _ => 0) 3 ((x_ofL (n_rep (d := .int 0) (x_ofL (n_lst (l1 x_int))) (x_call Gs (l1 (v 1 rfl)) ⟨L, n, w, G, rfl, rfl⟩) (.dat _) ⟨by omega, by omega⟩)).to ?_) ?_
  · unfold eC eL rowC
    rw [Int.toNat_natCast, List.map_map]
    congr 1
    exact (List.eq_replicate_iff.mpr ⟨by rw [List.length_map, List.length_range], fun b hb => by
      obtain ⟨i, _, rfl⟩ := List.mem_map.mp hb
      rfl⟩).symm
  refine r_for (fun i ds os => ∃ (s' : Deal) (c : Int → Int) (a b : Option Dt), 0 ≤ s'.i ∧ countsR L n w.e ((pick s 3).1.toNat - i) s' c = countsOf L n w.e s ∧ ds = [some (.adr q), some w.d, some (.int 2), some (eC L c), a, b] ∧ os = [(q, eDeal s')]) (i_rng1 B.range (x_callM (d := .int (pick s 3).1) Gp 0 (l2 (v 0 rfl) (x_add (v 2 rfl) x_int)) rfl ⟨s, 3, rfl, rfl, by decide, by decide, hi, rfl, rfl⟩) ⟨by omega, by omega⟩) ⟨_, fun _ => 0, none, none, pick_i s 3 hi, rfl, rfl, rfl⟩ ?_ ?_
  · rintro F' lF i d _ _ hd ⟨s', c, a, b, hi', e1, rfl, rfl⟩
    rw [List.getElem?_map] at hd
    obtain ⟨x, hx, rfl⟩ := Option.map_eq_some_iff.mp hd
    have hil := (List.getElem?_eq_some_iff.mp hx).1
    rw [List.length_range] at hil
    rw [show (pick s 3).1.toNat - i = ((pick s 3).1.toNat - (i + 1)) + 1 by omega] at e1
    rw [countsR] at e1
    obtain ⟨r1, r2, r3⟩ := rowR_ok G.web hi'
    obtain ⟨o1, o2⟩ := open_len G.web
    refine ⟨_, _, g_name 4, ?_⟩
    refine r_ifM (fun ds os => ds = [some (.adr q), some w.d, some (.int 2), some (eC L c), some (.int x), some (eC L (rowR L n w.e s').1)] ∧ os = [(q, eDeal (rowR L n w.e s').2)]) (b_eq (x_callM Gp 0 (l2 (v 0 rfl) x_int) rfl ⟨s', 3, rfl, rfl, by decide, by decide, hi', rfl, rfl⟩) x_int) (fun e => ?_) (fun e => ?_) ?_
    · have h0 := of_decide_eq_true e
      refine r_set (d := eC L (FtM.ringC w.e (pick (pick s' 3).2 n).1)) 5 (x_call Gr (l2 (v 1 rfl) (x_callM (d := .int (pick (pick s' 3).2 n).1) Gp 0 (l2 (v 0 rfl) (x_call Gm (l1 (v 1 rfl)) ⟨L, n, w, G, rfl, rfl⟩)) rfl ⟨(pick s' 3).2, n, rfl, rfl, by omega, by omega, pick_i _ _ hi', rfl, rfl⟩)) ⟨L, n, w, _, G, rfl, rfl⟩) ?_
      refine r_loop _ ⟨rfl, ?_⟩ ?_
      · unfold rowR
        rw [if_pos h0]
        rfl
      · unfold rowR
        rw [if_pos h0]
        exact Sub.refl _
    · have h0 := of_decide_eq_false e
      have h3 := pick_lt (pick s' 3).2 (m := (openL L w.e).length) (by omega)
      have hll : (openL L w.e)[(pick (pick s' 3).2 (openL L w.e).length).1.toNat]? = some ((openL L w.e).getD (pick (pick s' 3).2 (openL L w.e).length).1.toNat 0) := by
        rw [List.getD_eq_getElem?_getD, List.getElem?_eq_getElem (by omega)]
        rfl
      have hl : FtM.IsLn L ((openL L w.e).getD (pick (pick s' 3).2 (openL L w.e).length).1.toNat 0) := (open_mem (List.mem_of_getElem? hll)).1
      refine r_set (d := eC L (FtM.loopC w.e ((openL L w.e).getD (pick (pick s' 3).2 (openL L w.e).length).1.toNat 0))) 5 (x_call Gl (l2 (v 1 rfl) (x_callM (d := .int ((openL L w.e).getD (pick (pick s' 3).2 (openL L w.e).length).1.toNat 0)) Go 0 (l2 (v 0 rfl) (x_call Gol (l1 (v 1 rfl)) ⟨L, n, w, G, rfl, rfl⟩)) rfl ⟨(pick s' 3).2, (openL L w.e).map Dt.int, rfl, rfl, by rw [List.length_map]; omega, by rw [List.length_map]; omega, pick_i _ _ hi', by rw [List.length_map, List.getElem?_map, hll]; rfl, rfl⟩)) ⟨L, n, w, _, G, hl, rfl, rfl⟩) ?_
      refine r_loop _ ⟨rfl, ?_⟩ ?_
      · unfold rowR
        rw [if_neg h0, List.length_map]
        rfl
      · unfold rowR
        rw [if_neg h0]
        exact Sub.refl _
    · rintro _ _ ⟨rfl, rfl⟩
      generalize rowR L n w.e s' = rr at *
      refine r_set (d := eC L fun x => c x + rr.1 x) 3 (x_call Ga (l2 (v 3 rfl) (v 5 rfl)) ⟨L, c, rr.1, by omega, rfl, rfl⟩) ?_
      refine r_when (b_eq (x_callM Gp 0 (l2 (v 0 rfl) x_int) rfl ⟨rr.2, 3, rfl, rfl, by decide, by decide, r2, rfl, rfl⟩) x_int) (fun e => ?_) (fun e => ?_)
      · rw [if_pos (of_decide_eq_true e)] at e1
        refine r_set (d := eC L fun x => c x + rr.1 x + rr.1 x) 3 (x_call Ga (l2 (v 3 rfl) (v 5 rfl)) ⟨L, fun x => c x + rr.1 x, rr.1, by omega, rfl, rfl⟩) ?_
        exact r_end (r_loop _ ⟨_, _, _, _, pick_i _ _ r2, e1, rfl, rfl⟩ (Sub.refl _))
      · rw [if_neg (of_decide_eq_false e)] at e1
        exact r_loop _ ⟨_, _, _, _, pick_i _ _ r2, e1, rfl, rfl⟩ (Sub.refl _)
  · rintro _ _ ⟨s', c, a, b, hi', e1, rfl, rfl⟩
    rw [List.length_map, List.length_range, Nat.sub_self] at e1
    have e1' : (c, s') = countsOf L n w.e s := e1
    rw [← e1'] at hq
    exact r_ret (v 3 rfl) (hq _ 0 rfl)
end
end FtR
/-! the law: counts carried, corners, joins, count rows -/
namespace FtR
open PySem PySem.Spec PyProof.Rows L2
open FtM (getA putA Tri it orb)
def carC (f c : Int → Int) (a x : Int) : Int := if x.natAbs = a.natAbs then max (c (f (-(a.natAbs : Int))) + c (f (a.natAbs : Int))) (c (f (f (-(a.natAbs : Int)))) + c (f (f (a.natAbs : Int)))) - c a else c x
theorem carC_fit {L : Nat} {f c : Int → Int} (T : FtM.Fit L f c) {a : Int} (ha : FtM.IsLn L a) (hc : FtM.can f a = true) : FtM.Fit L (FtM.flF f a) (carC f c a) := by
  refine FtM.Flp.fit (FtM.flp_of T.tr ha hc) ⟨fun w => ?_, ?_, fun w h1 h2 => ?_⟩ T
  · unfold carC
    rw [Int.natAbs_neg, T.sy]
  · unfold carC
    rw [if_pos (by omega)]
    congr 1
    rcases Int.natAbs_eq a with h | h
    · rw [← h]
    · have : (a.natAbs : Int) = -a := by omega
      rw [this, T.sy]
  · unfold carC
    rw [if_neg (by omega)]
def carS (p : WS × (Int → Int)) (a : Int) : WS × (Int → Int) := (p.1.turn a, carC p.1.f p.2 a)
def carP (w : WS) (c : Int → Int) (fl : List Int) : WS × (Int → Int) := fl.foldl carS (w, c)
theorem carP_all (w : WS) (c : Int → Int) : ∀ fl, (carP w c fl).1 = w.all fl := fun fl => by
  unfold carP WS.all
  induction fl generalizing w c with
  | nil => rfl
  | cons a r ih => exact ih _ _
theorem carP_fit {L n : Nat} : ∀ {fl : List Int} {w : WS} {c : Int → Int}, FtM.Fit L w.f c → Oks L w fl → FtM.Fit L (carP w c fl).1.f (carP w c fl).2
  | [], w, c, T, _ => T
  | a :: r, w, c, T, h => carP_fit (n := n) (fl := r) (w := w.turn a) (c := carC w.f c a) (carC_fit T h.1 h.2.1) h.2.2
abbrev sCarried : Stmt := topS 85
abbrev nCarried : List Str := ["_law_web_here", "_law_counts_here", "_law_flip", "_law_sizes", "_law_found", "_law_line"]
theorem scCarried : FnScope nCarried ["_law_web_here", "_law_counts_here", "_law_flip"] (defScope sCarried) := ⟨rfl, rfl, rfl, by decide +kernel, rfl, by decide +kernel, by decide +kernel⟩
def PCarried (ds : List Dt) (d : Dt) : Prop := ∃ (L n : Nat) (w : WS) (c : Int → Int) (a : Int), GoodS L n w ∧ FtM.Fit L w.f c ∧ FtM.IsLn L a ∧ ds = [w.d, eC L c, .int a] ∧ d = eC L (carC w.f c a)
abbrev sCarAll : Stmt := topS 86
abbrev nCarAll : List Str := ["_law_web_here", "_law_counts_here", "_law_flips_here", "_law_flip"]
theorem scCarAll : FnScope nCarAll ["_law_web_here", "_law_counts_here", "_law_flips_here"] (defScope sCarAll) := ⟨rfl, rfl, rfl, by decide +kernel, rfl, by decide +kernel, by decide +kernel⟩
def PCarAll (ds : List Dt) (d : Dt) : Prop := ∃ (L n : Nat) (w : WS) (c : Int → Int) (fl : List Int), GoodS L n w ∧ FtM.Fit L w.f c ∧ Oks L w fl ∧ ds = [w.d, eC L c, eL fl] ∧ d = eC L (carP w c fl).2
abbrev sCorner : Stmt := topS 87
abbrev nCorner : List Str := ["_law_counts_here", "_law_row"]
theorem scCorner : FnScope nCorner ["_law_counts_here", "_law_row"] (defScope sCorner) := ⟨rfl, rfl, rfl, by decide +kernel, rfl, by decide +kernel, by decide +kernel⟩
def cor (c : Int → Int) (t : Tri) : Int := (c t.1 + c t.2.2 - c t.2.1) / 2
def PCorner (ds : List Dt) (d : Dt) : Prop := ∃ (L : Nat) (c : Int → Int) (t : Tri), (∀ x, c (-x) = c x) ∧ FtM.IsLn L t.1 ∧ FtM.IsLn L t.2.1 ∧ FtM.IsLn L t.2.2 ∧ ds = [eC L c, e3 t] ∧ d = .int (cor c t)
abbrev Jn := List ((Int × Int) × (Int × Int))
def jPut (c : Int → Int) (t : Tri) (m : Jn) (k : Nat) : Jn := putA (putA m (t.1, (k : Int)) (-t.2.2, (k : Int))) (t.2.2, c t.2.2 - 1 - k) (-t.1, c t.1 - 1 - k)
def jRot (c : Int → Int) (m : Jn) (t : Tri) : Jn := (List.range (cor c t).toNat).foldl (jPut c t) m
def rot3 (t : Tri) : List Tri := [t, (t.2.1, t.2.2, t.1), (t.2.2, t.1, t.2.1)]
def jTri (c : Int → Int) (m : Jn) (t : Tri) : Jn := (rot3 t).foldl (jRot c) m
def joinsL (c : Int → Int) (ts : List Tri) : Jn := ts.foldl (jTri c) []
def eJ (m : Jn) : List ((Int × Int) × Dt) := m.map fun kv => (kv.1, eT [kv.2.1, kv.2.2])
abbrev sJoins : Stmt := topS 88
abbrev nJoins : List Str := ["_law_web_here", "_law_counts_here", "_law_found", "_law_tri", "_law_x", "_law_y", "_law_z", "_law_here", "_law_there", "_law_k"]
theorem scJoins : FnScope nJoins ["_law_web_here", "_law_counts_here"] (defScope sJoins) := ⟨rfl, rfl, rfl, by decide +kernel, rfl, by decide +kernel, by decide +kernel⟩
def PJoins (ds : List Dt) (d : Dt) : Prop := ∃ (L n : Nat) (w : WS) (c : Int → Int), GoodS L n w ∧ FtM.Fit L w.f c ∧ (∀ x, FtM.IsLn L x → c x ≤ 100) ∧ ds = [w.d, eC L c] ∧ d = dctOf (eJ (joinsL c w.ts))
abbrev sCntRow : Stmt := topS 90
abbrev nCntRow : List Str := ["_law_web_here", "_law_lines_here", "_law_found", "_law_line"]
theorem scCntRow : FnScope nCntRow ["_law_web_here", "_law_lines_here"] (defScope sCntRow) := ⟨rfl, rfl, rfl, by decide +kernel, rfl, by decide +kernel, by decide +kernel⟩
def cntL (xs : List Int) (x : Int) : Int := (xs.countP fun y => decide (y.natAbs = x.natAbs) : Nat)
def PCntRow (ds : List Dt) (d : Dt) : Prop := ∃ (L n : Nat) (w : WS) (xs : List Int), GoodS L n w ∧ (∀ x ∈ xs, FtM.IsLn L x) ∧ ds = [w.d, eL xs] ∧ d = eC L (cntL xs)
theorem zero_row (L : Nat) : List.replicate ((L : Int)).toNat (Dt.int 0) = (rowC L fun _ => 0).map Dt.int := by
  unfold rowC
  rw [Int.toNat_natCast, List.map_map]
  exact (List.eq_replicate_iff.mpr ⟨by rw [List.length_map, List.length_range], fun b hb => by
    obtain ⟨i, _, rfl⟩ := List.mem_map.mp hb
    rfl⟩).symm
theorem cntL_neg (xs : List Int) (x : Int) : cntL xs (-x) = cntL xs x := by
  unfold cntL
  rw [Int.natAbs_neg]
theorem pos1 {L : Nat} {x : Int} (h : FtM.IsLn L x) : 0 ≤ (x.natAbs : Int) - 1 := by
  have := h.ne
  omega
section
variable {M : Mo} {f : Addr} {fd : FuncData}
theorem ok_carried (F : L2.Fun M.K "_law_carried" "_law_carried" sCarried f fd) (B : Bl M) (Gs : Glob M "_law_sides" 2 ["_law_web_here", "_law_line"] (spP PSides)) : FnOk M.P M.w M.K M.mg M.base CX0 3 f fd ["_law_web_here", "_law_counts_here", "_law_flip"] (spP PCarried) := by
  have nd := scCarried.nd
  refine FtR.Fun.okP (k := 2) F scCarried (fun ds d ⟨_, _, _, _, _, _, _, _, h, _⟩ => by rw [h]; rfl) fun cdv A outer s0 H E hr F D ds d hP hq hn => ?_
  obtain ⟨L, n, w, c, a, G, T, ha, rfl, rfl⟩ := hP
  obtain ⟨z1, z2, z3, z4⟩ := G.size
  have hx : FtM.IsLn L (a.natAbs : Int) := by unfold FtM.IsLn at *; rwa [Int.natAbs_natCast]
  have hs : ∀ y ∈ sidesL w.f a, FtM.IsLn L y := fun y hy => by
    unfold sidesL at hy
    simp only [List.mem_cons, List.not_mem_nil, or_false] at hy
    rcases hy with rfl | rfl | rfl | rfl
    · exact T.tr.ln _ hx.neg
    · exact T.tr.ln _ (T.tr.ln _ hx.neg)
    · exact T.tr.ln _ hx
    · exact T.tr.ln _ (T.tr.ln _ hx)
  refine r_setLc0 (l := sidesL w.f a) (enc := Dt.int) (g := fun y => Dt.int (c y)) [("_law_line", 5)] (fun y => [some w.d, some (eC L c), some (.int a), none, none, some (.int y)]) 3 (i_list (x_call Gs (l2 (v 0 rfl) (v 2 rfl)) ⟨L, n, w.f, w.e, w.ts, w.kvs, a, G, ha, rfl, rfl⟩)) (fun _ => ⟨nd, blkOk_by (N := nCarried) (sc := defScope sCarried) (by decide +kernel)⟩)
    (fun y hy F => ⟨_, g_name 5, by simp⟩) (fun y hy F => x_ixI (v 1 rfl) (x_sub (x_abs B.abs (v 5 rfl)) x_int) (.dat _) (pos1 (hs y hy)) (rowC_at T.sy (hs y hy))) (by show 4 ≤ 900000; decide) fun q1 => ?_
  refine r_setN 4 (n_list B.list (v 1 rfl) (.lst (.dat _))) fun q2 => ?_
  refine r_setix (d := .int (max (c (w.f (-(a.natAbs : Int))) + c (w.f (a.natAbs : Int))) (c (w.f (w.f (-(a.natAbs : Int)))) + c (w.f (w.f (a.natAbs : Int)))) - c a)) (j := a.natAbs - 1) 0
    (x_sub (x_max2 B.max (x_add (x_ixL (v 3 rfl) x_int (.own 1 rfl) rfl) (x_ixL (v 3 rfl) x_int (.own 1 rfl) rfl)) (x_add (x_ixL (v 3 rfl) x_int (.own 1 rfl) rfl) (x_ixL (v 3 rfl) x_int (.own 1 rfl) rfl))) (x_ixI (v 1 rfl) (x_sub (x_abs B.abs (v 2 rfl)) x_int) (.dat _) (pos1 ha) (rowC_at T.sy ha))) (v 4 rfl) (x_sub (x_abs B.abs (v 2 rfl)) x_int) rfl ?_ ?_
  · rw [List.length_map, rowC_len]
    have := pos1 ha
    have h2 : a.natAbs ≤ L := by unfold FtM.IsLn at ha; omega
    unfold ixN
    rw [if_pos (by omega), if_pos (by omega)]
    congr 1
    omega
  · refine r_ret ((x_froz 0 (v 4 rfl) rfl).to ?_) (hq _)
    refine congrArg Dt.lst (row_set ha.ne fun i hi => ?_)
    unfold carC
    rfl
theorem ok_carAll (F : L2.Fun M.K "_law_carried_all" "_law_carried_all" sCarAll f fd) (B : Bl M) (Gc : Glob M "_law_carried" 3 ["_law_web_here", "_law_counts_here", "_law_flip"] (spP PCarried)) (Gt : Glob M "_law_turned" 3 ["_law_web_here", "_law_flip"] (spP PTurned)) : FnOk M.P M.w M.K M.mg M.base CX0 4 f fd ["_law_web_here", "_law_counts_here", "_law_flips_here"] (spP PCarAll) := by
  have nd := scCarAll.nd
  refine FtR.Fun.okP (k := 3) F scCarAll (fun ds d ⟨_, _, _, _, _, _, _, _, h, _⟩ => by rw [h]; rfl) fun cdv A outer s0 H E hr F D ds d hP hq hn => ?_
  obtain ⟨L, n, w, c, fl, G, T, ok, rfl, rfl⟩ := hP
  refine r_for (xs := fl.map Dt.int) (fun i ds os => ∃ t : Option Dt, ds = [some (carP w c (fl.take i)).1.d, some (eC L (carP w c (fl.take i)).2), some (eL fl), t] ∧ os = []) (i_list (v 2 rfl)) ⟨none, rfl, rfl⟩ ?_ ?_
  · rintro F' lF i d _ _ hd ⟨t, rfl, rfl⟩
    rw [List.getElem?_map] at hd
    obtain ⟨x, hx, rfl⟩ := Option.map_eq_some_iff.mp hd
    obtain ⟨lx, cx⟩ := ok.at hx
    have G' := G.all (ok.take i)
    have T' := carP_fit (n := n) T (ok.take i)
    have e1 : carP w c (fl.take (i + 1)) = carS (carP w c (fl.take i)) x := by
      unfold carP
      rw [fold_snoc hx]
    rw [← carP_all w c] at G' cx
    generalize carP w c (fl.take i) = p at *
    refine ⟨_, _, g_name 3, ?_⟩
    refine r_set (d := eC L (carC p.1.f p.2 x)) 1 (x_call Gc (l3 (v 0 rfl) (v 1 rfl) (v 3 rfl)) ⟨L, n, p.1, p.2, x, G', T', lx, rfl, rfl⟩) ?_
    refine r_set (d := (p.1.turn x).d) 0 (x_call Gt (l2 (v 0 rfl) (v 3 rfl)) ⟨_, _, p.1.f, p.1.e, p.1.ts, p.1.kvs, x, G', lx, cx, rfl, rfl⟩) ?_
    exact r_loop _ ⟨some (.int x), by rw [e1]; rfl, rfl⟩ (Sub.refl _)
  · rintro _ _ ⟨t, rfl, rfl⟩
    rw [List.length_map, List.take_length]
    exact r_ret (v 1 rfl) (hq _)
theorem ok_corner (F : L2.Fun M.K "_law_corner" "_law_corner" sCorner f fd) (B : Bl M) : FnOk M.P M.w M.K M.mg M.base CX0 1 f fd ["_law_counts_here", "_law_row"] (spP PCorner) := by
  have nd := scCorner.nd
  refine FtR.Fun.okP (k := 0) F scCorner (fun ds d ⟨_, _, _, _, _, _, _, h, _⟩ => by rw [h]; rfl) fun cdv A outer s0 H E hr F D ds d hP hq hn => ?_
  obtain ⟨L, c, t, sy, l0, l1', l2', rfl, rfl⟩ := hP
  exact r_ret (x_fdiv (x_sub (x_add (x_ixI (v 0 rfl) (x_sub (x_abs B.abs (x_ixT (v 1 rfl) x_int rfl)) x_int) (.dat _) (pos1 l0) (rowC_at sy l0)) (x_ixI (v 0 rfl) (x_sub (x_abs B.abs (x_ixT (v 1 rfl) x_int rfl)) x_int) (.dat _) (pos1 l2') (rowC_at sy l2'))) (x_ixI (v 0 rfl) (x_sub (x_abs B.abs (x_ixT (v 1 rfl) x_int rfl)) x_int) (.dat _) (pos1 l1') (rowC_at sy l1'))) x_int ⟨by decide, by decide⟩) (hq _)
theorem ok_cntRow (F : L2.Fun M.K "_law_count_row" "_law_count_row" sCntRow f fd) (B : Bl M) (Gs : Glob M "_law_size" 1 ["_law_web_here"] (spP PSize)) : FnOk M.P M.w M.K M.mg M.base CX0 2 f fd ["_law_web_here", "_law_lines_here"] (spP PCntRow) := by
  have nd := scCntRow.nd
  refine FtR.Fun.okP (k := 1) F scCntRow (fun ds d ⟨_, _, _, _, _, _, h, _⟩ => by rw [h]; rfl) fun cdv A outer s0 H E hr F D ds d hP hq hn => ?_
  obtain ⟨L, n, w, xs, G, hxs, rfl, rfl⟩ := hP
  obtain ⟨z1, z2, z3, z4⟩ := G.size
  refine r_setN (ob := .lst (List.replicate (L : Int).toNat (.int 0))) 2 (n_rep (d := .int 0) (x_ofL (n_lst (l1 x_int))) (x_call Gs (l1 (v 0 rfl)) ⟨L, n, w, G, rfl, rfl⟩) (.dat _) ⟨by omega, by omega⟩) fun q => ?_
  rw [zero_row]
  refine r_for (xs := xs.map Dt.int) (fun i ds os => ∃ t : Option Dt, ds = [some w.d, some (eL xs), some (.adr q), t] ∧ os = [(q, .lst ((rowC L (cntL (xs.take i))).map Dt.int))]) (i_list (v 1 rfl)) ⟨none, rfl, rfl⟩ ?_ ?_
  · rintro F' lF i d _ _ hd ⟨t, rfl, rfl⟩
    rw [List.getElem?_map] at hd
    obtain ⟨x, hx, rfl⟩ := Option.map_eq_some_iff.mp hd
    have lx := hxs x (List.mem_of_getElem? hx)
    refine ⟨_, _, g_name 3, ?_⟩
    refine r_setix (d := .int (cntL (xs.take i) x + 1)) (j := x.natAbs - 1) 0 (x_add (x_ixI (v 2 rfl) (x_sub (x_abs B.abs (v 3 rfl)) x_int) (.own 0 rfl) (pos1 lx) (rowC_at (cntL_neg _) lx)) x_int) (v 2 rfl) (x_sub (x_abs B.abs (v 3 rfl)) x_int) rfl ?_ ?_
    · rw [List.length_map, rowC_len]
      have := pos1 lx
      have h2 : x.natAbs ≤ L := by unfold FtM.IsLn at lx; omega
      unfold ixN
      rw [if_pos (by omega), if_pos (by omega)]
      congr 1
      omega
    · refine r_loop _ ⟨some (.int x), rfl, ?_⟩ (Sub.refl _)
      rw [row_set (k := cntL (xs.take (i + 1))) lx.ne fun i' hi => ?_]
      · rfl
      · unfold cntL
        rw [List.take_add_one, hx, List.countP_append]
        show ((_ + List.countP _ [x] : Nat) : Int) = _
        rw [List.countP_singleton]
        by_cases e : (1 + (i' : Int)).natAbs = x.natAbs
        · rw [if_pos e, if_pos (decide_eq_true e.symm), e]
          rfl
        · rw [if_neg e, if_neg (by rw [decide_eq_false fun h => e h.symm]; exact Bool.false_ne_true)]
          rfl
  · rintro _ _ ⟨t, rfl, rfl⟩
    rw [List.length_map, List.take_length]
    exact r_ret (x_froz 0 (v 2 rfl) rfl) (hq _)
theorem putJ (m : Jn) (k v : Int × Int) : putA (eJ m) k (eT [v.1, v.2]) = eJ (putA m k v) := putA_map (fun v : Int × Int => eT [v.1, v.2]) k v m
theorem jPut_len (c : Int → Int) (t : Tri) (m : Jn) (k : Nat) : (jPut c t m k).length ≤ m.length + 2 := by
  unfold jPut
  have h1 := FtM.putA_len m (t.1, (k : Int)) (-t.2.2, (k : Int))
  have h2 := FtM.putA_len (putA m (t.1, (k : Int)) (-t.2.2, (k : Int))) (t.2.2, c t.2.2 - 1 - k) (-t.1, c t.1 - 1 - k)
  split at h1 <;> split at h2 <;> omega
theorem rot3_ln {L : Nat} {f : Int → Int} {ts : List Tri} (R : FtM.Reps ts L f) {t u : Tri} (ht : t ∈ ts) (hu : u ∈ rot3 t) : FtM.IsLn L u.1 ∧ FtM.IsLn L u.2.1 ∧ FtM.IsLn L u.2.2 := by
  obtain ⟨a, b, c⟩ := R.sub ht
  unfold rot3 at hu
  simp only [List.mem_cons, List.not_mem_nil, or_false] at hu
  rcases hu with rfl | rfl | rfl
  · exact ⟨a, b, c⟩
  · exact ⟨b, c, a⟩
  · exact ⟨c, a, b⟩
theorem ok_joins (F : L2.Fun M.K "_law_joins" "_law_joins" sJoins f fd) (B : Bl M) (Gc : Glob M "_law_corner" 1 ["_law_counts_here", "_law_row"] (spP PCorner)) : FnOk M.P M.w M.K M.mg M.base CX0 2 f fd ["_law_web_here", "_law_counts_here"] (spP PJoins) := by
  have nd := scJoins.nd
  refine FtR.Fun.okP (k := 1) F scJoins (fun ds d ⟨_, _, _, _, _, _, _, h, _⟩ => by rw [h]; rfl) fun cdv A outer s0 H E hr F D ds d hP hq hn => ?_
  obtain ⟨L, n, w, c, G, T, hb, rfl, rfl⟩ := hP
  obtain ⟨z1, z2, z3, z4⟩ := G.size
  have tl3 := G.reps.len
  have hcor : ∀ t ∈ w.ts, ∀ u ∈ rot3 t, (cor c u).toNat ≤ 100 := fun t ht u hu => by
    obtain ⟨a1, a2, a3⟩ := rot3_ln G.reps ht hu
    have b1 := hb _ a1
    have b2 := hb _ a3
    have b3 := T.nn _ a2
    unfold cor
    omega
  refine r_setN 2 n_dnew2 fun q => ?_
  refine r_for (xs := w.ts.map e3) (fun i ds os => ∃ (m : Jn) (a3 a4 a5 a6 a7 a8 a9 : Option Dt), ds = [some w.d, some (eC L c), some (.adr q), a3, a4, a5, a6, a7, a8, a9] ∧ os = [(q, odct (eJ m))] ∧ m = (w.ts.take i).foldl (jTri c) [] ∧ m.length ≤ 1000 * i) (i_list (x_ixT (v 0 rfl) x_int rfl)) ⟨[], none, none, none, none, none, none, none, rfl, rfl, rfl, Nat.zero_le _⟩ ?_ ?_
  · rintro F' lF i d _ _ hd ⟨m, a3, a4, a5, a6, a7, a8, a9, rfl, rfl, hm, hz⟩
    rw [List.getElem?_map] at hd
    obtain ⟨t, ht, rfl⟩ := Option.map_eq_some_iff.mp hd
    have hil := (List.getElem?_eq_some_iff.mp ht).1
    have htm := List.mem_of_getElem? ht
    refine ⟨_, _, g_name 3, ?_⟩
    refine r_for (xs := (rot3 t).map e3) (fun j ds os => ∃ (m' : Jn) (a4 a5 a6 a7 a8 a9 : Option Dt), ds = [some w.d, some (eC L c), some (.adr q), some (e3 t), a4, a5, a6, a7, a8, a9] ∧ os = [(q, odct (eJ m'))] ∧ m' = ((rot3 t).take j).foldl (jRot c) m ∧ m'.length ≤ 1000 * i + 300 * j)
      (i_list ((x_ofL (n_lst (l3 (v 3 rfl) (x_tup (l3 (x_ixT (v 3 rfl) x_int rfl) (x_ixT (v 3 rfl) x_int rfl) (x_ixT (v 3 rfl) x_int rfl))) (x_tup (l3 (x_ixT (v 3 rfl) x_int rfl) (x_ixT (v 3 rfl) x_int rfl) (x_ixT (v 3 rfl) x_int rfl)))))).to rfl)) ⟨m, a4, a5, a6, a7, a8, a9, rfl, rfl, rfl, by omega⟩ ?_ ?_
    · rintro F'' lF' j d _ _ hd ⟨m', a4, a5, a6, a7, a8, a9, rfl, rfl, hm', hz'⟩
      rw [List.getElem?_map] at hd
      obtain ⟨u, hu, rfl⟩ := Option.map_eq_some_iff.mp hd
      have hjl := (List.getElem?_eq_some_iff.mp hu).1
      have hj3 : (rot3 t).length = 3 := rfl
      have hum := List.mem_of_getElem? hu
      obtain ⟨u1, u2, u3⟩ := rot3_ln G.reps htm hum
      have hc1 := hcor t htm u hum
      refine ⟨_, _, g_tup (gs_cons (g_name 4) (gs_cons (g_name 5) (gs_cons (g_name 6) gs_nil))) rfl, ?_⟩
      refine r_parDD (x := .int (c u.1)) (y := .int (c u.2.2)) 7 8 (x_ixI (v 1 rfl) (x_sub (x_abs B.abs (v 4 rfl)) x_int) (.dat _) (pos1 u1) (rowC_at T.sy u1)) (x_ixI (v 1 rfl) (x_sub (x_abs B.abs (v 6 rfl)) x_int) (.dat _) (pos1 u3) (rowC_at T.sy u3)) ?_
      refine r_for (fun k ds os => ∃ (m'' : Jn) (a9 : Option Dt), ds = [some w.d, some (eC L c), some (.adr q), some (e3 t), some (.int u.1), some (.int u.2.1), some (.int u.2.2), some (.int (c u.1)), some (.int (c u.2.2)), a9] ∧ os = [(q, odct (eJ m''))] ∧ m'' = (List.range k).foldl (jPut c u) m' ∧ m''.length ≤ 1000 * i + 300 * j + 2 * k)
        (i_rng1 B.range (x_call Gc (l2 (v 1 rfl) (x_tup (l3 (v 4 rfl) (v 5 rfl) (v 6 rfl)))) ⟨L, c, u, T.sy, u1, u2, u3, rfl, rfl⟩) ?_) ⟨m', a9, rfl, rfl, rfl, by omega⟩ ?_ ?_
      · have b1 := hb _ u1
        have b2 := hb _ u3
        have b3 := hb _ u2
        have d1 := T.nn _ u1
        have d2 := T.nn _ u2
        have d3 := T.nn _ u3
        unfold cor
        omega
      · rintro F3 lF3 k d _ _ hd ⟨m'', a9, rfl, rfl, hm'', hz''⟩
        rw [List.getElem?_map] at hd
        obtain ⟨x, hx, rfl⟩ := Option.map_eq_some_iff.mp hd
        have hkl := (List.getElem?_eq_some_iff.mp hx).1
        rw [List.length_range] at hkl
        rw [List.getElem?_range hkl] at hx
        cases hx
        have hl1 := jPut_len c u m'' k
        have hp1 := FtM.putA_len m'' (u.1, (k : Int)) (-u.2.2, (k : Int))
        refine ⟨_, _, g_name 9, ?_⟩
        refine r_dput2 (d := eT [-u.2.2, (k : Int)]) 0 ((x_tup (l2 (x_sub x_int (v 6 rfl)) (v 9 rfl))).to (by rw [Int.zero_sub]; rfl)) (v 2 rfl) (x_tup (l2 (v 4 rfl) (v 9 rfl))) rfl (by unfold eJ; rw [List.length_map]; omega) ?_
        rw [putJ m'' (u.1, (k : Int)) (-u.2.2, (k : Int))]
        refine r_dput2 (d := eT [-u.1, c u.1 - 1 - (k : Int)]) 0 ((x_tup (l2 (x_sub x_int (v 4 rfl)) (x_sub (x_sub (v 7 rfl) x_int) (v 9 rfl)))).to (by rw [Int.zero_sub]; rfl)) (v 2 rfl) (x_tup (l2 (v 6 rfl) (x_sub (x_sub (v 8 rfl) x_int) (v 9 rfl)))) rfl (by unfold eJ; rw [List.length_map]; split at hp1 <;> omega) ?_
        rw [putJ _ (u.2.2, c u.2.2 - 1 - (k : Int)) (-u.1, c u.1 - 1 - (k : Int))]
        refine r_loop _ ⟨jPut c u m'' k, some (.int (k : Int)), rfl, rfl, ?_, by omega⟩ (Sub.refl _)
        rw [List.range_succ, List.foldl_append, ← hm'']
        rfl
      · rintro _ _ ⟨m'', a9, rfl, rfl, hm'', hz''⟩
        rw [List.length_map, List.length_range] at hm'' hz''
        refine r_loop _ ⟨m'', _, _, _, _, _, _, rfl, rfl, ?_, by omega⟩ (Sub.refl _)
        rw [fold_snoc hu, ← hm', hm'']
        rfl
    · rintro _ _ ⟨m', a4, a5, a6, a7, a8, a9, rfl, rfl, hm', hz'⟩
      rw [List.length_map, List.take_length] at hm'
      rw [List.length_map, show (rot3 t).length = 3 from rfl] at hz'
      refine r_loop _ ⟨m', _, _, _, _, _, _, _, rfl, rfl, ?_, by omega⟩ (Sub.refl _)
      rw [fold_snoc ht, ← hm, hm']
      rfl
  · rintro _ _ ⟨m, a3, a4, a5, a6, a7, a8, a9, rfl, rfl, hm, hz⟩
    rw [List.length_map, List.take_length] at hm
    have hm' : joinsL c w.ts = m := hm.symm
    rw [hm'] at hq
    exact r_ret (x_frozD2 0 (v 2 rfl) rfl) (hq _)
end
end FtR
/-! the law's joins are the step -/
namespace FtR
open PySem PySem.Spec PyProof.Rows L2
open FtM (getA putA Tri it orb stp)
theorem fold_pres {α S K : Type} {g : S → α → S} {J : S → Prop} {Pr : S → K → Prop} {T : α → K → Prop} : ∀ {l : List α}, (∀ m, ∀ a ∈ l, J m → J (g m a) ∧ (∀ s, Pr m s → Pr (g m a) s) ∧ ∀ s, T a s → Pr (g m a) s) → ∀ m, J m → J (l.foldl g m) ∧ (∀ s, Pr m s → Pr (l.foldl g m) s) ∧ ∀ a ∈ l, ∀ s, T a s → Pr (l.foldl g m) s
  | [], _, m, h => ⟨h, fun s h => h, fun a ha => (nomatch ha)⟩
  | a :: l, hs, m, h => by
    obtain ⟨h1, h2, h3⟩ := hs m a List.mem_cons_self h
    obtain ⟨k1, k2, k3⟩ := fold_pres (l := l) (fun m b hb => hs m b (List.mem_cons_of_mem _ hb)) (g m a) h1
    refine ⟨k1, fun s hs => k2 s (h2 s hs), fun b hb s hT => ?_⟩
    rcases List.mem_cons.mp hb with rfl | hb
    · exact k2 s (h3 s hT)
    · exact k3 b hb s hT
def JOk (f c : Int → Int) (m : Jn) : Prop := ∀ k v, getA m k = some v → v = stp f c k
def JIn (m : Jn) (s : Int × Int) : Prop := (getA m s).isSome = true
section
variable {L : Nat} {f c : Int → Int} {ts : List Tri}
theorem put_ok {m : Jn} {k v : Int × Int} (h : JOk f c m) (hv : v = stp f c k) : JOk f c (putA m k v) ∧ (∀ s, JIn m s → JIn (putA m k v) s) ∧ JIn (putA m k v) k := by
  refine ⟨fun j u hu => ?_, fun s hs => ?_, ?_⟩
  · rw [FtM.getA_put] at hu
    split at hu
    · rename_i e
      cases hu
      rw [e, hv]
    · exact h j u hu
  · unfold JIn at *
    rw [FtM.getA_put]
    split
    · rfl
    · exact hs
  · unfold JIn
    rw [FtM.getA_put, if_pos rfl]
    rfl
theorem jPut_ok (T : FtM.Fit L f c) {x : Int} (hx : FtM.IsLn L x) {k : Nat} (hk : (k : Int) < FtM.arc f c x) {m : Jn} (h : JOk f c m) : JOk f c (jPut c (x, f x, f (f x)) m k) ∧ (∀ s, JIn m s → JIn (jPut c (x, f x, f (f x)) m k) s) ∧ ∀ s, (s = (x, (k : Int)) ∨ s = (f (f x), c (f (f x)) - 1 - k)) → JIn (jPut c (x, f x, f (f x)) m k) s := by
  have lz := T.tr.ln _ (T.tr.ln _ hx)
  have a1 := T.arc hx
  have a2 := T.arc lz
  have f3 := T.tr.f3 x hx
  have e1 : ((-(f (f x)), (k : Int)) : Int × Int) = stp f c (x, (k : Int)) := (FtM.stp_lt (s := (x, (k : Int))) hk).symm
  have e2 : ((-x, c x - 1 - (k : Int)) : Int × Int) = stp f c (f (f x), c (f (f x)) - 1 - k) := by
    rw [FtM.stp_ge]
    · show _ = (-f (f (f x)), c (f (f x)) - 1 - k + c (f (f (f x))) - c (f (f x)))
      rw [f3]
      congr 1
      omega
    · show ¬ c (f (f x)) - 1 - k < FtM.arc f c (f (f x))
      rw [f3] at a2
      omega
  obtain ⟨p1, p2, p3⟩ := put_ok h e1
  obtain ⟨q1, q2, q3⟩ := put_ok p1 e2
  refine ⟨q1, fun s hs => q2 s (p2 s hs), fun s hs => ?_⟩
  rcases hs with rfl | rfl
  · exact q2 _ p3
  · exact q3
theorem joins_ok (R : FtM.Reps ts L f) (T : FtM.Fit L f c) {s : Int × Int} (hs : FtM.In L c s) : getA (joinsL c ts) s = some (stp f c s) := by
  have hrot : ∀ t ∈ ts, ∀ u ∈ rot3 t, FtM.IsLn L u.1 ∧ u = (u.1, f u.1, f (f u.1)) := fun t ht u hu => by
    have h1 := (rot3_ln R ht hu).1
    obtain ⟨r1, r2, r3⟩ := R.rot t ht
    refine ⟨h1, ?_⟩
    unfold rot3 at hu
    simp only [List.mem_cons, List.not_mem_nil, or_false] at hu
    rcases hu with rfl | rfl | rfl
    · rw [r1, r2]
    · show (_, _, _) = (_, _, _)
      rw [r2, r3]
    · show (_, _, _) = (_, _, _)
      rw [r3, r1]
  have A : ∀ t ∈ ts, ∀ u ∈ rot3 t, ∀ m, JOk f c m → JOk f c (jRot c m u) ∧ (∀ s, JIn m s → JIn (jRot c m u) s) ∧ ∀ s, (∃ k : Nat, (k : Int) < FtM.arc f c u.1 ∧ (s = (u.1, (k : Int)) ∨ s = (f (f u.1), c (f (f u.1)) - 1 - k))) → JIn (jRot c m u) s := fun t ht u hu m hm => by
    obtain ⟨h1, h2⟩ := hrot t ht u hu
    have hc : cor c u = FtM.arc f c u.1 := by
      rw [h2]
      rfl
    have a1 := (T.arc h1).2.1
    have key := fold_pres (l := List.range (cor c u).toNat) (g := jPut c u) (J := JOk f c) (Pr := JIn) (T := fun k s => s = (u.1, (k : Int)) ∨ s = (f (f u.1), c (f (f u.1)) - 1 - k)) (fun m k hk hm => by
      have := List.mem_range.mp hk
      have hk' : (k : Int) < FtM.arc f c u.1 := by rw [hc] at this; omega
      have r := jPut_ok T h1 hk' hm
      rw [← h2] at r
      exact r) m hm
    exact ⟨key.1, key.2.1, fun s ⟨k, hk, hs⟩ => key.2.2 k (List.mem_range.mpr (by rw [hc]; omega)) s hs⟩
  have Bt : ∀ t ∈ ts, ∀ m, JOk f c m → JOk f c (jTri c m t) ∧ (∀ s, JIn m s → JIn (jTri c m t) s) ∧ ∀ s, (∃ u ∈ rot3 t, ∃ k : Nat, (k : Int) < FtM.arc f c u.1 ∧ (s = (u.1, (k : Int)) ∨ s = (f (f u.1), c (f (f u.1)) - 1 - k))) → JIn (jTri c m t) s := fun t ht m hm => by
    have key := fold_pres (l := rot3 t) (g := jRot c) (J := JOk f c) (Pr := JIn) (T := fun u s => ∃ k : Nat, (k : Int) < FtM.arc f c u.1 ∧ (s = (u.1, (k : Int)) ∨ s = (f (f u.1), c (f (f u.1)) - 1 - k))) (fun m u hu hm => A t ht u hu m hm) m hm
    exact ⟨key.1, key.2.1, fun s ⟨u, hu, hs⟩ => key.2.2 u hu s hs⟩
  have key := fold_pres (l := ts) (g := jTri c) (J := JOk f c) (Pr := JIn) (T := fun t s => ∃ u ∈ rot3 t, ∃ k : Nat, (k : Int) < FtM.arc f c u.1 ∧ (s = (u.1, (k : Int)) ∨ s = (f (f u.1), c (f (f u.1)) - 1 - k))) (fun m t ht hm => Bt t ht m hm) [] (fun k v h => nomatch h)
  have fin : ∀ x, FtM.IsLn L x → ∀ k : Nat, (k : Int) < FtM.arc f c x → ∀ s, (s = (x, (k : Int)) ∨ s = (f (f x), c (f (f x)) - 1 - k)) → JIn (joinsL c ts) s := fun x hx k hk s hs => by
    obtain ⟨t, ht, hm⟩ := List.mem_flatMap.mp (R.mem.mpr hx)
    have hu : ∃ u ∈ rot3 t, u.1 = x := by
      unfold FtM.tl at hm
      simp only [List.mem_cons, List.not_mem_nil, or_false] at hm
      unfold rot3
      rcases hm with h | h | h
      · exact ⟨_, List.mem_cons_self, h.symm⟩
      · exact ⟨_, List.mem_cons_of_mem _ List.mem_cons_self, h.symm⟩
      · exact ⟨_, List.mem_cons_of_mem _ (List.mem_cons_of_mem _ List.mem_cons_self), h.symm⟩
    obtain ⟨u, hu, rfl⟩ := hu
    exact key.2.2 t ht s ⟨u, hu, k, hk, hs⟩
  have hin : JIn (joinsL c ts) s := by
    obtain ⟨h1, h2, h3⟩ := hs
    have a1 := T.arc h1
    by_cases hlt : s.2 < FtM.arc f c s.1
    · exact fin s.1 h1 s.2.toNat (by omega) s (.inl (Prod.ext rfl (by show s.2 = _; omega)))
    · have ly := T.tr.ln _ h1
      have a2 := T.arc ly
      have f3 := T.tr.f3 s.1 h1
      rw [f3] at a2
      refine fin (f s.1) ly (c s.1 - 1 - s.2).toNat (by omega) s (.inr ?_)
      rw [f3]
      exact Prod.ext rfl (by show s.2 = _; omega)
  unfold JIn at hin
  obtain ⟨v, hv⟩ := Option.isSome_iff_exists.mp hin
  rw [hv, key.1 s v hv]
theorem joinsJ_ok (R : FtM.Reps ts L f) (T : FtM.Fit L f c) {s : Int × Int} (hs : FtM.In L c s) : getA (eJ (joinsL c ts)) s = some (eT [(stp f c s).1, (stp f c s).2]) := by
  have := getA_map (fun v : Int × Int => eT [v.1, v.2]) s (joinsL c ts)
  rw [joins_ok R T hs] at this
  exact this
end
end FtR
/-! the law's rounds -/
namespace FtR
open PySem PySem.Spec PyProof.Rows L2
open FtM (getA putA Tri it orb stp rv ofOrb Per perOf)
def eS (s : Int × Int) : Dt := eT [s.1, s.2]
noncomputable def oOrb (f c : Int → Int) (s : FtM.St) : List FtM.St := orb (stp f c) s (perOf (stp f c) s)
open Classical in
noncomputable def rdStep (f c : Int → Int) (fd : List (List FtM.St)) (s : FtM.St) : List (List FtM.St) := if (fd.any fun O => ofOrb c O s) = true then fd else fd ++ [oOrb f c s]
noncomputable def rdIn (f c : Int → Int) (fd : List (List FtM.St)) (i j : Nat) : List (List FtM.St) := (List.range j).foldl (fun fd (p : Nat) => rdStep f c fd (1 + (i : Int), (p : Int))) fd
noncomputable def rdOut (f c : Int → Int) (i : Nat) : List (List FtM.St) := (List.range i).foldl (fun fd (i : Nat) => rdIn f c fd i (c (1 + (i : Int))).toNat) []
noncomputable def roundsL (L : Nat) (f c : Int → Int) : List (List FtM.St) := rdOut f c L
def RdOk (L : Nat) (f c : Int → Int) (fd : List (List FtM.St)) : Prop := ∀ O ∈ fd, ∃ s, FtM.In L c s ∧ O = oOrb f c s
section
variable {L : Nat} {f c : Int → Int}
theorem RdOk.step {fd : List (List FtM.St)} (h : RdOk L f c fd) {s : FtM.St} (hs : FtM.In L c s) : RdOk L f c (rdStep f c fd s) := by
  unfold rdStep
  split
  · exact h
  · intro O hO
    rcases List.mem_append.mp hO with hO | hO
    · exact h O hO
    · exact ⟨s, hs, List.mem_singleton.mp hO⟩
theorem rdStep_len (fd : List (List FtM.St)) (s : FtM.St) : (rdStep f c fd s).length ≤ fd.length + 1 := by
  unfold rdStep
  split
  · omega
  · rw [List.length_append]; exact Nat.le_refl _
theorem rd_in {i p : Nat} (hi : i < L) (hp : p < (c (1 + (i : Int))).toNat) : FtM.In L c (1 + (i : Int), (p : Int)) := ⟨by show FtM.IsLn L _; unfold FtM.IsLn; omega, by show (0 : Int) ≤ (p : Int); omega, by show (p : Int) < c (1 + (i : Int)); omega⟩
theorem rdIn_ok {fd : List (List FtM.St)} {i : Nat} (hi : i < L) : ∀ j, j ≤ (c (1 + (i : Int))).toNat → RdOk L f c fd → RdOk L f c (rdIn f c fd i j) ∧ (rdIn f c fd i j).length ≤ fd.length + j
  | 0, _, h => ⟨h, Nat.le_refl _⟩
  | j + 1, hj, h => by
    obtain ⟨a, b⟩ := rdIn_ok hi j (by omega) h
    unfold rdIn at *
    rw [List.range_succ, List.foldl_append]
    exact ⟨a.step (rd_in hi hj), Nat.le_trans (rdStep_len _ _) (by omega)⟩
theorem rdOut_ok (hb : ∀ x, FtM.IsLn L x → c x ≤ 8) : ∀ i, i ≤ L → RdOk L f c (rdOut f c i) ∧ (rdOut f c i).length ≤ 8 * i
  | 0, _ => ⟨fun O h => (nomatch h), Nat.le_refl _⟩
  | i + 1, hi => by
    obtain ⟨a, b⟩ := rdOut_ok hb i (by omega)
    have h8 := hb (1 + (i : Int)) (by unfold FtM.IsLn; omega)
    obtain ⟨p, q⟩ := rdIn_ok (L := L) (i := i) (by omega) _ (Nat.le_refl _) a
    unfold rdOut at *
    rw [List.range_succ, List.foldl_append]
    exact ⟨p, Nat.le_trans q (by omega)⟩
theorem sts_le (hb : ∀ x, FtM.IsLn L x → c x ≤ 8) : (FtM.sts L c).length ≤ 16 * L := by
  have key : ∀ xs : List Int, (∀ x ∈ xs, FtM.IsLn L x) → (xs.flatMap fun x => (List.range (c x).toNat).map fun p => (x, ((p : Nat) : Int))).length ≤ 8 * xs.length := fun xs => by
    induction xs with
    | nil => intro _; exact Nat.le_refl _
    | cons x xs ih =>
      intro h
      have h1 := hb x (h x List.mem_cons_self)
      have h2 := ih fun y hy => h y (List.mem_cons_of_mem _ hy)
      rw [List.flatMap_cons, List.length_append, List.length_map, List.length_range, List.length_cons]
      omega
  have := key (FtM.lns L) fun x hx => FtM.mem_lns.mp hx
  rw [FtM.lns_len] at this
  unfold FtM.sts
  omega
theorem oPer (T : FtM.Fit L f c) {s : FtM.St} (hs : FtM.In L c s) : Per (stp f c) s (perOf (stp f c) s) ∧ perOf (stp f c) s ≤ (FtM.sts L c).length := by
  obtain ⟨n, h1, h2⟩ := T.per hs
  rw [h1.eq]
  exact ⟨h1, h2⟩
theorem it_in (T : FtM.Fit L f c) {s : FtM.St} (hs : FtM.In L c s) (i : Nat) : FtM.In L c (it (stp f c) i s) := FtM.mem_sts.mp (FtM.it_mem (X := FtM.sts L c) (fun y hy => FtM.mem_sts.mpr (T.stp_in (FtM.mem_sts.mp hy))) (FtM.mem_sts.mpr hs) i)
theorem any_it (T : FtM.Fit L f c) {fd : List (List FtM.St)} (h : RdOk L f c fd) {s : FtM.St} (hs : FtM.In L c s) : ∀ i, (fd.any fun O => ofOrb c O (it (stp f c) i s)) = fd.any fun O => ofOrb c O s
  | 0 => rfl
  | i + 1 => by
    rw [← any_it T h hs i]
    have e : ∀ O ∈ fd, ofOrb c O (it (stp f c) (i + 1) s) = ofOrb c O (it (stp f c) i s) := fun O hO => by
      obtain ⟨u, hu, rfl⟩ := h O hO
      exact ((T.clo hu (oPer T hu).1).st _ (it_in T hs i)).symm
    rw [Bool.eq_iff_iff, List.any_eq_true, List.any_eq_true]
    exact ⟨fun ⟨O, a, b⟩ => ⟨O, a, by rw [← e O a]; exact b⟩, fun ⟨O, a, b⟩ => ⟨O, a, by rw [e O a]; exact b⟩⟩
/-- a state not yet met is no state or reverse of those ahead -/
theorem orb_new (T : FtM.Fit L f c) {s : FtM.St} (hs : FtM.In L c s) {i : Nat} (hi : i < perOf (stp f c) s) : ofOrb c (orb (stp f c) s i) (it (stp f c) i s) = false := by
  obtain ⟨P, _⟩ := oPer T hs
  have hm : it (stp f c) i s ∈ orb (stp f c) s (perOf (stp f c) s) := FtM.mem_orb.mpr ⟨i, hi, rfl⟩
  refine Bool.eq_false_iff.mpr fun h => ?_
  rcases FtM.ofOrb_iff.mp h with h | h
  · have nd := T.orb_nodup hs P
    obtain ⟨j, hj, e⟩ := FtM.mem_orb.mp h
    have h1 : (orb (stp f c) s (perOf (stp f c) s))[i]? = (orb (stp f c) s (perOf (stp f c) s))[j]? := by
      unfold orb
      rw [List.getElem?_map, List.getElem?_map, List.getElem?_range hi, List.getElem?_range (by omega)]
      exact congrArg some e.symm
    have h2 := (List.getElem?_inj (by rw [FtM.orb_len]; exact hi) nd).mp h1
    omega
  · obtain ⟨j, hj, e⟩ := FtM.mem_orb.mp h
    exact T.disj hs P hm (FtM.mem_orb.mpr ⟨j, by omega, e⟩)
end
abbrev sRounds : Stmt := topS 89
abbrev nRounds : List Str := ["_law_web_here", "_law_counts_here", "_law_joins_here", "_law_seen", "_law_found", "_law_line", "_law_at", "_law_row", "_law_here"]
theorem scRounds : FnScope nRounds ["_law_web_here", "_law_counts_here"] (defScope sRounds) := ⟨rfl, rfl, rfl, by decide +kernel, rfl, by decide +kernel, by decide +kernel⟩
def eRd (fd : List (List FtM.St)) : List Dt := fd.map fun O => Dt.lst (O.map eS)
def PRounds (ds : List Dt) (d : Dt) : Prop := ∃ (L n : Nat) (w : WS) (c : Int → Int), GoodS L n w ∧ FtM.Fit L w.f c ∧ (∀ x, FtM.IsLn L x → c x ≤ 8) ∧ ds = [w.d, eC L c] ∧ d = .lst (eRd (roundsL L w.f c))
section
variable {M : Mo} {f : Addr} {fd : FuncData}
theorem ok_rounds (F : L2.Fun M.K "_law_rounds" "_law_rounds" sRounds f fd) (B : Bl M) (Gj : Glob M "_law_joins" 2 ["_law_web_here", "_law_counts_here"] (spP PJoins)) (Gs : Glob M "_law_size" 1 ["_law_web_here"] (spP PSize)) : FnOk M.P M.w M.K M.mg M.base CX0 3 f fd ["_law_web_here", "_law_counts_here"] (spP PRounds) := by
  have nd := scRounds.nd
  refine FtR.Fun.okP (k := 2) F scRounds (fun ds d ⟨_, _, _, _, _, _, _, h, _⟩ => by rw [h]; rfl) fun cdv A outer s0 H E hr F D ds d hP hq hn => ?_
  obtain ⟨L, n, w, c, G, T, hb, rfl, rfl⟩ := hP
  obtain ⟨z1, z2, z3, z4⟩ := G.size
  have hst := sts_le hb
  refine r_par3DNN 2 3 4 (x_call Gj (l2 (v 0 rfl) (v 1 rfl)) ⟨L, n, w, c, G, T, fun x hx => Int.le_trans (hb x hx) (by decide), rfl, rfl⟩) n_dnew2 (fun q => n_lst l_nil) fun q r => ?_
  refine r_for (fun i ds os => ∃ (kvs : List ((Int × Int) × Dt)) (a5 a6 a7 a8 : Option Dt), ds = [some w.d, some (eC L c), some (dctOf (eJ (joinsL c w.ts))), some (.adr q), some (.adr r), a5, a6, a7, a8] ∧ os = [(r, .lst (eRd (rdOut w.f c i))), (q, odct kvs)] ∧
    (∀ s, FtM.In L c s → (getA kvs s).isSome = (rdOut w.f c i).any fun O => ofOrb c O s) ∧ kvs.length ≤ 5000 * i) (i_rng2 B.range x_int (x_add (x_call Gs (l1 (v 0 rfl)) ⟨L, n, w, G, rfl, rfl⟩) x_int) ⟨by omega, by omega, by omega, by omega⟩) ⟨[], none, none, none, none, rfl, rfl, fun _ _ => rfl, Nat.zero_le _⟩ ?_ ?_
  · rintro F' lF i d _ _ hd ⟨kvs, a5, a6, a7, a8, rfl, rfl, hs, hz⟩
    unfold rgD at hd
    rw [List.getElem?_map] at hd
    obtain ⟨x, hx, rfl⟩ := Option.map_eq_some_iff.mp hd
    have hil := (List.getElem?_eq_some_iff.mp hx).1
    rw [List.length_range] at hil
    rw [List.getElem?_range hil] at hx
    cases hx
    have hiL : i < L := by omega
    obtain ⟨ro, rl⟩ := rdOut_ok (f := w.f) hb i (by omega)
    have h8 := hb (1 + (i : Int)) (by unfold FtM.IsLn; omega)
    have h0 := T.nn (1 + (i : Int)) (by unfold FtM.IsLn; omega)
    refine ⟨_, _, g_name 5, ?_⟩
    refine r_for (fun j ds os => ∃ (kvs' : List ((Int × Int) × Dt)) (a6 a7 a8 : Option Dt), ds = [some w.d, some (eC L c), some (dctOf (eJ (joinsL c w.ts))), some (.adr q), some (.adr r), some (.int (1 + (i : Int))), a6, a7, a8] ∧ os = [(r, .lst (eRd (rdIn w.f c (rdOut w.f c i) i j))), (q, odct kvs')] ∧
      (∀ s, FtM.In L c s → (getA kvs' s).isSome = (rdIn w.f c (rdOut w.f c i) i j).any fun O => ofOrb c O s) ∧ kvs'.length ≤ 5000 * i + 500 * j) (i_rng1 B.range (x_ixI (v := c (1 + (i : Int))) (v 1 rfl) (x_sub (v 5 rfl) x_int) (.dat _) (by omega) (by rw [rowC_get, if_pos (by omega), show (1 + (i : Int) - 1).toNat = i by omega])) ⟨by omega, by omega⟩) ⟨kvs, a6, a7, a8, rfl, rfl, hs, by omega⟩ ?_ ?_
    · rintro F'' lF' j d _ _ hd ⟨kvs', a6, a7, a8, rfl, rfl, hs', hz'⟩
      rw [List.getElem?_map] at hd
      obtain ⟨x, hx, rfl⟩ := Option.map_eq_some_iff.mp hd
      have hjl := (List.getElem?_eq_some_iff.mp hx).1
      rw [List.length_range] at hjl
      rw [List.getElem?_range hjl] at hx
      cases hx
      obtain ⟨io, il⟩ := rdIn_ok (f := w.f) hiL j (by omega) ro
      have hin : FtM.In L c (1 + (i : Int), (j : Int)) := rd_in hiL hjl
      have hnext : rdIn w.f c (rdOut w.f c i) i (j + 1) = rdStep w.f c (rdIn w.f c (rdOut w.f c i) i j) (1 + (i : Int), (j : Int)) := by
        unfold rdIn
        rw [List.range_succ, List.foldl_append]
        rfl
      generalize hfd : rdIn w.f c (rdOut w.f c i) i j = fd at *
      obtain ⟨P, Pl⟩ := oPer T hin
      refine ⟨_, _, g_name 6, ?_⟩
      refine r_when (b_dnin2 (x_tup (l2 (v 5 rfl) (v 6 rfl))) (v 3 rfl) (.own 1 rfl) rfl) (fun e => ?_) (fun e => ?_)
      · rw [hs' _ hin, Bool.not_eq_true'] at e
        have hst2 : rdStep w.f c fd (1 + (i : Int), (j : Int)) = fd ++ [oOrb w.f c (1 + (i : Int), (j : Int))] := by
          unfold rdStep
          rw [e, if_neg Bool.false_ne_true]
        refine r_parND 7 8 (n_lst l_nil) (fun p => x_tup (l2 (v 5 rfl) (v 6 rfl))) fun p => ?_
        generalize hs0 : ((1 + (i : Int), (j : Int)) : Int × Int) = st0 at *
        refine r_while (fun m ds os => ∃ (k : Nat) (kvs'' : List ((Int × Int) × Dt)), m = perOf (stp w.f c) st0 - k ∧ k ≤ perOf (stp w.f c) st0 ∧ ds = [some w.d, some (eC L c), some (dctOf (eJ (joinsL c w.ts))), some (.adr q), some (.adr r), some (.int (1 + (i : Int))), some (.int (j : Int)), some (.adr p), some (eS (it (stp w.f c) k st0))] ∧
          os = [(p, .lst ((orb (stp w.f c) st0 k).map eS)), (r, .lst (eRd fd)), (q, odct kvs'')] ∧ (∀ s, FtM.In L c s → (getA kvs'' s).isSome = ((fd.any fun O => ofOrb c O s) || ofOrb c (orb (stp w.f c) st0 k) s)) ∧ kvs''.length ≤ kvs'.length + 2 * k) (perOf (stp w.f c) st0) ⟨0, kvs', rfl, Nat.zero_le _, by rw [← hs0]; rfl, rfl, fun s hs => by rw [hs' s hs]; simp [ofOrb, orb], Nat.le_refl _⟩ ?_
        rintro m _ _ ⟨k, kvs'', rfl, hk, rfl, rfl, hs'', hz''⟩
        have hik := it_in T hin k
        refine ⟨_, _, b_dnin2 (v 8 rfl) (v 3 rfl) (.own 2 rfl) rfl, fun e2 => ?_, fun e2 => ?_⟩
        · have hkn : k < perOf (stp w.f c) st0 := by
            rcases Nat.lt_or_ge k (perOf (stp w.f c) st0) with h | h
            · exact h
            · have ek : k = perOf (stp w.f c) st0 := by omega
              rw [hs'' _ hik, ek, P.end_, FtM.ofOrb_iff.mpr (.inl P.self), Bool.or_true] at e2
              exact absurd e2 (by decide)
          generalize hu : it (stp w.f c) k st0 = u at *
          refine r_expr (x_append (y := eS u) 0 (v 7 rfl) (v 8 rfl) ⟨_, rfl⟩ rfl (by rw [List.length_map, FtM.orb_len]; omega)) ?_
          refine r_dput2 (d := .bl true) (i := u.1) (j := u.2) (kvs := kvs'') 2 x_bl (v 3 rfl) (v 8 rfl) rfl (by omega) ?_
          refine r_dput2 (d := .bl true) (i := -u.1) (j := c u.1 - 1 - u.2) (kvs := putA kvs'' (u.1, u.2) (.bl true)) 2 x_bl (v 3 rfl) ((x_tup (l2 (x_sub x_int (x_ixT (d := .int u.1) (v 8 rfl) x_int rfl)) (x_sub (x_sub (x_ixI (v 1 rfl) (x_sub (x_abs B.abs (x_ixT (d := .int u.1) (v 8 rfl) x_int rfl)) x_int) (.dat _) (pos1 hik.1) (rowC_at T.sy hik.1)) x_int) (x_ixT (d := .int u.2) (v 8 rfl) x_int rfl)))).to (by rw [Int.zero_sub])) rfl ?_ ?_
          · have := FtM.putA_len kvs'' (u.1, u.2) (Dt.bl true)
            split at this <;> omega
          refine r_set (d := eS (stp w.f c u)) 8 (x_dget2 (i := u.1) (j := u.2) (v 2 rfl) (v 8 rfl) (.dat _) (joinsJ_ok G.reps T hik)) ?_
          refine r_loop _ ⟨perOf (stp w.f c) st0 - (k + 1), by omega, k + 1, putA (putA kvs'' (u.1, u.2) (.bl true)) (-u.1, c u.1 - 1 - u.2) (.bl true), rfl, hkn, ?_, ?_, ?_, ?_⟩ (Sub.refl _)
          · rw [show it (stp w.f c) (k + 1) st0 = stp w.f c u from by rw [← hu]; rfl]
            rfl
          · show _ = [_, _, _]
            rw [FtM.orb_succ, hu, List.map_append]
            rfl
          · intro t htin
            rw [FtM.getA_put, FtM.getA_put, FtM.orb_succ, hu]
            have hb1 : ofOrb c (orb (stp w.f c) st0 k ++ [u]) t = (ofOrb c (orb (stp w.f c) st0 k) t || (decide (t = u) || decide (rv c t = u))) := by
              rw [Bool.eq_iff_iff]
              rw [Bool.or_eq_true, Bool.or_eq_true, FtM.ofOrb_iff, FtM.ofOrb_iff, List.mem_append, List.mem_append, List.mem_singleton, List.mem_singleton, decide_eq_true_eq, decide_eq_true_eq]
              constructor
              · rintro ((h | h) | (h | h))
                · exact .inl (.inl h)
                · exact .inr (.inl h)
                · exact .inl (.inr h)
                · exact .inr (.inr h)
              · rintro ((h | h) | (h | h))
                · exact .inl (.inl h)
                · exact .inr (.inl h)
                · exact .inl (.inr h)
                · exact .inr (.inr h)
            have hrv : t = (-u.1, c u.1 - 1 - u.2) ↔ rv c t = u := by
              constructor
              · intro h
                have := T.rv_rv u
                rw [h]
                exact this
              · intro h
                have := T.rv_rv t
                rw [h] at this
                exact this.symm
            rw [hb1, ← Bool.or_assoc, ← hs'' t htin]
            by_cases h1 : t = (-u.1, c u.1 - 1 - u.2)
            · rw [if_pos h1, decide_eq_true (hrv.mp h1), Bool.or_true, Bool.or_true]
              rfl
            · rw [if_neg h1, decide_eq_false (fun h => h1 (hrv.mpr h)), Bool.or_false]
              by_cases h2 : t = (u.1, u.2)
              · rw [if_pos h2, decide_eq_true (show t = u from h2), Bool.or_true]
                rfl
              · rw [if_neg h2, decide_eq_false (show ¬ t = u from h2), Bool.or_false]
          · have h1 := FtM.putA_len kvs'' (u.1, u.2) (Dt.bl true)
            have h2 := FtM.putA_len (putA kvs'' (u.1, u.2) (Dt.bl true)) (-u.1, c u.1 - 1 - u.2) (Dt.bl true)
            split at h1 <;> split at h2 <;> omega
        · have hkn : k = perOf (stp w.f c) st0 := by
            refine Classical.byContradiction fun hne => ?_
            have h1 := any_it T io hin k
            have h2 := orb_new T hin (i := k) (by omega)
            rw [hs'' _ hik, h1, e, h2] at e2
            exact absurd e2 (by decide)
          subst hkn
          refine r_freeze 7 0 rfl rfl ?_
          refine r_expr (x_append (y := .lst ((oOrb w.f c st0).map eS)) 0 (v 4 rfl) (v 7 rfl) ⟨_, rfl⟩ rfl ?_) ?_
          · unfold eRd
            rw [List.length_map]
            omega
          · refine r_end (r_loop _ ⟨kvs'', _, _, _, rfl, ?_, ?_, ?_⟩ (Sub.refl _))
            · rw [hnext, hst2]
              unfold eRd
              rw [List.map_append]
              rfl
            · intro t htin
              rw [hs'' t htin, hnext, hst2, List.any_append]
              simp [oOrb]
            · omega
      · rw [hs' _ hin, Bool.not_eq_false'] at e
        refine r_loop _ ⟨kvs', _, _, _, rfl, ?_, ?_, by omega⟩ (Sub.refl _)
        · rw [hnext]
          unfold rdStep
          rw [if_pos e]
        · intro t htin
          rw [hs' t htin, hnext]
          unfold rdStep
          rw [if_pos e]
    · rintro _ _ ⟨kvs', a6, a7, a8, rfl, rfl, hs', hz'⟩
      have hout : rdOut w.f c (i + 1) = rdIn w.f c (rdOut w.f c i) i (c (1 + (i : Int))).toNat := by
        unfold rdOut
        rw [List.range_succ, List.foldl_append]
        rfl
      rw [List.length_map, List.length_range] at hs' hz'
      refine r_loop _ ⟨kvs', _, _, _, _, rfl, ?_, ?_, by omega⟩ (Sub.refl _)
      · rw [hout, List.length_map, List.length_range]
      · rw [hout]
        exact hs'
  · rintro _ _ ⟨kvs, a5, a6, a7, a8, rfl, rfl, hs, hz⟩
    have e : (rgD 1 ((L : Int) + 1)).length = L := by
      unfold rgD
      rw [List.length_map, List.length_range]
      omega
    rw [e]
    exact r_ret (x_froz 0 (v 4 rfl) rfl) (hq _)
end
end FtR
set_option maxHeartbeats 1000000
/-! == over data -/
namespace FtR
open PySem PySem.Spec PyProof.Rows L2
open FtM (getA putA)
/-- data of depth k at most, that == may walk -/
structure Sh0 (k : Nat) (d : Dt) : Prop where
  dat : d.dat = true
  lay : d.toP.canLay0 = true
  dep : d.toP.depth ≤ k
theorem Sh0.shaped {k : Nat} {d : Dt} (h : Sh0 k d) (hk : k ≤ 64) : SeqAt.shaped d.toP = true := by
  unfold SeqAt.shaped
  rw [h.lay, decide_eq_true (Nat.le_trans h.dep hk)]
  rfl
theorem Sh0.int (i : Int) (k : Nat) : Sh0 k (.int i) := ⟨by simp [Dt.dat], by simp [Dt.toP, PyData.canLay0], by simp [Dt.toP, PyData.depth]⟩
theorem Sh0.bl (b : Bool) (k : Nat) : Sh0 k (.bl b) := ⟨by simp [Dt.dat], by simp [Dt.toP, PyData.canLay0], by simp [Dt.toP, PyData.depth]⟩
theorem sh_all {k : Nat} : ∀ {xs : List Dt}, (∀ x ∈ xs, Sh0 k x) → dats xs = true ∧ PyData.canLayAll0 (toPs xs) = true ∧ PyData.depthAll (toPs xs) ≤ k
  | [], _ => ⟨by simp [dats], by simp [toPs, PyData.canLayAll0], by simp [toPs, PyData.depthAll]⟩
  | x :: xs, h => by
    obtain ⟨a, b, c⟩ := sh_all (xs := xs) fun y hy => h y (List.mem_cons_of_mem _ hy)
    have hx := h x List.mem_cons_self
    refine ⟨by simp only [dats]; rw [hx.dat, a]; rfl, by simp only [toPs, PyData.canLayAll0]; rw [hx.lay, b]; rfl, ?_⟩
    simp only [toPs, PyData.depthAll]
    have := hx.dep
    omega
theorem Sh0.lst {k : Nat} {xs : List Dt} (h : ∀ x ∈ xs, Sh0 k x) : Sh0 (k + 1) (.lst xs) := by
  obtain ⟨a, b, c⟩ := sh_all h
  exact ⟨by simp only [Dt.dat]; exact a, by simp only [Dt.toP, PyData.canLay0]; exact b, by simp only [Dt.toP, PyData.depth]; omega⟩
theorem Sh0.tup {k : Nat} {xs : List Dt} (h : ∀ x ∈ xs, Sh0 k x) : Sh0 (k + 1) (.tup xs) := by
  obtain ⟨a, b, c⟩ := sh_all h
  exact ⟨by simp only [Dt.dat]; exact a, by simp only [Dt.toP, PyData.canLay0]; exact b, by simp only [Dt.toP, PyData.depth]; omega⟩
theorem Sh0.eL (xs : List Int) : Sh0 1 (eL xs) := .lst fun x hx => by
  obtain ⟨i, _, rfl⟩ := List.mem_map.mp hx
  exact .int i 0
theorem Sh0.eT (xs : List Int) : Sh0 1 (eT xs) := .tup fun x hx => by
  obtain ⟨i, _, rfl⟩ := List.mem_map.mp hx
  exact .int i 0
theorem Sh0.map {α : Type} {k : Nat} {g : α → Dt} {l : List α} (h : ∀ a, Sh0 k (g a)) : Sh0 (k + 1) (.lst (l.map g)) := .lst fun x hx => by
  obtain ⟨a, _, rfl⟩ := List.mem_map.mp hx
  exact h a
theorem eqv_ints : ∀ xs ys : List Int, PyData.eqvAll (toPs (xs.map Dt.int)) (toPs (ys.map Dt.int)) = decide (xs = ys)
  | [], [] => by simp [toPs, PyData.eqvAll]
  | [], y :: ys => by simp [toPs, PyData.eqvAll]
  | x :: xs, [] => by simp [toPs, PyData.eqvAll]
  | x :: xs, y :: ys => by
    simp only [List.map_cons, toPs, PyData.eqvAll, eqv_ints xs ys, Dt.toP, PyData.eqv]
    by_cases h : x = y
    · subst h
      simp
    · simp [h]
theorem eqv_eL (xs ys : List Int) : PyData.eqv (eL xs).toP (eL ys).toP = decide (xs = ys) := by
  unfold eL
  simp only [Dt.toP, PyData.eqv]
  exact eqv_ints xs ys
theorem eqv_eT (xs ys : List Int) : PyData.eqv (eT xs).toP (eT ys).toP = decide (xs = ys) := by
  unfold eT
  simp only [Dt.toP, PyData.eqv]
  exact eqv_ints xs ys
theorem eqv_map {α : Type} [DecidableEq α] {g : α → Dt} (hg : ∀ a b, PyData.eqv (g a).toP (g b).toP = decide (a = b)) : ∀ xs ys : List α, PyData.eqvAll (toPs (xs.map g)) (toPs (ys.map g)) = decide (xs = ys)
  | [], [] => by simp [toPs, PyData.eqvAll]
  | [], y :: ys => by simp [toPs, PyData.eqvAll]
  | x :: xs, [] => by simp [toPs, PyData.eqvAll]
  | x :: xs, y :: ys => by
    simp only [List.map_cons, toPs, PyData.eqvAll, eqv_map hg xs ys, hg]
    by_cases h : x = y
    · subst h
      simp
    · simp [h]
section
variable {C : Cxs} {F : Fr} {e a b c o : Expr} {ds : DEnv} {os os1 os2 : Own} {d x y : Dt} {pos : Pos} {k m : Nat}
/-- == and != of lists of ints -/
theorem x_eqI {is js : List Int} (ha : PX C F a ds os (eL is) os1) (hb : PX C F b ds os1 (eL js) os2) : PX C F (.Compare a [.Eq] [b] pos) ds os (.bl (decide (is = js))) os2 := by
  have := x_eqD (pos := pos) ha hb (Sh0.eL is).dat (Sh0.eL js).dat ((Sh0.eL is).shaped (by decide)) ((Sh0.eL js).shaped (by decide))
  rwa [eqv_eL] at this
theorem b_eqI {is js : List Int} (ha : PX C F a ds os (eL is) os1) (hb : PX C F b ds os1 (eL js) os2) : PB C F (.Compare a [.Eq] [b] pos) ds os (decide (is = js)) os2 := by
  have := b_eqD (pos := pos) ha hb (Sh0.eL is).dat (Sh0.eL js).dat ((Sh0.eL is).shaped (by decide)) ((Sh0.eL js).shaped (by decide))
  rwa [eqv_eL] at this
theorem b_neI {is js : List Int} (ha : PX C F a ds os (eL is) os1) (hb : PX C F b ds os1 (eL js) os2) : PB C F (.Compare a [.NotEq] [b] pos) ds os (!decide (is = js)) os2 := by
  have := b_neD (pos := pos) ha hb (Sh0.eL is).dat (Sh0.eL js).dat ((Sh0.eL is).shaped (by decide)) ((Sh0.eL js).shaped (by decide))
  rwa [eqv_eL] at this
theorem x_eqTI {is js : List Int} (ha : PX C F a ds os (eT is) os1) (hb : PX C F b ds os1 (eT js) os2) : PX C F (.Compare a [.Eq] [b] pos) ds os (.bl (decide (is = js))) os2 := by
  have := x_eqD (pos := pos) ha hb (Sh0.eT is).dat (Sh0.eT js).dat ((Sh0.eT is).shaped (by decide)) ((Sh0.eT js).shaped (by decide))
  rwa [eqv_eT] at this
theorem b_eqTI {is js : List Int} (ha : PX C F a ds os (eT is) os1) (hb : PX C F b ds os1 (eT js) os2) : PB C F (.Compare a [.Eq] [b] pos) ds os (decide (is = js)) os2 := by
  have := b_eqD (pos := pos) ha hb (Sh0.eT is).dat (Sh0.eT js).dat ((Sh0.eT is).shaped (by decide)) ((Sh0.eT js).shaped (by decide))
  rwa [eqv_eT] at this
theorem b_neTI {is js : List Int} (ha : PX C F a ds os (eT is) os1) (hb : PX C F b ds os1 (eT js) os2) : PB C F (.Compare a [.NotEq] [b] pos) ds os (!decide (is = js)) os2 := by
  have := b_neD (pos := pos) ha hb (Sh0.eT is).dat (Sh0.eT js).dat ((Sh0.eT is).shaped (by decide)) ((Sh0.eT js).shaped (by decide))
  rwa [eqv_eT] at this
/-- a list, one's own or data, against [] -/
theorem b_ne0 {xs : List Dt} (ha : PX C F a ds os x os1) (hb : PX C F b ds os1 (.lst []) os2) (hq : AsL os2 x xs) (hs : Sh0 k (.lst xs)) (hk : k ≤ 64 := by decide) : PB C F (.Compare a [.NotEq] [b] pos) ds os (!xs.isEmpty) os2 :=
  b_cmp (r := rNeD C.K) (fun i => by rw [← C.hK i]; exact op_neD (X := C.X i) (C_u64 C i)) ha hb (nomark _) fun B H u v S hu hv Q q => by
    obtain ⟨p, vs, rfl, h1, h2⟩ := hq.get S hu
    have hd := hs.dat
    simp only [Dt.dat] at hd
    have hz : Dp C.K H (.ref p) (Dt.lst xs).toP := by
      simp only [Dt.toP]
      exact .lst (.inl (.inl h1)) (IsA.dp hd (h2.mono S.bh))
    have s0 : Sh0 1 (.lst []) := .lst fun x hx => (nomatch hx)
    refine ⟨_, _, hz, (hv.mono S.bh).dp s0.dat, hs.shaped hk, s0.shaped (by decide), q _ B H (Same.refl _) S ?_⟩
    have : PyData.eqv (Dt.lst xs).toP (Dt.lst []).toP = xs.isEmpty := by
      cases xs <;> simp [Dt.toP, toPs, PyData.eqv, PyData.eqvAll]
    rw [this]
    exact Is.mk_bl
end
end FtR
set_option maxHeartbeats 4000000
/-! the law's split and thread -/
namespace FtR
open PySem PySem.Spec PyProof.Rows L2
open FtM (getA putA Tri it orb stp rv ofOrb Per perOf)
def ePr (p : List Int × Int) : Dt := .tup [eL p.1, .int p.2]
def isLst (fd : List (List Int × Int)) (r : List Int) : Bool := !(fd.map ePr).isEmpty && decide ((fd.getLastD ([], 0)).1 = r)
def grp (fd : List (List Int × Int)) (r : List Int) : List (List Int × Int) := if isLst fd r = true then fd.set (fd.length - 1) (r, (fd.getLastD ([], 0)).2 + 1) else fd ++ [(r, 1)]
noncomputable def rowsL (L : Nat) (f c : Int → Int) : List (List Int) := ((roundsL L f c).map fun O => rowC L (cntL (O.map Prod.fst))).mergeSort fun a b => leRow a b
noncomputable def splitL (L : Nat) (f c : Int → Int) : List (List Int × Int) := (rowsL L f c).foldl grp []
theorem grp_len (fd : List (List Int × Int)) (r : List Int) : (grp fd r).length ≤ fd.length + 1 := by
  unfold grp
  split
  · rw [List.length_set]; omega
  · rw [List.length_append]; exact Nat.le_refl _
theorem grp_mem {fd : List (List Int × Int)} {r : List Int} {p : List Int × Int} (h : p ∈ grp fd r) : p.1 = r ∨ p ∈ fd := by
  unfold grp at h
  split at h
  · rcases List.mem_or_eq_of_mem_set h with h | h
    · exact .inr h
    · exact .inl (by rw [h])
  · rcases List.mem_append.mp h with h | h
    · exact .inr h
    · exact .inl (by rw [List.mem_singleton.mp h])
theorem grp_fold : ∀ (rs : List (List Int)) (fd : List (List Int × Int)), ∀ p ∈ rs.foldl grp fd, p.1 ∈ rs ∨ p ∈ fd
  | [], fd, p, h => .inr h
  | r :: rs, fd, p, h => by
    rcases grp_fold rs (grp fd r) p h with h | h
    · exact .inl (List.mem_cons_of_mem _ h)
    · rcases grp_mem h with h | h
      · exact .inl (h ▸ List.mem_cons_self)
      · exact .inr h
theorem grp_fold_len : ∀ (rs : List (List Int)) (fd : List (List Int × Int)), (rs.foldl grp fd).length ≤ fd.length + rs.length
  | [], fd => Nat.le_refl _
  | r :: rs, fd => by
    have := grp_fold_len rs (grp fd r)
    have h2 := grp_len fd r
    rw [List.foldl_cons, List.length_cons]
    omega
theorem split_mem {L : Nat} {f c : Int → Int} {p : List Int × Int} (h : p ∈ splitL L f c) : ∃ O ∈ roundsL L f c, p.1 = rowC L (cntL (O.map Prod.fst)) := by
  rcases grp_fold _ _ p h with h | h
  · unfold rowsL at h
    obtain ⟨O, hO, e⟩ := List.mem_map.mp (List.mem_mergeSort.mp h)
    exact ⟨O, hO, e.symm⟩
  · cases h
theorem rowsL_len {L : Nat} {f c : Int → Int} (hb : ∀ x, FtM.IsLn L x → c x ≤ 8) : (rowsL L f c).length ≤ 8 * L := by
  unfold rowsL
  rw [List.length_mergeSort, List.length_map]
  exact (rdOut_ok hb L (Nat.le_refl _)).2
theorem Sh0.pr (p : List Int × Int) : Sh0 2 (ePr p) := .tup fun x hx => by
  simp only [List.mem_cons, List.not_mem_nil, or_false] at hx
  rcases hx with rfl | rfl
  · exact Sh0.eL _
  · exact .int _ _
def csStep : Scope := { kind := ScopeKind.function, names := [(".0", .local), ("_law_step", .local)], isGenerator := false, isCoroutine := false }
abbrev sSplit : Stmt := topS 91
abbrev nSplit : List Str := ["_law_web_here", "_law_counts_here", "_law_rows", "_law_found", "_law_row", "_law_step"]
theorem blkC_step (sc : Scope) : blkC nSplit sc csStep [("_law_step", 5)] = blkC nSplit csStep csStep [("_law_step", 5)] := rfl
theorem scSplit : FnScope nSplit ["_law_web_here", "_law_counts_here"] (defScope sSplit) := ⟨rfl, rfl, rfl, by decide +kernel, rfl, by decide +kernel, by decide +kernel⟩
def PSplit (ds : List Dt) (d : Dt) : Prop := ∃ (L n : Nat) (w : WS) (c : Int → Int), GoodS L n w ∧ FtM.Fit L w.f c ∧ (∀ x, FtM.IsLn L x → c x ≤ 8) ∧ ds = [w.d, eC L c] ∧ d = .lst ((splitL L w.f c).map ePr)
noncomputable def threadR (L n : Nat) (w : WS) (s : Deal) : List Int × Deal :=
  if (!((splitL L w.f (countsOf L n w.e s).1).map ePr).isEmpty) = true then (((splitL L w.f (countsOf L n w.e s).1).getD (pick (countsOf L n w.e s).2 (splitL L w.f (countsOf L n w.e s).1).length).1.toNat ([], 0)).1, (pick (countsOf L n w.e s).2 (splitL L w.f (countsOf L n w.e s).1).length).2)
  else (rowC L (FtM.ringC w.e (pick (countsOf L n w.e s).2 n).1), (pick (countsOf L n w.e s).2 n).2)
abbrev sThread : Stmt := topS 92
abbrev nThread : List Str := ["_law_deal_here", "_law_web_here", "_law_most", "_law_pairs"]
theorem scThread : FnScope nThread ["_law_deal_here", "_law_web_here", "_law_most"] (defScope sThread) := ⟨rfl, rfl, rfl, by decide +kernel, rfl, by decide +kernel, by decide +kernel⟩
def PThread (o : Ob) (ds : List Dt) (d : Dt) (o' : Ob) : Prop := ∃ (L n : Nat) (s : Deal) (w : WS), GoodS L n w ∧ o = eDeal s ∧ 0 ≤ s.i ∧ ds = [w.d, .int 2] ∧ d = eL (threadR L n w s).1 ∧ o' = eDeal (threadR L n w s).2
section
variable {M : Mo} {f : Addr} {fd : FuncData}
theorem ok_split (F : L2.Fun M.K "_law_split" "_law_split" sSplit f fd) (B : Bl M) (Gr : Glob M "_law_rounds" 3 ["_law_web_here", "_law_counts_here"] (spP PRounds)) (Gc : Glob M "_law_count_row" 2 ["_law_web_here", "_law_lines_here"] (spP PCntRow)) : FnOk M.P M.w M.K M.mg M.base CX0 4 f fd ["_law_web_here", "_law_counts_here"] (spP PSplit) := by
  have nd := scSplit.nd
  refine FtR.Fun.okP (k := 3) F scSplit (fun ds d ⟨_, _, _, _, _, _, _, h, _⟩ => by rw [h]; rfl) fun cdv A outer s0 H E hr F D ds d hP hq hn => ?_
  obtain ⟨L, n, w, c, G, T, hb, rfl, rfl⟩ := hP
  obtain ⟨z1, z2, z3, z4⟩ := G.size
  obtain ⟨ro, rl⟩ := rdOut_ok (f := w.f) hb L (Nat.le_refl _)
  have hst := sts_le hb
  have hO : ∀ O ∈ roundsL L w.f c, (∀ s ∈ O, FtM.IsLn L s.1) ∧ O.length ≤ 240 := fun O h => by
    obtain ⟨s, hs, rfl⟩ := ro O h
    obtain ⟨P, Pl⟩ := oPer T hs
    refine ⟨fun t ht => (T.orb_in hs ht).1, ?_⟩
    unfold oOrb
    rw [FtM.orb_len]
    omega
  have hrl := rowsL_len (f := w.f) hb
  refine r_set (d := .lst ((rowsL L w.f c).map eL)) 2 (x_ofL (n_sortedT (enc := eL) (f := id) (bs := (roundsL L w.f c).map fun O => rowC L (cntL (O.map Prod.fst))) B.sorted (x_ofL (n_lc0 (l := roundsL L w.f c) (enc := fun O => Dt.lst (O.map eS)) (g := fun O => eC L (cntL (O.map Prod.fst))) [("_law_row", 4)] (fun O => [some w.d, some (eC L c), none, none, some (.lst (O.map eS)), none]) (i_list (x_call Gr (l2 (v 0 rfl) (v 1 rfl)) ⟨L, n, w, c, G, T, hb, rfl, rfl⟩))
    (fun _ => ⟨nd, blkOk_by (N := nSplit) (sc := defScope sSplit) (by decide +kernel)⟩) (fun O hO F => ⟨_, g_name 4, by simp⟩)
    (fun O hO' F => ?_) ?_)) ?_ (.inr fun b => rfl))) ?_
  · have hO2 := hO O hO'
    refine x_call Gc (l2 (v 0 rfl) (x_ofL (n_lc0 (l := O) (enc := eS) (g := fun s => Dt.int s.1) [("_law_step", 5)] (fun s => [some w.d, some (eC L c), none, none, some (.lst (O.map eS)), some (eS s)]) (i_list (v 4 rfl)) (fun _ => ⟨nd, ?_⟩) (fun s hs F => ⟨_, g_name 5, by simp⟩) (fun s hs F => x_ixT (v 5 rfl) x_int rfl) (by omega)))) ⟨L, n, w, O.map Prod.fst, G, fun x hx => ?_, ?_, rfl⟩
    · exact blkOk_by ((blkC_step _).trans (by decide +kernel))
    · obtain ⟨s, hs, rfl⟩ := List.mem_map.mp hx
      exact hO2.1 s hs
    · show [_, _] = [_, _]
      unfold eL
      rw [List.map_map]
      rfl
  · show (rdOut w.f c L).length ≤ _
    omega
  · have e1 : (roundsL L w.f c).map (fun O => eC L (cntL (O.map Prod.fst))) = ((roundsL L w.f c).map fun O => rowC L (cntL (O.map Prod.fst))).map eL := by
      rw [List.map_map]
      rfl
    rw [e1]
    exact .dat _
  refine r_setN 3 (n_lst l_nil) fun q => ?_
  refine r_for (xs := (rowsL L w.f c).map eL) (fun i ds os => ∃ (fd : List (List Int × Int)) (t : Option Dt), ds = [some w.d, some (eC L c), some (.lst ((rowsL L w.f c).map eL)), some (.adr q), t, none] ∧ os = [(q, .lst (fd.map ePr))] ∧ fd = ((rowsL L w.f c).take i).foldl grp []) (i_list (v 2 rfl)) ⟨[], none, rfl, rfl, rfl⟩ ?_ ?_
  · rintro F' lF i d _ _ hd ⟨fd, t, rfl, rfl, hfd⟩
    rw [List.getElem?_map] at hd
    obtain ⟨x, hx, rfl⟩ := Option.map_eq_some_iff.mp hd
    have hil := (List.getElem?_eq_some_iff.mp hx).1
    have hlen := grp_fold_len ((rowsL L w.f c).take i) []
    rw [← hfd, List.length_take, List.length_nil] at hlen
    have hnext : ((rowsL L w.f c).take (i + 1)).foldl grp [] = grp fd x := by rw [fold_snoc hx, ← hfd]
    have hlast : fd ≠ [] → atI (fd.map ePr) (((fd.map ePr).length : Int) - 1) = some (ePr (fd.getLastD ([], 0))) := fun hne => by
      have h0 := List.length_pos_iff.mpr hne
      rw [List.length_map]
      refine atI_get (by omega) ?_
      rw [List.getElem?_map, show ((fd.length : Int) - 1).toNat = fd.length - 1 by omega, ← List.getLast?_eq_getElem?]
      cases hg : fd.getLast? with
      | none => exact absurd (List.getLast?_eq_none_iff.mp hg) hne
      | some p => rw [List.getLastD_eq_getLast?, hg]; rfl
    refine ⟨_, _, g_name 4, ?_⟩
    refine r_if (b_w (w_and (l := decide ((fd.getLastD ([], 0)).1 = x)) (b_ne0 (k := 3) (v 3 rfl) (x_ofL (n_lst l_nil)) (.own 0 rfl) (.map Sh0.pr)) (fun e => w_and1 (b_eqI (is := (fd.getLastD ([], 0)).1) (js := x) (x_ixT (x_ixL (d := ePr (fd.getLastD ([], 0))) (v 3 rfl) (x_sub (x_len B.len (v 3 rfl) (.lst (.own 0 rfl))) x_int) (.own 0 rfl) (hlast fun h => ?_)) x_int rfl) (v 4 rfl))) (fun _ => rfl))) (fun e => ?_) (fun e => ?_)
    · rw [h] at e
      exact absurd e (by decide)
    · have e' : isLst fd x = true := e
      have hne : fd ≠ [] := fun h => by
        rw [h] at e'
        exact Bool.noConfusion (show false = true from e')
      have h0 := List.length_pos_iff.mpr hne
      refine r_setix (d := ePr (x, (fd.getLastD ([], 0)).2 + 1)) (j := fd.length - 1) 0 (x_tup (l2 (v 4 rfl) (x_add (x_ixT (x_ixL (d := ePr (fd.getLastD ([], 0))) (v 3 rfl) (x_sub (x_len B.len (v 3 rfl) (.lst (.own 0 rfl))) x_int) (.own 0 rfl) (hlast hne)) x_int rfl) x_int))) (v 3 rfl) (x_sub (x_len B.len (v 3 rfl) (.lst (.own 0 rfl))) x_int) rfl ?_ ?_
      · rw [List.length_map]
        unfold ixN
        rw [if_pos (by omega), if_pos (by omega)]
        congr 1
        omega
      · refine r_end (r_loop _ ⟨fd.set (fd.length - 1) (x, (fd.getLastD ([], 0)).2 + 1), _, rfl, ?_, ?_⟩ (Sub.refl _))
        · rw [List.map_set]
          rfl
        · rw [hnext]
          unfold grp
          rw [if_pos e']
    · have e' : ¬ isLst fd x = true := by
        rw [show isLst fd x = false from e]
        exact Bool.false_ne_true
      refine r_expr (x_append (y := ePr (x, 1)) 0 (v 3 rfl) (x_tup (l2 (v 4 rfl) x_int)) ⟨_, rfl⟩ rfl (by rw [List.length_map]; omega)) ?_
      refine r_end (r_loop _ ⟨fd ++ [(x, 1)], _, rfl, ?_, ?_⟩ (Sub.refl _))
      · rw [List.map_append]
        rfl
      · rw [hnext]
        unfold grp
        rw [if_neg e']
  · rintro _ _ ⟨fd, t, rfl, rfl, hfd⟩
    rw [List.length_map, List.take_length] at hfd
    have hfd' : splitL L w.f c = fd := hfd.symm
    rw [hfd'] at hq
    exact r_ret (x_froz 0 (v 3 rfl) rfl) (hq _)
theorem ok_thread (F : L2.Fun M.K "_law_thread" "_law_thread" sThread f fd) (B : Bl M) (Gp : Glob M "_law_pick" 1 ["_law_deal_here", "_law_many_here"] (spM M.w PPick)) (Go : Glob M "_law_of" 2 ["_law_deal_here", "_law_items"] (spM M.w POf)) (Gm : Glob M "_law_many" 1 ["_law_web_here"] (spP PMany)) (Gr : Glob M "_law_ring" 2 ["_law_web_here", "_law_nail"] (spP PRing))
    (Gs : Glob M "_law_split" 4 ["_law_web_here", "_law_counts_here"] (spP PSplit)) (Gc : Glob M "_law_counts" 3 ["_law_deal_here", "_law_web_here", "_law_most"] (spM M.w PCounts)) : FnOk M.P M.w M.K M.mg M.base CX0 5 f fd ["_law_deal_here", "_law_web_here", "_law_most"] (spM M.w PThread) := by
  have nd := scThread.nd
  refine FtR.Fun.okM (k := 4) F scThread (fun o ds d o' ⟨_, _, _, _, _, _, _, h, _⟩ => by rw [h]; rfl) fun cdv A outer s0 H E hr F D q o ds d o' hP hq => ?_
  obtain ⟨L, n, s, w, G, rfl, hi, rfl, rfl, rfl⟩ := hP
  obtain ⟨z1, z2, z3, z4⟩ := G.size
  have hn := G.web.hn
  obtain ⟨T, ci, hb⟩ := countsOf_ok G.web hi
  have hlen := grp_fold_len (rowsL L w.f (countsOf L n w.e s).1) []
  have hlen2 := rowsL_len (L := L) (f := w.f) (c := (countsOf L n w.e s).1) fun x _ => hb x
  rw [List.length_nil] at hlen
  refine r_set (d := .lst ((splitL L w.f (countsOf L n w.e s).1).map ePr)) (os1 := [(q, eDeal (countsOf L n w.e s).2)]) 3 (x_call Gs (l2 (v 1 rfl) (x_callM Gc 0 (l3 (v 0 rfl) (v 1 rfl) (v 2 rfl)) rfl ⟨L, n, s, w, G, rfl, hi, rfl, rfl, rfl⟩)) ⟨L, n, w, (countsOf L n w.e s).1, G, T, fun x _ => hb x, rfl, rfl⟩) ?_
  have hthr : threadR L n w s = if (!((splitL L w.f (countsOf L n w.e s).1).map ePr).isEmpty) = true then (((splitL L w.f (countsOf L n w.e s).1).getD (pick (countsOf L n w.e s).2 (splitL L w.f (countsOf L n w.e s).1).length).1.toNat ([], 0)).1, (pick (countsOf L n w.e s).2 (splitL L w.f (countsOf L n w.e s).1).length).2)
    else (rowC L (FtM.ringC w.e (pick (countsOf L n w.e s).2 n).1), (pick (countsOf L n w.e s).2 n).2) := rfl
  have hlen3 : (splitL L w.f (countsOf L n w.e s).1).length ≤ 200 := by
    unfold splitL
    omega
  generalize hsp : splitL L w.f (countsOf L n w.e s).1 = sp at *
  generalize hcc : countsOf L n w.e s = cc at *
  by_cases hne : sp = []
  · subst hne
    rw [hthr, if_neg (by decide)] at hq
    refine r_ret (os1 := [(q, eDeal (pick cc.2 n).2)]) (x_if (b_ne0 (k := 3) (v 3 rfl) (x_ofL (n_lst l_nil)) (.dat _) (.map Sh0.pr)) (fun e => absurd e (by decide)) (fun e => x_call Gr (l2 (v 1 rfl) (x_callM (d := .int (pick cc.2 n).1) Gp 0 (l2 (v 0 rfl) (x_call Gm (l1 (v 1 rfl)) ⟨L, n, w, G, rfl, rfl⟩)) rfl ⟨cc.2, n, rfl, rfl, by omega, by omega, ci, rfl, rfl⟩)) ⟨L, n, w, _, G, rfl, rfl⟩)) (hq _ 0 rfl)
  · have h0 := List.length_pos_iff.mpr hne
    have htr : (!(sp.map ePr).isEmpty) = true := by
      cases sp with
      | nil => exact absurd rfl hne
      | cons _ _ => rfl
    rw [hthr, if_pos htr] at hq
    have hp := pick_lt cc.2 (m := (sp.length : Int)) (by omega)
    have hget : (sp.map ePr)[(pick cc.2 (sp.map ePr).length).1.toNat]? = some (ePr (sp.getD (pick cc.2 sp.length).1.toNat ([], 0))) := by
      rw [List.length_map, List.getElem?_map, List.getElem?_eq_getElem (by omega), List.getD_eq_getElem?_getD, List.getElem?_eq_getElem (by omega)]
      rfl
    refine r_ret (os1 := [(q, eDeal (pick cc.2 sp.length).2)]) (x_if (b_ne0 (k := 3) (v 3 rfl) (x_ofL (n_lst l_nil)) (.dat _) (.map Sh0.pr)) (fun e => x_ixT (x_callM (d := ePr (sp.getD (pick cc.2 sp.length).1.toNat ([], 0))) Go 0 (l2 (v 0 rfl) (v 3 rfl)) rfl ⟨cc.2, sp.map ePr, rfl, rfl, by rw [List.length_map]; omega, by rw [List.length_map]; omega, ci, hget, by rw [List.length_map]⟩) x_int rfl) (fun e => by rw [htr] at e; exact absurd e (by decide))) (hq _ 0 rfl)
end
end FtR
/-! the program's values -/
namespace FtR
open PySem PySem.Spec PyProof.Rows L2
open FtM (getA putA Tri it orb stp rv ofOrb Per perOf)
abbrev sIsNum : Stmt := topS 16
theorem scIsNum : FnScope ["value"] ["value"] (defScope sIsNum) := ⟨rfl, rfl, rfl, by decide +kernel, rfl, by decide +kernel, by decide +kernel⟩
def PIsNum (ds : List Dt) (d : Dt) : Prop := ∃ i : Int, ds = [.int i] ∧ d = .bl true
abbrev sWithin : Stmt := topS 17
theorem scWithin : FnScope ["value", "low", "high"] ["value", "low", "high"] (defScope sWithin) := ⟨rfl, rfl, rfl, by decide +kernel, rfl, by decide +kernel, by decide +kernel⟩
def PWithin (ds : List Dt) (d : Dt) : Prop := ∃ i j k : Int, ds = [.int i, .int j, .int k] ∧ d = .bl (decide (j ≤ i) && decide (i ≤ k))
abbrev sIsList : Stmt := topS 18
theorem scIsList : FnScope ["value"] ["value"] (defScope sIsList) := ⟨rfl, rfl, rfl, by decide +kernel, rfl, by decide +kernel, by decide +kernel⟩
def PIsList (ds : List Dt) (d : Dt) : Prop := ∃ xs : List Dt, (ds = [.lst xs] ∨ ds = [.tup xs]) ∧ d = .bl true
abbrev sIsLine : Stmt := topS 19
theorem scIsLine : FnScope ["value", "most"] ["value", "most"] (defScope sIsLine) := ⟨rfl, rfl, rfl, by decide +kernel, rfl, by decide +kernel, by decide +kernel⟩
def PIsLine (ds : List Dt) (d : Dt) : Prop := ∃ (L : Nat) (i : Int), FtM.IsLn L i ∧ ds = [.int i, .int L] ∧ d = .bl true
abbrev sLeast : Stmt := topS 20
theorem scLeast : FnScope ["items", "row", "at"] ["items"] (defScope sLeast) := ⟨rfl, rfl, rfl, by decide +kernel, rfl, by decide +kernel, by decide +kernel⟩
def PLeast (ds : List Dt) (d : Dt) : Prop := ∃ xs : List Int, (ds = [eL xs] ∨ ds = [eT xs]) ∧ xs.length ≤ 100000 ∧ d = eT (FtM.lt1 xs)
abbrev sBkw : Stmt := topS 21
theorem scBkw : FnScope ["items", "item"] ["items"] (defScope sBkw) := ⟨rfl, rfl, rfl, by decide +kernel, rfl, by decide +kernel, by decide +kernel⟩
def PBkw (ds : List Dt) (d : Dt) : Prop := ∃ xs : List Int, (ds = [eL xs] ∨ ds = [eT xs]) ∧ xs.length ≤ 100000 ∧ d = eT (FtM.bkw xs)
abbrev sSame : Stmt := topS 22
theorem scSame : FnScope ["one", "other"] ["one", "other"] (defScope sSame) := ⟨rfl, rfl, rfl, by decide +kernel, rfl, by decide +kernel, by decide +kernel⟩
def PSame (ds : List Dt) (d : Dt) : Prop := ∃ xs ys : List Int, ds = [eT xs, eT ys] ∧ xs.length ≤ 100000 ∧ ys.length ≤ 100000 ∧ d = .bl (decide (FtM.lt1 ys = FtM.lt1 xs) || decide (FtM.lt1 (FtM.bkw ys) = FtM.lt1 xs))
section
variable {M : Mo} {f : Addr} {fd : FuncData}
theorem ok_isNum (F : L2.Fun M.K "is_number" "is_number" sIsNum f fd) (B : Bl M) : FnOk M.P M.w M.K M.mg M.base CX0 1 f fd ["value"] (spP PIsNum) := by
  have nd := scIsNum.nd
  refine FtR.Fun.okP (k := 0) F scIsNum (fun ds d ⟨_, h, _⟩ => by rw [h]; rfl) fun cdv A outer s0 H E hr F D ds d hP hq hn => ?_
  obtain ⟨i, rfl, rfl⟩ := hP
  exact r_ret (x_and (x_isi B.isinstance (v 0 rfl) (x_ty B.int rfl (fun _ => rfl)) (.int _) rfl) (fun _ => x_one (x_not (x_isi B.isinstance (v 0 rfl) (x_ty B.bool rfl (fun _ => rfl)) (.int _) rfl))) (fun _ => rfl)) (hq _)
theorem ok_within (F : L2.Fun M.K "is_within" "is_within" sWithin f fd) (Gn : Glob M "is_number" 1 ["value"] (spP PIsNum)) : FnOk M.P M.w M.K M.mg M.base CX0 2 f fd ["value", "low", "high"] (spP PWithin) := by
  have nd := scWithin.nd
  refine FtR.Fun.okP (k := 1) F scWithin (fun ds d ⟨_, _, _, h, _⟩ => by rw [h]; rfl) fun cdv A outer s0 H E hr F D ds d hP hq hn => ?_
  obtain ⟨i, j, k, rfl, rfl⟩ := hP
  exact r_ret (x_and (k := true) (x_call Gn (l1 (v 0 rfl)) ⟨i, rfl, rfl⟩) (fun _ => x_one (x_lele (v 1 rfl) (v 0 rfl) (v 2 rfl) rfl)) (fun h => nomatch h)) (hq _)
theorem ok_isList (F : L2.Fun M.K "is_list" "is_list" sIsList f fd) (B : Bl M) : FnOk M.P M.w M.K M.mg M.base CX0 1 f fd ["value"] (spP PIsList) := by
  have nd := scIsList.nd
  refine FtR.Fun.okP (k := 0) F scIsList (fun ds d ⟨_, h, _⟩ => by rcases h with h | h <;> rw [h] <;> rfl) fun cdv A outer s0 H E hr F D ds d hP hq hn => ?_
  obtain ⟨xs, rfl | rfl, rfl⟩ := hP
  · exact r_ret (x_isi2 (k := true) (k' := false) B.isinstance (v 0 rfl) (x_tup (l2 (x_ty B.list rfl (fun _ => rfl)) (x_ty B.tuple rfl (fun _ => rfl)))) (.lst _) rfl rfl) (hq _)
  · exact r_ret (x_isi2 (k := false) (k' := true) B.isinstance (v 0 rfl) (x_tup (l2 (x_ty B.list rfl (fun _ => rfl)) (x_ty B.tuple rfl (fun _ => rfl)))) (.tup _) rfl rfl) (hq _)
theorem ok_isLine (F : L2.Fun M.K "is_line" "is_line" sIsLine f fd) (Gw : Glob M "is_within" 2 ["value", "low", "high"] (spP PWithin)) : FnOk M.P M.w M.K M.mg M.base CX0 3 f fd ["value", "most"] (spP PIsLine) := by
  have nd := scIsLine.nd
  refine FtR.Fun.okP (k := 2) F scIsLine (fun ds d ⟨_, _, _, h, _⟩ => by rw [h]; rfl) fun cdv A outer s0 H E hr F D ds d hP hq hn => ?_
  obtain ⟨L, i, hi, rfl, rfl⟩ := hP
  have ne := hi.ne
  have h1 : -(L : Int) ≤ i ∧ i ≤ L := by unfold FtM.IsLn at hi; omega
  refine r_ret ((x_and (x_call Gw (l3 (v 0 rfl) (x_neg (v 1 rfl)) (v 1 rfl)) ⟨i, -(L : Int), L, rfl, rfl⟩) (fun _ => x_one (x_ne (v 0 rfl) x_int)) (fun _ => rfl)).to ?_) (hq _)
  rw [decide_eq_true h1.1, decide_eq_true h1.2, decide_eq_false ne]
  rfl
theorem ok_bkw (F : L2.Fun M.K "backwards" "backwards" sBkw f fd) (B : Bl M) : FnOk M.P M.w M.K M.mg M.base CX0 1 f fd ["items"] (spP PBkw) := by
  have nd := scBkw.nd
  refine FtR.Fun.okP (k := 0) F scBkw (fun ds d ⟨_, h, _⟩ => by rcases h with h | h <;> rw [h] <;> rfl) fun cdv A outer s0 H E hr F D ds d hP hq hn => ?_
  obtain ⟨xs, h, hz, rfl⟩ := hP
  have e1 : (xs.map fun i => Dt.int (-i)) = (xs.map fun i => -i).map Dt.int := by
    rw [List.map_map]
    rfl
  have e2 : Dt.tup (xs.map fun i => Dt.int (-i)).reverse = eT (FtM.bkw xs) := by
    unfold eT FtM.bkw
    rw [e1, List.map_reverse]
  rcases h with rfl | rfl
  · exact r_ret ((x_revT (x_tupleL B.tuple (x_ofL (n_lc0 (l := xs) (enc := Dt.int) (g := fun i => Dt.int (-i)) [("item", 1)] (fun i => [some (eL xs), some (.int i)]) (i_list (v 0 rfl)) (fun _ => ⟨nd, blkOk_by (N := ["items", "item"]) (sc := defScope sBkw) (by decide +kernel)⟩) (fun i hi F => ⟨_, g_name 1, by simp⟩) (fun i hi F => x_neg (v 1 rfl)) (by omega))) (.lst (.dat _)))).to e2) (hq _)
  · exact r_ret ((x_revT (x_tupleL B.tuple (x_ofL (n_lc0 (l := xs) (enc := Dt.int) (g := fun i => Dt.int (-i)) [("item", 1)] (fun i => [some (eT xs), some (.int i)]) (i_tup (v 0 rfl)) (fun _ => ⟨nd, blkOk_by (N := ["items", "item"]) (sc := defScope sBkw) (by decide +kernel)⟩) (fun i hi F => ⟨_, g_name 1, by simp⟩) (fun i hi F => x_neg (v 1 rfl)) (by omega))) (.lst (.dat _)))).to e2) (hq _)
theorem ok_same (F : L2.Fun M.K "same_round" "same_round" sSame f fd) (Gl : Glob M "least_turn" 1 ["items"] (spP PLeast)) (Gb : Glob M "backwards" 1 ["items"] (spP PBkw)) : FnOk M.P M.w M.K M.mg M.base CX0 2 f fd ["one", "other"] (spP PSame) := by
  have nd := scSame.nd
  refine FtR.Fun.okP (k := 1) F scSame (fun ds d ⟨_, _, h, _⟩ => by rw [h]; rfl) fun cdv A outer s0 H E hr F D ds d hP hq hn => ?_
  obtain ⟨xs, ys, rfl, hx, hy, rfl⟩ := hP
  have S0 := Sh0.eT (FtM.lt1 xs)
  have S1 : Sh0 2 (.tup [eT (FtM.lt1 ys), eT (FtM.lt1 (FtM.bkw ys))]) := .tup fun x hx => by
    simp only [List.mem_cons, List.not_mem_nil, or_false] at hx
    rcases hx with rfl | rfl <;> exact Sh0.eT _
  have hd := S1.dat
  simp only [Dt.dat] at hd
  refine r_ret ((x_inDT (x_call Gl (l1 (v 0 rfl)) ⟨xs, .inr rfl, hx, rfl⟩) (x_tup (l2 (x_call Gl (l1 (v 1 rfl)) ⟨ys, .inr rfl, hy, rfl⟩) (x_call Gl (l1 (x_call Gb (l1 (v 1 rfl)) ⟨ys, .inr rfl, hy, rfl⟩)) ⟨FtM.bkw ys, .inr rfl, by rw [FtM.bkw_len]; exact hy, rfl⟩))) rfl S0.dat hd (S0.shaped (by decide)) (S1.shaped (by decide))).to ?_) (hq _)
  simp only [toPs, List.any_cons, List.any_nil, Bool.or_false, eqv_eT]
theorem ok_least (F : L2.Fun M.K "least_turn" "least_turn" sLeast f fd) (B : Bl M) : FnOk M.P M.w M.K M.mg M.base CX0 1 f fd ["items"] (spP PLeast) := by
  have nd := scLeast.nd
  refine FtR.Fun.okP (k := 0) F scLeast (fun ds d ⟨_, h, _⟩ => by rcases h with h | h <;> rw [h] <;> rfl) fun cdv A outer s0 H E hr F D ds d hP hq hn => ?_
  obtain ⟨xs, h, hz, rfl⟩ := hP
  have hcut : ∀ i ∈ List.range ((xs.map Dt.int).length : Int).toNat, Dt.tup (cutD (xs.map Dt.int) (some ((i : Nat) : Int)) none ++ cutD (xs.map Dt.int) none (some ((i : Nat) : Int))) = eT (FtM.rot xs i) := fun i hi => by
    have hl := List.mem_range.mp hi
    rw [List.length_map] at hl
    unfold cutD eT FtM.rot
    rw [HT.sIx_nat, HT.sIx_nat, HT.sIx_none, HT.sIx_none, List.length_map, show min i xs.length = i by omega, List.drop_zero, Nat.sub_zero, List.map_append, List.map_drop, List.map_take]
    congr 2
    exact List.take_of_length_le (by rw [List.length_drop, List.length_map]; omega)
  have key : ∀ d0, (d0 = eL xs ∨ d0 = eT xs) → Run (cx0 M 0 ["items", "row", "at"] "least_turn" (defScope sLeast) f cdv A outer s0 H E hr) F ((defBody sLeast).drop 1) D [some d0, some (eT xs), none] [] := fun d0 h0 => by
    refine r_ret ((x_minRows (rows := FtM.rots xs) B.min (x_ofL (n_lc0 (l := List.range ((xs.map Dt.int).length : Int).toNat) (enc := fun i => Dt.int ((i : Nat) : Int)) (g := fun i => eT (FtM.rot xs i)) [("at", 2)] (fun i => [some d0, some (eT xs), some (.int ((i : Nat) : Int))]) (i_rng1 B.range (x_len B.len (v 1 rfl) (.tup _)) ⟨by omega, by rw [List.length_map]; omega⟩) (fun _ => ⟨nd, blkOk_by (N := ["items", "row", "at"]) (sc := defScope sLeast) (by decide +kernel)⟩) (fun i hi F => ⟨_, g_name 2, by simp⟩)
      (fun i hi F => (x_catT (x_slT (v 1 rfl) (p_some (v 2 rfl)) p_none) (x_slT (v 1 rfl) p_none (p_some (v 2 rfl))) ?_).to (hcut i hi)) ?_)) ?_ (x_tup l_nil)).to ?_) (hq _)
    · unfold cutD
      simp only [List.length_take, List.length_drop, List.length_map]
      omega
    · rw [List.length_range, Int.toNat_natCast, List.length_map]
      omega
    · have e : (List.range ((xs.map Dt.int).length : Int).toNat).map (fun i => eT (FtM.rot xs i)) = (FtM.rots xs).map eT := by
        unfold FtM.rots
        rw [List.map_map, Int.toNat_natCast, List.length_map]
        rfl
      rw [e]
      exact .dat _
    · rfl
  rcases h with rfl | rfl
  · exact r_set 1 (x_tupleL B.tuple (v 0 rfl) (.lst (.dat _))) (key _ (.inl rfl))
  · exact r_set 1 (x_tupleL B.tuple (v 0 rfl) (.tup _)) (key _ (.inr rfl))
end
end FtR
/-! the program's sheets: begun_at, in_order, around; do_fit -/
namespace FtR
open PySem PySem.Spec PyProof.Rows L2
open FtM (getA putA Tri it orb stp rv ofOrb Per perOf)
abbrev sFits : Stmt := topS 31
theorem scFits : FnScope ["one", "two", "three"] ["one", "two", "three"] (defScope sFits) := ⟨rfl, rfl, rfl, by decide +kernel, rfl, by decide +kernel, by decide +kernel⟩
def fitB (a b c : Int) : Bool := decide ((a + b + c) % 2 = 0) && decide (2 * max (max a b) c ≤ a + b + c)
def PFits (ds : List Dt) (d : Dt) : Prop := ∃ a b c : Int, ds = [.int a, .int b, .int c] ∧ (-1000000 ≤ max (max a b) c ∧ max (max a b) c ≤ 1000000) ∧ d = .bl (fitB a b c)
abbrev sBegun : Stmt := topS 49
theorem scBegun : FnScope ["triangle", "at"] ["triangle", "at"] (defScope sBegun) := ⟨rfl, rfl, rfl, by decide +kernel, rfl, by decide +kernel, by decide +kernel⟩
def rotT (t : Tri) (i : Nat) : Tri := if i = 0 then t else if i = 1 then (t.2.1, t.2.2, t.1) else (t.2.2, t.1, t.2.1)
def PBegun (ds : List Dt) (d : Dt) : Prop := ∃ (t : Tri) (i : Nat), i < 3 ∧ ds = [e3 t, .int i] ∧ d = e3 (rotT t i)
abbrev sInOrd : Stmt := topS 50
abbrev nInOrd : List Str := ["triangles", "found", "triangle", "sizes", "line"]
theorem scInOrd : FnScope nInOrd ["triangles"] (defScope sInOrd) := ⟨rfl, rfl, rfl, by decide +kernel, rfl, by decide +kernel, by decide +kernel⟩
def PInOrd (ds : List Dt) (d : Dt) : Prop := ∃ ts : List Tri, ts.length ≤ 1000 ∧ ds = [.lst (ts.map e3)] ∧ d = .lst ((FtM.inOrder ts).map e3)
abbrev sAround2 : Stmt := topS 52
abbrev nAround2 : List Str := ["parts", "line", "found", "here"]
theorem scAround2 : FnScope nAround2 ["parts", "line"] (defScope sAround2) := ⟨rfl, rfl, rfl, by decide +kernel, rfl, by decide +kernel, by decide +kernel⟩
theorem canon_rot (t : Tri) : FtM.canon t = rotT t (FtM.mi t) := by
  unfold FtM.canon FtM.mi rotT
  split
  · rfl
  · split <;> rfl
section
variable {M : Mo} {f : Addr} {fd : FuncData}
theorem ok_fits (F : L2.Fun M.K "do_fit" "do_fit" sFits f fd) (B : Bl M) : FnOk M.P M.w M.K M.mg M.base CX0 1 f fd ["one", "two", "three"] (spP PFits) := by
  have nd := scFits.nd
  refine FtR.Fun.okP (k := 0) F scFits (fun ds d ⟨_, _, _, h, _⟩ => by rw [h]; rfl) fun cdv A outer s0 H E hr F D ds d hP hq hn => ?_
  obtain ⟨a, b, c, rfl, hz, rfl⟩ := hP
  exact r_ret (x_and (x_eq (x_mod (x_add (x_add (v 0 rfl) (v 1 rfl)) (v 2 rfl)) x_int (by decide)) x_int) (fun _ => x_one (x_le (x_mul x_int (x_max3 B.max (v 0 rfl) (v 1 rfl) (v 2 rfl)) (.inl ⟨by decide, by decide⟩)) (x_add (x_add (v 0 rfl) (v 1 rfl)) (v 2 rfl)))) (fun _ => rfl)) (hq _)
theorem ok_begun (F : L2.Fun M.K "begun_at" "begun_at" sBegun f fd) : FnOk M.P M.w M.K M.mg M.base CX0 1 f fd ["triangle", "at"] (spP PBegun) := by
  have nd := scBegun.nd
  refine FtR.Fun.okP (k := 0) F scBegun (fun ds d ⟨_, _, _, h, _⟩ => by rw [h]; rfl) fun cdv A outer s0 H E hr F D ds d hP hq hn => ?_
  obtain ⟨t, i, hi, rfl, rfl⟩ := hP
  refine r_ret ((x_catT (xs := cutD [.int t.1, .int t.2.1, .int t.2.2] (some (i : Int)) none) (ys := cutD [.int t.1, .int t.2.1, .int t.2.2] none (some (i : Int))) (x_slT (v 0 rfl) (p_some (v 1 rfl)) p_none) (x_slT (v 0 rfl) p_none (p_some (v 1 rfl))) ?_).to ?_) (hq _)
  · unfold cutD
    simp only [List.length_take, List.length_drop, List.length_cons, List.length_nil]
    omega
  · rcases (show i = 0 ∨ i = 1 ∨ i = 2 by omega) with rfl | rfl | rfl <;> rfl
theorem ok_inOrd (F : L2.Fun M.K "in_order" "in_order" sInOrd f fd) (B : Bl M) (Gb : Glob M "begun_at" 1 ["triangle", "at"] (spP PBegun)) : FnOk M.P M.w M.K M.mg M.base CX0 2 f fd ["triangles"] (spP PInOrd) := by
  have nd := scInOrd.nd
  refine FtR.Fun.okP (k := 1) F scInOrd (fun ds d ⟨_, _, h, _⟩ => by rw [h]; rfl) fun cdv A outer s0 H E hr F D ds d hP hq hn => ?_
  obtain ⟨ts, hz, rfl, rfl⟩ := hP
  refine r_setN 1 (n_lst l_nil) fun q => ?_
  refine r_for (xs := ts.map e3) (fun i ds os => ∃ a b : Option Dt, ds = [some (.lst (ts.map e3)), some (.adr q), a, b, none] ∧ os = [(q, .lst (((ts.take i).map FtM.canon).map e3))]) (i_list (v 0 rfl)) ⟨none, none, rfl, rfl⟩ ?_ ?_
  · rintro F' lF i d _ _ hd ⟨a, b, rfl, rfl⟩
    rw [List.getElem?_map] at hd
    obtain ⟨t, ht, rfl⟩ := Option.map_eq_some_iff.mp hd
    have hil := (List.getElem?_eq_some_iff.mp ht).1
    refine ⟨_, _, g_name 2, ?_⟩
    refine r_setLc0 (l := [t.1, t.2.1, t.2.2]) (enc := Dt.int) (g := fun y => Dt.int (y.natAbs : Int)) [("line", 4)] (fun y => [some (.lst (ts.map e3)), some (.adr q), some (e3 t), b, some (.int y)]) 3 (i_tup (v 2 rfl)) (fun _ => ⟨nd, blkOk_by (N := nInOrd) (sc := defScope sInOrd) (by decide +kernel)⟩) (fun y hy F => ⟨_, g_name 4, by simp⟩) (fun y hy F => x_abs B.abs (v 4 rfl)) (by show 3 ≤ 900000; decide) fun q2 => ?_
    obtain ⟨m, hm0, hml, hmi, hmj⟩ : ∃ m : Int, m ∈ [(t.1.natAbs : Int), (t.2.1.natAbs : Int), (t.2.2.natAbs : Int)] ∧ (∀ j ∈ [(t.1.natAbs : Int), (t.2.1.natAbs : Int), (t.2.2.natAbs : Int)], m ≤ j) ∧ [(t.1.natAbs : Int), (t.2.1.natAbs : Int), (t.2.2.natAbs : Int)][FtM.mi t]? = some m ∧ ∀ j, j < FtM.mi t → [(t.1.natAbs : Int), (t.2.1.natAbs : Int), (t.2.2.natAbs : Int)][j]? ≠ some m := by
      unfold FtM.mi
      simp only [List.mem_cons, List.not_mem_nil, or_false, forall_eq_or_imp, forall_eq]
      split
      · exact ⟨_, .inl rfl, ⟨by omega, by omega, by omega⟩, rfl, fun j hj => absurd hj (by omega)⟩
      · split
        · refine ⟨_, .inr (.inl rfl), ⟨by omega, by omega, by omega⟩, rfl, fun j hj => ?_⟩
          rw [show j = 0 by omega]
          show some _ ≠ some _
          intro e
          have := Option.some.inj e
          omega
        · refine ⟨_, .inr (.inr rfl), ⟨by omega, by omega, by omega⟩, rfl, fun j hj => ?_⟩
          rcases (show j = 0 ∨ j = 1 by omega) with rfl | rfl
          · show some _ ≠ some _
            intro e
            have := Option.some.inj e
            omega
          · show some _ ≠ some _
            intro e
            have := Option.some.inj e
            omega
    have hm3 : FtM.mi t < 3 := by
      unfold FtM.mi
      split
      · decide
      · split <;> decide
    refine r_expr (x_append (y := e3 (FtM.canon t)) 1 (v 1 rfl) (x_call Gb (l2 (v 2 rfl) (x_index (is := [(t.1.natAbs : Int), (t.2.1.natAbs : Int), (t.2.2.natAbs : Int)]) (v 3 rfl) (x_minI (is := [(t.1.natAbs : Int), (t.2.1.natAbs : Int), (t.2.2.natAbs : Int)]) B.min (v 3 rfl) (.own 0 rfl) hm0 hml) (.own 0 rfl) (.own 0 rfl) hmi hmj)) ⟨t, FtM.mi t, hm3, rfl, by rw [canon_rot]⟩) ⟨_, rfl⟩ rfl (by rw [List.length_map, List.length_map, List.length_take]; omega)) ?_
    refine r_drop 0 ?_
    refine r_loop _ ⟨_, _, rfl, ?_⟩ (Sub.refl _)
    rw [List.take_add_one, ht, List.map_append, List.map_append]
    rfl
  · rintro _ _ ⟨a, b, rfl, rfl⟩
    rw [List.length_map, List.take_length]
    refine r_ret (x_ofL (n_sortedT (enc := e3) (f := FtM.tl) (bs := ts.map FtM.canon) B.sorted (v 1 rfl) (.own 0 rfl) (.inl fun b => ⟨rfl, by unfold FtM.tl; exact List.cons_ne_nil _ _⟩))) (hq _)
end
end FtR
/-! the program's sheets: parts_of, around -/
namespace FtR
open PySem PySem.Spec PyProof.Rows L2
open FtM (getA putA Tri it orb stp rv ofOrb Per perOf)
abbrev sPartsOf : Stmt := topS 51
abbrev nPartsOf : List Str := ["triangles", "triangle", "at", "line"]
theorem scPartsOf : FnScope nPartsOf ["triangles"] (defScope sPartsOf) := ⟨rfl, rfl, rfl, by decide +kernel, rfl, by decide +kernel, by decide +kernel⟩
def PPartsOf (ds : List Dt) (d : Dt) : Prop := ∃ ts : List Tri, ts.length ≤ 100 ∧ ds = [.lst (ts.map e3)] ∧ d = dicOf (eD (FtM.parts ts))
def kT3 (t : Tri) : List (Nat × Int) := [(0, t.1), (1, t.2.1), (2, t.2.2)]
theorem put2_eq (ts : List Tri) : putF2 ts kT3 (fun _ b => b.2) (fun t b => e3 (rotT t b.1)) [] = eD (FtM.parts ts) := by
  have key : ∀ (ts : List Tri) (m : List (Int × Tri)), ts.foldl (fun d a => (kT3 a).foldl (fun d b => putA d b.2 (e3 (rotT a b.1))) d) (eD m) = eD ((ts.flatMap FtM.prs).foldl (fun m kv => putA m kv.1 kv.2) m) := fun ts => by
    induction ts with
    | nil => intro m; rfl
    | cons t ts ih =>
      intro m
      rw [List.foldl_cons, List.flatMap_cons, List.foldl_append, ← ih]
      congr 1
      show putA (putA (putA (eD m) t.1 (e3 t)) t.2.1 (e3 (t.2.1, t.2.2, t.1))) t.2.2 (e3 (t.2.2, t.1, t.2.1)) = _
      rw [putD, putD, putD]
      rfl
  exact key ts []
theorem put2_len (ts : List Tri) : (putF2 ts kT3 (fun _ b => b.2) (fun t b => e3 (rotT t b.1)) []).length ≤ 3 * ts.length := by
  rw [put2_eq]
  unfold eD FtM.parts FtM.putAll
  rw [List.length_map, ← FtM.prs_len ts]
  have key : ∀ (xs m : List (Int × Tri)), (xs.foldl (fun m kv => putA m kv.1 kv.2) m).length ≤ m.length + xs.length := fun xs => by
    induction xs with
    | nil => intro m; exact Nat.le_refl _
    | cons kv xs ih =>
      intro m
      have h2 := ih (putA m kv.1 kv.2)
      have h3 := FtM.putA_len m kv.1 kv.2
      rw [List.foldl_cons, List.length_cons]
      split at h3 <;> omega
  have := key (ts.flatMap FtM.prs) []
  rwa [List.length_nil, Nat.zero_add] at this
section
variable {M : Mo} {f : Addr} {fd : FuncData}
theorem ok_partsOf (F : L2.Fun M.K "parts_of" "parts_of" sPartsOf f fd) (B : Bl M) (Gb : Glob M "begun_at" 1 ["triangle", "at"] (spP PBegun)) : FnOk M.P M.w M.K M.mg M.base CX0 2 f fd ["triangles"] (spP PPartsOf) := by
  have nd := scPartsOf.nd
  refine FtR.Fun.okP (k := 1) F scPartsOf (fun ds d ⟨_, _, h, _⟩ => by rw [h]; rfl) fun cdv A outer s0 H E hr F D ds d hP hq hn => ?_
  obtain ⟨ts, hz, rfl, rfl⟩ := hP
  have hb3 : ∀ (t : Tri), ∀ b ∈ kT3 t, b.1 < 3 := fun t b hb => by
    unfold kT3 at hb
    simp only [List.mem_cons, List.not_mem_nil, or_false] at hb
    rcases hb with rfl | rfl | rfl <;> simp
  refine r_ret ((x_ofD (n_dc2 (l := ts) (enc := e3) (m := kT3) (encb := fun b => .tup [.int (b.1 : Int), .int b.2]) (key := fun _ b => b.2) (val := fun t b => e3 (rotT t b.1)) [("triangle", 1), ("at", 2), ("line", 3)] [2, 3] (fun t => [some (.lst (ts.map e3)), some (e3 t), none, none]) (fun t b => [some (.lst (ts.map e3)), some (e3 t), some (.int (b.1 : Int)), some (.int b.2)]) (i_list (v 0 rfl))
    (fun _ => ⟨nd, blkOk_by (N := nPartsOf) (sc := defScope sPartsOf) (by decide +kernel)⟩) (by decide) (fun t ht F => ⟨_, g_name 1, by simp⟩) (fun t ht F q => ?_) (fun t ht b hb F => ⟨_, g_tup (gs_cons (g_name 2) (gs_cons (g_name 3) gs_nil)) rfl, by simp⟩)
    (fun t ht b hb F => v 3 rfl) (fun t ht b hb F => x_call Gb (l2 (v 1 rfl) (v 2 rfl)) ⟨t, b.1, hb3 t b hb, rfl, rfl⟩) (fun i hi => ?_) (fun t ht => by show 3 ≤ 1000; decide))).to ?_) (hq _)
  · show PIt _ _ _ _ _ _ (enumD [.int t.1, .int t.2.1, .int t.2.2]) _
    exact i_enumT B.enumerate (v 1 rfl)
  · have := put2_len (ts.take i)
    rw [List.length_take] at this
    exact Nat.le_trans this (by omega)
  · rw [put2_eq]
theorem ok_around2 (F : L2.Fun M.K "around" "around" sAround2 f fd) : FnOk M.P M.w M.K M.mg M.base CX0 1 f fd ["parts", "line"] (spP PAround) := by
  have nd := scAround2.nd
  refine FtR.Fun.okP (k := 0) F scAround2 (fun ds d ⟨_, _, _, _, h, _⟩ => by rw [h]; rfl) fun cdv A outer s0 H E hr F D ds d hP hq hn => ?_
  obtain ⟨kvs, x, n, s, rfl, hg, hper, hz, rfl⟩ := hP
  have gd : ∀ i, i < n → ∃ a b, getA (eD kvs) (it s i x) = some (e3 (a, b, -s (it s i x))) := fun i hi => by
    obtain ⟨a, b, h⟩ := hg i hi
    exact ⟨a, b, getD_at h⟩
  have h0 := hper.pos
  obtain ⟨a0, b0, g0⟩ := gd 0 h0
  have st : ∀ i, (- -s (it s i x) : Int) = it s (i + 1) x := fun i => by rw [Int.neg_neg]; rfl
  refine r_parND 2 3 (n_lst (l1 (v 1 rfl))) (fun q => (x_neg (x_ixT (x_dget (v 0 rfl) (v 1 rfl) (.dat _) g0) x_int rfl)).to (congrArg Dt.int (st 0))) fun q => ?_
  refine r_while (fun m ds os => ∃ i, m = n - i ∧ 1 ≤ i ∧ i ≤ n ∧ ds = [some (dicOf (eD kvs)), some (.int x), some (.adr q), some (.int (it s i x))] ∧ os = [(q, .lst ((orb s x i).map Dt.int))]) (n - 1) ⟨1, rfl, Nat.le_refl _, h0, rfl, rfl⟩ ?_
  rintro m _ _ ⟨i, rfl, h1, h2, rfl, rfl⟩
  refine ⟨_, _, b_ne (v 3 rfl) (v 1 rfl), fun e => ?_, fun e => ?_⟩
  · have hi : i < n := by
      rcases Nat.lt_or_ge i n with h | h
      · exact h
      · have : i = n := by omega
        subst this
        rw [hper.end_] at e
        simp at e
    obtain ⟨a, b, g⟩ := gd i hi
    refine r_expr (x_append 0 (v 2 rfl) (v 3 rfl) ⟨_, rfl⟩ rfl (by rw [List.length_map, FtM.orb_len]; omega)) ?_
    refine r_set 3 ((x_neg (x_ixT (x_dget (v 0 rfl) (v 3 rfl) (.dat _) g) x_int rfl)).to (congrArg Dt.int (st i))) ?_
    refine r_loop _ ⟨n - (i + 1), by omega, i + 1, rfl, by omega, by omega, rfl, ?_⟩ (Sub.refl _)
    rw [FtM.orb_succ, List.map_append]
    rfl
  · have hi : i = n := by
      rcases Nat.lt_or_ge i n with h | h
      · exact absurd (by simpa using e) (hper.min i (by omega) h)
      · omega
    subst hi
    exact r_ret (x_froz 0 (v 2 rfl) rfl) (hq _)
end
end FtR
/-! the program's sheets: nails_met, triangles_behind -/
namespace FtR
open PySem PySem.Spec PyProof.Rows L2
open FtM (getA putA Tri it orb stp rv ofOrb Per perOf)
abbrev sNails : Stmt := topS 53
abbrev nNails : List Str := ["parts", "seen", "found", "number", "line", "other"]
theorem scNails : FnScope nNails ["parts"] (defScope sNails) := ⟨rfl, rfl, rfl, by decide +kernel, rfl, by decide +kernel, by decide +kernel⟩
def PNails (ds : List Dt) (d : Dt) : Prop := ∃ (L n : Nat) (f e : Int → Int) (ts : List Tri), FtM.Reps ts L f ∧ FtM.Web L n f e ∧ ds = [dicOf (eD (FtM.parts ts))] ∧ d = eLL (FtM.metL f (FtM.lns L))
abbrev sBehind : Stmt := topS 57
abbrev nBehind : List Str := ["parts", "flip", "number", "line", "p", "q", "other", "r", "s", "refused"]
theorem scBehind : FnScope nBehind ["parts", "flip"] (defScope sBehind) := ⟨rfl, rfl, rfl, by decide +kernel, rfl, by decide +kernel, by decide +kernel⟩
def behindT (f : Int → Int) (a : Int) : List Tri := FtM.fresh a a.natAbs (f a.natAbs) (f (f a.natAbs)) (f (-(a.natAbs : Int))) (f (f (-(a.natAbs : Int))))
def PBehind (ds : List Dt) (d : Dt) : Prop := ∃ (L : Nat) (f : Int → Int) (ts : List Tri) (a : Int), FtM.Reps ts L f ∧ FtM.IsLn L a ∧ ds = [dicOf (eD (FtM.parts ts)), .int a] ∧ d = .tup [e3 ((behindT f a).getD 0 (0, 0, 0)), e3 ((behindT f a).getD 1 (0, 0, 0)), .bl (!FtM.can f a)]
theorem lns_at (L i : Nat) (hi : i < L) : (FtM.lns L)[2 * i]? = some (1 + (i : Int)) ∧ (FtM.lns L)[2 * i + 1]? = some (-(1 + (i : Int))) := by
  have key : ∀ L, (FtM.lns (L + 1)) = FtM.lns L ++ [(L : Int) + 1, -((L : Int) + 1)] := fun L => by
    unfold FtM.lns
    rw [List.range_succ, List.flatMap_append]
    rfl
  induction L with
  | zero => omega
  | succ L ih =>
    rw [key]
    have hl := FtM.lns_len L
    by_cases h : i < L
    · rw [List.getElem?_append_left (by omega), List.getElem?_append_left (by omega)]
      exact ih h
    · have : i = L := by omega
      subst this
      rw [List.getElem?_append_right (by omega), List.getElem?_append_right (by omega), hl, Nat.sub_self, show 2 * i + 1 - 2 * i = 1 by omega, Int.add_comm 1]
      exact ⟨rfl, rfl⟩
section
variable {M : Mo} {f : Addr} {fd : FuncData}
theorem behind_can (g : Int → Int) (a : Int) : (decide (((g (g (a.natAbs : Int))).natAbs : Int) = ((g (-(a.natAbs : Int))).natAbs : Int)) || decide (((g (g (-(a.natAbs : Int)))).natAbs : Int) = ((g (a.natAbs : Int)).natAbs : Int))) = !FtM.can g a := by
  unfold FtM.can
  simp only [Int.natCast_inj, ne_eq, decide_not, Bool.not_and, Bool.not_not]
theorem ok_behind (F : L2.Fun M.K "triangles_behind" "triangles_behind" sBehind f fd) (B : Bl M) : FnOk M.P M.w M.K M.mg M.base CX0 1 f fd ["parts", "flip"] (spP PBehind) := by
  have nd := scBehind.nd
  refine FtR.Fun.okP (k := 0) F scBehind (fun ds d ⟨_, _, _, _, _, _, h, _⟩ => by rw [h]; rfl) fun cdv A outer s0 H E hr F D ds d hP hq hn => ?_
  obtain ⟨L, g, ts, a, R, ha, rfl, rfl⟩ := hP
  have hx : FtM.IsLn L (a.natAbs : Int) := by unfold FtM.IsLn at *; rwa [Int.natAbs_natCast]
  refine r_set 2 (x_abs B.abs (v 1 rfl)) ?_
  refine r_asg (x_dget (d := e3 ((a.natAbs : Int), g (a.natAbs : Int), g (g (a.natAbs : Int)))) (v 0 rfl) (v 2 rfl) (.dat _) (getD_at (R.get hx))) (g_tup (gs_cons (g_name 3) (gs_cons (g_name 4) (gs_cons (g_name 5) gs_nil))) rfl) ?_
  refine r_asg (x_dget (d := e3 (-(a.natAbs : Int), g (-(a.natAbs : Int)), g (g (-(a.natAbs : Int))))) (v 0 rfl) (x_neg (v 2 rfl)) (.dat _) (getD_at (R.get hx.neg))) (g_tup (gs_cons (g_name 6) (gs_cons (g_name 7) (gs_cons (g_name 8) gs_nil))) rfl) ?_
  refine r_set (d := .bl (!FtM.can g a)) 9 ((x_or (x_eq (x_abs B.abs (v 5 rfl)) (x_abs B.abs (v 7 rfl))) (fun _ => x_one (x_eq (x_abs B.abs (v 8 rfl)) (x_abs B.abs (v 4 rfl)))) (fun _ => rfl)).to (congrArg Dt.bl (behind_can g a))) ?_
  refine r_when (b_gt (v 1 rfl) x_int) (fun e => ?_) (fun e => ?_)
  · have h0 := of_decide_eq_true e
    refine r_ret ((x_tup (l3 (x_tup (l3 (v 3 rfl) (v 5 rfl) (v 7 rfl))) (x_tup (l3 (v 6 rfl) (v 8 rfl) (v 4 rfl))) (v 9 rfl))).to ?_) (hq _)
    unfold behindT FtM.fresh
    rw [if_pos h0]
    rfl
  · have h0 := of_decide_eq_false e
    refine r_ret ((x_tup (l3 (x_tup (l3 (v 3 rfl) (v 8 rfl) (v 4 rfl))) (x_tup (l3 (v 6 rfl) (v 5 rfl) (v 7 rfl))) (v 9 rfl))).to ?_) (hq _)
    unfold behindT FtM.fresh
    rw [if_neg h0]
    rfl
end
end FtR
/-! the program's sheets: nails_met -/
namespace FtR
open PySem PySem.Spec PyProof.Rows L2
open FtM (getA putA Tri it orb stp rv ofOrb Per perOf)
section
variable {M : Mo} {f : Addr} {fd : FuncData}
theorem ok_nails (F : L2.Fun M.K "nails_met" "nails_met" sNails f fd) (B : Bl M) (Ga : Glob M "around" 1 ["parts", "line"] (spP PAround)) : FnOk M.P M.w M.K M.mg M.base CX0 2 f fd ["parts"] (spP PNails) := by
  have nd := scNails.nd
  refine FtR.Fun.okP (k := 1) F scNails (fun ds d ⟨_, _, _, _, _, _, _, h, _⟩ => by rw [h]; rfl) fun cdv A outer s0 H E hr F D ds d hP hq hn => ?_
  obtain ⟨L, n, g, e, ts, R, W, rfl, rfl⟩ := hP
  obtain ⟨hL1, hL2⟩ := web_L W
  have hpl : (eD (FtM.parts ts)).length = 2 * L := by
    unfold eD
    rw [List.length_map, R.parts_len]
  have hper : ∀ x, FtM.IsLn L x → ∀ i, FtM.IsLn L (it (FtM.sg g) i x) := fun x hx i => FtM.mem_lns.mp (FtM.it_mem (s := FtM.sg g) (X := FtM.lns L) (fun y hy => FtM.mem_lns.mpr (W.tr.sg_in (FtM.mem_lns.mp hy))) (FtM.mem_lns.mpr hx) i)
  refine r_setN 1 (n_set0 B.set) fun q => ?_
  refine r_setN 2 (n_lst l_nil) fun r => ?_
  refine r_for (fun i ds os => ∃ (T : Int → Bool) (m : Nat) (a b c : Option Dt), ds = [some (dicOf (eD (FtM.parts ts))), some (.adr q), some (.adr r), a, b, c] ∧ os = [(r, .lst ((FtM.metL g ((FtM.lns L).take (2 * i))).map eL)), (q, .set T m)] ∧
    (∀ x, T x = (FtM.metL g ((FtM.lns L).take (2 * i))).any fun l => decide (x ∈ l)) ∧ m ≤ 80 * i) (i_rng2 (i := 1) (j := (L : Int) + 1) B.range x_int ((x_add (x_fdiv (x_lenD B.len (v 0 rfl) (.dat _)) x_int ⟨by decide, by decide⟩) x_int).to (by rw [hpl]; congr 1; omega)) ⟨by omega, by omega, by omega, by omega⟩) ⟨_, _, none, none, none, rfl, rfl, fun _ => rfl, Nat.zero_le _⟩ ?_ ?_
  · rintro F' lF i d _ _ hd ⟨T, m, a, b, c, rfl, rfl, hs, hz⟩
    unfold rgD at hd
    rw [List.getElem?_map] at hd
    obtain ⟨x, hx, rfl⟩ := Option.map_eq_some_iff.mp hd
    have hil := (List.getElem?_eq_some_iff.mp hx).1
    rw [List.length_range] at hil
    rw [List.getElem?_range hil] at hx
    cases hx
    have hiL : i < L := by omega
    obtain ⟨la1, la2⟩ := lns_at L i hiL
    refine ⟨_, _, g_name 3, ?_⟩
    refine r_for (xs := [1 + (i : Int), -(1 + (i : Int))].map Dt.int) (fun j ds os => ∃ (T : Int → Bool) (m : Nat) (b c : Option Dt), ds = [some (dicOf (eD (FtM.parts ts))), some (.adr q), some (.adr r), some (.int (1 + (i : Int))), b, c] ∧ os = [(r, .lst ((FtM.metL g ((FtM.lns L).take (2 * i + j))).map eL)), (q, .set T m)] ∧
      (∀ x, T x = (FtM.metL g ((FtM.lns L).take (2 * i + j))).any fun l => decide (x ∈ l)) ∧ m ≤ 80 * i + 40 * j) (i_tup (x_tup (l2 (v 3 rfl) (x_neg (v 3 rfl))))) ⟨T, m, b, c, rfl, rfl, hs, by omega⟩ ?_ ?_
    · rintro F'' lF' j d _ _ hd ⟨T, m, b, c, rfl, rfl, hs, hz⟩
      rw [List.getElem?_map] at hd
      obtain ⟨x, hx, rfl⟩ := Option.map_eq_some_iff.mp hd
      have hjl := (List.getElem?_eq_some_iff.mp hx).1
      have hj2 : j < 2 := hjl
      have hx' : (FtM.lns L)[2 * i + j]? = some x := by
        rcases (show j = 0 ∨ j = 1 by omega) with rfl | rfl
        · exact la1.trans hx
        · exact la2.trans hx
      have lx : FtM.IsLn L x := FtM.mem_lns.mp (List.mem_of_getElem? hx')
      have hstep : FtM.metL g ((FtM.lns L).take (2 * i + (j + 1))) = if ((FtM.metL g ((FtM.lns L).take (2 * i + j))).any fun l => decide (x ∈ l)) = true then FtM.metL g ((FtM.lns L).take (2 * i + j)) else FtM.metL g ((FtM.lns L).take (2 * i + j)) ++ [FtM.sOrb g x] := by
        unfold FtM.metL
        rw [← Nat.add_assoc, fold_snoc hx']
      have hml : (FtM.metL g ((FtM.lns L).take (2 * i + j))).length ≤ 40 := by
        have := metL_len g ((FtM.lns L).take (2 * i + j)) []
        rw [List.length_take, FtM.lns_len] at this
        simp only [List.length_nil] at this
        unfold FtM.metL
        omega
      refine ⟨_, _, g_name 4, ?_⟩
      refine r_when (b_ninS 1 (v 4 rfl) (v 1 rfl) rfl rfl) (fun cc => ?_) (fun cc => ?_)
      · rw [hs x, Bool.not_eq_true'] at cc
        rw [cc, if_neg Bool.false_ne_true] at hstep
        obtain ⟨P, Pl⟩ := W.tr.sper lx
        have hol : (FtM.sOrb g x).length ≤ 30 := by
          unfold FtM.sOrb
          rw [FtM.orb_len]
          omega
        refine r_expr (x_append 0 (y := eL (FtM.sOrb g x)) (v 2 rfl) (x_call Ga (l2 (v 0 rfl) (v 4 rfl)) ⟨_, x, FtM.perOf (FtM.sg g) x, FtM.sg g, rfl, fun i hi => ⟨_, _, by rw [R.get (hper x lx i), sg_neg]⟩, P, by omega, rfl⟩) ⟨_, rfl⟩ rfl (by rw [List.length_map]; omega)) ?_
        refine r_for (xs := (FtM.sOrb g x).map Dt.int) (fun k ds os => ∃ (T' : Int → Bool) (m' : Nat) (c : Option Dt), ds = [some (dicOf (eD (FtM.parts ts))), some (.adr q), some (.adr r), some (.int (1 + (i : Int))), some (.int x), c] ∧ os = [(r, .lst ((FtM.metL g ((FtM.lns L).take (2 * i + (j + 1)))).map eL)), (q, .set T' m')] ∧
          (∀ y, T' y = (T y || decide (y ∈ (FtM.sOrb g x).take k))) ∧ m' ≤ m + k) (i_list (x_ixL (v 2 rfl) (x_neg x_int) (.own 0 rfl) (d := .lst ((FtM.sOrb g x).map Dt.int)) (L2.atI_last _ _))) ⟨T, m, c, rfl, ?_, fun y => by simp, Nat.le_refl _⟩ ?_ ?_
        · rw [hstep, List.map_append]
          rfl
        · rintro F3 lF3 k d _ _ hd ⟨T', m', c', rfl, rfl, hs', hz'⟩
          rw [List.getElem?_map] at hd
          obtain ⟨y, hy, rfl⟩ := Option.map_eq_some_iff.mp hd
          have hkl := (List.getElem?_eq_some_iff.mp hy).1
          refine ⟨_, _, g_name 5, ?_⟩
          refine r_expr (x_sadd 1 (v 1 rfl) (v 5 rfl) rfl (by omega)) ?_
          refine r_loop _ ⟨_, _, some (.int y), rfl, rfl, fun w => ?_, ?_⟩ (Sub.refl _)
          · rw [List.take_add_one, hy, hs' w]
            by_cases hw : w = y
            · simp [hw]
            · simp [hw]
          · split <;> omega
        · rintro _ _ ⟨T', m', c', rfl, rfl, hs', hz'⟩
          rw [List.length_map] at hs' hz'
          refine r_end (r_loop _ ⟨T', m', some (.int x), c', rfl, rfl, fun y => ?_, by omega⟩ (Sub.refl _))
          rw [hs' y, List.take_length, hs y, hstep, List.any_append]
          simp
      · rw [hs x, Bool.not_eq_false'] at cc
        rw [cc, if_pos rfl] at hstep
        exact r_loop _ ⟨T, m, some (.int x), c, rfl, by rw [hstep], fun y => by rw [hstep]; exact hs y, by omega⟩ (Sub.refl _)
    · rintro _ _ ⟨T, m, b, c, rfl, rfl, hs, hz⟩
      exact r_loop _ ⟨T, m, _, b, c, rfl, rfl, hs, hz⟩ (Sub.refl _)
  · rintro _ _ ⟨T, m, a, b, c, rfl, rfl, hs, hz⟩
    have e1 : (FtM.lns L).take (2 * (rgD 1 ((L : Int) + 1)).length) = FtM.lns L := by
      unfold rgD
      rw [List.length_map, List.length_range, show ((L : Int) + 1 - 1).toNat = L by omega]
      exact List.take_of_length_le (by rw [FtM.lns_len]; exact Nat.le_refl _)
    rw [e1]
    exact r_ret (x_froz 0 (v 2 rfl) rfl) (hq _)
end
end FtR
/-! the program's sheets: is_triangle -/
namespace FtR
open PySem PySem.Spec PyProof.Rows L2
open FtM (getA putA Tri it orb stp rv ofOrb Per perOf)
theorem setS_le (l : List Int) : (setS l).2 ≤ l.length := by
  have key : ∀ (l : List Int) (s : (Int → Bool) × Nat), (l.foldl (fun (s : (Int → Bool) × Nat) (c : Int) => ((fun j => s.1 j || decide (j = c), if s.1 c = true then s.2 else s.2 + 1) : (Int → Bool) × Nat)) s).2 ≤ s.2 + l.length := fun l => by
    induction l with
    | nil => intro s; exact Nat.le_refl _
    | cons c l ih =>
      intro s
      have := ih (fun j => s.1 j || decide (j = c), if s.1 c = true then s.2 else s.2 + 1)
      rw [List.foldl_cons, List.length_cons]
      have h2 : (if s.1 c = true then s.2 else s.2 + 1) ≤ s.2 + 1 := by split <;> omega
      simp only at this
      omega
  have := key l (fun _ => false, 0)
  unfold setS
  simp only [Nat.zero_add] at this
  exact this
abbrev sIsTri : Stmt := topS 54
abbrev nIsTri : List Str := ["value", "most", "line"]
theorem scIsTri : FnScope nIsTri ["value", "most"] (defScope sIsTri) := ⟨rfl, rfl, rfl, by decide +kernel, rfl, by decide +kernel, by decide +kernel⟩
def PIsTri (ds : List Dt) (d : Dt) : Prop := ∃ (L : Nat) (t : Tri), (FtM.IsLn L t.1 ∧ FtM.IsLn L t.2.1 ∧ FtM.IsLn L t.2.2) ∧ (t.1.natAbs ≠ t.2.1.natAbs ∧ t.1.natAbs ≠ t.2.2.natAbs ∧ t.2.1.natAbs ≠ t.2.2.natAbs) ∧ ds = [e3 t, .int L] ∧ d = .bl true
section
variable {C : Cxs} {F : Fr} {a : Expr} {ds : DEnv} {os os1 : Own} {pos p : Pos}
theorem x_lenSN {T : Int → Bool} {m : Nat} (hm : C.mg "len" = none) (ha : PN C F a ds os (.set T m) os1) (h1 : St1 C a [] := by intro _; rfl) (h2 : St2 C [] pos := by intro _; rfl) (hg : ∀ i, Gl (C.X i) "len" := by intro _; rfl) : PX C F (.Call (.Name "len" p) [a] [] pos) ds os (.int (m : Int)) os1 :=
  px_of (fun i => pe_callB (r := fun xs H Q => ∃ a S n, xs = [V.ref a] ∧ H a = some (SetO C.w a S n) ∧ Q (.int (n : Nat)) H) (by rw [← C.hw i]; exact call_lenS) (hg i) (by rw [C.hm i]; exact hm) PySem.boot_len (pa_AX i) (by decide) (by decide) (h1 i) (h2 i)) fun B H σ S L Q q =>
    ⟨_, fun i => pa_cons (pe_EX i) pa_nil (h1 i), ha B H σ S L _ fun r B1 H1 e1 S1 => ⟨r, T, m, rfl, (S1.get (k := 0) rfl).2.2, q _ B1 H1 e1 (S1.drop 0) Is.mk_int⟩⟩
end
section
variable {M : Mo} {f : Addr} {fd : FuncData}
theorem ok_isTri (F : L2.Fun M.K "is_triangle" "is_triangle" sIsTri f fd) (B : Bl M) (Gl : Glob M "is_line" 3 ["value", "most"] (spP PIsLine)) : FnOk M.P M.w M.K M.mg M.base CX0 4 f fd ["value", "most"] (spP PIsTri) := by
  have nd := scIsTri.nd
  refine FtR.Fun.okP (k := 3) F scIsTri (fun ds d ⟨_, _, _, _, h, _⟩ => by rw [h]; rfl) fun cdv A outer s0 H E hr F D ds d hP hq hn => ?_
  obtain ⟨L, t, ⟨a1, a2, a3⟩, ⟨n1, n2, n3⟩, rfl, rfl⟩ := hP
  have hm : ∀ y ∈ [t.1, t.2.1, t.2.2], FtM.IsLn L y := fun y hy => by
    simp only [List.mem_cons, List.not_mem_nil, or_false] at hy
    rcases hy with rfl | rfl | rfl <;> assumption
  refine r_when (t := (!true) || ((!decide ((3 : Int) = 3)) || (!true))) (b_w (w_or (b_not (b_val (x_isi B.isinstance (v 0 rfl) (x_ty B.tuple rfl (fun _ => rfl)) (.tup _) rfl))) (fun _ => w_or ((b_ne (x_len B.len (v 0 rfl) (.tup _)) x_int).to rfl) (fun _ => w_or1 (b_not (b_val (x_all (bs := [true, true, true]) B.all (x_ofL (n_lc0 (l := [t.1, t.2.1, t.2.2]) (enc := Dt.int) (g := fun _ => Dt.bl true) [("line", 2)] (fun y => [some (e3 t), some (.int L), some (.int y)]) (i_tup (v 0 rfl)) (fun _ => ⟨nd, blkOk_by (N := nIsTri) (sc := defScope sIsTri) (by decide +kernel)⟩) (fun y hy F => ⟨_, g_name 2, by simp⟩) (fun y hy F => x_call Gl (l2 (v 2 rfl) (v 1 rfl)) ⟨L, y, hm y hy, rfl, rfl⟩) (by show 3 ≤ 900000; decide))) (.dat _))))) (fun _ => rfl)) (fun _ => rfl))) (fun e => absurd e (by decide)) (fun e => ?_)
  refine r_ret ((x_eq (x_lenSN B.len (n_sc (l := [t.1, t.2.1, t.2.2]) (enc := Dt.int) (g := fun y => (y.natAbs : Int)) [("line", 2)] (fun y => [some (e3 t), some (.int L), some (.int y)]) (i_tup (v 0 rfl)) (fun _ => ⟨nd, blkOk_by (N := nIsTri) (sc := defScope sIsTri) (by decide +kernel)⟩) (fun y hy F => ⟨_, g_name 2, by simp⟩) (fun y hy F => ?_) (fun i hi => ?_))) x_int).to ?_) (hq _)
  · exact x_abs B.abs (v 2 rfl)
  · have := setS_le (([t.1, t.2.1, t.2.2].take i).map fun y => (y.natAbs : Int))
    rw [List.length_map, List.length_take, show [t.1, t.2.1, t.2.2].length = 3 from rfl] at this
    omega
  · congr 1
    refine decide_eq_true ?_
    unfold setS
    simp only [List.map_cons, List.map_nil, List.foldl_cons, List.foldl_nil, Bool.false_or]
    have e1 : decide ((t.2.1.natAbs : Int) = (t.1.natAbs : Int)) = false := decide_eq_false (by omega)
    have e2 : decide ((t.2.2.natAbs : Int) = (t.1.natAbs : Int)) = false := decide_eq_false (by omega)
    have e3' : decide ((t.2.2.natAbs : Int) = (t.2.1.natAbs : Int)) = false := decide_eq_false (by omega)
    rw [e1, e2, e3']
    rfl
end
end FtR
/-! the program's sheets: check_triangles -/
namespace FtR
open PySem PySem.Spec PyProof.Rows L2
open FtM (getA putA Tri it orb stp rv ofOrb Per perOf)
abbrev sChk : Stmt := topS 55
abbrev nChk : List Str := ["triangles", "used", "at", "triangle", "line"]
theorem scChk : FnScope nChk ["triangles"] (defScope sChk) := ⟨rfl, rfl, rfl, by decide +kernel, rfl, by decide +kernel, by decide +kernel⟩
def PChk (ds : List Dt) (d : Dt) : Prop := ∃ (L : Nat) (f : Int → Int) (ts : List Tri), FtM.Reps ts L f ∧ FtM.Tr L f ∧ 9 ≤ L ∧ L ≤ 15 ∧ L % 3 = 0 ∧ ds = [.lst (ts.map e3)] ∧ d = .non
theorem enumD_map (ts : List Tri) : enumD (ts.map e3) = (List.range ts.length).map fun (i : Nat) => Dt.tup [.int (i : Int), e3 (ts.getD i (0, 0, 0))] := by
  unfold enumD
  rw [List.length_map]
  refine List.map_congr_left fun i hi => ?_
  have := List.mem_range.mp hi
  rw [List.getD_eq_getElem?_getD, List.getElem?_map, List.getElem?_eq_getElem this, List.getD_eq_getElem?_getD, List.getElem?_eq_getElem this]
  rfl
section
variable {M : Mo} {f : Addr} {fd : FuncData} {t1 t2 : Tok}
theorem ok_chk (F : L2.Fun M.K "check_triangles" "check_triangles" sChk f fd) (B : Bl M) (hlo : M.mg "FEWEST_TRIANGLES" = some (.int 6 t1)) (hhi : M.mg "MOST_TRIANGLES" = some (.int 16 t2)) (Gl : Glob M "is_list" 1 ["value"] (spP PIsList)) (Gt : Glob M "is_triangle" 4 ["value", "most"] (spP PIsTri)) : FnOk M.P M.w M.K M.mg M.base CX0 5 f fd ["triangles"] (spP PChk) := by
  have nd := scChk.nd
  refine FtR.Fun.okP (k := 4) F scChk (fun ds d ⟨_, _, _, _, _, _, _, _, h, _⟩ => by rw [h]; rfl) fun cdv A outer s0 H E hr F D ds d hP hq hn => ?_
  obtain ⟨L, g, ts, R, T, hL1, hL2, hL3, rfl, rfl⟩ := hP
  have tl3 := R.len
  have hlen : (ts.map e3).length = ts.length := List.length_map _
  have hb : 6 ≤ ts.length ∧ ts.length ≤ 16 ∧ ts.length % 2 = 0 := by omega
  refine r_when (t := (!true) || ((!true) || decide (((ts.length : Nat) : Int) % 2 = 1))) (b_w (w_or (b_not (b_val (x_call Gl (l1 (v 0 rfl)) ⟨_, .inl rfl, rfl⟩))) (fun _ => w_or (b_not (k := true) ?_) (fun _ => w_or1 ((b_eq (x_mod (x_len B.len (v 0 rfl) (.lst (.dat _))) x_int (by decide)) x_int).to (by rw [hlen]))) (fun _ => rfl)) (fun _ => rfl))) (fun e => ?_) (fun e => ?_)
  · refine PB.to (b_lele (i := 6) (l := 16) ?_ (x_len B.len (v 0 rfl) (.lst (.dat _))) ?_ rfl) ?_
    · exact x_glob hlo fun _ => rfl
    · exact x_glob hhi fun _ => rfl
    rw [hlen, decide_eq_true (by omega), decide_eq_true (by omega)]
    rfl
  · rw [decide_eq_false (by omega)] at e
    exact absurd e (by decide)
  refine r_setN 1 (n_lst l_nil) fun q => ?_
  refine r_for (xs := (List.range ts.length).map fun (i : Nat) => Dt.tup [.int (i : Int), e3 (ts.getD i (0, 0, 0))]) (fun i ds os => ∃ a b : Option Dt, ds = [some (.lst (ts.map e3)), some (.adr q), a, b, none] ∧ os = [(q, .lst (((ts.take i).flatMap FtM.tl).map Dt.int))]) (by rw [← enumD_map]; exact i_enumL B.enumerate (v 0 rfl)) ⟨none, none, rfl, rfl⟩ ?_ ?_
  · rintro F' lF i d _ _ hd ⟨a, b, rfl, rfl⟩
    rw [List.getElem?_map] at hd
    obtain ⟨x, hx, rfl⟩ := Option.map_eq_some_iff.mp hd
    have hil := (List.getElem?_eq_some_iff.mp hx).1
    rw [List.length_range] at hil
    rw [List.getElem?_range hil] at hx
    cases hx
    have ht : ts[i]? = some (ts.getD i (0, 0, 0)) := by
      rw [List.getD_eq_getElem?_getD, List.getElem?_eq_getElem hil]
      rfl
    generalize ts.getD i (0, 0, 0) = t at *
    have htm := List.mem_of_getElem? ht
    obtain ⟨a1, a2, a3⟩ := R.sub htm
    obtain ⟨r1, r2, r3⟩ := R.rot t htm
    have n1 := T.ne _ a1
    have n2 := T.ne2 a1
    have n3 := T.ne3 a1
    rw [r1] at n1 n2 n3
    rw [r2] at n2 n3
    have hused : ∀ y ∈ [t.1, t.2.1, t.2.2], y ∉ (ts.take i).flatMap FtM.tl := fun y hy hy2 => by
      have hnd := R.nodup
      have hd : ts.drop i = t :: ts.drop (i + 1) := by
        rw [List.drop_eq_getElem_cons hil]
        congr 1
        exact Option.some.inj ((List.getElem?_eq_getElem hil).symm.trans ht)
      rw [← List.take_append_drop i ts, List.flatMap_append, hd, List.flatMap_cons] at hnd
      exact (List.nodup_append.mp hnd).2.2 y hy2 y (List.mem_append_left _ hy) rfl
    refine ⟨_, _, g_tup (gs_cons (g_name 2) (gs_cons (g_name 3) gs_nil)) rfl, ?_⟩
    refine r_when (t := (!true) || false) (b_w (w_or (b_not (b_val (x_call Gt (l2 (v 3 rfl) (x_fdiv (x_mul (x_len B.len (v 0 rfl) (.lst (.dat _))) x_int (.inr ⟨by decide, by decide⟩)) x_int ⟨by decide, by decide⟩)) ⟨L, t, ⟨a1, a2, a3⟩, ⟨fun h => n1 h.symm, fun h => n2 h.symm, fun h => n3 h.symm⟩, by rw [hlen]; congr 2; congr 1; omega, rfl⟩))) (fun _ => w_or1 (b_val (x_any (bs := [false, false, false]) B.any (x_ofL (n_lc0 (l := [t.1, t.2.1, t.2.2]) (enc := Dt.int) (g := fun _ => Dt.bl false) [("line", 4)] (fun y => [some (.lst (ts.map e3)), some (.adr q), some (.int (i : Int)), some (e3 t), some (.int y)]) (i_tup (v 3 rfl)) (fun _ => ⟨nd, blkOk_by (N := nChk) (sc := defScope sChk) (by decide +kernel)⟩) (fun y hy F => ⟨_, g_name 4, by simp⟩) (fun y hy F => ?_) (by show 3 ≤ 900000; decide))) (.dat _)))) (fun _ => rfl))) (fun e => absurd e (by decide)) (fun e => ?_)
    · refine (x_in (is := (ts.take i).flatMap FtM.tl) (v 4 rfl) (v 1 rfl) (.lst (.own 0 rfl)) rfl).to ?_
      rw [decide_eq_false (hused y hy)]
    · refine r_expr (x_extendT 0 (v 1 rfl) (v 3 rfl) rfl ?_) ?_
      · rw [List.length_map]
        have hle := R.perm.length_eq
        rw [FtM.lns_len] at hle
        have : ((ts.take i).flatMap FtM.tl).length ≤ (ts.flatMap FtM.tl).length := by
          rw [show ts.flatMap FtM.tl = (ts.take i).flatMap FtM.tl ++ (ts.drop i).flatMap FtM.tl by rw [← List.flatMap_append, List.take_append_drop], List.length_append]
          omega
        show _ + 3 ≤ 1000000
        omega
      · refine r_loop _ ⟨_, _, rfl, ?_⟩ (Sub.refl _)
        rw [List.take_add_one, ht, List.flatMap_append, List.map_append]
        rfl
  · rintro _ _ ⟨a, b, rfl, rfl⟩
    exact r_nil fun B H σ S L => hn rfl B H σ _ S
end
end FtR
/-! the program's sheets: hang_together -/
namespace FtR
open PySem PySem.Spec PyProof.Rows L2
open FtM (getA putA Tri it orb stp rv ofOrb Per perOf)
abbrev sHang : Stmt := topS 56
abbrev nHang : List Str := ["parts", "seen", "left", "line"]
theorem scHang : FnScope nHang ["parts"] (defScope sHang) := ⟨rfl, rfl, rfl, by decide +kernel, rfl, by decide +kernel, by decide +kernel⟩
def PHang (ds : List Dt) (d : Dt) : Prop := ∃ (L n : Nat) (f e : Int → Int) (ts : List Tri), FtM.Reps ts L f ∧ FtM.Web L n f e ∧ ds = [dicOf (eD (FtM.parts ts))] ∧ d = .bl true
theorem count_add {T : Int → Bool} {x : Int} (hT : T x = false) : ∀ {l : List Int}, l.Nodup → l.countP (fun j => T j || decide (j = x)) = l.countP T + if x ∈ l then 1 else 0
  | [], _ => rfl
  | y :: l, h => by
    have ih := count_add hT (List.nodup_cons.mp h).2
    have hy := (List.nodup_cons.mp h).1
    rw [List.countP_cons, List.countP_cons, ih]
    by_cases e : y = x
    · subst e
      simp [hT, hy]
    · have e' : ¬ x = y := fun h => e h.symm
      simp [e, e']
      omega
section
variable {M : Mo} {f : Addr} {fd : FuncData}
theorem ok_hang (F : L2.Fun M.K "hang_together" "hang_together" sHang f fd) (B : Bl M) : FnOk M.P M.w M.K M.mg M.base CX0 1 f fd ["parts"] (spP PHang) := by
  have nd := scHang.nd
  refine FtR.Fun.okP (k := 0) F scHang (fun ds d ⟨_, _, _, _, _, _, _, h, _⟩ => by rw [h]; rfl) fun cdv A outer s0 H E hr F D ds d hP hq hn => ?_
  obtain ⟨L, n, g, e, ts, R, W, rfl, rfl⟩ := hP
  obtain ⟨hL1, hL2⟩ := web_L W
  have hpl : (eD (FtM.parts ts)).length = 2 * L := by
    unfold eD
    rw [List.length_map, R.parts_len]
  have hone : FtM.IsLn L 1 := by unfold FtM.IsLn; omega
  have hlm : ∀ T : Int → Bool, (FtM.lns L).countP T ≤ 2 * L := fun T => by
    have := List.countP_le_length (p := T) (l := FtM.lns L)
    rwa [FtM.lns_len] at this
  refine r_setN 1 (n_set0 B.set) fun q => ?_
  refine r_setN 2 (n_lst (l1 x_int)) fun r => ?_
  refine r_while (fun k ds os => ∃ (T : Int → Bool) (m : Nat) (xs : List Int) (a : Option Dt), k = (2 * L - m) * 5 + xs.length ∧ xs.length ≤ 10 * m + 1 ∧ ds = [some (dicOf (eD (FtM.parts ts))), some (.adr q), some (.adr r), a] ∧ os = [(r, .lst (xs.map Dt.int)), (q, .set T m)] ∧ m = (FtM.lns L).countP T ∧ (∀ w ∈ xs, FtM.IsLn L w) ∧
    (∀ w, FtM.IsLn L w → T w = true → (T (-w) = true ∨ -w ∈ xs) ∧ (T (g w) = true ∨ g w ∈ xs)) ∧ (T 1 = true ∨ (1 : Int) ∈ xs)) ((2 * L - 0) * 5 + 1) ⟨fun _ => false, 0, [1], none, rfl, by decide, rfl, rfl, by simp, fun w hw => by rw [List.mem_singleton.mp hw]; exact hone, fun w _ h => Bool.noConfusion h, .inr List.mem_cons_self⟩ ?_
  rintro k _ _ ⟨T, m, xs, a, rfl, hz, rfl, rfl, hm, hxs, hcl, h1⟩
  have hmm := hlm T
  refine ⟨_, _, b_ne0 (k := 1) (v 2 rfl) (x_ofL (n_lst l_nil)) (.own 0 rfl) (Sh0.eL xs), fun c => ?_, fun c => ?_⟩
  · have hne : xs ≠ [] := fun h => by
      rw [h] at c
      exact absurd c (by decide)
    obtain ⟨ys, y, rfl⟩ : ∃ ys y, xs = ys ++ [y] := ⟨xs.dropLast, xs.getLast hne, (List.dropLast_concat_getLast hne).symm⟩
    have ly := hxs y (List.mem_append_right _ List.mem_cons_self)
    rw [List.length_append, List.length_singleton] at hz
    refine r_set (d := .int y) (os1 := [(r, .lst (ys.map Dt.int)), (q, .set T m)]) 3 ?_ ?_
    · have e0 : ([(r, Ob.lst (ys.map Dt.int)), (q, Ob.set T m)] : Own) = [(r, Ob.lst ((ys ++ [y]).map Dt.int)), (q, Ob.set T m)].set 0 (r, Ob.lst ((ys ++ [y]).map Dt.int).dropLast) := by
        rw [List.map_append, List.map_cons, List.map_nil, List.dropLast_concat]
        rfl
      rw [e0]
      exact x_pop 0 (v 2 rfl) rfl (by simp)
    refine r_when (b_ninS 1 (v 3 rfl) (v 1 rfl) rfl rfl) (fun c2 => ?_) (fun c2 => ?_)
    · rw [Bool.not_eq_true'] at c2
      have hadd := count_add (x := y) c2 (FtM.lns_nodup L)
      rw [if_pos (FtM.mem_lns.mpr ly), ← hm] at hadd
      have hmm2 := hlm fun j => T j || decide (j = y)
      refine r_expr (x_sadd 1 (v 1 rfl) (v 3 rfl) rfl (by omega)) ?_
      rw [c2, if_neg Bool.false_ne_true]
      refine r_expr (x_extendL (ys := [-y, y, g y, g (g y)].map Dt.int) 0 (v 2 rfl) (x_ofL (n_lst (xs := [-y, y, g y, g (g y)].map Dt.int) (l_cons (x_neg (v 3 rfl)) (l_star (ys := [.int y, .int (g y), .int (g (g y))]) (xs := []) (x_dget (v 0 rfl) (v 3 rfl) (.dat _) (getD_at (R.get ly))) (hq := .tup _) (hb := l_nil))))) rfl (.dat _) ?_) ?_
      · rw [List.length_map]
        show ys.length + 4 ≤ 1000000
        omega
      refine r_end (r_loop _ ⟨(2 * L - (m + 1)) * 5 + (ys ++ [-y, y, g y, g (g y)]).length, ?_, fun j => T j || decide (j = y), m + 1, ys ++ [-y, y, g y, g (g y)], some (.int y), rfl, ?_, rfl, ?_, hadd.symm, ?_, ?_, ?_⟩ (Sub.refl _))
      · rw [List.length_append, List.length_append, List.length_singleton]
        show (2 * L - (m + 1)) * 5 + (ys.length + 4) < (2 * L - m) * 5 + (ys.length + 1)
        omega
      · rw [List.length_append]
        show ys.length + 4 ≤ _
        omega
      · rw [List.map_append]
        rfl
      · intro w hw
        rcases List.mem_append.mp hw with h | h
        · exact hxs w (List.mem_append_left _ h)
        · simp only [List.mem_cons, List.not_mem_nil, or_false] at h
          rcases h with rfl | rfl | rfl | rfl
          · exact ly.neg
          · exact ly
          · exact W.tr.ln _ ly
          · exact W.tr.ln _ (W.tr.ln _ ly)
      · have fwd : ∀ u, (T u = true ∨ u ∈ ys ++ [y]) → ((T u || decide (u = y)) = true ∨ u ∈ ys ++ [-y, y, g y, g (g y)]) := fun u hu => by
          rcases hu with h | h
          · exact .inl (by rw [h]; rfl)
          · rcases List.mem_append.mp h with h | h
            · exact .inr (List.mem_append_left _ h)
            · exact .inl (by rw [decide_eq_true (List.mem_singleton.mp h), Bool.or_true])
        intro w hw hT
        rcases Bool.or_eq_true _ _ ▸ hT with h | h
        · obtain ⟨p1, p2⟩ := hcl w hw h
          exact ⟨fwd _ p1, fwd _ p2⟩
        · have := of_decide_eq_true h
          subst this
          exact ⟨.inr (by simp), .inr (by simp)⟩
      · rcases h1 with h | h
        · exact .inl (by show (T 1 || decide ((1 : Int) = y)) = true; rw [h]; rfl)
        · rcases List.mem_append.mp h with h | h
          · exact .inr (List.mem_append_left _ h)
          · exact .inl (by show (T 1 || decide ((1 : Int) = y)) = true; rw [decide_eq_true (List.mem_singleton.mp h), Bool.or_true])
    · rw [Bool.not_eq_false'] at c2
      have fwd : ∀ u, (T u = true ∨ u ∈ ys ++ [y]) → (T u = true ∨ u ∈ ys) := fun u hu => by
        rcases hu with h | h
        · exact .inl h
        · rcases List.mem_append.mp h with h | h
          · exact .inr h
          · exact .inl (List.mem_singleton.mp h ▸ c2)
      refine r_loop _ ⟨(2 * L - m) * 5 + ys.length, by rw [List.length_append, List.length_singleton]; omega, T, m, ys, some (.int y), rfl, by omega, rfl, rfl, hm, fun w hw => hxs w (List.mem_append_left _ hw), fun w hw hT => ⟨fwd _ (hcl w hw hT).1, fwd _ (hcl w hw hT).2⟩, fwd _ h1⟩ (Sub.refl _)
  · have he : xs = [] := by
      cases xs with
      | nil => rfl
      | cons _ _ => exact absurd c (by simp)
    subst he
    have hall : ∀ w, FtM.IsLn L w → T w = true := W.cn (fun w => T w = true) (fun w hw h => ((hcl w hw h).1).resolve_right (by simp)) (fun w hw h => ((hcl w hw h).2).resolve_right (by simp)) (h1.resolve_right (by simp))
    have hcnt : m = 2 * L := by
      rw [hm, List.countP_eq_length.mpr fun w hw => hall w (FtM.mem_lns.mp hw), FtM.lns_len]
    refine r_ret ((x_eq (x_lenS 1 B.len (v 1 rfl) rfl) (x_lenD B.len (v 0 rfl) (.dat _))).to ?_) (hq _)
    rw [hpl, hcnt, decide_eq_true rfl]
end
end FtR
/-! the program's sheets: class Sheet, __init__ -/
namespace FtR
open PySem PySem.Spec PyProof.Rows L2
open FtM (getA putA Tri it orb stp rv ofOrb Per perOf)
abbrev fSh : List Str := ["own_triangles", "parts", "own_order", "starts"]
/-- a sheet's fields, by its triangles, their next lines, the ends -/
noncomputable def shV (L : Nat) (w : WS) : List Dt := [.lst ((FtM.inOrder w.ts).map e3), dicOf (eD (FtM.parts (FtM.inOrder w.ts))), eL (FtM.ordL L w.f w.e), dicOf (eI (FtM.putAll (FtM.endsKv L w.f (FtM.ordL L w.f w.e))))]
structure ShF (M : Mo) (A : Addr) : Prop where
  cl : Cls M.K A
  n1 : NoAttr M.K A "own_triangles"
  n2 : NoAttr M.K A "parts"
  n3 : NoAttr M.K A "own_order"
  n4 : NoAttr M.K A "starts"
abbrev sShI : Stmt := inClass (topS 58) 1
abbrev nShI : List Str := ["self", "triangles", "order", "met", "nail", "lines", "line"]
theorem scShI : FnScope nShI ["self", "triangles", "order"] (defScope sShI) := ⟨rfl, rfl, rfl, by decide +kernel, rfl, by decide +kernel, by decide +kernel⟩
def PShI (ds : List Dt) (fs : List Str) (xs : List Dt) : Prop := ∃ (L n : Nat) (w : WS), FtM.Reps w.ts L w.f ∧ FtM.Web L n w.f w.e ∧ ds = [.lst (w.ts.map e3), eL (FtM.ordL L w.f w.e)] ∧ fs = fSh ∧ xs = shV L w
theorem putAll_len : ∀ (xs m : List (Int × Int)), (xs.foldl (fun m kv => putA m kv.1 kv.2) m).length ≤ m.length + xs.length := fun xs => by
  induction xs with
  | nil => intro m; exact Nat.le_refl _
  | cons kv xs ih =>
    intro m
    have h2 := ih (putA m kv.1 kv.2)
    have h3 := FtM.putA_len m kv.1 kv.2
    rw [List.foldl_cons, List.length_cons]
    split at h3 <;> omega
theorem put2I (l : List (Int × List Int)) : putF2 l (fun vl => vl.2) (fun _ b => b) (fun vl _ => Dt.int vl.1) [] = eI (FtM.putAll (l.flatMap fun vl => vl.2.map fun x => (x, vl.1))) := by
  have inner : ∀ (v : Int) (xs : List Int) (m : List (Int × Int)), xs.foldl (fun d b => putA d b (Dt.int v)) (eI m) = eI ((xs.map fun x => (x, v)).foldl (fun m kv => putA m kv.1 kv.2) m) := fun v xs => by
    induction xs with
    | nil => intro m; rfl
    | cons x xs ih =>
      intro m
      rw [List.foldl_cons, putI, ih, List.map_cons, List.foldl_cons]
  have key : ∀ (l : List (Int × List Int)) (m : List (Int × Int)), l.foldl (fun d a => a.2.foldl (fun d b => putA d b (Dt.int a.1)) d) (eI m) = eI ((l.flatMap fun vl => vl.2.map fun x => (x, vl.1)).foldl (fun m kv => putA m kv.1 kv.2) m) := fun l => by
    induction l with
    | nil => intro m; rfl
    | cons a l ih =>
      intro m
      rw [List.foldl_cons, inner, ih, List.flatMap_cons, List.foldl_append]
  exact key l []
section
variable {M : Mo} {f A : Addr} {fd : FuncData}
theorem ok_shI (F : L2.Fun M.K "__init__" "Sheet.__init__" sShI f fd) (B : Bl M) (T : ShF M A) (Gc : Glob M "check_triangles" 5 ["triangles"] (spP PChk)) (Go : Glob M "in_order" 2 ["triangles"] (spP PInOrd)) (Gp : Glob M "parts_of" 2 ["triangles"] (spP PPartsOf)) (Gn : Glob M "nails_met" 2 ["parts"] (spP PNails)) (Gh : Glob M "hang_together" 1 ["parts"] (spP PHang)) (Gl : Glob M "is_list" 1 ["value"] (spP PIsList)) (Gw : Glob M "is_within" 2 ["value", "low", "high"] (spP PWithin)) : FnOk M.P M.w M.K M.mg M.base CX0 6 f fd ["self", "triangles", "order"] (spI M.w A PShI) := by
  have nd := scShI.nd
  refine FtR.Fun.okI (k := 5) F scShI (fun ds _ _ ⟨_, _, _, _, _, h, _⟩ => by rw [h]; rfl) fun cdv A outer s0 H E hr F D q ds fs xs hP hq => ?_
  obtain ⟨L, n, ⟨g, e, ts, kvs⟩, R, W, rfl, rfl, rfl⟩ := hP
  dsimp only at R W ⊢
  have Ts := T
  obtain ⟨hL1, hL2⟩ := web_L W
  have hL := W.hL
  have tl3 := R.len
  have hn := W.hn
  have hz : ts.length ≤ 100 := by omega
  have Ro := R.ord
  have hol := FtM.Web.ord_perm W
  have hml := W.ord_len
  have hordl : (FtM.ordL L g e).length = n := by
    unfold FtM.ordL
    rw [List.length_map, hml]
  have hil : (FtM.inOrder ts).length ≤ 100 := by
    have := Ro.len
    omega
  refine r_expr (x_call Gc (l1 (v 1 rfl)) ⟨L, g, ts, R, W.tr, hL1, hL2, by omega, rfl, rfl⟩) ?_
  refine r_attr 0 Ts.cl Ts.n1 (x_call Go (l1 (v 1 rfl)) ⟨ts, by omega, rfl, rfl⟩) (v 0 rfl) rfl rfl (by decide) ?_
  refine r_attr 0 Ts.cl Ts.n2 (x_call Gp (l1 (x_fld Ts.cl Ts.n1 (v 0 rfl) (.own 0 rfl) rfl)) ⟨FtM.inOrder ts, hil, rfl, rfl⟩) (v 0 rfl) rfl (by decide) (by decide) ?_
  refine r_set 3 (x_call Gn (l1 (x_fld Ts.cl Ts.n2 (v 0 rfl) (.own 0 rfl) rfl)) ⟨L, n, g, e, FtM.inOrder ts, Ro, W, rfl, rfl⟩) ?_
  refine r_when (t := (!true) || (!decide ((((FtM.metL g (FtM.lns L)).map eL).length : Int) = ((ts.map e3).length : Int) / 2 + 2))) (b_w (w_or (b_not (b_val (x_call Gh (l1 (x_fld Ts.cl Ts.n2 (v 0 rfl) (.own 0 rfl) rfl)) ⟨L, n, g, e, FtM.inOrder ts, Ro, W, rfl, rfl⟩))) (fun _ => w_or1 (b_ne (x_len B.len (v 3 rfl) (.lst (.dat _))) (x_add (x_fdiv (x_len B.len (v 1 rfl) (.lst (.dat _))) x_int ⟨by decide, by decide⟩) x_int))) (fun _ => rfl))) (fun c => ?_) (fun c => ?_)
  · rw [List.length_map, List.length_map, hml] at c
    rw [decide_eq_true (by omega)] at c
    exact absurd c (by decide)
  clear c
  have hin : ∀ x ∈ FtM.ordL L g e, 0 ≤ x ∧ x ≤ (n : Int) - 1 := fun x hx => by
    obtain ⟨i, hi, rfl⟩ := List.mem_map.mp (hol.mem_iff.mp hx)
    have := List.mem_range.mp hi
    omega
  refine r_when (t := (!true) || (!(((FtM.ordL L g e).map fun _ => true).all id))) (b_w (w_or (b_not (b_val (x_call Gl (l1 (v 2 rfl)) ⟨_, .inl rfl, rfl⟩))) (fun _ => w_or1 (b_not (b_val (x_all (bs := (FtM.ordL L g e).map fun _ => true) B.all (x_ofL (n_lc0 (l := FtM.ordL L g e) (enc := Dt.int) (g := fun _ => Dt.bl true) [("nail", 4)] (fun y => [some (.adr q), some (.lst (ts.map e3)), some (eL (FtM.ordL L g e)), some (eLL (FtM.metL g (FtM.lns L))), some (.int y), none, none]) (i_list (v 2 rfl)) (fun _ => ⟨nd, blkOk_by (N := nShI) (sc := defScope sShI) (by decide +kernel)⟩) (fun y hy F => ⟨_, g_name 4, by simp⟩) (fun y hy F => (x_call Gw (l3 (v 4 rfl) x_int (x_sub (x_len B.len (v 3 rfl) (.lst (.dat _))) x_int)) ⟨y, _, _, rfl, rfl⟩).to ?_) (by omega))) (by rw [List.map_map]; exact .dat _))))) (fun _ => rfl))) (fun c => ?_) (fun c => ?_)
  · obtain ⟨h1, h2⟩ := hin y hy
    rw [List.length_map, hml, decide_eq_true h1, decide_eq_true h2]
    rfl
  · have : ((FtM.ordL L g e).map fun _ => true).all id = true := by
      rw [List.all_eq_true]
      intro b hb
      obtain ⟨_, _, rfl⟩ := List.mem_map.mp hb
      rfl
    rw [this] at c
    exact absurd c (by decide)
  clear c
  have hsorted : (rangeL n).Pairwise (· ≤ ·) := by
    unfold rangeL
    rw [List.pairwise_map]
    exact (List.pairwise_lt_range (n := n)).imp fun h => by omega
  refine r_when (t := decide ((0 : Int) < (((FtM.ordL L g e).map Dt.int).length : Int)) && (!decide (rangeL n = rangeL n))) (b_w (w_and (b_gt (x_len B.len (v 2 rfl) (.lst (.dat _))) x_int) (fun _ => w_and1 (b_neI (PX.to (x_ofL (n_sortedI (zs := rangeL n) B.sorted (v 2 rfl) (.dat _) hol.symm hsorted)) rfl) (PX.to (x_ofL (n_listR1 B.list B.range (x_len B.len (v 3 rfl) (.lst (.dat _))) ?_)) (rgD0 n _ ?_)))) (fun _ => rfl))) (fun c => ?_) (fun c => ?_)
  · rw [List.length_map, hml]
    omega
  · rw [List.length_map, hml]
  · rw [decide_eq_true (rfl : rangeL n = rangeL n), Bool.not_true, Bool.and_false] at c
    exact absurd c (by decide)
  clear c
  refine r_attr (d := eL (FtM.ordL L g e)) 0 Ts.cl Ts.n3 (x_if (b_gt (x_len B.len (v 2 rfl) (.lst (.dat _))) x_int) (fun _ => PX.to (x_ofL (n_list B.list (v 2 rfl) (.lst (.dat _)))) rfl) (fun c => ?_)) (v 0 rfl) rfl (by decide) (by decide) ?_
  · rw [List.length_map, hordl, decide_eq_true (by omega)] at c
    exact absurd c (by decide)
  have hlz : ((FtM.ordL L g e).zip (FtM.metL g (FtM.lns L))).length ≤ 100 := by
    rw [List.length_zip]
    omega
  have hvl : ∀ vl ∈ (FtM.ordL L g e).zip (FtM.metL g (FtM.lns L)), vl.2.length ≤ 30 := fun vl hv => by
    obtain ⟨h1, h2, _⟩ := W.met.head W (List.of_mem_zip hv).2
    rw [h2]
    unfold FtM.sOrb
    rw [FtM.orb_len]
    have := (W.tr.sper h1).2
    omega
  refine r_attr (d := dicOf (eI (FtM.putAll (FtM.endsKv L g (FtM.ordL L g e))))) 0 Ts.cl Ts.n4 (PX.to (x_ofD (n_dc2 (l := (FtM.ordL L g e).zip (FtM.metL g (FtM.lns L))) (enc := fun vl => Dt.tup [.int vl.1, eL vl.2]) (m := fun vl => vl.2) (encb := Dt.int) (key := fun _ b => b) (val := fun vl _ => Dt.int vl.1) [("nail", 4), ("lines", 5), ("line", 6)] [6] (fun vl => [some (.adr q), some (.lst (ts.map e3)), some (eL (FtM.ordL L g e)), some (eLL (FtM.metL g (FtM.lns L))), some (.int vl.1), some (eL vl.2), none]) (fun vl b => [some (.adr q), some (.lst (ts.map e3)), some (eL (FtM.ordL L g e)), some (eLL (FtM.metL g (FtM.lns L))), some (.int vl.1), some (eL vl.2), some (.int b)])
    (by rw [← zipD_map]; exact i_zip B.zip (x_fld Ts.cl Ts.n3 (v 0 rfl) (.own 0 rfl) rfl) (v 3 rfl) rfl rfl) (fun _ => ⟨nd, blkOk_by (N := nShI) (sc := defScope sShI) (by decide +kernel)⟩) (by decide) (fun t ht F => ⟨_, g_tup (gs_cons (g_name 4) (gs_cons (g_name 5) gs_nil)) rfl, by simp⟩) (fun t ht F r => i_list (v 5 rfl)) (fun t ht b hb F => ⟨_, g_name 6, by simp⟩)
    (fun t ht b hb F => v 6 rfl) (fun t ht b hb F => v 4 rfl) (fun i hi => ?_) (fun t ht => Nat.le_trans (hvl t ht) (by decide)))) ?_) (v 0 rfl) rfl (by decide) (by decide) ?_
  · rw [put2I]
    unfold eI FtM.putAll
    rw [List.length_map]
    refine Nat.le_trans (putAll_len _ _) ?_
    have key : ∀ l : List (Int × List Int), (∀ vl ∈ l, vl.2.length ≤ 30) → (l.flatMap fun vl => vl.2.map fun x => (x, vl.1)).length ≤ 30 * l.length := fun l => by
      induction l with
      | nil => intro _; exact Nat.zero_le _
      | cons a l ih =>
        intro h
        have h1 := ih fun x hx => h x (List.mem_cons_of_mem _ hx)
        have h2 := h a List.mem_cons_self
        rw [List.flatMap_cons, List.length_append, List.length_map, List.length_cons]
        omega
    have h1 := key (((FtM.ordL L g e).zip (FtM.metL g (FtM.lns L))).take i) fun vl hv => hvl vl (List.mem_of_mem_take hv)
    rw [List.length_take, List.length_zip] at h1
    rw [List.length_nil]
    omega
  · rw [put2I]
    rfl
  exact r_nil fun B H σ S L => hq B H σ _ 0 rfl S
end
end FtR
/-! the program's sheets: methods -/
namespace FtR
open PySem PySem.Spec PyProof.Rows L2
open FtM (getA putA Tri it orb stp rv ofOrb Per perOf)
def OkW (L n : Nat) (w : WS) : Prop := FtM.Reps w.ts L w.f ∧ FtM.Web L n w.f w.e
theorem GoodS.okW {L n : Nat} {w : WS} (G : GoodS L n w) : OkW L n w := ⟨G.reps, G.web⟩
noncomputable def eSh (A : Addr) (L : Nat) (w : WS) : Dt := .ins A fSh (shV L w)
abbrev nS1 : List Str := ["self"]
abbrev nS2 : List Str := ["self", "line"]
abbrev sShLines : Stmt := inClass (topS 58) 4
theorem scShLines : FnScope nS1 ["self"] (defScope sShLines) := ⟨rfl, rfl, rfl, by decide +kernel, rfl, by decide +kernel, by decide +kernel⟩
def PShLines (A : Addr) (ds : List Dt) (d : Dt) : Prop := ∃ (L n : Nat) (w : WS), OkW L n w ∧ ds = [eSh A L w] ∧ d = .int L
abbrev sShTris : Stmt := inClass (topS 58) 6
theorem scShTris : FnScope nS1 ["self"] (defScope sShTris) := ⟨rfl, rfl, rfl, by decide +kernel, rfl, by decide +kernel, by decide +kernel⟩
def PShTris (A : Addr) (ds : List Dt) (d : Dt) : Prop := ∃ (L n : Nat) (w : WS), OkW L n w ∧ ds = [eSh A L w] ∧ d = .lst ((FtM.inOrder w.ts).map e3)
abbrev sShChk : Stmt := inClass (topS 58) 8
theorem scShChk : FnScope nS2 ["self", "line"] (defScope sShChk) := ⟨rfl, rfl, rfl, by decide +kernel, rfl, by decide +kernel, by decide +kernel⟩
def PShChk (A : Addr) (ds : List Dt) (d : Dt) : Prop := ∃ (L n : Nat) (w : WS) (x : Int), OkW L n w ∧ FtM.IsLn L x ∧ ds = [eSh A L w, .int x] ∧ d = .non
abbrev sShTri : Stmt := inClass (topS 58) 9
theorem scShTri : FnScope nS2 ["self", "line"] (defScope sShTri) := ⟨rfl, rfl, rfl, by decide +kernel, rfl, by decide +kernel, by decide +kernel⟩
def PShTri (A : Addr) (ds : List Dt) (d : Dt) : Prop := ∃ (L n : Nat) (w : WS) (x : Int), OkW L n w ∧ FtM.IsLn L x ∧ ds = [eSh A L w, .int x] ∧ d = e3 (x, w.f x, w.f (w.f x))
abbrev sShSides : Stmt := inClass (topS 58) 12
theorem scShSides : FnScope nS2 ["self", "line"] (defScope sShSides) := ⟨rfl, rfl, rfl, by decide +kernel, rfl, by decide +kernel, by decide +kernel⟩
def PShSides (A : Addr) (ds : List Dt) (d : Dt) : Prop := ∃ (L n : Nat) (w : WS) (x : Int), OkW L n w ∧ FtM.IsLn L x ∧ ds = [eSh A L w, .int x] ∧ d = eT (sidesL w.f x)
abbrev sShCan : Stmt := inClass (topS 58) 13
theorem scShCan : FnScope nS2 ["self", "line"] (defScope sShCan) := ⟨rfl, rfl, rfl, by decide +kernel, rfl, by decide +kernel, by decide +kernel⟩
def PShCan (A : Addr) (ds : List Dt) (d : Dt) : Prop := ∃ (L n : Nat) (w : WS) (x : Int), OkW L n w ∧ FtM.IsLn L x ∧ ds = [eSh A L w, .int x] ∧ d = .bl (FtM.can w.f x)
abbrev sShEq : Stmt := inClass (topS 58) 17
theorem scShEq : FnScope ["self", "other"] ["self", "other"] (defScope sShEq) := ⟨rfl, rfl, rfl, by decide +kernel, rfl, by decide +kernel, by decide +kernel⟩
noncomputable def shEqB (L L' : Nat) (w w' : WS) : Bool := decide (FtM.inOrder w.ts = FtM.inOrder w'.ts) && decide (FtM.ordL L w.f w.e = FtM.ordL L' w'.f w'.e)
def PShEq (A : Addr) (ds : List Dt) (d : Dt) : Prop := ∃ (L L' : Nat) (w w' : WS), ds = [eSh A L w, eSh A L' w'] ∧ d = .bl (shEqB L L' w w')
theorem abs_ln {L : Nat} {x : Int} (h : FtM.IsLn L x) : FtM.IsLn L (x.natAbs : Int) := by unfold FtM.IsLn at *; rwa [Int.natAbs_natCast]
theorem cut1 (t : Tri) : Dt.tup (cutD [.int t.1, .int t.2.1, .int t.2.2] (some 1) none) = eT [t.2.1, t.2.2] := rfl
theorem tl_dec (a b : Tri) : decide ([a.1, a.2.1, a.2.2] = [b.1, b.2.1, b.2.2]) = decide (a = b) := by
  refine decide_eq_decide.mpr ⟨fun h => FtM.tl_inj h, fun h => by rw [h]⟩
theorem eqv_e3 (a b : Tri) : PyData.eqv (e3 a).toP (e3 b).toP = decide (a = b) := by
  unfold e3
  rw [eqv_eT, tl_dec]
section
variable {M : Mo} {f A : Addr} {fd : FuncData}
theorem ok_shLines (F : L2.Fun M.K "lines" "Sheet.lines" sShLines f fd) (B : Bl M) (T : ShF M A) : FnOk M.P M.w M.K M.mg M.base CX0 1 f fd ["self"] (spP (PShLines A)) := by
  have nd := scShLines.nd
  refine FtR.Fun.okP (k := 0) F scShLines (fun ds d ⟨_, _, _, _, h, _⟩ => by rw [h]; rfl) fun cdv A0 outer s0 H E hr F D ds d hP hq hn => ?_
  obtain ⟨L, n, w, ⟨R, W⟩, rfl, rfl⟩ := hP
  refine r_ret ((x_fdiv (x_lenD B.len (x_fld T.cl T.n2 (v (d := .ins A fSh (shV L w)) 0 rfl) (.dat _ _ _) rfl) (.dat _)) x_int ⟨by decide, by decide⟩).to ?_) (hq _)
  unfold eD
  rw [List.length_map, R.ord.parts_len]
  congr 1
  omega
theorem ok_shTris (F : L2.Fun M.K "triangles" "Sheet.triangles" sShTris f fd) (B : Bl M) (T : ShF M A) : FnOk M.P M.w M.K M.mg M.base CX0 1 f fd ["self"] (spP (PShTris A)) := by
  have nd := scShTris.nd
  refine FtR.Fun.okP (k := 0) F scShTris (fun ds d ⟨_, _, _, _, h, _⟩ => by rw [h]; rfl) fun cdv A0 outer s0 H E hr F D ds d hP hq hn => ?_
  obtain ⟨L, n, w, ⟨R, W⟩, rfl, rfl⟩ := hP
  exact r_ret (x_ofL (n_list B.list (x_fld T.cl T.n1 (v (d := .ins A fSh (shV L w)) 0 rfl) (.dat _ _ _) rfl) (.lst (.dat _)))) (hq _)
theorem ok_shChk (F : L2.Fun M.K "check_line" "Sheet.check_line" sShChk f fd) (B : Bl M) (T : ShF M A) (Gl : Glob M "is_line" 3 ["value", "most"] (spP PIsLine)) : FnOk M.P M.w M.K M.mg M.base CX0 4 f fd ["self", "line"] (spP (PShChk A)) := by
  have nd := scShChk.nd
  refine FtR.Fun.okP (k := 3) F scShChk (fun ds d ⟨_, _, _, _, _, _, h, _⟩ => by rw [h]; rfl) fun cdv A0 outer s0 H E hr F D ds d hP hq hn => ?_
  obtain ⟨L, n, w, x, ⟨R, W⟩, hx, rfl, rfl⟩ := hP
  refine r_when (t := !true) (b_not (b_val (x_call Gl (l2 (v 1 rfl) (x_fdiv (x_lenD B.len (x_fld T.cl T.n2 (v (d := .ins A fSh (shV L w)) 0 rfl) (.dat _ _ _) rfl) (.dat _)) x_int ⟨by decide, by decide⟩)) ⟨L, x, hx, ?_, rfl⟩))) (fun c => absurd c (by decide)) (fun _ => r_nil fun B H σ S L => hn rfl B H σ _ S)
  unfold eD
  rw [List.length_map, R.ord.parts_len]
  congr 2
  congr 1
  omega
theorem ok_shTri (F : L2.Fun M.K "triangle" "Sheet.triangle" sShTri f fd) (T : ShF M A) (Gc : Me M A "check_line" 4 ["self", "line"] (spP (PShChk A))) : FnOk M.P M.w M.K M.mg M.base CX0 5 f fd ["self", "line"] (spP (PShTri A)) := by
  have nd := scShTri.nd
  refine FtR.Fun.okP (k := 4) F scShTri (fun ds d ⟨_, _, _, _, _, _, h, _⟩ => by rw [h]; rfl) fun cdv A0 outer s0 H E hr F D ds d hP hq hn => ?_
  obtain ⟨L, n, w, x, ok, hx, rfl, rfl⟩ := hP
  refine r_expr (x_meth T.cl Gc (v (d := .ins A fSh (shV L w)) 0 rfl) (l1 (v 1 rfl)) rfl ⟨L, n, w, x, ok, hx, rfl, rfl⟩) ?_
  exact r_ret (x_dget (x_fld T.cl T.n2 (v (d := .ins A fSh (shV L w)) 0 rfl) (.dat _ _ _) rfl) (v 1 rfl) (.dat _) (getD_at (ok.1.ord.get hx))) (hq _)
theorem ok_shSides (F : L2.Fun M.K "sides" "Sheet.sides" sShSides f fd) (B : Bl M) (T : ShF M A) (Gc : Me M A "check_line" 4 ["self", "line"] (spP (PShChk A))) : FnOk M.P M.w M.K M.mg M.base CX0 5 f fd ["self", "line"] (spP (PShSides A)) := by
  have nd := scShSides.nd
  refine FtR.Fun.okP (k := 4) F scShSides (fun ds d ⟨_, _, _, _, _, _, h, _⟩ => by rw [h]; rfl) fun cdv A0 outer s0 H E hr F D ds d hP hq hn => ?_
  obtain ⟨L, n, w, x, ok, hx, rfl, rfl⟩ := hP
  refine r_expr (x_meth T.cl Gc (v (d := .ins A fSh (shV L w)) 0 rfl) (l1 (v 1 rfl)) rfl ⟨L, n, w, x, ok, hx, rfl, rfl⟩) ?_
  have ha := abs_ln hx
  refine r_ret (PX.to (x_catT (x_slT (x_dget (x_fld T.cl T.n2 (v (d := .ins A fSh (shV L w)) 0 rfl) (.dat _ _ _) rfl) (x_neg (x_abs B.abs (v 1 rfl))) (.dat _) (getD_at (ok.1.ord.get ha.neg))) (p_some x_int) p_none) (x_slT (x_dget (x_fld T.cl T.n2 (v (d := .ins A fSh (shV L w)) 0 rfl) (.dat _ _ _) rfl) (x_abs B.abs (v 1 rfl)) (.dat _) (getD_at (ok.1.ord.get ha))) (p_some x_int) p_none) ?_) ?_) (hq _)
  · show 2 + 2 ≤ 1000000
    decide
  · rfl
theorem ok_shCan (F : L2.Fun M.K "can_flip" "Sheet.can_flip" sShCan f fd) (T : ShF M A) (Gc : Me M A "check_line" 4 ["self", "line"] (spP (PShChk A))) (Gb : Glob M "triangles_behind" 1 ["parts", "flip"] (spP PBehind)) : FnOk M.P M.w M.K M.mg M.base CX0 5 f fd ["self", "line"] (spP (PShCan A)) := by
  have nd := scShCan.nd
  refine FtR.Fun.okP (k := 4) F scShCan (fun ds d ⟨_, _, _, _, _, _, h, _⟩ => by rw [h]; rfl) fun cdv A0 outer s0 H E hr F D ds d hP hq hn => ?_
  obtain ⟨L, n, w, x, ok, hx, rfl, rfl⟩ := hP
  refine r_expr (x_meth T.cl Gc (v (d := .ins A fSh (shV L w)) 0 rfl) (l1 (v 1 rfl)) rfl ⟨L, n, w, x, ok, hx, rfl, rfl⟩) ?_
  refine r_ret (PX.to (x_not (k := !FtM.can w.f x) (x_ixT (x_call Gb (l2 (x_fld T.cl T.n2 (v (d := .ins A fSh (shV L w)) 0 rfl) (.dat _ _ _) rfl) (v 1 rfl)) ⟨L, w.f, FtM.inOrder w.ts, x, ok.1.ord, hx, rfl, rfl⟩) x_int rfl)) ?_) (hq _)
  rw [Bool.not_not]
theorem ok_shEq (F : L2.Fun M.K "__eq__" "Sheet.__eq__" sShEq f fd) (B : Bl M) (T : ShF M A) (O : IsOwn M.K A) (hm : M.mg "Sheet" = some (.ref A)) : FnOk M.P M.w M.K M.mg M.base CX0 1 f fd ["self", "other"] (spP (PShEq A)) := by
  have nd := scShEq.nd
  refine FtR.Fun.okP (k := 0) F scShEq (fun ds d ⟨_, _, _, _, h, _⟩ => by rw [h]; rfl) fun cdv A0 outer s0 H E hr F D ds d hP hq hn => ?_
  obtain ⟨L, L', w, w', rfl, rfl⟩ := hP
  have S0 : ∀ ts : List Tri, Sh0 2 (.lst (ts.map e3)) := fun ts => Sh0.map fun t => Sh0.eT _
  refine r_when (t := !true) (b_not (b_val (x_isiO O B.isinstance (v (d := .ins A fSh (shV L' w')) 1 rfl) (x_cls hm fun _ => rfl)))) (fun c => absurd c (by decide)) (fun _ => ?_)
  refine r_ret (PX.to (x_and (x_eqD (x_fld T.cl T.n1 (v (d := .ins A fSh (shV L w)) 0 rfl) (.dat _ _ _) rfl) (x_fld T.cl T.n1 (v (d := .ins A fSh (shV L' w')) 1 rfl) (.dat _ _ _) rfl) (S0 _).dat (S0 _).dat ((S0 _).shaped (by decide)) ((S0 _).shaped (by decide))) (fun _ => x_one (x_eqI (x_fld T.cl T.n3 (v (d := .ins A fSh (shV L w)) 0 rfl) (.dat _ _ _) rfl) (x_fld T.cl T.n3 (v (d := .ins A fSh (shV L' w')) 1 rfl) (.dat _ _ _) rfl))) (fun _ => rfl)) ?_) (hq _)
  unfold shEqB
  congr 2
  show PyData.eqvAll (toPs ((FtM.inOrder w.ts).map e3)) (toPs ((FtM.inOrder w'.ts).map e3)) = _
  exact eqv_map eqv_e3 _ _
end
end FtR
/-! instances made with a keyword; methods with a star parameter; new objects handed out; the raw script -/
namespace FtR
open PySem PySem.Spec PyProof.Rows L2
section
variable {C : Cxs} {F : Fr} {e a b c o : Expr} {es : List Expr} {kws : List Keyword} {ds ds1 ds2 : DEnv} {os os1 os2 os3 : Own} {d x y z : Dt} {pos pos' p p2 apos : Pos} {n : Str} {D : Ends} {rest : List Stmt} {k : Nat} {ps : List Str} {xs : List Dt} {A : Addr} {fs : List Str} {f : Str}
/-! ### C(e, .., k = v) -/
structure MkK (M : Mo) (x : Str) (A : Addr) (k : Nat) (ps : List Str) (m : Nat) (ks : List Str) (sp : Sp) : Prop where
  ex : ∃ f fd g, M.mg x = some (.ref A) ∧ Mk M.K A f ∧ FnOk M.P M.w M.K M.mg M.base CX0 k f fd ps sp ∧ KBn M.K fd ps (m + 1) ks g (fun vs zs => vs ++ zs)
theorem x_makeK {M : Mo} {P : List Dt → List Str → List Dt → Prop} {m : Nat} {ks : List Str} {ys zs : List Dt} (G : MkK M n A k ps m ks (spI M.w A P)) (ha : PL C F (a :: es) ds os ys os1) (hb : PKL C F kws ds os1 zs os2) (hp : P (ys ++ zs) fs xs) (hy : ys.length = m) (hz : zs.length = ks.length)
    (h3 : ∀ i, (backToKw pos (keywordEach kws (C.X i).env)).all (·.1.isSome) = true := by intro _; rfl) (h4 : ∀ i, (backToKw pos (keywordEach kws (C.X i).env)).filterMap (·.1) = ks := by intro _; rfl)
    (h5 : ∀ i, ((backTo pos (starEach (a :: es) (C.X i).env)).any (·.1) || (backToKw pos (keywordEach kws (C.X i).env)).any (·.1.isNone)) = false := by intro _; rfl)
    (hg : ∀ i, Gl (C.X i) n := by intro _; rfl) (hdb : (n == ("__debug__" : Str)) = false := by decide) (h1 : St1 C a es := by intro _; rfl) (hk : k + 1 ≤ C.k := by exact Nat.le_of_ble_eq_true rfl) (hM : C.mo = M := by rfl) : PX C F (.Call (.Name n p) (a :: es) kws pos) ds os (.ins A fs xs) os2 := by
  subst hM
  obtain ⟨f, fd, g, hm, mk, hF, hK⟩ := G.ex
  refine px_of (te := tMakeK A m ks.length (spI C.w A P) (fun vs zs => vs ++ zs) E0 (AX C (a :: es)) (KX C kws)) (fun i => pe_makeK (by rw [C.hK i]; exact mk) (fnok_at hF i) ((C.hr i).mono hk) (hg i) (by rw [C.hm i]; exact hm) (by rw [C.hK i]; exact hK) pass0 (pa_AX i) (pk_KX i) (h3 i) (h4 i) hdb (h1 i) (h5 i)) fun B H σ S L Q q =>
    ha B H σ S L _ fun vs B1 H1 e1 S1 i1 => hb B1 H1 σ S1 (L.mono e1) _ fun ws B2 H2 e2 S2 i2 => ⟨by rw [is_len i1, hy], by rw [is_len i2, hz], fun r dx hr hd hne => ?_⟩
  have S3 := S2.made (A := A) hr hd hne
  obtain ⟨h3, _, h4⟩ := S3.get (k := 0) rfl
  refine ⟨B2, r, vs ++ ws, ys ++ zs, fs, xs, rfl, S3.bh, h3, h4, (i1.mono e2).append i2, hp, fun B' H' U hb ho => ⟨rfl, ?_⟩⟩
  have S4 := S3.callM (k := 0) rfl U hb ho
  obtain ⟨dx', vs', h5, h6, h7⟩ := ho
  obtain ⟨h8, h9⟩ := S4.freeze (k := 0) rfl h5
  exact q _ _ _ (e1.trans (e2.trans (U.eB.trans h8))) h9 (is_of_ins upd_same h6 (h7.mono h8))
/-! ### o.m(e, ..), m(self, *v) -/
structure MeR (M : Mo) (A : Addr) (m : Str) (k : Nat) (sp : Sp) : Prop where
  ex : ∃ f, Meth M.K A m f ∧ FnR M.P M.w M.K M.mg M.base CX0 k f sp
theorem fnr_at {k : Nat} {f : Addr} {sp : Sp} (h : FnR C.mo.P C.mo.w C.mo.K C.mo.mg C.mo.base CX0 k f sp) (i : C.ι) : FnR (C.X i).prog (C.X i).w (C.X i).K (C.X i).mg (C.X i).base CX0 k f sp := by
  rw [C.hP i, C.hw i, C.hK i, C.hm i, C.hb i]
  exact h
theorem x_methR {M : Mo} {P : List Dt → Dt → Prop} {ys : List Dt} {pl : C.ι → Sem Bool} (cl : Cls M.K A) (G : MeR M A f k (spP P)) (ho : PX C F o ds os (.ins A fs xs) os1) (ha : PL C F (a :: es) ds os1 ys os2) (hf : fs.all (fun g => !(f == g)) = true) (hp : P (.ins A fs xs :: ys) d)
    (h1 : St1 C a es := by intro _; rfl) (h2 : St2 C es pos := by intro _; rfl) (ht : ∀ i, eval (.Call (.Attribute o f apos) (a :: es) [] pos) (C.X i).env = (do
      let ov ← eval o (C.X i).env
      standAt apos.atName
      let (f, first) ← holding [ov] (getMethod ov f (pl i))
      callWith pos f first (backTo pos (starEach (a :: es) (C.X i).env)) (backToKw pos (keywordEach [] (C.X i).env))) := by intro _; rfl) (hk : k ≤ C.k := by exact Nat.le_of_ble_eq_true rfl) (hM : C.mo = M := by rfl) : PX C F (.Call (.Attribute o f apos) (a :: es) [] pos) ds os d os2 := by
  subst hM
  obtain ⟨g, hm, hF⟩ := G.ex
  refine px_of (te := tMethR A f (spP P) E0 (EX C o) (AX C (a :: es))) (fun i => pe_methR (pe_EX i) (by rw [C.hK i]; exact cl) (by rw [C.hK i]; exact hm) (fnr_at hF i) ((C.hr i).mono hk) pass0 (pa_AX i) (h1 i) (h2 i) (ht i)) fun B H σ S L Q q => ho B H σ S L _ fun v B1 H1 e1 S1 i1 => ?_
  obtain ⟨r, dx, vs, rfl, h2, h3, h4⟩ := is_ins i1
  exact ⟨r, dx, _, rfl, S1.bh _ _ h2, lookup_zip_no hf, ha B1 H1 σ S1 (L.mono e1) _ fun us B2 H2 e2 S2 i2 => ⟨B2, _, d, S2.bh, .cons (i1.mono e2) i2, hp, fun v B' H' U i => q v B' H' ((e1.trans e2).trans U.eB) (S2.call U) i⟩⟩
/-! ### a def that hands out a new object; the raw script -/
theorem r_retN {ob : Ob} (h : PN C F e ds os ob os1) (q : ∀ B H r, Sh C.w F B H ((r, ob) :: os1) → D.rt (.ref r) H) : Run C F (.Return (some e) pos :: rest) D ds os := r_step (fun i => ps_ret (pe_EX i)) fun B H σ S L => h B H σ S L _ fun r B1 H1 e1 S1 => q B1 H1 r S1
/-- xs[lo:hi] of the script -/
theorem n_slRaw {is : List Int} {q : Addr} {lo hi : Option Expr} {l u : Option Int} {p2 : Pos} (hS : SqL C.K F.H q (is.map V.int)) (ha : PX C F a ds os (.adr q) os1) (hl : PP C F lo ds os1 l) (hu : PP C F hi ds os1 u) : PN C F (.Subscript a (.Slice lo hi none p2) pos) ds os (.lst (cutD (is.map Dt.int) l u)) os1 :=
  pn_of (te := tSl (rSlL C.K) (EX C a) (OX C lo) (OX C hi)) (fun j => by rw [← C.hK j]; exact pe_slice (X := C.X j) (pos := pos) (p2 := p2) sl_list (pe_EX j) (po_OX j) (po_OX j)) fun B H σ S L Q qq =>
    ha B H σ S L _ fun v B1 H1 e1 S1 i1 => hl B1 H1 σ S1 (L.mono e1) _ fun B2 H2 e2 S2 => hu B2 H2 σ S2 (L.mono (e1.trans e2)) _ fun B3 H3 e3 S3 =>
      ⟨q, is.map V.int, is_adr i1, Same.seq S3.eH hS, fun p' hp => qq _ _ _ (e1.trans (e2.trans e3)) (S3.newL (cutD_is (IsA.of_ints is)) hp)⟩
/-- from the script a new object -/
def spS (w : World) (K : PySem.W.Frag) (P : List Int → Ob → Prop) : Sp := fun vs H Q _ => ∃ B q is ob, vs = [.ref q] ∧ Same B H ∧ SqL K H q (is.map V.int) ∧ P is ob ∧ ∀ r B' H', Up B H B' H' → H r = none → B' r = none → OwnAt w B' H' r ob → Q (.ref r) H'
theorem Sh.callN {w : World} {B H B' H' : Hp} (S : Sh w F B H os) (U : Up B H B' H') {r : Addr} {ob : Ob} (hr : H r = none) (hb : B' r = none) (ho : OwnAt w B' H' r ob) : Sh w F B' H' ((r, ob) :: os) := by
  have S' := S.call U
  refine ⟨S'.eB, S'.eH, S'.bh, S'.nw, ⟨hb, ho, fun s hs z => ?_, S'.ow⟩, fun q hq => ?_⟩
  · obtain ⟨x, hx⟩ := (S.ow.mem s hs).2.there
    exact ne_of_none hx hr z
  · rcases List.mem_cons.mp hq with rfl | hq
    · exact S.fnone hr
    · exact S'.fr q hq
theorem n_callS {M : Mo} {P : List Int → Ob → Prop} {is : List Int} {q : Addr} {ob : Ob} (hS : SqL C.K F.H q (is.map V.int)) (G : Glob M n k ps (spS M.w M.K P)) (ha : PX C F a ds os (.adr q) os1) (hp : P is ob) (hg : ∀ i, Gl (C.X i) n := by intro _; rfl) (hdb : (n == ("__debug__" : Str)) = false := by decide) (h1 : St1 C a [] := by intro _; rfl) (h2 : St2 C [] pos := by intro _; rfl) (hk : k ≤ C.k := by exact Nat.le_of_ble_eq_true rfl) (hM : C.mo = M := by rfl) : PN C F (.Call (.Name n p) [a] [] pos) ds os ob os1 := by
  subst hM
  obtain ⟨f, hf, ⟨fd, hF, hb⟩, kp⟩ := G
  refine pn_of (fun i => pe_call (ds := []) (dvs := []) (fnok_at hF i) ((C.hr i).mono hk) (hg i) (by rw [C.hm i]; exact hf) (by rw [C.hK i]; exact kp) (by rw [C.hK i]; exact hb) .nil pass0 (pa_AX i) hdb (h1 i) (h2 i)) fun B H σ S L Q qq =>
    l1 ha h1 B H σ S L _ fun vs B1 H1 e1 S1 i1 => ?_
  obtain ⟨u, rfl, h7⟩ := isA1 i1
  exact ⟨B1, q, is, ob, by rw [List.append_nil, is_adr h7], S1.bh, Same.seq S1.eH hS, hp, fun r B' H' U hr hb ho => qq r B' H' (e1.trans U.eB) (S1.callN U hr hb ho)⟩
end
section
variable {M : Mo} {x qual : Str} {st : Stmt} {f : Addr} {fd : FuncData} {N ps : List Str} {k : Nat}
theorem Fun.okS {P : List Int → Ob → Prop} (F : L2.Fun M.K x qual st f fd) (S : FnScope N ps (defScope st)) (h1 : ps.length = 1)
    (body : ∀ (cdv : Value) (A : Around) (outer : List Env) (s : Shared) (H : Hp) (E : XK) (hr : Room k (A.deeper (envOfC qual (defScope st) s.heap.objs.size f cdv))) (F : Fr) (D : Ends) (q : Addr) (is : List Int) (ob : Ob), P is ob → SqL M.K F.H q (is.map V.int) → (∀ B H r, Sh M.w F B H [(r, ob)] → D.rt (.ref r) H) →
      Run (cx0 M k N qual (defScope st) f cdv A outer s H E hr) F (defBody st) D (some (.adr q) :: List.replicate (N.length - 1) none) []) : FnOk M.P M.w M.K M.mg M.base CX0 (k + 1) f fd ps (spS M.w M.K P) := by
  refine F.ok S (fun vs H Q E h => ?_) (fun cdv A outer s H vs Q E hr h => ?_)
  · obtain ⟨B, q, is, ob, rfl, _⟩ := h
    rw [h1]
    rfl
  · obtain ⟨B, p, is, ob, rfl, hB, hS, hp, q⟩ := h
    obtain ⟨t, D', l, h1, h2⟩ := body cdv A outer s H E hr ⟨B, H⟩ { nx := fun _ H' => Q .non H', rt := Q } p is ob hp hS (fun B' H' r S' => q r B' H' S'.toUp (S'.fr _ List.mem_cons_self) (S'.get (k := 0) rfl).1 (S'.get (k := 0) rfl).2.2) B H (L2.start N [V.ref p]) (Sh.start hB) (by rw [start_eq N [V.ref p] 1 rfl]; exact Slots.start (N.length - 1) (.cons Is.mk_adr .nil))
    refine ⟨fun D σ H => ∃ D', Le D' D ∧ t D' σ H, ⟨fun pins s σ H D I hw => ?_⟩, D', l, h2⟩
    obtain ⟨D'', l2, hw⟩ := hw
    exact thn ((h1 ()).run pins s σ H D'' I hw) fun _ _ z => SP.le l2 z
/-- def f(a, *v) -/
theorem Fun.okR {P : List Dt → Dt → Prop} {p1 pv : Str} (F : L2.Fun M.K x qual st f fd) (S : FnScope N ([p1] ++ [pv]) (defScope st)) (hl : ∀ ds d, P ds d → 0 < ds.length ∧ ds.length < 1000)
    (hb : ∀ (kV doc pm : Value) (an : Option Addr) (cdv ct : Value) (us rest : List Value), us.length = [p1].length → bindArgs (PySem.W.fnOf x qual (defArgs st) (defBody st) (defScope st) .none kV doc pm an cdv ct) ⟨us ++ rest, []⟩ = (newTuple rest >>= fun t => pure ([p1].zip us ++ [(pv, t)])))
    (body : ∀ (cdv : Value) (A : Around) (outer : List Env) (s : Shared) (H : Hp) (E : XK) (hr : Room k (A.deeper (envOfC qual (defScope st) s.heap.objs.size f cdv))) (F : Fr) (D : Ends) (d0 : Dt) (ds : List Dt) (d : Dt), P (d0 :: ds) d → (∀ os, RtOk M.w F D.rt d os) →
      Run (cx0 M k N qual (defScope st) f cdv A outer s H E hr) F (defBody st) D (some d0 :: some (.tup ds) :: List.replicate (N.length - 2) none) []) : FnR M.P M.w M.K M.mg M.base CX0 (k + 1) f (spP P) := by
  obtain ⟨oc, od, kV, doc, pm, an, cdv, ct, osl, rfl, lk, hcd⟩ := F.ex
  have key := StX.fn_star (P := M.P) (w := M.w) (mg := M.mg) (base := M.base) (CX := CX0) (sp := fun vs H Q _ => ∃ B d0 ds d, Same B H ∧ IsA B [d0, .tup ds] vs ∧ P (d0 :: ds) d ∧ ∀ v B' H', Up B H B' H' → Is B' d v → Q v H') lk hcd S StX.cxUp_none (hb kV doc pm an cdv ct) (k := k) fun A outer s H vs Q E hr h => ?_
  · refine FnR.imp key fun vs H Q E ⟨B, ds, d, hB, hA, hp, q⟩ => ?_
    obtain ⟨h1, h2⟩ := hl ds d hp
    cases ds with
    | nil => cases h1
    | cons d0 ds =>
      obtain ⟨v0, r, rfl, i0, ir⟩ := hA.inv
      refine ⟨[v0], r, rfl, rfl, ?_, fun p hp' => ?_⟩
      · rw [is_len ir]
        rw [List.length_cons] at h2
        exact sz_ok (by omega)
      have hbn : B p = none := hB.free hp'
      have eB : Same B (upd B p (.tup r)) := Same.upd hbn
      refine ⟨upd B p (.tup r), d0, ds, d, ?_, .cons (i0.mono eB) (.cons (Is.mk_tup upd_same (ir.mono eB)) .nil), hp, fun v B' H' U i => q v B' H' ⟨eB.trans U.eB, (Same.upd hp').trans U.eH, U.bh, fun a ha => ?_⟩ i⟩
      · intro a o ha
        by_cases z : a = p
        · subst z
          rw [upd_same] at ha ⊢
          exact ha
        · rw [upd_ne z] at ha ⊢
          exact hB a o ha
      · have z : a ≠ p := fun z => ha (by rw [z]; exact hp')
        rw [U.nw a (by rw [upd_ne z]; exact ha), upd_ne z]
  · obtain ⟨B, d0, ds, d, hB, hA, hp, q⟩ := h
    obtain ⟨t, D', l, h1, h2⟩ := body cdv A outer s H E hr ⟨B, H⟩ { nx := fun _ H' => Q .non H', rt := Q } d0 ds d hp (fun os B' H' v S' i => q v B' H' S'.toUp i) B H (L2.start N vs) (Sh.start hB) (by rw [start_eq N vs 2 hA.length.symm]; exact Slots.start (N.length - 2) hA)
    refine ⟨fun D σ H => ∃ D', Le D' D ∧ t D' σ H, PSs.nox ⟨fun pins s σ H D I hw => ?_⟩, D', l, h2⟩
    obtain ⟨D'', l2, hw⟩ := hw
    exact thn ((h1 ()).run pins s σ H D'' I hw) fun _ _ z => SP.le l2 z
end
end FtR
/-! the program's sheets: sheet_with, flipped_once -/
namespace FtR
open PySem PySem.Spec PyProof.Rows L2
open FtM (getA putA Tri it orb stp rv ofOrb Per perOf)
abbrev sShW : Stmt := topS 59
abbrev nShW : List Str := ["triangles", "starts", "lines"]
theorem scShW : FnScope nShW ["triangles", "starts"] (defScope sShW) := ⟨rfl, rfl, rfl, by decide +kernel, rfl, by decide +kernel, by decide +kernel⟩
def PShW (A : Addr) (ds : List Dt) (d : Dt) : Prop := ∃ (L n : Nat) (w : WS), GoodS L n w ∧ ds = [.lst (w.ts.map e3), dicOf (eI w.kvs)] ∧ d = eSh A L w
abbrev sShF1 : Stmt := inClass (topS 58) 14
abbrev nShF1 : List Str := ["self", "flip", "at", "one", "other", "refused", "late", "triangle", "starts"]
theorem scShF1 : FnScope nShF1 ["self", "flip", "at"] (defScope sShF1) := ⟨rfl, rfl, rfl, by decide +kernel, rfl, by decide +kernel, by decide +kernel⟩
def PShF1 (A : Addr) (ds : List Dt) (d : Dt) : Prop := ∃ (L n : Nat) (w : WS) (a : Int) (i : Int), OkW L n w ∧ FtM.IsLn L a ∧ FtM.can w.f a = true ∧ ds = [eSh A L w, .int a, .int i] ∧ d = eSh A L (w.turn a)
/-- a sheet as the program holds it -/
noncomputable def WS.nrm (L : Nat) (w : WS) : WS := ⟨w.f, w.e, FtM.inOrder w.ts, FtM.putAll (FtM.endsKv L w.f (FtM.ordL L w.f w.e))⟩
theorem OkW.nrm {L n : Nat} {w : WS} (h : OkW L n w) : GoodS L n (w.nrm L) := FtM.Web.good h.2 h.1.ord
theorem OkW.turn {L n : Nat} {w : WS} {a : Int} (h : OkW L n w) (ha : FtM.IsLn L a) (hc : FtM.can w.f a = true) : OkW L n (w.turn a) := ⟨FtM.turn_reps h.2.tr ha hc h.1, h.2.turn ha hc⟩
theorem eSh_turn {L n : Nat} {w : WS} {a : Int} {A : Addr} (h : OkW L n w) (ha : FtM.IsLn L a) (hc : FtM.can w.f a = true) : eSh A L ((w.nrm L).turn a) = eSh A L (w.turn a) := by
  have e : FtM.inOrder ((w.nrm L).turn a).ts = FtM.inOrder (w.turn a).ts := FtM.Reps.ord_eq (FtM.turn_reps h.2.tr ha hc h.1.ord) (FtM.turn_reps h.2.tr ha hc h.1) (h.2.turn ha hc).tr
  unfold eSh shV
  rw [e]
  rfl
section
variable {M : Mo} {f A : Addr} {fd : FuncData}
theorem ok_shW (F : L2.Fun M.K "sheet_with" "sheet_with" sShW f fd) (Gp : Glob M "parts_of" 2 ["triangles"] (spP PPartsOf)) (Gn : Glob M "nails_met" 2 ["parts"] (spP PNails)) (Gk : MkK M "Sheet" A 6 ["self", "triangles", "order"] 1 ["order"] (spI M.w A PShI)) : FnOk M.P M.w M.K M.mg M.base CX0 8 f fd ["triangles", "starts"] (spP (PShW A)) := by
  have nd := scShW.nd
  refine FtR.Fun.okP (k := 7) F scShW (fun ds d ⟨_, _, _, _, h, _⟩ => by rw [h]; rfl) fun cdv A0 outer s0 H E hr F D ds d hP hq hn => ?_
  obtain ⟨L, n, w, G, rfl, rfl⟩ := hP
  obtain ⟨hL1, hL2⟩ := web_L G.web
  have tl3 := G.reps.len
  have hml := G.web.ord_len
  have hnn := G.web.hn
  refine r_ret (x_makeK (zs := [eL (FtM.ordL L w.f w.e)]) Gk (l1 (v 0 rfl)) (k1 (PX.to (x_ofL (n_lc0 (l := FtM.metL w.f (FtM.lns L)) (enc := eL) (g := fun l => Dt.int (w.e (FtM.hd l))) [("lines", 2)] (fun l => [some (.lst (w.ts.map e3)), some (dicOf (eI w.kvs)), some (eL l)]) (i_list (x_call Gn (l1 (x_call Gp (l1 (v 0 rfl)) ⟨w.ts, by omega, rfl, rfl⟩)) ⟨L, n, w.f, w.e, w.ts, G.reps, G.web, rfl, rfl⟩)) (fun _ => ⟨nd, blkOk_by (N := nShW) (sc := defScope sShW) (by decide +kernel)⟩) (fun l hl F => ⟨_, g_name 2, by simp⟩) (fun l hl F => ?_) (by omega))) ?_)) ⟨L, n, w, G.reps, G.web, rfl, rfl, rfl⟩ rfl rfl) (hq _)
  · obtain ⟨h1, h2, h3, h4⟩ := G.web.met.head G.web hl
    refine x_dget (v 1 rfl) (x_ixI (is := l) (v := FtM.hd l) (v 2 rfl) x_int (.dat _) (by decide) ?_) (.dat _) (getI_at (G.ends _ h1))
    cases l with
    | nil => cases h3
    | cons y l => rfl
  · unfold FtM.ordL eL
    rw [List.map_map]
    rfl
theorem ok_shF1 (F : L2.Fun M.K "flipped_once" "Sheet.flipped_once" sShF1 f fd) (B : Bl M) (T : ShF M A) (Gc : Me M A "can_flip" 5 ["self", "line"] (spP (PShCan A))) (Gb : Glob M "triangles_behind" 1 ["parts", "flip"] (spP PBehind)) (Gw : Glob M "sheet_with" 8 ["triangles", "starts"] (spP (PShW A))) : FnOk M.P M.w M.K M.mg M.base CX0 9 f fd ["self", "flip", "at"] (spP (PShF1 A)) := by
  have nd := scShF1.nd
  refine FtR.Fun.okP (k := 8) F scShF1 (fun ds d ⟨_, _, _, _, _, _, _, _, h, _⟩ => by rw [h]; rfl) fun cdv A0 outer s0 H E hr F D ds d hP hq hn => ?_
  obtain ⟨L, n, w, a, i, ok, ha, hc, rfl, rfl⟩ := hP
  have G := ok.nrm
  have hL := web_L ok.2
  have tl3 := ok.1.ord.len
  have hx := abs_ln ha
  have S := (FtM.flp_of ok.2.tr ha hc).six
  rw [← eSh_turn ok ha hc] at hq
  refine r_when (t := !FtM.can w.f a) (b_not (b_val (x_meth T.cl Gc (v (d := .ins A fSh (shV L w)) 0 rfl) (l1 (v 1 rfl)) rfl ⟨L, n, w, a, ok, ha, rfl, rfl⟩))) (fun c => by rw [hc] at c; exact absurd c (by decide)) (fun _ => ?_)
  obtain ⟨t, u, hb, ht, hu, ht3, hu3, hk⟩ : ∃ t u : Tri, behindT w.f a = [t, u] ∧ t.1 = (a.natAbs : Int) ∧ u.1 = -(a.natAbs : Int) ∧ FtM.IsLn L (-t.2.2) ∧ FtM.IsLn L (-u.2.2) ∧ FtM.turnE w.f a w.e (w.nrm L).kvs = putA (putA (w.nrm L).kvs t.1 (w.e (-t.2.2))) u.1 (w.e (-u.2.2)) := by
    unfold behindT FtM.fresh FtM.turnE
    by_cases h0 : 0 < a
    · rw [if_pos h0, if_pos h0]
      exact ⟨_, _, rfl, rfl, rfl, S.lr.neg, S.lp.neg, rfl⟩
    · rw [if_neg h0, if_neg h0]
      exact ⟨_, _, rfl, rfl, rfl, S.lp.neg, S.lr.neg, rfl⟩
  refine r_asg (d := .tup [e3 t, e3 u, .bl (!FtM.can w.f a)]) ((x_call Gb (l2 (x_fld T.cl T.n2 (v (d := .ins A fSh (shV L w)) 0 rfl) (.dat _ _ _) rfl) (v 1 rfl)) ⟨L, w.f, FtM.inOrder w.ts, a, ok.1.ord, ha, rfl, rfl⟩).to (by rw [hb]; rfl)) (g_tup (gs_cons (g_name 3) (gs_cons (g_name 4) (gs_cons (g_name 5) gs_nil))) rfl) ?_
  refine r_setLc (l := FtM.inOrder w.ts) (enc := e3) (f := fun r => !FtM.has (a.natAbs : Int) r && !FtM.has (-(a.natAbs : Int)) r) (g := e3) [("triangle", 7)] (fun r => [some (eSh A L w), some (.int a), some (.int i), some (e3 t), some (e3 u), some (.bl (!FtM.can w.f a)), none, some (e3 r), none]) 6 (i_list (x_fld T.cl T.n1 (v (d := .ins A fSh (shV L w)) 0 rfl) (.dat _ _ _) rfl)) (fun _ => ⟨nd, blkOk_by (N := nShF1) (sc := defScope sShF1) (by decide +kernel)⟩)
    (fun r hr F => ⟨_, g_name 7, by simp⟩) (fun r hr F => t_one (b_w (w_and (PB.to (b_nin (i := t.1) (is := [r.1, r.2.1, r.2.2]) (x_ixT (v 3 rfl) x_int rfl) (v 7 rfl) (.tup _) rfl) (by rw [ht]; rfl)) (fun _ => w_and1 (PB.to (b_nin (i := u.1) (is := [r.1, r.2.1, r.2.2]) (x_ixT (v 4 rfl) x_int rfl) (v 7 rfl) (.tup _) rfl) (by rw [hu]; rfl))) (fun _ => rfl)))) (fun r hr _ F => v 7 rfl) (by omega) (fun qf => ?_)
  refine r_setN 8 (n_dict B.dict (x_fld T.cl T.n4 (v (d := .ins A fSh (shV L w)) 0 rfl) (.dat _ _ _) rfl) (.dat _)) fun ql => ?_
  have hlen : (w.nrm L).kvs.length = 2 * L := G.ln
  refine r_for (xs := [e3 t, e3 u]) (fun j ds os => ∃ (kv : List (Int × Int)) (r : Option Dt), ds = [some (eSh A L w), some (.int a), some (.int i), some (e3 t), some (e3 u), some (.bl (!FtM.can w.f a)), some (.adr qf), r, some (.adr ql)] ∧
    os = [(ql, odic (eI kv)), (qf, .lst (((FtM.inOrder w.ts).filter fun r => !FtM.has (a.natAbs : Int) r && !FtM.has (-(a.natAbs : Int)) r).map e3))] ∧ kv = ([t, u].take j).foldl (fun m r => putA m r.1 (w.e (-r.2.2))) (w.nrm L).kvs ∧ kv.length ≤ 40 + j) (i_tup (x_tup (l2 (v 3 rfl) (v 4 rfl)))) ⟨(w.nrm L).kvs, none, rfl, rfl, rfl, by omega⟩ ?_ ?_
  · rintro F' lF j d _ _ hd ⟨kv, r0, rfl, rfl, hk, hz⟩
    have hd' : ([t, u].map e3)[j]? = some d := hd
    rw [List.getElem?_map] at hd'
    obtain ⟨r, hr, rfl⟩ := Option.map_eq_some_iff.mp hd'
    have hjl := (List.getElem?_eq_some_iff.mp hr).1
    have hmem := List.mem_of_getElem? hr
    have lr : FtM.IsLn L (-r.2.2) := by
      simp only [List.mem_cons, List.not_mem_nil, or_false] at hmem
      rcases hmem with rfl | rfl
      · exact ht3
      · exact hu3
    refine ⟨_, _, g_name 7, ?_⟩
    refine r_dput (d := .int (w.e (-r.2.2))) 0 (x_dget (x_fld T.cl T.n4 (v (d := .ins A fSh (shV L w)) 0 rfl) (.dat _ _ _) rfl) (x_neg (x_ixT (v 7 rfl) x_int rfl)) (.dat _) (getI_at (G.ends _ lr))) (v 8 rfl) (x_ixT (v 7 rfl) x_int rfl) rfl (by unfold eI; rw [List.length_map]; have h2 : [t, u].length = 2 := rfl; omega) ?_
    rw [putI]
    refine r_loop _ ⟨_, some (e3 r), rfl, rfl, ?_, ?_⟩ (Sub.refl _)
    · rw [fold_snoc hr, ← hk]
    · have := FtM.putA_len kv r.1 (w.e (-r.2.2))
      split at this <;> omega
  · rintro _ _ ⟨kv, r0, rfl, rfl, hk', hz⟩
    have h1 : kv = ((w.nrm L).turn a).kvs := by
      rw [hk']
      show _ = FtM.turnE w.f a w.e (w.nrm L).kvs
      rw [hk]
      rfl
    have h2 : (((FtM.inOrder w.ts).filter fun r => !FtM.has (a.natAbs : Int) r && !FtM.has (-(a.natAbs : Int)) r) ++ [t, u]) = ((w.nrm L).turn a).ts := by
      show _ = FtM.turnT w.f a (FtM.inOrder w.ts)
      unfold FtM.turnT FtM.keepT
      rw [← hb]
      rfl
    have hfl : (((FtM.inOrder w.ts).filter fun r => !FtM.has (a.natAbs : Int) r && !FtM.has (-(a.natAbs : Int)) r)).length ≤ (FtM.inOrder w.ts).length := List.length_filter_le _ _
    refine r_ret (x_call (xs := [.lst (((w.nrm L).turn a).ts.map e3), dicOf (eI kv)]) Gw (l2 (PX.to (x_ofL (n_lst (xs := ((FtM.inOrder w.ts).filter fun r => !FtM.has (a.natAbs : Int) r && !FtM.has (-(a.natAbs : Int)) r).map e3 ++ [e3 t, e3 u]) (l_star (v 6 rfl) (.lst (.own 1 rfl)) (hb := l2 (v 3 rfl) (v 4 rfl))) ?_)) ?_) (x_frozD 0 (v 8 rfl) rfl)) ⟨L, n, (w.nrm L).turn a, G.turn ha hc, ?_, rfl⟩) (hq _)
    · rw [List.length_append, List.length_map]
      show _ + 2 ≤ 1000000
      omega
    · rw [← h2, List.map_append]
      rfl
    · rw [h1]
end
end FtR
/-! the program's weaves -/
namespace FtR
open PySem PySem.Spec PyProof.Rows L2
open FtM (getA putA Tri it orb stp rv ofOrb Per perOf)
abbrev fWv : List Str := ["own_sheet", "own_counts"]
noncomputable def wvV (AS : Addr) (L : Nat) (w : WS) (c : Int → Int) : List Dt := [eSh AS L w, eC L c]
noncomputable def eWv (AS A : Addr) (L : Nat) (w : WS) (c : Int → Int) : Dt := .ins A fWv (wvV AS L w c)
structure WvF (M : Mo) (A : Addr) : Prop where
  cl : Cls M.K A
  n1 : NoAttr M.K A "own_sheet"
  n2 : NoAttr M.K A "own_counts"
/-- a weave: its web, its counts, a bound -/
structure OkC (L n : Nat) (w : WS) (c : Int → Int) (m : Int) : Prop where
  ok : OkW L n w
  fit : FtM.Fit L w.f c
  le : ∀ x, FtM.IsLn L x → c x ≤ m
theorem OkC.bd {L n : Nat} {w : WS} {c : Int → Int} {m : Int} (h : OkC L n w c m) : 9 ≤ L ∧ L ≤ 15 := web_L h.ok.2
abbrev sWvI : Stmt := inClass (topS 32) 0
abbrev nWvI : List Str := ["self", "sheet", "counts", "count", "at", "one", "two", "three"]
theorem scWvI : FnScope nWvI ["self", "sheet", "counts"] (defScope sWvI) := ⟨rfl, rfl, rfl, by decide +kernel, rfl, by decide +kernel, by decide +kernel⟩
def PWvI (AS : Addr) (ds : List Dt) (fs : List Str) (xs : List Dt) : Prop := ∃ (L n : Nat) (w : WS) (c : Int → Int), OkC L n w c 100000 ∧ ds = [eSh AS L w, eC L c] ∧ fs = fWv ∧ xs = wvV AS L w c
abbrev sWvSheet : Stmt := inClass (topS 32) 2
theorem scWvSheet : FnScope nS1 ["self"] (defScope sWvSheet) := ⟨rfl, rfl, rfl, by decide +kernel, rfl, by decide +kernel, by decide +kernel⟩
def PWvSheet (AS A : Addr) (ds : List Dt) (d : Dt) : Prop := ∃ (L : Nat) (w : WS) (c : Int → Int), ds = [eWv AS A L w c] ∧ d = eSh AS L w
abbrev sWvTot : Stmt := inClass (topS 32) 3
theorem scWvTot : FnScope nS1 ["self"] (defScope sWvTot) := ⟨rfl, rfl, rfl, by decide +kernel, rfl, by decide +kernel, by decide +kernel⟩
def PWvTot (AS A : Addr) (ds : List Dt) (d : Dt) : Prop := ∃ (L : Nat) (w : WS) (c : Int → Int), ds = [eWv AS A L w c] ∧ d = .int (rowC L c).sum
abbrev sWvCnt : Stmt := inClass (topS 32) 4
theorem scWvCnt : FnScope nS1 ["self"] (defScope sWvCnt) := ⟨rfl, rfl, rfl, by decide +kernel, rfl, by decide +kernel, by decide +kernel⟩
def PWvCnt (AS A : Addr) (ds : List Dt) (d : Dt) : Prop := ∃ (L : Nat) (w : WS) (c : Int → Int), ds = [eWv AS A L w c] ∧ d = eC L c
abbrev sWvCro : Stmt := inClass (topS 32) 5
theorem scWvCro : FnScope nS2 ["self", "line"] (defScope sWvCro) := ⟨rfl, rfl, rfl, by decide +kernel, rfl, by decide +kernel, by decide +kernel⟩
def PWvCro (AS A : Addr) (ds : List Dt) (d : Dt) : Prop := ∃ (L n : Nat) (w : WS) (c : Int → Int) (x : Int), OkW L n w ∧ (∀ x, c (-x) = c x) ∧ FtM.IsLn L x ∧ ds = [eWv AS A L w c, .int x] ∧ d = .int (c x)
abbrev sWvArc : Stmt := inClass (topS 32) 6
abbrev nWvArc : List Str := ["self", "line", "here", "ahead", "behind", "side"]
theorem scWvArc : FnScope nWvArc ["self", "line"] (defScope sWvArc) := ⟨rfl, rfl, rfl, by decide +kernel, rfl, by decide +kernel, by decide +kernel⟩
def PWvArc (AS A : Addr) (ds : List Dt) (d : Dt) : Prop := ∃ (L n : Nat) (w : WS) (c : Int → Int) (x : Int), OkW L n w ∧ (∀ x, c (-x) = c x) ∧ FtM.IsLn L x ∧ ds = [eWv AS A L w c, .int x] ∧ d = .int (FtM.arc w.f c x)
abbrev sWvEq : Stmt := inClass (topS 32) 15
theorem scWvEq : FnScope ["self", "other"] ["self", "other"] (defScope sWvEq) := ⟨rfl, rfl, rfl, by decide +kernel, rfl, by decide +kernel, by decide +kernel⟩
noncomputable def wvEqB (L L' : Nat) (w w' : WS) (c c' : Int → Int) : Bool := shEqB L L' w w' && decide (rowC L c = rowC L' c')
def PWvEq (AS A : Addr) (ds : List Dt) (d : Dt) : Prop := ∃ (L L' : Nat) (w w' : WS) (c c' : Int → Int), ds = [eWv AS A L w c, eWv AS A L' w' c'] ∧ d = .bl (wvEqB L L' w w' c c')
abbrev sWvBool : Stmt := inClass (topS 32) 16
theorem scWvBool : FnScope ["self", "count"] ["self"] (defScope sWvBool) := ⟨rfl, rfl, rfl, by decide +kernel, rfl, by decide +kernel, by decide +kernel⟩
def PWvBool (AS A : Addr) (ds : List Dt) (d : Dt) : Prop := ∃ (L : Nat) (w : WS) (c : Int → Int), L ≤ 15 ∧ ds = [eWv AS A L w c] ∧ d = .bl ((rowC L c).any fun i => decide (0 < i))
theorem fitB_of {L : Nat} {f c : Int → Int} (T : FtM.Fit L f c) {x : Int} (hx : FtM.IsLn L x) : fitB (c x) (c (f x)) (c (f (f x))) = true := by
  have l1 := T.le x hx
  have l2 := T.le _ (T.tr.ln _ hx)
  have l3 := T.le _ (T.tr.ln _ (T.tr.ln _ hx))
  rw [T.tr.f3 x hx] at l2 l3
  unfold fitB
  rw [decide_eq_true (T.ev x hx), decide_eq_true (by omega)]
  rfl
section
variable {M : Mo} {f AS A : Addr} {fd : FuncData}
theorem ok_wvI (F : L2.Fun M.K "__init__" "Weave.__init__" sWvI f fd) (B : Bl M) (T : WvF M A) (TS : ShF M AS) (Gl : Glob M "is_list" 1 ["value"] (spP PIsList)) (Gn : Glob M "is_number" 1 ["value"] (spP PIsNum)) (Gf : Glob M "do_fit" 1 ["one", "two", "three"] (spP PFits)) (Pl : Pr M AS "lines" 1 (PShLines AS)) (Gt : Me M AS "triangles" 1 ["self"] (spP (PShTris AS))) : FnOk M.P M.w M.K M.mg M.base CX0 3 f fd ["self", "sheet", "counts"] (spI M.w A (PWvI AS)) := by
  have nd := scWvI.nd
  refine FtR.Fun.okI (k := 2) F scWvI (fun ds _ _ ⟨_, _, _, _, _, h, _⟩ => by rw [h]; rfl) fun cdv A0 outer s0 H E hr F D q ds fs xs hP hq => ?_
  obtain ⟨L, n, w, c, O, rfl, rfl, rfl⟩ := hP
  have Ta := T
  obtain ⟨hL1, hL2⟩ := O.bd
  have Ro := O.ok.1.ord
  have tl3 := Ro.len
  refine r_when (t := (!true) || (!decide ((((rowC L c).map Dt.int).length : Int) = (L : Int)))) (b_w (w_or (b_not (b_val (x_call Gl (l1 (v 2 rfl)) ⟨(rowC L c).map Dt.int, .inl rfl, rfl⟩))) (fun _ => w_or1 (b_ne (x_len B.len (v 2 rfl) (.lst (.dat _))) (x_prop TS.cl Pl (v (d := .ins AS fSh (shV L w)) 1 rfl) ⟨L, n, w, O.ok, rfl, rfl⟩))) (fun _ => rfl))) (fun e => ?_) (fun e => ?_)
  · rw [List.length_map, rowC_len, decide_eq_true rfl] at e
    exact absurd e (by decide)
  clear e
  have hnn : ∀ y ∈ rowC L c, 0 ≤ y := fun y hy => by
    obtain ⟨i, hi, rfl⟩ := List.mem_map.mp hy
    have := List.mem_range.mp hi
    exact O.fit.nn _ (by unfold FtM.IsLn; omega)
  refine r_when (t := !(((rowC L c).map fun _ => true).all id)) (b_not (b_val (x_all (bs := (rowC L c).map fun _ => true) B.all (x_ofL (n_lc0 (l := rowC L c) (enc := Dt.int) (g := fun _ => Dt.bl true) [("count", 3)] (fun y => [some (.adr q), some (eSh AS L w), some (eC L c), some (.int y), none, none, none, none]) (i_list (v 2 rfl)) (fun _ => ⟨nd, blkOk_by (N := nWvI) (sc := defScope sWvI) (by decide +kernel)⟩) (fun y hy F => ⟨_, g_name 3, by simp⟩) (fun y hy F => (x_and (k := true) (x_call Gn (l1 (v 3 rfl)) ⟨y, rfl, rfl⟩) (fun _ => x_one (x_ge (v 3 rfl) x_int)) (fun h => nomatch h)).to ?_) (by rw [rowC_len]; omega))) (by rw [List.map_map]; exact .dat _)))) (fun e => ?_) (fun e => ?_)
  · rw [decide_eq_true (hnn y hy)]
    rfl
  · have : ((rowC L c).map fun _ => true).all id = true := by
      rw [List.all_eq_true]
      intro b hb
      obtain ⟨_, _, rfl⟩ := List.mem_map.mp hb
      rfl
    rw [this] at e
    exact absurd e (by decide)
  clear e
  refine r_for (xs := (List.range (FtM.inOrder w.ts).length).map fun (i : Nat) => Dt.tup [.int (i : Int), e3 ((FtM.inOrder w.ts).getD i (0, 0, 0))]) (fun i ds os => ∃ a b e g : Option Dt, ds = [some (.adr q), some (eSh AS L w), some (eC L c), none, a, b, e, g] ∧ os = [(q, .ins A [] [])]) (by rw [← enumD_map]; exact i_enumL B.enumerate (x_meth0 TS.cl Gt (v (d := .ins AS fSh (shV L w)) 1 rfl) rfl ⟨L, n, w, O.ok, rfl, rfl⟩)) ⟨none, none, none, none, rfl, rfl⟩ ?_ ?_
  · rintro F' lF i d _ _ hd ⟨a, b, e, g, rfl, rfl⟩
    rw [List.getElem?_map] at hd
    obtain ⟨x, hx, rfl⟩ := Option.map_eq_some_iff.mp hd
    have hil := (List.getElem?_eq_some_iff.mp hx).1
    rw [List.length_range] at hil
    rw [List.getElem?_range hil] at hx
    cases hx
    have ht : (FtM.inOrder w.ts)[i]? = some ((FtM.inOrder w.ts).getD i (0, 0, 0)) := by
      rw [List.getD_eq_getElem?_getD, List.getElem?_eq_getElem hil]
      rfl
    generalize (FtM.inOrder w.ts).getD i (0, 0, 0) = t at *
    have htm := List.mem_of_getElem? ht
    obtain ⟨a1, a2, a3⟩ := Ro.sub htm
    obtain ⟨r1, r2, r3⟩ := Ro.rot t htm
    have hfit := fitB_of O.fit a1
    rw [r1, r2] at hfit
    have b1 := O.le _ a1
    have b2 := O.le _ a2
    have b3 := O.le _ a3
    have n1 := O.fit.nn _ a1
    refine ⟨_, _, g_tup (gs_cons (g_name 4) (gs_cons (g_tup (gs_cons (g_name 5) (gs_cons (g_name 6) (gs_cons (g_name 7) gs_nil))) rfl) gs_nil)) rfl, ?_⟩
    refine r_when (t := !fitB (c t.1) (c t.2.1) (c t.2.2)) (b_not (b_val (x_call Gf (l3 (x_ixI (v 2 rfl) (x_sub (x_abs B.abs (v 5 rfl)) x_int) (.dat _) (pos1 a1) (rowC_at O.fit.sy a1)) (x_ixI (v 2 rfl) (x_sub (x_abs B.abs (v 6 rfl)) x_int) (.dat _) (pos1 a2) (rowC_at O.fit.sy a2)) (x_ixI (v 2 rfl) (x_sub (x_abs B.abs (v 7 rfl)) x_int) (.dat _) (pos1 a3) (rowC_at O.fit.sy a3))) ⟨_, _, _, rfl, ⟨by omega, by omega⟩, rfl⟩))) (fun e => ?_) (fun e => ?_)
    · rw [hfit] at e
      exact absurd e (by decide)
    · exact r_loop _ ⟨_, _, _, _, rfl, rfl⟩ (Sub.refl _)
  · rintro _ _ ⟨a, b, e, g, rfl, rfl⟩
    refine r_attr (d := eSh AS L w) 0 Ta.cl Ta.n1 (v 1 rfl) (v 0 rfl) rfl rfl (by decide) ?_
    refine r_attr (d := eC L c) 0 Ta.cl Ta.n2 (PX.to (x_ofL (n_list B.list (v 2 rfl) (.lst (.dat _)))) rfl) (v 0 rfl) rfl rfl (by decide) ?_
    exact r_nil fun B H σ S L => hq B H σ _ 0 rfl S
theorem ok_wvSheet (F : L2.Fun M.K "sheet" "Weave.sheet" sWvSheet f fd) (T : WvF M A) : FnOk M.P M.w M.K M.mg M.base CX0 1 f fd ["self"] (spP (PWvSheet AS A)) := by
  have nd := scWvSheet.nd
  refine FtR.Fun.okP (k := 0) F scWvSheet (fun ds d ⟨_, _, _, h, _⟩ => by rw [h]; rfl) fun cdv A0 outer s0 H E hr F D ds d hP hq hn => ?_
  obtain ⟨L, w, c, rfl, rfl⟩ := hP
  exact r_ret (x_fld T.cl T.n1 (v (d := .ins A fWv (wvV AS L w c)) 0 rfl) (.dat _ _ _) rfl) (hq _)
theorem ok_wvTot (F : L2.Fun M.K "total" "Weave.total" sWvTot f fd) (B : Bl M) (T : WvF M A) : FnOk M.P M.w M.K M.mg M.base CX0 1 f fd ["self"] (spP (PWvTot AS A)) := by
  have nd := scWvTot.nd
  refine FtR.Fun.okP (k := 0) F scWvTot (fun ds d ⟨_, _, _, h, _⟩ => by rw [h]; rfl) fun cdv A0 outer s0 H E hr F D ds d hP hq hn => ?_
  obtain ⟨L, w, c, rfl, rfl⟩ := hP
  exact r_ret (x_sum (is := rowC L c) B.sum (x_fld T.cl T.n2 (v (d := .ins A fWv (wvV AS L w c)) 0 rfl) (.dat _ _ _) rfl) (.dat _)) (hq _)
theorem ok_wvCnt (F : L2.Fun M.K "counts" "Weave.counts" sWvCnt f fd) (B : Bl M) (T : WvF M A) : FnOk M.P M.w M.K M.mg M.base CX0 1 f fd ["self"] (spP (PWvCnt AS A)) := by
  have nd := scWvCnt.nd
  refine FtR.Fun.okP (k := 0) F scWvCnt (fun ds d ⟨_, _, _, h, _⟩ => by rw [h]; rfl) fun cdv A0 outer s0 H E hr F D ds d hP hq hn => ?_
  obtain ⟨L, w, c, rfl, rfl⟩ := hP
  exact r_ret (PX.to (x_ofL (n_list B.list (x_fld T.cl T.n2 (v (d := .ins A fWv (wvV AS L w c)) 0 rfl) (.dat _ _ _) rfl) (.lst (.dat _)))) rfl) (hq _)
theorem ok_wvCro (F : L2.Fun M.K "crossings" "Weave.crossings" sWvCro f fd) (B : Bl M) (T : WvF M A) (TS : ShF M AS) (Gc : Me M AS "check_line" 4 ["self", "line"] (spP (PShChk AS))) : FnOk M.P M.w M.K M.mg M.base CX0 5 f fd ["self", "line"] (spP (PWvCro AS A)) := by
  have nd := scWvCro.nd
  refine FtR.Fun.okP (k := 4) F scWvCro (fun ds d ⟨_, _, _, _, _, _, _, _, h, _⟩ => by rw [h]; rfl) fun cdv A0 outer s0 H E hr F D ds d hP hq hn => ?_
  obtain ⟨L, n, w, c, x, ok, sy, hx, rfl, rfl⟩ := hP
  refine r_expr (x_meth TS.cl Gc (x_fld (d := .ins AS fSh (shV L w)) T.cl T.n1 (v (d := .ins A fWv (wvV AS L w c)) 0 rfl) (.dat _ _ _) rfl) (l1 (v 1 rfl)) rfl ⟨L, n, w, x, ok, hx, rfl, rfl⟩) ?_
  exact r_ret (x_ixI (x_fld T.cl T.n2 (v (d := .ins A fWv (wvV AS L w c)) 0 rfl) (.dat _ _ _) rfl) (x_sub (x_abs B.abs (v 1 rfl)) x_int) (.dat _) (pos1 hx) (rowC_at sy hx)) (hq _)
theorem ok_wvArc (F : L2.Fun M.K "arcs" "Weave.arcs" sWvArc f fd) (B : Bl M) (T : WvF M A) (TS : ShF M AS) (Gt : Me M AS "triangle" 5 ["self", "line"] (spP (PShTri AS))) : FnOk M.P M.w M.K M.mg M.base CX0 6 f fd ["self", "line"] (spP (PWvArc AS A)) := by
  have nd := scWvArc.nd
  refine FtR.Fun.okP (k := 5) F scWvArc (fun ds d ⟨_, _, _, _, _, _, _, _, h, _⟩ => by rw [h]; rfl) fun cdv A0 outer s0 H E hr F D ds d hP hq hn => ?_
  obtain ⟨L, n, w, c, x, ok, sy, hx, rfl, rfl⟩ := hP
  have hs : ∀ y ∈ [x, w.f x, w.f (w.f x)], FtM.IsLn L y := fun y hy => by
    simp only [List.mem_cons, List.not_mem_nil, or_false] at hy
    rcases hy with rfl | rfl | rfl
    · exact hx
    · exact ok.2.tr.ln _ hx
    · exact ok.2.tr.ln _ (ok.2.tr.ln _ hx)
  refine r_asg (d := .lst [.int (c x), .int (c (w.f x)), .int (c (w.f (w.f x)))]) (PX.to (x_ofL (n_lc0 (l := [x, w.f x, w.f (w.f x)]) (enc := Dt.int) (g := fun y => Dt.int (c y)) [("side", 5)] (fun y => [some (eWv AS A L w c), some (.int x), none, none, none, some (.int y)]) (i_tup (PX.to (x_meth TS.cl Gt (x_fld (d := .ins AS fSh (shV L w)) T.cl T.n1 (v (d := .ins A fWv (wvV AS L w c)) 0 rfl) (.dat _ _ _) rfl) (l1 (v 1 rfl)) rfl ⟨L, n, w, x, ok, hx, rfl, rfl⟩) rfl)) (fun _ => ⟨nd, blkOk_by (N := nWvArc) (sc := defScope sWvArc) (by decide +kernel)⟩)
    (fun y hy F => ⟨_, g_name 5, by simp⟩) (fun y hy F => x_ixI (x_fld T.cl T.n2 (v (d := .ins A fWv (wvV AS L w c)) 0 rfl) (.dat _ _ _) rfl) (x_sub (x_abs B.abs (v 5 rfl)) x_int) (.dat _) (pos1 (hs y hy)) (rowC_at sy (hs y hy))) (by show 3 ≤ 900000; decide))) rfl) (g_unl (gs_cons (g_name 2) (gs_cons (g_name 3) (gs_cons (g_name 4) gs_nil))) rfl) ?_
  exact r_ret (x_fdiv (x_sub (x_add (v 2 rfl) (v 4 rfl)) (v 3 rfl)) x_int ⟨by decide, by decide⟩) (hq _)
theorem ok_wvEq (F : L2.Fun M.K "__eq__" "Weave.__eq__" sWvEq f fd) (B : Bl M) (T : WvF M A) (O : IsOwn M.K A) (hm : M.mg "Weave" = some (.ref A)) (Ge : EqO M AS 1 (PShEq AS)) (Ps : Pr M A "sheet" 1 (PWvSheet AS A)) (Gc : Me M A "counts" 1 ["self"] (spP (PWvCnt AS A))) : FnOk M.P M.w M.K M.mg M.base CX0 3 f fd ["self", "other"] (spP (PWvEq AS A)) := by
  have nd := scWvEq.nd
  refine FtR.Fun.okP (k := 2) F scWvEq (fun ds d ⟨_, _, _, _, _, _, h, _⟩ => by rw [h]; rfl) fun cdv A0 outer s0 H E hr F D ds d hP hq hn => ?_
  obtain ⟨L, L', w, w', c, c', rfl, rfl⟩ := hP
  refine r_ret (PX.to (x_and (k := true) (x_isiO O B.isinstance (v (d := .ins A fWv (wvV AS L' w' c')) 1 rfl) (x_cls hm fun _ => rfl)) (fun _ => x_and (x_eqO Ge (x_fld (d := .ins AS fSh (shV L w)) T.cl T.n1 (v (d := .ins A fWv (wvV AS L w c)) 0 rfl) (.dat _ _ _) rfl) (PX.to (x_prop T.cl Ps (v (d := .ins A fWv (wvV AS L' w' c')) 1 rfl) ⟨L', w', c', rfl, rfl⟩) rfl) ⟨L, L', w, w', rfl, rfl⟩) (fun _ => x_one (x_eqI (is := rowC L c) (js := rowC L' c') (x_fld T.cl T.n2 (v (d := .ins A fWv (wvV AS L w c)) 0 rfl) (.dat _ _ _) rfl) (x_meth0 T.cl Gc (v (d := .ins A fWv (wvV AS L' w' c')) 1 rfl) rfl ⟨L', w', c', rfl, rfl⟩))) (fun _ => rfl)) (fun h => nomatch h)) ?_) (hq _)
  rw [Bool.true_and]
  rfl
theorem ok_wvBool (F : L2.Fun M.K "__bool__" "Weave.__bool__" sWvBool f fd) (B : Bl M) (T : WvF M A) : FnOk M.P M.w M.K M.mg M.base CX0 1 f fd ["self"] (spP (PWvBool AS A)) := by
  have nd := scWvBool.nd
  refine FtR.Fun.okP (k := 0) F scWvBool (fun ds d ⟨_, _, _, _, h, _⟩ => by rw [h]; rfl) fun cdv A0 outer s0 H E hr F D ds d hP hq hn => ?_
  obtain ⟨L, w, c, hL, rfl, rfl⟩ := hP
  refine r_ret (PX.to (x_any (bs := (rowC L c).map fun i => decide (0 < i)) B.any (x_ofL (n_lc0 (l := rowC L c) (enc := Dt.int) (g := fun i => Dt.bl (decide (0 < i))) [("count", 1)] (fun y => [some (eWv AS A L w c), some (.int y)]) (i_list (x_fld T.cl T.n2 (v (d := .ins A fWv (wvV AS L w c)) 0 rfl) (.dat _ _ _) rfl)) (fun _ => ⟨nd, blkOk_by (N := ["self", "count"]) (sc := defScope sWvBool) (by decide +kernel)⟩) (fun y hy F => ⟨_, g_name 1, by simp⟩) (fun y hy F => x_gt (v 1 rfl) x_int) (by rw [rowC_len]; omega))) (by rw [List.map_map]; exact .dat _)) ?_) (hq _)
  rw [List.any_map]
  rfl
end
end FtR
/-! the program's weaves: flips -/
namespace FtR
open PySem PySem.Spec PyProof.Rows L2
open FtM (getA putA Tri it orb stp rv ofOrb Per perOf)
theorem carC_le {L : Nat} {f c : Int → Int} {m : Int} (T : FtM.Fit L f c) (hm : ∀ x, FtM.IsLn L x → c x ≤ m) {a : Int} (ha : FtM.IsLn L a) {x : Int} (hx : FtM.IsLn L x) (h0 : 0 ≤ m) : carC f c a x ≤ 2 * m := by
  have hb := abs_ln ha
  have p1 := hm _ (T.tr.ln _ hb)
  have p2 := hm _ (T.tr.ln _ (T.tr.ln _ hb))
  have p3 := hm _ (T.tr.ln _ hb.neg)
  have p4 := hm _ (T.tr.ln _ (T.tr.ln _ hb.neg))
  have p5 := hm _ hx
  have p6 := T.nn _ ha
  unfold carC
  split <;> omega
theorem OkC.turn {L n : Nat} {w : WS} {c : Int → Int} {m : Int} (h : OkC L n w c m) {a : Int} (ha : FtM.IsLn L a) (hc : FtM.can w.f a = true) : OkC L n (w.turn a) (carC w.f c a) (2 * m) := by
  have hm0 : 0 ≤ m := Int.le_trans (h.fit.nn _ ha) (h.le _ ha)
  exact ⟨h.ok.turn ha hc, carC_fit h.fit ha hc, fun x hx => carC_le h.fit h.le ha hx hm0⟩
theorem OkC.all {L n : Nat} : ∀ {fl : List Int} {w : WS} {c : Int → Int} {m : Int}, OkC L n w c m → Oks L w fl → OkC L n (w.all fl) (carP w c fl).2 (2 ^ fl.length * m)
  | [], w, c, m, h, _ => by
    rw [List.length_nil, Int.pow_zero, Int.one_mul]
    exact h
  | a :: fl, w, c, m, h, ok => by
    have h2 := OkC.all (fl := fl) (h.turn ok.1 ok.2.1) ok.2.2
    rw [List.length_cons, Int.pow_succ, Int.mul_assoc]
    exact h2
theorem OkC.mono {L n : Nat} {w : WS} {c : Int → Int} {m m' : Int} (h : OkC L n w c m) (l : m ≤ m') : OkC L n w c m' := ⟨h.ok, h.fit, fun x hx => Int.le_trans (h.le x hx) l⟩
abbrev sWvF1 : Stmt := inClass (topS 32) 7
abbrev nWvF1 : List Str := ["self", "flip", "at", "late", "first", "second", "third", "fourth", "counts", "side"]
theorem scWvF1 : FnScope nWvF1 ["self", "flip", "at"] (defScope sWvF1) := ⟨rfl, rfl, rfl, by decide +kernel, rfl, by decide +kernel, by decide +kernel⟩
def PWvF1 (AS A : Addr) (ds : List Dt) (d : Dt) : Prop := ∃ (L n : Nat) (w : WS) (c : Int → Int) (m : Int) (a i : Int), OkC L n w c m ∧ m ≤ 40000 ∧ FtM.IsLn L a ∧ FtM.can w.f a = true ∧ ds = [eWv AS A L w c, .int a, .int i] ∧ d = eWv AS A L (w.turn a) (carC w.f c a)
abbrev sWvFl : Stmt := inClass (topS 32) 8
abbrev nWvFl : List Str := ["self", "flips", "found", "at", "flip"]
theorem scWvFl : FnScope nWvFl ((["self"] : List Str) ++ (["flips"] : List Str)) (defScope sWvFl) := ⟨rfl, rfl, rfl, by decide +kernel, rfl, by decide +kernel, by decide +kernel⟩
def PWvFl (AS A : Addr) (ds : List Dt) (d : Dt) : Prop := ∃ (L n : Nat) (w : WS) (c : Int → Int) (m : Int) (fl : List Int), OkC L n w c m ∧ m ≤ 4000 ∧ fl.length ≤ 3 ∧ Oks L w fl ∧ ds = eWv AS A L w c :: fl.map Dt.int ∧ d = eWv AS A L (w.all fl) (carP w c fl).2
theorem carP_take {w : WS} {c : Int → Int} {fl : List Int} {i : Nat} {a : Int} (h : fl[i]? = some a) : carP w c (fl.take (i + 1)) = carS (carP w c (fl.take i)) a := by
  unfold carP
  rw [List.take_add_one, h, List.foldl_append]
  rfl
section
variable {M : Mo} {f AS A : Addr} {fd : FuncData}
theorem ok_wvF1 (F : L2.Fun M.K "flipped_once" "Weave.flipped_once" sWvF1 f fd) (B : Bl M) (T : WvF M A) (TS : ShF M AS) (Gf : Me M AS "flipped_once" 9 ["self", "flip", "at"] (spP (PShF1 AS))) (Gs : Me M AS "sides" 5 ["self", "line"] (spP (PShSides AS))) (Gm : Mk1 M "Weave" A 3 ["self", "sheet", "counts"] (spI M.w A (PWvI AS))) : FnOk M.P M.w M.K M.mg M.base CX0 10 f fd ["self", "flip", "at"] (spP (PWvF1 AS A)) := by
  have nd := scWvF1.nd
  refine FtR.Fun.okP (k := 9) F scWvF1 (fun ds d ⟨_, _, _, _, _, _, _, _, _, _, _, h, _⟩ => by rw [h]; rfl) fun cdv A0 outer s0 H E hr F D ds d hP hq hn => ?_
  obtain ⟨L, n, w, c, m, a, i, O, hm, ha, hc, rfl, rfl⟩ := hP
  obtain ⟨hL1, hL2⟩ := O.bd
  have hx := abs_ln ha
  have hs : ∀ y ∈ sidesL w.f a, FtM.IsLn L y := fun y hy => by
    unfold sidesL at hy
    simp only [List.mem_cons, List.not_mem_nil, or_false] at hy
    rcases hy with rfl | rfl | rfl | rfl
    · exact O.fit.tr.ln _ hx.neg
    · exact O.fit.tr.ln _ (O.fit.tr.ln _ hx.neg)
    · exact O.fit.tr.ln _ hx
    · exact O.fit.tr.ln _ (O.fit.tr.ln _ hx)
  refine r_set (d := eSh AS L (w.turn a)) 3 (x_meth TS.cl Gf (x_fld (d := .ins AS fSh (shV L w)) T.cl T.n1 (v (d := .ins A fWv (wvV AS L w c)) 0 rfl) (.dat _ _ _) rfl) (l2 (v 1 rfl) (v 2 rfl)) rfl ⟨L, n, w, a, i, O.ok, ha, hc, rfl, rfl⟩) ?_
  refine r_asg (d := .lst ((sidesL w.f a).map fun y => Dt.int (c y))) (PX.to (x_ofL (n_lc0 (l := sidesL w.f a) (enc := Dt.int) (g := fun y => Dt.int (c y)) [("side", 9)] (fun y => [some (eWv AS A L w c), some (.int a), some (.int i), some (eSh AS L (w.turn a)), none, none, none, none, none, some (.int y)]) (i_tup (PX.to (x_meth TS.cl Gs (x_fld (d := .ins AS fSh (shV L w)) T.cl T.n1 (v (d := .ins A fWv (wvV AS L w c)) 0 rfl) (.dat _ _ _) rfl) (l1 (v 1 rfl)) rfl ⟨L, n, w, a, O.ok, ha, rfl, rfl⟩) rfl)) (fun _ => ⟨nd, blkOk_by (N := nWvF1) (sc := defScope sWvF1) (by decide +kernel)⟩)
    (fun y hy F => ⟨_, g_name 9, by simp⟩) (fun y hy F => x_ixI (x_fld T.cl T.n2 (v (d := .ins A fWv (wvV AS L w c)) 0 rfl) (.dat _ _ _) rfl) (x_sub (x_abs B.abs (v 9 rfl)) x_int) (.dat _) (pos1 (hs y hy)) (rowC_at O.fit.sy (hs y hy))) (by show 4 ≤ 900000; decide))) rfl) (g_unl (gs_cons (g_name 4) (gs_cons (g_name 5) (gs_cons (g_name 6) (gs_cons (g_name 7) gs_nil)))) rfl) ?_
  refine r_setN 8 (n_list B.list (x_fld T.cl T.n2 (v (d := .ins A fWv (wvV AS L w c)) 0 rfl) (.dat _ _ _) rfl) (.lst (.dat _))) fun q2 => ?_
  refine r_setix (d := .int (max (c (w.f (-(a.natAbs : Int))) + c (w.f (a.natAbs : Int))) (c (w.f (w.f (-(a.natAbs : Int)))) + c (w.f (w.f (a.natAbs : Int)))) - c a)) (j := a.natAbs - 1) 0
    (x_sub (x_max2 B.max (x_add (v 4 rfl) (v 6 rfl)) (x_add (v 5 rfl) (v 7 rfl))) (x_ixI (v 8 rfl) (x_sub (x_abs B.abs (v 1 rfl)) x_int) (.own 0 rfl) (pos1 ha) (rowC_at O.fit.sy ha))) (v 8 rfl) (x_sub (x_abs B.abs (v 1 rfl)) x_int) rfl ?_ ?_
  · rw [List.length_map, rowC_len]
    have := pos1 ha
    have h2 : a.natAbs ≤ L := by unfold FtM.IsLn at ha; omega
    unfold ixN
    rw [if_pos (by omega), if_pos (by omega)]
    congr 1
    omega
  · refine r_ret (x_make Gm (l2 (v (d := eSh AS L (w.turn a)) 3 rfl) (PX.to (d := eC L (carC w.f c a)) (x_froz 0 (v 8 rfl) rfl) ?_)) ⟨L, n, w.turn a, carC w.f c a, (O.turn ha hc).mono (by omega), rfl, rfl, rfl⟩) (hq _)
    refine congrArg Dt.lst (row_set ha.ne fun i hi => ?_)
    unfold carC
    rfl
theorem ok_wvFl (F : L2.Fun M.K "flipped" "Weave.flipped" sWvFl f fd) (B : Bl M) (T : WvF M A) (Gf : Me M A "flipped_once" 10 ["self", "flip", "at"] (spP (PWvF1 AS A))) : FnR M.P M.w M.K M.mg M.base CX0 11 f (spP (PWvFl AS A)) := by
  have nd := scWvFl.nd
  refine FtR.Fun.okR (k := 10) F scWvFl (fun ds d ⟨_, _, _, _, _, fl, _, _, hz, _, h, _⟩ => by rw [h, List.length_cons, List.length_map]; omega) (fun kV doc pm an cdv ct => StX.bind_star1 (B := fun us => bindArgs (PySem.W.fnOf "flipped" "Weave.flipped" (defArgs sWvFl) (defBody sWvFl) (defScope sWvFl) .none kV doc pm an cdv ct) ⟨us, []⟩) (fun a => rfl) (fun a r rs => rfl)) fun cdv A0 outer s0 H E hr F D d0 ds d hP hq => ?_
  obtain ⟨L, n, w, c, m, fl, O, hm, hz, ok, hds, rfl⟩ := hP
  cases hds
  refine r_set (d := eWv AS A L w c) 2 (v 0 rfl) ?_
  refine r_for (xs := enumD (fl.map Dt.int)) (fun i ds os => ∃ a b : Option Dt, ds = [some (eWv AS A L w c), some (.tup (fl.map Dt.int)), some (eWv AS A L (w.all (fl.take i)) (carP w c (fl.take i)).2), a, b] ∧ os = []) (i_enumT B.enumerate (v 1 rfl)) ⟨none, none, rfl, rfl⟩ ?_ ?_
  · rintro F' lF i d _ _ hd ⟨a, b, rfl, rfl⟩
    unfold enumD at hd
    rw [List.getElem?_map] at hd
    obtain ⟨x, hx, rfl⟩ := Option.map_eq_some_iff.mp hd
    have hil := (List.getElem?_eq_some_iff.mp hx).1
    rw [List.length_range] at hil
    rw [List.getElem?_range hil] at hx
    cases hx
    rw [List.length_map] at hil
    obtain ⟨y, hy⟩ : ∃ y, fl[i]? = some y := ⟨_, List.getElem?_eq_getElem hil⟩
    have e : (fl.map Dt.int).getD i .non = .int y := by
      rw [List.getD_eq_getElem?_getD, List.getElem?_map, hy]
      rfl
    rw [e]
    obtain ⟨ly, cy⟩ := ok.at hy
    have O' := O.all (ok.take i)
    have hm0 : 0 ≤ m := Int.le_trans (O.fit.nn _ ly) (O.le _ ly)
    have h8 : (2 : Int) ^ (fl.take i).length ≤ 8 := by
      have : (fl.take i).length ≤ 3 := by rw [List.length_take]; omega
      generalize (fl.take i).length = k at this
      have : k = 0 ∨ k = 1 ∨ k = 2 ∨ k = 3 := by omega
      rcases this with rfl | rfl | rfl | rfl <;> decide
    have hm' : (2 : Int) ^ (fl.take i).length * m ≤ 40000 := Int.le_trans (Int.mul_le_mul_of_nonneg_right h8 hm0) (by omega)
    refine ⟨_, _, g_tup (gs_cons (g_name 3) (gs_cons (g_name 4) gs_nil)) rfl, ?_⟩
    refine r_set (d := eWv AS A L ((w.all (fl.take i)).turn y) (carC (w.all (fl.take i)).f (carP w c (fl.take i)).2 y)) 2 (x_meth T.cl Gf (v (d := .ins A fWv (wvV AS L (w.all (fl.take i)) (carP w c (fl.take i)).2)) 2 rfl) (l2 (v 4 rfl) (v 3 rfl)) rfl ⟨L, n, _, _, _, y, i, O', hm', ly, cy, rfl, rfl⟩) ?_
    refine r_loop _ ⟨some (.int i), some (.int y), ?_, rfl⟩ (Sub.refl _)
    rw [all_snoc hy, carP_take hy]
    unfold carS
    rw [carP_all]
    rfl
  · rintro _ _ ⟨a, b, rfl, rfl⟩
    refine r_ret (PX.to (v 2 rfl) ?_) (hq _)
    unfold enumD
    rw [List.length_map, List.length_range, List.length_map, List.take_length]
end
end FtR
/-! sums of rows; the first line crossed; the word of a thread -/
namespace FtR
open PySem PySem.Spec PyProof.Rows L2
open FtM (getA putA Tri it orb stp rv ofOrb Per perOf)
theorem sum_map_add {α : Type} (a b : α → Int) : ∀ l : List α, (l.map fun i => a i + b i).sum = (l.map a).sum + (l.map b).sum
  | [] => rfl
  | x :: l => by
    have ih := sum_map_add a b l
    simp only [List.map_cons, List.sum_cons, ih]
    omega
theorem sum_one (y : Int) : ∀ L : Nat, 0 < y.natAbs → ((List.range L).map fun i => if (1 + ((i : Nat) : Int)).natAbs = y.natAbs then (1 : Int) else 0).sum = if y.natAbs ≤ L then 1 else 0
  | 0, h => by
    rw [if_neg (by omega)]
    rfl
  | L + 1, h => by
    have ih := sum_one y L h
    rw [List.range_succ, List.map_append, List.sum_append, ih]
    simp only [List.map_cons, List.map_nil, List.sum_cons, List.sum_nil]
    by_cases h1 : y.natAbs ≤ L
    · rw [if_pos h1, if_neg (by omega), if_pos (by omega)]
      rfl
    · rw [if_neg h1]
      by_cases h2 : y.natAbs = L + 1
      · rw [if_pos (by omega), if_pos (by omega)]
        rfl
      · rw [if_neg (by omega), if_neg (by omega)]
        rfl
theorem len_sum {L : Nat} : ∀ xs : List Int, (∀ x ∈ xs, FtM.IsLn L x) → (rowC L (cntL xs)).sum = (xs.length : Int)
  | [], _ => by
    have : ∀ l : List Nat, (l.map fun i => cntL [] (1 + ((i : Nat) : Int))).sum = 0 := fun l => by
      induction l with
      | nil => rfl
      | cons a l ih =>
        rw [List.map_cons, List.sum_cons, ih]
        rfl
    exact this _
  | y :: xs, h => by
    have ih := len_sum xs fun x hx => h x (List.mem_cons_of_mem _ hx)
    have hy := h y List.mem_cons_self
    unfold rowC at ih ⊢
    have e : (fun i : Nat => cntL (y :: xs) (1 + ((i : Nat) : Int))) = fun i : Nat => (if (1 + ((i : Nat) : Int)).natAbs = y.natAbs then (1 : Int) else 0) + cntL xs (1 + ((i : Nat) : Int)) := by
      funext i
      unfold cntL
      rw [List.countP_cons]
      by_cases hc : y.natAbs = (1 + ((i : Nat) : Int)).natAbs
      · rw [if_pos (by rw [decide_eq_true hc]), if_pos hc.symm]
        omega
      · rw [if_neg (by simpa using hc), if_neg (fun z => hc z.symm)]
        omega
    rw [e, sum_map_add, ih, sum_one y L hy.1, if_pos hy.2, List.length_cons]
    omega
theorem sum_le {m : Int} : ∀ xs : List Int, (∀ x ∈ xs, x ≤ m) → xs.sum ≤ m * xs.length
  | [], _ => by simp
  | x :: xs, h => by
    have ih := sum_le xs fun y hy => h y (List.mem_cons_of_mem _ hy)
    have := h x List.mem_cons_self
    rw [List.sum_cons, List.length_cons, Int.natCast_add, Int.mul_add]
    omega
/-- the first line that is crossed -/
def frstL (L : Nat) (c : Int → Int) : List Int := ((List.range L).filter fun i => decide (0 < c (1 + ((i : Nat) : Int)))).map fun i => 1 + ((i : Nat) : Int)
def frst (L : Nat) (c : Int → Int) : Int := (frstL L c).headD 0
theorem frst_in {L : Nat} {f c : Int → Int} (T : FtM.Fit L f c) (h : ∃ s, FtM.In L c s) : (frstL L c)[0]? = some (frst L c) ∧ FtM.In L c (frst L c, 0) := by
  obtain ⟨s, h1, h2, h3⟩ := h
  have hpos : 0 < c (s.1.natAbs : Int) := by
    have e : c (s.1.natAbs : Int) = c s.1 := by
      by_cases z : 0 ≤ s.1
      · rw [Int.natAbs_of_nonneg z]
      · have : (s.1.natAbs : Int) = -s.1 := by omega
        rw [this, T.sy]
    omega
  have hm : (s.1.natAbs - 1) ∈ (List.range L).filter fun i => decide (0 < c (1 + ((i : Nat) : Int))) := by
    refine List.mem_filter.mpr ⟨List.mem_range.mpr ?_, decide_eq_true ?_⟩
    · unfold FtM.IsLn at h1
      omega
    · have : (1 + (((s.1.natAbs - 1 : Nat)) : Int)) = (s.1.natAbs : Int) := by
        have := h1.1
        omega
      rw [this]
      exact hpos
  unfold frst frstL
  cases hf : (List.range L).filter fun i => decide (0 < c (1 + ((i : Nat) : Int))) with
  | nil =>
    rw [hf] at hm
    cases hm
  | cons a l =>
    have ha : a ∈ (List.range L).filter fun i => decide (0 < c (1 + ((i : Nat) : Int))) := by rw [hf]; exact List.mem_cons_self
    obtain ⟨a1, a2⟩ := List.mem_filter.mp ha
    have a3 := List.mem_range.mp a1
    refine ⟨rfl, ?_, Int.le_refl _, of_decide_eq_true a2⟩
    show FtM.IsLn L (1 + (a : Int))
    unfold FtM.IsLn
    omega
/-- the row of the lines of a thread, its word -/
noncomputable def rowL (L : Nat) (f c : Int → Int) : List Int := (oOrb f c (frst L c, 0)).map Prod.fst
noncomputable def wordL (L : Nat) (f c : Int → Int) : List Int := FtM.wrd (rowL L f c)
section
variable {L : Nat} {f c : Int → Int}
theorem Thr.first (T : FtM.Thr L f c) : FtM.In L c (frst L c, 0) := (frst_in T.fit T.some).2
theorem row_cnt (T : FtM.Thr L f c) {x : Int} (hx : FtM.IsLn L x) : cntL (rowL L f c) x = c x := by
  have h := T.cnt (Thr.first T) (oPer T.fit (Thr.first T)).1 hx
  unfold cntL rowL oOrb
  rw [← h, List.countP_map]
  rfl
theorem row_ln (T : FtM.Thr L f c) : ∀ x ∈ rowL L f c, FtM.IsLn L x := fun x hx => by
  obtain ⟨s, hs, rfl⟩ := List.mem_map.mp hx
  exact (T.fit.orb_in (Thr.first T) hs).1
theorem row_sum (T : FtM.Thr L f c) : (rowC L c).sum = ((rowL L f c).length : Int) := by
  rw [← len_sum _ (row_ln T)]
  congr 1
  exact rowC_ext fun x hx => (row_cnt T hx).symm
theorem row_ne (T : FtM.Thr L f c) : rowL L f c ≠ [] := fun h => by
  have h1 := (oPer T.fit (Thr.first T)).1.pos
  have h2 : (rowL L f c).length = perOf (stp f c) (frst L c, 0) := by
    unfold rowL oOrb
    rw [List.length_map, FtM.orb_len]
  rw [h] at h2
  simp at h2
  omega
theorem row_cyc (T : FtM.Thr L f c) : FtM.Cyc (FtM.Adj f) (rowL L f c) := FtM.adj_orb (oPer T.fit (Thr.first T)).1
theorem any_pos (T : FtM.Thr L f c) : ((rowC L c).any fun i => decide (0 < i)) = true := by
  obtain ⟨h1, h2, h3⟩ := Thr.first T
  have h4 := rowC_at T.fit.sy h1
  exact List.any_eq_true.mpr ⟨_, List.mem_of_getElem? h4, decide_eq_true (by omega)⟩
theorem sts_len {m : Nat} (hb : ∀ x, FtM.IsLn L x → c x ≤ m) : (FtM.sts L c).length ≤ 2 * L * m := by
  have key : ∀ l : List Int, (∀ x ∈ l, FtM.IsLn L x) → (l.flatMap fun x => (List.range (c x).toNat).map fun p => (x, ((p : Nat) : Int))).length ≤ l.length * m := fun l => by
    induction l with
    | nil => intro _; simp
    | cons a l ih =>
      intro h
      have h1 := ih fun x hx => h x (List.mem_cons_of_mem _ hx)
      have h2 := hb a (h a List.mem_cons_self)
      rw [List.flatMap_cons, List.length_append, List.length_map, List.length_range, List.length_cons, Nat.succ_mul]
      omega
  have := key (FtM.lns L) fun x hx => FtM.mem_lns.mp hx
  rwa [FtM.lns_len] at this
end
end FtR
/-! the program's walks; is_thread -/
namespace FtR
open PySem PySem.Spec PyProof.Rows L2
open FtM (getA putA Tri it orb stp rv ofOrb Per perOf)
abbrev sChkT : Stmt := topS 25
theorem scChkT : FnScope ["weave"] ["weave"] (defScope sChkT) := ⟨rfl, rfl, rfl, by decide +kernel, rfl, by decide +kernel, by decide +kernel⟩
def PChkT (AS A : Addr) (ds : List Dt) (d : Dt) : Prop := ∃ (L : Nat) (w : WS) (c : Int → Int), (rowC L c).sum ≤ 5000 ∧ ds = [eWv AS A L w c] ∧ d = .non
abbrev sStep : Stmt := topS 26
abbrev nStep : List Str := ["weave", "line", "at", "ahead", "behind"]
theorem scStep : FnScope nStep ["weave", "line", "at"] (defScope sStep) := ⟨rfl, rfl, rfl, by decide +kernel, rfl, by decide +kernel, by decide +kernel⟩
def PStep (AS A : Addr) (ds : List Dt) (d : Dt) : Prop := ∃ (L n : Nat) (w : WS) (c : Int → Int) (s : Int × Int), OkW L n w ∧ (∀ x, c (-x) = c x) ∧ FtM.IsLn L s.1 ∧ ds = [eWv AS A L w c, .int s.1, .int s.2] ∧ d = eS (stp w.f c s)
abbrev sSteps : Stmt := topS 27
abbrev nSteps : List Str := ["weave", "line", "at", "found", "here"]
theorem scSteps : FnScope nSteps ["weave", "line", "at"] (defScope sSteps) := ⟨rfl, rfl, rfl, by decide +kernel, rfl, by decide +kernel, by decide +kernel⟩
def PSteps (AS A : Addr) (ds : List Dt) (d : Dt) : Prop := ∃ (L n : Nat) (w : WS) (c : Int → Int) (s : Int × Int), OkC L n w c 4000 ∧ FtM.In L c s ∧ ds = [eWv AS A L w c, .int s.1, .int s.2] ∧ d = .lst ((oOrb w.f c s).map eS)
abbrev sFirst : Stmt := topS 28
abbrev nFirst : List Str := ["weave", "lines", "line"]
theorem scFirst : FnScope nFirst ["weave"] (defScope sFirst) := ⟨rfl, rfl, rfl, by decide +kernel, rfl, by decide +kernel, by decide +kernel⟩
def PFirst (AS A : Addr) (ds : List Dt) (d : Dt) : Prop := ∃ (L n : Nat) (w : WS) (c : Int → Int), OkC L n w c 4000 ∧ FtM.Thr L w.f c ∧ ds = [eWv AS A L w c] ∧ d = .lst ((oOrb w.f c (frst L c, 0)).map eS)
abbrev sWord : Stmt := topS 29
abbrev nWord : List Str := ["thread", "steps", "row", "line", "at"]
theorem scWord : FnScope nWord ["thread"] (defScope sWord) := ⟨rfl, rfl, rfl, by decide +kernel, rfl, by decide +kernel, by decide +kernel⟩
def PWord (AS A : Addr) (ds : List Dt) (d : Dt) : Prop := ∃ (L n : Nat) (w : WS) (c : Int → Int), OkC L n w c 4000 ∧ FtM.Thr L w.f c ∧ (rowC L c).sum ≤ 5000 ∧ ds = [eWv AS A L w c] ∧ d = eT (wordL L w.f c)
abbrev sIsThr : Stmt := topS 34
theorem scIsThr : FnScope ["weave"] ["weave"] (defScope sIsThr) := ⟨rfl, rfl, rfl, by decide +kernel, rfl, by decide +kernel, by decide +kernel⟩
def PIsThr (AS A : Addr) (ds : List Dt) (d : Dt) : Prop := ∃ (L n : Nat) (w : WS) (c : Int → Int), OkC L n w c 4000 ∧ FtM.Thr L w.f c ∧ (rowC L c).sum ≤ 5000 ∧ ds = [eWv AS A L w c] ∧ d = .bl true
theorem orb_le {L n : Nat} {w : WS} {c : Int → Int} (O : OkC L n w c 4000) {s : Int × Int} (hs : FtM.In L c s) : Per (stp w.f c) s (perOf (stp w.f c) s) ∧ perOf (stp w.f c) s ≤ 120000 := by
  obtain ⟨hL1, hL2⟩ := O.bd
  obtain ⟨h1, h2⟩ := oPer O.fit hs
  have h3 := sts_len (L := L) (c := c) (m := 4000) fun x hx => by
    have := O.le x hx
    omega
  have h4 : 2 * L * 4000 ≤ 120000 := by omega
  exact ⟨h1, by omega⟩
theorem oOrb_len (f c : Int → Int) (s : FtM.St) : (oOrb f c s).length = perOf (stp f c) s := by
  unfold oOrb
  rw [FtM.orb_len]
section
variable {M : Mo} {f AS A : Addr} {fd : FuncData} {t1 : Tok}
theorem ok_chkT (F : L2.Fun M.K "check_total" "check_total" sChkT f fd) (T : WvF M A) (hm : M.mg "MOST_CROSSINGS" = some (.int 5000 t1)) (Pt : Pr M A "total" 1 (PWvTot AS A)) : FnOk M.P M.w M.K M.mg M.base CX0 3 f fd ["weave"] (spP (PChkT AS A)) := by
  have nd := scChkT.nd
  refine FtR.Fun.okP (k := 2) F scChkT (fun ds d ⟨_, _, _, _, h, _⟩ => by rw [h]; rfl) fun cdv A0 outer s0 H E hr F D ds d hP hq hn => ?_
  obtain ⟨L, w, c, hle, rfl, rfl⟩ := hP
  refine r_when (os1 := []) (t := decide (5000 < (rowC L c).sum)) (b_gt (os1 := []) (x_prop T.cl Pt (v (d := .ins A fWv (wvV AS L w c)) 0 rfl) ⟨L, w, c, rfl, rfl⟩) ?_) (fun e => ?_) (fun _ => r_nil fun B H σ S L => hn rfl B H σ _ S)
  · exact x_glob hm fun _ => rfl
  · rw [decide_eq_false (by omega)] at e
    exact absurd e (by decide)
theorem ok_step (F : L2.Fun M.K "step_from" "step_from" sStep f fd) (T : WvF M A) (TS : ShF M AS) (Ps : Pr M A "sheet" 1 (PWvSheet AS A)) (Gt : Me M AS "triangle" 5 ["self", "line"] (spP (PShTri AS))) (Ga : Me M A "arcs" 6 ["self", "line"] (spP (PWvArc AS A))) (Gc : Me M A "crossings" 5 ["self", "line"] (spP (PWvCro AS A))) : FnOk M.P M.w M.K M.mg M.base CX0 7 f fd ["weave", "line", "at"] (spP (PStep AS A)) := by
  have nd := scStep.nd
  refine FtR.Fun.okP (k := 6) F scStep (fun ds d ⟨_, _, _, _, _, _, _, _, h, _⟩ => by rw [h]; rfl) fun cdv A0 outer s0 H E hr F D ds d hP hq hn => ?_
  obtain ⟨L, n, w, c, s, ok, sy, hx, rfl, rfl⟩ := hP
  have ly := ok.2.tr.ln _ hx
  have lz := ok.2.tr.ln _ ly
  refine r_asg (d := .tup [.int s.1, .int (w.f s.1), .int (w.f (w.f s.1))]) (PX.to (x_meth TS.cl Gt (PX.to (d := .ins AS fSh (shV L w)) (x_prop T.cl Ps (v (d := .ins A fWv (wvV AS L w c)) 0 rfl) ⟨L, w, c, rfl, rfl⟩) rfl) (l1 (v 1 rfl)) rfl ⟨L, n, w, s.1, ok, hx, rfl, rfl⟩) rfl) (g_tup (gs_cons (g_name 1) (gs_cons (g_name 3) (gs_cons (g_name 4) gs_nil))) rfl) ?_
  refine r_when (t := decide (s.2 < FtM.arc w.f c s.1)) (b_lt (v 2 rfl) (x_meth T.cl Ga (v (d := .ins A fWv (wvV AS L w c)) 0 rfl) (l1 (v 1 rfl)) rfl ⟨L, n, w, c, s.1, ok, sy, hx, rfl, rfl⟩)) (fun e => ?_) (fun e => ?_)
  · refine r_ret (PX.to (x_tup (l2 (x_neg (v 4 rfl)) (v 2 rfl))) ?_) (hq _)
    rw [FtM.stp_lt (of_decide_eq_true e)]
    rfl
  · refine r_ret (PX.to (x_tup (l2 (x_neg (v 3 rfl)) (x_sub (x_add (v 2 rfl) (x_meth T.cl Gc (v (d := .ins A fWv (wvV AS L w c)) 0 rfl) (l1 (v 3 rfl)) rfl ⟨L, n, w, c, w.f s.1, ok, sy, ly, rfl, rfl⟩)) (x_meth T.cl Gc (v (d := .ins A fWv (wvV AS L w c)) 0 rfl) (l1 (v 1 rfl)) rfl ⟨L, n, w, c, s.1, ok, sy, hx, rfl, rfl⟩)))) ?_) (hq _)
    rw [FtM.stp_ge (of_decide_eq_false e)]
    rfl
theorem ok_steps (F : L2.Fun M.K "steps_of" "steps_of" sSteps f fd) (Gs : Glob M "step_from" 7 ["weave", "line", "at"] (spP (PStep AS A))) : FnOk M.P M.w M.K M.mg M.base CX0 8 f fd ["weave", "line", "at"] (spP (PSteps AS A)) := by
  have nd := scSteps.nd
  refine FtR.Fun.okP (k := 7) F scSteps (fun ds d ⟨_, _, _, _, _, _, _, h, _⟩ => by rw [h]; rfl) fun cdv A0 outer s0 H E hr F D ds d hP hq hn => ?_
  obtain ⟨L, n, w, c, s, O, hs, rfl, rfl⟩ := hP
  obtain ⟨hper, hz⟩ := orb_le O hs
  have h0 := hper.pos
  have hin : ∀ i, FtM.In L c (it (stp w.f c) i s) := fun i => it_in O.fit hs i
  have st : ∀ i, stp w.f c (it (stp w.f c) i s) = it (stp w.f c) (i + 1) s := fun i => rfl
  refine r_parND 3 4 (n_lst (l1 (PX.to (x_tup (l2 (v 1 rfl) (v 2 rfl))) (rfl : _ = eS s)))) (fun q => PX.to (d := eS (it (stp w.f c) 1 s)) (x_call Gs (l3 (v 0 rfl) (v 1 rfl) (v 2 rfl)) ⟨L, n, w, c, s, O.ok, O.fit.sy, hs.1, rfl, rfl⟩) rfl) fun q => ?_
  generalize hN : perOf (stp w.f c) s = N at *
  refine r_while (fun m ds os => ∃ i, m = N - i ∧ 1 ≤ i ∧ i ≤ N ∧ ds = [some (eWv AS A L w c), some (.int s.1), some (.int s.2), some (.adr q), some (eS (it (stp w.f c) i s))] ∧ os = [(q, .lst ((orb (stp w.f c) s i).map eS))]) (N - 1) ⟨1, rfl, Nat.le_refl _, h0, rfl, rfl⟩ ?_
  rintro m _ _ ⟨i, rfl, h1, h2, rfl, rfl⟩
  refine ⟨_, _, b_neTI (is := [(it (stp w.f c) i s).1, (it (stp w.f c) i s).2]) (js := [s.1, s.2]) (v 4 rfl) (PX.to (x_tup (l2 (v 1 rfl) (v 2 rfl))) rfl), fun e => ?_, fun e => ?_⟩
  · have hne : it (stp w.f c) i s ≠ s := fun h => by
      rw [h, decide_eq_true rfl] at e
      exact absurd e (by decide)
    have hi : i < N := by
      rcases Nat.lt_or_ge i N with h | h
      · exact h
      · have : i = N := by omega
        subst this
        exact absurd hper.end_ hne
    refine r_expr (x_append 0 (v 3 rfl) (v 4 rfl) ⟨_, rfl⟩ rfl (by rw [List.length_map, FtM.orb_len]; omega)) ?_
    refine r_set (d := eS (it (stp w.f c) (i + 1) s)) 4 (PX.to (x_call Gs (l3 (v 0 rfl) (x_ixT (xs := [.int (it (stp w.f c) i s).1, .int (it (stp w.f c) i s).2]) (v 4 rfl) x_int rfl) (x_ixT (xs := [.int (it (stp w.f c) i s).1, .int (it (stp w.f c) i s).2]) (v 4 rfl) x_int rfl)) ⟨L, n, w, c, it (stp w.f c) i s, O.ok, O.fit.sy, (hin i).1, rfl, rfl⟩) rfl) ?_
    refine r_loop _ ⟨N - (i + 1), by omega, i + 1, rfl, by omega, by omega, rfl, ?_⟩ (Sub.refl _)
    rw [FtM.orb_succ, List.map_append]
    rfl
  · have hi : i = N := by
      rcases Nat.lt_or_ge i N with h | h
      · exfalso
        have hne := hper.min i (by omega) h
        rw [decide_eq_false fun z => hne (by
          have z1 := List.head_eq_of_cons_eq z
          have z2 := List.head_eq_of_cons_eq (List.tail_eq_of_cons_eq z)
          exact Prod.ext z1 z2)] at e
        exact absurd e (by decide)
      · omega
    subst hi
    refine r_ret (PX.to (x_froz 0 (v 3 rfl) rfl) ?_) (hq _)
    unfold oOrb
    rw [hN]
theorem ok_first (F : L2.Fun M.K "first_round" "first_round" sFirst f fd) (B : Bl M) (T : WvF M A) (TS : ShF M AS) (Ps : Pr M A "sheet" 1 (PWvSheet AS A)) (Pl : Pr M AS "lines" 1 (PShLines AS)) (Gc : Me M A "crossings" 5 ["self", "line"] (spP (PWvCro AS A))) (Gs : Glob M "steps_of" 8 ["weave", "line", "at"] (spP (PSteps AS A))) : FnOk M.P M.w M.K M.mg M.base CX0 9 f fd ["weave"] (spP (PFirst AS A)) := by
  have nd := scFirst.nd
  refine FtR.Fun.okP (k := 8) F scFirst (fun ds d ⟨_, _, _, _, _, _, h, _⟩ => by rw [h]; rfl) fun cdv A0 outer s0 H E hr F D ds d hP hq hn => ?_
  obtain ⟨L, n, w, c, O, H1, rfl, rfl⟩ := hP
  obtain ⟨hL1, hL2⟩ := O.bd
  refine r_setLc (l := List.range ((L : Int) + 1 - 1).toNat) (enc := fun i => Dt.int (1 + ((i : Nat) : Int))) (f := fun i => decide (0 < c (1 + ((i : Nat) : Int)))) (g := fun i => Dt.int (1 + ((i : Nat) : Int))) [("line", 2)] (fun i => [some (eWv AS A L w c), none, some (.int (1 + ((i : Nat) : Int)))]) 1 (i_rng2 B.range x_int (x_add (x_prop TS.cl Pl (PX.to (d := .ins AS fSh (shV L w)) (x_prop T.cl Ps (v (d := .ins A fWv (wvV AS L w c)) 0 rfl) ⟨L, w, c, rfl, rfl⟩) rfl) ⟨L, n, w, O.ok, rfl, rfl⟩) x_int) ⟨by omega, by omega, by omega, by omega⟩) (fun _ => ⟨nd, blkOk_by (N := nFirst) (sc := defScope sFirst) (by decide +kernel)⟩)
    (fun i hi F => ⟨_, g_name 2, by simp⟩) (fun i hi F => t_one (b_gt (x_meth T.cl Gc (v (d := .ins A fWv (wvV AS L w c)) 0 rfl) (l1 (v 2 rfl)) rfl ⟨L, n, w, c, _, O.ok, O.fit.sy, rg_ln hi, rfl, rfl⟩) x_int)) (fun i hi _ F => v 2 rfl) (by rw [rg_len]; omega) (fun q => ?_)
  obtain ⟨f1, f2⟩ := frst_in O.fit H1.some
  refine r_ret (x_call Gs (l3 (v 0 rfl) (x_ixI (is := frstL L c) (v := frst L c) (v 1 rfl) x_int (.own 0 ?_) (by decide) f1) x_int) ⟨L, n, w, c, (frst L c, 0), O, f2, rfl, rfl⟩) (hq _)
  · unfold frstL
    rw [List.map_map, show ((L : Int) + 1 - 1).toNat = L by omega]
    rfl
theorem ok_word (F : L2.Fun M.K "word" "word" sWord f fd) (B : Bl M) (T : WvF M A) (Gc : Glob M "check_total" 3 ["weave"] (spP (PChkT AS A))) (Gf : Glob M "first_round" 9 ["weave"] (spP (PFirst AS A))) (Gb : TrO M A 1 (PWvBool AS A)) (Pt : Pr M A "total" 1 (PWvTot AS A)) (Gl : Glob M "least_turn" 1 ["items"] (spP PLeast)) (Gk : Glob M "backwards" 1 ["items"] (spP PBkw)) : FnOk M.P M.w M.K M.mg M.base CX0 10 f fd ["thread"] (spP (PWord AS A)) := by
  have nd := scWord.nd
  refine FtR.Fun.okP (k := 9) F scWord (fun ds d ⟨_, _, _, _, _, _, _, h, _⟩ => by rw [h]; rfl) fun cdv A0 outer s0 H E hr F D ds d hP hq hn => ?_
  obtain ⟨L, n, w, c, O, H1, hle, rfl, rfl⟩ := hP
  obtain ⟨hL1, hL2⟩ := O.bd
  have hsum := row_sum H1
  have hne := row_ne H1
  have hlen : ((oOrb w.f c (frst L c, 0)).map eS).length = (rowL L w.f c).length := by
    unfold rowL
    rw [List.length_map, List.length_map]
  have hpos : 0 < (rowL L w.f c).length := List.length_pos_iff.mpr hne
  have hle2 : (rowL L w.f c).length ≤ 5000 := by omega
  refine r_expr (x_call Gc (l1 (v 0 rfl)) ⟨L, w, c, hle, rfl, rfl⟩) ?_
  refine r_set (d := .lst ((oOrb w.f c (frst L c, 0)).map eS)) 1 (x_if (k := true) (PB.to (b_tru Gb (v (d := .ins A fWv (wvV AS L w c)) 0 rfl) ⟨L, w, c, hL2, rfl, rfl⟩) (any_pos H1)) (fun _ => x_call Gf (l1 (v 0 rfl)) ⟨L, n, w, c, O, H1, rfl, rfl⟩) (fun h => nomatch h)) ?_
  refine r_when (t := decide ((((oOrb w.f c (frst L c, 0)).map eS).length : Int) = 0) || (!decide ((((oOrb w.f c (frst L c, 0)).map eS).length : Int) = (rowC L c).sum))) (b_w (w_or (b_eq (x_len B.len (v 1 rfl) (.lst (.dat _))) x_int) (fun _ => w_or1 (b_ne (x_len B.len (v 1 rfl) (.lst (.dat _))) (x_prop T.cl Pt (v (d := .ins A fWv (wvV AS L w c)) 0 rfl) ⟨L, w, c, rfl, rfl⟩))) (fun _ => rfl))) (fun e => ?_) (fun e => ?_)
  · rw [hlen, decide_eq_false (by omega), decide_eq_true hsum.symm] at e
    exact absurd e (by decide)
  refine r_setLc0 (l := oOrb w.f c (frst L c, 0)) (enc := eS) (g := fun s => Dt.int s.1) [("line", 3), ("at", 4)] (fun s => [some (eWv AS A L w c), some (.lst ((oOrb w.f c (frst L c, 0)).map eS)), none, some (.int s.1), some (.int s.2)]) 2 (i_list (v 1 rfl)) (fun _ => ⟨nd, blkOk_by (N := nWord) (sc := defScope sWord) (by decide +kernel)⟩)
    (fun s hs F => ⟨_, g_tup (xs := [.int s.1, .int s.2]) (gs_cons (g_name 3) (gs_cons (g_name 4) gs_nil)) rfl, by simp⟩) (fun s hs F => v 3 rfl) (by rw [List.length_map] at hlen; omega) fun q => ?_
  have hrow : (oOrb w.f c (frst L c, 0)).map (fun s => Dt.int s.1) = (rowL L w.f c).map Dt.int := by
    unfold rowL
    rw [List.map_map]
    rfl
  rw [hrow]
  refine r_freeze (us := (rowL L w.f c).map Dt.int) 2 0 rfl rfl ?_
  exact r_ret (x_min2T (r := FtM.lt1 (rowL L w.f c)) (t := FtM.lt1 (FtM.bkw (rowL L w.f c))) B.min (x_call Gl (l1 (v 2 rfl)) ⟨rowL L w.f c, .inl rfl, by omega, rfl⟩) (x_call Gl (l1 (x_call Gk (l1 (v 2 rfl)) ⟨rowL L w.f c, .inl rfl, by omega, rfl⟩)) ⟨FtM.bkw (rowL L w.f c), .inr rfl, by rw [FtM.bkw_len]; omega, rfl⟩)) (hq _)
theorem ok_isThr (F : L2.Fun M.K "is_thread" "is_thread" sIsThr f fd) (B : Bl M) (T : WvF M A) (Gc : Glob M "check_total" 3 ["weave"] (spP (PChkT AS A))) (Gf : Glob M "first_round" 9 ["weave"] (spP (PFirst AS A))) (Gb : TrO M A 1 (PWvBool AS A)) (Pt : Pr M A "total" 1 (PWvTot AS A)) : FnOk M.P M.w M.K M.mg M.base CX0 10 f fd ["weave"] (spP (PIsThr AS A)) := by
  have nd := scIsThr.nd
  refine FtR.Fun.okP (k := 9) F scIsThr (fun ds d ⟨_, _, _, _, _, _, _, h, _⟩ => by rw [h]; rfl) fun cdv A0 outer s0 H E hr F D ds d hP hq hn => ?_
  obtain ⟨L, n, w, c, O, H1, hle, rfl, rfl⟩ := hP
  obtain ⟨hL1, hL2⟩ := O.bd
  have hsum := row_sum H1
  have hlen : ((oOrb w.f c (frst L c, 0)).map eS).length = (rowL L w.f c).length := by
    unfold rowL
    rw [List.length_map, List.length_map]
  refine r_expr (x_call Gc (l1 (v 0 rfl)) ⟨L, w, c, hle, rfl, rfl⟩) ?_
  refine r_ret (PX.to (x_and (k := true) (PX.to (x_boolO Gb B.bool (v (d := .ins A fWv (wvV AS L w c)) 0 rfl) ⟨L, w, c, hL2, rfl, rfl⟩) (congrArg Dt.bl (any_pos H1))) (fun _ => x_one (x_eq (x_len B.len (x_call Gf (l1 (v 0 rfl)) ⟨L, n, w, c, O, H1, rfl, rfl⟩) (.lst (.dat _))) (x_prop T.cl Pt (v (d := .ins A fWv (wvV AS L w c)) 0 rfl) ⟨L, w, c, rfl, rfl⟩))) (fun h => nomatch h)) ?_) (hq _)
  rw [hlen, decide_eq_true hsum.symm]
  rfl
end
end FtR
/-! the word of a thread as a path -/
namespace FtR
open PySem PySem.Spec PyProof.Rows L2
open FtM (getA putA Tri it orb stp rv ofOrb Per perOf)
/-- a path's step -/
def Pth (L : Nat) (f : Int → Int) (u v : Int) : Prop := FtM.IsLn L u ∧ FtM.IsLn L v ∧ FtM.Adj f u v
theorem rot_perm (r : List Int) (i : Nat) : (FtM.rot r i).Perm r := by
  unfold FtM.rot
  have h : (r.drop i ++ r.take i).Perm (r.take i ++ r.drop i) := List.perm_append_comm
  rwa [List.take_append_drop] at h
theorem cnt_perm {r t : List Int} (h : r.Perm t) (x : Int) : cntL r x = cntL t x := by
  unfold cntL
  rw [h.countP_eq]
theorem cnt_bkw (r : List Int) (x : Int) : cntL (FtM.bkw r) x = cntL r x := by
  unfold cntL FtM.bkw
  rw [List.countP_reverse, List.countP_map]
  congr 1
  refine List.countP_congr fun y _ => ?_
  show decide ((-y).natAbs = x.natAbs) = true ↔ _
  rw [Int.natAbs_neg]
section
variable {L : Nat} {f c : Int → Int}
theorem word_is (T : FtM.Thr L f c) : ∃ t, (t = rowL L f c ∨ t = FtM.bkw (rowL L f c)) ∧ ∃ i, i < t.length ∧ wordL L f c = FtM.rot t i := FtM.wrd_is (row_ne T)
theorem word_cnt (T : FtM.Thr L f c) {x : Int} (hx : FtM.IsLn L x) : cntL (wordL L f c) x = c x := by
  obtain ⟨t, ht, i, hi, e⟩ := word_is T
  rw [e, cnt_perm (rot_perm t i)]
  rcases ht with rfl | rfl
  · exact row_cnt T hx
  · rw [cnt_bkw]
    exact row_cnt T hx
theorem word_ln (T : FtM.Thr L f c) : ∀ x ∈ wordL L f c, FtM.IsLn L x := fun x hx => by
  obtain ⟨t, ht, i, hi, e⟩ := word_is T
  rw [e] at hx
  have hx := (rot_perm t i).mem_iff.mp hx
  rcases ht with rfl | rfl
  · exact row_ln T x hx
  · unfold FtM.bkw at hx
    obtain ⟨y, hy, rfl⟩ := List.mem_map.mp (List.mem_reverse.mp hx)
    exact (row_ln T y hy).neg
theorem word_len (T : FtM.Thr L f c) : (wordL L f c).length = (rowL L f c).length := by
  obtain ⟨t, ht, i, hi, e⟩ := word_is T
  rw [e, (rot_perm t i).length_eq]
  rcases ht with rfl | rfl
  · rfl
  · exact FtM.bkw_len _
theorem word_ne (T : FtM.Thr L f c) : wordL L f c ≠ [] := fun h => by
  have h1 := word_len T
  rw [h] at h1
  exact row_ne T (List.eq_nil_of_length_eq_zero h1.symm)
theorem word_lt1 (T : FtM.Thr L f c) : FtM.lt1 (wordL L f c) = wordL L f c := FtM.wrd_lt1 (row_ne T)
theorem word_cyc (T : FtM.Thr L f c) : FtM.Cyc (Pth L f) (wordL L f c) := by
  have hr : FtM.Cyc (Pth L f) (rowL L f c) := fun i u v hu hv => ⟨row_ln T u (List.mem_of_getElem? hu), row_ln T v (List.mem_of_getElem? hv), row_cyc T i u v hu hv⟩
  obtain ⟨t, ht, i, hi, e⟩ := word_is T
  rw [e]
  refine FtM.Cyc.rot ?_ hi
  rcases ht with rfl | rfl
  · exact hr
  · exact FtM.Cyc.bkw hr fun u v ⟨h1, h2, h3⟩ => ⟨h2.neg, h1.neg, FtM.adj_bkw T.fit.tr h1 h3⟩
theorem Pth.nb (T : FtM.Tr L f) {u v : Int} (h : Pth L f u v) : u ≠ -v := fun z => by
  obtain ⟨h1, h2, h3⟩ := h
  have n1 := T.ne u h1
  have n2 := T.ne2 h1
  rcases h3 with h3 | h3
  · rw [h3, Int.neg_neg] at z
    exact n1 (by rw [← z])
  · rw [h3, Int.neg_neg] at z
    exact n2 (by rw [← z])
theorem Pth.mem (T : FtM.Tr L f) {u v : Int} (h : Pth L f u v) : -v ∈ [u, f u, f (f u)] := by
  obtain ⟨h1, h2, h3⟩ := h
  rcases h3 with h3 | h3
  · rw [h3, Int.neg_neg]
    simp
  · rw [h3, Int.neg_neg]
    simp
end
/-- what stands ahead, around -/
theorem cyc_prev {R : Int → Int → Prop} {r : List Int} (h : FtM.Cyc R r) {i : Nat} {v : Int} (hv : r[i]? = some v) : ∃ u, atI r ((i : Int) - 1) = some u ∧ R u v := by
  have hil := (List.getElem?_eq_some_iff.mp hv).1
  have key : ∀ j, j < r.length → (j + 1) % r.length = i → ixN r.length ((i : Int) - 1) = some j → ∃ u, atI r ((i : Int) - 1) = some u ∧ R u v := fun j hj e1 e2 => by
    refine ⟨r[j], ?_, h j _ v (List.getElem?_eq_getElem hj) (by rw [e1]; exact hv)⟩
    unfold atI
    rw [e2]
    exact List.getElem?_eq_getElem hj
  unfold ixN at key
  rcases Nat.eq_zero_or_pos i with h0 | h0
  · subst h0
    refine key (r.length - 1) (by omega) (by rw [show r.length - 1 + 1 = r.length by omega, Nat.mod_self]) ?_
    rw [if_neg (by omega), if_pos (by omega)]
    congr 1
    omega
  · refine key (i - 1) (by omega) (by rw [show i - 1 + 1 = i by omega, Nat.mod_eq_of_lt hil]) ?_
    rw [if_pos (by omega), if_pos (by omega)]
    congr 1
    omega
end FtR
/-! the program's paths: check_path, tightened, tight, weave_of, thread_of -/
namespace FtR
open PySem PySem.Spec PyProof.Rows L2
open FtM (getA putA Tri it orb stp rv ofOrb Per perOf)
theorem atI_map {α β : Type} {g : α → β} {xs : List α} {i : Int} {a : α} (h : atI xs i = some a) : atI (xs.map g) i = some (g a) := by
  unfold atI at h ⊢
  rw [List.length_map]
  cases hx : ixN xs.length i with
  | none =>
    rw [hx] at h
    cases h
  | some j =>
    rw [hx] at h
    show (xs.map g)[j]? = some (g a)
    have h' : xs[j]? = some a := h
    rw [List.getElem?_map, h']
    rfl
theorem enumI (r : List Int) : enumD (r.map Dt.int) = (List.range r.length).map fun (i : Nat) => Dt.tup [.int (i : Int), .int (r.getD i 0)] := by
  unfold enumD
  rw [List.length_map]
  refine List.map_congr_left fun i hi => ?_
  have := List.mem_range.mp hi
  rw [List.getD_eq_getElem?_getD, List.getElem?_map, List.getElem?_eq_getElem this, List.getD_eq_getElem?_getD, List.getElem?_eq_getElem this]
  rfl
theorem enumI_at {r : List Int} {i : Nat} {d : Dt} (h : (enumD (r.map Dt.int))[i]? = some d) : ∃ y, r[i]? = some y ∧ d = .tup [.int (i : Int), .int y] := by
  rw [enumI, List.getElem?_map] at h
  obtain ⟨x, hx, rfl⟩ := Option.map_eq_some_iff.mp h
  have hil := (List.getElem?_eq_some_iff.mp hx).1
  rw [List.length_range] at hil
  rw [List.getElem?_range hil] at hx
  cases hx
  refine ⟨r[i], List.getElem?_eq_getElem hil, ?_⟩
  rw [List.getD_eq_getElem?_getD, List.getElem?_eq_getElem hil]
  rfl
abbrev sChkP : Stmt := topS 36
abbrev nChkP : List Str := ["sheet", "path", "at", "line"]
theorem scChkP : FnScope nChkP ["sheet", "path"] (defScope sChkP) := ⟨rfl, rfl, rfl, by decide +kernel, rfl, by decide +kernel, by decide +kernel⟩
def PChkP (AS : Addr) (ds : List Dt) (d : Dt) : Prop := ∃ (L n : Nat) (w : WS) (r : List Int), OkW L n w ∧ (∀ x ∈ r, FtM.IsLn L x) ∧ FtM.Cyc (Pth L w.f) r ∧ ds = [eSh AS L w, eT r] ∧ d = .non
abbrev sTig : Stmt := topS 37
abbrev nTig : List Str := ["path", "row", "line", "start", "stop"]
theorem scTig : FnScope nTig ["path"] (defScope sTig) := ⟨rfl, rfl, rfl, by decide +kernel, rfl, by decide +kernel, by decide +kernel⟩
def PTig (ds : List Dt) (d : Dt) : Prop := ∃ r : List Int, FtM.Cyc (fun u v => u ≠ -v) r ∧ r.length ≤ 100000 ∧ ds = [eT r] ∧ d = eT (FtM.lt1 r)
abbrev sTight : Stmt := topS 38
theorem scTight : FnScope ["sheet", "path"] ["sheet", "path"] (defScope sTight) := ⟨rfl, rfl, rfl, by decide +kernel, rfl, by decide +kernel, by decide +kernel⟩
def PTight (AS : Addr) (ds : List Dt) (d : Dt) : Prop := ∃ (L n : Nat) (w : WS) (r : List Int), OkW L n w ∧ (∀ x ∈ r, FtM.IsLn L x) ∧ FtM.Cyc (Pth L w.f) r ∧ r.length ≤ 100000 ∧ ds = [eSh AS L w, eT r] ∧ d = eT (FtM.lt1 r)
abbrev sWvOf : Stmt := topS 39
abbrev nWvOf : List Str := ["sheet", "row", "counts", "line"]
theorem scWvOf : FnScope nWvOf ["sheet", "row"] (defScope sWvOf) := ⟨rfl, rfl, rfl, by decide +kernel, rfl, by decide +kernel, by decide +kernel⟩
def PWvOf (AS A : Addr) (ds : List Dt) (d : Dt) : Prop := ∃ (L n : Nat) (w : WS) (c : Int → Int) (r : List Int), OkC L n w c 4000 ∧ (∀ x ∈ r, FtM.IsLn L x) ∧ (∀ x, FtM.IsLn L x → cntL r x = c x) ∧ ds = [eSh AS L w, eT r] ∧ d = eWv AS A L w c
abbrev sThrOf : Stmt := topS 44
abbrev nThrOf : List Str := ["sheet", "row", "found"]
theorem scThrOf : FnScope nThrOf ["sheet", "row"] (defScope sThrOf) := ⟨rfl, rfl, rfl, by decide +kernel, rfl, by decide +kernel, by decide +kernel⟩
def PThrOf (AS A : Addr) (ds : List Dt) (d : Dt) : Prop := ∃ (L n : Nat) (w : WS) (c : Int → Int), OkC L n w c 4000 ∧ FtM.Thr L w.f c ∧ (rowC L c).sum ≤ 5000 ∧ ds = [eSh AS L w, eT (wordL L w.f c)] ∧ d = eWv AS A L w c
section
variable {M : Mo} {f AS A : Addr} {fd : FuncData}
theorem ok_chkP (F : L2.Fun M.K "check_path" "check_path" sChkP f fd) (B : Bl M) (TS : ShF M AS) (Gi : Glob M "is_list" 1 ["value"] (spP PIsList)) (Gl : Glob M "is_line" 3 ["value", "most"] (spP PIsLine)) (Pl : Pr M AS "lines" 1 (PShLines AS)) (Gt : Me M AS "triangle" 5 ["self", "line"] (spP (PShTri AS))) : FnOk M.P M.w M.K M.mg M.base CX0 6 f fd ["sheet", "path"] (spP (PChkP AS)) := by
  have nd := scChkP.nd
  refine FtR.Fun.okP (k := 5) F scChkP (fun ds d ⟨_, _, _, _, _, _, _, h, _⟩ => by rw [h]; rfl) fun cdv A0 outer s0 H E hr F D ds d hP hq hn => ?_
  obtain ⟨L, n, w, r, ok, hln, hc, rfl, rfl⟩ := hP
  refine r_when (t := !true) (b_not (b_val (x_call Gi (l1 (v 1 rfl)) ⟨r.map Dt.int, .inr rfl, rfl⟩))) (fun e => absurd e (by decide)) (fun _ => ?_)
  refine r_for (xs := enumD (r.map Dt.int)) (fun i ds os => ∃ a b : Option Dt, ds = [some (eSh AS L w), some (eT r), a, b] ∧ os = []) (i_enumT B.enumerate (v (d := .tup (r.map Dt.int)) 1 rfl)) ⟨none, none, rfl, rfl⟩ ?_ ?_
  · rintro F' lF i d _ _ hd ⟨a, b, rfl, rfl⟩
    obtain ⟨y, hy, rfl⟩ := enumI_at hd
    refine ⟨_, _, g_tup (gs_cons (g_name 2) (gs_cons (g_name 3) gs_nil)) rfl, ?_⟩
    refine r_when (t := !true) (b_not (b_val (x_call Gl (l2 (v 3 rfl) (x_prop TS.cl Pl (v (d := .ins AS fSh (shV L w)) 0 rfl) ⟨L, n, w, ok, rfl, rfl⟩)) ⟨L, y, hln y (List.mem_of_getElem? hy), rfl, rfl⟩))) (fun e => absurd e (by decide)) (fun _ => ?_)
    exact r_loop _ ⟨_, _, rfl, rfl⟩ (Sub.refl _)
  · rintro _ _ ⟨a, b, rfl, rfl⟩
    refine r_for (xs := enumD (r.map Dt.int)) (fun i ds os => ∃ a b : Option Dt, ds = [some (eSh AS L w), some (eT r), a, b] ∧ os = []) (i_enumT B.enumerate (v (d := .tup (r.map Dt.int)) 1 rfl)) ⟨_, _, rfl, rfl⟩ ?_ ?_
    · rintro F' lF i d _ _ hd ⟨a, b, rfl, rfl⟩
      obtain ⟨y, hy, rfl⟩ := enumI_at hd
      obtain ⟨u, hu, hp⟩ := cyc_prev hc hy
      refine ⟨_, _, g_tup (gs_cons (g_name 2) (gs_cons (g_name 3) gs_nil)) rfl, ?_⟩
      refine r_when (t := !decide (-y ∈ [u, w.f u, w.f (w.f u)])) (b_nin (is := [u, w.f u, w.f (w.f u)]) (x_neg (v 3 rfl)) (x_meth TS.cl Gt (v (d := .ins AS fSh (shV L w)) 0 rfl) (l1 (x_ixT (xs := r.map Dt.int) (v 1 rfl) (x_sub (v 2 rfl) x_int) (atI_map hu))) rfl ⟨L, n, w, u, ok, hp.1, rfl, rfl⟩) (.tup _) rfl) (fun e => ?_) (fun _ => r_loop _ ⟨_, _, rfl, rfl⟩ (Sub.refl _))
      rw [decide_eq_true (hp.mem ok.2.tr)] at e
      exact absurd e (by decide)
    · rintro _ _ ⟨a, b, rfl, rfl⟩
      exact r_nil fun B H σ S L => hn rfl B H σ _ S
theorem ok_tig (F : L2.Fun M.K "tightened" "tightened" sTig f fd) (B : Bl M) (Gl : Glob M "least_turn" 1 ["items"] (spP PLeast)) : FnOk M.P M.w M.K M.mg M.base CX0 2 f fd ["path"] (spP PTig) := by
  have nd := scTig.nd
  refine FtR.Fun.okP (k := 1) F scTig (fun ds d ⟨_, _, _, h, _⟩ => by rw [h]; rfl) fun cdv A0 outer s0 H E hr F D ds d hP hq hn => ?_
  obtain ⟨r, hc, hz, rfl, rfl⟩ := hP
  refine r_setN 1 (n_lst l_nil) fun q => ?_
  refine r_for (xs := r.map Dt.int) (fun i ds os => ∃ a : Option Dt, ds = [some (eT r), some (.adr q), a, none, none] ∧ os = [(q, .lst ((r.take i).map Dt.int))]) (i_tup (v 0 rfl)) ⟨none, rfl, rfl⟩ ?_ ?_
  · rintro F' lF i d _ _ hd ⟨a, rfl, rfl⟩
    rw [List.getElem?_map] at hd
    obtain ⟨y, hy, rfl⟩ := Option.map_eq_some_iff.mp hd
    have hil := (List.getElem?_eq_some_iff.mp hy).1
    refine ⟨_, _, g_name 2, ?_⟩
    have htl : (r.take i).length = i := by rw [List.length_take]; omega
    refine r_if (t := false) (PB.to (u := (!((r.take i).map Dt.int).isEmpty) && decide ((r.getD (i - 1) 0) = -y)) (b_w (w_and (b_ne0 (k := 1) (v 1 rfl) (x_ofL (n_lst l_nil)) (.own 0 rfl) (Sh0.eL _)) (fun e => w_and1 (b_eq (x_ixL (v 1 rfl) (x_neg x_int) (.own 0 rfl) ?_) (x_neg (v 2 rfl)))) (fun _ => rfl))) ?_) (fun e => nomatch e) (fun _ => ?_)
    · have hne : 0 < i := by
        rcases Nat.eq_zero_or_pos i with h | h
        · subst h
          rw [List.take_zero] at e
          exact absurd e (by decide)
        · exact h
      unfold atI ixN
      rw [List.length_map, htl, if_neg (by decide), if_pos (by omega)]
      show ((r.take i).map Dt.int)[_]? = _
      rw [List.getElem?_map, List.getElem?_take, if_pos (by omega), show (-1 + (i : Int)).toNat = i - 1 by omega, List.getElem?_eq_getElem (by omega), List.getD_eq_getElem?_getD, List.getElem?_eq_getElem (by omega)]
      rfl
    · rcases Nat.eq_zero_or_pos i with h | h
      · subst h
        rfl
      · obtain ⟨u, hu, hp⟩ := cyc_prev hc hy
        unfold atI ixN at hu
        rw [if_pos (by omega), if_pos (by omega)] at hu
        have hu' : r[((i : Int) - 1).toNat]? = some u := hu
        rw [show ((i : Int) - 1).toNat = i - 1 by omega] at hu'
        rw [List.getD_eq_getElem?_getD, hu']
        show (_ && decide (u = -y)) = false
        rw [decide_eq_false hp, Bool.and_false]
    · refine r_expr (x_append 0 (v 1 rfl) (v 2 rfl) ⟨_, rfl⟩ rfl (by rw [List.length_map]; omega)) ?_
      refine r_end (r_loop _ ⟨some (.int y), rfl, ?_⟩ (Sub.refl _))
      rw [List.take_add_one, hy, List.map_append]
      rfl
  · rintro _ _ ⟨a, rfl, rfl⟩
    rw [List.length_map, List.take_length]
    refine r_parDD 3 4 x_int (x_len B.len (v 1 rfl) (.lst (.own 0 rfl))) ?_
    refine r_while (fun m ds os => ds = [some (eT r), some (.adr q), a, some (.int 0), some (.int ((r.map Dt.int).length : Int))] ∧ os = [(q, .lst (r.map Dt.int))]) 0 ⟨rfl, rfl⟩ ?_
    rintro m _ _ ⟨rfl, rfl⟩
    refine ⟨false, [(q, .lst (r.map Dt.int))], PB.to (u := decide ((2 : Int) ≤ ((r.map Dt.int).length : Int) - 0) && decide (r.getD 0 0 = -r.getD (r.length - 1) 0)) (b_w (w_and (b_ge (x_sub (v 4 rfl) (v 3 rfl)) x_int) (fun e => w_and1 (b_eq (x_ixI (is := r) (v 1 rfl) (v 3 rfl) (.own 0 rfl) (by decide) ?_) (x_neg (x_ixI (is := r) (v 1 rfl) (x_sub (v 4 rfl) x_int) (.own 0 rfl) ?_ ?_)))) (fun _ => rfl))) ?_, fun e => (nomatch e), fun _ => ?_⟩
    · have h2 := of_decide_eq_true e
      rw [List.length_map] at h2
      show r[0]? = _
      rw [List.getD_eq_getElem?_getD, List.getElem?_eq_getElem (by omega)]
      rfl
    · have h2 := of_decide_eq_true e
      rw [List.length_map] at h2 ⊢
      omega
    · have h2 := of_decide_eq_true e
      rw [List.length_map] at h2 ⊢
      rw [show ((r.length : Int) - 1).toNat = r.length - 1 by omega, List.getD_eq_getElem?_getD, List.getElem?_eq_getElem (by omega)]
      rfl
    · by_cases h2 : (2 : Int) ≤ ((r.map Dt.int).length : Int) - 0
      · rw [List.length_map] at h2
        have h0 : r[0]? = some (r.getD 0 0) := by
          rw [List.getD_eq_getElem?_getD, List.getElem?_eq_getElem (by omega)]
          rfl
        obtain ⟨u, hu, hp⟩ := cyc_prev hc h0
        unfold atI ixN at hu
        rw [if_neg (by decide), if_pos (by omega)] at hu
        have hu' : r[((0 : Nat) : Int) - 1 + (r.length : Int) |>.toNat]? = some u := hu
        rw [show (((0 : Nat) : Int) - 1 + (r.length : Int)).toNat = r.length - 1 by omega] at hu'
        rw [List.getD_eq_getElem?_getD (l := r) (i := r.length - 1), hu']
        have hf : ¬ r.getD 0 0 = -u := fun z => hp (by omega)
        show (_ && decide (r.getD 0 0 = -u)) = false
        rw [decide_eq_false hf, Bool.and_false]
      · rw [decide_eq_false h2, Bool.false_and]
    · refine r_ret (x_call Gl (l1 (PX.to (d := eL r) (x_ofL (n_slL (v 1 rfl) (.own 0 rfl) (p_some (v 3 rfl)) (p_some (v 4 rfl)))) ?_)) ⟨r, .inl rfl, hz, rfl⟩) (hq _)
      unfold cutD eL
      rw [show (0 : Int) = ((0 : Nat) : Int) from rfl, HT.sIx_nat, HT.sIx_nat, Nat.min_self, Nat.zero_min, List.drop_zero, Nat.sub_zero, List.take_length]
theorem ok_tight (F : L2.Fun M.K "tight" "tight" sTight f fd) (Gc : Glob M "check_path" 6 ["sheet", "path"] (spP (PChkP AS))) (Gt : Glob M "tightened" 2 ["path"] (spP PTig)) : FnOk M.P M.w M.K M.mg M.base CX0 7 f fd ["sheet", "path"] (spP (PTight AS)) := by
  have nd := scTight.nd
  refine FtR.Fun.okP (k := 6) F scTight (fun ds d ⟨_, _, _, _, _, _, _, _, h, _⟩ => by rw [h]; rfl) fun cdv A0 outer s0 H E hr F D ds d hP hq hn => ?_
  obtain ⟨L, n, w, r, ok, hln, hc, hz, rfl, rfl⟩ := hP
  refine r_expr (x_call Gc (l2 (v 0 rfl) (v 1 rfl)) ⟨L, n, w, r, ok, hln, hc, rfl, rfl⟩) ?_
  exact r_ret (x_call Gt (l1 (v 1 rfl)) ⟨r, fun i u v hu hv => (hc i u v hu hv).nb ok.2.tr, hz, rfl, rfl⟩) (hq _)
theorem ok_wvOf (F : L2.Fun M.K "weave_of" "weave_of" sWvOf f fd) (B : Bl M) (TS : ShF M AS) (Pl : Pr M AS "lines" 1 (PShLines AS)) (Gm : Mk1 M "Weave" A 3 ["self", "sheet", "counts"] (spI M.w A (PWvI AS))) : FnOk M.P M.w M.K M.mg M.base CX0 5 f fd ["sheet", "row"] (spP (PWvOf AS A)) := by
  have nd := scWvOf.nd
  refine FtR.Fun.okP (k := 4) F scWvOf (fun ds d ⟨_, _, _, _, _, _, _, _, h, _⟩ => by rw [h]; rfl) fun cdv A0 outer s0 H E hr F D ds d hP hq hn => ?_
  obtain ⟨L, n, w, c, r, O, hln, hcnt, rfl, rfl⟩ := hP
  obtain ⟨hL1, hL2⟩ := O.bd
  refine r_setN (ob := .lst (List.replicate (L : Int).toNat (.int 0))) 2 (n_rep (d := .int 0) (x_ofL (n_lst (l1 x_int))) (x_prop TS.cl Pl (v (d := .ins AS fSh (shV L w)) 0 rfl) ⟨L, n, w, O.ok, rfl, rfl⟩) (.dat _) ⟨by omega, by omega⟩) fun q => ?_
  rw [zero_row]
  refine r_for (xs := r.map Dt.int) (fun i ds os => ∃ t : Option Dt, ds = [some (eSh AS L w), some (eT r), some (.adr q), t] ∧ os = [(q, .lst ((rowC L (cntL (r.take i))).map Dt.int))]) (i_tup (v 1 rfl)) ⟨none, rfl, rfl⟩ ?_ ?_
  · rintro F' lF i d _ _ hd ⟨t, rfl, rfl⟩
    rw [List.getElem?_map] at hd
    obtain ⟨x, hx, rfl⟩ := Option.map_eq_some_iff.mp hd
    have lx := hln x (List.mem_of_getElem? hx)
    refine ⟨_, _, g_name 3, ?_⟩
    have hj := rowC_at (cntL_neg (r.take i)) lx
    refine r_augix (i := (x.natAbs : Int) - 1) (u := cntL (r.take i) x) (v := 1) 0 (v 2 rfl) (x_sub (x_abs B.abs (v 3 rfl)) x_int) x_int rfl (pos1 lx) (by rw [List.getElem?_map, hj]; rfl) ?_
    refine r_loop _ ⟨some (.int x), rfl, ?_⟩ (Sub.refl _)
    show [(q, Ob.lst (((rowC L (cntL (r.take i))).map Dt.int).set ((x.natAbs : Int) - 1).toNat (.int (cntL (r.take i) x + 1))))] = _
    rw [show ((x.natAbs : Int) - 1).toNat = x.natAbs - 1 by omega, row_set (k := cntL (r.take (i + 1))) lx.ne fun i' hi => ?_]
    unfold cntL
    rw [List.take_add_one, hx, List.countP_append]
    show ((_ + List.countP _ [x] : Nat) : Int) = _
    rw [List.countP_singleton]
    by_cases e : (1 + (i' : Int)).natAbs = x.natAbs
    · rw [if_pos e, if_pos (decide_eq_true e.symm), e]
      rfl
    · rw [if_neg e, if_neg (by rw [decide_eq_false fun h => e h.symm]; exact Bool.false_ne_true)]
      rfl
  · rintro _ _ ⟨t, rfl, rfl⟩
    rw [List.length_map, List.take_length]
    refine r_ret (x_make Gm (l2 (v (d := eSh AS L w) 0 rfl) (PX.to (d := eC L c) (x_froz 0 (v 2 rfl) rfl) ?_)) ⟨L, n, w, c, O.mono (by decide), rfl, rfl, rfl⟩) (hq _)
    unfold eC eL
    rw [rowC_ext hcnt]
theorem ok_thrOf (F : L2.Fun M.K "thread_of" "thread_of" sThrOf f fd) (Gw : Glob M "weave_of" 5 ["sheet", "row"] (spP (PWvOf AS A))) (Gi : Glob M "is_thread" 10 ["weave"] (spP (PIsThr AS A))) (Gd : Glob M "word" 10 ["thread"] (spP (PWord AS A))) (Gs : Glob M "same_round" 2 ["one", "other"] (spP PSame)) : FnOk M.P M.w M.K M.mg M.base CX0 11 f fd ["sheet", "row"] (spP (PThrOf AS A)) := by
  have nd := scThrOf.nd
  refine FtR.Fun.okP (k := 10) F scThrOf (fun ds d ⟨_, _, _, _, _, _, _, h, _⟩ => by rw [h]; rfl) fun cdv A0 outer s0 H E hr F D ds d hP hq hn => ?_
  obtain ⟨L, n, w, c, O, T, hle, rfl, rfl⟩ := hP
  have hwl : (wordL L w.f c).length ≤ 100000 := by
    have h1 := word_len T
    have h2 := row_sum T
    omega
  refine r_set (d := eWv AS A L w c) 2 (x_call Gw (l2 (v 0 rfl) (v 1 rfl)) ⟨L, n, w, c, wordL L w.f c, O, word_ln T, fun x hx => word_cnt T hx, rfl, rfl⟩) ?_
  refine r_when (t := (!true) || (!(decide (FtM.lt1 (wordL L w.f c) = FtM.lt1 (wordL L w.f c)) || decide (FtM.lt1 (FtM.bkw (wordL L w.f c)) = FtM.lt1 (wordL L w.f c))))) (b_w (w_or (b_not (b_val (x_call Gi (l1 (v 2 rfl)) ⟨L, n, w, c, O, T, hle, rfl, rfl⟩))) (fun _ => w_or1 (b_not (b_val (x_call Gs (l2 (x_call Gd (l1 (v 2 rfl)) ⟨L, n, w, c, O, T, hle, rfl, rfl⟩) (v 1 rfl)) ⟨wordL L w.f c, wordL L w.f c, rfl, hwl, hwl, rfl⟩)))) (fun _ => rfl))) (fun e => ?_) (fun _ => r_ret (v 2 rfl) (hq _))
  rw [decide_eq_true (rfl : FtM.lt1 (wordL L w.f c) = FtM.lt1 (wordL L w.f c)), Bool.true_or] at e
  exact absurd e (by decide)
end
end FtR
/-! super().__init__(e, ..) -/
namespace FtR
open PySem PySem.Spec PyProof.Rows L2
/-- a method that says super(): its closure's class C, the base's method at f2 -/
structure SupOk (M : Mo) (x qual : Str) (st : Stmt) (f : Addr) (fd : FuncData) (C f2 : Addr) (m : Str) : Prop where
  ex : ∃ (oc : Value) (od : Option Addr) (kV doc pm : Value) (an : Option Addr) (c : Addr) (ct : Value) (osl : Array (Option Value)) (cc : Addr) (ccl : Value) (cdd : Option Addr) (vs : Array Value) (ccs : Array (Option Value)) (file : Str) (tf : Tok) (cl : Value) (cld : Option Addr) (csl : Array (Option Value)),
    fd = PySem.W.fnX x qual (defArgs st) (defBody st) (defScope st) [("__class__", cc)] .none kV doc pm an (.ref c) ct ∧ M.K.lookup f = some ⟨oc, od, .func fd, osl⟩ ∧ PySem.W.codeIn M.K (.ref c) qual = true ∧
    M.K.lookup c = some ⟨ccl, cdd, .fields vs, ccs⟩ ∧ vs[2]? = some (.str file tf) ∧ ((M.P.main.file : Str) == file) = true ∧ M.K.lookup cc = some ⟨cl, cld, .cell (some (.ref C)), csl⟩
  cd : ∃ cd, PySem.W.clsIn M.K C = some cd
  sub : PySem.W.mroIn M.K C (.ref C) = some true
  sup : M.mg "super" = none
  opq : PySem.W.nsIn M.K cStatics "thirdparty.any" = some none
  base : PySem.W.ks_superIn M.K C C m = some (some (.ref f2))
  ty : PySem.W.typeIn M.K (.ref f2) = some (.type "function")
  fi : PySem.W.fnIn M.K f2 = true
  top : (M.P.main.scope.names.lookup ("super" : Str)).isSome = false
abbrev supNF (x qual : Str) (st : Stmt) (c cc : Addr) : NdefX.NF := ⟨x, qual, defArgs st, defBody st, defScope st, [("__class__", cc)], c⟩
abbrev supX (M : Mo) (N : List Str) (x qual : Str) (st : Stmt) (c cc f : Addr) (A : Around) (outer : List Env) (s : Shared) (H : Hp) (E : XK) : Cx := (NdefX.ncx CX0 M.P M.w M.K M.mg M.base N (supNF x qual st c cc) f A outer s H E).nox
theorem fn_super {M : Mo} {x qual m : Str} {st : Stmt} {f f2 C : Addr} {fd fd2 : FuncData} {N ps ps2 : List Str} {k : Nat} {sp sp2 : Sp} {p0 p1 apos pos pos2 : Pos} {e : Expr} {es : List Expr} {rest : List Stmt} {ar : Arg}
    (S : SupOk M x qual st f fd C f2 m) (hst : defBody st = .Expr (.Call (.Attribute (.Call (.Name "super" p0) [] [] p1) m apos) (e :: es) [] pos) pos2 :: rest) (NS : NdefX.NScope N ps ["__class__"] (defScope st))
    (hhd : ((defArgs st).posonlyargs ++ (defArgs st).args).head? = some ar) (hp0 : ps[0]? = some ar.arg) (hsu : (defScope st).names.lookup ("super" : Str) = some .globalImplicit) (hat : (m == ("__class__" : Str)) = false)
    (F2 : FnOk M.P M.w M.K M.mg M.base CX0 k f2 fd2 ps2 sp2) (hb2 : Binds M.K fd2 ps2 []) (len : ∀ vs H Q E, sp vs H Q E → vs.length = ps.length)
    (hs1 : ∀ env : Env, starEach (e :: es) env = (false, eval e env) :: starEach es env) (hs2 : ∀ env : Env, (backTo pos (starEach es env)).any (·.1) = false)
    (hs3 : ∀ env : Env, ∃ pl : Sem Bool, eval (.Call (.Attribute (.Call (.Name "super" p0) [] [] p1) m apos) (e :: es) [] pos) env = (do
      let ov ← attributeBase (.Call (.Name "super" p0) [] [] p1) m env (eval (.Call (.Name "super" p0) [] [] p1) env)
      standAt apos.atName
      let (f, first) ← holding [ov] (getMethod ov m pl)
      callWith pos f first (backTo pos (starEach (e :: es) env)) []))
    (hs4 : ∀ (L : Addr) (c cc : Addr), interactive (NdefX.envF (supNF x qual st c cc) f L) = false ∧ swapsWith (.Call (.Attribute (.Call (.Name "super" p0) [] [] p1) m apos) (e :: es) [] pos) none pos2.line (NdefX.envF (supNF x qual st c cc) f L) = pure false)
    (hbody : ∀ (c cc : Addr) (A : Around) (outer : List Env) (s : Shared) (H : Hp) (vs : List V) (Q : VK) (E : XK), Room k (A.deeper (NdefX.envF (supNF x qual st c cc) f s.heap.objs.size)) → sp vs H Q E →
      ∃ ta t, PA (supX M N x qual st c cc f A outer s H E) (e :: es) ta ∧ PSs (supX M N x qual st c cc f A outer s H E) rest t ∧ ∃ a dx fs us', vs = .ref a :: us' ∧ H a = some (.ins C dx fs) ∧ ∀ q, H q = none →
        ta (NdefX.startF N vs [none]) (upd H q (.met f2 a)) fun us H2 => H2 q = some (.met f2 a) ∧ sp2 (.ref a :: us) H2 (fun _ H3 => t { nx := fun _ H' => Q .non H', rt := Q } (NdefX.startF N vs [none]) H3) E0) :
    FnOk M.P M.w M.K M.mg M.base CX0 (k + 1) f fd ps sp := by
  obtain ⟨oc, od, kV, doc, pm, an, c, ct, osl, cc, ccl, cdd, cvs, ccs, file, tf, cl, cld, csl, rfl, lk, hcd, hcode, hvs, hfile, hcell⟩ := S.ex
  refine ⟨len, fun A outer s H args us vs Q E hr e0 hb r hsp => ?_⟩
  have hl := len _ _ _ _ hsp
  have KX : M.K.In s.heap := e0.mod.kin.keeps fun b o e => (e0.bs b o e).1
  have lim : s.heap.NoLimit := e0.mod.nolimit.keeps fun b o e => (e0.bs b o e).1
  refine codeAny_call_function hr.depth (KX _ _ lk) rfl NS.co NS.gen rfl (PySem.W.codeRec_of KX hcd) (hb _ _ _ _ ?_)
  refine wpAny_newFunctionEnv NS.nocell (fun ⟨n, _⟩ hy => NS.par n (List.of_mem_zip hy).1) (fun h₁ hns hsb => ⟨lim.fresh _ hsb, ?_⟩) NS.kind
  show codeAny _ _ (.func (defBody st) (NdefX.envF (supNF x qual st c cc) f s.heap.objs.size)) _ _
  have kp : ∀ b o, s.heap.get? b = some o → h₁.get? b = some o := fun b o e => hsb.extBut b o (Nat.ne_of_lt (Heap.lt_size e)) (Heap.get?_push_of_some _ e)
  have hnc : H cc = none := (e0.bs cc _ (e0.mod.kin _ _ hcell)).2
  have CA : NdefX.CellsAt [("__class__", cc)] ["__class__"] [none] s.heap H := by
    have hlook : ∀ y c', ([(("__class__" : Str), cc)] : List (Str × Addr)).lookup y = some c' → y = "__class__" ∧ c' = cc := fun y c' hy => by
      rw [List.lookup_cons] at hy
      by_cases hq : (y == ("__class__" : Str)) = true
      · rw [hq] at hy
        exact ⟨eq_of_beq hq, (Option.some.inj hy).symm⟩
      · rw [Bool.not_eq_true] at hq
        rw [hq] at hy
        cases hy
    refine ⟨rfl, fun y c' hy => ?_, fun a b c' ha hb => ?_, fun i y hi => ?_⟩
    · obtain ⟨_, rfl⟩ := hlook y c' hy
      exact ⟨hnc, _, ⟨_, KX _ _ hcell, rfl⟩⟩
    · rw [(hlook a c' ha).1, (hlook b c' hb).1]
    · have : i = 0 := by
        have := (List.getElem?_eq_some_iff.mp hi).1
        simpa using this
      subst this
      cases hi
      exact ⟨cc, rfl, fun v hv => nomatch hv⟩
  obtain ⟨ta, t, hA, hR, a, dx, fs, us', evs, ha, hq⟩ := hbody c cc A outer s H vs Q E (hr.deeper _) hsp
  have I : Inv (NdefX.ncx CX0 M.P M.w M.K M.mg M.base N (supNF x qual st c cc) f A outer s H E) [] (NdefX.startF N vs [none]) H { s with heap := h₁, toks := s.toks + (ps.zip us).length } := NdefX.inv_startN NS hr.hd e0 hl r CA hns kp
  have I0 : Inv (supX M N x qual st c cc f A outer s H E) [] (NdefX.startF N vs [none]) H { s with heap := h₁, toks := s.toks + (ps.zip us).length } := I.wish _
  refine ks_codeAny_funcAt ?_
  have hex : execs (defBody st) (NdefX.envF (supNF x qual st c cc) f s.heap.objs.size) = execs (.Expr (.Call (.Attribute (.Call (.Name "super" p0) [] [] p1) m apos) (e :: es) [] pos) pos2 :: rest) (NdefX.envF (supNF x qual st c cc) f s.heap.objs.size) := by rw [hst]
  rw [hex]
  generalize hσ : NdefX.startF N vs [none] = σ at *
  have fin : ∀ {σ' : L2.St} {H' : Hp} {v : V} {u : Value} {s' : Shared}, Inv (supX M N x qual st c cc f A outer s H E) [] σ' H' s' → RelV v u → Q v H' → CE outer M.P M.w H s Q u s' :=
    fun {σ' H' v u s'} J rv q => ⟨v, H', J.os, J.bare, J.base, J.hok, rv, q⟩
  refine ks_wpAt_mono (Q := SP (supX M N x qual st c cc f A outer s H E) [] { nx := fun _ H' => Q .non H', rt := Q }) (E := fun _ _ => False) ?_ (fun fl s' hs => ?_) fun _ _ z => z.elim
  · obtain ⟨pl, hev⟩ := hs3 (NdefX.envF (supNF x qual st c cc) f s.heap.objs.size)
    refine ks_wpAt_execs_cons (ks_wpAt_Expr_any (ks_wpAt_MethodCall (pl := pl) ?_ hev) (hs4 _ c cc).1 (hs4 _ c cc).2)
    have X1 : M.K.In h₁ := I0.kIn
    obtain ⟨cd, hcd2⟩ := S.cd
    obtain ⟨oD, hD1, hD2⟩ : ∃ oD, h₁.get? C = some oD ∧ oD.data = .cls cd := by
      unfold PySem.W.clsIn at hcd2
      split at hcd2
      · rename_i c' d' cd' sl ho
        cases hcd2
        exact ⟨_, X1 _ _ ho, rfl⟩
      · cases hcd2
    obtain ⟨mA, O, _⟩ := ins_get I0.hok ha
    have hxC : a ≠ C := fun z => by
      have := O.obj
      rw [z] at this
      rw [hD1] at this
      cases this
      cases hD2
    refine ks_wpAt_super_base (env := NdefX.envF (supNF x qual st c cc) f s.heap.objs.size) hsu (NS.frk _ List.mem_cons_self) hat rfl (X1 _ _ lk) rfl hhd rfl (X1 _ _ hcode) rfl hvs hfile S.top ?_
    obtain ⟨mb, hb1, hb3⟩ := I0.mod.blt
    refine PySem.W.ks_loadName_global NS.kind hsu (Calls.loadGlobal_builtin (env := NdefX.envF (supNF x qual st c cc) f s.heap.objs.size) (I0.mod.glob.keeps I0.bk) S.sup (hb1.keeps I0.bk) ((hb3 _ (by decide +kernel)).trans (by decide +kernel : bootBuiltins "super" = some (.type "super"))) ⟨rfl, ?_⟩)
    refine wpAny_loadName_free NS.kind (NS.frk _ List.mem_cons_self) rfl ⟨_, X1 _ _ hcell, rfl⟩ ?_
    obtain ⟨mL, hnsL, hlL⟩ := I0.loc
    have hps : ar.arg ∈ ps := List.mem_of_getElem? hp0
    have hk0 := NS.par _ hps
    have hN0 : N[0]? = some ar.arg := by
      have h1 : (N.take (ps.length + 1))[0]? = some ar.arg := by
        rw [show N.take (ps.length + 1) = ps ++ (["__class__"] : List Str) from NS.pre, List.getElem?_append_left (List.getElem?_eq_some_iff.mp hp0).1]
        exact hp0
      rwa [List.getElem?_take, if_pos (by omega)] at h1
    have hσ0 : σ[0]? = some (some (.ref a)) := by
      rw [← hσ, evs]
      rfl
    obtain ⟨u, hu1, hu2⟩ := hlL 0 ar.arg (.ref a) hN0 hσ0 (.inl hk0)
    have hu1' : u = Value.ref a := hu1
    subst hu1'
    have hmL : mL ar.arg = some (.ref a) := by
      rcases hu2 with ⟨_, h⟩ | ⟨h, _⟩
      · exact h
      · exfalso
        have hk1 : (NdefX.envF (supNF x qual st c cc) f s.heap.objs.size).kindOf ar.arg = some .local := hk0
        rcases h with h | h
        · exact absurd (hk1.symm.trans h) (by decide)
        · exact absurd (hk1.symm.trans h) (by decide)
    refine wpAny_loadName_local NS.kind hk0 hnsL hmL ?_
    refine ks_wpAny_isType_cls hD1 hD2 ⟨rfl, ?_⟩
    refine ks_wpAny_call_super hD1 hD2 O.obj rfl (fun _ e => nomatch e) (PySem.W.looks_mroIn X1 S.sub) (fun h' e k => ?_)
    have I1 := I0.kept (t' := s.toks + (ps.zip us).length) (h' := h') k
    have X2 : M.K.In h' := I1.kIn
    obtain ⟨of, hof, hofc⟩ : ∃ of, h'.get? f2 = some of ∧ of.cls = .type "function" := by
      have ht' : (M.K.lookup f2).map (·.cls) = some (.type "function") := S.ty
      cases z : M.K.lookup f2 with
      | none => rw [z] at ht'; cases ht'
      | some of => rw [z] at ht'; exact ⟨of, X2 _ _ z, Option.some.inj ht'⟩
    have hm2 := S.base
    unfold PySem.W.ks_superIn at hm2
    rw [hcd2] at hm2
    refine ks_wpAny_getMethod_super e (PySem.W.looks_opaque X2 S.opq) (l₀ := cd.mro) (fun A Q E s k q => wpAny_bind ((PySem.W.looks_clsIn X2 hcd2) A _ E s k (wpAny_pure q))) rfl X2 hm2 hof hofc hxC hat ?_
    have hqn : H h'.objs.size = Option.none := I1.hok.fresh (Nat.le_refl _)
    have I2 := I1.laid (t' := s.toks + (ps.zip us).length + 1) (h' := h'.push (PySem.W.methodObj (.ref f2) (.ref a))) (a := h'.objs.size) (o := .met f2 a) (fun b u z => Heap.get?_push_of_some _ z) (Nat.le_refl _) (show (h'.push (PySem.W.methodObj (.ref f2) (.ref a))).get? h'.objs.size = some (PySem.W.methodObj (.ref f2) (.ref a)) from Heap.get?_push_size h' rfl)
    refine callwith_met (X := supX M N x qual st c cc f A outer s H E) (q := h'.objs.size) (g := f2) (a := a) ?_ S.fi ?_
    · rw [hs1]
      show ((false || (backTo pos (starEach es _)).any (·.1)) || false) = false
      rw [hs2]
      rfl
    have h0 := hA.run pos [] _ σ _ _ I2 (hq _ hqn)
    rw [hs1] at h0 ⊢
    refine Calls.evalArgs_plain ?_
    refine thn h0 fun us2 s3 ⟨vs2, H2, I3, rv, hm3, hsp2⟩ => ⟨met_P I3 hm3, ?_⟩
    refine wpAny_call (PySem.W.method_call (met_P I3 hm3).1 ?_)
    have hl2 : (Value.ref a :: us2).length = ps2.length := by
      have h1 := F2.len _ _ _ _ hsp2
      have h2 := rv.length
      rw [List.length_cons] at h1 ⊢
      omega
    have hB2 := hb2 s3 (Value.ref a :: us2) I3.kIn (by rw [List.append_nil]; exact hl2)
    rw [List.append_nil] at hB2
    have e2 := I3.env0
    refine codeAny_mono (F2.run _ _ s3 H2 ⟨Value.ref a :: us2, []⟩ (Value.ref a :: us2) (V.ref a :: vs2) _ E0 (hr.deeper _ |>.mono ?_) I3.env0 hB2 (.cons rfl rv) hsp2) fun r s' hq' => ?_
    · exact Nat.le_refl _
    cases r with
    | error e => exact hq'.elim
    | ok fl =>
      cases fl with
      | ret u =>
        obtain ⟨v, H3, I4, _, ht⟩ := I3.after hq'
        exact wpAt_of_wpAny (hR.run [] s' σ H3 _ I4 ht)
      | next => exact False.elim hq'
      | brk => exact False.elim hq'
      | cont => exact False.elim hq'
  · cases fl with
    | ret u =>
      obtain ⟨v, σ', H', J, rv, q⟩ := hs
      exact fin J rv q
    | next =>
      obtain ⟨σ', H', J, q⟩ := hs
      exact fin (v := V.non) (u := Value.none) J rfl q
    | brk =>
      obtain ⟨_, _, _, q⟩ := hs
      exact False.elim q
    | cont =>
      obtain ⟨_, _, _, q⟩ := hs
      exact False.elim q
end FtR
/-! the program's paths: Laying, Laid, lay -/
namespace FtR
open PySem PySem.Spec PyProof.Rows L2
open FtM (getA putA Tri it orb stp rv ofOrb Per perOf)
abbrev fLy : List Str := ["own_sheet", "own_path"]
abbrev fLd : List Str := ["own_sheet", "own_path", "own_thread"]
abbrev sLyI : Stmt := inClass (topS 40) 0
theorem scLyI : FnScope ["self", "sheet", "path"] ["self", "sheet", "path"] (defScope sLyI) := ⟨rfl, rfl, rfl, by decide +kernel, rfl, by decide +kernel, by decide +kernel⟩
def PLyI (ds : List Dt) (fs : List Str) (xs : List Dt) : Prop := ∃ (d : Dt) (r : List Dt), ds = [d, .tup r] ∧ fs = fLy ∧ xs = [d, .tup r]
abbrev sLdI : Stmt := inClass (topS 41) 0
abbrev nLdI : List Str := ["self", "sheet", "path", "thread", "__class__"]
theorem scLdI : NdefX.NScope nLdI ["self", "sheet", "path", "thread"] ["__class__"] (defScope sLdI) := NdefX.nscope_by (by decide +kernel)
def PLdI (ds : List Dt) (fs : List Str) (xs : List Dt) : Prop := ∃ (d : Dt) (r : List Dt) (e : Dt), ds = [d, .tup r, e] ∧ fs = fLd ∧ xs = [d, .tup r, e]
structure LdF (M : Mo) (A : Addr) : Prop where
  cl : Cls M.K A
  n1 : NoAttr M.K A "own_sheet"
  n2 : NoAttr M.K A "own_path"
  n3 : NoAttr M.K A "own_thread"
abbrev sLdT : Stmt := inClass (topS 41) 1
theorem scLdT : FnScope nS1 ["self"] (defScope sLdT) := ⟨rfl, rfl, rfl, by decide +kernel, rfl, by decide +kernel, by decide +kernel⟩
def PLdT (A : Addr) (ds : List Dt) (d : Dt) : Prop := ∃ (a b : Dt), ds = [.ins A fLd [a, b, d]]
abbrev sLay : Stmt := topS 45
abbrev nLay : List Str := ["sheet", "path", "row", "found"]
theorem scLay : FnScope nLay ["sheet", "path"] (defScope sLay) := ⟨rfl, rfl, rfl, by decide +kernel, rfl, by decide +kernel, by decide +kernel⟩
noncomputable def eLd (AS AW A : Addr) (L : Nat) (w : WS) (c : Int → Int) : Dt := .ins A fLd [eSh AS L w, eT (wordL L w.f c), eWv AS AW L w c]
def PLay (AS AW A : Addr) (ds : List Dt) (d : Dt) : Prop := ∃ (L n : Nat) (w : WS) (c : Int → Int), OkC L n w c 4000 ∧ FtM.Thr L w.f c ∧ (rowC L c).sum ≤ 5000 ∧ ds = [eSh AS L w, eT (wordL L w.f c)] ∧ d = eLd AS AW A L w c
/-- a method's context that says super() -/
def cxS (M : Mo) (k : Nat) (N : List Str) (x qual : Str) (st : Stmt) (c cc f : Addr) (A : Around) (outer : List Env) (s : Shared) (H : Hp) (E : XK) (hr : Room k (A.deeper (NdefX.envF (supNF x qual st c cc) f s.heap.objs.size))) : Cxs where
  ι := Unit
  X := fun _ => supX M N x qual st c cc f A outer s H E
  P := M.P
  w := M.w
  K := M.K
  mg := M.mg
  base := M.base
  k := k
  hP := fun _ => rfl
  hw := fun _ => rfl
  hK := fun _ => rfl
  hm := fun _ => rfl
  hb := fun _ => rfl
  hr := fun _ => hr
  calm := fun _ => rfl
section
variable {M : Mo} {f f2 A AS AW : Addr} {fd fd2 : FuncData}
theorem ok_lyI (F : L2.Fun M.K "__init__" "Laying.__init__" sLyI f fd) (B : Bl M) (T : LdF M A) : FnOk M.P M.w M.K M.mg M.base CX0 1 f fd ["self", "sheet", "path"] (spI M.w A PLyI) := by
  have nd := scLyI.nd
  refine FtR.Fun.okI (k := 0) F scLyI (fun ds _ _ ⟨_, _, h, _⟩ => by rw [h]; rfl) fun cdv A0 outer s0 H E hr F D q ds fs xs hP hq => ?_
  obtain ⟨d, r, rfl, rfl, rfl⟩ := hP
  refine r_attr 0 T.cl T.n1 (v 1 rfl) (v 0 rfl) rfl rfl (by decide) ?_
  refine r_attr 0 T.cl T.n2 (x_tupleL B.tuple (v 2 rfl) (.tup _)) (v 0 rfl) rfl rfl (by decide) ?_
  exact r_nil fun B H σ S L => hq B H σ _ 0 rfl S
theorem ok_ldI (S : SupOk M "__init__" "Laid.__init__" sLdI f fd A f2 "__init__") (T : LdF M A) (F2 : FnOk M.P M.w M.K M.mg M.base CX0 1 f2 fd2 ["self", "sheet", "path"] (spI M.w A PLyI)) (hb2 : Binds M.K fd2 ["self", "sheet", "path"] []) : FnOk M.P M.w M.K M.mg M.base CX0 2 f fd ["self", "sheet", "path", "thread"] (spI M.w A PLdI) := by
  have nd := scLdI.nd
  refine fn_super (N := nLdI) (k := 1) S rfl scLdI rfl rfl rfl (by decide +kernel) F2 hb2 (fun vs H Q E ⟨B, r, us, ds, fs, xs, h1, _, _, _, h2, ⟨_, _, _, h3, _⟩, _⟩ => ?_) (fun env => rfl) (fun env => rfl) (fun env => ⟨_, rfl⟩) (fun L c cc => ⟨rfl, rfl⟩) fun c cc A0 outer s H vs Q E hr hsp => ?_
  · rw [h1, List.length_cons, ← h2.length, h3]
    rfl
  obtain ⟨B, a, us, ds, fs, xs, rfl, hB, hBa, ho, hA, ⟨d, r, e, rfl, rfl, rfl⟩, q⟩ := hsp
  have hus : us.length = 3 := hA.length.symm
  have hstart : NdefX.startF nLdI (V.ref a :: us) [none] = (V.ref a :: us).map some ++ List.replicate 1 none := by
    unfold NdefX.startF
    show _ ++ ([none] ++ List.replicate (5 - (us.length + 1) - 1) none) = _
    rw [hus]
    rfl
  refine ⟨AX (cxS M 1 nLdI "__init__" "Laid.__init__" sLdI c cc f A0 outer s H E hr) _, BX (cxS M 1 nLdI "__init__" "Laid.__init__" sLdI c cc f A0 outer s H E hr) _, pa_AX (C := cxS M 1 nLdI "__init__" "Laid.__init__" sLdI c cc f A0 outer s H E hr) (), pss_BX (C := cxS M 1 nLdI "__init__" "Laid.__init__" sLdI c cc f A0 outer s H E hr) (), ?_⟩
  obtain ⟨dx, vs0, ho1, ho2, ho3⟩ := id ho
  refine ⟨a, dx, _, us, rfl, ho1, fun p hp => ?_⟩
  have hap : a ≠ p := ne_of_none ho1 hp
  have hL : Slots B (NdefX.startF nLdI (V.ref a :: us) [none]) [some (.adr a), some d, some (.tup r), some e, none] := by
    rw [hstart]
    exact Slots.start 1 (.cons Is.mk_adr hA)
  have hcp : ∀ b o, cut H a b = some o → b ≠ p := fun b o hb z => by
    rw [z] at hb
    have := cut_same _ _ hb
    rw [hp] at this
    cases this
  have S0 : Sh M.w ⟨B, upd (cut H a) p (.met f2 a)⟩ B (upd H p (.met f2 a)) [(a, .ins A [] [])] := by
    refine ⟨Same.refl _, fun b o (hb : upd (cut H a) p (.met f2 a) b = some o) => ?_, hB.trans (Same.upd hp), fun _ _ => rfl, ⟨hBa, OwnAt.mono (Same.refl _) (upd_ne hap) ho, (fun r hr => nomatch hr), trivial⟩, fun q hq => ?_⟩
    · by_cases z : b = p
      · subst z
        rw [upd_same] at hb ⊢
        exact hb
      · rw [upd_ne z] at hb ⊢
        exact cut_same _ _ hb
    · rcases List.mem_cons.mp hq with rfl | hq
      · show upd (cut H a) p (.met f2 a) a = none
        rw [upd_ne hap, cut_self]
      · cases hq
  have hargs : ∀ p1 p2 : Pos, PL (cxS M 1 nLdI "__init__" "Laid.__init__" sLdI c cc f A0 outer s H E hr) ⟨B, upd (cut H a) p (.met f2 a)⟩ [.Name "sheet" p1, .Name "path" p2] [some (.adr a), some d, some (.tup r), some e, none] [(a, .ins A [] [])] [d, .tup r] [(a, .ins A [] [])] := fun p1 p2 => l2 (v 1 rfl) (v 2 rfl)
  refine hargs _ _ B _ _ S0 hL _ fun vs2 B1 H2 e1 S1 i1 => ⟨S1.eH p _ upd_same, ?_⟩
  obtain ⟨h3, _, h4⟩ := S1.get (k := 0) rfl
  refine ⟨B1, a, vs2, [d, .tup r], fLy, [d, .tup r], rfl, S1.bh, h3, h4, i1, ⟨d, r, rfl, rfl, rfl⟩, fun B' H' U hb ho' => ?_⟩
  have S2 := S1.callM (k := 0) rfl U hb ho'
  refine (show Run (cxS M 1 nLdI "__init__" "Laid.__init__" sLdI c cc f A0 outer s H E hr) ⟨B, upd (cut H a) p (.met f2 a)⟩ _ { nx := fun _ H' => Q .non H', rt := Q } [some (.adr a), some d, some (.tup r), some e, none] [(a, .ins A fLy [d, .tup r])] from ?_) B' H' _ S2 (hL.mono (e1.trans U.eB))
  refine r_attr (d := e) 0 T.cl T.n3 (v 3 rfl) (v 0 rfl) rfl rfl (by decide) ?_
  refine r_nil fun B3 H3 σ S3 L3 => ?_
  have U3 := S3.toUp
  refine q B3 H3 ⟨U3.eB, fun b o hb => U3.eH b o ?_, U3.bh, fun b hb => U3.nw b ?_⟩ (S3.get (k := 0) rfl).1 (S3.get (k := 0) rfl).2.2
  · show upd (cut H a) p (.met f2 a) b = some o
    rw [upd_ne (hcp b o hb)]
    exact hb
  · by_cases z : b = p
    · subst z
      show upd _ _ _ _ ≠ none
      rw [upd_same]
      exact fun z => nomatch z
    · show upd _ _ _ _ ≠ none
      rw [upd_ne z]
      exact hb
theorem ok_ldT (F : L2.Fun M.K "thread" "Laid.thread" sLdT f fd) (T : LdF M A) : FnOk M.P M.w M.K M.mg M.base CX0 1 f fd ["self"] (spP (PLdT A)) := by
  have nd := scLdT.nd
  refine FtR.Fun.okP (k := 0) F scLdT (fun ds d ⟨_, _, h⟩ => by rw [h]; rfl) fun cdv A0 outer s0 H E hr F D ds d hP hq hn => ?_
  obtain ⟨a, b, rfl⟩ := hP
  exact r_ret (x_fld T.cl T.n3 (v 0 rfl) (.dat _ _ _) rfl) (hq _)
theorem ok_lay (F : L2.Fun M.K "lay" "lay" sLay f fd) (Gt : Glob M "tight" 7 ["sheet", "path"] (spP (PTight AS))) (Go : Glob M "thread_of" 11 ["sheet", "row"] (spP (PThrOf AS AW))) (Gm : Mk1 M "Laid" A 2 ["self", "sheet", "path", "thread"] (spI M.w A PLdI)) : FnOk M.P M.w M.K M.mg M.base CX0 12 f fd ["sheet", "path"] (spP (PLay AS AW A)) := by
  have nd := scLay.nd
  refine FtR.Fun.okP (k := 11) F scLay (fun ds d ⟨_, _, _, _, _, _, _, h, _⟩ => by rw [h]; rfl) fun cdv A0 outer s0 H E hr F D ds d hP hq hn => ?_
  obtain ⟨L, n, w, c, O, T, hle, rfl, rfl⟩ := hP
  have hwl : (wordL L w.f c).length ≤ 100000 := by
    have h1 := word_len T
    have h2 := row_sum T
    omega
  refine r_set (d := eT (wordL L w.f c)) 2 ((x_call Gt (l2 (v 0 rfl) (v 1 rfl)) ⟨L, n, w, wordL L w.f c, O.ok, word_ln T, word_cyc T, hwl, rfl, rfl⟩).to (by rw [word_lt1 T])) ?_
  refine r_when (t := decide (wordL L w.f c = [])) (b_eqTI (v 2 rfl) (x_tup l_nil)) (fun e => absurd (of_decide_eq_true e) (word_ne T)) (fun _ => ?_)
  refine r_set (d := eWv AS AW L w c) 3 (x_call Go (l2 (v 0 rfl) (v 2 rfl)) ⟨L, n, w, c, O, T, hle, rfl, rfl⟩) ?_
  refine r_ret (x_if (k := false) (b_isN (v 3 rfl) x_non fun B v h => ?_) (fun h => nomatch h) (fun _ => x_make Gm (l3 (v 0 rfl) (v 1 rfl) (v 3 rfl)) ⟨_, _, _, rfl, rfl, rfl⟩)) (hq _)
  obtain ⟨p, dx, vs, rfl, _⟩ := is_ins h
  exact decide_eq_false fun z => nomatch z
end
end FtR
set_option maxHeartbeats 1000000
/-! counts carried back -/
namespace FtR
theorem carC_on (f c : Int → Int) {a x : Int} (h : x.natAbs = a.natAbs) : carC f c a x = max (c (f (-(a.natAbs : Int))) + c (f (a.natAbs : Int))) (c (f (f (-(a.natAbs : Int)))) + c (f (f (a.natAbs : Int)))) - c a := if_pos h
theorem carC_off (f c : Int → Int) {a x : Int} (h : ¬ x.natAbs = a.natAbs) : carC f c a x = c x := if_neg h
theorem carC_back {L : Nat} {f c : Int → Int} (T : FtM.Fit L f c) {a : Int} (ha : FtM.IsLn L a) (hc : FtM.can f a = true) (w : Int) : carC (FtM.flF f a) (carC f c a) (-a) w = c w := by
  have X := FtM.flp_of T.tr ha hc
  have S := X.six
  have off : ∀ u : Int, u ≠ (a.natAbs : Int) → u ≠ -(a.natAbs : Int) → carC f c a u = c u := fun u h1 h2 => carC_off f c (by omega)
  have kp := off _ S.px S.pm
  have kq := off _ S.qx S.qm
  have kr := off _ S.rx S.rm
  have ks := off _ S.sx S.sm
  have ka := carC_on f c (a := a) (x := -a) (Int.natAbs_neg a)
  by_cases hw : w.natAbs = a.natAbs
  · have hcw : c w = c a := by
      rcases (show w = a ∨ w = -a by omega) with h | h
      · rw [h]
      · rw [h, T.sy]
    have e1 := carC_on (FtM.flF f a) (carC f c a) (a := -a) (x := w) (by rw [Int.natAbs_neg]; exact hw)
    rw [Int.natAbs_neg] at e1
    have ga := X.ga
    have gb := X.gb
    have gq := X.gq
    have gs := X.gs
    rw [e1, ka, hcw]
    generalize hk : carC f c a = k at *
    generalize FtM.flF f a = g at *
    have hax : a = (a.natAbs : Int) ∨ a = -(a.natAbs : Int) := by omega
    generalize f (-(a.natAbs : Int)) = r at *
    generalize f (a.natAbs : Int) = p at *
    generalize f r = s at *
    generalize f p = q at *
    generalize (a.natAbs : Int) = x at *
    rcases hax with h | h
    · rw [h] at ga gb
      rw [ga, gb, gq, gs, kp, kq, kr, ks]
      omega
    · rw [h] at ga gb
      rw [Int.neg_neg] at gb
      rw [ga, gb, gq, gs, kp, kq, kr, ks]
      omega
  · rw [carC_off _ _ (by rw [Int.natAbs_neg]; exact hw), carC_off _ _ hw]
end FtR
/-! a flip can be undone -/
namespace FtR
theorem can_back {L : Nat} {f : Int → Int} (T : FtM.Tr L f) {a : Int} (ha : FtM.IsLn L a) (hc : FtM.can f a = true) : FtM.can (FtM.flF f a) (-a) = true := by
  have X := FtM.flp_of T ha hc
  have hx : FtM.IsLn L (a.natAbs : Int) := by unfold FtM.IsLn at *; rwa [Int.natAbs_natCast]
  have n1 := T.ne _ (T.ln _ hx)
  have n2 := T.ne _ (T.ln _ hx.neg)
  have ga := X.ga
  have gb := X.gb
  have gq := X.gq
  have gs := X.gs
  unfold FtM.can
  rw [Int.natAbs_neg]
  have hax : a = (a.natAbs : Int) ∨ a = -(a.natAbs : Int) := by omega
  generalize FtM.flF f a = g at *
  generalize f (-(a.natAbs : Int)) = r at *
  generalize f (a.natAbs : Int) = p at *
  generalize f r = s at *
  generalize f p = q at *
  generalize (a.natAbs : Int) = x at *
  rcases hax with h | h
  · rw [h] at ga gb
    rw [ga, gb, gq, gs, Bool.and_eq_true, decide_eq_true_eq, decide_eq_true_eq]
    exact ⟨fun e => n2 e.symm, fun e => n1 e.symm⟩
  · rw [h] at ga gb
    rw [Int.neg_neg] at gb
    rw [ga, gb, gq, gs, Bool.and_eq_true, decide_eq_true_eq, decide_eq_true_eq]
    exact ⟨fun e => n1 e.symm, fun e => n2 e.symm⟩
end FtR
set_option maxHeartbeats 4000000
/-! flips there and back; the law's thread -/
namespace FtR
open PySem PySem.Spec PyProof.Rows L2
open FtM (getA putA Tri it orb stp rv ofOrb Per perOf)
theorem Flp_uniq {L : Nat} {f g g' : Int → Int} {a x p q r s : Int} (X : FtM.Flp L f a x p q r s g) (Y : FtM.Flp L f a x p q r s g') (w : Int) : g w = g' w := by
  rcases X.cases w with h | h | h | h | h | h | ⟨h1, h2, h3, h4, h5, h6⟩
  · rw [h, X.ga, Y.ga]
  · rw [h, X.gq, Y.gq]
  · rw [h, X.gr, Y.gr]
  · rw [h, X.gb, Y.gb]
  · rw [h, X.gs, Y.gs]
  · rw [h, X.gp, Y.gp]
  · rw [X.go w h1 h2 h3 h4 h5 h6, Y.go w h1 h2 h3 h4 h5 h6]
theorem flF_back {L : Nat} {f : Int → Int} (T : FtM.Tr L f) {a : Int} (ha : FtM.IsLn L a) (hc : FtM.can f a = true) (w : Int) : FtM.flF (FtM.flF f a) (-a) w = f w := by
  have X := FtM.flp_of T ha hc
  have Y := FtM.flp_of X.gtr ha.neg (can_back T ha hc)
  rw [Int.natAbs_neg] at Y
  have hax : a = (a.natAbs : Int) ∨ a = -(a.natAbs : Int) := by omega
  rcases hax with h | h
  · have Z := X.back.1 h
    rw [Z.six.ep, Z.six.eq, Z.six.er, Z.six.es] at Y
    exact Flp_uniq Y Z w
  · have Z := X.back.2 h
    rw [Z.six.ep, Z.six.eq, Z.six.er, Z.six.es] at Y
    exact Flp_uniq Y Z w
theorem flE_back {L n : Nat} {f e : Int → Int} (W : FtM.Web L n f e) {a : Int} (ha : FtM.IsLn L a) (hc : FtM.can f a = true) (w : Int) : FtM.flE (FtM.flF f a) (FtM.flE f e a) (-a) w = e w := by
  have X := FtM.flp_of W.tr ha hc
  have S := X.six
  have hx := abs_ln ha
  have ga := X.ga
  have gb := X.gb
  have e1 : e (-f (f (a.natAbs : Int))) = e (a.natAbs : Int) := W.es _ hx
  have e2 : e (-f (f (-(a.natAbs : Int)))) = e (-(a.natAbs : Int)) := W.es _ hx.neg
  have q1 := S.aqx
  have s1 := S.asx
  have ne := ha.ne
  have off : ∀ u : Int, u.natAbs ≠ a.natAbs → FtM.flE f e a u = e u := fun u hu => by
    unfold FtM.flE
    rw [if_neg (by omega), if_neg (by omega)]
  have hax : a = (a.natAbs : Int) ∨ a = -(a.natAbs : Int) := by omega
  rw [Int.natAbs_natCast] at q1 s1
  generalize FtM.flE f e a = e' at *
  generalize FtM.flF f a = g at *
  have k1 : e' (-g a) = e (a.natAbs : Int) := by
    rw [ga, off _ (by omega), e1]
  have k2 : e' (-g (-a)) = e (-(a.natAbs : Int)) := by
    rw [gb, off _ (by omega), e2]
  have hu : FtM.flE g e' (-a) w = if w = -a then e' (-g (-(a.natAbs : Int))) else if w = a then e' (-g (a.natAbs : Int)) else e' w := by
    unfold FtM.flE
    rw [Int.natAbs_neg, Int.neg_neg]
  rw [hu]
  rcases hax with h | h
  · rw [← h] at k1 k2 ⊢
    by_cases h1 : w = -a
    · rw [if_pos h1, k2, h1]
    · rw [if_neg h1]
      by_cases h2 : w = a
      · rw [if_pos h2, k1, h2]
      · rw [if_neg h2, off _ (by omega)]
  · have h' : (a.natAbs : Int) = -a := by omega
    rw [h'] at k1 k2 ⊢
    rw [Int.neg_neg] at k2 ⊢
    by_cases h1 : w = -a
    · rw [if_pos h1, k1, h1]
    · rw [if_neg h1]
      by_cases h2 : w = a
      · rw [if_pos h2, k2, h2]
      · rw [if_neg h2, off _ (by omega)]
/-- the same on all lines -/
def Agr (L : Nat) (w w' : WS) : Prop := ∀ x, FtM.IsLn L x → w.f x = w'.f x ∧ w.e x = w'.e x
section
variable {L n : Nat} {w w' : WS} {c c' : Int → Int} {a : Int}
theorem Agr.trans {w'' : WS} (h : Agr L w w') (h' : Agr L w' w'') : Agr L w w'' := fun x hx => ⟨(h x hx).1.trans (h' x hx).1, (h x hx).2.trans (h' x hx).2⟩
theorem Agr.fs (h : Agr L w w') (T : FtM.Tr L w'.f) (ha : FtM.IsLn L a) : w.f (a.natAbs : Int) = w'.f (a.natAbs : Int) ∧ w.f (w'.f (a.natAbs : Int)) = w'.f (w'.f (a.natAbs : Int)) ∧ w.f (-(a.natAbs : Int)) = w'.f (-(a.natAbs : Int)) ∧ w.f (w'.f (-(a.natAbs : Int))) = w'.f (w'.f (-(a.natAbs : Int))) := by
  have hx := abs_ln ha
  exact ⟨(h _ hx).1, (h _ (T.ln _ hx)).1, (h _ hx.neg).1, (h _ (T.ln _ hx.neg)).1⟩
theorem Agr.can (h : Agr L w w') (T : FtM.Tr L w'.f) (ha : FtM.IsLn L a) : FtM.can w.f a = FtM.can w'.f a := by
  obtain ⟨h1, h2, h3, h4⟩ := h.fs T ha
  unfold FtM.can
  rw [h1, h2, h3, h4]
theorem Agr.turn (h : Agr L w w') (T : FtM.Tr L w'.f) (ha : FtM.IsLn L a) : Agr L (w.turn a) (w'.turn a) := fun x hx => by
  obtain ⟨h1, h2, h3, h4⟩ := h.fs T ha
  have ab := abs_ln ha
  constructor
  · show FtM.flF w.f a x = FtM.flF w'.f a x
    unfold FtM.flF
    simp only [h1, h2, h3, h4, (h x hx).1]
  · show FtM.flE w.f w.e a x = FtM.flE w'.f w'.e a x
    unfold FtM.flE
    rw [h1, h3, (h x hx).2, (h _ (T.ln _ ab).neg).2, (h _ (T.ln _ ab.neg).neg).2]
theorem Agr.car (h : Agr L w w') (T : FtM.Tr L w'.f) (ha : FtM.IsLn L a) (hc : ∀ x, FtM.IsLn L x → c x = c' x) {x : Int} (hx : FtM.IsLn L x) : carC w.f c a x = carC w'.f c' a x := by
  obtain ⟨h1, h2, h3, h4⟩ := h.fs T ha
  have ab := abs_ln ha
  unfold carC
  rw [h1, h3, h2, h4, hc _ hx, hc _ ha, hc _ (T.ln _ ab), hc _ (T.ln _ ab.neg), hc _ (T.ln _ (T.ln _ ab)), hc _ (T.ln _ (T.ln _ ab.neg))]
theorem OkW.all {n : Nat} : ∀ {fl : List Int} {w : WS}, OkW L n w → Oks L w fl → OkW L n (w.all fl)
  | [], _, h, _ => h
  | _ :: fl, _, h, ok => OkW.all (fl := fl) (h.turn ok.1 ok.2.1) ok.2.2
theorem all_app (w : WS) (xs ys : List Int) : w.all (xs ++ ys) = (w.all xs).all ys := List.foldl_append
theorem Oks.snoc {b : Int} : ∀ {xs : List Int} {w : WS}, Oks L w xs → FtM.IsLn L b → FtM.can (w.all xs).f b = true → Oks L w (xs ++ [b])
  | [], _, _, h1, h2 => ⟨h1, h2, trivial⟩
  | _ :: xs, _, h, h1, h2 => ⟨h.1, h.2.1, Oks.snoc (xs := xs) h.2.2 h1 h2⟩
theorem carP_snoc (w : WS) (c : Int → Int) (xs : List Int) (b : Int) : carP w c (xs ++ [b]) = carS (carP w c xs) b := by
  unfold carP
  rw [List.foldl_append]
  rfl
def revL (fl : List Int) : List Int := (fl.map fun a => 0 - a).reverse
theorem all_back : ∀ {fl : List Int} {w : WS} {c : Int → Int}, OkW L n w → FtM.Fit L w.f c → Oks L w fl → Oks L (w.all fl) (revL fl) ∧ Agr L ((w.all fl).all (revL fl)) w ∧ ∀ x, FtM.IsLn L x → (carP (w.all fl) (carP w c fl).2 (revL fl)).2 x = c x
  | [], w, c, _, _, _ => ⟨trivial, fun x hx => ⟨rfl, rfl⟩, fun x hx => rfl⟩
  | a :: fl, w, c, h, T, ok => by
    have h1 := h.turn ok.1 ok.2.1
    have T1 := carC_fit T ok.1 ok.2.1
    obtain ⟨i1, i2, i3⟩ := all_back (fl := fl) (w := w.turn a) (c := carC w.f c a) h1 T1 ok.2.2
    have eA : w.all (a :: fl) = (w.turn a).all fl := rfl
    have eC : carP w c (a :: fl) = carP (w.turn a) (carC w.f c a) fl := rfl
    have eR : revL (a :: fl) = revL fl ++ [-a] := by
      unfold revL
      rw [List.map_cons, List.reverse_cons, Int.zero_sub]
    rw [eA, eC, eR]
    have lb := ok.1.neg
    have hb : Agr L ((w.turn a).turn (-a)) w := fun x hx => ⟨flF_back h.2.tr ok.1 ok.2.1 x, flE_back h.2 ok.1 ok.2.1 x⟩
    have cb := can_back h.2.tr ok.1 ok.2.1
    have hcan : FtM.can (((w.turn a).all fl).all (revL fl)).f (-a) = true := (i2.can h1.2.tr lb).trans cb
    refine ⟨i1.snoc lb hcan, ?_, fun x hx => ?_⟩
    · rw [all_app]
      exact (i2.turn h1.2.tr lb).trans hb
    · rw [carP_snoc]
      show carC (carP ((w.turn a).all fl) (carP (w.turn a) (carC w.f c a) fl).2 (revL fl)).1.f (carP ((w.turn a).all fl) (carP (w.turn a) (carC w.f c a) fl).2 (revL fl)).2 (-a) x = c x
      rw [carP_all, i2.car h1.2.tr lb i3 hx]
      exact carC_back T ok.1 ok.2.1 x
/-! ### the same sheet -/
theorem Agr.sorb (h : Agr L w w') (T : FtM.Tr L w.f) (T' : FtM.Tr L w'.f) {x : Int} (hx : FtM.IsLn L x) : FtM.sOrb w.f x = FtM.sOrb w'.f x := by
  have hin : ∀ i, FtM.IsLn L (it (FtM.sg w.f) i x) := fun i => by
    induction i with
    | zero => exact hx
    | succ i ih => exact T.sg_in ih
  have hsg : ∀ y, FtM.IsLn L y → FtM.sg w.f y = FtM.sg w'.f y := fun y hy => by
    unfold FtM.sg
    rw [(h y hy).1, (h _ (T'.ln _ hy)).1]
  have hit : ∀ i, it (FtM.sg w.f) i x = it (FtM.sg w'.f) i x := fun i => by
    induction i with
    | zero => rfl
    | succ i ih =>
      show FtM.sg w.f (it (FtM.sg w.f) i x) = FtM.sg w'.f (it (FtM.sg w'.f) i x)
      rw [hsg _ (hin i), ih]
  have P := (T.sper hx).1
  have P' : Per (FtM.sg w'.f) x (perOf (FtM.sg w.f) x) := ⟨P.pos, by rw [← hit]; exact P.end_, fun i h1 h2 => by rw [← hit]; exact P.min i h1 h2⟩
  unfold FtM.sOrb
  rw [P'.eq]
  unfold orb
  exact List.map_congr_left fun i _ => hit i
theorem Agr.met (h : Agr L w w') (T : FtM.Tr L w.f) (T' : FtM.Tr L w'.f) : FtM.metL w.f (FtM.lns L) = FtM.metL w'.f (FtM.lns L) := by
  have key : ∀ (xs : List Int) (fd : List (List Int)), (∀ x ∈ xs, FtM.IsLn L x) → xs.foldl (fun fd x => if fd.any (fun l => decide (x ∈ l)) = true then fd else fd ++ [FtM.sOrb w.f x]) fd = xs.foldl (fun fd x => if fd.any (fun l => decide (x ∈ l)) = true then fd else fd ++ [FtM.sOrb w'.f x]) fd := fun xs => by
    induction xs with
    | nil => intro fd _; rfl
    | cons x xs ih =>
      intro fd hx
      rw [List.foldl_cons, List.foldl_cons, h.sorb T T' (hx x List.mem_cons_self)]
      exact ih _ fun y hy => hx y (List.mem_cons_of_mem _ hy)
  exact key _ _ fun x hx => FtM.mem_lns.mp hx
theorem Agr.ordL (h : Agr L w w') (o : OkW L n w) (o' : OkW L n w') : FtM.ordL L w.f w.e = FtM.ordL L w'.f w'.e := by
  unfold FtM.ordL
  rw [h.met o.2.tr o'.2.tr]
  refine List.map_congr_left fun l hl => ?_
  exact (h _ (o'.2.met.head o'.2 hl).1).2
theorem Agr.ord (h : Agr L w w') (o : OkW L n w) (o' : OkW L n w') : FtM.inOrder w.ts = FtM.inOrder w'.ts := by
  refine FtM.Reps.ord_eq o.1 ⟨fun t ht => ?_, o'.1.perm⟩ o.2.tr
  obtain ⟨l1, l2, l3⟩ := o'.1.sub ht
  rw [(h _ l1).1, (h _ l2).1, (h _ l3).1]
  exact o'.1.rot t ht
theorem eSh_congr {AS : Addr} (h : Agr L w w') (o : OkW L n w) (o' : OkW L n w') : eSh AS L w = eSh AS L w' := by
  unfold eSh shV FtM.endsKv
  rw [h.ord o o', h.ordL o o', h.met o.2.tr o'.2.tr]
theorem eWv_congr {AS A : Addr} (h : Agr L w w') (o : OkW L n w) (o' : OkW L n w') (hc : ∀ x, FtM.IsLn L x → c x = c' x) : eWv AS A L w c = eWv AS A L w' c' := by
  unfold eWv wvV eC
  rw [eSh_congr h o o', rowC_ext hc]
end
/-! ### the law's thread -/
theorem pick_pos {s : Deal} (m : Int) (h : 0 ≤ s.i) : 0 ≤ (pick s m).2.i := pick_i s m h
theorem thread_ok {L n : Nat} {w : WS} (G : GoodS L n w) {s : Deal} (h : 0 ≤ s.i) : 0 ≤ (threadR L n w s).2.i ∧ ∃ c, FtM.Thr L w.f c ∧ (∀ x, FtM.IsLn L x → c x ≤ 240) ∧ (threadR L n w s).1 = rowC L c := by
  obtain ⟨z1, z2, z3, z4⟩ := G.size
  obtain ⟨T, hi, hle⟩ := countsOf_ok (W := G.web) h
  unfold threadR
  generalize hc0 : (countsOf L n w.e s).1 = c0 at *
  generalize (countsOf L n w.e s).2 = s1 at *
  split
  · rename_i he
    have hne : splitL L w.f c0 ≠ [] := fun z => by
      rw [z] at he
      exact absurd he (by decide)
    have hpos : 0 < (splitL L w.f c0).length := List.length_pos_iff.mpr hne
    have hp := pick_lt s1 (m := ((splitL L w.f c0).length : Int)) (by omega)
    refine ⟨pick_i _ _ hi, ?_⟩
    generalize (pick s1 ((splitL L w.f c0).length : Int)).1 = v at *
    have hv : v.toNat < (splitL L w.f c0).length := by omega
    have hm : (splitL L w.f c0).getD v.toNat ([], 0) ∈ splitL L w.f c0 := by
      rw [List.getD_eq_getElem?_getD, List.getElem?_eq_getElem hv]
      exact List.getElem_mem hv
    obtain ⟨O, hO, e⟩ := split_mem hm
    obtain ⟨s0, hs0, rfl⟩ := (rdOut_ok (f := w.f) (fun x _ => hle x) L (Nat.le_refl _)).1 O hO
    obtain ⟨P, hP⟩ := oPer T hs0
    refine ⟨cntL ((oOrb w.f c0 s0).map Prod.fst), ?_, fun x hx => ?_, e⟩
    · refine T.part hs0 P (cntL_neg _) fun x hx => ?_
      unfold cntL oOrb
      rw [List.countP_map]
      rfl
    · have h1 := sts_le (L := L) (c := c0) fun x _ => hle x
      have h2 := List.countP_le_length (p := fun y : Int => decide (y.natAbs = x.natAbs)) (l := (oOrb w.f c0 s0).map Prod.fst)
      have h3 : (oOrb w.f c0 s0).length = perOf (stp w.f c0) s0 := by
        unfold oOrb
        rw [FtM.orb_len]
      rw [List.length_map] at h2
      unfold cntL
      omega
  · have hn := G.web.hn
    have hp := pick_lt s1 (m := (n : Int)) (by omega)
    refine ⟨pick_i _ _ hi, FtM.ringC w.e (pick s1 n).1, FtM.thr_ring G.web (G.web.ex _ hp.1 hp.2), fun x hx => ?_, rfl⟩
    unfold FtM.ringC
    have h1 := FtM.b1_range (w.e x = (pick s1 n).1)
    have h2 := FtM.b1_range (w.e (-x) = (pick s1 n).1)
    omega
end FtR
/-! the law: deal, made, flipped -/
namespace FtR
open PySem PySem.Spec PyProof.Rows L2
open FtM (getA putA Tri it orb stp rv ofOrb Per perOf)
theorem len2 : ∀ {l : List Int}, l.length = 2 → ∃ a b, l = [a, b]
  | [a, b], _ => ⟨a, b, rfl⟩
theorem len3 : ∀ {l : List Int}, l.length = 3 → ∃ a b c, l = [a, b, c]
  | [a, b, c], _ => ⟨a, b, c, rfl⟩
theorem carC_thr {L : Nat} {f c : Int → Int} (T : FtM.Thr L f c) {a : Int} (ha : FtM.IsLn L a) (hc : FtM.can f a = true) : FtM.Thr L (FtM.flF f a) (carC f c a) := by
  refine FtM.Flp.thr (FtM.flp_of T.fit.tr ha hc) ⟨fun w => ?_, ?_, fun w h1 h2 => ?_⟩ T
  · unfold carC
    rw [Int.natAbs_neg, T.fit.sy]
  · unfold carC
    rw [if_pos (by omega)]
    congr 1
    rcases Int.natAbs_eq a with h | h
    · rw [← h]
    · have : (a.natAbs : Int) = -a := by omega
      rw [this, T.fit.sy]
  · unfold carC
    rw [if_neg (by omega)]
theorem carP_thr {L : Nat} : ∀ {fl : List Int} {w : WS} {c : Int → Int}, FtM.Thr L w.f c → Oks L w fl → FtM.Thr L (w.all fl).f (carP w c fl).2
  | [], w, c, T, _ => T
  | a :: r, w, c, T, h => carP_thr (fl := r) (w := w.turn a) (c := carC w.f c a) (carC_thr T h.1 h.2.1) h.2.2
section
variable {C : Cxs} {F : Fr} {a b c : Expr} {ds : DEnv} {os os1 os2 os3 : Own} {pos p : Pos}
theorem wk_rangeC {w : World} {lo c : Int} {m : Nat} {B : Hp} : Wk w F (Itc lo c m) B ((List.range m).map fun i => Dt.int (lo + (i : Nat) * c)) := by
  have hl : ((List.range m).map fun i => Dt.int (lo + (i : Nat) * c)).length = m := by rw [List.length_map, List.length_range]
  refine ⟨fun i B2 H2 os2 hi eB S2 => by rw [hl] at hi; exact hi, fun B2 H2 os2 eB S2 => by rw [hl]; exact Nat.le_refl _, fun i B2 H2 os2 x H3 hi eB S2 y => ?_⟩
  obtain ⟨y1, y2⟩ := y
  subst y1 y2
  rw [hl] at hi
  exact ⟨B2, _, Same.refl _, S2, by rw [List.getElem?_map, List.getElem?_range hi]; rfl, Is.mk_int⟩
theorem i_rng3 {tg : Expr} {i j k : Int} {n : Nat} (hm : C.mg "range" = none) (ha : PX C F a ds os (.int i) os1) (hb : PX C F b ds os1 (.int j) os2) (hc : PX C F c ds os2 (.int k) os3) (hz : RgC i j k n) (h1 : St1 C a [b, c] := by intro _; rfl) (h3 : St1 C b [c] := by intro _; rfl) (h4 : St1 C c [] := by intro _; rfl) (h5 : ∀ i, (backTo pos (starEach [b, c] (C.X i).env)).any (·.1) = false := by intro _; rfl) (hg : ∀ i, Gl (C.X i) "range" := by intro _; rfl) :
    PIt C F tg (.Call (.Name "range" p) [a, b, c] [] pos) ds os ((List.range n).map fun l => Dt.int (i + (l : Nat) * k)) os3 := fun B H σ S L R q => ⟨iRng3 (AX C [a, b, c]), fun l => pi_range3 (hg l) (by rw [C.hm l]; exact hm) (pa_AX l) (h1 l) (h5 l), l3 ha hb hc h1 h3 h4 B H σ S L _ fun vs B1 H1 e1 S1 i1 => by
  obtain ⟨u, r, rfl, h6, h7⟩ := i1.inv
  obtain ⟨v, w, rfl, h8, h9⟩ := isA2 h7
  rw [is_int h6, is_int h8, is_int h9]
  exact ⟨i, j, k, n, rfl, hz, q _ B1 H1 e1 S1 wk_rangeC⟩⟩
end
abbrev sDeal : Stmt := topS 61
abbrev nDeal : List Str := ["_law_script", "_law_cells", "_law_mark", "_law_cell"]
theorem scDeal : FnScope nDeal ["_law_script"] (defScope sDeal) := ⟨rfl, rfl, rfl, by decide +kernel, rfl, by decide +kernel, by decide +kernel⟩
def dealOf (is : List Int) : Deal := ⟨is, 0, 0, is.foldl (fun m c => (m * 7027 + c) % 2147483549) (4930 + 97 * (is.length : Int))⟩
def PDeal (is : List Int) (o : Ob) : Prop := is.length ≤ 63 ∧ o = eDeal (dealOf is)
abbrev sMade : Stmt := topS 79
theorem scMade : FnScope ["_law_web_here"] ["_law_web_here"] (defScope sMade) := ⟨rfl, rfl, rfl, by decide +kernel, rfl, by decide +kernel, by decide +kernel⟩
def PMade (AS : Addr) (ds : List Dt) (d : Dt) : Prop := ∃ (L n : Nat) (w : WS), GoodS L n w ∧ ds = [w.d] ∧ d = eSh AS L w
abbrev sLFl : Stmt := topS 93
abbrev nLFl : List Str := ["_law_thing", "_law_flips_here", "_law_found", "_law_at", "_law_some"]
theorem scLFl : FnScope nLFl ["_law_thing", "_law_flips_here"] (defScope sLFl) := ⟨rfl, rfl, rfl, by decide +kernel, rfl, by decide +kernel, by decide +kernel⟩
def PLFl (AS A : Addr) (ds : List Dt) (d : Dt) : Prop := ∃ (L n : Nat) (w : WS) (c : Int → Int) (m : Int) (fl : List Int), OkC L n w c m ∧ m ≤ 4000 ∧ fl.length ≤ 3 ∧ Oks L w fl ∧ ds = [eWv AS A L w c, eL fl] ∧ d = eWv AS A L (w.all fl) (carP w c fl).2
section
variable {M : Mo} {f AS A : Addr} {fd : FuncData}
theorem ok_deal (F : L2.Fun M.K "_law_deal" "_law_deal" sDeal f fd) (B : Bl M) : FnOk M.P M.w M.K M.mg M.base CX0 1 f fd ["_law_script"] (spS M.w M.K PDeal) := by
  have nd := scDeal.nd
  refine FtR.Fun.okS (k := 0) F scDeal rfl fun cdv A0 outer s0 H E hr F D q is ob hP hS hq => ?_
  obtain ⟨hlen, rfl⟩ := hP
  have hcut : cutD (is.map Dt.int) none (some 63) = is.map Dt.int := by
    unfold cutD
    rw [HT.sIx_none, show (63 : Int) = ((63 : Nat) : Int) from rfl, HT.sIx_nat, List.length_map, List.drop_zero, Nat.sub_zero]
    exact List.take_of_length_le (by rw [List.length_map]; omega)
  refine r_setLc0 (l := is) (enc := Dt.int) (g := Dt.int) [("_law_cell", 3)] (fun i => [some (.adr q), none, none, some (.int i)]) 1 (i_list (PX.to (x_ofL (n_slRaw hS (v 0 rfl) p_none (p_some x_int))) (by rw [hcut]))) (fun _ => ⟨nd, blkOk_by (N := nDeal) (sc := defScope sDeal) (by decide +kernel)⟩) (fun i hi F => ⟨_, g_name 3, by simp⟩) (fun i hi F => x_int1 B.int (v 3 rfl)) (by omega) fun q1 => ?_
  refine r_freeze (us := is.map Dt.int) 1 0 rfl rfl ?_
  refine r_set (d := .int (4930 + 97 * (is.length : Int))) 2 ((x_add x_int (x_mul x_int (x_len B.len (v 1 rfl) (.lst (.dat _))) (.inl ⟨by decide, by decide⟩))).to (by rw [List.length_map])) ?_
  refine r_for (xs := is.map Dt.int) (fun i ds os => ∃ t : Option Dt, ds = [some (.adr q), some (.lst (is.map Dt.int)), some (.int ((is.take i).foldl (fun m c => (m * 7027 + c) % 2147483549) (4930 + 97 * (is.length : Int)))), t] ∧ os = []) (i_list (v 1 rfl)) ⟨none, rfl, rfl⟩ ?_ ?_
  · rintro F' lF i d _ _ hd ⟨t, rfl, rfl⟩
    rw [List.getElem?_map] at hd
    obtain ⟨y, hy, rfl⟩ := Option.map_eq_some_iff.mp hd
    refine ⟨_, _, g_name 3, ?_⟩
    refine r_set 2 (x_mod (x_int1 B.int (x_add (x_mul (v 2 rfl) x_int (.inr ⟨by decide, by decide⟩)) (v 3 rfl))) x_int (by decide)) ?_
    refine r_loop _ ⟨some (.int y), ?_, rfl⟩ (Sub.refl _)
    rw [fold_snoc hy]
    rfl
  · rintro _ _ ⟨t, rfl, rfl⟩
    rw [List.length_map, List.take_length]
    refine r_retN (n_lst (xs := [.lst (is.map Dt.int), .int 0, .int 0, .int (dealOf is).mark]) (l_cons (v 1 rfl) (l_cons x_int (l_cons x_int (l_cons (v 2 rfl) l_nil))))) fun B H r S => ?_
    exact hq B H r S
theorem ok_made (F : L2.Fun M.K "_law_made" "_law_made" sMade f fd) (B : Bl M) (Go : Glob M "_law_order" 3 ["_law_web_here"] (spP POrder)) (Gk : MkK M "Sheet" A 6 ["self", "triangles", "order"] 1 ["order"] (spI M.w A PShI)) : FnOk M.P M.w M.K M.mg M.base CX0 8 f fd ["_law_web_here"] (spP (PMade A)) := by
  have nd := scMade.nd
  refine FtR.Fun.okP (k := 7) F scMade (fun ds d ⟨_, _, _, _, h, _⟩ => by rw [h]; rfl) fun cdv A0 outer s0 H E hr F D ds d hP hq hn => ?_
  obtain ⟨L, n, w, G, rfl, rfl⟩ := hP
  exact r_ret (x_makeK (ys := [.lst (w.ts.map e3)]) (zs := [eL (FtM.ordL L w.f w.e)]) Gk (l1 (x_ofL (n_list B.list (x_ixT (xs := [.lst (w.ts.map e3), dicOf (eI w.kvs)]) (v 0 rfl) x_int rfl) (.lst (.dat _))))) (k1 (x_call Go (l1 (v 0 rfl)) ⟨L, n, w.f, w.e, w.ts, w.kvs, G, rfl, rfl⟩)) ⟨L, n, w, G.reps, G.web, rfl, rfl, rfl⟩ rfl rfl) (hq _)
theorem ok_lfl (F : L2.Fun M.K "_law_flipped" "_law_flipped" sLFl f fd) (B : Bl M) (T : WvF M A) (Gf : MeR M A "flipped" 11 (spP (PWvFl AS A))) : FnOk M.P M.w M.K M.mg M.base CX0 12 f fd ["_law_thing", "_law_flips_here"] (spP (PLFl AS A)) := by
  have nd := scLFl.nd
  refine FtR.Fun.okP (k := 11) F scLFl (fun ds d ⟨_, _, _, _, _, _, _, _, _, _, h, _⟩ => by rw [h]; rfl) fun cdv A0 outer s0 H E hr F D ds d hP hq hn => ?_
  obtain ⟨L, n, w, c, m, fl, O, hm, hz, ok, rfl, rfl⟩ := hP
  have hrg : RgC 0 ((fl.map Dt.int).length : Int) 3 (if fl.length = 0 then 0 else 1) := by
    rw [List.length_map]
    have : fl.length = 0 ∨ fl.length = 1 ∨ fl.length = 2 ∨ fl.length = 3 := by omega
    rcases this with h | h | h | h <;> rw [h] <;> exact ⟨by decide, by decide, by decide, by decide⟩
  refine r_set (d := eWv AS A L w c) 2 (v 0 rfl) ?_
  refine r_for (xs := (List.range (if fl.length = 0 then 0 else 1)).map fun (l : Nat) => Dt.int (0 + (l : Int) * 3)) (fun i ds os => ∃ a b : Option Dt, ds = [some (eWv AS A L w c), some (eL fl), some (if i = 0 then eWv AS A L w c else eWv AS A L (w.all fl) (carP w c fl).2), a, b] ∧ os = []) (i_rng3 B.range x_int (x_len B.len (v 1 rfl) (.lst (.dat _))) x_int hrg) ⟨none, none, rfl, rfl⟩ ?_ ?_
  · rintro F' lF i d _ _ hd ⟨a, b, rfl, rfl⟩
    rw [List.getElem?_map] at hd
    obtain ⟨x, hx, rfl⟩ := Option.map_eq_some_iff.mp hd
    have hil := (List.getElem?_eq_some_iff.mp hx).1
    rw [List.length_range] at hil
    rw [List.getElem?_range hil] at hx
    cases hx
    have h0 : i = 0 ∧ fl.length ≠ 0 := by
      split at hil <;> omega
    obtain ⟨rfl, hne⟩ := h0
    rw [if_pos rfl]
    have hcut : cutD (fl.map Dt.int) (some 0) (some 3) = fl.map Dt.int := by
      unfold cutD
      rw [show (0 : Int) = ((0 : Nat) : Int) from rfl, show (3 : Int) = ((3 : Nat) : Int) from rfl, HT.sIx_nat, HT.sIx_nat, List.length_map, Nat.zero_min, List.drop_zero, Nat.sub_zero]
      exact List.take_of_length_le (by rw [List.length_map]; omega)
    refine ⟨_, _, g_name 3, ?_⟩
    refine r_setN 4 (n_slL (l := some 0) (u := some 3) (v (d := .lst (fl.map Dt.int)) 1 rfl) (.dat _) (p_some (PX.to (d := .int 0) (v 3 rfl) rfl)) (p_some (PX.to (d := .int 3) (x_add (v 3 rfl) x_int) rfl))) fun q => ?_
    rw [hcut]
    refine r_if (t := decide (((fl.map Dt.int).length : Int) = 1)) (b_eq (x_len B.len (v 4 rfl) (.lst (.own 0 rfl))) x_int) (fun e => ?_) (fun e => ?_)
    · have e1 := of_decide_eq_true e
      rw [List.length_map] at e1
      obtain ⟨y, rfl⟩ := List.length_eq_one_iff.mp (show fl.length = 1 by omega)
      refine r_set (d := eWv AS A L (w.all [y]) (carP w c [y]).2) 2 (x_methR T.cl Gf (v (d := .ins A fWv (wvV AS L w c)) 2 rfl) (l1 (x_ixL (v 4 rfl) x_int (.own 0 rfl) rfl)) rfl ⟨L, n, w, c, m, [y], O, hm, hz, ok, rfl, rfl⟩) ?_
      exact r_end (r_drop 0 (r_loop _ ⟨_, _, rfl, rfl⟩ (Sub.refl _)))
    · have e1 := of_decide_eq_false e
      rw [List.length_map] at e1
      refine r_if (t := decide (((fl.map Dt.int).length : Int) = 2)) (b_eq (x_len B.len (v 4 rfl) (.lst (.own 0 rfl))) x_int) (fun e => ?_) (fun e => ?_)
      · have e2 := of_decide_eq_true e
        rw [List.length_map] at e2
        obtain ⟨y, z, rfl⟩ := len2 (show fl.length = 2 by omega)
        refine r_set (d := eWv AS A L (w.all [y, z]) (carP w c [y, z]).2) 2 (x_methR T.cl Gf (v (d := .ins A fWv (wvV AS L w c)) 2 rfl) (l2 (x_ixL (v 4 rfl) x_int (.own 0 rfl) rfl) (x_ixL (v 4 rfl) x_int (.own 0 rfl) rfl)) rfl ⟨L, n, w, c, m, [y, z], O, hm, hz, ok, rfl, rfl⟩) ?_
        exact r_end (r_end (r_drop 0 (r_loop _ ⟨_, _, rfl, rfl⟩ (Sub.refl _))))
      · have e2 := of_decide_eq_false e
        rw [List.length_map] at e2
        obtain ⟨y, z, u, rfl⟩ := len3 (show fl.length = 3 by omega)
        refine r_set (d := eWv AS A L (w.all [y, z, u]) (carP w c [y, z, u]).2) 2 (x_methR T.cl Gf (v (d := .ins A fWv (wvV AS L w c)) 2 rfl) (l3 (x_ixL (v 4 rfl) x_int (.own 0 rfl) rfl) (x_ixL (v 4 rfl) x_int (.own 0 rfl) rfl) (x_ixL (v 4 rfl) x_int (.own 0 rfl) rfl)) rfl ⟨L, n, w, c, m, [y, z, u], O, hm, hz, ok, rfl, rfl⟩) ?_
        exact r_end (r_end (r_drop 0 (r_loop _ ⟨_, _, rfl, rfl⟩ (Sub.refl _))))
  · rintro _ _ ⟨a, b, rfl, rfl⟩
    rw [List.length_map, List.length_range]
    by_cases h0 : fl.length = 0
    · have := List.eq_nil_of_length_eq_zero h0
      subst this
      exact r_ret (v 2 rfl) (hq _)
    · rw [if_neg h0]
      exact r_ret (v 2 rfl) (hq _)
end
end FtR
/-! the law -/
namespace FtR
open PySem PySem.Spec PyProof.Rows L2
open FtM (getA putA Tri it orb stp rv ofOrb Per perOf)
abbrev sLaw : Stmt := topS 94
abbrev nLaw : List Str := ["_law_script", "_law_deal_here", "_law_turn", "_law_web_here", "_law_sheet", "_law_counts_here", "_law_thread_here", "_law_row", "_law_late", "_law_there", "_law_again", "_law_flip"]
theorem scLaw : FnScope nLaw ["_law_script"] (defScope sLaw) := ⟨rfl, rfl, rfl, by decide +kernel, rfl, by decide +kernel, by decide +kernel⟩
def spLaw (K : PySem.W.Frag) : Sp := fun vs H Q _ => ∃ (q : Addr) (is : List Int), vs = [.ref q] ∧ SqL K H q (is.map V.int) ∧ is.length ≤ 63 ∧ ∀ H', Q (.bl true) H'
theorem shEqB_refl (L : Nat) (w : WS) : shEqB L L w w = true := by
  unfold shEqB
  rw [decide_eq_true (rfl : FtM.inOrder w.ts = FtM.inOrder w.ts), decide_eq_true (rfl : FtM.ordL L w.f w.e = FtM.ordL L w.f w.e)]
  rfl
theorem wvEqB_refl (L : Nat) (w : WS) (c : Int → Int) : wvEqB L L w w c c = true := by
  unfold wvEqB
  rw [shEqB_refl, decide_eq_true (rfl : rowC L c = rowC L c)]
  rfl
section
variable {M : Mo} {x qual : Str} {st : Stmt} {f : Addr} {fd : FuncData} {N ps : List Str} {k : Nat}
theorem Fun.okL (F : L2.Fun M.K x qual st f fd) (S : FnScope N ps (defScope st)) (h1 : ps.length = 1)
    (body : ∀ (cdv : Value) (A : Around) (outer : List Env) (s : Shared) (H : Hp) (E : XK) (hr : Room k (A.deeper (envOfC qual (defScope st) s.heap.objs.size f cdv))) (F : Fr) (D : Ends) (q : Addr) (is : List Int), is.length ≤ 63 → SqL M.K F.H q (is.map V.int) → (∀ os, RtOk M.w F D.rt (.bl true) os) →
      Run (cx0 M k N qual (defScope st) f cdv A outer s H E hr) F (defBody st) D (some (.adr q) :: List.replicate (N.length - 1) none) []) : FnOk M.P M.w M.K M.mg M.base CX0 (k + 1) f fd ps (spLaw M.K) := by
  refine F.ok S (fun vs H Q E h => ?_) (fun cdv A outer s H vs Q E hr h => ?_)
  · obtain ⟨q, is, rfl, _⟩ := h
    rw [h1]
    rfl
  · obtain ⟨p, is, rfl, hS, hz, q⟩ := h
    obtain ⟨t, D', l, h1, h2⟩ := body cdv A outer s H E hr ⟨H, H⟩ { nx := fun _ H' => Q .non H', rt := Q } p is hz hS (fun os B' H' v S' i => by rw [is_bl i]; exact q H') H H (L2.start N [V.ref p]) (Sh.start (Same.refl H)) (by rw [start_eq N [V.ref p] 1 rfl]; exact Slots.start (N.length - 1) (.cons Is.mk_adr .nil))
    refine ⟨fun D σ H => ∃ D', Le D' D ∧ t D' σ H, ⟨fun pins s σ H D I hw => ?_⟩, D', l, h2⟩
    obtain ⟨D'', l2, hw⟩ := hw
    exact thn ((h1 ()).run pins s σ H D'' I hw) fun _ _ z => SP.le l2 z
end
section
variable {M : Mo} {f AS AW AL : Addr} {fd : FuncData}
theorem ok_law (F : L2.Fun M.K "law" "law" sLaw f fd) (B : Bl M) (TW : WvF M AW) (TL : LdF M AL)
    (Gd : Glob M "_law_deal" 1 ["_law_script"] (spS M.w M.K PDeal)) (Gw : Glob M "_law_web" 5 ["_law_deal_here", "_law_most", "_law_many_here"] (spM M.w PWeb)) (Gm : Glob M "_law_made" 8 ["_law_web_here"] (spP (PMade AS))) (Gt : Glob M "_law_thread" 5 ["_law_deal_here", "_law_web_here", "_law_most"] (spM M.w PThread))
    (Gk : Mk1 M "Weave" AW 3 ["self", "sheet", "counts"] (spI M.w AW (PWvI AS))) (Go : Glob M "word" 10 ["thread"] (spP (PWord AS AW))) (Gl : Glob M "lay" 12 ["sheet", "path"] (spP (PLay AS AW AL))) (Pt : Pr M AL "thread" 1 (PLdT AL))
    (Gp : Glob M "_law_pick" 1 ["_law_deal_here", "_law_many_here"] (spM M.w PPick)) (Gf : Glob M "_law_flips" 4 ["_law_deal_here", "_law_web_here", "_law_many_here"] (spM M.w PFlips)) (Gx : Glob M "_law_flipped" 12 ["_law_thing", "_law_flips_here"] (spP (PLFl AS AW)))
    (Ptot : Pr M AW "total" 1 (PWvTot AS AW)) (Psh : Pr M AW "sheet" 1 (PWvSheet AS AW)) (Gc : Me M AW "counts" 1 ["self"] (spP (PWvCnt AS AW))) (Gca : Glob M "_law_carried_all" 4 ["_law_web_here", "_law_counts_here", "_law_flips_here"] (spP PCarAll)) (Ge : EqO M AW 3 (PWvEq AS AW)) : FnOk M.P M.w M.K M.mg M.base CX0 13 f fd ["_law_script"] (spLaw M.K) := by
  have nd := scLaw.nd
  refine FtR.Fun.okL (k := 12) F scLaw rfl fun cdv A0 outer s0 H E hr F D q0 is hz hS hq => ?_
  refine r_setN 1 (n_callS hS Gd (v 0 rfl) ⟨hz, rfl⟩) fun q => ?_
  refine r_for (xs := (List.range (4 : Int).toNat).map fun i => Dt.int ((i : Nat) : Int)) (fun i ds os => ∃ (s : Deal) (a b c d e g h j k l : Option Dt), 0 ≤ s.i ∧ ds = [some (.adr q0), some (.adr q), a, b, c, d, e, g, h, j, k, l] ∧ os = [(q, eDeal s)]) (i_rng1 B.range x_int ⟨by decide, by decide⟩) ⟨dealOf is, none, none, none, none, none, none, none, none, none, none, Int.le_refl _, rfl, rfl⟩ ?_ ?_
  · rintro F' lF i d _ _ hd ⟨s, xa, xb, xc, xd, xe, xg, xh, xj, xk, xl, hi, rfl, rfl⟩
    rw [List.getElem?_map] at hd
    obtain ⟨y, _, rfl⟩ := Option.map_eq_some_iff.mp hd
    refine ⟨_, _, g_name 2, ?_⟩
    refine r_set (d := (webOf s).1.d) (os1 := [(q, eDeal (webOf s).2)]) 3 (x_callM Gw 0 (l3 (v 1 rfl) x_int x_int) rfl ⟨s, rfl, hi, rfl, rfl, rfl⟩) ?_
    obtain ⟨G, hi1⟩ := webOf_ok hi
    generalize webOf s = ws at *
    obtain ⟨w, s1⟩ := ws
    dsimp only at *
    generalize 3 * webM s = L at *
    generalize webM s + 2 = n at *
    obtain ⟨hi2, c, T, hc240, hrow⟩ := thread_ok G hi1
    obtain ⟨z1, z2, z3, z4⟩ := G.size
    have O0 : OkC L n w c 240 := ⟨G.okW, T.fit, hc240⟩
    have hsum0 : (rowC L c).sum ≤ 5000 := by
      have h1 := sum_le (m := 240) (rowC L c) fun x hx => by
        obtain ⟨i, hi, rfl⟩ := List.mem_map.mp hx
        have := List.mem_range.mp hi
        exact hc240 _ (by unfold FtM.IsLn; omega)
      rw [rowC_len] at h1
      omega
    refine r_parDD (os1 := [(q, eDeal s1)]) (os2 := [(q, eDeal (threadR L n w s1).2)]) 4 5 (x_call Gm (l1 (v 3 rfl)) ⟨L, n, w, G, rfl, rfl⟩) (x_callM (d := eC L c) Gt 0 (l3 (v 1 rfl) (v 3 rfl) x_int) rfl ⟨L, n, s1, w, G, rfl, hi1, rfl, by rw [hrow]; rfl, rfl⟩) ?_
    generalize (threadR L n w s1).2 = s2 at *
    have Olay : ∀ {w : WS} {c : Int → Int} {m : Int}, OkC L n w c m → m ≤ 4000 → OkC L n w c 4000 := fun O h => O.mono h
    refine r_set (d := eWv AS AW L w c) 6 (x_prop TL.cl Pt (PX.to (d := .ins AL fLd [eSh AS L w, eT (wordL L w.f c), eWv AS AW L w c]) (x_call Gl (l2 (v 4 rfl) (x_call Go (l1 (PX.to (d := eWv AS AW L w c) (x_make Gk (l2 (v 4 rfl) (v 5 rfl)) ⟨L, n, w, c, O0.mono (by decide), rfl, rfl, rfl⟩) rfl)) ⟨L, n, w, c, O0.mono (by decide), T, hsum0, rfl, rfl⟩)) ⟨L, n, w, c, O0.mono (by decide), T, hsum0, rfl, rfl⟩) rfl) ⟨_, _, rfl⟩) ?_
    have hp3 := pick_lt s2 (m := 3) (by decide)
    have hi3 := pick_i s2 3 hi2
    obtain ⟨ok, hi4, hfl⟩ := flipsR_ok (1 + (pick s2 3).1).toNat G hi3
    refine r_set (d := eL (flipsR L (1 + (pick s2 3).1).toNat (pick s2 3).2 w).1) (os1 := [(q, eDeal (flipsR L (1 + (pick s2 3).1).toNat (pick s2 3).2 w).2)]) 7 (x_callM Gf 0 (l3 (v 1 rfl) (v 3 rfl) (x_add x_int (x_callM (d := .int (pick s2 3).1) Gp 0 (l2 (v 1 rfl) x_int) rfl ⟨s2, 3, rfl, rfl, by decide, by decide, hi2, rfl, rfl⟩))) rfl ⟨L, n, (pick s2 3).2, w, (1 + (pick s2 3).1).toNat, G, rfl, hi3, by omega, by rw [Int.toNat_of_nonneg (by omega)], rfl, rfl⟩) ?_
    have hfl3 : (flipsR L (1 + (pick s2 3).1).toNat (pick s2 3).2 w).1.length ≤ 3 := by omega
    generalize flipsR L (1 + (pick s2 3).1).toNat (pick s2 3).2 w = fr at *
    obtain ⟨fl, s3⟩ := fr
    dsimp only at *
    refine r_set (d := eWv AS AW L (w.all fl) (carP w c fl).2) 8 (x_call Gx (l2 (v 6 rfl) (v 7 rfl)) ⟨L, n, w, c, 240, fl, O0, by decide, hfl3, ok, rfl, rfl⟩) ?_
    have h8 : (2 : Int) ^ fl.length ≤ 8 := by
      have : fl.length = 0 ∨ fl.length = 1 ∨ fl.length = 2 ∨ fl.length = 3 := by omega
      rcases this with h | h | h | h <;> rw [h] <;> decide
    have O1 : OkC L n (w.all fl) (carP w c fl).2 1920 := (O0.all ok).mono (by omega)
    have T1 := carP_thr T ok
    obtain ⟨okr, agr, cback⟩ := all_back G.okW T.fit ok
    have hrl : (revL fl).length ≤ 3 := by
      unfold revL
      rw [List.length_reverse, List.length_map]
      exact hfl3
    have hagain : eWv AS AW L ((w.all fl).all (revL fl)) (carP (w.all fl) (carP w c fl).2 (revL fl)).2 = eWv AS AW L w c := eWv_congr agr (OkW.all O1.ok okr) G.okW cback
    generalize hc1 : (carP w c fl).2 = c1 at *
    refine r_when (t := decide ((rowC L c1).sum ≤ 400)) (b_le (x_prop TW.cl Ptot (v (d := .ins AW fWv (wvV AS L (w.all fl) c1)) 8 rfl) ⟨L, w.all fl, c1, rfl, rfl⟩) x_int) (fun e1 => ?_) (fun e1 => r_loop _ ⟨s3, _, _, _, _, _, _, _, _, _, _, hi4, rfl, rfl⟩ (Sub.refl _))
    have hsum1 : (rowC L c1).sum ≤ 5000 := by
      have := of_decide_eq_true e1
      omega
    refine r_set (d := eSh AS L (w.all fl)) 9 (x_prop TW.cl Psh (v (d := .ins AW fWv (wvV AS L (w.all fl) c1)) 8 rfl) ⟨L, w.all fl, c1, rfl, rfl⟩) ?_
    refine r_when (t := !decide (rowC L c1 = rowC L c1)) (b_neI (x_meth0 TW.cl Gc (v (d := .ins AW fWv (wvV AS L (w.all fl) c1)) 8 rfl) rfl ⟨L, w.all fl, c1, rfl, rfl⟩) (x_call Gca (l3 (v 3 rfl) (v 5 rfl) (v 7 rfl)) ⟨L, n, w, c, fl, G, T.fit, ok, rfl, by rw [hc1]; rfl⟩)) (fun e => ?_) (fun _ => ?_)
    · rw [decide_eq_true rfl] at e
      exact absurd e (by decide)
    refine r_when (t := !wvEqB L L (w.all fl) (w.all fl) c1 c1) (b_neO (A := AW) (fs := fWv) (xs := wvV AS L (w.all fl) c1) (gs := fWv) (ys := wvV AS L (w.all fl) c1) Ge (PX.to (x_prop TL.cl Pt (PX.to (d := .ins AL fLd [eSh AS L (w.all fl), eT (wordL L (w.all fl).f c1), eWv AS AW L (w.all fl) c1]) (x_call Gl (l2 (v 9 rfl) (x_call Go (l1 (v 8 rfl)) ⟨L, n, w.all fl, c1, O1.mono (by decide), T1, hsum1, rfl, rfl⟩)) ⟨L, n, w.all fl, c1, O1.mono (by decide), T1, hsum1, rfl, rfl⟩) rfl) ⟨_, _, rfl⟩) rfl) (v (d := .ins AW fWv (wvV AS L (w.all fl) c1)) 8 rfl) ⟨L, L, w.all fl, w.all fl, c1, c1, rfl, rfl⟩) (fun e => ?_) (fun _ => ?_)
    · rw [wvEqB_refl] at e
      exact absurd e (by decide)
    refine r_set (d := eWv AS AW L w c) 10 (PX.to (x_call Gx (l2 (x_prop TL.cl Pt (PX.to (d := .ins AL fLd [eSh AS L (w.all fl), eT (wordL L (w.all fl).f c1), eWv AS AW L (w.all fl) c1]) (x_call Gl (l2 (v 9 rfl) (x_call Go (l1 (v 8 rfl)) ⟨L, n, w.all fl, c1, O1.mono (by decide), T1, hsum1, rfl, rfl⟩)) ⟨L, n, w.all fl, c1, O1.mono (by decide), T1, hsum1, rfl, rfl⟩) rfl) ⟨_, _, rfl⟩) (PX.to (d := eL (revL fl)) (x_ofL (n_revL (x_ofL (n_lc0 (l := fl) (enc := Dt.int) (g := fun a => Dt.int (0 - a)) [("_law_flip", 11)] (fun a => [some (.adr q0), some (.adr q), some (.int (y : Nat)), some w.d, some (eSh AS L w), some (eC L c), some (eWv AS AW L w c), some (eL fl), some (eWv AS AW L (w.all fl) c1), some (eSh AS L (w.all fl)), xk, some (.int a)]) (i_list (v 7 rfl)) (fun _ => ⟨nd, blkOk_by (N := nLaw) (sc := defScope sLaw) (by decide +kernel)⟩) (fun a ha F => ⟨_, g_name 11, by simp⟩) (fun a ha F => x_sub x_int (v 11 rfl)) (by omega))) (.dat _))) ?_)) ⟨L, n, w.all fl, c1, 1920, revL fl, O1, by decide, hrl, okr, rfl, rfl⟩) hagain) ?_
    · unfold revL eL
      rw [List.map_reverse, List.map_map]
      rfl
    refine r_when (t := (!wvEqB L L w w c c) || (!decide (wordL L w.f c = wordL L w.f c))) (b_w (w_or (b_neO Ge (v (d := .ins AW fWv (wvV AS L w c)) 10 rfl) (v (d := .ins AW fWv (wvV AS L w c)) 6 rfl) ⟨L, L, w, w, c, c, rfl, rfl⟩) (fun _ => w_or1 (b_neTI (x_call Go (l1 (v 10 rfl)) ⟨L, n, w, c, O0.mono (by decide), T, hsum0, rfl, rfl⟩) (x_call Go (l1 (v 6 rfl)) ⟨L, n, w, c, O0.mono (by decide), T, hsum0, rfl, rfl⟩))) (fun _ => rfl))) (fun e => ?_) (fun _ => ?_)
    · rw [wvEqB_refl, decide_eq_true rfl] at e
      exact absurd e (by decide)
    exact r_end (r_loop _ ⟨s3, _, _, _, _, _, _, _, _, _, _, hi4, rfl, rfl⟩ (Sub.refl _))
  · rintro _ _ ⟨s, xa, xb, xc, xd, xe, xg, xh, xj, xk, xl, hi, rfl, rfl⟩
    exact r_ret x_bl (hq _)
end
end FtR
set_option maxHeartbeats 0
/-! every def's promise, from the head's facts -/
namespace FtHead
open PySem PySem.Spec PyProof.Rows L2 He FtR
theorem own_of {K : PySem.W.Frag} {C : Addr} (cl : Cls K C) (h : clsB K C = true) : IsOwn K C ∧ PySem.W.findIn K (.ref C) "__ne__" = some (some (.builtin "object.__ne__")) ∧ PySem.W.mroIn K C (.type "object") = some true := by
  obtain ⟨h1, h⟩ := ba h
  obtain ⟨h2, h⟩ := ba h
  obtain ⟨h3, h⟩ := ba h
  obtain ⟨h4, h5⟩ := ba h
  exact ⟨⟨cl, eqO_ok h1, eqO_ok h2, of_decide_eq_true h3, of_decide_eq_true h4, by unfold PySem.W.kitOne; rw [if_pos (beq_self_eq_true _)]⟩, eqO_ok h5, of_decide_eq_true h4⟩
theorem eqN_of {K : PySem.W.Frag} {C f : Addr} (m : Meth K C "__eq__" f) (ne : PySem.W.findIn K (.ref C) "__ne__" = some (some (.builtin "object.__ne__"))) (ob : PySem.W.mroIn K C (.type "object") = some true) : OwnE K C f ∧ OwnN K C f :=
  have h : OwnE K C f := ⟨m.at_, m.fn, by unfold PySem.W.notFirst; rw [beq_self_eq_true, Bool.true_or]⟩
  ⟨h, h, ne, ob⟩
theorem prop_of {K : PySem.W.Frag} {C : Addr} {m : Str} (h : prB K C m = true) : PropOf K C m (ma K C m) (He5.wf K C "property" m) := by
  obtain ⟨h1, h⟩ := ba h
  obtain ⟨h2, h⟩ := ba h
  obtain ⟨h3, h4⟩ := ba h
  refine ⟨eqO_ok h1, eqO_ok h2, of_decide_eq_true h3, ?_⟩
  unfold He5.wf
  split at h4
  · rename_i f r e
    exact ⟨r, by rw [e]⟩
  · cases h4
theorem sup_of {M : Mo} {x q m : Str} {st : Stmt} {f C f2 : Addr} (hP : M.P = PySem.Challenge.pw_flipthreads_k43_whole_laid_paths_on_anot) (hs : fnS M.K f = (some (x, q, defArgs st, FuncBody.stmts (defBody st), defScope st, mainGlobals, ["__class__"], builtinsNs) : FnS)) (h : supB M.K f C f2 q m = true) (hsup : M.mg "super" = none) : ∃ fd, SupOk M x q st f fd C f2 m := by
  obtain ⟨h1, h⟩ := ba h
  obtain ⟨h2, h⟩ := ba h
  obtain ⟨h3, h⟩ := ba h
  obtain ⟨h4, h⟩ := ba h
  obtain ⟨h5, h⟩ := ba h
  obtain ⟨h6, h7⟩ := ba h
  have rest : ∀ fd, (∃ (oc : Value) (od : Option Addr) (kV doc pm : Value) (an : Option Addr) (c : Addr) (ct : Value) (osl : Array (Option Value)) (cc : Addr) (ccl : Value) (cdd : Option Addr) (vs : Array Value) (ccs : Array (Option Value)) (file : Str) (tf : Tok) (cl : Value) (cld : Option Addr) (csl : Array (Option Value)),
    fd = PySem.W.fnX x q (defArgs st) (defBody st) (defScope st) [("__class__", cc)] .none kV doc pm an (.ref c) ct ∧ M.K.lookup f = some ⟨oc, od, .func fd, osl⟩ ∧ PySem.W.codeIn M.K (.ref c) q = true ∧
    M.K.lookup c = some ⟨ccl, cdd, .fields vs, ccs⟩ ∧ vs[2]? = some (.str file tf) ∧ ((M.P.main.file : Str) == file) = true ∧ M.K.lookup cc = some ⟨cl, cld, .cell (some (.ref C)), csl⟩) → SupOk M x q st f fd C f2 m := fun fd ex =>
    ⟨ex, Option.isSome_iff_exists.mp h2, of_decide_eq_true h3, hsup, eqO_ok h4, eqO_ok h5, by have := beq_iff_eq.mp h6; exact this, h7, by rw [hP]; decide +kernel⟩
  unfold fnS at hs
  cases hl : M.K.lookup f with
  | none =>
    rw [hl] at hs
    cases hs
  | some o =>
    obtain ⟨oc, od, dt, osl⟩ := o
    rw [hl] at hs h1
    cases dt with
    | func fd =>
      obtain ⟨n1, n2, n3, n4, n5, n6, n7, n8, n9, n10, n11, n12, n13, n14, n15⟩ := fd
      simp only [Option.some.injEq, Prod.mk.injEq] at hs
      obtain ⟨e1, e2, e3, e4, e5, e6, e7, e8⟩ := hs
      subst e1 e2 e3 e4 e5 e6 e8
      dsimp only at h1
      unfold supFd at h1
      dsimp only at h1
      split at h1
      · rename_i y cc c
        obtain ⟨k1, k⟩ := ba h1
        obtain ⟨k2, k3⟩ := ba k
        have ey : y = "__class__" := List.head_eq_of_cons_eq e7
        subst ey
        unfold codeB at k2
        cases hc : M.K.lookup c with
        | none =>
          rw [hc] at k2
          cases k2
        | some oc2 =>
          obtain ⟨ccl, cdd, cdt, ccs⟩ := oc2
          rw [hc] at k2
          cases cdt with
          | fields vs =>
            have k2' : fileIs vs[2]? = true := k2
            unfold fileIs at k2'
            split at k2'
            · rename_i file tf ev
              unfold cellB at k3
              cases hcc : M.K.lookup cc with
              | none =>
                rw [hcc] at k3
                cases k3
              | some occ =>
                obtain ⟨cl, cld, cdt2, csl⟩ := occ
                rw [hcc] at k3
                cases cdt2 with
                | cell v =>
                  cases v with
                  | none => cases k3
                  | some v =>
                    cases v with
                    | ref D =>
                      have eD : D = C := of_decide_eq_true k3
                      subst eD
                      exact ⟨_, rest _ ⟨oc, od, _, _, _, _, c, _, osl, cc, ccl, cdd, vs, ccs, file, tf, cl, cld, csl, rfl, hl, k1, hc, ev, by rw [hP]; exact k2', hcc⟩⟩
                    | _ => cases k3
                | _ => cases k3
            · cases k2'
          | _ => cases k2
      · cases h1
    | _ => cases hs
theorem kbn_of {K : PySem.W.Frag} {f : Addr} {fd : FuncData} (F : L2.Fun K "__init__" "Sheet.__init__" sShI f fd) : KBn K fd ["self", "triangles", "order"] (1 + 1) ["order"] (fun us ws => us ++ ws) (fun vs zs => vs ++ zs) := by
  obtain ⟨oc, od, kV, doc, pm, an, cdv, ct, osl, rfl, lk, hcd⟩ := F.ex
  refine ⟨fun s us ws _ h1 h2 => ?_, fun r1 r2 => r1.append r2⟩
  match us, ws, h1, h2 with
  | [a, b], [c], _, _ => exact .of_eq rfl

theorem all_M (M : Mo) (hP : M.P = PySem.Challenge.pw_flipthreads_k43_whole_laid_paths_on_anot) (c : SaysF M.K) (hg : ∀ x, (Fa.glo x).ok M.K = true → M.mg x = some (.ref (ga M.K x))) (hf : ∀ x, (Fa.free x).ok M.K = true → M.mg x = none) (hi : ∀ x i, (Fa.int x i).ok M.K = true → ∃ t, M.mg x = some (.int i t))
    {f : Addr} {fd : FuncData} (F_law : L2.Fun M.K "law" "law" sLaw f fd) : FnOk M.P M.w M.K M.mg M.base CX0 13 f fd ["_law_script"] (spLaw M.K) := by
  have B : Bl M := ⟨hf _ (c.a.fact 67 (f := .free "abs") rfl), hf _ (c.a.fact 68 (f := .free "all") rfl), hf _ (c.a.fact 69 (f := .free "any") rfl), hf _ (c.a.fact 70 (f := .free "bool") rfl), hf _ (c.a.fact 71 (f := .free "dict") rfl), hf _ (c.a.fact 72 (f := .free "enumerate") rfl), hf _ (c.a.fact 73 (f := .free "int") rfl), hf _ (c.a.fact 74 (f := .free "isinstance") rfl), hf _ (c.a.fact 75 (f := .free "len") rfl), hf _ (c.a.fact 76 (f := .free "list") rfl), hf _ (c.a.fact 77 (f := .free "max") rfl), hf _ (c.a.fact 78 (f := .free "min") rfl), hf _ (c.a.fact 79 (f := .free "range") rfl), hf _ (c.a.fact 80 (f := .free "set") rfl), hf _ (c.a.fact 81 (f := .free "sorted") rfl), hf _ (c.a.fact 82 (f := .free "sum") rfl), hf _ (c.a.fact 83 (f := .free "tuple") rfl), hf _ (c.a.fact 84 (f := .free "zip") rfl)⟩
  have hsup : M.mg "super" = none := hf _ (c.a.fact 85 (f := .free "super") rfl)
  obtain ⟨t_FEWEST_TRIANGLES, i_FEWEST_TRIANGLES⟩ := hi _ _ (c.a.fact 86 (f := .int "FEWEST_TRIANGLES" 6) rfl)
  obtain ⟨t_MOST_TRIANGLES, i_MOST_TRIANGLES⟩ := hi _ _ (c.a.fact 87 (f := .int "MOST_TRIANGLES" 16) rfl)
  obtain ⟨t_MOST_CROSSINGS, i_MOST_CROSSINGS⟩ := hi _ _ (c.a.fact 88 (f := .int "MOST_CROSSINGS" 5000) rfl)
  have T_Sheet : ShF M (ga M.K "Sheet") := ⟨cls_ok (c.a.fact 89 (f := .cls "Sheet") rfl), noat_ok (c.a.fact 95 (f := .noat "Sheet" "own_triangles") rfl), noat_ok (c.a.fact 96 (f := .noat "Sheet" "parts") rfl), noat_ok (c.a.fact 97 (f := .noat "Sheet" "own_order") rfl), noat_ok (c.a.fact 98 (f := .noat "Sheet" "starts") rfl)⟩
  have m_Sheet := hg _ (c.a.fact 64 (f := .glo "Sheet") rfl)
  have K_Sheet := mkr_ok (c.a.fact 90 (f := .mkr "Sheet") rfl)
  have T_Weave : WvF M (ga M.K "Weave") := ⟨cls_ok (c.a.fact 91 (f := .cls "Weave") rfl), noat_ok (c.a.fact 99 (f := .noat "Weave" "own_sheet") rfl), noat_ok (c.a.fact 100 (f := .noat "Weave" "own_counts") rfl)⟩
  have m_Weave := hg _ (c.a.fact 65 (f := .glo "Weave") rfl)
  have K_Weave := mkr_ok (c.a.fact 92 (f := .mkr "Weave") rfl)
  have T_Laid : LdF M (ga M.K "Laid") := ⟨cls_ok (c.a.fact 93 (f := .cls "Laid") rfl), noat_ok (c.a.fact 101 (f := .noat "Laid" "own_sheet") rfl), noat_ok (c.a.fact 102 (f := .noat "Laid" "own_path") rfl), noat_ok (c.a.fact 103 (f := .noat "Laid" "own_thread") rfl)⟩
  have m_Laid := hg _ (c.a.fact 66 (f := .glo "Laid") rfl)
  have K_Laid := mkr_ok (c.a.fact 94 (f := .mkr "Laid") rfl)
  have hb := c.b
  unfold bs at hb
  obtain ⟨b1, hb⟩ := ba hb
  obtain ⟨b2, hb⟩ := ba hb
  obtain ⟨b3, hb⟩ := ba hb
  obtain ⟨hb, p_Laid_thread⟩ := ba hb
  obtain ⟨hb, p_Sheet_lines⟩ := ba hb
  obtain ⟨hb, p_Weave_total⟩ := ba hb
  have p_Weave_sheet := hb
  obtain ⟨O_Sheet, ne_Sheet, ob_Sheet⟩ := own_of T_Sheet.cl b1
  obtain ⟨O_Weave, ne_Weave, ob_Weave⟩ := own_of T_Weave.cl b2
  have hsS := c.s
  obtain ⟨fd_is_number, Z⟩ := c.a.def_ 0 (d := d0) rfl
  have F_is_number : L2.Fun M.K "is_number" "is_number" (topS 16) (ga M.K "is_number") fd_is_number := He5.fun_of Z
  clear Z
  obtain ⟨fd_is_within, Z⟩ := c.a.def_ 1 (d := d1) rfl
  have F_is_within : L2.Fun M.K "is_within" "is_within" (topS 17) (ga M.K "is_within") fd_is_within := He5.fun_of Z
  clear Z
  obtain ⟨fd_is_list, Z⟩ := c.a.def_ 2 (d := d2) rfl
  have F_is_list : L2.Fun M.K "is_list" "is_list" (topS 18) (ga M.K "is_list") fd_is_list := He5.fun_of Z
  clear Z
  obtain ⟨fd_is_line, Z⟩ := c.a.def_ 3 (d := d3) rfl
  have F_is_line : L2.Fun M.K "is_line" "is_line" (topS 19) (ga M.K "is_line") fd_is_line := He5.fun_of Z
  clear Z
  obtain ⟨fd_least_turn, Z⟩ := c.a.def_ 4 (d := d4) rfl
  have F_least_turn : L2.Fun M.K "least_turn" "least_turn" (topS 20) (ga M.K "least_turn") fd_least_turn := He5.fun_of Z
  clear Z
  obtain ⟨fd_backwards, Z⟩ := c.a.def_ 5 (d := d5) rfl
  have F_backwards : L2.Fun M.K "backwards" "backwards" (topS 21) (ga M.K "backwards") fd_backwards := He5.fun_of Z
  clear Z
  obtain ⟨fd_same_round, Z⟩ := c.a.def_ 6 (d := d6) rfl
  have F_same_round : L2.Fun M.K "same_round" "same_round" (topS 22) (ga M.K "same_round") fd_same_round := He5.fun_of Z
  clear Z
  obtain ⟨fd_check_total, Z⟩ := c.a.def_ 7 (d := d7) rfl
  have F_check_total : L2.Fun M.K "check_total" "check_total" (topS 25) (ga M.K "check_total") fd_check_total := He5.fun_of Z
  clear Z
  obtain ⟨fd_step_from, Z⟩ := c.a.def_ 8 (d := d8) rfl
  have F_step_from : L2.Fun M.K "step_from" "step_from" (topS 26) (ga M.K "step_from") fd_step_from := He5.fun_of Z
  clear Z
  obtain ⟨fd_steps_of, Z⟩ := c.a.def_ 9 (d := d9) rfl
  have F_steps_of : L2.Fun M.K "steps_of" "steps_of" (topS 27) (ga M.K "steps_of") fd_steps_of := He5.fun_of Z
  clear Z
  obtain ⟨fd_first_round, Z⟩ := c.a.def_ 10 (d := d10) rfl
  have F_first_round : L2.Fun M.K "first_round" "first_round" (topS 28) (ga M.K "first_round") fd_first_round := He5.fun_of Z
  clear Z
  obtain ⟨fd_word, Z⟩ := c.a.def_ 11 (d := d11) rfl
  have F_word : L2.Fun M.K "word" "word" (topS 29) (ga M.K "word") fd_word := He5.fun_of Z
  clear Z
  obtain ⟨fd_do_fit, Z⟩ := c.a.def_ 12 (d := d12) rfl
  have F_do_fit : L2.Fun M.K "do_fit" "do_fit" (topS 31) (ga M.K "do_fit") fd_do_fit := He5.fun_of Z
  clear Z
  obtain ⟨fd_is_thread, Z⟩ := c.a.def_ 13 (d := d13) rfl
  have F_is_thread : L2.Fun M.K "is_thread" "is_thread" (topS 34) (ga M.K "is_thread") fd_is_thread := He5.fun_of Z
  clear Z
  obtain ⟨fd_check_path, Z⟩ := c.a.def_ 14 (d := d14) rfl
  have F_check_path : L2.Fun M.K "check_path" "check_path" (topS 36) (ga M.K "check_path") fd_check_path := He5.fun_of Z
  clear Z
  obtain ⟨fd_tightened, Z⟩ := c.a.def_ 15 (d := d15) rfl
  have F_tightened : L2.Fun M.K "tightened" "tightened" (topS 37) (ga M.K "tightened") fd_tightened := He5.fun_of Z
  clear Z
  obtain ⟨fd_tight, Z⟩ := c.a.def_ 16 (d := d16) rfl
  have F_tight : L2.Fun M.K "tight" "tight" (topS 38) (ga M.K "tight") fd_tight := He5.fun_of Z
  clear Z
  obtain ⟨fd_weave_of, Z⟩ := c.a.def_ 17 (d := d17) rfl
  have F_weave_of : L2.Fun M.K "weave_of" "weave_of" (topS 39) (ga M.K "weave_of") fd_weave_of := He5.fun_of Z
  clear Z
  obtain ⟨fd_thread_of, Z⟩ := c.a.def_ 18 (d := d18) rfl
  have F_thread_of : L2.Fun M.K "thread_of" "thread_of" (topS 44) (ga M.K "thread_of") fd_thread_of := He5.fun_of Z
  clear Z
  obtain ⟨fd_lay, Z⟩ := c.a.def_ 19 (d := d19) rfl
  have F_lay : L2.Fun M.K "lay" "lay" (topS 45) (ga M.K "lay") fd_lay := He5.fun_of Z
  clear Z
  obtain ⟨fd_begun_at, Z⟩ := c.a.def_ 20 (d := d20) rfl
  have F_begun_at : L2.Fun M.K "begun_at" "begun_at" (topS 49) (ga M.K "begun_at") fd_begun_at := He5.fun_of Z
  clear Z
  obtain ⟨fd_in_order, Z⟩ := c.a.def_ 21 (d := d21) rfl
  have F_in_order : L2.Fun M.K "in_order" "in_order" (topS 50) (ga M.K "in_order") fd_in_order := He5.fun_of Z
  clear Z
  obtain ⟨fd_parts_of, Z⟩ := c.a.def_ 22 (d := d22) rfl
  have F_parts_of : L2.Fun M.K "parts_of" "parts_of" (topS 51) (ga M.K "parts_of") fd_parts_of := He5.fun_of Z
  clear Z
  obtain ⟨fd_around, Z⟩ := c.a.def_ 23 (d := d23) rfl
  have F_around : L2.Fun M.K "around" "around" (topS 52) (ga M.K "around") fd_around := He5.fun_of Z
  clear Z
  obtain ⟨fd_nails_met, Z⟩ := c.a.def_ 24 (d := d24) rfl
  have F_nails_met : L2.Fun M.K "nails_met" "nails_met" (topS 53) (ga M.K "nails_met") fd_nails_met := He5.fun_of Z
  clear Z
  obtain ⟨fd_is_triangle, Z⟩ := c.a.def_ 25 (d := d25) rfl
  have F_is_triangle : L2.Fun M.K "is_triangle" "is_triangle" (topS 54) (ga M.K "is_triangle") fd_is_triangle := He5.fun_of Z
  clear Z
  obtain ⟨fd_check_triangles, Z⟩ := c.a.def_ 26 (d := d26) rfl
  have F_check_triangles : L2.Fun M.K "check_triangles" "check_triangles" (topS 55) (ga M.K "check_triangles") fd_check_triangles := He5.fun_of Z
  clear Z
  obtain ⟨fd_hang_together, Z⟩ := c.a.def_ 27 (d := d27) rfl
  have F_hang_together : L2.Fun M.K "hang_together" "hang_together" (topS 56) (ga M.K "hang_together") fd_hang_together := He5.fun_of Z
  clear Z
  obtain ⟨fd_triangles_behind, Z⟩ := c.a.def_ 28 (d := d28) rfl
  have F_triangles_behind : L2.Fun M.K "triangles_behind" "triangles_behind" (topS 57) (ga M.K "triangles_behind") fd_triangles_behind := He5.fun_of Z
  clear Z
  obtain ⟨fd_sheet_with, Z⟩ := c.a.def_ 29 (d := d29) rfl
  have F_sheet_with : L2.Fun M.K "sheet_with" "sheet_with" (topS 59) (ga M.K "sheet_with") fd_sheet_with := He5.fun_of Z
  clear Z
  obtain ⟨fd__law_deal, Z⟩ := c.a.def_ 30 (d := d30) rfl
  have F__law_deal : L2.Fun M.K "_law_deal" "_law_deal" (topS 61) (ga M.K "_law_deal") fd__law_deal := He5.fun_of Z
  clear Z
  obtain ⟨fd__law_pick, Z⟩ := c.a.def_ 31 (d := d31) rfl
  have F__law_pick : L2.Fun M.K "_law_pick" "_law_pick" (topS 62) (ga M.K "_law_pick") fd__law_pick := He5.fun_of Z
  clear Z
  obtain ⟨fd__law_of, Z⟩ := c.a.def_ 32 (d := d32) rfl
  have F__law_of : L2.Fun M.K "_law_of" "_law_of" (topS 63) (ga M.K "_law_of") fd__law_of := He5.fun_of Z
  clear Z
  obtain ⟨fd__law_mixed, Z⟩ := c.a.def_ 33 (d := d33) rfl
  have F__law_mixed : L2.Fun M.K "_law_mixed" "_law_mixed" (topS 64) (ga M.K "_law_mixed") fd__law_mixed := He5.fun_of Z
  clear Z
  obtain ⟨fd__law_drum, Z⟩ := c.a.def_ 34 (d := d34) rfl
  have F__law_drum : L2.Fun M.K "_law_drum" "_law_drum" (topS 65) (ga M.K "_law_drum") fd__law_drum := He5.fun_of Z
  clear Z
  obtain ⟨fd__law_parts, Z⟩ := c.a.def_ 35 (d := d35) rfl
  have F__law_parts : L2.Fun M.K "_law_parts" "_law_parts" (topS 66) (ga M.K "_law_parts") fd__law_parts := He5.fun_of Z
  clear Z
  obtain ⟨fd__law_around, Z⟩ := c.a.def_ 36 (d := d36) rfl
  have F__law_around : L2.Fun M.K "_law_around" "_law_around" (topS 67) (ga M.K "_law_around") fd__law_around := He5.fun_of Z
  clear Z
  obtain ⟨fd__law_lines, Z⟩ := c.a.def_ 37 (d := d37) rfl
  have F__law_lines : L2.Fun M.K "_law_lines" "_law_lines" (topS 68) (ga M.K "_law_lines") fd__law_lines := He5.fun_of Z
  clear Z
  obtain ⟨fd__law_met, Z⟩ := c.a.def_ 38 (d := d38) rfl
  have F__law_met : L2.Fun M.K "_law_met" "_law_met" (topS 69) (ga M.K "_law_met") fd__law_met := He5.fun_of Z
  clear Z
  obtain ⟨fd__law_starts, Z⟩ := c.a.def_ 39 (d := d39) rfl
  have F__law_starts : L2.Fun M.K "_law_starts" "_law_starts" (topS 70) (ga M.K "_law_starts") fd__law_starts := He5.fun_of Z
  clear Z
  obtain ⟨fd__law_order, Z⟩ := c.a.def_ 40 (d := d40) rfl
  have F__law_order : L2.Fun M.K "_law_order" "_law_order" (topS 71) (ga M.K "_law_order") fd__law_order := He5.fun_of Z
  clear Z
  obtain ⟨fd__law_sides, Z⟩ := c.a.def_ 41 (d := d41) rfl
  have F__law_sides : L2.Fun M.K "_law_sides" "_law_sides" (topS 72) (ga M.K "_law_sides") fd__law_sides := He5.fun_of Z
  clear Z
  obtain ⟨fd__law_can, Z⟩ := c.a.def_ 42 (d := d42) rfl
  have F__law_can : L2.Fun M.K "_law_can" "_law_can" (topS 73) (ga M.K "_law_can") fd__law_can := He5.fun_of Z
  clear Z
  obtain ⟨fd__law_turned, Z⟩ := c.a.def_ 43 (d := d43) rfl
  have F__law_turned : L2.Fun M.K "_law_turned" "_law_turned" (topS 74) (ga M.K "_law_turned") fd__law_turned := He5.fun_of Z
  clear Z
  obtain ⟨fd__law_web, Z⟩ := c.a.def_ 44 (d := d44) rfl
  have F__law_web : L2.Fun M.K "_law_web" "_law_web" (topS 75) (ga M.K "_law_web") fd__law_web := He5.fun_of Z
  clear Z
  obtain ⟨fd__law_flips, Z⟩ := c.a.def_ 45 (d := d45) rfl
  have F__law_flips : L2.Fun M.K "_law_flips" "_law_flips" (topS 76) (ga M.K "_law_flips") fd__law_flips := He5.fun_of Z
  clear Z
  obtain ⟨fd__law_size, Z⟩ := c.a.def_ 46 (d := d46) rfl
  have F__law_size : L2.Fun M.K "_law_size" "_law_size" (topS 77) (ga M.K "_law_size") fd__law_size := He5.fun_of Z
  clear Z
  obtain ⟨fd__law_many, Z⟩ := c.a.def_ 47 (d := d47) rfl
  have F__law_many : L2.Fun M.K "_law_many" "_law_many" (topS 78) (ga M.K "_law_many") fd__law_many := He5.fun_of Z
  clear Z
  obtain ⟨fd__law_made, Z⟩ := c.a.def_ 48 (d := d48) rfl
  have F__law_made : L2.Fun M.K "_law_made" "_law_made" (topS 79) (ga M.K "_law_made") fd__law_made := He5.fun_of Z
  clear Z
  obtain ⟨fd__law_ring, Z⟩ := c.a.def_ 49 (d := d49) rfl
  have F__law_ring : L2.Fun M.K "_law_ring" "_law_ring" (topS 80) (ga M.K "_law_ring") fd__law_ring := He5.fun_of Z
  clear Z
  obtain ⟨fd__law_loop, Z⟩ := c.a.def_ 50 (d := d50) rfl
  have F__law_loop : L2.Fun M.K "_law_loop" "_law_loop" (topS 81) (ga M.K "_law_loop") fd__law_loop := He5.fun_of Z
  clear Z
  obtain ⟨fd__law_open_lines, Z⟩ := c.a.def_ 51 (d := d51) rfl
  have F__law_open_lines : L2.Fun M.K "_law_open_lines" "_law_open_lines" (topS 82) (ga M.K "_law_open_lines") fd__law_open_lines := He5.fun_of Z
  clear Z
  obtain ⟨fd__law_added, Z⟩ := c.a.def_ 52 (d := d52) rfl
  have F__law_added : L2.Fun M.K "_law_added" "_law_added" (topS 83) (ga M.K "_law_added") fd__law_added := He5.fun_of Z
  clear Z
  obtain ⟨fd__law_counts, Z⟩ := c.a.def_ 53 (d := d53) rfl
  have F__law_counts : L2.Fun M.K "_law_counts" "_law_counts" (topS 84) (ga M.K "_law_counts") fd__law_counts := He5.fun_of Z
  clear Z
  obtain ⟨fd__law_carried, Z⟩ := c.a.def_ 54 (d := d54) rfl
  have F__law_carried : L2.Fun M.K "_law_carried" "_law_carried" (topS 85) (ga M.K "_law_carried") fd__law_carried := He5.fun_of Z
  clear Z
  obtain ⟨fd__law_carried_all, Z⟩ := c.a.def_ 55 (d := d55) rfl
  have F__law_carried_all : L2.Fun M.K "_law_carried_all" "_law_carried_all" (topS 86) (ga M.K "_law_carried_all") fd__law_carried_all := He5.fun_of Z
  clear Z
  obtain ⟨fd__law_corner, Z⟩ := c.a.def_ 56 (d := d56) rfl
  have F__law_corner : L2.Fun M.K "_law_corner" "_law_corner" (topS 87) (ga M.K "_law_corner") fd__law_corner := He5.fun_of Z
  clear Z
  obtain ⟨fd__law_joins, Z⟩ := c.a.def_ 57 (d := d57) rfl
  have F__law_joins : L2.Fun M.K "_law_joins" "_law_joins" (topS 88) (ga M.K "_law_joins") fd__law_joins := He5.fun_of Z
  clear Z
  obtain ⟨fd__law_rounds, Z⟩ := c.a.def_ 58 (d := d58) rfl
  have F__law_rounds : L2.Fun M.K "_law_rounds" "_law_rounds" (topS 89) (ga M.K "_law_rounds") fd__law_rounds := He5.fun_of Z
  clear Z
  obtain ⟨fd__law_count_row, Z⟩ := c.a.def_ 59 (d := d59) rfl
  have F__law_count_row : L2.Fun M.K "_law_count_row" "_law_count_row" (topS 90) (ga M.K "_law_count_row") fd__law_count_row := He5.fun_of Z
  clear Z
  obtain ⟨fd__law_split, Z⟩ := c.a.def_ 60 (d := d60) rfl
  have F__law_split : L2.Fun M.K "_law_split" "_law_split" (topS 91) (ga M.K "_law_split") fd__law_split := He5.fun_of Z
  clear Z
  obtain ⟨fd__law_thread, Z⟩ := c.a.def_ 61 (d := d61) rfl
  have F__law_thread : L2.Fun M.K "_law_thread" "_law_thread" (topS 92) (ga M.K "_law_thread") fd__law_thread := He5.fun_of Z
  clear Z
  obtain ⟨fd__law_flipped, Z⟩ := c.a.def_ 62 (d := d62) rfl
  have F__law_flipped : L2.Fun M.K "_law_flipped" "_law_flipped" (topS 93) (ga M.K "_law_flipped") fd__law_flipped := He5.fun_of Z
  clear Z
  obtain ⟨fd_WeaveU_initU, Z⟩ := c.a.def_ 64 (d := d64) rfl
  have F_WeaveU_initU : L2.Fun M.K "__init__" "Weave.__init__" (inClass (topS 32) 0) (ma M.K (ga M.K "Weave") "__init__") fd_WeaveU_initU := He5.fun_of Z
  clear Z
  obtain ⟨fd_Weave_counts, Z⟩ := c.a.def_ 65 (d := d65) rfl
  have F_Weave_counts : L2.Fun M.K "counts" "Weave.counts" (inClass (topS 32) 4) (ma M.K (ga M.K "Weave") "counts") fd_Weave_counts := He5.fun_of Z
  clear Z
  obtain ⟨fd_Weave_crossings, Z⟩ := c.a.def_ 66 (d := d66) rfl
  have F_Weave_crossings : L2.Fun M.K "crossings" "Weave.crossings" (inClass (topS 32) 5) (ma M.K (ga M.K "Weave") "crossings") fd_Weave_crossings := He5.fun_of Z
  clear Z
  obtain ⟨fd_Weave_arcs, Z⟩ := c.a.def_ 67 (d := d67) rfl
  have F_Weave_arcs : L2.Fun M.K "arcs" "Weave.arcs" (inClass (topS 32) 6) (ma M.K (ga M.K "Weave") "arcs") fd_Weave_arcs := He5.fun_of Z
  clear Z
  obtain ⟨fd_Weave_flipped_once, Z⟩ := c.a.def_ 68 (d := d68) rfl
  have F_Weave_flipped_once : L2.Fun M.K "flipped_once" "Weave.flipped_once" (inClass (topS 32) 7) (ma M.K (ga M.K "Weave") "flipped_once") fd_Weave_flipped_once := He5.fun_of Z
  clear Z
  obtain ⟨fd_Weave_flipped, Z⟩ := c.a.def_ 69 (d := d69) rfl
  have F_Weave_flipped : L2.Fun M.K "flipped" "Weave.flipped" (inClass (topS 32) 8) (ma M.K (ga M.K "Weave") "flipped") fd_Weave_flipped := He5.fun_of Z
  clear Z
  obtain ⟨fd_WeaveU_eqU, Z⟩ := c.a.def_ 70 (d := d70) rfl
  have F_WeaveU_eqU : L2.Fun M.K "__eq__" "Weave.__eq__" (inClass (topS 32) 15) (ma M.K (ga M.K "Weave") "__eq__") fd_WeaveU_eqU := He5.fun_of Z
  clear Z
  obtain ⟨fd_WeaveU_boolU, Z⟩ := c.a.def_ 71 (d := d71) rfl
  have F_WeaveU_boolU : L2.Fun M.K "__bool__" "Weave.__bool__" (inClass (topS 32) 16) (ma M.K (ga M.K "Weave") "__bool__") fd_WeaveU_boolU := He5.fun_of Z
  clear Z
  obtain ⟨fd_Weave_sheet, Z⟩ := c.a.def_ 72 (d := d72) rfl
  have F_Weave_sheet : L2.Fun M.K "sheet" "Weave.sheet" (inClass (topS 32) 2) (He5.wf M.K (ga M.K "Weave") "property" "sheet") fd_Weave_sheet := He5.fun_of Z
  clear Z
  obtain ⟨fd_Weave_total, Z⟩ := c.a.def_ 73 (d := d73) rfl
  have F_Weave_total : L2.Fun M.K "total" "Weave.total" (inClass (topS 32) 3) (He5.wf M.K (ga M.K "Weave") "property" "total") fd_Weave_total := He5.fun_of Z
  clear Z
  obtain ⟨fd_SheetU_initU, Z⟩ := c.a.def_ 74 (d := d74) rfl
  have F_SheetU_initU : L2.Fun M.K "__init__" "Sheet.__init__" (inClass (topS 58) 1) (ma M.K (ga M.K "Sheet") "__init__") fd_SheetU_initU := He5.fun_of Z
  clear Z
  obtain ⟨fd_Sheet_triangles, Z⟩ := c.a.def_ 75 (d := d75) rfl
  have F_Sheet_triangles : L2.Fun M.K "triangles" "Sheet.triangles" (inClass (topS 58) 6) (ma M.K (ga M.K "Sheet") "triangles") fd_Sheet_triangles := He5.fun_of Z
  clear Z
  obtain ⟨fd_Sheet_check_line, Z⟩ := c.a.def_ 76 (d := d76) rfl
  have F_Sheet_check_line : L2.Fun M.K "check_line" "Sheet.check_line" (inClass (topS 58) 8) (ma M.K (ga M.K "Sheet") "check_line") fd_Sheet_check_line := He5.fun_of Z
  clear Z
  obtain ⟨fd_Sheet_triangle, Z⟩ := c.a.def_ 77 (d := d77) rfl
  have F_Sheet_triangle : L2.Fun M.K "triangle" "Sheet.triangle" (inClass (topS 58) 9) (ma M.K (ga M.K "Sheet") "triangle") fd_Sheet_triangle := He5.fun_of Z
  clear Z
  obtain ⟨fd_Sheet_sides, Z⟩ := c.a.def_ 78 (d := d78) rfl
  have F_Sheet_sides : L2.Fun M.K "sides" "Sheet.sides" (inClass (topS 58) 12) (ma M.K (ga M.K "Sheet") "sides") fd_Sheet_sides := He5.fun_of Z
  clear Z
  obtain ⟨fd_Sheet_can_flip, Z⟩ := c.a.def_ 79 (d := d79) rfl
  have F_Sheet_can_flip : L2.Fun M.K "can_flip" "Sheet.can_flip" (inClass (topS 58) 13) (ma M.K (ga M.K "Sheet") "can_flip") fd_Sheet_can_flip := He5.fun_of Z
  clear Z
  obtain ⟨fd_Sheet_flipped_once, Z⟩ := c.a.def_ 80 (d := d80) rfl
  have F_Sheet_flipped_once : L2.Fun M.K "flipped_once" "Sheet.flipped_once" (inClass (topS 58) 14) (ma M.K (ga M.K "Sheet") "flipped_once") fd_Sheet_flipped_once := He5.fun_of Z
  clear Z
  obtain ⟨fd_SheetU_eqU, Z⟩ := c.a.def_ 81 (d := d81) rfl
  have F_SheetU_eqU : L2.Fun M.K "__eq__" "Sheet.__eq__" (inClass (topS 58) 17) (ma M.K (ga M.K "Sheet") "__eq__") fd_SheetU_eqU := He5.fun_of Z
  clear Z
  obtain ⟨fd_Sheet_lines, Z⟩ := c.a.def_ 82 (d := d82) rfl
  have F_Sheet_lines : L2.Fun M.K "lines" "Sheet.lines" (inClass (topS 58) 4) (He5.wf M.K (ga M.K "Sheet") "property" "lines") fd_Sheet_lines := He5.fun_of Z
  clear Z
  obtain ⟨fd_LayingU_initU, Z⟩ := c.a.def_ 83 (d := d83) rfl
  have F_LayingU_initU : L2.Fun M.K "__init__" "Laying.__init__" (inClass (topS 40) 0) (ma M.K (ga M.K "Laying") "__init__") fd_LayingU_initU := He5.fun_of Z
  clear Z
  obtain ⟨fd_Laid_thread, Z⟩ := c.a.def_ 84 (d := d84) rfl
  have F_Laid_thread : L2.Fun M.K "thread" "Laid.thread" (inClass (topS 41) 1) (He5.wf M.K (ga M.K "Laid") "property" "thread") fd_Laid_thread := He5.fun_of Z
  clear Z
  clear hb
  have M_Weave_counts := meth_ok (c.a.fact 104 (f := .meth "Weave" "counts") rfl)
  have M_Weave_crossings := meth_ok (c.a.fact 105 (f := .meth "Weave" "crossings") rfl)
  have M_Weave_arcs := meth_ok (c.a.fact 106 (f := .meth "Weave" "arcs") rfl)
  have M_Weave_flipped_once := meth_ok (c.a.fact 107 (f := .meth "Weave" "flipped_once") rfl)
  have M_Weave_flipped := meth_ok (c.a.fact 108 (f := .meth "Weave" "flipped") rfl)
  have M_Weave___eq__ := meth_ok (c.a.fact 109 (f := .meth "Weave" "__eq__") rfl)
  have M_Weave___bool__ := meth_ok (c.a.fact 110 (f := .meth "Weave" "__bool__") rfl)
  have M_Sheet_triangles := meth_ok (c.a.fact 111 (f := .meth "Sheet" "triangles") rfl)
  have M_Sheet_check_line := meth_ok (c.a.fact 112 (f := .meth "Sheet" "check_line") rfl)
  have M_Sheet_triangle := meth_ok (c.a.fact 113 (f := .meth "Sheet" "triangle") rfl)
  have M_Sheet_sides := meth_ok (c.a.fact 114 (f := .meth "Sheet" "sides") rfl)
  have M_Sheet_can_flip := meth_ok (c.a.fact 115 (f := .meth "Sheet" "can_flip") rfl)
  have M_Sheet_flipped_once := meth_ok (c.a.fact 116 (f := .meth "Sheet" "flipped_once") rfl)
  have M_Sheet___eq__ := meth_ok (c.a.fact 117 (f := .meth "Sheet" "__eq__") rfl)
  have Q_Weave_sheet := prop_of p_Weave_sheet
  have Q_Weave_total := prop_of p_Weave_total
  have Q_Sheet_lines := prop_of p_Sheet_lines
  have Q_Laid_thread := prop_of p_Laid_thread
  generalize ga M.K "Sheet" = AS at *
  generalize ga M.K "Weave" = AW at *
  generalize ga M.K "Laid" = AL at *
  have G__law_pick : Glob M "_law_pick" 1 ["_law_deal_here", "_law_many_here"] (spM M.w PPick) := ⟨_, hg _ (c.a.fact 31 (f := .glo "_law_pick") rfl), ⟨⟨_, ok_pick (M := M) F__law_pick B, F__law_pick.binds fun _ _ _ _ _ _ us hl => match us, hl with | [_, _], _ => rfl⟩, F__law_pick.kp⟩⟩
  have G__law_of : Glob M "_law_of" 2 ["_law_deal_here", "_law_items"] (spM M.w POf) := ⟨_, hg _ (c.a.fact 32 (f := .glo "_law_of") rfl), ⟨⟨_, ok_of (M := M) F__law_of B G__law_pick, F__law_of.binds fun _ _ _ _ _ _ us hl => match us, hl with | [_, _], _ => rfl⟩, F__law_of.kp⟩⟩
  have G__law_mixed : Glob M "_law_mixed" 2 ["_law_deal_here", "_law_items"] (spM M.w PMixed) := ⟨_, hg _ (c.a.fact 33 (f := .glo "_law_mixed") rfl), ⟨⟨_, ok_mixed (M := M) F__law_mixed B G__law_pick, F__law_mixed.binds fun _ _ _ _ _ _ us hl => match us, hl with | [_, _], _ => rfl⟩, F__law_mixed.kp⟩⟩
  have G__law_drum : Glob M "_law_drum" 1 ["_law_many_here"] (spP PDrum) := ⟨_, hg _ (c.a.fact 34 (f := .glo "_law_drum") rfl), ⟨⟨_, ok_drum (M := M) F__law_drum B, F__law_drum.binds fun _ _ _ _ _ _ us hl => match us, hl with | [_], _ => rfl⟩, F__law_drum.kp⟩⟩
  have G__law_parts : Glob M "_law_parts" 1 ["_law_tris"] (spP PParts) := ⟨_, hg _ (c.a.fact 35 (f := .glo "_law_parts") rfl), ⟨⟨_, ok_parts (M := M) F__law_parts, F__law_parts.binds fun _ _ _ _ _ _ us hl => match us, hl with | [_], _ => rfl⟩, F__law_parts.kp⟩⟩
  have G__law_around : Glob M "_law_around" 1 ["_law_parts_here", "_law_line"] (spP PAround) := ⟨_, hg _ (c.a.fact 36 (f := .glo "_law_around") rfl), ⟨⟨_, ok_law_around (M := M) F__law_around, F__law_around.binds fun _ _ _ _ _ _ us hl => match us, hl with | [_, _], _ => rfl⟩, F__law_around.kp⟩⟩
  have G__law_lines : Glob M "_law_lines" 1 ["_law_tris"] (spP PLines) := ⟨_, hg _ (c.a.fact 37 (f := .glo "_law_lines") rfl), ⟨⟨_, ok_lines (M := M) F__law_lines B, F__law_lines.binds fun _ _ _ _ _ _ us hl => match us, hl with | [_], _ => rfl⟩, F__law_lines.kp⟩⟩
  have G__law_met : Glob M "_law_met" 2 ["_law_tris"] (spP PMet) := ⟨_, hg _ (c.a.fact 38 (f := .glo "_law_met") rfl), ⟨⟨_, ok_met (M := M) F__law_met B G__law_parts G__law_around G__law_lines, F__law_met.binds fun _ _ _ _ _ _ us hl => match us, hl with | [_], _ => rfl⟩, F__law_met.kp⟩⟩
  have G__law_starts : Glob M "_law_starts" 3 ["_law_tris", "_law_order_z"] (spP PStarts) := ⟨_, hg _ (c.a.fact 39 (f := .glo "_law_starts") rfl), ⟨⟨_, ok_starts (M := M) F__law_starts B G__law_met, F__law_starts.binds fun _ _ _ _ _ _ us hl => match us, hl with | [_, _], _ => rfl⟩, F__law_starts.kp⟩⟩
  have G__law_order : Glob M "_law_order" 3 ["_law_web_here"] (spP POrder) := ⟨_, hg _ (c.a.fact 40 (f := .glo "_law_order") rfl), ⟨⟨_, ok_order (M := M) F__law_order G__law_met, F__law_order.binds fun _ _ _ _ _ _ us hl => match us, hl with | [_], _ => rfl⟩, F__law_order.kp⟩⟩
  have G__law_sides : Glob M "_law_sides" 2 ["_law_web_here", "_law_line"] (spP PSides) := ⟨_, hg _ (c.a.fact 41 (f := .glo "_law_sides") rfl), ⟨⟨_, ok_sides (M := M) F__law_sides B G__law_parts, F__law_sides.binds fun _ _ _ _ _ _ us hl => match us, hl with | [_, _], _ => rfl⟩, F__law_sides.kp⟩⟩
  have G__law_can : Glob M "_law_can" 3 ["_law_web_here", "_law_flip"] (spP PCan) := ⟨_, hg _ (c.a.fact 42 (f := .glo "_law_can") rfl), ⟨⟨_, ok_can (M := M) F__law_can B G__law_sides, F__law_can.binds fun _ _ _ _ _ _ us hl => match us, hl with | [_, _], _ => rfl⟩, F__law_can.kp⟩⟩
  have G__law_turned : Glob M "_law_turned" 3 ["_law_web_here", "_law_flip"] (spP PTurned) := ⟨_, hg _ (c.a.fact 43 (f := .glo "_law_turned") rfl), ⟨⟨_, ok_turned (M := M) F__law_turned B G__law_sides, F__law_turned.binds fun _ _ _ _ _ _ us hl => match us, hl with | [_, _], _ => rfl⟩, F__law_turned.kp⟩⟩
  have G__law_size : Glob M "_law_size" 1 ["_law_web_here"] (spP PSize) := ⟨_, hg _ (c.a.fact 46 (f := .glo "_law_size") rfl), ⟨⟨_, ok_size (M := M) F__law_size B, F__law_size.binds fun _ _ _ _ _ _ us hl => match us, hl with | [_], _ => rfl⟩, F__law_size.kp⟩⟩
  have G__law_many : Glob M "_law_many" 1 ["_law_web_here"] (spP PMany) := ⟨_, hg _ (c.a.fact 47 (f := .glo "_law_many") rfl), ⟨⟨_, ok_many (M := M) F__law_many B, F__law_many.binds fun _ _ _ _ _ _ us hl => match us, hl with | [_], _ => rfl⟩, F__law_many.kp⟩⟩
  have G__law_flips : Glob M "_law_flips" 4 ["_law_deal_here", "_law_web_here", "_law_many_here"] (spM M.w PFlips) := ⟨_, hg _ (c.a.fact 45 (f := .glo "_law_flips") rfl), ⟨⟨_, ok_flips (M := M) F__law_flips B G__law_pick G__law_can G__law_turned, F__law_flips.binds fun _ _ _ _ _ _ us hl => match us, hl with | [_, _, _], _ => rfl⟩, F__law_flips.kp⟩⟩
  have G__law_web : Glob M "_law_web" 5 ["_law_deal_here", "_law_most", "_law_many_here"] (spM M.w PWeb) := ⟨_, hg _ (c.a.fact 44 (f := .glo "_law_web") rfl), ⟨⟨_, ok_web (M := M) F__law_web B G__law_pick G__law_mixed G__law_drum G__law_starts G__law_flips G__law_turned, F__law_web.binds fun _ _ _ _ _ _ us hl => match us, hl with | [_, _, _], _ => rfl⟩, F__law_web.kp⟩⟩
  have G__law_ring : Glob M "_law_ring" 2 ["_law_web_here", "_law_nail"] (spP PRing) := ⟨_, hg _ (c.a.fact 49 (f := .glo "_law_ring") rfl), ⟨⟨_, ok_ring (M := M) F__law_ring B G__law_size, F__law_ring.binds fun _ _ _ _ _ _ us hl => match us, hl with | [_, _], _ => rfl⟩, F__law_ring.kp⟩⟩
  have G__law_loop : Glob M "_law_loop" 2 ["_law_web_here", "_law_line"] (spP PLoop) := ⟨_, hg _ (c.a.fact 50 (f := .glo "_law_loop") rfl), ⟨⟨_, ok_loop (M := M) F__law_loop B G__law_size, F__law_loop.binds fun _ _ _ _ _ _ us hl => match us, hl with | [_, _], _ => rfl⟩, F__law_loop.kp⟩⟩
  have G__law_open_lines : Glob M "_law_open_lines" 2 ["_law_web_here"] (spP POpen) := ⟨_, hg _ (c.a.fact 51 (f := .glo "_law_open_lines") rfl), ⟨⟨_, ok_open (M := M) F__law_open_lines B G__law_size, F__law_open_lines.binds fun _ _ _ _ _ _ us hl => match us, hl with | [_], _ => rfl⟩, F__law_open_lines.kp⟩⟩
  have G__law_added : Glob M "_law_added" 1 ["_law_one", "_law_two"] (spP PAdded) := ⟨_, hg _ (c.a.fact 52 (f := .glo "_law_added") rfl), ⟨⟨_, ok_added (M := M) F__law_added B, F__law_added.binds fun _ _ _ _ _ _ us hl => match us, hl with | [_, _], _ => rfl⟩, F__law_added.kp⟩⟩
  have G__law_counts : Glob M "_law_counts" 3 ["_law_deal_here", "_law_web_here", "_law_most"] (spM M.w PCounts) := ⟨_, hg _ (c.a.fact 53 (f := .glo "_law_counts") rfl), ⟨⟨_, ok_counts (M := M) F__law_counts B G__law_pick G__law_of G__law_size G__law_many G__law_ring G__law_loop G__law_open_lines G__law_added, F__law_counts.binds fun _ _ _ _ _ _ us hl => match us, hl with | [_, _, _], _ => rfl⟩, F__law_counts.kp⟩⟩
  have G__law_carried : Glob M "_law_carried" 3 ["_law_web_here", "_law_counts_here", "_law_flip"] (spP PCarried) := ⟨_, hg _ (c.a.fact 54 (f := .glo "_law_carried") rfl), ⟨⟨_, ok_carried (M := M) F__law_carried B G__law_sides, F__law_carried.binds fun _ _ _ _ _ _ us hl => match us, hl with | [_, _, _], _ => rfl⟩, F__law_carried.kp⟩⟩
  have G__law_carried_all : Glob M "_law_carried_all" 4 ["_law_web_here", "_law_counts_here", "_law_flips_here"] (spP PCarAll) := ⟨_, hg _ (c.a.fact 55 (f := .glo "_law_carried_all") rfl), ⟨⟨_, ok_carAll (M := M) F__law_carried_all B G__law_carried G__law_turned, F__law_carried_all.binds fun _ _ _ _ _ _ us hl => match us, hl with | [_, _, _], _ => rfl⟩, F__law_carried_all.kp⟩⟩
  have G__law_corner : Glob M "_law_corner" 1 ["_law_counts_here", "_law_row"] (spP PCorner) := ⟨_, hg _ (c.a.fact 56 (f := .glo "_law_corner") rfl), ⟨⟨_, ok_corner (M := M) F__law_corner B, F__law_corner.binds fun _ _ _ _ _ _ us hl => match us, hl with | [_, _], _ => rfl⟩, F__law_corner.kp⟩⟩
  have G__law_count_row : Glob M "_law_count_row" 2 ["_law_web_here", "_law_lines_here"] (spP PCntRow) := ⟨_, hg _ (c.a.fact 59 (f := .glo "_law_count_row") rfl), ⟨⟨_, ok_cntRow (M := M) F__law_count_row B G__law_size, F__law_count_row.binds fun _ _ _ _ _ _ us hl => match us, hl with | [_, _], _ => rfl⟩, F__law_count_row.kp⟩⟩
  have G__law_joins : Glob M "_law_joins" 2 ["_law_web_here", "_law_counts_here"] (spP PJoins) := ⟨_, hg _ (c.a.fact 57 (f := .glo "_law_joins") rfl), ⟨⟨_, ok_joins (M := M) F__law_joins B G__law_corner, F__law_joins.binds fun _ _ _ _ _ _ us hl => match us, hl with | [_, _], _ => rfl⟩, F__law_joins.kp⟩⟩
  have G__law_rounds : Glob M "_law_rounds" 3 ["_law_web_here", "_law_counts_here"] (spP PRounds) := ⟨_, hg _ (c.a.fact 58 (f := .glo "_law_rounds") rfl), ⟨⟨_, ok_rounds (M := M) F__law_rounds B G__law_joins G__law_size, F__law_rounds.binds fun _ _ _ _ _ _ us hl => match us, hl with | [_, _], _ => rfl⟩, F__law_rounds.kp⟩⟩
  have G__law_split : Glob M "_law_split" 4 ["_law_web_here", "_law_counts_here"] (spP PSplit) := ⟨_, hg _ (c.a.fact 60 (f := .glo "_law_split") rfl), ⟨⟨_, ok_split (M := M) F__law_split B G__law_rounds G__law_count_row, F__law_split.binds fun _ _ _ _ _ _ us hl => match us, hl with | [_, _], _ => rfl⟩, F__law_split.kp⟩⟩
  have G__law_thread : Glob M "_law_thread" 5 ["_law_deal_here", "_law_web_here", "_law_most"] (spM M.w PThread) := ⟨_, hg _ (c.a.fact 61 (f := .glo "_law_thread") rfl), ⟨⟨_, ok_thread (M := M) F__law_thread B G__law_pick G__law_of G__law_many G__law_ring G__law_split G__law_counts, F__law_thread.binds fun _ _ _ _ _ _ us hl => match us, hl with | [_, _, _], _ => rfl⟩, F__law_thread.kp⟩⟩
  have G_is_number : Glob M "is_number" 1 ["value"] (spP PIsNum) := ⟨_, hg _ (c.a.fact 0 (f := .glo "is_number") rfl), ⟨⟨_, ok_isNum (M := M) F_is_number B, F_is_number.binds fun _ _ _ _ _ _ us hl => match us, hl with | [_], _ => rfl⟩, F_is_number.kp⟩⟩
  have G_is_within : Glob M "is_within" 2 ["value", "low", "high"] (spP PWithin) := ⟨_, hg _ (c.a.fact 1 (f := .glo "is_within") rfl), ⟨⟨_, ok_within (M := M) F_is_within G_is_number, F_is_within.binds fun _ _ _ _ _ _ us hl => match us, hl with | [_, _, _], _ => rfl⟩, F_is_within.kp⟩⟩
  have G_is_list : Glob M "is_list" 1 ["value"] (spP PIsList) := ⟨_, hg _ (c.a.fact 2 (f := .glo "is_list") rfl), ⟨⟨_, ok_isList (M := M) F_is_list B, F_is_list.binds fun _ _ _ _ _ _ us hl => match us, hl with | [_], _ => rfl⟩, F_is_list.kp⟩⟩
  have G_is_line : Glob M "is_line" 3 ["value", "most"] (spP PIsLine) := ⟨_, hg _ (c.a.fact 3 (f := .glo "is_line") rfl), ⟨⟨_, ok_isLine (M := M) F_is_line G_is_within, F_is_line.binds fun _ _ _ _ _ _ us hl => match us, hl with | [_, _], _ => rfl⟩, F_is_line.kp⟩⟩
  have G_backwards : Glob M "backwards" 1 ["items"] (spP PBkw) := ⟨_, hg _ (c.a.fact 5 (f := .glo "backwards") rfl), ⟨⟨_, ok_bkw (M := M) F_backwards B, F_backwards.binds fun _ _ _ _ _ _ us hl => match us, hl with | [_], _ => rfl⟩, F_backwards.kp⟩⟩
  have G_least_turn : Glob M "least_turn" 1 ["items"] (spP PLeast) := ⟨_, hg _ (c.a.fact 4 (f := .glo "least_turn") rfl), ⟨⟨_, ok_least (M := M) F_least_turn B, F_least_turn.binds fun _ _ _ _ _ _ us hl => match us, hl with | [_], _ => rfl⟩, F_least_turn.kp⟩⟩
  have G_same_round : Glob M "same_round" 2 ["one", "other"] (spP PSame) := ⟨_, hg _ (c.a.fact 6 (f := .glo "same_round") rfl), ⟨⟨_, ok_same (M := M) F_same_round G_least_turn G_backwards, F_same_round.binds fun _ _ _ _ _ _ us hl => match us, hl with | [_, _], _ => rfl⟩, F_same_round.kp⟩⟩
  have G_do_fit : Glob M "do_fit" 1 ["one", "two", "three"] (spP PFits) := ⟨_, hg _ (c.a.fact 12 (f := .glo "do_fit") rfl), ⟨⟨_, ok_fits (M := M) F_do_fit B, F_do_fit.binds fun _ _ _ _ _ _ us hl => match us, hl with | [_, _, _], _ => rfl⟩, F_do_fit.kp⟩⟩
  have G_begun_at : Glob M "begun_at" 1 ["triangle", "at"] (spP PBegun) := ⟨_, hg _ (c.a.fact 20 (f := .glo "begun_at") rfl), ⟨⟨_, ok_begun (M := M) F_begun_at, F_begun_at.binds fun _ _ _ _ _ _ us hl => match us, hl with | [_, _], _ => rfl⟩, F_begun_at.kp⟩⟩
  have G_in_order : Glob M "in_order" 2 ["triangles"] (spP PInOrd) := ⟨_, hg _ (c.a.fact 21 (f := .glo "in_order") rfl), ⟨⟨_, ok_inOrd (M := M) F_in_order B G_begun_at, F_in_order.binds fun _ _ _ _ _ _ us hl => match us, hl with | [_], _ => rfl⟩, F_in_order.kp⟩⟩
  have G_parts_of : Glob M "parts_of" 2 ["triangles"] (spP PPartsOf) := ⟨_, hg _ (c.a.fact 22 (f := .glo "parts_of") rfl), ⟨⟨_, ok_partsOf (M := M) F_parts_of B G_begun_at, F_parts_of.binds fun _ _ _ _ _ _ us hl => match us, hl with | [_], _ => rfl⟩, F_parts_of.kp⟩⟩
  have G_around : Glob M "around" 1 ["parts", "line"] (spP PAround) := ⟨_, hg _ (c.a.fact 23 (f := .glo "around") rfl), ⟨⟨_, ok_around2 (M := M) F_around, F_around.binds fun _ _ _ _ _ _ us hl => match us, hl with | [_, _], _ => rfl⟩, F_around.kp⟩⟩
  have G_triangles_behind : Glob M "triangles_behind" 1 ["parts", "flip"] (spP PBehind) := ⟨_, hg _ (c.a.fact 28 (f := .glo "triangles_behind") rfl), ⟨⟨_, ok_behind (M := M) F_triangles_behind B, F_triangles_behind.binds fun _ _ _ _ _ _ us hl => match us, hl with | [_, _], _ => rfl⟩, F_triangles_behind.kp⟩⟩
  have G_nails_met : Glob M "nails_met" 2 ["parts"] (spP PNails) := ⟨_, hg _ (c.a.fact 24 (f := .glo "nails_met") rfl), ⟨⟨_, ok_nails (M := M) F_nails_met B G_around, F_nails_met.binds fun _ _ _ _ _ _ us hl => match us, hl with | [_], _ => rfl⟩, F_nails_met.kp⟩⟩
  have G_is_triangle : Glob M "is_triangle" 4 ["value", "most"] (spP PIsTri) := ⟨_, hg _ (c.a.fact 25 (f := .glo "is_triangle") rfl), ⟨⟨_, ok_isTri (M := M) F_is_triangle B G_is_line, F_is_triangle.binds fun _ _ _ _ _ _ us hl => match us, hl with | [_, _], _ => rfl⟩, F_is_triangle.kp⟩⟩
  have G_check_triangles : Glob M "check_triangles" 5 ["triangles"] (spP PChk) := ⟨_, hg _ (c.a.fact 26 (f := .glo "check_triangles") rfl), ⟨⟨_, ok_chk (M := M) F_check_triangles B i_FEWEST_TRIANGLES i_MOST_TRIANGLES G_is_list G_is_triangle, F_check_triangles.binds fun _ _ _ _ _ _ us hl => match us, hl with | [_], _ => rfl⟩, F_check_triangles.kp⟩⟩
  have G_hang_together : Glob M "hang_together" 1 ["parts"] (spP PHang) := ⟨_, hg _ (c.a.fact 27 (f := .glo "hang_together") rfl), ⟨⟨_, ok_hang (M := M) F_hang_together B, F_hang_together.binds fun _ _ _ _ _ _ us hl => match us, hl with | [_], _ => rfl⟩, F_hang_together.kp⟩⟩
  have MkK_Sheet : MkK M "Sheet" AS 6 ["self", "triangles", "order"] 1 ["order"] (spI M.w AS PShI) := ⟨_, _, _, m_Sheet, K_Sheet, ok_shI (M := M) F_SheetU_initU B T_Sheet G_check_triangles G_in_order G_parts_of G_nails_met G_hang_together G_is_list G_is_within, kbn_of F_SheetU_initU⟩
  have Pr_Sheet_lines : Pr M AS "lines" 1 (PShLines AS) := ⟨_, _, Q_Sheet_lines, ⟨⟨_, ok_shLines (M := M) F_Sheet_lines B T_Sheet, F_Sheet_lines.binds fun _ _ _ _ _ _ us hl => match us, hl with | [_], _ => rfl⟩, F_Sheet_lines.kp⟩⟩
  have Me_Sheet_triangles : Me M AS "triangles" 1 ["self"] (spP (PShTris AS)) := ⟨_, M_Sheet_triangles, ⟨⟨_, ok_shTris (M := M) F_Sheet_triangles B T_Sheet, F_Sheet_triangles.binds fun _ _ _ _ _ _ us hl => match us, hl with | [_], _ => rfl⟩, F_Sheet_triangles.kp⟩⟩
  have Me_Sheet_check_line : Me M AS "check_line" 4 ["self", "line"] (spP (PShChk AS)) := ⟨_, M_Sheet_check_line, ⟨⟨_, ok_shChk (M := M) F_Sheet_check_line B T_Sheet G_is_line, F_Sheet_check_line.binds fun _ _ _ _ _ _ us hl => match us, hl with | [_, _], _ => rfl⟩, F_Sheet_check_line.kp⟩⟩
  have Me_Sheet_triangle : Me M AS "triangle" 5 ["self", "line"] (spP (PShTri AS)) := ⟨_, M_Sheet_triangle, ⟨⟨_, ok_shTri (M := M) F_Sheet_triangle T_Sheet Me_Sheet_check_line, F_Sheet_triangle.binds fun _ _ _ _ _ _ us hl => match us, hl with | [_, _], _ => rfl⟩, F_Sheet_triangle.kp⟩⟩
  have Me_Sheet_sides : Me M AS "sides" 5 ["self", "line"] (spP (PShSides AS)) := ⟨_, M_Sheet_sides, ⟨⟨_, ok_shSides (M := M) F_Sheet_sides B T_Sheet Me_Sheet_check_line, F_Sheet_sides.binds fun _ _ _ _ _ _ us hl => match us, hl with | [_, _], _ => rfl⟩, F_Sheet_sides.kp⟩⟩
  have Me_Sheet_can_flip : Me M AS "can_flip" 5 ["self", "line"] (spP (PShCan AS)) := ⟨_, M_Sheet_can_flip, ⟨⟨_, ok_shCan (M := M) F_Sheet_can_flip T_Sheet Me_Sheet_check_line G_triangles_behind, F_Sheet_can_flip.binds fun _ _ _ _ _ _ us hl => match us, hl with | [_, _], _ => rfl⟩, F_Sheet_can_flip.kp⟩⟩
  have EqO_Sheet : EqO M AS 1 (PShEq AS) := ⟨_, _, (eqN_of M_Sheet___eq__ ne_Sheet ob_Sheet).1, (eqN_of M_Sheet___eq__ ne_Sheet ob_Sheet).2, ok_shEq (M := M) F_SheetU_eqU B T_Sheet O_Sheet m_Sheet, F_SheetU_eqU.binds fun _ _ _ _ _ _ us hl => match us, hl with | [_, _], _ => rfl⟩
  have G_sheet_with : Glob M "sheet_with" 8 ["triangles", "starts"] (spP (PShW AS)) := ⟨_, hg _ (c.a.fact 29 (f := .glo "sheet_with") rfl), ⟨⟨_, ok_shW (M := M) F_sheet_with G_parts_of G_nails_met MkK_Sheet, F_sheet_with.binds fun _ _ _ _ _ _ us hl => match us, hl with | [_, _], _ => rfl⟩, F_sheet_with.kp⟩⟩
  have Me_Sheet_flipped_once : Me M AS "flipped_once" 9 ["self", "flip", "at"] (spP (PShF1 AS)) := ⟨_, M_Sheet_flipped_once, ⟨⟨_, ok_shF1 (M := M) F_Sheet_flipped_once B T_Sheet Me_Sheet_can_flip G_triangles_behind G_sheet_with, F_Sheet_flipped_once.binds fun _ _ _ _ _ _ us hl => match us, hl with | [_, _, _], _ => rfl⟩, F_Sheet_flipped_once.kp⟩⟩
  have Mk1_Weave : Mk1 M "Weave" AW 3 ["self", "sheet", "counts"] (spI M.w AW (PWvI AS)) := ⟨_, _, m_Weave, K_Weave, ok_wvI (M := M) F_WeaveU_initU B T_Weave T_Sheet G_is_list G_is_number G_do_fit Pr_Sheet_lines Me_Sheet_triangles, F_WeaveU_initU.binds fun _ _ _ _ _ _ us hl => match us, hl with | [_, _, _], _ => rfl⟩
  have Pr_Weave_sheet : Pr M AW "sheet" 1 (PWvSheet AS AW) := ⟨_, _, Q_Weave_sheet, ⟨⟨_, ok_wvSheet (M := M) F_Weave_sheet T_Weave, F_Weave_sheet.binds fun _ _ _ _ _ _ us hl => match us, hl with | [_], _ => rfl⟩, F_Weave_sheet.kp⟩⟩
  have Pr_Weave_total : Pr M AW "total" 1 (PWvTot AS AW) := ⟨_, _, Q_Weave_total, ⟨⟨_, ok_wvTot (M := M) F_Weave_total B T_Weave, F_Weave_total.binds fun _ _ _ _ _ _ us hl => match us, hl with | [_], _ => rfl⟩, F_Weave_total.kp⟩⟩
  have Me_Weave_counts : Me M AW "counts" 1 ["self"] (spP (PWvCnt AS AW)) := ⟨_, M_Weave_counts, ⟨⟨_, ok_wvCnt (M := M) F_Weave_counts B T_Weave, F_Weave_counts.binds fun _ _ _ _ _ _ us hl => match us, hl with | [_], _ => rfl⟩, F_Weave_counts.kp⟩⟩
  have Me_Weave_crossings : Me M AW "crossings" 5 ["self", "line"] (spP (PWvCro AS AW)) := ⟨_, M_Weave_crossings, ⟨⟨_, ok_wvCro (M := M) F_Weave_crossings B T_Weave T_Sheet Me_Sheet_check_line, F_Weave_crossings.binds fun _ _ _ _ _ _ us hl => match us, hl with | [_, _], _ => rfl⟩, F_Weave_crossings.kp⟩⟩
  have Me_Weave_arcs : Me M AW "arcs" 6 ["self", "line"] (spP (PWvArc AS AW)) := ⟨_, M_Weave_arcs, ⟨⟨_, ok_wvArc (M := M) F_Weave_arcs B T_Weave T_Sheet Me_Sheet_triangle, F_Weave_arcs.binds fun _ _ _ _ _ _ us hl => match us, hl with | [_, _], _ => rfl⟩, F_Weave_arcs.kp⟩⟩
  have EqO_Weave : EqO M AW 3 (PWvEq AS AW) := ⟨_, _, (eqN_of M_Weave___eq__ ne_Weave ob_Weave).1, (eqN_of M_Weave___eq__ ne_Weave ob_Weave).2, ok_wvEq (M := M) F_WeaveU_eqU B T_Weave O_Weave m_Weave EqO_Sheet Pr_Weave_sheet Me_Weave_counts, F_WeaveU_eqU.binds fun _ _ _ _ _ _ us hl => match us, hl with | [_, _], _ => rfl⟩
  have TrO_Weave : TrO M AW 1 (PWvBool AS AW) := ⟨_, _, ⟨M_Weave___bool__.at_, M_Weave___bool__.fn⟩, ok_wvBool (M := M) F_WeaveU_boolU B T_Weave, F_WeaveU_boolU.binds fun _ _ _ _ _ _ us hl => match us, hl with | [_], _ => rfl⟩
  have Me_Weave_flipped_once : Me M AW "flipped_once" 10 ["self", "flip", "at"] (spP (PWvF1 AS AW)) := ⟨_, M_Weave_flipped_once, ⟨⟨_, ok_wvF1 (M := M) F_Weave_flipped_once B T_Weave T_Sheet Me_Sheet_flipped_once Me_Sheet_sides Mk1_Weave, F_Weave_flipped_once.binds fun _ _ _ _ _ _ us hl => match us, hl with | [_, _, _], _ => rfl⟩, F_Weave_flipped_once.kp⟩⟩
  have MeR_Weave_flipped : MeR M AW "flipped" 11 (spP (PWvFl AS AW)) := ⟨_, M_Weave_flipped, ok_wvFl (M := M) F_Weave_flipped B T_Weave Me_Weave_flipped_once⟩
  have G_check_total : Glob M "check_total" 3 ["weave"] (spP (PChkT AS AW)) := ⟨_, hg _ (c.a.fact 7 (f := .glo "check_total") rfl), ⟨⟨_, ok_chkT (M := M) F_check_total T_Weave i_MOST_CROSSINGS Pr_Weave_total, F_check_total.binds fun _ _ _ _ _ _ us hl => match us, hl with | [_], _ => rfl⟩, F_check_total.kp⟩⟩
  have G_step_from : Glob M "step_from" 7 ["weave", "line", "at"] (spP (PStep AS AW)) := ⟨_, hg _ (c.a.fact 8 (f := .glo "step_from") rfl), ⟨⟨_, ok_step (M := M) F_step_from T_Weave T_Sheet Pr_Weave_sheet Me_Sheet_triangle Me_Weave_arcs Me_Weave_crossings, F_step_from.binds fun _ _ _ _ _ _ us hl => match us, hl with | [_, _, _], _ => rfl⟩, F_step_from.kp⟩⟩
  have G_steps_of : Glob M "steps_of" 8 ["weave", "line", "at"] (spP (PSteps AS AW)) := ⟨_, hg _ (c.a.fact 9 (f := .glo "steps_of") rfl), ⟨⟨_, ok_steps (M := M) F_steps_of G_step_from, F_steps_of.binds fun _ _ _ _ _ _ us hl => match us, hl with | [_, _, _], _ => rfl⟩, F_steps_of.kp⟩⟩
  have G_first_round : Glob M "first_round" 9 ["weave"] (spP (PFirst AS AW)) := ⟨_, hg _ (c.a.fact 10 (f := .glo "first_round") rfl), ⟨⟨_, ok_first (M := M) F_first_round B T_Weave T_Sheet Pr_Weave_sheet Pr_Sheet_lines Me_Weave_crossings G_steps_of, F_first_round.binds fun _ _ _ _ _ _ us hl => match us, hl with | [_], _ => rfl⟩, F_first_round.kp⟩⟩
  have G_word : Glob M "word" 10 ["thread"] (spP (PWord AS AW)) := ⟨_, hg _ (c.a.fact 11 (f := .glo "word") rfl), ⟨⟨_, ok_word (M := M) F_word B T_Weave G_check_total G_first_round TrO_Weave Pr_Weave_total G_least_turn G_backwards, F_word.binds fun _ _ _ _ _ _ us hl => match us, hl with | [_], _ => rfl⟩, F_word.kp⟩⟩
  have G_is_thread : Glob M "is_thread" 10 ["weave"] (spP (PIsThr AS AW)) := ⟨_, hg _ (c.a.fact 13 (f := .glo "is_thread") rfl), ⟨⟨_, ok_isThr (M := M) F_is_thread B T_Weave G_check_total G_first_round TrO_Weave Pr_Weave_total, F_is_thread.binds fun _ _ _ _ _ _ us hl => match us, hl with | [_], _ => rfl⟩, F_is_thread.kp⟩⟩
  have G_check_path : Glob M "check_path" 6 ["sheet", "path"] (spP (PChkP AS)) := ⟨_, hg _ (c.a.fact 14 (f := .glo "check_path") rfl), ⟨⟨_, ok_chkP (M := M) F_check_path B T_Sheet G_is_list G_is_line Pr_Sheet_lines Me_Sheet_triangle, F_check_path.binds fun _ _ _ _ _ _ us hl => match us, hl with | [_, _], _ => rfl⟩, F_check_path.kp⟩⟩
  have G_tightened : Glob M "tightened" 2 ["path"] (spP PTig) := ⟨_, hg _ (c.a.fact 15 (f := .glo "tightened") rfl), ⟨⟨_, ok_tig (M := M) F_tightened B G_least_turn, F_tightened.binds fun _ _ _ _ _ _ us hl => match us, hl with | [_], _ => rfl⟩, F_tightened.kp⟩⟩
  have G_tight : Glob M "tight" 7 ["sheet", "path"] (spP (PTight AS)) := ⟨_, hg _ (c.a.fact 16 (f := .glo "tight") rfl), ⟨⟨_, ok_tight (M := M) F_tight G_check_path G_tightened, F_tight.binds fun _ _ _ _ _ _ us hl => match us, hl with | [_, _], _ => rfl⟩, F_tight.kp⟩⟩
  have G_weave_of : Glob M "weave_of" 5 ["sheet", "row"] (spP (PWvOf AS AW)) := ⟨_, hg _ (c.a.fact 17 (f := .glo "weave_of") rfl), ⟨⟨_, ok_wvOf (M := M) F_weave_of B T_Sheet Pr_Sheet_lines Mk1_Weave, F_weave_of.binds fun _ _ _ _ _ _ us hl => match us, hl with | [_, _], _ => rfl⟩, F_weave_of.kp⟩⟩
  have G_thread_of : Glob M "thread_of" 11 ["sheet", "row"] (spP (PThrOf AS AW)) := ⟨_, hg _ (c.a.fact 18 (f := .glo "thread_of") rfl), ⟨⟨_, ok_thrOf (M := M) F_thread_of G_weave_of G_is_thread G_word G_same_round, F_thread_of.binds fun _ _ _ _ _ _ us hl => match us, hl with | [_, _], _ => rfl⟩, F_thread_of.kp⟩⟩
  have I_Laying := ok_lyI (M := M) F_LayingU_initU B T_Laid
  obtain ⟨fd_LaidI, S_Laid⟩ := sup_of (M := M) (st := sLdI) hP hsS b3 hsup
  have I_Laid := ok_ldI S_Laid T_Laid I_Laying (F_LayingU_initU.binds fun _ _ _ _ _ _ us hl => match us, hl with | [_, _, _], _ => rfl)
  have bl_Laid : L2.Binds M.K fd_LaidI ["self", "sheet", "path", "thread"] [] := by
    obtain ⟨oc, od, kV, doc, pm, an, c0, ct, osl, cc, ccl, cdd, cvs, ccs, file, tf, cl, cld, csl, rfl, _⟩ := S_Laid.ex
    exact .all fun us hl => match us, hl with | [_, _, _, _], _ => rfl
  have Mk1_Laid : Mk1 M "Laid" AL 2 ["self", "sheet", "path", "thread"] (spI M.w AL PLdI) := ⟨_, _, m_Laid, K_Laid, I_Laid, bl_Laid⟩
  have Pr_Laid_thread : Pr M AL "thread" 1 (PLdT AL) := ⟨_, _, Q_Laid_thread, ⟨⟨_, ok_ldT (M := M) F_Laid_thread T_Laid, F_Laid_thread.binds fun _ _ _ _ _ _ us hl => match us, hl with | [_], _ => rfl⟩, F_Laid_thread.kp⟩⟩
  have G_lay : Glob M "lay" 12 ["sheet", "path"] (spP (PLay AS AW AL)) := ⟨_, hg _ (c.a.fact 19 (f := .glo "lay") rfl), ⟨⟨_, ok_lay (M := M) F_lay G_tight G_thread_of Mk1_Laid, F_lay.binds fun _ _ _ _ _ _ us hl => match us, hl with | [_, _], _ => rfl⟩, F_lay.kp⟩⟩
  have G__law_deal : Glob M "_law_deal" 1 ["_law_script"] (spS M.w M.K PDeal) := ⟨_, hg _ (c.a.fact 30 (f := .glo "_law_deal") rfl), ⟨⟨_, ok_deal (M := M) F__law_deal B, F__law_deal.binds fun _ _ _ _ _ _ us hl => match us, hl with | [_], _ => rfl⟩, F__law_deal.kp⟩⟩
  have G__law_made : Glob M "_law_made" 8 ["_law_web_here"] (spP (PMade AS)) := ⟨_, hg _ (c.a.fact 48 (f := .glo "_law_made") rfl), ⟨⟨_, ok_made (M := M) F__law_made B G__law_order MkK_Sheet, F__law_made.binds fun _ _ _ _ _ _ us hl => match us, hl with | [_], _ => rfl⟩, F__law_made.kp⟩⟩
  have G__law_flipped : Glob M "_law_flipped" 12 ["_law_thing", "_law_flips_here"] (spP (PLFl AS AW)) := ⟨_, hg _ (c.a.fact 62 (f := .glo "_law_flipped") rfl), ⟨⟨_, ok_lfl (M := M) F__law_flipped B T_Weave MeR_Weave_flipped, F__law_flipped.binds fun _ _ _ _ _ _ us hl => match us, hl with | [_, _], _ => rfl⟩, F__law_flipped.kp⟩⟩
  exact ok_law (M := M) F_law B T_Weave T_Laid G__law_deal G__law_web G__law_made G__law_thread Mk1_Weave G_word G_lay Pr_Laid_thread G__law_pick G__law_flips G__law_flipped Pr_Weave_total Pr_Weave_sheet Me_Weave_counts G__law_carried_all EqO_Weave
end FtHead
/-! the end -/
namespace FtHead
open PySem PySem.Spec PyProof.Rows L2 He FtR
theorem facts {w : World} {K : PySem.W.Frag} {h : Heap} {mg : Str → Option Value} {f : Addr} (X : K.In h) (G : h.Ns mainGlobals mg) (hfa : mg ("law" : Str) = some (.ref f)) (c : SaysF K) :
    ∃ fd : FuncData, (∀ (s : Shared) (v : Value), BindsTo s fd ⟨[v], []⟩ [("_law_script", v)]) ∧ ∀ base : Heap, K.In base → base.Ns mainGlobals mg → FnOk (PySem.Challenge.rw_flipthreads_k43_whole_laid_paths_on_anot).prog w K mg base CX0 13 f fd ["_law_script"] (spLaw K) := by
  obtain ⟨fd, Z⟩ := c.a.def_ 63 (d := d63) rfl
  have e := hfa.symm.trans (glo_ok X G (c.a.fact 63 (f := .glo "law") rfl))
  cases e
  have b := FunD.bindsA (ps := ["_law_script"]) Z fun _ _ _ _ _ _ us hl => match us, hl with | [_], _ => rfl
  have F : L2.Fun K "law" "law" sLaw (ga K "law") fd := He5.fun_of Z
  exact ⟨fd, fun s v => b s [v] rfl, fun base Xb Gb => all_M ⟨(PySem.Challenge.rw_flipthreads_k43_whole_laid_paths_on_anot).prog, w, K, mg, base⟩ rfl c (fun x hx => glo_ok Xb Gb hx) (fun x hx => free_ok Xb Gb hx) (fun x i hx => int_ok Xb Gb hx) F⟩
end FtHead
open PySem PySem.W PySem.Calls PyProof.Rows
theorem PySem.Challenge.cw_flipthreads_k43_whole_laid_paths_on_anot_holds : PySem.Challenge.rw_flipthreads_k43_whole_laid_paths_on_anot.Holds := by
  w_on; o_law
  refine HandSHeadRun.head_any (r := OpenLaw.row PySem.Challenge.rw_flipthreads_k43_whole_laid_paths_on_anot) (q := view (OpenLaw.row PySem.Challenge.rw_flipthreads_k43_whole_laid_paths_on_anot).prog [94]) (H := FtHead.hookF) (ob := FtHead.ob) (M := 30000) (loose := FtHead.names) (d := HandSHeadRun.topDef (OpenLaw.row PySem.Challenge.rw_flipthreads_k43_whole_laid_paths_on_anot).prog 94) (kwd := []) FtHead.ob_eq
    (by kernel_rfl) (fun s => by kernel_rfl) FtHead.run (by kernel_rfl) (by kernel_rfl) (by kernel_rfl) (by rfl) (by first | assumption | decide +kernel) (by decide +kernel) ⟨rfl, rfl, rfl, rfl, rfl, by decide +kernel⟩ ?hw ?hc
  case hw => w_witness2
  case hc =>
    refine L2.walk_ofE (l := PySem.Challenge.rw_flipthreads_k43_whole_laid_paths_on_anot) (n := 63) (k := 13) (x := "_law_script") (CX := L2.CX0) rfl (by decide) (by kernel_rfl) ⟨rfl, by decide, by decide⟩ ?F (fun _ _ _ _ z => z)
    intro w mg fa h Y G hmg0
    obtain ⟨K, KX, c⟩ := Y
    have hmg : mg ("law" : PySem.Str) = some (.ref fa) := by
      have e : (HandSHeadRun.topDef (OpenLaw.row PySem.Challenge.rw_flipthreads_k43_whole_laid_paths_on_anot).prog 94).name = ("law" : PySem.Str) := by kernel_rfl
      rw [← e]
      exact hmg0
    obtain ⟨fd, hb, hF⟩ := FtHead.facts (w := w) KX G hmg c
    exact ⟨K, fd, FtR.spLaw K, KX, hb, fun H a ns hl _ hS => ⟨a, ns, rfl, hS, hl, fun _ => rfl⟩, hF⟩
#print axioms PySem.Challenge.cw_flipthreads_k43_whole_laid_paths_on_anot_holds
