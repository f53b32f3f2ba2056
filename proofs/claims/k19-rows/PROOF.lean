import PyProof.Rows.All
import Wide.All
import OpenK.AllK
import Wide.FinOn
import HandS.Base
import HandS.Call
import HandS.Words
import HandS.Head0
import HandS.Head1
import HandS.Head2
import HandS.HeadHook1
import HandS.HeadHook2
import HandS.HeadHook3
import HandS.HeadHook4
import HandS.HeadWalk
import KE.KStateDown
import HandS.ForMost
import HandS.Wide
import HandS.Flow
import HandS.Lambda
import HandS.IsInst
import HandS.Star
import HandS.Style
import HandS.TupAny
import HandS.Zip
import HandS.Nested
import KE.GoesEnumKw
import HandS.Text
import KE.SortData
import KE.DataCmp
import KE.KDictZip
import HandS.GenList
import HandS.SetKeys
import PyProof.DictMoreH
import HandS.DictComp
import HandS.Strs
import HandS.SetFor
import HandS.Small
import PySem.Challenge.RW_serialhouse_k19_whole_rows_of_formats_pu
set_option Elab.async false
set_option linter.all false
set_option maxRecDepth 100000
set_option maxHeartbeats 0
section
namespace K19
open PySem PySem.Spec PyProof.Rows L2
def top (i : Nat) : Stmt := PySem.Challenge.pw_serialhouse_k19_whole_rows_of_formats_pu.main.body.getD i (.Pass ⟨0, 0, 0, 0⟩)
def mth (c i : Nat) : Stmt := match top c with
  | .ClassDef (body := b) .. => b.getD i (.Pass ⟨0, 0, 0, 0⟩)
  | _ => .Pass ⟨0, 0, 0, 0⟩
end K19
end
section
/-! The head: what the top leaves. -/
namespace K19
open PySem PySem.Spec PyProof.Rows L2
def d2 : He.DefD := ⟨("common_part", none), "common_part", "common_part", defArgs (top 2), defBody (top 2), defScope (top 2), [], []⟩
def d3 : He.DefD := ⟨("lightened", none), "lightened", "lightened", defArgs (top 3), defBody (top 3), defScope (top 3), [], []⟩
def d4 : He.DefD := ⟨("place_of", none), "place_of", "place_of", defArgs (top 4), defBody (top 4), defScope (top 4), [], []⟩
def d6 : He.DefD := ⟨("least_of_terms", none), "least_of_terms", "least_of_terms", defArgs (top 6), defBody (top 6), defScope (top 6), [], []⟩
def d8 : He.DefD := ⟨("first_layer", none), "first_layer", "first_layer", defArgs (top 8), defBody (top 8), defScope (top 8), [], []⟩
def d9 : He.DefD := ⟨("next_layer", none), "next_layer", "next_layer", defArgs (top 9), defBody (top 9), defScope (top 9), [], []⟩
def d10 : He.DefD := ⟨("layers", none), "layers", "layers", defArgs (top 10), defBody (top 10), defScope (top 10), [], []⟩
def d11 : He.DefD := ⟨("counts_by_state", none), "counts_by_state", "counts_by_state", defArgs (top 11), defBody (top 11), defScope (top 11), [], []⟩
def d12 : He.DefD := ⟨("count_from", none), "count_from", "count_from", defArgs (top 12), defBody (top 12), defScope (top 12), [], []⟩
def d13 : He.DefD := ⟨("count", none), "count", "count", defArgs (top 13), defBody (top 13), defScope (top 13), [], []⟩
def d14 : He.DefD := ⟨("counts", none), "counts", "counts", defArgs (top 14), defBody (top 14), defScope (top 14), [], []⟩
def d17 : He.DefD := ⟨("is_integer", none), "is_integer", "is_integer", defArgs (top 17), defBody (top 17), defScope (top 17), [], []⟩
def d18 : He.DefD := ⟨("are_integers", none), "are_integers", "are_integers", defArgs (top 18), defBody (top 18), defScope (top 18), [], []⟩
def d19 : He.DefD := ⟨("is_rule", none), "is_rule", "is_rule", defArgs (top 19), defBody (top 19), defScope (top 19), [], []⟩
def d20 : He.DefD := ⟨("next_term", none), "next_term", "next_term", defArgs (top 20), defBody (top 20), defScope (top 20), [], []⟩
def d21 : He.DefD := ⟨("terms", none), "terms", "terms", defArgs (top 21), defBody (top 21), defScope (top 21), [], []⟩
def d22 : He.DefD := ⟨("term", none), "term", "term", defArgs (top 22), defBody (top 22), defScope (top 22), [], []⟩
def d23 : He.DefD := ⟨("least_by", none), "least_by", "least_by", defArgs (top 23), defBody (top 23), defScope (top 23), [], []⟩
def d24 : He.DefD := ⟨("least_rule", none), "least_rule", "least_rule", defArgs (top 24), defBody (top 24), defScope (top 24), [], []⟩
def d25 : He.DefD := ⟨("least_rule_from", none), "least_rule_from", "least_rule_from", defArgs (top 25), defBody (top 25), defScope (top 25), [], []⟩
def d26 : He.DefD := ⟨("obeys", none), "obeys", "obeys", defArgs (top 26), defBody (top 26), defScope (top 26), [], []⟩
def d27 : He.DefD := ⟨("added", none), "added", "added", defArgs (top 27), defBody (top 27), defScope (top 27), [], []⟩
def d28 : He.DefD := ⟨("lessened", none), "lessened", "lessened", defArgs (top 28), defBody (top 28), defScope (top 28), [], []⟩
def d29 : He.DefD := ⟨("pairs", none), "pairs", "pairs", defArgs (top 29), defBody (top 29), defScope (top 29), [], []⟩
def d30 : He.DefD := ⟨("met", none), "met", "met", defArgs (top 30), defBody (top 30), defScope (top 30), [], []⟩
def d31 : He.DefD := ⟨("met_terms", none), "met_terms", "met_terms", defArgs (top 31), defBody (top 31), defScope (top 31), [], []⟩
def d32 : He.DefD := ⟨("summed", none), "summed", "summed", defArgs (top 32), defBody (top 32), defScope (top 32), [], []⟩
def d33 : He.DefD := ⟨("sums_of", none), "sums_of", "sums_of", defArgs (top 33), defBody (top 33), defScope (top 33), [], []⟩
def d34 : He.DefD := ⟨("part", none), "part", "part", defArgs (top 34), defBody (top 34), defScope (top 34), [], []⟩
def d36 : He.DefD := ⟨("times_left", none), "times_left", "times_left", defArgs (top 36), defBody (top 36), defScope (top 36), [], []⟩
def d37 : He.DefD := ⟨("stepped", none), "stepped", "stepped", defArgs (top 37), defBody (top 37), defScope (top 37), [], []⟩
def d38 : He.DefD := ⟨("figures_of", none), "figures_of", "figures_of", defArgs (top 38), defBody (top 38), defScope (top 38), [], []⟩
def d39 : He.DefD := ⟨("term_left", none), "term_left", "term_left", defArgs (top 39), defBody (top 39), defScope (top 39), [], []⟩
def d40 : He.DefD := ⟨("count_left", none), "count_left", "count_left", defArgs (top 40), defBody (top 40), defScope (top 40), [], []⟩
def d48 : He.DefD := ⟨("is_letter", none), "is_letter", "is_letter", defArgs (top 48), defBody (top 48), defScope (top 48), [], []⟩
def d57 : He.DefD := ⟨("is_size", none), "is_size", "is_size", defArgs (top 57), defBody (top 57), defScope (top 57), [], []⟩
def d58 : He.DefD := ⟨("is_state", none), "is_state", "is_state", defArgs (top 58), defBody (top 58), defScope (top 58), [], []⟩
def d59 : He.DefD := ⟨("is_move", none), "is_move", "is_move", defArgs (top 59), defBody (top 59), defScope (top 59), [], []⟩
def d60 : He.DefD := ⟨("are_ascending", none), "are_ascending", "are_ascending", defArgs (top 60), defBody (top 60), defScope (top 60), [], []⟩
def d61 : He.DefD := ⟨("are_moves", none), "are_moves", "are_moves", defArgs (top 61), defBody (top 61), defScope (top 61), [], []⟩
def d62 : He.DefD := ⟨("are_ends", none), "are_ends", "are_ends", defArgs (top 62), defBody (top 62), defScope (top 62), [], []⟩
def d63 : He.DefD := ⟨("are_single", none), "are_single", "are_single", defArgs (top 63), defBody (top 63), defScope (top 63), [], []⟩
def d64 : He.DefD := ⟨("letters_of", none), "letters_of", "letters_of", defArgs (top 64), defBody (top 64), defScope (top 64), [], []⟩
def d76 : He.DefD := ⟨("reached", none), "reached", "reached", defArgs (top 76), defBody (top 76), defScope (top 76), [], []⟩
def d77 : He.DefD := ⟨("useful_states", none), "useful_states", "useful_states", defArgs (top 77), defBody (top 77), defScope (top 77), [], []⟩
def d82 : He.DefD := ⟨("first_unlike", none), "first_unlike", "first_unlike", defArgs (top 82), defBody (top 82), defScope (top 82), [], []⟩
def d83 : He.DefD := ⟨("have_same_rows", none), "have_same_rows", "have_same_rows", defArgs (top 83), defBody (top 83), defScope (top 83), [], []⟩
def d84 : He.DefD := ⟨("judge_rows", none), "judge_rows", "judge_rows", defArgs (top 84), defBody (top 84), defScope (top 84), [], []⟩
def d85 : He.DefD := ⟨("rows_hold", none), "rows_hold", "rows_hold", defArgs (top 85), defBody (top 85), defScope (top 85), [], []⟩
def d87 : He.DefD := ⟨("_law_deck", none), "_law_deck", "_law_deck", defArgs (top 87), defBody (top 87), defScope (top 87), [], []⟩
def d88 : He.DefD := ⟨("_law_draw", none), "_law_draw", "_law_draw", defArgs (top 88), defBody (top 88), defScope (top 88), [], []⟩
def d89 : He.DefD := ⟨("_law_pick", none), "_law_pick", "_law_pick", defArgs (top 89), defBody (top 89), defScope (top 89), [], []⟩
def d90 : He.DefD := ⟨("_law_form", none), "_law_form", "_law_form", defArgs (top 90), defBody (top 90), defScope (top 90), [], []⟩
def d91 : He.DefD := ⟨("_law_code", none), "_law_code", "_law_code", defArgs (top 91), defBody (top 91), defScope (top 91), [], []⟩
def d92 : He.DefD := ⟨("_law_moved", none), "_law_moved", "_law_moved", defArgs (top 92), defBody (top 92), defScope (top 92), [], []⟩
def d93 : He.DefD := ⟨("_law_behind", none), "_law_behind", "_law_behind", defArgs (top 93), defBody (top 93), defScope (top 93), [], []⟩
def d94 : He.DefD := ⟨("_law_beside", none), "_law_beside", "_law_beside", defArgs (top 94), defBody (top 94), defScope (top 94), [], []⟩
def d95 : He.DefD := ⟨("_law_states_right", none), "_law_states_right", "_law_states_right", defArgs (top 95), defBody (top 95), defScope (top 95), [], []⟩
def d96 : He.DefD := ⟨("_law_both_right", none), "_law_both_right", "_law_both_right", defArgs (top 96), defBody (top 96), defScope (top 96), [], []⟩
def d97 : He.DefD := ⟨("law", none), "law", "law", defArgs (top 97), defBody (top 97), defScope (top 97), [], []⟩
def dm5_0 : He.DefD := ⟨("Columns", some "__init__"), "__init__", "Columns.__init__", defArgs (mth 5 0), defBody (mth 5 0), defScope (mth 5 0), [], []⟩
def dm5_1 : He.DefD := ⟨("Columns", some "put"), "put", "Columns.put", defArgs (mth 5 1), defBody (mth 5 1), defScope (mth 5 1), [], []⟩
def dm73_0 : He.DefD := ⟨("Sheet", some "__init__"), "__init__", "Sheet.__init__", defArgs (mth 73 0), defBody (mth 73 0), defScope (mth 73 0), [], []⟩
def dm78_0 : He.DefD := ⟨("Format", some "__init__"), "__init__", "Format.__init__", defArgs (mth 78 0), defBody (mth 78 0), defScope (mth 78 0), [], []⟩
def fnL0 : List He.DefD := [d2, d3, d4, d6, d8, d9, d10, d11, d12, d13, d14, d17, d18, d19, d20, d21, d22, d23, d24, d25, d26, d27, d28, d29, d30, d31, d32, d33, d34, d36]
def fnL1 : List He.DefD := [d37, d38, d39, d40, d48, d57, d58, d59, d60, d61, d62, d63, d64, d76, d77, d82, d83, d84, d85, d87, d88, d89, d90, d91, d92, d93, d94, d95, d96, d97]
def fnL2 : List He.DefD := [dm5_0, dm5_1, dm73_0, dm78_0]
def fnL : List He.DefD := fnL0 ++ fnL1 ++ fnL2
def faL0 : List He.Fa := [.glo "common_part", .glo "lightened", .glo "place_of", .glo "least_of_terms", .glo "first_layer", .glo "next_layer", .glo "layers", .glo "counts_by_state", .glo "count_from", .glo "count", .glo "counts", .glo "is_integer", .glo "are_integers", .glo "is_rule", .glo "next_term", .glo "terms", .glo "term", .glo "least_by", .glo "least_rule", .glo "least_rule_from", .glo "obeys", .glo "added", .glo "lessened", .glo "pairs", .glo "met", .glo "met_terms", .glo "summed", .glo "sums_of", .glo "part", .glo "times_left"]
def faL1 : List He.Fa := [.glo "stepped", .glo "figures_of", .glo "term_left", .glo "count_left", .glo "is_letter", .glo "is_size", .glo "is_state", .glo "is_move", .glo "are_ascending", .glo "are_moves", .glo "are_ends", .glo "are_single", .glo "letters_of", .glo "reached", .glo "useful_states", .glo "first_unlike", .glo "have_same_rows", .glo "judge_rows", .glo "rows_hold", .glo "_law_deck", .glo "_law_draw", .glo "_law_pick", .glo "_law_form", .glo "_law_code", .glo "_law_moved", .glo "_law_behind", .glo "_law_beside", .glo "_law_states_right", .glo "_law_both_right", .glo "law"]
def faL2 : List He.Fa := [.glo "Columns", .glo "Sheet", .glo "Format", .free "list", .free "range", .free "int", .free "abs", .free "len", .free "tuple", .free "sum", .free "all", .free "enumerate", .free "zip", .free "isinstance", .free "sorted", .free "set", .free "bool", .free "str", .int "RULE_PARTS" 2, .int "PAPER_PARTS" 2, .int "TRIPLE" 3, .str "LETTERS" "abcdefghijklmnopqrstuvwxyz", .cls "Columns", .mkr "Columns", .cls "Sheet", .mkr "Sheet", .cls "Format", .mkr "Format", .meth "Columns" "put", .noat "Columns" "free"]
def faL3 : List He.Fa := [.noat "Columns" "many", .noat "Sheet" "size", .noat "Sheet" "moves", .noat "Sheet" "ends", .noat "Sheet" "letters", .noat "Sheet" "goals_by_key", .noat "Format" "size", .noat "Format" "moves", .noat "Format" "ends", .noat "Format" "letters", .noat "Format" "useful", .noat "Format" "sheet", .noat "Format" "step_by_key", .noat "Format" "known_by_word"]
def faL : List He.Fa := faL0 ++ faL1 ++ faL2 ++ faL3
def tfL : List He.Defn := [("least_rule_from", none), ("added", none), ("lessened", none), ("met", none), ("summed", none), ("part", none)]
def exL (K : PySem.W.Frag) : Bool := decide ((tfL.map fun p => (He.cT K p).2).Nodup)
def nmL0 : List Str := ["_wall", "__name__", "common_part", "lightened", "place_of", "Columns", "least_of_terms", "first_layer", "next_layer", "layers", "counts_by_state", "count_from", "count", "counts", "RULE_PARTS", "is_integer", "are_integers", "is_rule", "next_term", "terms", "term", "least_by", "least_rule", "least_rule_from", "obeys", "added", "lessened", "pairs", "met", "met_terms"]
def nmL1 : List Str := ["summed", "sums_of", "part", "times_left", "stepped", "figures_of", "term_left", "count_left", "SerialError", "BadFormat", "BadSheet", "BadText", "LETTERS", "is_letter", "is_word", "DIGITS", "BLANK", "MOVE", "ENDS", "TRIPLE", "MOVE_WORDS", "is_size", "is_state", "is_move", "are_ascending", "are_moves", "are_ends", "are_single", "letters_of", "number_in"]
def nmL2 : List Str := ["state_in", "move_in", "ends_in", "parts_in", "text_of", "HEAD_sheets", "Sheet", "HEAD_formats", "reached", "useful_states", "Format", "PAPER_PARTS", "LONGEST", "first_unlike", "have_same_rows", "judge_rows", "rows_hold", "_law_deck", "_law_draw", "_law_pick", "_law_form", "_law_code", "_law_moved", "_law_behind", "_law_beside", "_law_states_right", "_law_both_right"]
def nmL : List Str := nmL0 ++ nmL1 ++ nmL2
abbrev hR : PySem.W.OpenRow := PySem.W.OpenLaw.row PySem.Challenge.rw_serialhouse_k19_whole_rows_of_formats_pu
abbrev hV : Program := PySem.W.view hR.prog [97]
/-! ### what the facts ask for: the names' objects, their code, the classes' own names, the methods' code -/
def nxO (o : Obj) : List Addr := match o.data with
  | .func fd => He.refV fd.code
  | .cls cd => [cd.ns]
  | .dict es _ => es.toList.flatMap fun e => He.refV e.val
  | _ => []
def nxG (g : Addr → Option Obj) (as : List Addr) : List Addr := as.flatMap fun a => match g a with
  | some o => nxO o
  | none => []
def asY (g : Addr → Option Obj) : List Addr := mainGlobals :: (nxG g [mainGlobals] ++ (nxG g (nxG g [mainGlobals]) ++ (nxG g (nxG g (nxG g [mainGlobals])) ++ nxG g (nxG g (nxG g (nxG g [mainGlobals]))))))
def kY (g : Addr → Option Obj) : PySem.W.Frag := He.frT g (asY g)
def obsY (g : Addr → Option Obj) : He.AlD × Bool := (He.obsD faL fnL (kY g), exL (kY g) && He.tabsB g tfL (kY g))
/-- what is told -/
structure SaysY (h : Heap) (K : PySem.W.Frag) : Prop where
  d : He.SaysD faL fnL K
  more : exL K = true
  hd : ∀ p ∈ tfL, PySem.W.codeHdIn K (He.cT K p).1 (He.cT K p).2 = true
  out : ∀ p ∈ tfL, K.lookup (He.cT K p).2 = none
  empty : ∀ p ∈ tfL, h.get? (He.cT K p).2 = some { cls := .none, data := .fields #[] }
theorem saysY_of {h : Heap} (e : obsY h.get? = (He.valD fnL, true)) : SaysY h (kY h.get?) := by
  have e1 : He.obsD faL fnL (kY h.get?) = He.valD fnL := congrArg Prod.fst e
  have e2 : (exL (kY h.get?) && He.tabsB h.get? tfL (kY h.get?)) = true := congrArg Prod.snd e
  obtain ⟨e3, e4⟩ := He.ba e2
  have row : ∀ p ∈ tfL, PySem.W.codeHdIn (kY h.get?) (He.cT (kY h.get?) p).1 (He.cT (kY h.get?) p).2 = true ∧ ∃ o, h.get? (He.cT (kY h.get?) p).2 = some o ∧ He.emptyTab o = true := by
    intro p hp
    obtain ⟨u, v⟩ := He.ba (List.all_eq_true.mp e4 p hp)
    cases q : h.get? (He.cT (kY h.get?) p).2 with
    | none => simp [q] at v
    | some o => exact ⟨u, o, rfl, by simpa [q] using v⟩
  refine ⟨e1, e3, fun p hp => (row p hp).1, fun p hp => ?_, fun p hp => ?_⟩
  · obtain ⟨_, o, q, z⟩ := row p hp
    exact He.frT_none q z
  · obtain ⟨_, o, q, z⟩ := row p hp
    exact q.trans (congrArg some (He.emptyTab_eq z))
def hk : PySem.W.Hook where
  α := He.AlD × Bool
  obs := fun s => obsY s.heap.get?
  val := fun _ => (He.valD fnL, true)
  says := fun _ h => ∃ K : PySem.W.Frag, K.In h ∧ SaysY h K
  of := fun _ _ e => ⟨_, He.frT_in, saysY_of e⟩
  keeps := fun _ _ _ ⟨K, hK, c⟩ k => ⟨K, PySem.W.Frag.In.keeps hK k, c.d, c.more, c.hd, c.out, fun p hp => k _ _ (c.empty p hp)⟩
def hob (s : PySem.W.SharedT) : He.AlD × Bool := obsY (HandSHeadRun.getT s)
theorem hob_eq (s : PySem.W.SharedT) : hob s = hk.obs s.abs := congrArg obsY (funext fun a => HandSHeadRun.getT_eq s a)
theorem hrun (w : World) : HandSHeadRun.RunEq hR hV hk hob 6000 nmL w := by
  intro os
  kernel_rfl
end K19
end
section
/-! Data logic: values of the program as plain data, over a frozen part F of the abstract heap H. -/
namespace DL
open PySem PySem.Spec PyProof.Rows L2

/-- plain data; fm: a format (its three parts) -/
inductive D where
  | non
  | bl (b : Bool)
  | int (i : Int)
  | str (s : Str)
  | tup (xs : List D)
  | lst (xs : List D)
  | fm (n : Int) (ms es : D)

/-- what is fixed through the proof: the address of the class of formats, the tables of code objects -/
structure Gx where
  C : Addr
  T : List (Addr × Str)

mutual
def Is (g : Gx) (H : Hp) : D → V → Prop
  | .non, v => v = .non
  | .bl b, v => v = .bl b
  | .int i, v => v = .int i
  | .str s, v => v = .str s
  | .tup xs, v => ∃ a vs, v = .ref a ∧ H a = some (.tup vs) ∧ All g H xs vs
  | .lst xs, v => ∃ a vs, v = .ref a ∧ H a = some (.lst vs) ∧ All g H xs vs
  | .fm n ms es, v => ∃ a dx fs vm ve, v = .ref a ∧ H a = some (.ins g.C dx fs) ∧ fs.lookup ("size" : Str) = some (V.int n) ∧
      fs.lookup ("moves" : Str) = some vm ∧ Is g H ms vm ∧ fs.lookup ("ends" : Str) = some ve ∧ Is g H es ve
def All (g : Gx) (H : Hp) : List D → List V → Prop
  | [], vs => vs = []
  | d :: ds, vs => ∃ v r, vs = v :: r ∧ Is g H d v ∧ All g H ds r
end

def NoT (F : Hp) : Prop := ∀ a ps, F a ≠ some (.tbl ps)
def Sub (F H : Hp) : Prop := ∀ a o, F a = some o → H a = some o
theorem Sub.refl (H : Hp) : Sub H H := fun _ _ h => h
theorem Sub.trans {A B C : Hp} (h : Sub A B) (k : Sub B C) : Sub A C := fun a o e => k a o (h a o e)

section
variable {g : Gx} {F F1 F2 F3 H H1 H2 H3 : Hp}
mutual
theorem Is.mono (s : Sub F H) : ∀ (d : D) (v : V), Is g F d v → Is g H d v
  | .non, v, h => h
  | .bl b, v, h => h
  | .int i, v, h => h
  | .str x, v, h => h
  | .tup xs, v, h => by
    obtain ⟨a, vs, e, h1, h2⟩ := h
    exact ⟨a, vs, e, s _ _ h1, All.mono s xs vs h2⟩
  | .lst xs, v, h => by
    obtain ⟨a, vs, e, h1, h2⟩ := h
    exact ⟨a, vs, e, s _ _ h1, All.mono s xs vs h2⟩
  | .fm n ms es, v, h => by
    obtain ⟨a, dx, fs, vm, ve, e, h1, h2, h3, h4, h5, h6⟩ := h
    exact ⟨a, dx, fs, vm, ve, e, s _ _ h1, h2, h3, Is.mono s ms vm h4, h5, Is.mono s es ve h6⟩
theorem All.mono (s : Sub F H) : ∀ (ds : List D) (vs : List V), All g F ds vs → All g H ds vs
  | [], vs, h => h
  | d :: ds, vs, h => by
    obtain ⟨v, r, e, h1, h2⟩ := h
    exact ⟨v, r, e, Is.mono s d v h1, All.mono s ds r h2⟩
end

theorem All.len : ∀ {ds : List D} {vs : List V}, All g F ds vs → vs.length = ds.length
  | [], vs, h => by
    have e : vs = [] := h
    rw [e]
    rfl
  | d :: ds, vs, h => by
    obtain ⟨v, r, e, _, h2⟩ := h
    rw [e, List.length_cons, List.length_cons, All.len h2]
theorem All.get : ∀ {ds : List D} {vs : List V} {i : Nat} {d : D}, All g F ds vs → ds[i]? = some d → ∃ v, vs[i]? = some v ∧ Is g F d v
  | [], _, _, _, _, h => by simp at h
  | d :: ds, vs, 0, d', h, hd => by
    obtain ⟨v, r, e, h1, _⟩ := h
    have e2 : d = d' := by simpa using hd
    subst e2
    exact ⟨v, by rw [e]; rfl, h1⟩
  | d :: ds, vs, i + 1, d', h, hd => by
    obtain ⟨v, r, e, _, h2⟩ := h
    obtain ⟨u, hu, iu⟩ := All.get (i := i) h2 (by simpa using hd)
    exact ⟨u, by rw [e]; simpa using hu, iu⟩
theorem All.getV {ds : List D} {vs : List V} {i : Nat} {v : V} (h : All g F ds vs) (hv : vs[i]? = some v) : ∃ d, ds[i]? = some d ∧ Is g F d v := by
  have hl := h.len
  have hi : i < ds.length := by
    have := (List.getElem?_eq_some_iff.mp hv).1
    omega
  obtain ⟨u, hu, iu⟩ := h.get (List.getElem?_eq_getElem hi)
  rw [hv] at hu
  cases hu
  exact ⟨_, List.getElem?_eq_getElem hi, iu⟩
theorem All.nil : All g F [] [] := rfl
theorem All.cons {d : D} {ds : List D} {v : V} {vs : List V} (h : Is g F d v) (k : All g F ds vs) : All g F (d :: ds) (v :: vs) := ⟨v, vs, rfl, h, k⟩
theorem All.app : ∀ {ds es : List D} {vs ws : List V}, All g F ds vs → All g F es ws → All g F (ds ++ es) (vs ++ ws)
  | [], es, vs, ws, h, k => by
    have e : vs = [] := h
    rw [e]
    exact k
  | d :: ds, es, vs, ws, h, k => by
    obtain ⟨v, r, e, h1, h2⟩ := h
    rw [e]
    exact ⟨v, r ++ ws, rfl, h1, All.app h2 k⟩
theorem All.take : ∀ {ds : List D} {vs : List V} (n : Nat), All g F ds vs → All g F (ds.take n) (vs.take n)
  | [], vs, n, h => by
    have e : vs = [] := h
    rw [e, List.take_nil, List.take_nil]
    rfl
  | d :: ds, vs, 0, h => rfl
  | d :: ds, vs, n + 1, h => by
    obtain ⟨v, r, e, h1, h2⟩ := h
    rw [e]
    exact ⟨v, r.take n, rfl, h1, All.take n h2⟩
theorem All.drop : ∀ {ds : List D} {vs : List V} (n : Nat), All g F ds vs → All g F (ds.drop n) (vs.drop n)
  | [], vs, n, h => by
    have e : vs = [] := h
    rw [e, List.drop_nil, List.drop_nil]
    rfl
  | d :: ds, vs, 0, h => h
  | d :: ds, vs, n + 1, h => by
    obtain ⟨v, r, e, _, h2⟩ := h
    rw [e]
    exact All.drop n h2
theorem All.set : ∀ {ds : List D} {vs : List V} {d : D} {v : V} (n : Nat), All g F ds vs → Is g F d v → All g F (ds.set n d) (vs.set n v)
  | [], vs, d, v, n, h, _ => by
    have e : vs = [] := h
    rw [e]
    rfl
  | d :: ds, vs, d', v', 0, h, k => by
    obtain ⟨v, r, e, _, h2⟩ := h
    rw [e]
    exact ⟨v', r, rfl, k, h2⟩
  | d :: ds, vs, d', v', n + 1, h, k => by
    obtain ⟨v, r, e, h1, h2⟩ := h
    rw [e]
    exact ⟨v, r.set n v', rfl, h1, All.set n h2 k⟩
theorem All.rev : ∀ {ds : List D} {vs : List V}, All g F ds vs → All g F ds.reverse vs.reverse
  | [], vs, h => by
    have e : vs = [] := h
    rw [e]
    rfl
  | d :: ds, vs, h => by
    obtain ⟨v, r, e, h1, h2⟩ := h
    rw [e, List.reverse_cons, List.reverse_cons]
    exact All.app (All.rev h2) (.cons h1 .nil)
theorem All.ints : ∀ {ns : List Int} {vs : List V}, All g F (ns.map D.int) vs → vs = ns.map V.int
  | [], vs, h => h
  | n :: ns, vs, h => by
    obtain ⟨v, r, e, h1, h2⟩ := h
    have e1 : v = .int n := h1
    rw [e, e1, All.ints h2]
    rfl
theorem All.of_ints : ∀ (ns : List Int), All g F (ns.map D.int) (ns.map V.int)
  | [] => rfl
  | n :: ns => ⟨.int n, ns.map V.int, rfl, rfl, All.of_ints ns⟩
theorem All.bls : ∀ {ns : List Bool} {vs : List V}, All g F (ns.map D.bl) vs → vs = ns.map V.bl
  | [], vs, h => h
  | n :: ns, vs, h => by
    obtain ⟨v, r, e, h1, h2⟩ := h
    have e1 : v = .bl n := h1
    rw [e, e1, All.bls h2]
    rfl
theorem All.strs : ∀ {ns : List Str} {vs : List V}, All g F (ns.map D.str) vs → vs = ns.map V.str
  | [], vs, h => h
  | n :: ns, vs, h => by
    obtain ⟨v, r, e, h1, h2⟩ := h
    have e1 : v = .str n := h1
    rw [e, e1, All.strs h2]
    rfl

/-- the frozen part within the heap, and the tables of code objects -/
structure Base (g : Gx) (F H : Hp) : Prop where
  sub : Sub F H
  noT : NoT F
  tabs : LamX.Tabs g.T H
/-- a step that changes nothing of what stands (but tables): from (F, H) to (F2, H2), what is frozen anew is new -/
structure Step (g : Gx) (F H F2 H2 : Hp) : Prop where
  sub : Sub F F2
  base : Base g F2 H2
  ext : LamX.ExtN H H2
  dom : ∀ a, H2 a = none → H a = none
  new : ∀ a o, F2 a = some o → F a = some o ∨ H a = none
theorem Step.refl (b : Base g F H) : Step g F H F H := ⟨Sub.refl F, b, LamX.ExtN.refl H, fun _ h => h, fun _ _ h => .inl h⟩
theorem Step.trans (s : Step g F1 H1 F2 H2) (t : Step g F2 H2 F3 H3) : Step g F1 H1 F3 H3 :=
  ⟨s.sub.trans t.sub, t.base, s.ext.trans t.ext, fun a h => s.dom a (t.dom a h), fun a o h => by
    rcases t.new a o h with q | q
    · exact s.new a o q
    · exact .inr (s.dom a q)⟩
theorem Step.is (s : Step g F1 H1 F2 H2) {d : D} {v : V} (h : Is g F1 d v) : Is g F2 d v := Is.mono s.sub d v h
theorem Step.all (s : Step g F1 H1 F2 H2) {d : List D} {v : List V} (h : All g F1 d v) : All g F2 d v := All.mono s.sub d v h
theorem tabs_new {p : Addr} {o : HO} (t : LamX.Tabs g.T H) (hp : H p = none) : LamX.Tabs g.T (upd H p o) :=
  t.ext fun b u e => (upd_ne (ne_of_none e hp)).trans e
theorem not_tbl_of {a : Addr} {o : HO} (b : Base g F H) (h : F a = some o) : ∀ ps, o ≠ .tbl ps := fun ps e => b.noT a ps (e ▸ h)
theorem frozen_free {p : Addr} (b : Base g F H) (hp : H p = none) : F p = none := by
  cases e : F p with
  | none => rfl
  | some o => rw [b.sub p o e] at hp; cases hp
/-- a new object, frozen at once -/
theorem Step.alloc {p : Addr} {o : HO} (b : Base g F H) (hp : H p = none) (ho : ∀ ps, o ≠ .tbl ps) : Step g F H (upd F p o) (upd H p o) := by
  have fp := frozen_free b hp
  refine ⟨fun a u e => (upd_ne (ne_of_none e fp)).trans e, ⟨fun a u e => ?_, fun a ps e => ?_, tabs_new b.tabs hp⟩, fun a u e _ => (upd_ne (ne_of_none e hp)).trans e, fun a e => ?_, fun a u e => ?_⟩
  · by_cases q : a = p
    · subst q; rw [upd_same] at e ⊢; exact e
    · rw [upd_ne q] at e ⊢; exact b.sub a u e
  · by_cases q : a = p
    · subst q; rw [upd_same] at e; exact ho ps (Option.some.inj e)
    · rw [upd_ne q] at e; exact b.noT a ps e
  · by_cases q : a = p
    · subst q; exact hp
    · rw [upd_ne q] at e; exact e
  · by_cases q : a = p
    · subst q; exact .inr hp
    · rw [upd_ne q] at e; exact .inl e
/-- a new object, not frozen -/
theorem Step.alloc0 {p : Addr} {o : HO} (b : Base g F H) (hp : H p = none) : Step g F H F (upd H p o) := by
  have fp := frozen_free b hp
  refine ⟨Sub.refl F, ⟨fun a u e => (upd_ne (ne_of_none (b.sub a u e) hp)).trans (b.sub a u e), b.noT, tabs_new b.tabs hp⟩, fun a u e _ => (upd_ne (ne_of_none e hp)).trans e, fun a e => ?_, fun a u e => .inl e⟩
  by_cases q : a = p
  · subst q; exact hp
  · rw [upd_ne q] at e; exact e
/-- a list that is not frozen yet is frozen -/
theorem Step.freeze {p : Addr} {o : HO} (b : Base g F H) (s : Step g F1 H1 F H) (hn : H1 p = none) (hp : H p = some o) (ho : ∀ ps, o ≠ .tbl ps) (fp : F p = none) : Step g F1 H1 (upd F p o) H := by
  refine ⟨fun a u e => (upd_ne (ne_of_none (s.sub a u e) fp)).trans (s.sub a u e), ⟨fun a u e => ?_, fun a ps e => ?_, b.tabs⟩, s.ext, s.dom, fun a u e => ?_⟩
  · by_cases q : a = p
    · subst q; rw [upd_same] at e; cases e; exact hp
    · rw [upd_ne q] at e; exact b.sub a u e
  · by_cases q : a = p
    · subst q; rw [upd_same] at e; exact ho ps (Option.some.inj e)
    · rw [upd_ne q] at e; exact b.noT a ps e
  · by_cases q : a = p
    · subst q; exact .inr hn
    · rw [upd_ne q] at e; exact s.new a u e

/-- what stands at a slot: nothing known; data; a list of this frame's own; a known value -/
inductive Slot where
  | un
  | sh (d : D)
  | own (xs : List D)
  | val (v : V)
  | pt (v : V) (Fb : Hp)
abbrev Env := List Slot
def OwnAt (g : Gx) (F H : Hp) (xs : List D) (v : V) : Prop := ∃ a vs, v = .ref a ∧ F a = none ∧ H a = some (.lst vs) ∧ All g F xs vs
def SlotOk (g : Gx) (F H : Hp) : Slot → Option V → Prop
  | .un, _ => True
  | .sh d, o => ∃ v, o = some v ∧ Is g F d v
  | .own xs, o => ∃ v, o = some v ∧ OwnAt g F H xs v
  | .val v, o => o = some v
  | .pt v Fb, o => o = some v ∧ Sub Fb F
structure RepE (g : Gx) (F H : Hp) (ρ : Env) (σ : L2.St) : Prop where
  base : Base g F H
  len : σ.length = ρ.length
  slot : ∀ (i : Nat) (sl : Slot) (o : Option V), ρ[i]? = some sl → σ[i]? = some o → SlotOk g F H sl o
theorem OwnAt.step {xs : List D} {v : V} (s : Step g F H F2 H2) (h : OwnAt g F H xs v) : OwnAt g F2 H2 xs v := by
  obtain ⟨a, vs, e, h1, h2, h3⟩ := h
  refine ⟨a, vs, e, ?_, s.ext a _ h2 (fun ps q => by cases q), s.all h3⟩
  cases q : F2 a with
  | none => rfl
  | some o =>
    rcases s.new a o q with z | z
    · rw [h1] at z; cases z
    · rw [h2] at z; cases z
theorem SlotOk.step {sl : Slot} {o : Option V} (s : Step g F H F2 H2) (h : SlotOk g F H sl o) : SlotOk g F2 H2 sl o := by
  cases sl with
  | un => trivial
  | sh d => obtain ⟨v, e, i⟩ := h; exact ⟨v, e, s.is i⟩
  | own xs => obtain ⟨v, e, i⟩ := h; exact ⟨v, e, i.step s⟩
  | val v => exact h
  | pt v Fb => exact ⟨h.1, h.2.trans s.sub⟩
theorem RepE.step {ρ : Env} {σ : L2.St} (s : Step g F H F2 H2) (r : RepE g F H ρ σ) : RepE g F2 H2 ρ σ :=
  ⟨s.base, r.len, fun i sl o h1 h2 => (r.slot i sl o h1 h2).step s⟩
theorem RepE.at {ρ : Env} {σ : L2.St} {i : Nat} {sl : Slot} (r : RepE g F H ρ σ) (h : ρ[i]? = some sl) : ∃ o, σ[i]? = some o ∧ SlotOk g F H sl o := by
  have hi : i < ρ.length := (List.getElem?_eq_some_iff.mp h).1
  have hi2 : i < σ.length := by rw [r.len]; exact hi
  exact ⟨_, List.getElem?_eq_getElem hi2, r.slot i sl _ h (List.getElem?_eq_getElem hi2)⟩
theorem RepE.set {ρ : Env} {σ : L2.St} {i : Nat} {sl : Slot} {v : V} (r : RepE g F H ρ σ) (h : SlotOk g F H sl (some v)) : RepE g F H (ρ.set i sl) (σ.set i (some v)) := by
  refine ⟨r.base, by rw [List.length_set, List.length_set, r.len], fun j sl' o h1 h2 => ?_⟩
  by_cases e : i = j
  · subst e
    have hi : i < ρ.length := by
      have := (List.getElem?_eq_some_iff.mp h1).1
      rwa [List.length_set] at this
    rw [List.getElem?_set_self hi] at h1
    rw [List.getElem?_set_self (by rw [r.len]; exact hi)] at h2
    cases h1
    cases h2
    exact h
  · rw [List.getElem?_set_ne e] at h1 h2
    exact r.slot j sl' o h1 h2
end

/-! ### judgements -/
/-- borrowed: data, or a list of one's own whose items are frozen -/
def IsB (g : Gx) (F H : Hp) (d : D) (v : V) : Prop := Is g F d v ∨ ∃ xs a vs, d = .lst xs ∧ v = .ref a ∧ H a = some (.lst vs) ∧ All g F xs vs
theorem IsB.lst {g : Gx} {F H : Hp} {xs : List D} {v : V} (s : Sub F H) (h : IsB g F H (.lst xs) v) : ∃ a vs, v = .ref a ∧ H a = some (.lst vs) ∧ All g F xs vs := by
  rcases h with ⟨a, vs, e, h1, h2⟩ | ⟨ys, a, vs, e0, e, h1, h2⟩
  · exact ⟨a, vs, e, s _ _ h1, h2⟩
  · cases e0
    exact ⟨a, vs, e, h1, h2⟩
theorem IsB.step {g : Gx} {F H F2 H2 : Hp} {d : D} {v : V} (s : Step g F H F2 H2) (h : IsB g F H d v) : IsB g F2 H2 d v := by
  rcases h with h | ⟨ys, a, vs, e0, e, h1, h2⟩
  · exact .inl (s.is h)
  · exact .inr ⟨ys, a, vs, e0, e, s.ext a _ h1 (fun ps q => by cases q), s.all h2⟩
theorem IsB.is {g : Gx} {F H : Hp} {d : D} {v : V} (s : Sub F H) (h : IsB g F H d v) : Is g H d v := by
  rcases h with h | ⟨ys, a, vs, e0, e, h1, h2⟩
  · exact Is.mono s d v h
  · subst e0
    exact ⟨a, vs, e, h1, All.mono s ys vs h2⟩

def tD (g : Gx) (ρ : Env) (d : D) : TE := fun σ H Q => ∃ F, RepE g F H ρ σ ∧ ∀ v F2 H2, Step g F H F2 H2 → Is g F2 d v → Q v H2
def tB (g : Gx) (ρ : Env) (d : D) : TE := fun σ H Q => ∃ F, RepE g F H ρ σ ∧ ∀ v F2 H2, Step g F H F2 H2 → IsB g F2 H2 d v → Q v H2
/-- a new list that nobody else has -/
def tN (g : Gx) (ρ : Env) (xs : List D) : TE := fun σ H Q => ∃ F, RepE g F H ρ σ ∧ ∀ a vs F2 H2, Step g F H F2 H2 → H a = none → F2 a = none → H2 a = some (.lst vs) → All g F2 xs vs → Q (.ref a) H2
def tT (g : Gx) (ρ : Env) (b : Bool) : TT := fun σ H Q => ∃ F, RepE g F H ρ σ ∧ ∀ F2 H2, Step g F H F2 H2 → Q b H2
def tA (g : Gx) (ρ : Env) (ds : List D) : TA := fun σ H Q => ∃ F, RepE g F H ρ σ ∧ ∀ vs F2 H2, Step g F H F2 H2 → All g F2 ds vs → Q vs H2

def AllB (g : Gx) (F H : Hp) : List D → List V → Prop
  | [], vs => vs = []
  | d :: ds, vs => ∃ v r, vs = v :: r ∧ IsB g F H d v ∧ AllB g F H ds r
theorem AllB.step {g : Gx} {F H F2 H2 : Hp} (s : Step g F H F2 H2) : ∀ {ds : List D} {vs : List V}, AllB g F H ds vs → AllB g F2 H2 ds vs
  | [], vs, h => h
  | d :: ds, vs, h => by
    obtain ⟨v, r, e, h1, h2⟩ := h
    exact ⟨v, r, e, h1.step s, AllB.step s h2⟩
theorem AllB.is {g : Gx} {F H : Hp} (s : Sub F H) : ∀ {ds : List D} {vs : List V}, AllB g F H ds vs → All g H ds vs
  | [], vs, h => h
  | d :: ds, vs, h => by
    obtain ⟨v, r, e, h1, h2⟩ := h
    exact ⟨v, r, e, h1.is s, AllB.is s h2⟩
/-- borrowed arguments -/
def tAB (g : Gx) (ρ : Env) (ds : List D) : TA := fun σ H Q => ∃ F, RepE g F H ρ σ ∧ ∀ vs F2 H2, Step g F H F2 H2 → AllB g F2 H2 ds vs → Q vs H2

section
variable {X : Cx} {g : Gx} {ρ : Env}
abbrev DE (g : Gx) (X : Cx) (e : Expr) (ρ : Env) (d : D) : Prop := PE X e (tD g ρ d)
abbrev DB (g : Gx) (X : Cx) (e : Expr) (ρ : Env) (d : D) : Prop := PE X e (tB g ρ d)
abbrev DN (g : Gx) (X : Cx) (e : Expr) (ρ : Env) (xs : List D) : Prop := PE X e (tN g ρ xs)
abbrev DT (g : Gx) (X : Cx) (e : Expr) (ρ : Env) (b : Bool) : Prop := PT X e (tT g ρ b)
abbrev DA (g : Gx) (X : Cx) (es : List Expr) (ρ : Env) (ds : List D) : Prop := PA X es (tA g ρ ds)
abbrev DAB (g : Gx) (X : Cx) (es : List Expr) (ρ : Env) (ds : List D) : Prop := PA X es (tAB g ρ ds)
theorem PE.wk {e : Expr} {t t' : TE} (h : PE X e t) (k : ∀ σ H Q, t' σ H Q → t σ H Q) : PE X e t' := ⟨fun pins s σ H Q I q => h.run pins s σ H Q I (k σ H Q q)⟩
theorem PT.wk {e : Expr} {t t' : TT} (h : PT X e t) (k : ∀ σ H Q, t' σ H Q → t σ H Q) : PT X e t' := ⟨fun pins s σ H Q I q => h.run pins s σ H Q I (k σ H Q q)⟩
theorem PA.wk {e : List Expr} {t t' : TA} (h : PA X e t) (k : ∀ σ H Q, t' σ H Q → t σ H Q) : PA X e t' := ⟨fun pos pins s σ H Q I q => h.run pos pins s σ H Q I (k σ H Q q)⟩
theorem PS.wk {e : Stmt} {t t' : TS} (h : PS X e t) (k : ∀ D σ H, t' D σ H → t D σ H) : PS X e t' := ⟨fun pins s σ H D I q => h.run pins s σ H D I (k D σ H q)⟩
theorem PSs.wk {e : List Stmt} {t t' : TS} (h : PSs X e t) (k : ∀ D σ H, t' D σ H → t D σ H) : PSs X e t' := ⟨fun pins s σ H D I q => h.run pins s σ H D I (k D σ H q)⟩

theorem DE.b {e : Expr} {d : D} (h : DE g X e ρ d) : DB g X e ρ d := PE.wk h fun σ H Q ⟨F, r, q⟩ => ⟨F, r, fun v F2 H2 s i => q v F2 H2 s (.inl i)⟩
theorem DN.e {e : Expr} {xs : List D} (h : DN g X e ρ xs) : DE g X e ρ (.lst xs) := PE.wk h fun σ H Q ⟨F, r, q⟩ => ⟨F, r, fun a vs F2 H2 s hn f2 h2 al =>
  q (.ref a) (upd F2 a (.lst vs)) H2 (Step.freeze s.base s hn h2 (fun ps z => by cases z) f2)
    ⟨a, vs, rfl, upd_same, All.mono (fun b u e => (upd_ne (ne_of_none e f2)).trans e) xs vs al⟩⟩
theorem DE.int_of {e : Expr} {i j : Int} (h : DE g X e ρ (.int i)) (q : i = j) : DE g X e ρ (.int j) := q ▸ h

/-! ### names, constants -/
theorem de_var {i : Nat} {x : Str} {pos : Pos} {d : D} (h : ρ[i]? = some (.sh d)) (hN : X.N[i]? = some x) (hv : Vis X.env.scope x) (hd : (x == ("__debug__" : Str)) = false := by decide)
    (hcd : (x == ("__classdict__" : Str)) = false := by decide) : DE g X (.Name x pos) ρ d := PE.wk (pe_var hN hv hd hcd) fun σ H Q ⟨F, r, q⟩ => by
  obtain ⟨o, e, v, eo, iv⟩ := r.at h
  subst eo
  exact ⟨v, e, q v F H (Step.refl r.base) iv⟩
theorem db_var {i : Nat} {x : Str} {pos : Pos} {xs : List D} (h : ρ[i]? = some (.own xs)) (hN : X.N[i]? = some x) (hv : Vis X.env.scope x) (hd : (x == ("__debug__" : Str)) = false := by decide)
    (hcd : (x == ("__classdict__" : Str)) = false := by decide) : DB g X (.Name x pos) ρ (.lst xs) := PE.wk (pe_var hN hv hd hcd) fun σ H Q ⟨F, r, q⟩ => by
  obtain ⟨o, e, v, eo, a, vs, ev, h1, h2, h3⟩ := r.at h
  subst eo
  exact ⟨v, e, q v F H (Step.refl r.base) (.inr ⟨xs, a, vs, rfl, ev, h2, h3⟩)⟩
theorem de_c {e : Expr} {v : V} {d : D} (h : PE X e (tC v)) (i : ∀ F, Is g F d v) : DE g X e ρ d := PE.wk h fun σ H Q ⟨F, r, q⟩ => q v F H (Step.refl r.base) (i F)
theorem de_int {i : Int} {j : Nat} {pos : Pos} : DE g X (.Constant (.int i) j pos) ρ (.int i) := de_c pe_int fun _ => rfl
theorem de_bl {b : Bool} {j : Nat} {pos : Pos} : DE g X (.Constant (.bool b) j pos) ρ (.bl b) := de_c pe_bl fun _ => rfl
theorem de_non {j : Nat} {pos : Pos} : DE g X (.Constant .none j pos) ρ .non := de_c pe_non fun _ => rfl
theorem de_str {x : Str} {j : Nat} {pos : Pos} : DE g X (.Constant (.str x) j pos) ρ (.str x) := de_c pe_str fun _ => rfl
theorem de_glob {x : Str} {d : D} {v : V} {u : Value} {pos : Pos} (hg : Gl X x) (hm : X.mg x = some u) (r : RelV v u) (i : ∀ F, Is g F d v) (hd : (x == ("__debug__" : Str)) = false := by decide) : DE g X (.Name x pos) ρ d := de_c (pe_glob hg hm r hd) i

/-! ### operations on values -/
/-- r gives d3 from d1 and d2 -/
def OpD (g : Gx) (r : R2) (d1 d2 d3 : D) : Prop := ∀ F H x y, Base g F H → IsB g F H d1 x → IsB g F H d2 y → ∀ Q : VK, (∀ v F2 H2, Step g F H F2 H2 → Is g F2 d3 v → Q v H2) → r x y H Q
def OpN (g : Gx) (r : R2) (d1 d2 : D) (xs : List D) : Prop := ∀ F H x y, Base g F H → IsB g F H d1 x → IsB g F H d2 y → ∀ Q : VK,
  (∀ a vs F2 H2, Step g F H F2 H2 → H a = none → F2 a = none → H2 a = some (.lst vs) → All g F2 xs vs → Q (.ref a) H2) → r x y H Q
variable {a b c : Expr} {pos : Pos} {d d1 d2 d3 : D} {r : R2}
theorem top_D {ta tb : TE} (hr : OpD g r d1 d2 d3) {σ : L2.St} {H : Hp} {Q : VK} (h : tD g ρ d3 σ H Q) : tOp r (tB g ρ d1) (tB g ρ d2) σ H Q := by
  obtain ⟨F, rp, q⟩ := h
  refine ⟨F, rp, fun x F1 H1 s1 i1 => ⟨F1, rp.step s1, fun y F2 H2 s2 i2 => hr F2 H2 x y s2.base (i1.step s2) i2 Q fun v F3 H3 s3 i3 => q v F3 H3 ((s1.trans s2).trans s3) i3⟩⟩
theorem top_N (hr : OpN g r d1 d2 xs) {σ : L2.St} {H : Hp} {Q : VK} (h : tN g ρ xs σ H Q) : tOp r (tB g ρ d1) (tB g ρ d2) σ H Q := by
  obtain ⟨F, rp, q⟩ := h
  refine ⟨F, rp, fun x F1 H1 s1 i1 => ⟨F1, rp.step s1, fun y F2 H2 s2 i2 => hr F2 H2 x y s2.base (i1.step s2) i2 Q fun a vs F3 H3 s3 hn f3 h3 al => q a vs F3 H3 ((s1.trans s2).trans s3) (s1.dom a (s2.dom a hn)) f3 h3 al⟩⟩
end
end DL
end
section
/-! Data logic: statements, targets, loops. -/
namespace DL
open PySem PySem.Spec PyProof.Rows L2

/-- what a frame changes besides its own new objects: the objects at W, told by a state -/
structure Sy (g : Gx) where
  W : List Addr
  ζ : Type
  Z : ζ → Hp → Hp → Prop
  stab : ∀ z F H F' H', Sub F F' → (∀ a ∈ W, H' a = H a) → Z z F H → Z z F' H'
  trk : ∀ z F H, Z z F H → ∀ a ∈ W, ∃ o, H a = some o ∧ ∀ ps, o ≠ .tbl ps
/-- nothing -/
def sy0 (g : Gx) : Sy g where
  W := []
  ζ := Unit
  Z := fun _ _ _ => True
  stab := fun _ _ _ _ _ _ _ _ => True.intro
  trk := fun _ _ _ _ _ h => absurd h List.not_mem_nil

/-- from a frame's entry (F0, H0) to now -/
structure RetS {g : Gx} (S : Sy g) (F0 H0 F H : Hp) (z : S.ζ) : Prop where
  base : Base g F H
  sub0 : Sub F0 F
  extW : ∀ a o, H0 a = some o → (∀ ps, o ≠ .tbl ps) → a ∉ S.W → H a = some o
  dom0 : ∀ a, H a = none → H0 a = none
  new0 : ∀ a o, F a = some o → F0 a = some o ∨ H0 a = none
  wF : ∀ a ∈ S.W, F a = none
  zz : S.Z z F H
structure RepS {g : Gx} (S : Sy g) (F0 H0 F H : Hp) (ρ : Env) (z : S.ζ) (σ : L2.St) : Prop where
  e : RepE g F H ρ σ
  r : RetS S F0 H0 F H z
  own0 : ∀ (i : Nat) (xs : List D) (a : Addr), ρ[i]? = some (.own xs) → σ[i]? = some (some (.ref a)) → H0 a = none ∧ a ∉ S.W
  dist : ∀ (i j : Nat) (xs ys : List D) (a : Addr), ρ[i]? = some (.own xs) → ρ[j]? = some (.own ys) → σ[i]? = some (some (.ref a)) → σ[j]? = some (some (.ref a)) → i = j
section
variable {g : Gx} {S : Sy g} {F0 H0 F H F2 H2 : Hp} {ρ : Env} {z : S.ζ} {σ : L2.St}
theorem RetS.step (s : Step g F H F2 H2) (r : RetS S F0 H0 F H z) : RetS S F0 H0 F2 H2 z := by
  have tk := S.trk z F H r.zz
  refine ⟨s.base, r.sub0.trans s.sub, fun a o e n w => s.ext a o (r.extW a o e n w) n, fun a e => r.dom0 a (s.dom a e), fun a o e => ?_, fun a w => ?_, S.stab z F H F2 H2 s.sub (fun a w => ?_) r.zz⟩
  · rcases s.new a o e with q | q
    · exact r.new0 a o q
    · exact .inr (r.dom0 a q)
  · obtain ⟨o, ho, hn⟩ := tk a w
    cases q : F2 a with
    | none => rfl
    | some u =>
      rcases s.new a u q with z | z
      · rw [r.wF a w] at z; cases z
      · rw [ho] at z; cases z
  · obtain ⟨o, ho, hn⟩ := tk a w
    rw [s.ext a o ho hn, ho]
theorem RepS.step (s : Step g F H F2 H2) (r : RepS S F0 H0 F H ρ z σ) : RepS S F0 H0 F2 H2 ρ z σ :=
  ⟨r.e.step s, r.r.step s, r.own0, r.dist⟩
/-- back to a plain step -/
theorem RetS.plain {z : (sy0 g).ζ} (r : RetS (sy0 g) F0 H0 F H z) : Step g F0 H0 F H :=
  ⟨r.sub0, r.base, fun a o e n => r.extW a o e n (by simp [sy0]), r.dom0, r.new0⟩
theorem RepS.start (b : Base g F0 H0) (h : RepE g F0 H0 ρ σ) (hn : ∀ sl ∈ ρ, ∀ xs, sl ≠ .own xs) (hw : ∀ a ∈ S.W, F0 a = none) (hz : S.Z z F0 H0) : RepS S F0 H0 F0 H0 ρ z σ :=
  ⟨h, ⟨b, Sub.refl _, fun a o e _ _ => e, fun a e => e, fun a o e => .inl e, hw, hz⟩, fun i xs a e _ => absurd rfl (hn _ (List.mem_of_getElem? e) xs), fun i j xs ys a e _ _ _ => absurd rfl (hn _ (List.mem_of_getElem? e) xs)⟩
/-- a slot gets data -/
theorem RepS.sh {i : Nat} {d : D} {v : V} (r : RepS S F0 H0 F H ρ z σ) (h : Is g F d v) : RepS S F0 H0 F H (ρ.set i (.sh d)) z (σ.set i (some v)) := by
  refine ⟨r.e.set ⟨v, rfl, h⟩, r.r, fun j xs a e1 e2 => ?_, fun j k xs ys a e1 e2 e3 e4 => ?_⟩
  · by_cases q : i = j
    · subst q
      have hi := (List.getElem?_eq_some_iff.mp e1).1
      rw [List.length_set] at hi
      rw [List.getElem?_set_self hi] at e1
      cases e1
    · rw [List.getElem?_set_ne q] at e1 e2
      exact r.own0 j xs a e1 e2
  · by_cases q : i = j
    · subst q
      have hi := (List.getElem?_eq_some_iff.mp e1).1
      rw [List.length_set] at hi
      rw [List.getElem?_set_self hi] at e1
      cases e1
    · by_cases q2 : i = k
      · subst q2
        have hi := (List.getElem?_eq_some_iff.mp e2).1
        rw [List.length_set] at hi
        rw [List.getElem?_set_self hi] at e2
        cases e2
      · rw [List.getElem?_set_ne q] at e1 e3
        rw [List.getElem?_set_ne q2] at e2 e4
        exact r.dist j k xs ys a e1 e2 e3 e4
/-- a known value -/
theorem RepS.vl {i : Nat} {v : V} (r : RepS S F0 H0 F H ρ z σ) : RepS S F0 H0 F H (ρ.set i (.val v)) z (σ.set i (some v)) := by
  refine ⟨r.e.set rfl, r.r, fun j xs a e1 e2 => ?_, fun j k xs ys a e1 e2 e3 e4 => ?_⟩
  · by_cases q : i = j
    · subst q
      have hi := (List.getElem?_eq_some_iff.mp e1).1
      rw [List.length_set] at hi
      rw [List.getElem?_set_self hi] at e1
      cases e1
    · rw [List.getElem?_set_ne q] at e1 e2
      exact r.own0 j xs a e1 e2
  · by_cases q : i = j
    · subst q
      have hi := (List.getElem?_eq_some_iff.mp e1).1
      rw [List.length_set] at hi
      rw [List.getElem?_set_self hi] at e1
      cases e1
    · by_cases q2 : i = k
      · subst q2
        have hi := (List.getElem?_eq_some_iff.mp e2).1
        rw [List.length_set] at hi
        rw [List.getElem?_set_self hi] at e2
        cases e2
      · rw [List.getElem?_set_ne q] at e1 e3
        rw [List.getElem?_set_ne q2] at e2 e4
        exact r.dist j k xs ys a e1 e2 e3 e4
/-- a slot gets a new list of one's own; no own list stands at its address -/
theorem RepS.ow {i : Nat} {xs : List D} {vs : List V} {a : Addr} (r : RepS S F0 H0 F H ρ z σ) (f : F a = none) (h : H a = some (.lst vs)) (al : All g F xs vs) (h0 : H0 a = none) (hw : a ∉ S.W)
    (hd : ∀ (j : Nat) (ys : List D), ρ[j]? = some (.own ys) → σ[j]? ≠ some (some (.ref a))) : RepS S F0 H0 F H (ρ.set i (.own xs)) z (σ.set i (some (.ref a))) := by
  refine ⟨r.e.set ⟨.ref a, rfl, a, vs, rfl, f, h, al⟩, r.r, fun j ys b e1 e2 => ?_, fun j k ys zs b e1 e2 e3 e4 => ?_⟩
  · by_cases q : i = j
    · subst q
      have hi := (List.getElem?_eq_some_iff.mp e2).1
      rw [List.length_set] at hi
      rw [List.getElem?_set_self hi] at e2
      cases e2
      exact ⟨h0, hw⟩
    · rw [List.getElem?_set_ne q] at e1 e2
      exact r.own0 j ys b e1 e2
  · by_cases q : i = j
    · subst q
      have hi := (List.getElem?_eq_some_iff.mp e3).1
      rw [List.length_set] at hi
      rw [List.getElem?_set_self hi] at e3
      cases e3
      by_cases q2 : i = k
      · exact q2
      · rw [List.getElem?_set_ne q2] at e2 e4
        exact absurd e4 (hd k zs e2)
    · by_cases q2 : i = k
      · subst q2
        have hi := (List.getElem?_eq_some_iff.mp e4).1
        rw [List.length_set] at hi
        rw [List.getElem?_set_self hi] at e4
        cases e4
        rw [List.getElem?_set_ne q] at e1 e3
        exact absurd e3 (hd j ys e1)
      · rw [List.getElem?_set_ne q] at e1 e3
        rw [List.getElem?_set_ne q2] at e2 e4
        exact r.dist j k ys zs b e1 e2 e3 e4
/-- a list of one's own changes -/
theorem RepS.mut {i : Nat} {xs ys : List D} {a : Addr} {ws : List V} (r : RepS S F0 H0 F H ρ z σ) (hi : ρ[i]? = some (.own xs)) (hs : σ[i]? = some (some (.ref a))) (al : All g F ys ws) :
    RepS S F0 H0 F (upd H a (.lst ws)) (ρ.set i (.own ys)) z σ := by
  obtain ⟨h0, hw⟩ := r.own0 i xs a hi hs
  obtain ⟨v, e, b, vs, e2, f, h, al0⟩ := r.e.slot i _ _ hi hs
  cases e
  cases e2
  have hil := (List.getElem?_eq_some_iff.mp hi).1
  have nt : ∀ (b : Addr) (ps : Array Value), H b = some (.tbl ps) → b ≠ a := fun b ps e q => by rw [q, h] at e; cases e
  have nf : ∀ (b : Addr) (o : HO), F b = some o → b ≠ a := fun b o e q => by rw [q, f] at e; cases e
  refine ⟨⟨⟨fun b o e => (upd_ne (nf b o e)).trans (r.e.base.sub b o e), r.e.base.noT, ?_⟩, by rw [List.length_set]; exact r.e.len, fun j sl o e1 e2 => ?_⟩, ⟨⟨fun b o e => (upd_ne (nf b o e)).trans (r.e.base.sub b o e), r.e.base.noT, ?_⟩, r.r.sub0, fun b o e n w => ?_, fun b e => ?_, r.r.new0, r.r.wF, S.stab z F H F _ (Sub.refl F) (fun b w => upd_ne (fun q => hw (q ▸ w))) r.r.zz⟩, fun j zs b e1 e2 => ?_, fun j k zs us b e1 e2 e3 e4 => ?_⟩
  · exact fun p hp => by
      obtain ⟨ps, t1, t2, t3⟩ := r.e.base.tabs p hp
      refine ⟨ps, (upd_ne (nt _ _ t1)).trans t1, t2, fun pos cv hc => ?_⟩
      obtain ⟨c, c1, c2⟩ := t3 pos cv hc
      refine ⟨c, c1, (upd_ne fun q => ?_).trans c2⟩
      rw [q, h] at c2
      cases c2
  · by_cases q : i = j
    · subst q
      rw [List.getElem?_set_self hil] at e1
      cases e1
      rw [hs] at e2
      cases e2
      exact ⟨.ref a, rfl, a, ws, rfl, f, upd_same, al⟩
    · rw [List.getElem?_set_ne q] at e1
      have old := r.e.slot j sl o e1 e2
      cases sl with
      | un => trivial
      | sh d => exact old
      | val v => exact old
      | pt v Fb => exact old
      | own zs =>
        obtain ⟨v, ev, b, us, eb, fb, hb, alb⟩ := old
        refine ⟨v, ev, b, us, eb, fb, (upd_ne fun z => ?_).trans hb, alb⟩
        subst z
        subst ev
        subst eb
        exact q (r.dist i j xs zs b hi e1 hs e2)
  · exact fun p hp => by
      obtain ⟨ps, t1, t2, t3⟩ := r.e.base.tabs p hp
      refine ⟨ps, (upd_ne (nt _ _ t1)).trans t1, t2, fun pos cv hc => ?_⟩
      obtain ⟨c, c1, c2⟩ := t3 pos cv hc
      refine ⟨c, c1, (upd_ne fun q => ?_).trans c2⟩
      rw [q, h] at c2
      cases c2
  · exact (upd_ne (fun q => by rw [q, h0] at e; cases e)).trans (r.r.extW b o e n w)
  · by_cases q : b = a
    · subst q; exact h0
    · rw [upd_ne q] at e; exact r.r.dom0 b e
  · by_cases q : i = j
    · subst q
      rw [hs] at e2
      cases e2
      exact ⟨h0, hw⟩
    · rw [List.getElem?_set_ne q] at e1
      exact r.own0 j zs b e1 e2
  · by_cases q : i = j
    · subst q
      by_cases q2 : i = k
      · exact q2
      · rw [List.getElem?_set_ne q2] at e2
        exact r.dist i k xs us b hi e2 e3 e4
    · by_cases q2 : i = k
      · subst q2
        rw [List.getElem?_set_ne q] at e1
        exact r.dist j i zs xs b e1 hi e3 e4
      · rw [List.getElem?_set_ne q] at e1
        rw [List.getElem?_set_ne q2] at e2
        exact r.dist j k zs us b e1 e2 e3 e4
/-- a list of one's own becomes data -/
theorem RepS.fix {i : Nat} {xs : List D} (r : RepS S F0 H0 F H ρ z σ) (hi : ρ[i]? = some (.own xs)) : ∃ F', Sub F F' ∧ RepS S F0 H0 F' H (ρ.set i (.sh (.lst xs))) z σ := by
  obtain ⟨o, hs, ok⟩ := r.e.at hi
  obtain ⟨v, eo, a, vs, ev, f, h, al⟩ := ok
  subst eo
  subst ev
  obtain ⟨h0, hw⟩ := r.own0 i xs a hi hs
  have hil := (List.getElem?_eq_some_iff.mp hi).1
  have sb : Sub F (upd F a (.lst vs)) := fun b u e => (upd_ne (ne_of_none e f)).trans e
  have bs : Base g (upd F a (.lst vs)) H := by
    refine ⟨fun b u e => ?_, fun b ps e => ?_, r.e.base.tabs⟩
    · by_cases q : b = a
      · subst q; rw [upd_same] at e; cases e; exact h
      · rw [upd_ne q] at e; exact r.e.base.sub b u e
    · by_cases q : b = a
      · subst q; rw [upd_same] at e; cases e
      · rw [upd_ne q] at e; exact r.e.base.noT b ps e
  refine ⟨upd F a (.lst vs), sb, ⟨bs, by rw [List.length_set]; exact r.e.len, fun j sl o e1 e2 => ?_⟩, ⟨bs, r.r.sub0.trans sb, r.r.extW, r.r.dom0, fun b u e => ?_, fun b w => ?_, S.stab z F H _ H sb (fun _ _ => rfl) r.r.zz⟩, fun j ys b e1 e2 => ?_, fun j k ys zs b e1 e2 e3 e4 => ?_⟩
  · by_cases q : i = j
    · subst q
      rw [List.getElem?_set_self hil] at e1
      cases e1
      rw [hs] at e2
      cases e2
      exact ⟨.ref a, rfl, a, vs, rfl, upd_same, All.mono sb xs vs al⟩
    · rw [List.getElem?_set_ne q] at e1
      have old := r.e.slot j sl o e1 e2
      cases sl with
      | un => trivial
      | sh d => obtain ⟨v, ev, iv⟩ := old; exact ⟨v, ev, Is.mono sb d v iv⟩
      | val v => exact old
      | pt v Fb => exact ⟨old.1, old.2.trans sb⟩
      | own zs =>
        obtain ⟨v, ev, b, us, eb, fb, hb, alb⟩ := old
        refine ⟨v, ev, b, us, eb, (upd_ne fun z => ?_).trans fb, hb, All.mono sb zs us alb⟩
        subst z
        subst ev
        subst eb
        exact q (r.dist i j xs zs b hi e1 hs e2)
  · by_cases q : b = a
    · subst q; exact .inr h0
    · rw [upd_ne q] at e; exact r.r.new0 b u e
  · exact (upd_ne (fun q : b = a => hw (q ▸ w))).trans (r.r.wF b w)
  · by_cases q : i = j
    · subst q
      rw [List.getElem?_set_self hil] at e1
      cases e1
    · rw [List.getElem?_set_ne q] at e1
      exact r.own0 j ys b e1 e2
  · by_cases q : i = j
    · subst q
      rw [List.getElem?_set_self hil] at e1
      cases e1
    · by_cases q2 : i = k
      · subst q2
        rw [List.getElem?_set_self hil] at e2
        cases e2
      · rw [List.getElem?_set_ne q] at e1
        rw [List.getElem?_set_ne q2] at e2
        exact r.dist j k ys zs b e1 e2 e3 e4
/-- what is known of a slot is forgotten -/
theorem RepS.forget {i : Nat} (r : RepS S F0 H0 F H ρ z σ) : RepS S F0 H0 F H (ρ.set i .un) z σ := by
  refine ⟨⟨r.e.base, by rw [List.length_set]; exact r.e.len, fun j sl o e1 e2 => ?_⟩, r.r, fun j ys b e1 e2 => ?_, fun j k ys zs b e1 e2 e3 e4 => ?_⟩
  · by_cases q : i = j
    · subst q
      have hi := (List.getElem?_eq_some_iff.mp e1).1
      rw [List.length_set] at hi
      rw [List.getElem?_set_self hi] at e1
      cases e1
      trivial
    · rw [List.getElem?_set_ne q] at e1
      exact r.e.slot j sl o e1 e2
  · by_cases q : i = j
    · subst q
      have hi := (List.getElem?_eq_some_iff.mp e1).1
      rw [List.length_set] at hi
      rw [List.getElem?_set_self hi] at e1
      cases e1
    · rw [List.getElem?_set_ne q] at e1
      exact r.own0 j ys b e1 e2
  · by_cases q : i = j
    · subst q
      have hi := (List.getElem?_eq_some_iff.mp e1).1
      rw [List.length_set] at hi
      rw [List.getElem?_set_self hi] at e1
      cases e1
    · by_cases q2 : i = k
      · subst q2
        have hi := (List.getElem?_eq_some_iff.mp e2).1
        rw [List.length_set] at hi
        rw [List.getElem?_set_self hi] at e2
        cases e2
      · rw [List.getElem?_set_ne q] at e1
        rw [List.getElem?_set_ne q2] at e2
        exact r.dist j k ys zs b e1 e2 e3 e4
end

/-! ### statements -/
structure DEnds (ζ : Type) where
  nx : Env → ζ → Prop
  rt : D → ζ → Prop
  bk : Env → ζ → Prop
  ct : Env → ζ → Prop
section
variable {g : Gx}
def tS (S : Sy g) (F0 H0 : Hp) (ρ : Env) (z : S.ζ) (P : DEnds S.ζ) : TS := fun E σ H => ∃ F, RepS S F0 H0 F H ρ z σ ∧
  (∀ ρ' z' σ' F' H', P.nx ρ' z' → RepS S F0 H0 F' H' ρ' z' σ' → Sub F F' → E.nx σ' H') ∧ (∀ d z' v F' H', P.rt d z' → RetS S F0 H0 F' H' z' → Is g F' d v → E.rt v H') ∧
  (∀ ρ' z' σ' F' H', P.bk ρ' z' → RepS S F0 H0 F' H' ρ' z' σ' → Sub F F' → E.bk σ' H') ∧ (∀ ρ' z' σ' F' H', P.ct ρ' z' → RepS S F0 H0 F' H' ρ' z' σ' → Sub F F' → E.ct σ' H')
abbrev DS (S : Sy g) (F0 H0 : Hp) (X : Cx) (st : Stmt) (ρ : Env) (z : S.ζ) (P : DEnds S.ζ) : Prop := PS X st (tS S F0 H0 ρ z P)
abbrev DSs (S : Sy g) (F0 H0 : Hp) (X : Cx) (st : List Stmt) (ρ : Env) (z : S.ζ) (P : DEnds S.ζ) : Prop := PSs X st (tS S F0 H0 ρ z P)
variable {S : Sy g} {F0 H0 : Hp} {X : Cx} {ρ : Env} {z : S.ζ} {P : DEnds S.ζ} {st : Stmt} {rest : List Stmt}
theorem dss_nil (h : P.nx ρ z) : DSs S F0 H0 X [] ρ z P := PSs.wk pss_nil fun E σ H ⟨F, r, n, _⟩ => n ρ z σ F H h r (Sub.refl F)
/-- the ends of what stands behind, from a later frozen part -/
theorem tS_sub {F F' H : Hp} {E : Ends} {σ : L2.St} (s : Sub F F')
    (q : (∀ ρ' z' σ' F' H', P.nx ρ' z' → RepS S F0 H0 F' H' ρ' z' σ' → Sub F F' → E.nx σ' H') ∧ (∀ d z' v F' H', P.rt d z' → RetS S F0 H0 F' H' z' → Is g F' d v → E.rt v H') ∧
      (∀ ρ' z' σ' F' H', P.bk ρ' z' → RepS S F0 H0 F' H' ρ' z' σ' → Sub F F' → E.bk σ' H') ∧ (∀ ρ' z' σ' F' H', P.ct ρ' z' → RepS S F0 H0 F' H' ρ' z' σ' → Sub F F' → E.ct σ' H'))
    (r : RepS S F0 H0 F' H ρ z σ) : tS S F0 H0 ρ z P E σ H := by
  obtain ⟨n, rt, bk, ct⟩ := q
  exact ⟨F', r, fun ρ' z' σ' F2 H' k r' s' => n ρ' z' σ' F2 H' k r' (s.trans s'), rt, fun ρ' z' σ' F2 H' k r' s' => bk ρ' z' σ' F2 H' k r' (s.trans s'), fun ρ' z' σ' F2 H' k r' s' => ct ρ' z' σ' F2 H' k r' (s.trans s')⟩
theorem dss_cons (h : DS S F0 H0 X st ρ z { P with nx := fun ρ' z' => DSs S F0 H0 X rest ρ' z' P }) : DSs S F0 H0 X (st :: rest) ρ z P := by
  have h2 : PSs X rest (fun E σ H => ∃ ρ' z', DSs S F0 H0 X rest ρ' z' P ∧ tS S F0 H0 ρ' z' P E σ H) := ⟨fun pins s σ H D I ⟨ρ', z', k, q⟩ => k.run pins s σ H D I q⟩
  exact PSs.wk (pss_cons h h2) fun E σ H ⟨F, r, n, rt, bk, ct⟩ => ⟨F, r, fun ρ' z' σ' F' H' k r' s' => ⟨ρ', z', k, tS_sub s' ⟨n, rt, bk, ct⟩ r'⟩, rt, bk, ct⟩
/-- weaken the state ahead, the ends behind -/
theorem DSs.pre {ρ' : Env} (h : DSs S F0 H0 X rest ρ' z P) (k : ∀ F H σ, RepS S F0 H0 F H ρ z σ → ∃ F', Sub F F' ∧ RepS S F0 H0 F' H ρ' z σ) : DSs S F0 H0 X rest ρ z P := PSs.wk h fun E σ H ⟨F, r, q⟩ => by
  obtain ⟨F', s, r'⟩ := k F H σ r
  exact tS_sub s q r'
theorem DS.pre {ρ' : Env} (h : DS S F0 H0 X st ρ' z P) (k : ∀ F H σ, RepS S F0 H0 F H ρ z σ → ∃ F', Sub F F' ∧ RepS S F0 H0 F' H ρ' z σ) : DS S F0 H0 X st ρ z P := PS.wk h fun E σ H ⟨F, r, q⟩ => by
  obtain ⟨F', s, r'⟩ := k F H σ r
  exact tS_sub s q r'
theorem dss_fix {i : Nat} {xs : List D} (hi : ρ[i]? = some (.own xs)) (h : DSs S F0 H0 X rest (ρ.set i (.sh (.lst xs))) z P) : DSs S F0 H0 X rest ρ z P := h.pre fun F H σ r => r.fix hi
theorem ds_fix {i : Nat} {xs : List D} (hi : ρ[i]? = some (.own xs)) (h : DS S F0 H0 X st (ρ.set i (.sh (.lst xs))) z P) : DS S F0 H0 X st ρ z P := h.pre fun F H σ r => r.fix hi
theorem dss_forget (i : Nat) (h : DSs S F0 H0 X rest (ρ.set i .un) z P) : DSs S F0 H0 X rest ρ z P := h.pre fun F H σ r => ⟨F, Sub.refl F, r.forget⟩
theorem DSs.mono {P' : DEnds S.ζ} (h : DSs S F0 H0 X rest ρ z P') (n : ∀ ρ z, P'.nx ρ z → P.nx ρ z) (r : ∀ d z, P'.rt d z → P.rt d z) (b : ∀ ρ z, P'.bk ρ z → P.bk ρ z) (c : ∀ ρ z, P'.ct ρ z → P.ct ρ z) : DSs S F0 H0 X rest ρ z P :=
  PSs.wk h fun E σ H ⟨F, rp, hn, hr, hb, hc⟩ => ⟨F, rp, fun ρ' z' σ' F' H' k => hn ρ' z' σ' F' H' (n _ _ k), fun d z' v F' H' k => hr d z' v F' H' (r _ _ k), fun ρ' z' σ' F' H' k => hb ρ' z' σ' F' H' (b _ _ k), fun ρ' z' σ' F' H' k => hc ρ' z' σ' F' H' (c _ _ k)⟩

variable {e c : Expr} {d : D} {xs : List D} {pos : Pos}
/-- a new list, as an own one: what the rest needs -/
theorem RepS.owN {F H F2 H2 : Hp} {σ : L2.St} {i : Nat} {a : Addr} {vs : List V} (r : RepS S F0 H0 F H ρ z σ) (s : Step g F H F2 H2) (ha : H a = none) (f2 : F2 a = none) (h2 : H2 a = some (.lst vs)) (al : All g F2 xs vs) :
    RepS S F0 H0 F2 H2 (ρ.set i (.own xs)) z (σ.set i (some (.ref a))) :=
  (r.step s).ow f2 h2 al (r.r.dom0 a ha) (fun w => by obtain ⟨o, ho, _⟩ := S.trk z F H r.r.zz a w; rw [ha] at ho; cases ho)
    (fun j ys e1 e2 => by
      obtain ⟨v, ev, b, us, eb, _, hb, _⟩ := r.e.slot j _ _ e1 e2
      cases ev
      cases eb
      rw [ha] at hb
      cases hb)
/-- name = e, by any rule of the statement whose reading asks e's value -/
theorem ds_setP {te : TE} {i : Nat} (h : PS X st (tAsg te (gName i))) (k : ∀ σ H Q, tD g ρ d σ H Q → te σ H Q) (n : P.nx (ρ.set i (.sh d)) z) : DS S F0 H0 X st ρ z P :=
  PS.wk h fun E σ H ⟨F, r, hn, _⟩ => k σ H _ ⟨F, r.e, fun v F2 H2 s iv => hn _ z _ F2 H2 n ((r.step s).sh iv) s.sub⟩
theorem ds_newP {te : TE} {i : Nat} (h : PS X st (tAsg te (gName i))) (k : ∀ σ H Q, tN g ρ xs σ H Q → te σ H Q) (n : P.nx (ρ.set i (.own xs)) z) : DS S F0 H0 X st ρ z P :=
  PS.wk h fun E σ H ⟨F, r, hn, _⟩ => k σ H _ ⟨F, r.e, fun a vs F2 H2 s ha f2 h2 al => hn _ z _ F2 H2 n (r.owN s ha f2 h2 al) s.sub⟩
theorem ds_set {i : Nat} {x : Str} {pos' : Pos} (hN : X.N.Nodup) (hi : X.N[i]? = some x) (hx : Loc X.env.scope x) (he : DE g X e ρ d) (n : P.nx (ρ.set i (.sh d)) z) (hs : swapsWith e (some (.Name x pos')) pos.line X.env = pure false := by rfl)
    (hf : X.fn x = true ∨ X.env.scope.names.lookup x = some .local := by first | exact .inl rfl | exact .inr rfl | assumption) : DS S F0 H0 X (.Assign [.Name x pos'] e pos) ρ z P :=
  ds_setP (ps_set hN hi hx he hs hf) (fun _ _ _ h => h) n
theorem ds_new {i : Nat} {x : Str} {pos' : Pos} (hN : X.N.Nodup) (hi : X.N[i]? = some x) (hx : Loc X.env.scope x) (he : DN g X e ρ xs) (n : P.nx (ρ.set i (.own xs)) z) (hs : swapsWith e (some (.Name x pos')) pos.line X.env = pure false := by rfl)
    (hf : X.fn x = true ∨ X.env.scope.names.lookup x = some .local := by first | exact .inl rfl | exact .inr rfl | assumption) : DS S F0 H0 X (.Assign [.Name x pos'] e pos) ρ z P :=
  ds_newP (ps_set hN hi hx he hs hf) (fun _ _ _ h => h) n
theorem ds_ret (he : DE g X e ρ d) (n : P.rt d z) : DS S F0 H0 X (.Return (some e) pos) ρ z P :=
  PS.wk (ps_ret he) fun E σ H ⟨F, r, _, hr, _⟩ => ⟨F, r.e, fun v F2 H2 s iv => hr d z v F2 H2 n (r.r.step s) iv⟩
theorem ds_pass (n : P.nx ρ z) : DS S F0 H0 X (.Pass pos) ρ z P := PS.wk ps_pass fun E σ H ⟨F, r, hn, _⟩ => hn ρ z σ F H n r (Sub.refl F)
theorem ds_brk (n : P.bk ρ z) : DS S F0 H0 X (.Break pos) ρ z P := PS.wk ps_break fun E σ H ⟨F, r, _, _, hb, _⟩ => hb ρ z σ F H n r (Sub.refl F)
theorem ds_cnt (n : P.ct ρ z) : DS S F0 H0 X (.Continue pos) ρ z P := PS.wk ps_continue fun E σ H ⟨F, r, _, _, _, hc⟩ => hc ρ z σ F H n r (Sub.refl F)
/-- an expression alone -/
theorem ds_expr (he : DE g X e ρ d) (n : P.nx ρ z) (hs : swapsWith e none pos.line X.env = pure false := by rfl) : DS S F0 H0 X (.Expr e pos) ρ z P :=
  PS.wk (ps_expr he hs) fun E σ H ⟨F, r, hn, _⟩ => ⟨F, r.e, fun v F2 H2 s iv => hn ρ z σ F2 H2 n (r.step s) s.sub⟩
/-- if: the test's answer is known as a Bool b (perhaps open) -/
theorem ds_if {b : Bool} {u w : List Stmt} (hc : DT g X c ρ b) (h1 : b = true → DSs S F0 H0 X u ρ z P) (h2 : b = false → DSs S F0 H0 X w ρ z P) : DS S F0 H0 X (.If c u w pos) ρ z P := by
  have k1 : PSs X u (fun E σ H => b = true ∧ tS S F0 H0 ρ z P E σ H) := ⟨fun pins s σ H D I ⟨k, q⟩ => (h1 k).run pins s σ H D I q⟩
  have k2 : PSs X w (fun E σ H => b = false ∧ tS S F0 H0 ρ z P E σ H) := ⟨fun pins s σ H D I ⟨k, q⟩ => (h2 k).run pins s σ H D I q⟩
  exact PS.wk (ps_if hc k1 k2) fun E σ H ⟨F, r, q⟩ => ⟨F, r.e, fun F2 H2 s => by
    cases b with
    | true => exact (if_pos rfl).mpr ⟨rfl, tS_sub s.sub q (r.step s)⟩
    | false => exact (if_neg Bool.false_ne_true).mpr ⟨rfl, tS_sub s.sub q (r.step s)⟩⟩

/-! ### targets -/
def putD (ρ : Env) : List (Nat × D) → Env
  | [] => ρ
  | (j, d) :: r => putD (ρ.set j (.sh d)) r
def putV (σ : L2.St) : List Nat → List V → L2.St
  | j :: js, v :: vs => putV (σ.set j (some v)) js vs
  | _, _ => σ
theorem RepS.puts {F H : Hp} : ∀ {as : List (Nat × D)} {vs : List V} {ρ : Env} {σ : L2.St}, RepS S F0 H0 F H ρ z σ → All g F (as.map (·.2)) vs → RepS S F0 H0 F H (putD ρ as) z (putV σ (as.map (·.1)) vs)
  | [], _, _, _, r, _ => by
    show RepS S F0 H0 F H _ z (putV _ [] _)
    exact r
  | (j, d) :: as, vs, ρ, σ, r, h => by
    obtain ⟨v, ws, e, h1, h2⟩ := h
    subst e
    exact RepS.puts (as := as) (r.sh h1) h2
theorem RepE.puts {F H : Hp} : ∀ {as : List (Nat × D)} {vs : List V} {ρ : Env} {σ : L2.St}, RepE g F H ρ σ → All g F (as.map (·.2)) vs → RepE g F H (putD ρ as) (putV σ (as.map (·.1)) vs)
  | [], _, _, _, r, _ => by
    show RepE g F H _ (putV _ [] _)
    exact r
  | (j, d) :: as, vs, ρ, σ, r, h => by
    obtain ⟨v, ws, e, h1, h2⟩ := h
    subst e
    exact RepE.puts (as := as) (r.set ⟨v, rfl, h1⟩) h2
/-- the target takes a value that is d: the slots as get their data -/
def Tgt (g : Gx) (G : TG) (d : D) (as : List (Nat × D)) : Prop := ∀ F H v σ, Base g F H → Is g F d v → ∀ Q : L2.St → Hp → Prop, (∀ vs, All g F (as.map (·.2)) vs → Q (putV σ (as.map (·.1)) vs) H) → G v σ H Q
theorem tgt_name (j : Nat) (d : D) : Tgt g (gName j) d [(j, d)] := fun F H v σ b iv Q q => q [v] (.cons iv .nil)
theorem tgt_tup2 {K : PySem.W.Frag} (i j : Nat) (d1 d2 : D) : Tgt g (gTup K 2 (gCons (gName i) (gCons (gName j) gNil))) (.tup [d1, d2]) [(i, d1), (j, d2)] := fun F H v σ b iv Q q => by
  obtain ⟨a, vs, rfl, ha, v1, r1, rfl, i1, v2, r2, rfl, i2, rfl⟩ := iv
  exact ⟨a, _, rfl, SqT.of (b.sub _ _ ha), rfl, v1, _, rfl, v2, _, rfl, rfl, q [v1, v2] (.cons i1 (.cons i2 .nil))⟩
theorem tgt_tup3 {K : PySem.W.Frag} (i j k : Nat) (d1 d2 d3 : D) : Tgt g (gTup K 3 (gCons (gName i) (gCons (gName j) (gCons (gName k) gNil)))) (.tup [d1, d2, d3]) [(i, d1), (j, d2), (k, d3)] := fun F H v σ b iv Q q => by
  obtain ⟨a, vs, rfl, ha, v1, r1, rfl, i1, v2, r2, rfl, i2, v3, r3, rfl, i3, rfl⟩ := iv
  exact ⟨a, _, rfl, SqT.of (b.sub _ _ ha), rfl, v1, _, rfl, v2, _, rfl, v3, _, rfl, rfl, q [v1, v2, v3] (.cons i1 (.cons i2 (.cons i3 .nil)))⟩
/-- target = e -/
theorem ds_asg {tg : Expr} {G : TG} {as : List (Nat × D)} (he : DE g X e ρ d) (hg : PG X tg G) (ht : Tgt g G d as) (n : P.nx (putD ρ as) z) (hs : swapsWithSole [tg] e pos.line X.env = pure false := by rfl) (hw : swappedStores [tg] e X.env = pure none := by rfl)
    (ha : List.map (fun x => x.snd) (assignEach [tg] X.env) = [assign tg X.env] := by rfl) : DS S F0 H0 X (.Assign [tg] e pos) ρ z P :=
  PS.wk (ps_asg he hg hs hw ha) fun E σ H ⟨F, r, hn, _⟩ => ⟨F, r.e, fun v F2 H2 s iv => ht F2 H2 v σ s.base iv _ fun vs al => hn _ z _ F2 H2 n ((r.step s).puts al) s.sub⟩

/-! ### what is walked -/
def Gives (g : Gx) (J : It) (F : Hp) (ds : List D) : Prop := ∀ i F' H, Base g F' H → Sub F F' →
  (∀ d, ds[i]? = some d → J.go i H ∧ ∀ x H', J.yld i H x H' → ∃ F2, Step g F' H F2 H' ∧ Is g F2 d x) ∧ (i = ds.length → J.stop i H)
def tI (g : Gx) (ρ : Env) (ds : List D) : TI := fun σ H R => ∃ F, RepE g F H ρ σ ∧ ∀ F2 H2 J, Step g F H F2 H2 → Gives g J F2 ds → R J H2
abbrev DI (g : Gx) (X : Cx) (tg iter : Expr) (ρ : Env) (ds : List D) : Prop := PI X tg iter (tI g ρ ds)
theorem PI.wk {tg it : Expr} {t t' : TI} (h : PI X tg it t) (k : ∀ σ H R, t' σ H R → t σ H R) : PI X tg it t' := ⟨fun pins s σ H R I q => h.run pins s σ H R I (k σ H R q)⟩
theorem gives_list {K : PySem.W.Frag} {F : Hp} {a : Addr} {vs : List V} {ds : List D} (h : F a = some (.lst vs)) (al : All g F ds vs) : Gives g (Itl K a) F ds := fun i F' H b s => by
  have hq : SqL K H a vs := SqL.of (b.sub _ _ (s _ _ h))
  refine ⟨fun d hd => ?_, fun hl => ⟨vs, hq, by rw [al.len]; exact Nat.le_of_eq hl.symm⟩⟩
  obtain ⟨v, hv, iv⟩ := al.get hd
  refine ⟨⟨vs, v, hq, hv⟩, fun x H' hy => ?_⟩
  obtain ⟨e, f⟩ := hy
  have e2 := f vs hq
  rw [hv] at e2
  cases e2
  rw [e]
  exact ⟨F', Step.refl b, Is.mono s d v iv⟩
theorem gives_tup {K : PySem.W.Frag} {F : Hp} {a : Addr} {vs : List V} {ds : List D} (h : F a = some (.tup vs)) (al : All g F ds vs) : Gives g (Itt K a) F ds := fun i F' H b s => by
  have hq : SqT K H a vs := SqT.of (b.sub _ _ (s _ _ h))
  refine ⟨fun d hd => ?_, fun hl => ⟨vs, hq, by rw [al.len]; exact Nat.le_of_eq hl.symm⟩⟩
  obtain ⟨v, hv, iv⟩ := al.get hd
  refine ⟨⟨vs, v, hq, hv⟩, fun x H' hy => ?_⟩
  obtain ⟨e, f⟩ := hy
  have e2 := f vs hq
  rw [hv] at e2
  cases e2
  rw [e]
  exact ⟨F', Step.refl b, Is.mono s d v iv⟩
theorem di_list {tg l : Expr} {ds : List D} (h : DE g X l ρ (.lst ds)) : DI g X tg l ρ ds := PI.wk (pi_list h) fun σ H R ⟨F, r, q⟩ => ⟨F, r, fun v F2 H2 s iv => by
  obtain ⟨a, vs, rfl, ha, al⟩ := iv
  exact ⟨a, rfl, ⟨vs, SqL.of (s.base.sub _ _ ha)⟩, q F2 H2 _ s (gives_list ha al)⟩⟩
theorem di_tup {tg l : Expr} {ds : List D} (h : DE g X l ρ (.tup ds)) : DI g X tg l ρ ds := PI.wk (pi_tup h) fun σ H R ⟨F, r, q⟩ => ⟨F, r, fun v F2 H2 s iv => by
  obtain ⟨a, vs, rfl, ha, al⟩ := iv
  exact ⟨a, rfl, ⟨vs, SqT.of (s.base.sub _ _ ha)⟩, q F2 H2 _ s (gives_tup ha al)⟩⟩

/-! ### loops -/
/-- for: the items are data of ts; what holds ahead of each turn -/
theorem ds_for {α : Type} {tg iter : Expr} {body : List Stmt} {G : TG} {ts : List α} {mk : α → D} (as : α → List (Nat × D)) (hp : PassesOwn (model X.prog X.w) X.A X.env X.xe) (hc : X.calm = true) (hi : DI g X tg iter ρ (ts.map mk)) (hg : PG X tg G) (ht : ∀ t ∈ ts, Tgt g G (mk t) (as t))
    (I : Nat → Env → S.ζ → Prop) (h0 : I 0 ρ z) (hs : ∀ (k : Nat) (t : α) ρ' z', ts[k]? = some t → I k ρ' z' → DSs S F0 H0 X body (putD ρ' (as t)) z' { nx := I (k + 1), rt := P.rt, bk := P.nx, ct := I (k + 1) })
    (hd : ∀ ρ' z', I ts.length ρ' z' → P.nx ρ' z') (hf : ∀ x, foldedSetIterable iter X.env x = pure x := by intro _; rfl) : DS S F0 H0 X (.For tg iter body [] pos) ρ z P := by
  have hb : PSs X body (fun E σ H => ∃ (k : Nat) (t : α) (ρ' : Env) (z' : S.ζ), ts[k]? = some t ∧ I k ρ' z' ∧ tS S F0 H0 (putD ρ' (as t)) z' { nx := I (k + 1), rt := P.rt, bk := P.nx, ct := I (k + 1) } E σ H) :=
    ⟨fun pins s σ H D J ⟨k, t, ρ', z', h1, h2, h3⟩ => (hs k t ρ' z' h1 h2).run pins s σ H D J h3⟩
  refine PS.wk (ps_for hp hc hi hg hb hf) fun E σ H ⟨F, r, hn, hr, _⟩ => ⟨F, r.e, fun F2 H2 J s gv => ?_⟩
  refine ⟨fun i m σ' H' => m = ts.length - i ∧ i ≤ ts.length ∧ ∃ ρ' z' F', I i ρ' z' ∧ RepS S F0 H0 F' H' ρ' z' σ' ∧ Sub F2 F', ⟨_, rfl, Nat.zero_le _, ρ, z, F2, h0, r.step s, Sub.refl F2⟩, ?_⟩
  rintro i m σ' H' ⟨rfl, hil, ρ', z', F', hI, r', s'⟩
  obtain ⟨g1, g2⟩ := gv i F' H' r'.e.base s'
  by_cases hlt : i < ts.length
  · have hti : ts[i]? = some ts[i] := List.getElem?_eq_getElem hlt
    obtain ⟨ggo, gy⟩ := g1 (mk ts[i]) (by rw [List.getElem?_map, hti]; rfl)
    refine .inr ⟨ggo, fun σ2 H3 => ∃ ρ' z' F', I (i + 1) ρ' z' ∧ RepS S F0 H0 F' H3 ρ' z' σ2 ∧ Sub F2 F', fun σ2 H3 ⟨ρ2, z2, F3, k1, k2, k3⟩ => ⟨_, by omega, rfl, hlt, ρ2, z2, F3, k1, k2, k3⟩, fun x H3 hy => ?_⟩
    obtain ⟨F3, s3, ix⟩ := gy x H3 hy
    refine ht ts[i] (List.getElem_mem hlt) F3 H3 x σ' s3.base ix _ fun vs al => ?_
    exact ⟨i, ts[i], ρ', z', hti, hI, F3, (r'.step s3).puts al, fun ρ3 z3 σ3 F4 H4 k r4 s4 => ⟨ρ3, z3, F4, k, r4, (s'.trans s3.sub).trans s4⟩, hr, fun ρ3 z3 σ3 F4 H4 k r4 s4 => hn ρ3 z3 σ3 F4 H4 k r4 (((s.sub.trans s').trans s3.sub).trans s4),
      fun ρ3 z3 σ3 F4 H4 k r4 s4 => ⟨ρ3, z3, F4, k, r4, (s'.trans s3.sub).trans s4⟩⟩
  · have e : i = ts.length := by omega
    subst e
    exact .inl ⟨g2 (by rw [List.length_map]), hn ρ' z' σ' F' H' (hd ρ' z' hI) r' (s.sub.trans s')⟩
/-- while, by what holds ahead of each test and a measure -/
theorem ds_while {body : List Stmt} (hp : PassesOwn (model X.prog X.w) X.A X.env X.xe) (I : Env → S.ζ → Prop) (μ : Env → S.ζ → Nat) (h0 : I ρ z)
    (hs : ∀ ρ' z', I ρ' z' → ∃ b, DT g X c ρ' b ∧ (b = true → DSs S F0 H0 X body ρ' z' { nx := fun ρ2 z2 => I ρ2 z2 ∧ μ ρ2 z2 < μ ρ' z', rt := P.rt, bk := P.nx, ct := fun ρ2 z2 => I ρ2 z2 ∧ μ ρ2 z2 < μ ρ' z' }) ∧ (b = false → P.nx ρ' z')) :
    DS S F0 H0 X (.While c body [] pos) ρ z P := by
  have hc : PT X c (fun σ H Q => ∃ ρ' b, DT g X c ρ' b ∧ tT g ρ' b σ H Q) := ⟨fun pins s σ H Q J ⟨ρ', b, h1, h2⟩ => h1.run pins s σ H Q J h2⟩
  have hb : PSs X body (fun E σ H => ∃ (ρ' : Env) (z' : S.ζ) (P' : DEnds S.ζ), DSs S F0 H0 X body ρ' z' P' ∧ tS S F0 H0 ρ' z' P' E σ H) := ⟨fun pins s σ H D J ⟨ρ', z', P', h1, h2⟩ => h1.run pins s σ H D J h2⟩
  refine PS.wk (ps_while hp hc hb) fun E σ H ⟨F, r, hn, hr, _⟩ => ?_
  refine ⟨fun m σ' H' => ∃ ρ' z' F', I ρ' z' ∧ m = μ ρ' z' ∧ RepS S F0 H0 F' H' ρ' z' σ' ∧ Sub F F', ⟨_, ρ, z, F, h0, rfl, r, Sub.refl F⟩, ?_⟩
  rintro m σ' H' ⟨ρ', z', F', hI, rfl, r', s'⟩
  obtain ⟨b, ht, h1, h2⟩ := hs ρ' z' hI
  refine ⟨ρ', b, ht, F', r'.e, fun F2 H2 s => ?_⟩
  cases b with
  | true =>
    refine (if_pos rfl).mpr ⟨fun σ2 H3 => ∃ ρ2 z2 F3, (I ρ2 z2 ∧ μ ρ2 z2 < μ ρ' z') ∧ RepS S F0 H0 F3 H3 ρ2 z2 σ2 ∧ Sub F F3, fun σ2 H3 ⟨ρ2, z2, F3, ⟨k1, k2⟩, k3, k4⟩ => ⟨_, k2, ρ2, z2, F3, k1, rfl, k3, k4⟩, ?_⟩
    refine ⟨ρ', z', _, h1 rfl, F2, r'.step s, fun ρ3 z3 σ3 F4 H4 k r4 s4 => ⟨ρ3, z3, F4, k, r4, (s'.trans s.sub).trans s4⟩, hr, fun ρ3 z3 σ3 F4 H4 k r4 s4 => hn ρ3 z3 σ3 F4 H4 k r4 ((s'.trans s.sub).trans s4), fun ρ3 z3 σ3 F4 H4 k r4 s4 => ⟨ρ3, z3, F4, k, r4, (s'.trans s.sub).trans s4⟩⟩
  | false => exact (if_neg Bool.false_ne_true).mpr (hn ρ' z' σ' F2 H2 (h2 rfl) (r'.step s) (s'.trans s.sub))
end
end DL
end
section
/-! Data logic: expressions. -/
namespace DL
open PySem PySem.Spec PyProof.Rows L2
section
variable {g : Gx} {F H : Hp} {v : V}
theorem IsB.int {i : Int} (h : IsB g F H (.int i) v) : v = .int i := by
  rcases h with h | ⟨_, _, _, e, _⟩
  · exact h
  · cases e
theorem IsB.bl {i : Bool} (h : IsB g F H (.bl i) v) : v = .bl i := by
  rcases h with h | ⟨_, _, _, e, _⟩
  · exact h
  · cases e
theorem IsB.str {i : Str} (h : IsB g F H (.str i) v) : v = .str i := by
  rcases h with h | ⟨_, _, _, e, _⟩
  · exact h
  · cases e
theorem IsB.non (h : IsB g F H .non v) : v = .non := by
  rcases h with h | ⟨_, _, _, e, _⟩
  · exact h
  · cases e
theorem IsB.tup {xs : List D} (h : IsB g F H (.tup xs) v) : Is g F (.tup xs) v := by
  rcases h with h | ⟨_, _, _, e, _⟩
  · exact h
  · cases e
theorem IsB.fm {n : Int} {m e : D} (h : IsB g F H (.fm n m e) v) : Is g F (.fm n m e) v := by
  rcases h with h | ⟨_, _, _, e, _⟩
  · exact h
  · cases e
theorem All.at {xs : List D} {vs : List V} {i : Int} {d : D} (al : All g F xs vs) (h : atI xs i = some d) : ∃ v, atI vs i = some v ∧ Is g F d v := by
  unfold atI at h ⊢
  rw [al.len]
  cases e : ixN xs.length i with
  | none => rw [e] at h; cases h
  | some j =>
    rw [e] at h
    exact al.get h
end
section
variable {X : Cx} {g : Gx} {ρ : Env} {a b c e : Expr} {es : List Expr} {pos : Pos} {d d1 d2 d3 : D} {ds xs ys : List D} {r : R2}

/-! ### arguments -/
theorem da_nil : DA g X [] ρ [] := PA.wk pa_nil fun σ H Q ⟨F, rp, q⟩ => q [] F H (Step.refl rp.base) rfl
theorem da_cons (h : DE g X e ρ d) (k : DA g X es ρ ds) (hs : starEach (e :: es) X.env = (false, eval e X.env) :: starEach es X.env := by rfl) : DA g X (e :: es) ρ (d :: ds) :=
  PA.wk (pa_cons h k hs) fun σ H Q ⟨F, rp, q⟩ => ⟨F, rp, fun v F1 H1 s1 i1 => ⟨F1, rp.step s1, fun vs F2 H2 s2 al => q _ F2 H2 (s1.trans s2) (.cons (s2.is i1) al)⟩⟩
theorem dab_nil : DAB g X [] ρ [] := PA.wk pa_nil fun σ H Q ⟨F, rp, q⟩ => q [] F H (Step.refl rp.base) rfl
theorem dab_cons (h : DB g X e ρ d) (k : DAB g X es ρ ds) (hs : starEach (e :: es) X.env = (false, eval e X.env) :: starEach es X.env := by rfl) : DAB g X (e :: es) ρ (d :: ds) :=
  PA.wk (pa_cons h k hs) fun σ H Q ⟨F, rp, q⟩ => ⟨F, rp, fun v F1 H1 s1 i1 => ⟨F1, rp.step s1, fun vs F2 H2 s2 al => q _ F2 H2 (s1.trans s2) ⟨v, vs, rfl, i1.step s2, al⟩⟩⟩

/-! ### operators -/
theorem de_op {op : Operator} (ho : OpR X (binaryOp op) r) (ha : DB g X a ρ d1) (hb : DB g X b ρ d2) (hr : OpD g r d1 d2 d3) : DE g X (.BinOp a op b pos) ρ d3 := PE.wk (pe_op ho ha hb) fun σ H Q h => top_D (ta := tB g ρ d1) (tb := tB g ρ d2) hr h
theorem dn_op {op : Operator} (ho : OpR X (binaryOp op) r) (ha : DB g X a ρ d1) (hb : DB g X b ρ d2) (hr : OpN g r d1 d2 xs) : DN g X (.BinOp a op b pos) ρ xs := PE.wk (pe_op ho ha hb) fun σ H Q h => top_N hr h
theorem de_cmp {op : CmpOp} (ho : OpR X (compareOp op) r) (ha : DB g X a ρ d1) (hb : DB g X b ρ d2) (hr : OpD g r d1 d2 d3) (hm : behindInMarks op b = false) : DE g X (.Compare a [op] [b] pos) ρ d3 := PE.wk (pe_cmpR ho ha hb hm) fun σ H Q h => top_D (ta := tB g ρ d1) (tb := tB g ρ d2) hr h
theorem opd_I0 {f : Int → Int → V} {i j : Int} (h : ∀ F, Is g F d3 (f i j)) : OpD g (rI0 f) (.int i) (.int j) d3 := fun F H x y b h1 h2 Q q => ⟨i, j, h1.int, h2.int, q _ F H (Step.refl b) (h F)⟩
theorem opd_I {C : Int → Int → Prop} {f : Int → Int → V} {i j : Int} (hc : C i j) (h : ∀ F, Is g F d3 (f i j)) : OpD g (rI C f) (.int i) (.int j) d3 := fun F H x y b h1 h2 Q q => ⟨i, j, h1.int, h2.int, hc, q _ F H (Step.refl b) (h F)⟩
theorem de_add {i j : Int} (ha : DB g X a ρ (.int i)) (hb : DB g X b ρ (.int j)) : DE g X (.BinOp a .Add b pos) ρ (.int (i + j)) := de_op op_add ha hb (opd_I0 fun _ => rfl)
theorem de_sub {i j : Int} (ha : DB g X a ρ (.int i)) (hb : DB g X b ρ (.int j)) : DE g X (.BinOp a .Sub b pos) ρ (.int (i - j)) := de_op op_sub ha hb (opd_I0 fun _ => rfl)
theorem de_mul {i j : Int} (hc : CMul i j) (ha : DB g X a ρ (.int i)) (hb : DB g X b ρ (.int j)) : DE g X (.BinOp a .Mult b pos) ρ (.int (i * j)) := de_op op_mul ha hb (opd_I hc fun _ => rfl)
theorem de_mulW {i j : Int} (hc : CMulW i j) (ha : DB g X a ρ (.int i)) (hb : DB g X b ρ (.int j)) : DE g X (.BinOp a .Mult b pos) ρ (.int (i * j)) := de_op op_mulW ha hb (opd_I hc fun _ => rfl)
theorem de_fdiv {i j : Int} (hc : CDiv i j) (ha : DB g X a ρ (.int i)) (hb : DB g X b ρ (.int j)) : DE g X (.BinOp a .FloorDiv b pos) ρ (.int (i / j)) := de_op op_fdiv ha hb (opd_I hc fun _ => rfl)
theorem de_fdivW {i j : Int} (hc : CDivW i j) (ha : DB g X a ρ (.int i)) (hb : DB g X b ρ (.int j)) : DE g X (.BinOp a .FloorDiv b pos) ρ (.int (i / j)) := de_op op_fdivW ha hb (opd_I hc fun _ => rfl)
theorem de_mod {i j : Int} (hc : 0 < j) (ha : DB g X a ρ (.int i)) (hb : DB g X b ρ (.int j)) : DE g X (.BinOp a .Mod b pos) ρ (.int (i % j)) := de_op op_mod ha hb (opd_I hc fun _ => rfl)
theorem de_modN {i j : Int} (hc : j ≠ 0) (ha : DB g X a ρ (.int i)) (hb : DB g X b ρ (.int j)) : DE g X (.BinOp a .Mod b pos) ρ (.int (i.fmod j)) := de_op op_modN ha hb (opd_I hc fun _ => rfl)
theorem de_fdivN {i j : Int} (hc : CDivN i j) (ha : DB g X a ρ (.int i)) (hb : DB g X b ρ (.int j)) : DE g X (.BinOp a .FloorDiv b pos) ρ (.int (i.fdiv j)) := de_op op_fdivN ha hb (opd_I hc fun _ => rfl)
theorem de_pow {i j : Int} (hc : CPow i j) (ha : DB g X a ρ (.int i)) (hb : DB g X b ρ (.int j)) : DE g X (.BinOp a .Pow b pos) ρ (.int (i ^ j.toNat)) := de_op op_pow ha hb (opd_I hc fun _ => rfl)
theorem de_neg {i : Int} (ha : DB g X a ρ (.int i)) : DE g X (.UnaryOp .USub a pos) ρ (.int (-i)) := PE.wk (pe_un un_neg ha) fun σ H Q ⟨F, rp, q⟩ => ⟨F, rp, fun v F2 H2 s iv => ⟨i, iv.int, q _ F2 H2 s rfl⟩⟩

/-! ### comparisons -/
theorem de_lt {i j : Int} (ha : DB g X a ρ (.int i)) (hb : DB g X b ρ (.int j)) : DE g X (.Compare a [.Lt] [b] pos) ρ (.bl (decide (i < j))) := de_cmp op_lt ha hb (opd_I0 fun _ => rfl) (nomark _)
theorem de_le {i j : Int} (ha : DB g X a ρ (.int i)) (hb : DB g X b ρ (.int j)) : DE g X (.Compare a [.LtE] [b] pos) ρ (.bl (decide (i ≤ j))) := de_cmp op_le ha hb (opd_I0 fun _ => rfl) (nomark _)
theorem de_gt {i j : Int} (ha : DB g X a ρ (.int i)) (hb : DB g X b ρ (.int j)) : DE g X (.Compare a [.Gt] [b] pos) ρ (.bl (decide (j < i))) := de_cmp op_gt ha hb (opd_I0 fun _ => rfl) (nomark _)
theorem de_ge {i j : Int} (ha : DB g X a ρ (.int i)) (hb : DB g X b ρ (.int j)) : DE g X (.Compare a [.GtE] [b] pos) ρ (.bl (decide (j ≤ i))) := de_cmp op_ge ha hb (opd_I0 fun _ => rfl) (nomark _)
theorem opd_eqI {i j : Int} : OpD g rEq (.int i) (.int j) (.bl (decide (i = j))) := fun F H x y b h1 h2 Q q => by
  cases h1.int
  cases h2.int
  refine ⟨rfl, q _ F H (Step.refl b) ?_⟩
  show V.bl _ = V.bl _
  rw [dec_int]
  congr 1
theorem opd_neI {i j : Int} : OpD g rNe (.int i) (.int j) (.bl (!decide (i = j))) := fun F H x y b h1 h2 Q q => by
  cases h1.int
  cases h2.int
  refine ⟨rfl, q _ F H (Step.refl b) ?_⟩
  show V.bl _ = V.bl _
  rw [dec_int]
  congr 2
theorem opd_eqS {i j : Str} : OpD g rEq (.str i) (.str j) (.bl (decide (i = j))) := fun F H x y b h1 h2 Q q => by
  cases h1.str
  cases h2.str
  refine ⟨rfl, q _ F H (Step.refl b) ?_⟩
  show V.bl _ = V.bl _
  congr 1
  by_cases h : i = j <;> simp [h]
theorem opd_neS {i j : Str} : OpD g rNe (.str i) (.str j) (.bl (!decide (i = j))) := fun F H x y b h1 h2 Q q => by
  cases h1.str
  cases h2.str
  refine ⟨rfl, q _ F H (Step.refl b) ?_⟩
  show V.bl _ = V.bl _
  congr 2
  by_cases h : i = j <;> simp [h]
theorem opd_eqB {i j : Bool} : OpD g rEq (.bl i) (.bl j) (.bl (decide (i = j))) := fun F H x y b h1 h2 Q q => by
  cases h1.bl
  cases h2.bl
  refine ⟨rfl, q _ F H (Step.refl b) ?_⟩
  show V.bl _ = V.bl _
  congr 1
  by_cases h : i = j <;> simp [h]
theorem opd_neB {i j : Bool} : OpD g rNe (.bl i) (.bl j) (.bl (!decide (i = j))) := fun F H x y b h1 h2 Q q => by
  cases h1.bl
  cases h2.bl
  refine ⟨rfl, q _ F H (Step.refl b) ?_⟩
  show V.bl _ = V.bl _
  congr 2
  by_cases h : i = j <;> simp [h]
theorem de_eqI {i j : Int} (ha : DB g X a ρ (.int i)) (hb : DB g X b ρ (.int j)) : DE g X (.Compare a [.Eq] [b] pos) ρ (.bl (decide (i = j))) := de_cmp op_eq ha hb opd_eqI (nomark _)
theorem de_neI {i j : Int} (ha : DB g X a ρ (.int i)) (hb : DB g X b ρ (.int j)) : DE g X (.Compare a [.NotEq] [b] pos) ρ (.bl (!decide (i = j))) := de_cmp op_ne ha hb opd_neI (nomark _)
theorem de_eqS {i j : Str} (ha : DB g X a ρ (.str i)) (hb : DB g X b ρ (.str j)) : DE g X (.Compare a [.Eq] [b] pos) ρ (.bl (decide (i = j))) := de_cmp op_eq ha hb opd_eqS (nomark _)
theorem de_neS {i j : Str} (ha : DB g X a ρ (.str i)) (hb : DB g X b ρ (.str j)) : DE g X (.Compare a [.NotEq] [b] pos) ρ (.bl (!decide (i = j))) := de_cmp op_ne ha hb opd_neS (nomark _)
theorem de_eqB {i j : Bool} (ha : DB g X a ρ (.bl i)) (hb : DB g X b ρ (.bl j)) : DE g X (.Compare a [.Eq] [b] pos) ρ (.bl (decide (i = j))) := de_cmp op_eq ha hb opd_eqB (nomark _)
theorem de_neB {i j : Bool} (ha : DB g X a ρ (.bl i)) (hb : DB g X b ρ (.bl j)) : DE g X (.Compare a [.NotEq] [b] pos) ρ (.bl (!decide (i = j))) := de_cmp op_ne ha hb opd_neB (nomark _)
/-- is None of a value whose kind is known -/
def isNon : D → Bool
  | .non => true
  | _ => false
theorem isB_non {F H : Hp} {v : V} (h : IsB g F H d v) : decide (v = .non) = isNon d := by
  rcases h with h | ⟨_, _, _, rfl, rfl, _⟩
  · cases d with
    | non => have e : v = .non := h; rw [e]; rfl
    | bl b => have e : v = .bl b := h; rw [e]; rfl
    | int b => have e : v = .int b := h; rw [e]; rfl
    | str b => have e : v = .str b := h; rw [e]; rfl
    | tup xs => obtain ⟨_, _, e, _⟩ := h; rw [e]; rfl
    | lst xs => obtain ⟨_, _, e, _⟩ := h; rw [e]; rfl
    | fm n m e => obtain ⟨_, _, _, _, _, e, _⟩ := h; rw [e]; rfl
  · rfl
theorem de_isN {j : Nat} {pos' : Pos} (ha : DB g X a ρ d) : DE g X (.Compare a [.Is] [.Constant .none j pos'] pos) ρ (.bl (isNon d)) :=
  PE.wk (pe_cmp (pc_isN ha) rfl) fun σ H Q ⟨F, rp, q⟩ => ⟨F, rp, fun v F2 H2 s iv => by
    show Q (.bl (decide (v = .non))) H2
    rw [isB_non iv]
    exact q _ F2 H2 s rfl⟩
theorem de_notN {j : Nat} {pos' : Pos} (ha : DB g X a ρ d) : DE g X (.Compare a [.IsNot] [.Constant .none j pos'] pos) ρ (.bl (!isNon d)) :=
  PE.wk (pe_cmp (pc_notN ha) rfl) fun σ H Q ⟨F, rp, q⟩ => ⟨F, rp, fun v F2 H2 s iv => by
    show Q (.bl (!decide (v = .non))) H2
    rw [isB_non iv]
    exact q _ F2 H2 s rfl⟩

/-! ### == of data -/
mutual
def toP : D → PyData
  | .non => .none
  | .bl b => .bool b
  | .int i => .int i
  | .str s => .str s
  | .tup xs => .tuple (toPs xs)
  | .lst xs => .list (toPs xs)
  | .fm _ _ _ => .none
def toPs : List D → List PyData
  | [] => []
  | d :: ds => toP d :: toPs ds
end
mutual
def noF : D → Bool
  | .fm _ _ _ => false
  | .tup xs => noFs xs
  | .lst xs => noFs xs
  | _ => true
def noFs : List D → Bool
  | [] => true
  | d :: ds => noF d && noFs ds
end
mutual
theorem dp_of {K : PySem.W.Frag} {H : Hp} : ∀ {d : D} {v : V}, Is g H d v → noF d = true → Dp K H v (toP d)
  | .non, v, h, _ => by
    have e : v = .non := h
    rw [e, toP]
    exact .non
  | .bl b, v, h, _ => by
    have e : v = .bl b := h
    rw [e, toP]
    exact .bl b
  | .int b, v, h, _ => by
    have e : v = .int b := h
    rw [e, toP]
    exact .int b
  | .str b, v, h, _ => by
    have e : v = .str b := h
    rw [e, toP]
    exact .str b
  | .tup xs, v, h, n => by
    obtain ⟨a, vs, e, h1, h2⟩ := h
    rw [e, toP]
    exact .tup (SqT.of h1) (dps_of h2 (by simpa [noF] using n))
  | .lst xs, v, h, n => by
    obtain ⟨a, vs, e, h1, h2⟩ := h
    rw [e, toP]
    exact .lst (SqL.of h1) (dps_of h2 (by simpa [noF] using n))
  | .fm _ _ _, v, h, n => by simp [noF] at n
theorem dps_of {K : PySem.W.Frag} {H : Hp} : ∀ {ds : List D} {vs : List V}, All g H ds vs → noFs ds = true → DpAll K H vs (toPs ds)
  | [], vs, h, _ => by
    have e : vs = [] := h
    rw [e, toPs]
    exact .nil
  | d :: ds, vs, h, n => by
    obtain ⟨v, r, e, h1, h2⟩ := h
    rw [noFs, Bool.and_eq_true] at n
    rw [e, toPs]
    exact .cons (dp_of h1 n.1) (dps_of h2 n.2)
end
/-- what == asks of data, and its answer -/
structure EqOk (d1 d2 : D) (b : Bool) : Prop where
  n1 : noF d1 = true
  n2 : noF d2 = true
  s1 : SeqAt.shaped (toP d1) = true
  s2 : SeqAt.shaped (toP d2) = true
  eq : PyData.eqv (toP d1) (toP d2) = b
theorem opd_eqD {K : PySem.W.Frag} {k : Bool} (h : EqOk d1 d2 k) : OpD g (rEqD K) d1 d2 (.bl k) := fun F H x y b h1 h2 Q q =>
  ⟨toP d1, toP d2, dp_of (h1.is b.sub) h.n1, dp_of (h2.is b.sub) h.n2, h.s1, h.s2, q _ F H (Step.refl b) (congrArg V.bl h.eq)⟩
theorem opd_neD {K : PySem.W.Frag} {k : Bool} (h : EqOk d1 d2 k) : OpD g (rNeD K) d1 d2 (.bl (!k)) := fun F H x y b h1 h2 Q q =>
  ⟨toP d1, toP d2, dp_of (h1.is b.sub) h.n1, dp_of (h2.is b.sub) h.n2, h.s1, h.s2, q _ F H (Step.refl b) (by show V.bl _ = V.bl _; rw [h.eq])⟩
theorem de_eqD {k : Bool} (hu : X.A.units + 64 < cLine) (h : EqOk d1 d2 k) (ha : DB g X a ρ d1) (hb : DB g X b ρ d2) : DE g X (.Compare a [.Eq] [b] pos) ρ (.bl k) := de_cmp (op_eqD hu) ha hb (opd_eqD h) (nomark _)
theorem de_neD {k : Bool} (hu : X.A.units + 64 < cLine) (h : EqOk d1 d2 k) (ha : DB g X a ρ d1) (hb : DB g X b ρ d2) : DE g X (.Compare a [.NotEq] [b] pos) ρ (.bl (!k)) := de_cmp (op_neD hu) ha hb (opd_neD h) (nomark _)
theorem ints_ok : ∀ ns : List Int, noFs (ns.map D.int) = true ∧ PyData.canLayAll0 (toPs (ns.map D.int)) = true ∧ PyData.depthAll (toPs (ns.map D.int)) = 0
  | [] => ⟨rfl, rfl, rfl⟩
  | n :: ns => by
    obtain ⟨h1, h2, h3⟩ := ints_ok ns
    refine ⟨by simp [noFs, noF, h1], by simp [toPs, toP, PyData.canLayAll0, PyData.canLay0, h2], by simp [toPs, toP, PyData.depthAll, PyData.depth, h3]⟩
theorem ints_eqv : ∀ ns ms : List Int, PyData.eqvAll (toPs (ns.map D.int)) (toPs (ms.map D.int)) = decide (ns = ms)
  | [], [] => by simp [toPs, PyData.eqvAll]
  | [], _ :: _ => by simp [toPs, PyData.eqvAll]
  | _ :: _, [] => by simp [toPs, PyData.eqvAll]
  | n :: ns, m :: ms => by
    have ih := ints_eqv ns ms
    simp only [List.map_cons, toPs, toP, PyData.eqvAll, PyData.eqv, ih, List.cons.injEq]
    by_cases h : n = m <;> simp [h]
theorem eqok_lst {ns ms : List Int} : EqOk (.lst (ns.map D.int)) (.lst (ms.map D.int)) (decide (ns = ms)) := by
  obtain ⟨a1, a2, a3⟩ := ints_ok ns
  obtain ⟨b1, b2, b3⟩ := ints_ok ms
  refine ⟨by simp [noF, a1], by simp [noF, b1], by simp [SeqAt.shaped, toP, PyData.canLay0, PyData.depth, a2, a3], by simp [SeqAt.shaped, toP, PyData.canLay0, PyData.depth, b2, b3], by simp only [toP, PyData.eqv, ints_eqv]⟩
theorem eqok_tup {ns ms : List Int} : EqOk (.tup (ns.map D.int)) (.tup (ms.map D.int)) (decide (ns = ms)) := by
  obtain ⟨a1, a2, a3⟩ := ints_ok ns
  obtain ⟨b1, b2, b3⟩ := ints_ok ms
  refine ⟨by simp [noF, a1], by simp [noF, b1], by simp [SeqAt.shaped, toP, PyData.canLay0, PyData.depth, a2, a3], by simp [SeqAt.shaped, toP, PyData.canLay0, PyData.depth, b2, b3], by simp only [toP, PyData.eqv, ints_eqv]⟩
/-- a rule: its firsts, its factors -/
abbrev rl (r : List Int × List Int) : D := .tup [.tup (r.1.map D.int), .tup (r.2.map D.int)]
theorem eqok_rl {p q : List Int × List Int} : EqOk (rl p) (rl q) (decide (p = q)) := by
  obtain ⟨p1, p2⟩ := p
  obtain ⟨q1, q2⟩ := q
  obtain ⟨a1, a2, a3⟩ := ints_ok p1
  obtain ⟨b1, b2, b3⟩ := ints_ok q1
  obtain ⟨c1, c2, c3⟩ := ints_ok p2
  obtain ⟨e1, e2, e3⟩ := ints_ok q2
  refine ⟨by simp [noF, noFs, a1, c1], by simp [noF, noFs, b1, e1], by simp [SeqAt.shaped, toP, toPs, PyData.canLay0, PyData.canLayAll0, PyData.depth, PyData.depthAll, a2, a3, c2, c3], by simp [SeqAt.shaped, toP, toPs, PyData.canLay0, PyData.canLayAll0, PyData.depth, PyData.depthAll, b2, b3, e2, e3], ?_⟩
  simp only [toP, toPs, PyData.eqv, PyData.eqvAll, ints_eqv, Prod.mk.injEq, Bool.and_true]
  by_cases h1 : p1 = q1 <;> by_cases h2 : p2 = q2 <;> simp [h1, h2]

/-! ### in -/
theorem inV_ints (n : Int) : ∀ ns : List Int, inV (.int n) (ns.map V.int) = decide (n ∈ ns)
  | [] => by simp [inV]
  | m :: ns => by
    have ih := inV_ints n ns
    unfold inV at ih ⊢
    rw [List.map_cons, List.any_cons, ih]
    by_cases h : m = n
    · simp [eqV, h]
    · have h' : ¬ n = m := fun e => h e.symm
      simp [eqV, h, h']
theorem flat_ints (ns : List Int) : (ns.map V.int).all flatV = true := by
  rw [List.all_eq_true]
  intro x hx
  obtain ⟨n, _, rfl⟩ := List.mem_map.mp hx
  rfl
theorem opd_inL {K : PySem.W.Frag} {n : Int} {ns : List Int} {neg : Bool} : OpD g (rIn K neg) (.int n) (.lst (ns.map D.int)) (.bl (if neg then !decide (n ∈ ns) else decide (n ∈ ns))) := fun F H x y b h1 h2 Q q => by
  cases h1.int
  obtain ⟨a, vs, rfl, ha, al⟩ := h2.lst b.sub
  cases al.ints
  refine ⟨a, _, rfl, .inl (SqL.of ha), rfl, flat_ints ns, ?_⟩
  rw [inV_ints]
  exact q _ F H (Step.refl b) rfl
theorem opd_inT {K : PySem.W.Frag} {n : Int} {ns : List Int} {neg : Bool} : OpD g (rIn K neg) (.int n) (.tup (ns.map D.int)) (.bl (if neg then !decide (n ∈ ns) else decide (n ∈ ns))) := fun F H x y b h1 h2 Q q => by
  cases h1.int
  obtain ⟨a, vs, rfl, ha, al⟩ := h2.tup
  cases al.ints
  refine ⟨a, _, rfl, .inr (SqT.of (b.sub _ _ ha)), rfl, flat_ints ns, ?_⟩
  rw [inV_ints]
  exact q _ F H (Step.refl b) rfl
theorem de_inL {n : Int} {ns : List Int} (ha : DB g X a ρ (.int n)) (hb : DB g X b ρ (.lst (ns.map D.int))) (hm : behindInMarks .In b = false := by with_unfolding_all rfl) : DE g X (.Compare a [.In] [b] pos) ρ (.bl (decide (n ∈ ns))) := de_cmp op_in_seq ha hb opd_inL hm
theorem de_inT {n : Int} {ns : List Int} (ha : DB g X a ρ (.int n)) (hb : DB g X b ρ (.tup (ns.map D.int))) (hm : behindInMarks .In b = false := by with_unfolding_all rfl) : DE g X (.Compare a [.In] [b] pos) ρ (.bl (decide (n ∈ ns))) := de_cmp op_in_seq ha hb opd_inT hm
theorem de_niL {n : Int} {ns : List Int} (ha : DB g X a ρ (.int n)) (hb : DB g X b ρ (.lst (ns.map D.int))) (hm : behindInMarks .NotIn b = false := by with_unfolding_all rfl) : DE g X (.Compare a [.NotIn] [b] pos) ρ (.bl (!decide (n ∈ ns))) := de_cmp op_notIn_seq ha hb opd_inL hm

/-! ### subscripts, slices -/
theorem opd_ixL {K : PySem.W.Frag} {i : Int} (h : atI xs i = some d) : OpD g (rIxL K) (.lst xs) (.int i) d := fun F H x y b h1 h2 Q q => by
  obtain ⟨a, vs, rfl, ha, al⟩ := h1.lst b.sub
  cases h2.int
  obtain ⟨v, hv, iv⟩ := al.at h
  exact ⟨a, vs, i, v, rfl, rfl, SqL.of ha, hv, q v F H (Step.refl b) iv⟩
theorem opd_ixT {K : PySem.W.Frag} {i : Int} (h : atI xs i = some d) : OpD g (rIxT K) (.tup xs) (.int i) d := fun F H x y b h1 h2 Q q => by
  obtain ⟨a, vs, rfl, ha, al⟩ := h1.tup
  cases h2.int
  obtain ⟨v, hv, iv⟩ := al.at h
  exact ⟨a, vs, i, v, rfl, rfl, SqT.of (b.sub _ _ ha), hv, q v F H (Step.refl b) iv⟩
theorem de_ixL {i : Int} (h : atI xs i = some d) (ha : DB g X a ρ (.lst xs)) (hb : DB g X b ρ (.int i)) (hs : PlainIx b := by intro _ _; rfl) : DE g X (.Subscript a b pos) ρ d := PE.wk (pe_ix ix_list ha hb hs) fun σ H Q q => top_D (ta := tB g ρ (.lst xs)) (tb := tB g ρ (.int i)) (opd_ixL h) q
theorem de_ixT {i : Int} (h : atI xs i = some d) (ha : DB g X a ρ (.tup xs)) (hb : DB g X b ρ (.int i)) (hs : PlainIx b := by intro _ _; rfl) : DE g X (.Subscript a b pos) ρ d := PE.wk (pe_ix ix_tup ha hb hs) fun σ H Q q => top_D (ta := tB g ρ (.tup xs)) (tb := tB g ρ (.int i)) (opd_ixT h) q
def tO (g : Gx) (ρ : Env) (o : Option Int) : TO := fun σ H Q => ∃ F, RepE g F H ρ σ ∧ ∀ F2 H2, Step g F H F2 H2 → Q o H2
abbrev DO (g : Gx) (X : Cx) (e : Option Expr) (ρ : Env) (o : Option Int) : Prop := PO X e (tO g ρ o)
theorem do_none : DO g X none ρ none := ⟨fun pins s σ H Q I ⟨F, rp, q⟩ => po_none.run pins s σ H Q I (q F H (Step.refl rp.base))⟩
theorem do_some {i : Int} (h : DB g X e ρ (.int i)) : DO g X (some e) ρ (some i) := ⟨fun pins s σ H Q I ⟨F, rp, q⟩ => (po_some h).run pins s σ H Q I ⟨F, rp, fun v F2 H2 s iv => ⟨i, iv.int, q F2 H2 s⟩⟩⟩
def cutD {α : Type} (xs : List α) (lo hi : Option Int) : List α := (xs.drop (HT.sIx xs.length 0 lo)).take (HT.sIx xs.length xs.length hi - HT.sIx xs.length 0 lo)
theorem All.cut {F : Hp} {vs : List V} (lo hi : Option Int) (al : All g F xs vs) : All g F (cutD xs lo hi) (cutV vs lo hi) := by
  unfold cutD cutV
  rw [al.len]
  exact (al.drop _).take _
theorem dn_slL {lo hi : Option Expr} {p2 : Pos} {o1 o2 : Option Int} (ha : DB g X e ρ (.lst xs)) (h1 : DO g X lo ρ o1) (h2 : DO g X hi ρ o2) : DN g X (.Subscript e (.Slice lo hi none p2) pos) ρ (cutD xs o1 o2) :=
  PE.wk (pe_slice sl_list ha h1 h2) fun σ H Q ⟨F, rp, q⟩ => ⟨F, rp, fun v F1 H1 s1 i1 => ⟨F1, rp.step s1, fun F2 H2 s2 => ⟨F2, (rp.step s1).step s2, fun F3 H3 s3 => by
    obtain ⟨a, vs, rfl, hv, al⟩ := ((i1.step s2).step s3).lst s3.base.sub
    refine ⟨a, vs, rfl, SqL.of hv, fun p hp => ?_⟩
    have st := Step.alloc0 (o := .lst (cutV vs o1 o2)) s3.base hp
    exact q p _ _ _ (((s1.trans s2).trans s3).trans st) (s1.dom p (s2.dom p (s3.dom p hp))) (frozen_free s3.base hp) upd_same (al.cut o1 o2)⟩⟩⟩
theorem de_slT {lo hi : Option Expr} {p2 : Pos} {o1 o2 : Option Int} (ha : DE g X e ρ (.tup xs)) (h1 : DO g X lo ρ o1) (h2 : DO g X hi ρ o2) : DE g X (.Subscript e (.Slice lo hi none p2) pos) ρ (.tup (cutD xs o1 o2)) :=
  PE.wk (pe_slice sl_tupA ha h1 h2) fun σ H Q ⟨F, rp, q⟩ => ⟨F, rp, fun v F1 H1 s1 i1 => ⟨F1, rp.step s1, fun F2 H2 s2 => ⟨F2, (rp.step s1).step s2, fun F3 H3 s3 => by
    obtain ⟨a, vs, rfl, hv, al⟩ := s3.is (s2.is i1)
    refine ⟨a, vs, rfl, SqT.of (s3.base.sub _ _ hv), fun hw => ?_, fun _ p hp => ?_⟩
    · refine q (.ref a) F3 H3 ((s1.trans s2).trans s3) ⟨a, vs, rfl, hv, ?_⟩
      have hl := al.len
      rw [hl] at hw
      have e : cutD xs o1 o2 = xs := by
        unfold cutD
        rw [hw.1, hw.2, List.drop_zero, Nat.sub_zero, List.take_length]
      rw [e]
      exact al
    · have st := Step.alloc (o := .tup (cutV vs o1 o2)) s3.base hp (fun ps z => by cases z)
      exact q (.ref p) _ _ (((s1.trans s2).trans s3).trans st) ⟨p, _, rfl, upd_same, st.all (al.cut o1 o2)⟩⟩⟩⟩
theorem dn_rev {k : Nat} {p1 p2 p3 : Pos} (ha : DB g X e ρ (.lst xs)) : DN g X (.Subscript e (.Slice none none (some (.UnaryOp .USub (.Constant (.int 1) k p1) p2)) p3) pos) ρ xs.reverse :=
  PE.wk (pe_revL ha) fun σ H Q ⟨F, rp, q⟩ => ⟨F, rp, fun v F1 H1 s1 i1 => by
    obtain ⟨a, vs, rfl, hv, al⟩ := i1.lst s1.base.sub
    refine ⟨a, vs, rfl, SqL.of hv, fun p hp => ?_⟩
    have st := Step.alloc0 (o := .lst vs.reverse) s1.base hp
    exact q p _ _ _ (s1.trans st) (s1.dom p hp) (frozen_free s1.base hp) upd_same al.rev⟩

/-! ### displays -/
theorem de_tup {k : Nat} (h : DA g X es ρ ds) (hl : ds.length ≤ 1000) : DE g X (.Tuple es k pos) ρ (.tup ds) := PE.wk (pe_tup h) fun σ H Q ⟨F, rp, q⟩ => ⟨F, rp, fun vs F1 H1 s1 al => ⟨Nat.le_of_lt (small1000 (by rw [al.len]; exact hl)), fun p hp => by
  have st := Step.alloc (o := .tup vs) s1.base hp (fun ps z => by cases z)
  exact q (.ref p) _ _ (s1.trans st) ⟨p, vs, rfl, upd_same, st.all al⟩⟩⟩
theorem dn_lst (h : DA g X es ρ ds) (hl : ds.length ≤ 1000) : DN g X (.List es pos) ρ ds := PE.wk (pe_lst h) fun σ H Q ⟨F, rp, q⟩ => ⟨F, rp, fun vs F1 H1 s1 al => ⟨Nat.le_of_lt (small1000 (by rw [al.len]; exact hl)), fun p hp => by
  have st := Step.alloc0 (o := .lst vs) s1.base hp
  exact q p vs _ _ (s1.trans st) (s1.dom p hp) (frozen_free s1.base hp) upd_same al⟩⟩
/-- e, *rest in a list display -/
theorem da_star {p : Pos} (h : DB g X e ρ (.lst xs)) (k : DA g X es ρ ds) (hs : starEach (.Starred e p :: es) X.env = (true, eval e X.env) :: starEach es X.env := by rfl) : DA g X (.Starred e p :: es) ρ (xs ++ ds) :=
  PA.wk (StX.pa_star h k hs) fun σ H Q ⟨F, rp, q⟩ => ⟨F, rp, fun v F1 H1 s1 i1 => by
    obtain ⟨a, vs, rfl, hv, al⟩ := i1.lst s1.base.sub
    exact ⟨a, vs, rfl, .inr (SqL.of hv), F1, rp.step s1, fun ws F2 H2 s2 al2 => q _ F2 H2 (s1.trans s2) ((s2.all al).app al2)⟩⟩

/-! ### list + list, list * int -/
theorem opn_cat (hl : xs.length + ys.length ≤ 1000) : OpN g rCat (.lst xs) (.lst ys) (xs ++ ys) := fun F H x y b h1 h2 Q q => by
  obtain ⟨a, vs, rfl, ha, al⟩ := h1.lst b.sub
  obtain ⟨a2, ws, rfl, ha2, al2⟩ := h2.lst b.sub
  refine ⟨a, a2, vs, ws, rfl, rfl, ha, ha2, Nat.le_of_lt (small1000 (by rw [al.len, al2.len]; exact hl)), fun p hp => ?_⟩
  exact q p _ _ _ (Step.alloc0 b hp) hp (frozen_free b hp) upd_same (al.app al2)
theorem dn_cat (hl : xs.length + ys.length ≤ 1000) (ha : DB g X a ρ (.lst xs)) (hb : DB g X b ρ (.lst ys)) : DN g X (.BinOp a .Add b pos) ρ (xs ++ ys) := dn_op op_cat ha hb (opn_cat hl)
theorem All.rep {F : Hp} {vs : List V} (al : All g F xs vs) : ∀ n : Nat, All g F (List.replicate n xs).flatten (List.replicate n vs).flatten
  | 0 => rfl
  | n + 1 => by
    rw [List.replicate_succ, List.replicate_succ, List.flatten_cons, List.flatten_cons]
    exact al.app (All.rep al n)
theorem opn_rep {k : Int} (h1 : -1000 ≤ k) (h2 : k ≤ 1000) (hl : xs.length * k.toNat ≤ 1000) : OpN g rRep (.lst xs) (.int k) (List.replicate k.toNat xs).flatten := fun F H x y b i1 i2 Q q => by
  obtain ⟨a, vs, rfl, ha, al⟩ := i1.lst b.sub
  cases i2.int
  refine ⟨a, k, vs, rfl, rfl, ha, by omega, by omega, Nat.le_of_lt (small1000 (by rw [al.len]; exact hl)), fun p hp => ?_⟩
  exact q p _ _ _ (Step.alloc0 b hp) hp (frozen_free b hp) upd_same (al.rep _)
theorem dn_rep {k : Int} (h1 : -1000 ≤ k) (h2 : k ≤ 1000) (hl : xs.length * k.toNat ≤ 1000) (ha : DB g X a ρ (.lst xs)) (hb : DB g X b ρ (.int k)) : DN g X (.BinOp a .Mult b pos) ρ (List.replicate k.toNat xs).flatten := dn_op op_rep ha hb (opn_rep h1 h2 hl)

/-! ### truth values -/
theorem dt_e {k : Bool} (h : DE g X e ρ (.bl k)) (he : ∀ whole, PySem.isTrue e X.env whole = (do let v ← whole; standAt e.pos; holding [v] (truthy v)) := by intro _; rfl) : DT g X e ρ k :=
  PT.wk (pt_val h he) fun σ H Q ⟨F, rp, q⟩ => ⟨F, rp, fun v F2 H2 s iv => ⟨k, iv, q F2 H2 s⟩⟩
theorem dt_not {k : Bool} (h : DT g X a ρ k) : DT g X (.UnaryOp .Not a pos) ρ (!k) := PT.wk (pt_not h) fun σ H Q ⟨F, rp, q⟩ => ⟨F, rp, fun F2 H2 s => q F2 H2 s⟩
/-- and, or as tests -/
abbrev DW (g : Gx) (X : Cx) (e : Expr) (ρ : Env) (b : Bool) : Prop := PW X e (tT g ρ b)
theorem DW.t {k : Bool} (h : DW g X e ρ k) : DT g X e ρ k := PW.pt h
theorem dw_and1 {k : Bool} (h : DT g X a ρ k) : DW g X (.BoolOp .And [a] pos) ρ k := pw_and1 h
theorem dw_or1 {k : Bool} (h : DT g X a ρ k) : DW g X (.BoolOp .Or [a] pos) ρ k := pw_or1 h
theorem dw_and {k j : Bool} (h : DT g X a ρ k) (h2 : k = true → DW g X (.BoolOp .And (b :: es) pos) ρ j) : DW g X (.BoolOp .And (a :: b :: es) pos) ρ (k && j) := by
  cases k with
  | true =>
    have w := pw_and h (h2 rfl)
    exact ⟨fun whole pins s σ H Q I ⟨F, rp, q⟩ => w.run whole pins s σ H Q I ⟨F, rp, fun F2 H2 s2 => (if_pos rfl).mpr ⟨F2, rp.step s2, fun F3 H3 s3 => q F3 H3 (s2.trans s3)⟩⟩⟩
  | false =>
    have n : PW X (.BoolOp .And (b :: es) pos) (fun _ _ _ => False) := ⟨fun _ _ _ _ _ _ _ h => h.elim⟩
    have w := pw_and h n
    exact ⟨fun whole pins s σ H Q I ⟨F, rp, q⟩ => w.run whole pins s σ H Q I ⟨F, rp, fun F2 H2 s2 => (if_neg Bool.false_ne_true).mpr (q F2 H2 s2)⟩⟩
theorem dw_or {k j : Bool} (h : DT g X a ρ k) (h2 : k = false → DW g X (.BoolOp .Or (b :: es) pos) ρ j) : DW g X (.BoolOp .Or (a :: b :: es) pos) ρ (k || j) := by
  cases k with
  | false =>
    have w := pw_or h (h2 rfl)
    exact ⟨fun whole pins s σ H Q I ⟨F, rp, q⟩ => w.run whole pins s σ H Q I ⟨F, rp, fun F2 H2 s2 => (if_neg Bool.false_ne_true).mpr ⟨F2, rp.step s2, fun F3 H3 s3 => q F3 H3 (s2.trans s3)⟩⟩⟩
  | true =>
    have n : PW X (.BoolOp .Or (b :: es) pos) (fun _ _ _ => False) := ⟨fun _ _ _ _ _ _ _ h => h.elim⟩
    have w := pw_or h n
    exact ⟨fun whole pins s σ H Q I ⟨F, rp, q⟩ => w.run whole pins s σ H Q I ⟨F, rp, fun F2 H2 s2 => (if_pos rfl).mpr (q F2 H2 s2)⟩⟩
/-- and, or, not as values -/
theorem de_one {op : BoolOp} (h : DE g X a ρ d) : DE g X (.BoolOp op [a] pos) ρ d := pe_one h
theorem de_and {k j : Bool} (h : DE g X a ρ (.bl k)) (h2 : k = true → DE g X (.BoolOp .And (b :: es) pos) ρ (.bl j)) : DE g X (.BoolOp .And (a :: b :: es) pos) ρ (.bl (k && j)) := by
  have n : PE X (.BoolOp .And (b :: es) pos) (fun σ H Q => k = true ∧ tD g ρ (.bl j) σ H Q) := ⟨fun pins s σ H Q I ⟨hk, q⟩ => (h2 hk).run pins s σ H Q I q⟩
  refine PE.wk (pe_and h n) fun σ H Q ⟨F, rp, q⟩ => ⟨F, rp, fun v F2 H2 s2 iv => ⟨k, iv, ?_⟩⟩
  cases k with
  | true => exact (if_pos rfl).mpr ⟨rfl, F2, rp.step s2, fun v F3 H3 s3 i3 => q v F3 H3 (s2.trans s3) i3⟩
  | false => exact (if_neg Bool.false_ne_true).mpr (q _ F2 H2 s2 rfl)
theorem de_or {k j : Bool} (h : DE g X a ρ (.bl k)) (h2 : k = false → DE g X (.BoolOp .Or (b :: es) pos) ρ (.bl j)) : DE g X (.BoolOp .Or (a :: b :: es) pos) ρ (.bl (k || j)) := by
  have n : PE X (.BoolOp .Or (b :: es) pos) (fun σ H Q => k = false ∧ tD g ρ (.bl j) σ H Q) := ⟨fun pins s σ H Q I ⟨hk, q⟩ => (h2 hk).run pins s σ H Q I q⟩
  refine PE.wk (pe_or h n) fun σ H Q ⟨F, rp, q⟩ => ⟨F, rp, fun v F2 H2 s2 iv => ⟨k, iv, ?_⟩⟩
  cases k with
  | false => exact (if_neg Bool.false_ne_true).mpr ⟨rfl, F2, rp.step s2, fun v F3 H3 s3 i3 => q v F3 H3 (s2.trans s3) i3⟩
  | true => exact (if_pos rfl).mpr (q _ F2 H2 s2 rfl)
theorem de_not {k : Bool} (h : DE g X a ρ (.bl k)) : DE g X (.UnaryOp .Not a pos) ρ (.bl (!k)) := PE.wk (pe_not h) fun σ H Q ⟨F, rp, q⟩ => ⟨F, rp, fun v F2 H2 s2 iv => ⟨k, iv, q _ F2 H2 s2 rfl⟩⟩
theorem de_if {k : Bool} (h : DT g X c ρ k) (h1 : k = true → DE g X a ρ d) (h2 : k = false → DE g X b ρ d) : DE g X (.IfExp c a b pos) ρ d := by
  have n1 : PE X a (fun σ H Q => k = true ∧ tD g ρ d σ H Q) := ⟨fun pins s σ H Q I ⟨hk, q⟩ => (h1 hk).run pins s σ H Q I q⟩
  have n2 : PE X b (fun σ H Q => k = false ∧ tD g ρ d σ H Q) := ⟨fun pins s σ H Q I ⟨hk, q⟩ => (h2 hk).run pins s σ H Q I q⟩
  refine PE.wk (pe_ifExp h n1 n2) fun σ H Q ⟨F, rp, q⟩ => ⟨F, rp, fun F2 H2 s2 => ?_⟩
  cases k with
  | true => exact (if_pos rfl).mpr ⟨rfl, F2, rp.step s2, fun v F3 H3 s3 i3 => q v F3 H3 (s2.trans s3) i3⟩
  | false => exact (if_neg Bool.false_ne_true).mpr ⟨rfl, F2, rp.step s2, fun v F3 H3 s3 i3 => q v F3 H3 (s2.trans s3) i3⟩
/-- a op b op' c -/
theorem de_chain {op op' : CmpOp} {r' : R2} {k j : Bool} (ho : OpR X (compareOp op) r) (ho' : OpR X (compareOp op') r') (ha : DB g X a ρ d1) (hb : DB g X b ρ d2) (hc : DB g X c ρ d3) (hr : OpD g r d1 d2 (.bl k)) (hr' : k = true → OpD g r' d2 d3 (.bl j))
    (hm : lastMarks [op, op'] [b, c] = false := by with_unfolding_all rfl) : DE g X (.Compare a [op, op'] [b, c] pos) ρ (.bl (k && j)) := by
  have n : PE X c (fun σ H Q => k = true ∧ tB g ρ d3 σ H Q) := ⟨fun pins s σ H Q I ⟨hk, q⟩ => hc.run pins s σ H Q I q⟩
  refine PE.wk (pe_chain ho ho' ha hb n hm) fun σ H Q ⟨F, rp, q⟩ => ⟨F, rp, fun x F1 H1 s1 i1 => ⟨F1, rp.step s1, fun y F2 H2 s2 i2 => hr F2 H2 x y s2.base (i1.step s2) i2 _ fun v F3 H3 s3 iv => ⟨k, iv, ?_⟩⟩⟩
  cases k with
  | true => exact (if_pos rfl).mpr ⟨rfl, F3, ((rp.step s1).step s2).step s3, fun w F4 H4 s4 i4 => hr' rfl F4 H4 y w s4.base ((i2.step s3).step s4) i4 _ fun u F5 H5 s5 i5 => q u F5 H5 ((((s1.trans s2).trans s3).trans s4).trans s5) i5⟩
  | false => exact (if_neg Bool.false_ne_true).mpr (q _ F3 H3 ((s1.trans s2).trans s3) rfl)

/-! ### fields of a format -/
theorem fm_fld {f : Str} {n : Int} {ms es : D} (ok : Cls X.K g.C) (nA : NoAttr X.K g.C f) (h : DE g X e ρ (.fm n ms es)) (hd : ∀ F v, Is g F (.fm n ms es) v → ∃ a dx fs u, v = .ref a ∧ F a = some (.ins g.C dx fs) ∧ fs.lookup f = some u ∧ Is g F d u)
    (hb : attributeBase e f X.env (eval e X.env) = eval e X.env := by rfl) : DE g X (.Attribute e f pos) ρ d := PE.wk (pe_fld h hb) fun σ H Q ⟨F, rp, q⟩ => ⟨F, rp, fun v F2 H2 s iv => by
  obtain ⟨a, dx, fs, u, rfl, ha, hl, iu⟩ := hd F2 v iv
  exact ⟨a, _, dx, fs, u, rfl, s.base.sub _ _ ha, ok, nA, hl, q u F2 H2 s iu⟩⟩
theorem de_size {n : Int} {ms es : D} (ok : Cls X.K g.C) (nA : NoAttr X.K g.C "size") (h : DE g X e ρ (.fm n ms es)) (hb : attributeBase e "size" X.env (eval e X.env) = eval e X.env := by rfl) : DE g X (.Attribute e "size" pos) ρ (.int n) :=
  fm_fld ok nA h (fun F v ⟨a, dx, fs, vm, ve, e, h1, h2, h3, h4, h5, h6⟩ => ⟨a, dx, fs, _, e, h1, h2, rfl⟩) hb
theorem de_moves {n : Int} {ms es : D} (ok : Cls X.K g.C) (nA : NoAttr X.K g.C "moves") (h : DE g X e ρ (.fm n ms es)) (hb : attributeBase e "moves" X.env (eval e X.env) = eval e X.env := by rfl) : DE g X (.Attribute e "moves" pos) ρ ms :=
  fm_fld ok nA h (fun F v ⟨a, dx, fs, vm, ve, e, h1, h2, h3, h4, h5, h6⟩ => ⟨a, dx, fs, _, e, h1, h3, h4⟩) hb
theorem de_ends {n : Int} {ms es : D} (ok : Cls X.K g.C) (nA : NoAttr X.K g.C "ends") (h : DE g X e ρ (.fm n ms es)) (hb : attributeBase e "ends" X.env (eval e X.env) = eval e X.env := by rfl) : DE g X (.Attribute e "ends" pos) ρ es :=
  fm_fld ok nA h (fun F v ⟨a, dx, fs, vm, ve, e, h1, h2, h3, h4, h5, h6⟩ => ⟨a, dx, fs, _, e, h1, h5, h6⟩) hb

/-! ### calls -/
/-- a promise in data: from the arguments' data the answer's -/
def spD (g : Gx) (R : List D → D → Prop) : Sp := fun vs H Q _ => ∃ F ds d, Base g F H ∧ All g F ds vs ∧ R ds d ∧ ∀ v F2 H2, Step g F H F2 H2 → Is g F2 d v → Q v H2
variable {k : Nat} {f : Addr} {fd : FuncData} {ps : List Str} {R : List D → D → Prop} {x : Str} {p : Pos}
theorem de_call (Fn : FnOk X.prog X.w X.K X.mg X.base CX0 k f fd ps (spD g R)) (hr : Room k X.A) (hg : Gl X x) (hm : X.mg x = some (.ref f)) (hk : PySem.W.keepIn X.K (.ref f) = true) (hb : L2.Binds X.K fd ps []) (ha : DA g X (e :: es) ρ ds) (hR : R ds d)
    (hdb : (x == ("__debug__" : Str)) = false := by decide) (he : starEach (e :: es) X.env = (false, eval e X.env) :: starEach es X.env := by rfl) (hpl : (backTo pos (starEach es X.env)).any (·.1) = false := by rfl) : DE g X (.Call (.Name x p) (e :: es) [] pos) ρ d :=
  PE.wk (pe_call Fn hr hg hm hk hb .nil pass0 ha hdb he hpl) fun σ H Q ⟨F, rp, q⟩ => ⟨F, rp, fun vs F2 H2 s al => ⟨F2, ds, d, s.base, by rw [List.append_nil]; exact al, hR, fun v F3 H3 s3 iv => q v F3 H3 (s.trans s3) iv⟩⟩
/-- flat data: it does not lean on the heap -/
def flatD : D → Bool
  | .non => true
  | .bl _ => true
  | .int _ => true
  | .str _ => true
  | _ => false
theorem flat_is {F F' : Hp} {v : V} (h : flatD d = true) (iv : Is g F d v) : Is g F' d v := by
  cases d with
  | non => exact iv
  | bl b => exact iv
  | int b => exact iv
  | str b => exact iv
  | tup xs => cases h
  | lst xs => cases h
  | fm n m e => cases h
/-- all that is tracked but tables -/
def full (H : Hp) : Hp := fun a => match H a with
  | some (.tbl _) => none
  | o => o
theorem full_sub {H : Hp} : Sub (full H) H := fun a o e => by
  unfold full at e
  split at e
  · cases e
  · exact e
theorem full_no {H : Hp} : NoT (full H) := fun a ps e => by
  unfold full at e
  split at e
  · cases e
  · rename_i h
    exact h ps e
theorem full_of {F H : Hp} (b : Base g F H) : Sub F (full H) := fun a o e => by
  have h := b.sub a o e
  have n := b.noT a
  unfold full
  rw [h]
  split
  · rename_i ps q
    rw [e] at n
    exact absurd q (n ps)
  · rfl
theorem full_at {H : Hp} {a : Addr} {o : HO} (h : H a = some o) (n : ∀ ps, o ≠ .tbl ps) : full H a = some o := by
  unfold full
  rw [h]
  split
  · rename_i ps q
    exact absurd (Option.some.inj q) (n ps)
  · rfl
theorem IsB.full {F H : Hp} {v : V} (b : Base g F H) (h : IsB g F H d v) : Is g (full H) d v := by
  rcases h with h | ⟨ys, a, vs, rfl, rfl, h1, h2⟩
  · exact Is.mono (full_of b) d v h
  · exact ⟨a, vs, rfl, full_at h1 (fun ps z => by cases z), All.mono (full_of b) ys vs h2⟩
theorem AllB.full {F H : Hp} (b : Base g F H) : ∀ {ds : List D} {vs : List V}, AllB g F H ds vs → All g (DL.full H) ds vs
  | [], vs, h => h
  | d :: ds, vs, h => by
    obtain ⟨v, r, e, h1, h2⟩ := h
    exact ⟨v, r, e, IsB.full b h1, AllB.full b h2⟩
/-- a call with borrowed arguments, whose answer is flat -/
theorem de_callB (Fn : FnOk X.prog X.w X.K X.mg X.base CX0 k f fd ps (spD g R)) (hr : Room k X.A) (hg : Gl X x) (hm : X.mg x = some (.ref f)) (hk : PySem.W.keepIn X.K (.ref f) = true) (hb : L2.Binds X.K fd ps []) (ha : DAB g X (e :: es) ρ ds) (hR : R ds d) (hf : flatD d = true)
    (hdb : (x == ("__debug__" : Str)) = false := by decide) (he : starEach (e :: es) X.env = (false, eval e X.env) :: starEach es X.env := by rfl) (hpl : (backTo pos (starEach es X.env)).any (·.1) = false := by rfl) : DE g X (.Call (.Name x p) (e :: es) [] pos) ρ d :=
  PE.wk (pe_call Fn hr hg hm hk hb .nil pass0 ha hdb he hpl) fun σ H Q ⟨F, rp, q⟩ => ⟨F, rp, fun vs F2 H2 s al => ⟨full H2, ds, d, ⟨full_sub, full_no, s.base.tabs⟩, by rw [List.append_nil]; exact al.full s.base, hR, fun v F3 H3 s3 iv => by
    refine q v F2 H3 (s.trans ⟨Sub.refl F2, ⟨fun a o e => ?_, s.base.noT, s3.base.tabs⟩, s3.ext, s3.dom, fun a o e => .inl e⟩) (flat_is hf iv)
    exact s3.ext a o (s.base.sub a o e) (fun ps z => s.base.noT a ps (z ▸ e))⟩⟩
/-- a built-in function or class, by what it gives from data -/
def CallD (g : Gx) (r : List V → Hp → VK → Prop) (ds : List D) (d : D) : Prop := ∀ F H vs, Base g F H → AllB g F H ds vs → ∀ Q : VK, (∀ v F2 H2, Step g F H F2 H2 → Is g F2 d v → Q v H2) → r vs H Q
def CallN (g : Gx) (r : List V → Hp → VK → Prop) (ds xs : List D) : Prop := ∀ F H vs, Base g F H → AllB g F H ds vs → ∀ Q : VK, (∀ a vs F2 H2, Step g F H F2 H2 → H a = none → F2 a = none → H2 a = some (.lst vs) → All g F2 xs vs → Q (.ref a) H2) → r vs H Q
variable {id T : String} {cr : List V → Hp → VK → Prop}
theorem de_bltn (hc : CallR X (.builtin id) cr) (hg : Gl X x) (hm : X.mg x = none) (hv : bootBuiltins x = some (.builtin id)) (ha : DAB g X (e :: es) ρ ds) (hr : CallD g cr ds d) (hn : x ≠ ("__name__" : Str) := by decide) (hdb : (x == ("__debug__" : Str)) = false := by decide)
    (h1 : starEach (e :: es) X.env = (false, eval e X.env) :: starEach es X.env := by rfl) (h2 : (backTo pos (starEach es X.env)).any (·.1) = false := by rfl) : DE g X (.Call (.Name x p) (e :: es) [] pos) ρ d :=
  PE.wk (pe_callB hc hg hm hv ha hn hdb h1 h2) fun σ H Q ⟨F, rp, q⟩ => ⟨F, rp, fun vs F2 H2 s al => hr F2 H2 vs s.base al Q fun v F3 H3 s3 iv => q v F3 H3 (s.trans s3) iv⟩
theorem de_bty (hc : CallR X (.type T) cr) (hg : Gl X x) (hm : X.mg x = none) (hv : bootBuiltins x = some (.type T)) (ha : DAB g X (e :: es) ρ ds) (hr : CallD g cr ds d) (hn : x ≠ ("__name__" : Str) := by decide) (hdb : (x == ("__debug__" : Str)) = false := by decide)
    (h1 : starEach (e :: es) X.env = (false, eval e X.env) :: starEach es X.env := by rfl) (h2 : (backTo pos (starEach es X.env)).any (·.1) = false := by rfl) : DE g X (.Call (.Name x p) (e :: es) [] pos) ρ d :=
  PE.wk (pe_callTy hc hg hm hv ha hn hdb h1 h2) fun σ H Q ⟨F, rp, q⟩ => ⟨F, rp, fun vs F2 H2 s al => hr F2 H2 vs s.base al Q fun v F3 H3 s3 iv => q v F3 H3 (s.trans s3) iv⟩
theorem dn_bty (hc : CallR X (.type T) cr) (hg : Gl X x) (hm : X.mg x = none) (hv : bootBuiltins x = some (.type T)) (ha : DAB g X (e :: es) ρ ds) (hr : CallN g cr ds xs) (hn : x ≠ ("__name__" : Str) := by decide) (hdb : (x == ("__debug__" : Str)) = false := by decide)
    (h1 : starEach (e :: es) X.env = (false, eval e X.env) :: starEach es X.env := by rfl) (h2 : (backTo pos (starEach es X.env)).any (·.1) = false := by rfl) : DN g X (.Call (.Name x p) (e :: es) [] pos) ρ xs :=
  PE.wk (pe_callTy hc hg hm hv ha hn hdb h1 h2) fun σ H Q ⟨F, rp, q⟩ => ⟨F, rp, fun vs F2 H2 s al => hr F2 H2 vs s.base al Q fun a ws F3 H3 s3 hn f3 h3 al3 => q a ws F3 H3 (s.trans s3) (s.dom a hn) f3 h3 al3⟩
theorem dn_bltn (hc : CallR X (.builtin id) cr) (hg : Gl X x) (hm : X.mg x = none) (hv : bootBuiltins x = some (.builtin id)) (ha : DAB g X (e :: es) ρ ds) (hr : CallN g cr ds xs) (hn : x ≠ ("__name__" : Str) := by decide) (hdb : (x == ("__debug__" : Str)) = false := by decide)
    (h1 : starEach (e :: es) X.env = (false, eval e X.env) :: starEach es X.env := by rfl) (h2 : (backTo pos (starEach es X.env)).any (·.1) = false := by rfl) : DN g X (.Call (.Name x p) (e :: es) [] pos) ρ xs :=
  PE.wk (pe_callB hc hg hm hv ha hn hdb h1 h2) fun σ H Q ⟨F, rp, q⟩ => ⟨F, rp, fun vs F2 H2 s al => hr F2 H2 vs s.base al Q fun a ws F3 H3 s3 hn f3 h3 al3 => q a ws F3 H3 (s.trans s3) (s.dom a hn) f3 h3 al3⟩
theorem allB1 {F H : Hp} {vs : List V} (h : AllB g F H [d] vs) : ∃ v, vs = [v] ∧ IsB g F H d v := by
  obtain ⟨v, r, rfl, iv, rfl⟩ := h
  exact ⟨v, rfl, iv⟩
theorem allB2 {F H : Hp} {vs : List V} (h : AllB g F H [d1, d2] vs) : ∃ v w, vs = [v, w] ∧ IsB g F H d1 v ∧ IsB g F H d2 w := by
  obtain ⟨v, r, rfl, iv, w, r2, rfl, iw, rfl⟩ := h
  exact ⟨v, w, rfl, iv, iw⟩
theorem de_abs {i : Int} (hg : Gl X "abs") (hm : X.mg "abs" = none) (ha : DB g X e ρ (.int i)) (h1 : starEach [e] X.env = (false, eval e X.env) :: starEach [] X.env := by rfl) : DE g X (.Call (.Name "abs" p) [e] [] pos) ρ (.int (if i < 0 then -i else i)) :=
  de_bltn call_abs hg hm (by decide +kernel) (dab_cons ha dab_nil h1) (fun F H vs b al Q q => by
    obtain ⟨v, rfl, iv⟩ := allB1 al
    exact ⟨i, by rw [iv.int], q _ F H (Step.refl b) rfl⟩) (h1 := h1)
theorem de_lenL (hg : Gl X "len") (hm : X.mg "len" = none) (ha : DB g X e ρ (.lst xs)) (h1 : starEach [e] X.env = (false, eval e X.env) :: starEach [] X.env := by rfl) : DE g X (.Call (.Name "len" p) [e] [] pos) ρ (.int xs.length) :=
  de_bltn call_len_seq hg hm PySem.boot_len (dab_cons ha dab_nil h1) (fun F H vs b al Q q => by
    obtain ⟨v, rfl, iv⟩ := allB1 al
    obtain ⟨a, ws, rfl, hw, al⟩ := iv.lst b.sub
    exact ⟨a, ws, rfl, .inl (SqL.of hw), q _ F H (Step.refl b) (by rw [al.len]; rfl)⟩) (h1 := h1)
theorem de_lenT (hg : Gl X "len") (hm : X.mg "len" = none) (ha : DE g X e ρ (.tup xs)) (h1 : starEach [e] X.env = (false, eval e X.env) :: starEach [] X.env := by rfl) : DE g X (.Call (.Name "len" p) [e] [] pos) ρ (.int xs.length) :=
  de_bltn call_len_seq hg hm PySem.boot_len (dab_cons ha.b dab_nil h1) (fun F H vs b al Q q => by
    obtain ⟨v, rfl, iv⟩ := allB1 al
    obtain ⟨a, ws, rfl, hw, al⟩ := iv.tup
    exact ⟨a, ws, rfl, .inr (SqT.of (b.sub _ _ hw)), q _ F H (Step.refl b) (by rw [al.len]; rfl)⟩) (h1 := h1)
theorem de_lenS {s : Str} (hg : Gl X "len") (hm : X.mg "len" = none) (hs : s.length ≤ 1000) (ha : DE g X e ρ (.str s)) (h1 : starEach [e] X.env = (false, eval e X.env) :: starEach [] X.env := by rfl) : DE g X (.Call (.Name "len" p) [e] [] pos) ρ (.int s.length) :=
  de_bltn call_len_str hg hm PySem.boot_len (dab_cons ha.b dab_nil h1) (fun F H vs b al Q q => by
    obtain ⟨v, rfl, iv⟩ := allB1 al
    exact ⟨s, by rw [iv.str], Nat.le_of_lt (small1000 hs), q _ F H (Step.refl b) rfl⟩) (h1 := h1)
theorem de_intI {i : Int} (hg : Gl X "int") (hm : X.mg "int" = none) (ha : DB g X e ρ (.int i)) (h1 : starEach [e] X.env = (false, eval e X.env) :: starEach [] X.env := by rfl) : DE g X (.Call (.Name "int" p) [e] [] pos) ρ (.int i) :=
  de_bty call_int1 hg hm (by decide +kernel) (dab_cons ha dab_nil h1) (fun F H vs b al Q q => by
    obtain ⟨v, rfl, iv⟩ := allB1 al
    exact .inl ⟨i, by rw [iv.int], q _ F H (Step.refl b) rfl⟩) (h1 := h1)
theorem de_intB {i : Bool} (hg : Gl X "int") (hm : X.mg "int" = none) (ha : DB g X e ρ (.bl i)) (h1 : starEach [e] X.env = (false, eval e X.env) :: starEach [] X.env := by rfl) : DE g X (.Call (.Name "int" p) [e] [] pos) ρ (.int (if i = true then 1 else 0)) :=
  de_bty call_int1 hg hm (by decide +kernel) (dab_cons ha dab_nil h1) (fun F H vs b al Q q => by
    obtain ⟨v, rfl, iv⟩ := allB1 al
    exact .inr ⟨i, by rw [iv.bl], q _ F H (Step.refl b) rfl⟩) (h1 := h1)
theorem callN_list : CallN g (fun xs H Q => ∃ p ys, xs = [V.ref p] ∧ (SqL X.K H p ys ∨ SqT X.K H p ys) ∧ ∀ l : Addr, H l = none → Q (.ref l) (upd H l (.lst ys))) [.lst xs] xs := fun F H vs b al Q q => by
  obtain ⟨v, rfl, iv⟩ := allB1 al
  obtain ⟨a, ws, rfl, hw, al⟩ := iv.lst b.sub
  exact ⟨a, ws, rfl, .inl (SqL.of hw), fun l hl => q l ws _ _ (Step.alloc0 b hl) hl (frozen_free b hl) upd_same al⟩
theorem callN_listT : CallN g (fun xs H Q => ∃ p ys, xs = [V.ref p] ∧ (SqL X.K H p ys ∨ SqT X.K H p ys) ∧ ∀ l : Addr, H l = none → Q (.ref l) (upd H l (.lst ys))) [.tup xs] xs := fun F H vs b al Q q => by
  obtain ⟨v, rfl, iv⟩ := allB1 al
  obtain ⟨a, ws, rfl, hw, al⟩ := iv.tup
  exact ⟨a, ws, rfl, .inr (SqT.of (b.sub _ _ hw)), fun l hl => q l ws _ _ (Step.alloc0 b hl) hl (frozen_free b hl) upd_same al⟩
theorem dn_listL (hg : Gl X "list") (hm : X.mg "list" = none) (ha : DB g X e ρ (.lst xs)) (h1 : starEach [e] X.env = (false, eval e X.env) :: starEach [] X.env := by rfl) : DN g X (.Call (.Name "list" p) [e] [] pos) ρ xs :=
  dn_bty call_list_of hg hm (by decide +kernel) (dab_cons ha dab_nil h1) callN_list (h1 := h1)
theorem dn_listT (hg : Gl X "list") (hm : X.mg "list" = none) (ha : DE g X e ρ (.tup xs)) (h1 : starEach [e] X.env = (false, eval e X.env) :: starEach [] X.env := by rfl) : DN g X (.Call (.Name "list" p) [e] [] pos) ρ xs :=
  dn_bty call_list_of hg hm (by decide +kernel) (dab_cons ha.b dab_nil h1) callN_listT (h1 := h1)
theorem de_tupleL (hg : Gl X "tuple") (hm : X.mg "tuple" = none) (ha : DB g X e ρ (.lst xs)) (h1 : starEach [e] X.env = (false, eval e X.env) :: starEach [] X.env := by rfl) : DE g X (.Call (.Name "tuple" p) [e] [] pos) ρ (.tup xs) :=
  de_bty call_tuple_of hg hm (by decide +kernel) (dab_cons ha dab_nil h1) (fun F H vs b al Q q => by
    obtain ⟨v, rfl, iv⟩ := allB1 al
    obtain ⟨a, ws, rfl, hw, al⟩ := iv.lst b.sub
    refine ⟨a, ws, rfl, .inl ⟨SqL.of hw, fun l hl => ?_⟩⟩
    have st := Step.alloc (o := .tup ws) b hl (fun ps z => by cases z)
    exact q _ _ _ st ⟨l, ws, rfl, upd_same, st.all al⟩) (h1 := h1)
theorem de_sum {ns : List Int} (hc : X.calm = true) (hg : Gl X "sum") (hm : X.mg "sum" = none) (ha : DB g X e ρ (.lst (ns.map D.int))) (h1 : starEach [e] X.env = (false, eval e X.env) :: starEach [] X.env := by rfl) : DE g X (.Call (.Name "sum" p) [e] [] pos) ρ (.int ns.sum) :=
  de_bltn (cr_sum hc) hg hm (by decide +kernel) (dab_cons ha dab_nil h1) (fun F H vs b al Q q => by
    obtain ⟨v, rfl, iv⟩ := allB1 al
    obtain ⟨a, ws, rfl, hw, al⟩ := iv.lst b.sub
    cases al.ints
    exact ⟨a, ns, rfl, SqL.of hw, q _ F H (Step.refl b) rfl⟩) (h1 := h1)
theorem de_all {bs : List Bool} (hc : X.calm = true) (hg : Gl X "all") (hm : X.mg "all" = none) (ha : DB g X e ρ (.lst (bs.map D.bl))) (h1 : starEach [e] X.env = (false, eval e X.env) :: starEach [] X.env := by rfl) : DE g X (.Call (.Name "all" p) [e] [] pos) ρ (.bl (bs.all fun b => b)) :=
  de_bltn (cr_all hc) hg hm (by decide +kernel) (dab_cons ha dab_nil h1) (fun F H vs b al Q q => by
    obtain ⟨v, rfl, iv⟩ := allB1 al
    obtain ⟨a, ws, rfl, hw, al⟩ := iv.lst b.sub
    cases al.bls
    exact ⟨a, bs, rfl, SqL.of hw, q _ F H (Step.refl b) rfl⟩) (h1 := h1)
end
end DL
end
section
/-! Data logic: comprehensions, iterables, stores, defs. -/
namespace DL
open PySem PySem.Spec PyProof.Rows L2

/-! ### comprehensions -/
def wipeD (ρ : Env) : List Nat → Env
  | [] => ρ
  | v :: vs => (wipeD ρ vs).set v .un
section
variable {g : Gx} {ρ : Env}
theorem wipe_get {σ : L2.St} {i : Nat} : ∀ {vs : List Nat} {o : Option V}, (wipe σ vs)[i]? = some o → i < σ.length ∧ (i ∈ vs → o = none) ∧ (i ∉ vs → σ[i]? = some o)
  | [], o, h => ⟨(List.getElem?_eq_some_iff.mp h).1, fun q => absurd q List.not_mem_nil, fun _ => h⟩
  | v :: vs, o, h => by
    have h : ((wipe σ vs).set v none)[i]? = some o := h
    by_cases e : v = i
    · subst e
      have hl := (List.getElem?_eq_some_iff.mp h).1
      rw [List.length_set] at hl
      rw [List.getElem?_set_self hl] at h
      rw [wipe_length] at hl
      exact ⟨hl, fun _ => (Option.some.inj h).symm, fun q => absurd List.mem_cons_self q⟩
    · rw [List.getElem?_set_ne e] at h
      obtain ⟨h1, h2, h3⟩ := wipe_get h
      refine ⟨h1, fun q => h2 ?_, fun q => h3 fun z => q (List.mem_cons_of_mem _ z)⟩
      rcases List.mem_cons.mp q with z | z
      · exact absurd z.symm e
      · exact z
theorem wipe_eq {σ τ : L2.St} {vs : List Nat} (hl : σ.length = τ.length) (h : ∀ i, i ∉ vs → σ[i]? = τ[i]?) : wipe σ vs = wipe τ vs := by
  apply List.ext_getElem?
  intro i
  by_cases hi : i < σ.length
  · have e1 : i < (wipe σ vs).length := by rw [wipe_length]; exact hi
    have e2 : i < (wipe τ vs).length := by rw [wipe_length, ← hl]; exact hi
    obtain ⟨_, a2, a3⟩ := wipe_get (List.getElem?_eq_getElem e1)
    obtain ⟨_, b2, b3⟩ := wipe_get (List.getElem?_eq_getElem e2)
    rw [List.getElem?_eq_getElem e1, List.getElem?_eq_getElem e2]
    by_cases q : i ∈ vs
    · rw [a2 q, b2 q]
    · have z := h i q
      rw [a3 q, b3 q] at z
      exact z
  · rw [List.getElem?_eq_none (by rw [wipe_length]; omega), List.getElem?_eq_none (by rw [wipe_length, ← hl]; omega)]
theorem putV_len : ∀ {js : List Nat} {ws : List V} {σ : L2.St}, (putV σ js ws).length = σ.length
  | [], _, _ => by unfold putV; rfl
  | _ :: _, [], _ => by unfold putV; rfl
  | j :: js, w :: ws, σ => by
    show (putV (σ.set j (some w)) js ws).length = _
    rw [putV_len, List.length_set]
theorem putV_ne : ∀ {js : List Nat} {ws : List V} {σ : L2.St} {i : Nat}, i ∉ js → (putV σ js ws)[i]? = σ[i]?
  | [], _, _, _, _ => by unfold putV; rfl
  | _ :: _, [], _, _, _ => by unfold putV; rfl
  | j :: js, w :: ws, σ, i, h => by
    show (putV (σ.set j (some w)) js ws)[i]? = _
    rw [putV_ne (fun z => h (List.mem_cons_of_mem _ z)), List.getElem?_set_ne (fun z : j = i => h (by rw [z]; exact List.mem_cons_self))]
theorem wipe_put {σ : L2.St} {vs js : List Nat} {ws : List V} (h : ∀ j ∈ js, j ∈ vs) : wipe (putV (wipe σ vs) js ws) vs = wipe σ vs := by
  refine wipe_eq (by rw [putV_len, wipe_length]) fun i hi => ?_
  rw [putV_ne fun z => hi (h i z)]
  by_cases hl : i < σ.length
  · have e1 : i < (wipe σ vs).length := by rw [wipe_length]; exact hl
    obtain ⟨_, _, a3⟩ := wipe_get (List.getElem?_eq_getElem e1)
    rw [List.getElem?_eq_getElem e1, a3 hi]
  · rw [List.getElem?_eq_none (by rw [wipe_length]; omega), List.getElem?_eq_none (by omega)]
theorem RepE.wipes {F H : Hp} {σ : L2.St} (r : RepE g F H ρ σ) : ∀ vs : List Nat, RepE g F H (wipeD ρ vs) (wipe σ vs)
  | [] => r
  | v :: vs => by
    have h := RepE.wipes r vs
    show RepE g F H ((wipeD ρ vs).set v .un) ((wipe σ vs).set v none)
    refine ⟨h.base, by rw [List.length_set, List.length_set, h.len], fun j sl o e1 e2 => ?_⟩
    by_cases q : v = j
    · subst q
      have hi := (List.getElem?_eq_some_iff.mp e1).1
      rw [List.length_set] at hi
      rw [List.getElem?_set_self hi] at e1
      cases e1
      trivial
    · rw [List.getElem?_set_ne q] at e1 e2
      exact h.slot j sl o e1 e2

variable {X : Cx} {α : Type} {elt tg iter : Expr} {ifs : List Expr} {scope : Scope} {own : List (Str × Nat)} {pos : Pos} {G : TG} {ts : List α} {mk : α → D}
/-- what a comprehension's parts have to show -/
structure Lc (g : Gx) (X : Cx) (ρ : Env) (elt tg : Expr) (ifs : List Expr) (scope : Scope) (vs : List Nat) (G : TG) (ts : List α) (mk : α → D) (as : α → List (Nat × D)) (b : α → Bool) (e : α → D) : Prop where
  tgt : ∀ t ∈ ts, Tgt g G (mk t) (as t)
  sub : ∀ t ∈ ts, ∀ j ∈ (as t).map (·.1), j ∈ vs
  pg : ∀ (s : Shared) (H : Hp) (C : Addr) (cl : List (Str × Addr)) (fp : List Addr), PG (X.blk s H scope (compEnvC scope cl C X.env) fp) tg G
  tst : ∀ (s : Shared) (H : Hp) (C : Addr) (cl : List (Str × Addr)) (fp : List Addr), ∀ t ∈ ts, PTs (X.blk s H scope (compEnvC scope cl C X.env) fp) ifs (tT g (putD (wipeD ρ vs) (as t)) (b t))
  elt : ∀ (s : Shared) (H : Hp) (C : Addr) (cl : List (Str × Addr)) (fp : List Addr), ∀ t ∈ ts, b t = true → DE g (X.blk s H scope (compEnvC scope cl C X.env) fp) elt (putD (wipeD ρ vs) (as t)) (e t)
  small : ts.length ≤ 1000
def lcT (g : Gx) (ρ : Env) (vs : List Nat) (ts : List α) (as : α → List (Nat × D)) (b : α → Bool) : TT := fun σ H Q => ∃ t ∈ ts, tT g (putD (wipeD ρ vs) (as t)) (b t) σ H Q
def lcE (g : Gx) (ρ : Env) (vs : List Nat) (ts : List α) (as : α → List (Nat × D)) (b : α → Bool) (e : α → D) : TE := fun σ H Q => ∃ t ∈ ts, b t = true ∧ tD g (putD (wipeD ρ vs) (as t)) (e t) σ H Q
theorem lc_sem {vs : List Nat} {as : α → List (Nat × D)} {b : α → Bool} {e : α → D} (L : Lc g X ρ elt tg ifs scope vs G ts mk as b e) {σ : L2.St} {H : Hp} {Q : VK} (h : tN g ρ ((ts.filter b).map e) σ H Q) :
    tLc (tI g ρ (ts.map mk)) G (lcT g ρ vs ts as b) (lcE g ρ vs ts as b e) vs σ H Q := by
  obtain ⟨F, rp, q⟩ := h
  refine ⟨F, rp, fun F1 H1 J s1 gv D hD => ?_⟩
  have f1 : F1 D = none := frozen_free s1.base hD
  have st0 := Step.alloc0 (o := .lst []) s1.base hD
  have hn : H D = none := s1.dom D hD
  refine ⟨fun i m H' => m = ts.length - i ∧ i ≤ ts.length ∧ ∃ F' acc, Step g F H F' H' ∧ Sub F1 F' ∧ F' D = none ∧ H' D = some (.lst acc) ∧ All g F' (((ts.take i).filter b).map e) acc,
    ⟨_, rfl, Nat.zero_le _, F1, [], s1.trans st0, Sub.refl _, f1, upd_same, rfl⟩, ?_⟩
  rintro i m H' ⟨rfl, hil, F', acc, s', sb, f', hacc, al⟩
  obtain ⟨g1, g2⟩ := gv i F' H' s'.base sb
  have hacl : acc.length ≤ i := by
    rw [al.len, List.length_map]
    exact Nat.le_trans (List.length_filter_le _ _) (by rw [List.length_take]; exact Nat.min_le_left _ _)
  by_cases hlt : i < ts.length
  · have hti : ts[i]? = some ts[i] := List.getElem?_eq_getElem hlt
    have hm : ts[i] ∈ ts := List.getElem_mem hlt
    obtain ⟨ggo, gy⟩ := g1 (mk ts[i]) (by rw [List.getElem?_map, hti]; rfl)
    have htk : ts.take (i + 1) = ts.take i ++ [ts[i]] := by rw [List.take_add_one, hti]; rfl
    refine .inr ⟨ggo, fun H2 => ∃ F2 acc, Step g F H F2 H2 ∧ Sub F1 F2 ∧ F2 D = none ∧ H2 D = some (.lst acc) ∧ All g F2 (((ts.take (i + 1)).filter b).map e) acc,
      fun H2 ⟨F2, acc, k1, k2, k3, k4, k5⟩ => ⟨_, by omega, rfl, hlt, F2, acc, k1, k2, k3, k4, k5⟩, fun x H2 hy => ?_⟩
    obtain ⟨F2, s2, ix⟩ := gy x H2 hy
    refine L.tgt _ hm F2 H2 x _ s2.base ix _ fun ws alw => ⟨wipe_put (L.sub _ hm), ?_⟩
    have rp2 : RepE g F2 H2 (putD (wipeD ρ vs) (as ts[i])) (putV (wipe σ vs) ((as ts[i]).map (·.1)) ws) := (((rp.step s').step s2).wipes vs).puts alw
    have keep : ∀ {F3 H3 : Hp}, Step g F2 H2 F3 H3 → F3 D = none ∧ H3 D = some (.lst acc) := fun {F3 H3} s3 => by
      have e2 : H2 D = some (.lst acc) := s2.ext D _ hacc (fun ps z => by cases z)
      refine ⟨?_, s3.ext D _ e2 (fun ps z => by cases z)⟩
      cases hz : F3 D with
      | none => rfl
      | some o =>
        rcases s3.new D o hz with z | z
        · rcases s2.new D o z with z | z
          · rw [f'] at z; cases z
          · rw [hacc] at z; cases z
        · rw [e2] at z; cases z
    refine ⟨ts[i], hm, F2, rp2, fun F3 H3 s3 => ?_⟩
    cases hb : b ts[i] with
    | true =>
      refine (if_pos rfl).mpr ⟨ts[i], hm, hb, F3, rp2.step s3, fun y F4 H4 s4 iy => ?_⟩
      obtain ⟨k1, k2⟩ := keep (s3.trans s4)
      refine ⟨acc, k2, small1000 (by have := L.small; omega), F4, acc ++ [y], ?_, (sb.trans s2.sub).trans (s3.sub.trans s4.sub), k1, upd_same, ?_⟩
      · have st := ((s'.trans s2).trans s3).trans s4
        refine ⟨st.sub, ⟨fun c o z => (upd_ne fun w => ?_).trans (st.base.sub c o z), st.base.noT, ?_⟩, fun c o z n => (upd_ne fun w => ?_).trans (st.ext c o z n), fun c z => ?_, st.new⟩
        · rw [w, k1] at z; cases z
        · exact fun p hp => by
            obtain ⟨ps, t1, t2, t3⟩ := st.base.tabs p hp
            refine ⟨ps, (upd_ne fun w => ?_).trans t1, t2, fun pos cv hc => ?_⟩
            · rw [w, k2] at t1; cases t1
            · obtain ⟨c, c1, c2⟩ := t3 pos cv hc
              refine ⟨c, c1, (upd_ne fun w => ?_).trans c2⟩
              rw [w, k2] at c2; cases c2
        · rw [w, hn] at z; cases z
        · by_cases w : c = D
          · rw [w]; exact hn
          · rw [upd_ne w] at z; exact st.dom c z
      · rw [htk, List.filter_append, List.map_append, List.filter_cons, if_pos hb]
        exact (All.mono ((s2.sub.trans s3.sub).trans s4.sub) _ _ al).app (.cons iy .nil)
    | false =>
      obtain ⟨k1, k2⟩ := keep s3
      refine (if_neg Bool.false_ne_true).mpr ⟨F3, acc, (s'.trans s2).trans s3, (sb.trans s2.sub).trans s3.sub, k1, k2, ?_⟩
      rw [htk, List.filter_append, List.map_append, List.filter_cons, if_neg (by rw [hb]; exact Bool.false_ne_true)]
      show All g F3 (_ ++ []) acc
      rw [List.append_nil]
      exact All.mono (s2.sub.trans s3.sub) _ _ al
  · have ei : i = ts.length := by omega
    subst ei
    rw [List.take_length] at al
    exact .inl ⟨g2 (by rw [List.length_map]), q D acc F' H' s' hn f' hacc al⟩
theorem Lc.pts {vs : List Nat} {as : α → List (Nat × D)} {b : α → Bool} {e : α → D} (L : Lc g X ρ elt tg ifs scope vs G ts mk as b e) (s : Shared) (H : Hp) (C : Addr) (cl : List (Str × Addr)) (fp : List Addr) :
    PTs (X.blk s H scope (compEnvC scope cl C X.env) fp) ifs (lcT g ρ vs ts as b) := ⟨fun pins s1 σ H1 Q I ⟨t, ht, q⟩ => (L.tst s H C cl fp t ht).run pins s1 σ H1 Q I q⟩
theorem Lc.pe {vs : List Nat} {as : α → List (Nat × D)} {b : α → Bool} {e : α → D} (L : Lc g X ρ elt tg ifs scope vs G ts mk as b e) (s : Shared) (H : Hp) (C : Addr) (cl : List (Str × Addr)) (fp : List Addr) :
    PE (X.blk s H scope (compEnvC scope cl C X.env) fp) elt (lcE g ρ vs ts as b e) := ⟨fun pins s1 σ H1 Q I ⟨t, ht, hb, q⟩ => (L.elt s H C cl fp t ht hb).run pins s1 σ H1 Q I q⟩
/-- a list comprehension as a value -/
theorem dn_lc {as : α → List (Nat × D)} {b : α → Bool} {e : α → D} (hc : X.calm = true) (hN : X.N.Nodup) (hi : DI g X tg iter ρ (ts.map mk)) (ok : BlkOk X.N X.env.scope scope own) (L : Lc g X ρ elt tg ifs scope (own.map (·.2)) G ts mk as b e)
    (hf : ∀ x, foldedSetIterable iter X.env x = pure x := by intro _; rfl) : DN g X (.ListComp elt [⟨tg, iter, ifs, 0⟩] scope pos) ρ ((ts.filter b).map e) :=
  PE.wk (pe_lc hc hN hi ok L.pg L.pts L.pe hf) fun σ H Q h => lc_sem L h
/-- name = [..] on one line -/
theorem ds_lc {S : Sy g} {F0 H0 : Hp} {z : S.ζ} {P : DEnds S.ζ} {as : α → List (Nat × D)} {b : α → Bool} {e : α → D} {i : Nat} {y : Str} {py spos : Pos} (hc : X.calm = true) (hN : X.N.Nodup) (hy : X.N[i]? = some y) (hyl : X.env.scope.names.lookup y = some .local)
    (hsw : swapsWith (.ListComp elt [⟨tg, iter, ifs, 0⟩] scope pos) (some (.Name y py)) spos.line X.env = pure true) (hi : DI g X tg iter ρ (ts.map mk)) (ok : BlkOk X.N X.env.scope scope own) (L : Lc g X ρ elt tg ifs scope (own.map (·.2)) G ts mk as b e)
    (n : P.nx (ρ.set i (.own ((ts.filter b).map e))) z) (hf : ∀ x, foldedSetIterable iter X.env x = pure x := by intro _; rfl) : DS S F0 H0 X (.Assign [.Name y py] (.ListComp elt [⟨tg, iter, ifs, 0⟩] scope pos) spos) ρ z P :=
  ds_newP (ps_setLc hc hN hy hyl hsw hi ok L.pg L.pts L.pe hf) (fun σ H Q h => lc_sem L h) n
end

/-! ### ranges, texts, pairs -/
section
variable {g : Gx} {ρ : Env} {X : Cx} {tg a b c e e2 : Expr} {p pos : Pos} {xs ys : List D}
theorem gives_range {F : Hp} {lo : Int} {n : Nat} : Gives g (Itr lo n) F ((List.range n).map fun (i : Nat) => D.int (lo + (i : Nat))) := fun i F' H bs s => by
  refine ⟨fun d hd => ?_, fun hl => by rw [List.length_map, List.length_range] at hl; exact Nat.le_of_eq hl.symm⟩
  rw [List.getElem?_map] at hd
  by_cases hi : i < n
  · rw [List.getElem?_range hi] at hd
    cases hd
    exact ⟨hi, fun x H' ⟨e1, e2⟩ => by rw [e1]; exact ⟨F', Step.refl bs, e2⟩⟩
  · rw [List.getElem?_eq_none (by rw [List.length_range]; omega)] at hd
    cases hd
theorem gives_rangeC {F : Hp} {lo st : Int} {n : Nat} : Gives g (Itc lo st n) F ((List.range n).map fun (i : Nat) => D.int (lo + (i : Nat) * st)) := fun i F' H bs s => by
  refine ⟨fun d hd => ?_, fun hl => by rw [List.length_map, List.length_range] at hl; exact Nat.le_of_eq hl.symm⟩
  rw [List.getElem?_map] at hd
  by_cases hi : i < n
  · rw [List.getElem?_range hi] at hd
    cases hd
    exact ⟨hi, fun x H' ⟨e1, e2⟩ => by rw [e1]; exact ⟨F', Step.refl bs, e2⟩⟩
  · rw [List.getElem?_eq_none (by rw [List.length_range]; omega)] at hd
    cases hd
theorem allA1 {F : Hp} {vs : List V} {d : D} (h : All g F [d] vs) : ∃ v, vs = [v] ∧ Is g F d v := by
  obtain ⟨v, r, rfl, iv, rfl⟩ := h
  exact ⟨v, rfl, iv⟩
theorem allA2 {F : Hp} {vs : List V} {d d2 : D} (h : All g F [d, d2] vs) : ∃ v w, vs = [v, w] ∧ Is g F d v ∧ Is g F d2 w := by
  obtain ⟨v, r, rfl, iv, w, r2, rfl, iw, rfl⟩ := h
  exact ⟨v, w, rfl, iv, iw⟩
theorem di_range1 {n : Nat} (hg : Gl X "range") (hm : X.mg "range" = none) (hn : n ≤ 100000) (ha : DE g X a ρ (.int n)) (hs : starEach [a] X.env = [(false, eval a X.env)] := by rfl) :
    DI g X tg (.Call (.Name "range" p) [a] [] pos) ρ ((List.range n).map fun (i : Nat) => D.int (i : Nat)) :=
  PI.wk (pi_range1 hg hm (da_cons ha da_nil hs) hs) fun σ H R ⟨F, rp, q⟩ => ⟨F, rp, fun vs F2 H2 s al => by
    obtain ⟨v, rfl, iv⟩ := allA1 al
    refine ⟨n, by rw [show v = V.int n from iv], by omega, by omega, q F2 H2 _ s ?_⟩
    have h := gives_range (g := g) (F := F2) (lo := 0) (n := n)
    simp only [Int.zero_add] at h
    exact h⟩
theorem di_range2 {lo hi : Int} (hg : Gl X "range") (hm : X.mg "range" = none) (h1 : -100000 ≤ lo) (h2 : lo ≤ 100000) (h3 : -100000 ≤ hi) (h4 : hi ≤ 100000) (ha : DE g X a ρ (.int lo)) (hb : DE g X b ρ (.int hi)) (hs : starEach [a, b] X.env = [(false, eval a X.env), (false, eval b X.env)] := by rfl)
    (hs2 : starEach [b] X.env = [(false, eval b X.env)] := by rfl) : DI g X tg (.Call (.Name "range" p) [a, b] [] pos) ρ ((List.range (hi - lo).toNat).map fun (i : Nat) => D.int (lo + (i : Nat))) :=
  PI.wk (pi_range2 hg hm (da_cons ha (da_cons hb da_nil hs2) (by rw [hs, hs2])) hs hs2) fun σ H R ⟨F, rp, q⟩ => ⟨F, rp, fun vs F2 H2 s al => by
    obtain ⟨v, w, rfl, iv, iw⟩ := allA2 al
    exact ⟨lo, hi, by rw [show v = V.int lo from iv, show w = V.int hi from iw], by omega, q F2 H2 _ s gives_range⟩⟩
/-- range(i, j, -1) -/
theorem di_range3 {lo hi : Int} (hg : Gl X "range") (hm : X.mg "range" = none) (h1 : -100000 ≤ lo) (h2 : lo ≤ 100000) (h3 : -100000 ≤ hi) (h4 : hi ≤ 100000) (ha : DE g X a ρ (.int lo)) (hb : DE g X b ρ (.int hi)) (hc : DE g X c ρ (.int (-1)))
    (hs : starEach [a, b, c] X.env = (false, eval a X.env) :: starEach [b, c] X.env := by rfl) (hs2 : starEach [b, c] X.env = (false, eval b X.env) :: starEach [c] X.env := by rfl) (hs3 : starEach [c] X.env = (false, eval c X.env) :: starEach [] X.env := by rfl)
    (hp : (backTo pos (starEach [b, c] X.env)).any (·.1) = false := by rfl) : DI g X tg (.Call (.Name "range" p) [a, b, c] [] pos) ρ ((List.range (lo - hi).toNat).map fun (i : Nat) => D.int (lo + (i : Nat) * (-1))) :=
  PI.wk (pi_range3 hg hm (da_cons ha (da_cons hb (da_cons hc da_nil hs3) hs2) hs) hs hp) fun σ H R ⟨F, rp, q⟩ => ⟨F, rp, fun vs F2 H2 s al => by
    obtain ⟨v, r, rfl, iv, w, r2, rfl, iw, u, r3, rfl, iu, rfl⟩ := al
    exact ⟨lo, hi, -1, _, by rw [show v = V.int lo from iv, show w = V.int hi from iw, show u = V.int (-1) from iu], RgC.neg (by omega) (by omega) (by omega) (by omega), q F2 H2 _ s gives_rangeC⟩⟩
/-- the signs of a text -/
theorem di_str {x : Str} (he : DE g X e ρ (.str x)) : DI g X tg e ρ (x.cps.toList.map fun c => D.str ⟨#[c]⟩) := PI.wk (pi_str he) fun σ H R ⟨F, rp, q⟩ => ⟨F, rp, fun v F2 H2 s iv => ⟨x, iv, q F2 H2 _ s fun i F' H' bs sb => by
  refine ⟨fun d hd => ?_, fun hl => by show x.cps.size ≤ i; rw [List.length_map] at hl; rw [hl]; simp⟩
  rw [List.getElem?_map] at hd
  cases hc : x.cps[i]? with
  | none => simp [hc] at hd
  | some ch =>
    have e : d = D.str ⟨#[ch]⟩ := by simpa [hc] using hd.symm
    subst e
    refine ⟨(Array.getElem?_eq_some_iff.mp hc).1, fun v H2 ⟨e1, c2, e2, e3⟩ => ?_⟩
    rw [hc] at e2
    cases e2
    rw [e1]
    exact ⟨F', Step.refl bs, e3⟩⟩⟩
/-- enumerate of a list | zip of two lists: each item a new pair -/
theorem gives_pairT {F : Hp} {J : It} {ps : List (D × D)} (hgo : ∀ i F' H, Base g F' H → Sub F F' → ∀ q, ps[i]? = some q → J.go i H ∧ ∀ x H', J.yld i H x H' → ∃ T v w, x = .ref T ∧ H T = none ∧ H' = upd H T (.tup [v, w]) ∧ Is g F' q.1 v ∧ Is g F' q.2 w)
    (hst : ∀ i F' H, Base g F' H → Sub F F' → i = ps.length → J.stop i H) : Gives g J F (ps.map fun q => D.tup [q.1, q.2]) := fun i F' H bs s => by
  refine ⟨fun d hd => ?_, fun hl => hst i F' H bs s (by rw [List.length_map] at hl; exact hl)⟩
  rw [List.getElem?_map] at hd
  cases hq : ps[i]? with
  | none => rw [hq] at hd; cases hd
  | some q =>
    rw [hq] at hd
    cases hd
    obtain ⟨h1, h2⟩ := hgo i F' H bs s q hq
    refine ⟨h1, fun x H' hy => ?_⟩
    obtain ⟨T, v, w, rfl, hT, rfl, iv, iw⟩ := h2 x H' hy
    have st := Step.alloc (o := .tup [v, w]) bs hT (fun ps z => by cases z)
    exact ⟨_, st, T, [v, w], rfl, upd_same, .cons (st.is iv) (.cons (st.is iw) .nil)⟩
end
end DL
end
section
/-! Data logic: stores, several targets, defs. -/
namespace DL
open PySem PySem.Spec PyProof.Rows L2
section
variable {g : Gx} {S : Sy g} {F0 H0 : Hp} {X : Cx} {ρ : Env} {z : S.ζ} {P : DEnds S.ζ} {a b c e : Expr} {d d1 d2 d3 : D} {xs ys : List D} {pos : Pos} {r : R2}
/-! ### a, b = .. -/
theorem ds_par {i j : Nat} {x y : Str} {px py pt pt2 : Pos} {kt k2 : Nat} (hc : X.calm = true) (hN : X.N.Nodup) (hi : X.N[i]? = some x) (hj : X.N[j]? = some y) (hij : i ≠ j) (hx : X.env.scope.names.lookup x = some .local) (hy : X.env.scope.names.lookup y = some .local)
    (ha : DE g X a ρ d1) (hb : DE g X b ρ d2) (hw : swappedStores [.Tuple [.Name x px, .Name y py] kt pt] (.Tuple [a, b] k2 pt2) X.env = pure (some [x, y])) (n : P.nx ((ρ.set i (.sh d1)).set j (.sh d2)) z)
    (hs : swapsWithSole [.Tuple [.Name x px, .Name y py] kt pt] (.Tuple [a, b] k2 pt2) pos.line X.env = pure false := by rfl) (h1 : starEach [a, b] X.env = (false, eval a X.env) :: starEach [b] X.env := by rfl) (h2 : starEach [b] X.env = (false, eval b X.env) :: starEach [] X.env := by rfl) :
    DS S F0 H0 X (.Assign [.Tuple [.Name x px, .Name y py] kt pt] (.Tuple [a, b] k2 pt2) pos) ρ z P :=
  PS.wk (ps_par hc hN hi hj hij hx hy (da_cons ha (da_cons hb da_nil h2) h1) hw hs) fun E σ H ⟨F, r, hn, _⟩ => ⟨F, r.e, fun vs F2 H2 s al => by
    obtain ⟨v, w, rfl, iv, iw⟩ := allA2 al
    exact ⟨v, w, rfl, hn _ z _ F2 H2 n (((r.step s).sh iv).sh iw) s.sub⟩⟩
theorem ds_par3 {i j l : Nat} {x y w : Str} {px py pz pt pt2 : Pos} {kt k2 : Nat} (hc : X.calm = true) (hN : X.N.Nodup) (hi : X.N[i]? = some x) (hj : X.N[j]? = some y) (hl : X.N[l]? = some w) (hij : i ≠ j) (hil : i ≠ l) (hjl : j ≠ l) (hx : X.env.scope.names.lookup x = some .local) (hy : X.env.scope.names.lookup y = some .local)
    (hz : X.env.scope.names.lookup w = some .local) (ha : DE g X a ρ d1) (hb : DE g X b ρ d2) (hcc : DE g X c ρ d3) (hw : swappedStores [.Tuple [.Name x px, .Name y py, .Name w pz] kt pt] (.Tuple [a, b, c] k2 pt2) X.env = pure (some [x, y, w])) (n : P.nx (((ρ.set i (.sh d1)).set j (.sh d2)).set l (.sh d3)) z)
    (hs : swapsWithSole [.Tuple [.Name x px, .Name y py, .Name w pz] kt pt] (.Tuple [a, b, c] k2 pt2) pos.line X.env = pure false := by rfl) (h1 : starEach [a, b, c] X.env = (false, eval a X.env) :: starEach [b, c] X.env := by rfl) (h2 : starEach [b, c] X.env = (false, eval b X.env) :: starEach [c] X.env := by rfl)
    (h3 : starEach [c] X.env = (false, eval c X.env) :: starEach [] X.env := by rfl) : DS S F0 H0 X (.Assign [.Tuple [.Name x px, .Name y py, .Name w pz] kt pt] (.Tuple [a, b, c] k2 pt2) pos) ρ z P :=
  PS.wk (L2.ps_par3 hc hN hi hj hl hij hil hjl hx hy hz (da_cons ha (da_cons hb (da_cons hcc da_nil h3) h2) h1) hw hs) fun E σ H ⟨F, r, hn, _⟩ => ⟨F, r.e, fun vs F2 H2 s al => by
    obtain ⟨v, r1, rfl, iv, w, r2, rfl, iw, u, r3, rfl, iu, rfl⟩ := al
    exact ⟨v, w, u, rfl, hn _ z _ F2 H2 n ((((r.step s).sh iv).sh iw).sh iu) s.sub⟩⟩
/-- the first a new list of one's own -/
theorem ds_parN {i j : Nat} {x y : Str} {px py pt pt2 : Pos} {kt k2 : Nat} (hc : X.calm = true) (hN : X.N.Nodup) (hi : X.N[i]? = some x) (hj : X.N[j]? = some y) (hij : i ≠ j) (hx : X.env.scope.names.lookup x = some .local) (hy : X.env.scope.names.lookup y = some .local)
    (ha : DN g X a ρ xs) (hb : DE g X b ρ d2) (hw : swappedStores [.Tuple [.Name x px, .Name y py] kt pt] (.Tuple [a, b] k2 pt2) X.env = pure (some [x, y])) (n : P.nx ((ρ.set i (.own xs)).set j (.sh d2)) z)
    (hs : swapsWithSole [.Tuple [.Name x px, .Name y py] kt pt] (.Tuple [a, b] k2 pt2) pos.line X.env = pure false := by rfl) (h1 : starEach [a, b] X.env = (false, eval a X.env) :: starEach [b] X.env := by rfl) (h2 : starEach [b] X.env = (false, eval b X.env) :: starEach [] X.env := by rfl) :
    DS S F0 H0 X (.Assign [.Tuple [.Name x px, .Name y py] kt pt] (.Tuple [a, b] k2 pt2) pos) ρ z P := by
  refine PS.wk (ps_par hc hN hi hj hij hx hy (pa_cons ha (pa_cons hb pa_nil h2) h1) hw hs) fun E σ H ⟨F, r, hn, _⟩ => ⟨F, r.e, fun a vs F1 H1 s1 ha f1 h1 al => ⟨F1, r.e.step s1, fun v F2 H2 s2 iv => ?_⟩⟩
  have k : F2 a = none := by
    cases hz : F2 a with
    | none => rfl
    | some o =>
      rcases s2.new a o hz with q | q
      · rw [f1] at q; cases q
      · rw [h1] at q; cases q
  exact ⟨.ref a, v, rfl, hn _ z _ F2 H2 n ((r.owN (s1.trans s2) ha k (s2.ext a _ h1 fun ps z => by cases z) (s2.all al)).sh iv) (s1.sub.trans s2.sub)⟩

/-! ### x op= e -/
theorem ds_aug {op : Operator} {i : Nat} {x : Str} {pos' : Pos} (ho : OpR X (inplaceOp op) r) (hN : X.N.Nodup) (hi : X.N[i]? = some x) (hx : Loc X.env.scope x) (h : ρ[i]? = some (.sh d1)) (he : DE g X e ρ d2) (hr : OpD g r d1 d2 d3) (n : P.nx (ρ.set i (.sh d3)) z)
    (hf : X.fn x = true ∨ X.env.scope.names.lookup x = some .local := by first | exact .inl rfl | exact .inr rfl | assumption) : DS S F0 H0 X (.AugAssign (.Name x pos') op e pos) ρ z P :=
  PS.wk (ps_aug (ti := r) hN hi hx he ho hf) fun E σ H ⟨F, rp, hn, _⟩ => by
    obtain ⟨o, e1, v, rfl, iv⟩ := rp.e.at h
    refine ⟨v, e1, F, rp.e, fun w F2 H2 s iw => ?_⟩
    exact hr F2 H2 v w s.base (.inl (s.is iv)) (.inl iw) _ fun u F3 H3 s3 iu => hn _ z _ F3 H3 n (((rp.step s).step s3).sh iu) (s.sub.trans s3.sub)
theorem ds_augAdd {i : Nat} {x : Str} {pos' : Pos} {p q : Int} (hN : X.N.Nodup) (hi : X.N[i]? = some x) (hx : Loc X.env.scope x) (h : ρ[i]? = some (.sh (.int p))) (he : DE g X e ρ (.int q)) (n : P.nx (ρ.set i (.sh (.int (p + q)))) z)
    (hf : X.fn x = true ∨ X.env.scope.names.lookup x = some .local := by first | exact .inl rfl | exact .inr rfl | assumption) : DS S F0 H0 X (.AugAssign (.Name x pos') .Add e pos) ρ z P :=
  ds_aug (d3 := .int (p + q)) iop_add hN hi hx h he (opd_I0 fun _ => rfl) n hf
theorem ds_augDiv {i : Nat} {x : Str} {pos' : Pos} {p q : Int} (hc : CDiv p q) (hN : X.N.Nodup) (hi : X.N[i]? = some x) (hx : Loc X.env.scope x) (h : ρ[i]? = some (.sh (.int p))) (he : DE g X e ρ (.int q)) (n : P.nx (ρ.set i (.sh (.int (p / q)))) z)
    (hf : X.fn x = true ∨ X.env.scope.names.lookup x = some .local := by first | exact .inl rfl | exact .inr rfl | assumption) : DS S F0 H0 X (.AugAssign (.Name x pos') .FloorDiv e pos) ρ z P :=
  ds_aug (d3 := .int (p / q)) iop_fdiv hN hi hx h he (opd_I hc fun _ => rfl) n hf

/-! ### own lists -/
theorem own_at {F H : Hp} {σ : L2.St} {i : Nat} (rp : RepS S F0 H0 F H ρ z σ) (h : ρ[i]? = some (.own xs)) : ∃ l vs, σ[i]? = some (some (.ref l)) ∧ F l = none ∧ H l = some (.lst vs) ∧ All g F xs vs := by
  obtain ⟨o, e1, v, rfl, l, vs, rfl, h1, h2, h3⟩ := rp.e.at h
  exact ⟨l, vs, e1, h1, h2, h3⟩
theorem step_own {F H F2 H2 : Hp} {l : Addr} {vs : List V} (s : Step g F H F2 H2) (f : F l = none) (h : H l = some (.lst vs)) : F2 l = none ∧ H2 l = some (.lst vs) := by
  refine ⟨?_, s.ext l _ h fun ps z => by cases z⟩
  cases hz : F2 l with
  | none => rfl
  | some o =>
    rcases s.new l o hz with q | q
    · rw [f] at q; cases q
    · rw [h] at q; cases q
/-- x.append(e) -/
theorem ds_append {i : Nat} {x : Str} {p1 apos cpos : Pos} (h : ρ[i]? = some (.own xs)) (hN : X.N[i]? = some x) (hv : Vis X.env.scope x) (he : DE g X e ρ d) (hl : xs.length < 1000) (n : P.nx (ρ.set i (.own (xs ++ [d]))) z)
    (hd : (x == ("__debug__" : Str)) = false := by decide) (hcd : (x == ("__classdict__" : Str)) = false := by decide) (hb : attributeBase (.Name x p1) "append" X.env (eval (.Name x p1) X.env) = eval (.Name x p1) X.env := by rfl)
    (h1 : starEach [e] X.env = (false, eval e X.env) :: starEach [] X.env := by rfl) (h2 : (apos.endLine == cpos.line) = true := by rfl) (h3 : swapsWith (.Call (.Attribute (.Name x p1) "append" apos) [e] [] cpos) none pos.line X.env = pure false := by rfl)
    (h4 : (((backTo cpos (starEach [e] X.env)).all fun x => !x.fst) && (backToKw cpos (keywordEach [] X.env)).all (fun x => x.fst.isSome) && decide (([e].length + ([] : List Keyword).length + if ([] : List Keyword).isEmpty = true then 0 else 1) < 30)) = true := by rfl)
    (h5 : ((backTo cpos (starEach [] X.env)).any fun x => x.fst) = false := by rfl) : DS S F0 H0 X (.Expr (.Call (.Attribute (.Name x p1) "append" apos) [e] [] cpos) pos) ρ z P := by
  refine PS.wk (ps_expr (pe_bm PySem.F.plainAttrs_list PySem.F.slot_list_append PySem.F.type_list_append mt_append (pe_var hN hv hd hcd) (pa_cons he pa_nil h1) hb h4 h2 h1 h5) h3) fun E σ H ⟨F, rp, hn, _⟩ => ?_
  obtain ⟨l, vs, e1, f1, h1, al⟩ := own_at rp h
  refine ⟨.ref l, e1, .inl ⟨rfl, vs, SqL.of h1⟩, F, rp.e, fun v F2 H2 s iv => ?_⟩
  obtain ⟨f2, h2⟩ := step_own s f1 h1
  refine ⟨l, vs, v, rfl, rfl, h2, small1000 (by rw [al.len]; omega), ?_⟩
  exact hn _ z _ F2 _ n ((rp.step s).mut h e1 ((s.all al).app (.cons iv .nil))) s.sub
/-- x[k] = e -/
theorem ds_setix {i j : Nat} {x : Str} {p1 p2 : Pos} {ix : Expr} {k : Int} (h : ρ[i]? = some (.own xs)) (hN : X.N[i]? = some x) (hv : Vis X.env.scope x) (he : DE g X e ρ d) (hix : DE g X ix ρ (.int k)) (hk : ixN xs.length k = some j) (n : P.nx (ρ.set i (.own (xs.set j d))) z)
    (hd : (x == ("__debug__" : Str)) = false := by decide) (hcd : (x == ("__classdict__" : Str)) = false := by decide)
    (ha : ∀ v, assign (.Subscript (.Name x p1) ix p2) X.env v = (do let ov ← holding [v] (eval (.Name x p1) X.env); let iv ← holding [v, ov] (eval ix X.env); standAt p2; holding [v, ov, iv] (setItem ov iv v); release [v, ov, iv] []) := by intro _; rfl)
    (hs : swapsWithSole [.Subscript (.Name x p1) ix p2] e pos.line X.env = pure false := by rfl) (hw : swappedStores [.Subscript (.Name x p1) ix p2] e X.env = pure none := by rfl)
    (ht : List.map (fun x => x.snd) (assignEach [.Subscript (.Name x p1) ix p2] X.env) = [assign (.Subscript (.Name x p1) ix p2) X.env] := by rfl) : DS S F0 H0 X (.Assign [.Subscript (.Name x p1) ix p2] e pos) ρ z P := by
  refine PS.wk (ps_asg he (pg_sub (pe_var hN hv hd hcd) hix set_list ha) hs hw ht) fun E σ H ⟨F, rp, hn, _⟩ => ⟨F, rp.e, fun v F1 H1 s1 iv => ?_⟩
  obtain ⟨l, vs, e1, f0, h0, al⟩ := own_at rp h
  refine ⟨.ref l, e1, F1, rp.e.step s1, fun w F2 H2 s2 iw => ?_⟩
  obtain ⟨f2, h2⟩ := step_own (s1.trans s2) f0 h0
  refine ⟨l, vs, k, j, rfl, iw, h2, by rw [al.len]; exact hk, ?_⟩
  exact hn _ z _ F2 _ n (((rp.step s1).step s2).mut h e1 (((s1.trans s2).all al).set j (s2.is iv))) (s1.sub.trans s2.sub)
/-- x[k] += e, ints -/
theorem get_list : PGet X (rIxL X.K) := by
  intro pins s σ H o i ov iv Q I ro ri h
  obtain ⟨p, xs, k, v, rfl, rfl, hq, he, q⟩ := h
  cases ro
  obtain ⟨t, rfl⟩ := ri
  obtain ⟨its, r, pl, hz⟩ := I.list hq
  obtain ⟨j, h1, h2, h3, h4, h5⟩ := atI_get he
  obtain ⟨w, ew, rw'⟩ := r.get h2
  have hl := r.length
  have hn := line63
  by_cases h0 : 0 ≤ k
  · have hj : k.toNat = j := by
      rw [seqIndex_of h0 h5] at h1
      exact Option.some.inj h1
    exact wpAny_getItem_list pl.isList h0 (by omega) (by rw [hj]; simpa using ew) ⟨v, H, I, rw', q⟩
  · have hj : (k + (its.toArray.size : Int)).toNat = j := by
      rw [seqIndex_neg (by omega) h4] at h1
      rw [List.size_toArray, ← hl]
      exact Option.some.inj h1
    exact wpAny_getItem_list_neg pl.isList (by omega) (by rw [List.size_toArray] <;> omega) (by omega) (by rw [hj]; simpa using ew) ⟨v, H, I, rw', q⟩
theorem ds_augix {i j : Nat} {x : Str} {p1 p2 : Pos} {ix : Expr} {k m q : Int} (h : ρ[i]? = some (.own xs)) (hN : X.N[i]? = some x) (hv : Vis X.env.scope x) (hix : DE g X ix ρ (.int k)) (hk : ixN xs.length k = some j) (hm : xs[j]? = some (.int m)) (he : DE g X e ρ (.int q)) (n : P.nx (ρ.set i (.own (xs.set j (.int (m + q))))) z)
    (hd : (x == ("__debug__" : Str)) = false := by decide) (hcd : (x == ("__classdict__" : Str)) = false := by decide)
    (ha : ∀ ov iv new : Value, augStore ix ov iv new = (do holding [new, ov, iv] (setItem ov iv new); release [new, ov, iv] []; pure .next) := by intros; rfl) :
    DS S F0 H0 X (.AugAssign (.Subscript (.Name x p1) ix p2) .Add e pos) ρ z P := by
  refine PS.wk (ps_augS (tget := rIxL X.K) (tip := rI0 fun i j => .int (i + j)) (tset := rSetL) (pe_var hN hv hd hcd) hix get_list he iop_add set_list ha) fun E σ H ⟨F, rp, hn, _⟩ => ?_
  obtain ⟨l, vs, e1, f0, h0, al⟩ := own_at rp h
  refine ⟨.ref l, e1, F, rp.e, fun w F1 H1 s1 iw => ?_⟩
  obtain ⟨f1, h1⟩ := step_own s1 f0 h0
  obtain ⟨v, hv2, iv⟩ := al.get hm
  have ev : v = .int m := iv
  have hj : atI vs k = some v := by
    unfold atI
    rw [al.len, hk]
    exact hv2
  refine ⟨l, vs, k, v, rfl, iw, SqL.of h1, hj, F1, rp.e.step s1, fun y F2 H2 s2 iy => ?_⟩
  obtain ⟨f2, h2⟩ := step_own s2 f1 h1
  refine ⟨m, q, ev, iy, ?_⟩
  refine ⟨l, vs, k, j, rfl, iw, h2, by rw [al.len]; exact hk, ?_⟩
  exact hn _ z _ F2 _ n (((rp.step s1).step s2).mut h e1 (((s1.trans s2).all al).set j rfl)) (s1.sub.trans s2.sub)
/-- x.extend(e): a list of one's own, or data -/
theorem ds_extend {i : Nat} {x : Str} {p1 apos cpos : Pos} (h : ρ[i]? = some (.own xs)) (hN : X.N[i]? = some x) (hv : Vis X.env.scope x) (he : DE g X e ρ (.lst ys)) (hl : xs.length + ys.length ≤ 1000) (n : P.nx (ρ.set i (.own (xs ++ ys))) z)
    (hd : (x == ("__debug__" : Str)) = false := by decide) (hcd : (x == ("__classdict__" : Str)) = false := by decide) (hb : attributeBase (.Name x p1) "extend" X.env (eval (.Name x p1) X.env) = eval (.Name x p1) X.env := by rfl)
    (h1 : starEach [e] X.env = (false, eval e X.env) :: starEach [] X.env := by rfl) (h2 : (apos.endLine == cpos.line) = true := by rfl) (h3 : swapsWith (.Call (.Attribute (.Name x p1) "extend" apos) [e] [] cpos) none pos.line X.env = pure false := by rfl)
    (h4 : (((backTo cpos (starEach [e] X.env)).all fun x => !x.fst) && (backToKw cpos (keywordEach [] X.env)).all (fun x => x.fst.isSome) && decide (([e].length + ([] : List Keyword).length + if ([] : List Keyword).isEmpty = true then 0 else 1) < 30)) = true := by rfl)
    (h5 : ((backTo cpos (starEach [] X.env)).any fun x => x.fst) = false := by rfl) : DS S F0 H0 X (.Expr (.Call (.Attribute (.Name x p1) "extend" apos) [e] [] cpos) pos) ρ z P := by
  refine PS.wk (ps_expr (pe_bm PySem.F.plainAttrs_list PySem.F.slot_list_extend PySem.F.type_list_extend mt_extend (pe_var hN hv hd hcd) (pa_cons he pa_nil h1) hb h4 h2 h1 h5) h3) fun E σ H ⟨F, rp, hn, _⟩ => ?_
  obtain ⟨l, vs, e1, f1, h1, al⟩ := own_at rp h
  refine ⟨.ref l, e1, .inl ⟨rfl, vs, SqL.of h1⟩, F, rp.e, fun v F2 H2 s iv => ?_⟩
  obtain ⟨f2, h2⟩ := step_own s f1 h1
  obtain ⟨a, ws, rfl, ha, alw⟩ := iv
  refine ⟨l, a, vs, ws, rfl, rfl, h2, s.base.sub _ _ ha, Nat.le_of_lt (small1000 (by rw [al.len, alw.len]; exact hl)), ?_⟩
  exact hn _ z _ F2 _ n ((rp.step s).mut h e1 ((s.all al).app alw)) s.sub
end

/-! ### defs -/
def envOf (N : List Str) (ds : List D) : Env := ds.map Slot.sh ++ List.replicate (N.length - ds.length) Slot.un
theorem all_at {g : Gx} {F : Hp} {ds : List D} {vs : List V} {i : Nat} {v : V} (h : All g F ds vs) (hv : vs[i]? = some v) : ∃ d, ds[i]? = some d ∧ Is g F d v := h.getV hv
theorem rep_start {g : Gx} {F H : Hp} {N : List Str} {ds : List D} {vs : List V} (b : Base g F H) (al : All g F ds vs) : RepE g F H (envOf N ds) (L2.start N vs) := by
  have hl := al.len
  refine ⟨b, by simp [envOf, L2.start, hl], fun i sl o h1 h2 => ?_⟩
  unfold envOf at h1
  unfold L2.start at h2
  by_cases hi : i < ds.length
  · rw [List.getElem?_append_left (by rw [List.length_map]; exact hi), List.getElem?_map, List.getElem?_eq_getElem hi] at h1
    rw [List.getElem?_append_left (by rw [List.length_map, hl]; exact hi), List.getElem?_map] at h2
    cases h1
    obtain ⟨v, hv, iv⟩ := al.get (List.getElem?_eq_getElem hi)
    rw [hv] at h2
    cases h2
    exact ⟨v, rfl, iv⟩
  · rw [List.getElem?_append_right (by rw [List.length_map]; omega)] at h1
    have hm := List.mem_of_getElem? h1
    rw [List.eq_of_mem_replicate hm]
    trivial
/-- the context of a def's body -/
abbrev bodyX (P : Program) (w : World) (K : PySem.W.Frag) (mg : Str → Option Value) (base : Heap) (N : List Str) (qual : Str) (sc : Scope) (f : Addr) (cdv : Value) (A : Around) (outer : List PySem.Env) (s : Shared) (H : Hp) (E : XK) : Cx :=
  (cxOf CX0 P w K mg base N qual sc f cdv A outer s H E).nox
/-- a def's promise in data, by its body -/
theorem fnD {g : Gx} {P : Program} {w : World} {K : PySem.W.Frag} {mg : Str → Option Value} {base : Heap} {x qual : Str} {st : Stmt} {f : Addr} {fd : FuncData} {N ps : List Str} {k : Nat} {R : List D → D → Prop} (Fn : Fun K x qual st f fd) (sc : FnScope N ps (defScope st)) (hl : ∀ ds d, R ds d → ds.length = ps.length)
    (hb : ∀ (cdv : Value) (A : Around) (outer : List PySem.Env) (s : Shared) (H : Hp) (E : XK) (F0 H0 : Hp) (ds : List D) (d : D), Room k (A.deeper (envOfC qual (defScope st) s.heap.objs.size f cdv)) → R ds d →
      DSs (sy0 g) F0 H0 (bodyX P w K mg base N qual (defScope st) f cdv A outer s H E) (defBody st) (envOf N ds) () ⟨fun _ _ => d = .non, fun d' _ => d' = d, fun _ _ => False, fun _ _ => False⟩) : FnOk P w K mg base CX0 (k + 1) f fd ps (spD g R) := by
  refine Fn.ok sc (fun vs H Q E h => ?_) (fun cdv A outer s H vs Q E hr h => ?_)
  · obtain ⟨F, ds, d, b, al, hR, _⟩ := h
    rw [al.len]
    exact hl ds d hR
  · obtain ⟨F, ds, d, b, al, hR, q⟩ := h
    refine ⟨_, hb cdv A outer s H E F H ds d hr hR, F, RepS.start b (rep_start b al) (fun sl h xs e => ?_) (fun a h => absurd h List.not_mem_nil) True.intro, ?_, ?_, fun _ _ _ _ _ h => h.elim, fun _ _ _ _ _ h => h.elim⟩
    · subst e
      rcases List.mem_append.mp h with h | h
      · obtain ⟨d, _, hd⟩ := List.mem_map.mp h
        cases hd
      · cases List.eq_of_mem_replicate h
    · intro ρ' z' σ' F' H' e r _
      exact q .non F' H' r.r.plain (by rw [e]; rfl)
    · intro d' z' v F' H' e r iv
      exact q v F' H' r.plain (e ▸ iv)
end DL
end
section
/-! Data logic: comprehensions by their usual forms. -/
namespace DL
open PySem PySem.Spec PyProof.Rows L2
section
variable {g : Gx} {ρ : Env} {X : Cx} {α : Type} {elt iter : Expr} {scope : Scope} {pos : Pos} {ts : List α} {mk e : α → D}
theorem filter_yes (ts : List α) : ts.filter (fun _ => true) = ts := by
  rw [List.filter_eq_self]
  intro a _
  rfl
abbrev bl (X : Cx) (s : Shared) (H : Hp) (scope : Scope) (C : Addr) (cl : List (Str × Addr)) (fp : List Addr) : Cx := X.blk s H scope (compEnvC scope cl C X.env) fp
theorem Lc.of1 {y : Str} {py : Pos} {j : Nat} {c : Expr} {b : α → Bool} (hg : ∀ s H C cl fp, PG (bl X s H scope C cl fp) (.Name y py) (gName j))
    (ht : ∀ s H C cl fp, ∀ t ∈ ts, DT g (bl X s H scope C cl fp) c ((wipeD ρ [j]).set j (.sh (mk t))) (b t)) (he : ∀ s H C cl fp, ∀ t ∈ ts, b t = true → DE g (bl X s H scope C cl fp) elt ((wipeD ρ [j]).set j (.sh (mk t))) (e t)) (hs : ts.length ≤ 1000) :
    Lc g X ρ elt (.Name y py) [c] scope [j] (gName j) ts mk (fun t => [(j, mk t)]) b e :=
  ⟨fun t _ => tgt_name j (mk t), fun t _ i hi => hi, hg, fun s H C cl fp t ht' => pts_one (ht s H C cl fp t ht'), he, hs⟩
theorem Lc.of0 {y : Str} {py : Pos} {j : Nat} (hg : ∀ s H C cl fp, PG (bl X s H scope C cl fp) (.Name y py) (gName j))
    (he : ∀ s H C cl fp, ∀ t ∈ ts, DE g (bl X s H scope C cl fp) elt ((wipeD ρ [j]).set j (.sh (mk t))) (e t)) (hs : ts.length ≤ 1000) :
    Lc g X ρ elt (.Name y py) [] scope [j] (gName j) ts mk (fun t => [(j, mk t)]) (fun _ => true) e :=
  ⟨fun t _ => tgt_name j (mk t), fun t _ i hi => hi, hg, fun s H C cl fp t _ => ⟨fun pins s1 σ H1 Q I ⟨F, rp, q⟩ => pts_nil.run pins s1 σ H1 Q I (q F H1 (Step.refl rp.base))⟩, fun s H C cl fp t ht _ => he s H C cl fp t ht, hs⟩
/-- [elt for y in iter] -/
theorem dn_map {y : Str} {py : Pos} {j : Nat} (hc : X.calm = true) (hN : X.N.Nodup) (hi : DI g X (.Name y py) iter ρ (ts.map mk)) (ok : BlkOk X.N X.env.scope scope [(y, j)]) (hg : ∀ s H C cl fp, PG (bl X s H scope C cl fp) (.Name y py) (gName j))
    (he : ∀ s H C cl fp, ∀ t ∈ ts, DE g (bl X s H scope C cl fp) elt ((wipeD ρ [j]).set j (.sh (mk t))) (e t)) (hs : ts.length ≤ 1000) (hf : ∀ x, foldedSetIterable iter X.env x = pure x := by intro _; rfl) :
    DN g X (.ListComp elt [⟨.Name y py, iter, [], 0⟩] scope pos) ρ (ts.map e) := by
  have h := dn_lc (pos := pos) (own := [(y, j)]) hc hN hi ok (Lc.of0 hg he hs) hf
  rw [filter_yes] at h
  exact h
/-- [elt for y in iter if c] -/
theorem dn_mapIf {y : Str} {py : Pos} {j : Nat} {c : Expr} {b : α → Bool} (hc : X.calm = true) (hN : X.N.Nodup) (hi : DI g X (.Name y py) iter ρ (ts.map mk)) (ok : BlkOk X.N X.env.scope scope [(y, j)]) (hg : ∀ s H C cl fp, PG (bl X s H scope C cl fp) (.Name y py) (gName j))
    (ht : ∀ s H C cl fp, ∀ t ∈ ts, DT g (bl X s H scope C cl fp) c ((wipeD ρ [j]).set j (.sh (mk t))) (b t)) (he : ∀ s H C cl fp, ∀ t ∈ ts, b t = true → DE g (bl X s H scope C cl fp) elt ((wipeD ρ [j]).set j (.sh (mk t))) (e t)) (hs : ts.length ≤ 1000) (hf : ∀ x, foldedSetIterable iter X.env x = pure x := by intro _; rfl) :
    DN g X (.ListComp elt [⟨.Name y py, iter, [c], 0⟩] scope pos) ρ ((ts.filter b).map e) := dn_lc (own := [(y, j)]) hc hN hi ok (Lc.of1 hg ht he hs) hf
/-- targets y, w: pairs -/
theorem Lc.pair0 {n : Nat} {tpos : Pos} {e1 e2 : Expr} {i j : Nat} {f1 f2 : α → D} (hg : ∀ s H C cl fp, PG (bl X s H scope C cl fp) (.Tuple [e1, e2] n tpos) (gTup X.K 2 (gCons (gName i) (gCons (gName j) gNil))))
    (he : ∀ s H C cl fp, ∀ t ∈ ts, DE g (bl X s H scope C cl fp) elt (((wipeD ρ [i, j]).set i (.sh (f1 t))).set j (.sh (f2 t))) (e t)) (hs : ts.length ≤ 1000) :
    Lc g X ρ elt (.Tuple [e1, e2] n tpos) [] scope [i, j] (gTup X.K 2 (gCons (gName i) (gCons (gName j) gNil))) ts (fun t => .tup [f1 t, f2 t]) (fun t => [(i, f1 t), (j, f2 t)]) (fun _ => true) e :=
  ⟨fun t _ => tgt_tup2 i j _ _, fun t _ i hi => hi, hg, fun s H C cl fp t _ => ⟨fun pins s1 σ H1 Q I ⟨F, rp, q⟩ => pts_nil.run pins s1 σ H1 Q I (q F H1 (Step.refl rp.base))⟩, fun s H C cl fp t ht _ => he s H C cl fp t ht, hs⟩
theorem dn_map2 {n : Nat} {tpos : Pos} {e1 e2 : Expr} {y1 y2 : Str} {i j : Nat} {f1 f2 : α → D} (hc : X.calm = true) (hN : X.N.Nodup) (hi : DI g X (.Tuple [e1, e2] n tpos) iter ρ (ts.map fun t => .tup [f1 t, f2 t])) (ok : BlkOk X.N X.env.scope scope [(y1, i), (y2, j)])
    (hg : ∀ s H C cl fp, PG (bl X s H scope C cl fp) (.Tuple [e1, e2] n tpos) (gTup X.K 2 (gCons (gName i) (gCons (gName j) gNil))))
    (he : ∀ s H C cl fp, ∀ t ∈ ts, DE g (bl X s H scope C cl fp) elt (((wipeD ρ [i, j]).set i (.sh (f1 t))).set j (.sh (f2 t))) (e t)) (hs : ts.length ≤ 1000) (hf : ∀ x, foldedSetIterable iter X.env x = pure x := by intro _; rfl) :
    DN g X (.ListComp elt [⟨.Tuple [e1, e2] n tpos, iter, [], 0⟩] scope pos) ρ (ts.map e) := by
  have h := dn_lc (pos := pos) (own := [(y1, i), (y2, j)]) hc hN hi ok (Lc.pair0 hg he hs) hf
  rw [filter_yes] at h
  exact h
/-- targets of three names; a test -/
theorem Lc.tri1 {n : Nat} {tpos : Pos} {e1 e2 e3 c : Expr} {i j k : Nat} {f1 f2 f3 : α → D} {b : α → Bool} (hg : ∀ s H C cl fp, PG (bl X s H scope C cl fp) (.Tuple [e1, e2, e3] n tpos) (gTup X.K 3 (gCons (gName i) (gCons (gName j) (gCons (gName k) gNil)))))
    (ht : ∀ s H C cl fp, ∀ t ∈ ts, DT g (bl X s H scope C cl fp) c ((((wipeD ρ [i, j, k]).set i (.sh (f1 t))).set j (.sh (f2 t))).set k (.sh (f3 t))) (b t))
    (he : ∀ s H C cl fp, ∀ t ∈ ts, b t = true → DE g (bl X s H scope C cl fp) elt ((((wipeD ρ [i, j, k]).set i (.sh (f1 t))).set j (.sh (f2 t))).set k (.sh (f3 t))) (e t)) (hs : ts.length ≤ 1000) :
    Lc g X ρ elt (.Tuple [e1, e2, e3] n tpos) [c] scope [i, j, k] (gTup X.K 3 (gCons (gName i) (gCons (gName j) (gCons (gName k) gNil)))) ts (fun t => .tup [f1 t, f2 t, f3 t]) (fun t => [(i, f1 t), (j, f2 t), (k, f3 t)]) b e :=
  ⟨fun t _ => tgt_tup3 i j k _ _ _, fun t _ i hi => hi, hg, fun s H C cl fp t ht' => pts_one (ht s H C cl fp t ht'), he, hs⟩
theorem dn_map3If {n : Nat} {tpos : Pos} {e1 e2 e3 c : Expr} {y1 y2 y3 : Str} {i j k : Nat} {f1 f2 f3 : α → D} {b : α → Bool} (hc : X.calm = true) (hN : X.N.Nodup) (hi : DI g X (.Tuple [e1, e2, e3] n tpos) iter ρ (ts.map fun t => .tup [f1 t, f2 t, f3 t])) (ok : BlkOk X.N X.env.scope scope [(y1, i), (y2, j), (y3, k)])
    (hg : ∀ s H C cl fp, PG (bl X s H scope C cl fp) (.Tuple [e1, e2, e3] n tpos) (gTup X.K 3 (gCons (gName i) (gCons (gName j) (gCons (gName k) gNil)))))
    (ht : ∀ s H C cl fp, ∀ t ∈ ts, DT g (bl X s H scope C cl fp) c ((((wipeD ρ [i, j, k]).set i (.sh (f1 t))).set j (.sh (f2 t))).set k (.sh (f3 t))) (b t))
    (he : ∀ s H C cl fp, ∀ t ∈ ts, b t = true → DE g (bl X s H scope C cl fp) elt ((((wipeD ρ [i, j, k]).set i (.sh (f1 t))).set j (.sh (f2 t))).set k (.sh (f3 t))) (e t)) (hs : ts.length ≤ 1000) (hf : ∀ x, foldedSetIterable iter X.env x = pure x := by intro _; rfl) :
    DN g X (.ListComp elt [⟨.Tuple [e1, e2, e3] n tpos, iter, [c], 0⟩] scope pos) ρ ((ts.filter b).map e) := dn_lc (own := [(y1, i), (y2, j), (y3, k)]) hc hN hi ok (Lc.tri1 hg ht he hs) hf
theorem Lc.tri0 {n : Nat} {tpos : Pos} {e1 e2 e3 : Expr} {i j k : Nat} {f1 f2 f3 : α → D} (hg : ∀ s H C cl fp, PG (bl X s H scope C cl fp) (.Tuple [e1, e2, e3] n tpos) (gTup X.K 3 (gCons (gName i) (gCons (gName j) (gCons (gName k) gNil)))))
    (he : ∀ s H C cl fp, ∀ t ∈ ts, DE g (bl X s H scope C cl fp) elt ((((wipeD ρ [i, j, k]).set i (.sh (f1 t))).set j (.sh (f2 t))).set k (.sh (f3 t))) (e t)) (hs : ts.length ≤ 1000) :
    Lc g X ρ elt (.Tuple [e1, e2, e3] n tpos) [] scope [i, j, k] (gTup X.K 3 (gCons (gName i) (gCons (gName j) (gCons (gName k) gNil)))) ts (fun t => .tup [f1 t, f2 t, f3 t]) (fun t => [(i, f1 t), (j, f2 t), (k, f3 t)]) (fun _ => true) e :=
  ⟨fun t _ => tgt_tup3 i j k _ _ _, fun t _ i hi => hi, hg, fun s H C cl fp t _ => ⟨fun pins s1 σ H1 Q I ⟨F, rp, q⟩ => pts_nil.run pins s1 σ H1 Q I (q F H1 (Step.refl rp.base))⟩, fun s H C cl fp t ht _ => he s H C cl fp t ht, hs⟩
theorem dn_map3 {n : Nat} {tpos : Pos} {e1 e2 e3 : Expr} {y1 y2 y3 : Str} {i j k : Nat} {f1 f2 f3 : α → D} (hc : X.calm = true) (hN : X.N.Nodup) (hi : DI g X (.Tuple [e1, e2, e3] n tpos) iter ρ (ts.map fun t => .tup [f1 t, f2 t, f3 t])) (ok : BlkOk X.N X.env.scope scope [(y1, i), (y2, j), (y3, k)])
    (hg : ∀ s H C cl fp, PG (bl X s H scope C cl fp) (.Tuple [e1, e2, e3] n tpos) (gTup X.K 3 (gCons (gName i) (gCons (gName j) (gCons (gName k) gNil)))))
    (he : ∀ s H C cl fp, ∀ t ∈ ts, DE g (bl X s H scope C cl fp) elt ((((wipeD ρ [i, j, k]).set i (.sh (f1 t))).set j (.sh (f2 t))).set k (.sh (f3 t))) (e t)) (hs : ts.length ≤ 1000) (hf : ∀ x, foldedSetIterable iter X.env x = pure x := by intro _; rfl) :
    DN g X (.ListComp elt [⟨.Tuple [e1, e2, e3] n tpos, iter, [], 0⟩] scope pos) ρ (ts.map e) := by
  have h := dn_lc (pos := pos) (own := [(y1, i), (y2, j), (y3, k)]) hc hN hi ok (Lc.tri0 hg he hs) hf
  rw [filter_yes] at h
  exact h
end
end DL
namespace DL
open PySem PySem.Spec PyProof.Rows L2
section
variable {g : Gx} {ρ : Env} {X : Cx}
theorem dv (i : Nat) {x : Str} {pos : Pos} {d : D} (h : ρ[i]? = some (.sh d) := by rfl) (hN : X.N[i]? = some x := by rfl) (hv : Vis X.env.scope x := by first | exact Or.inl rfl | exact Or.inr (Or.inl rfl) | exact Or.inr (Or.inr rfl)) (hd : (x == ("__debug__" : Str)) = false := by decide)
    (hcd : (x == ("__classdict__" : Str)) = false := by decide) : DE g X (.Name x pos) ρ d := de_var h hN hv hd hcd
theorem bv (i : Nat) {x : Str} {pos : Pos} {xs : List D} (h : ρ[i]? = some (.own xs) := by rfl) (hN : X.N[i]? = some x := by rfl) (hv : Vis X.env.scope x := by first | exact Or.inl rfl | exact Or.inr (Or.inl rfl) | exact Or.inr (Or.inr rfl)) (hd : (x == ("__debug__" : Str)) = false := by decide)
    (hcd : (x == ("__classdict__" : Str)) = false := by decide) : DB g X (.Name x pos) ρ (.lst xs) := db_var h hN hv hd hcd
end
end DL
namespace DL
open PySem PySem.Spec PyProof.Rows L2
/-- a def as its callers know it -/
def Cal (g : Gx) (P : Program) (w : World) (K : PySem.W.Frag) (mg : Str → Option Value) (base : Heap) (x : Str) (k : Nat) (ps : List Str) (R : List D → D → Prop) : Prop :=
  ∃ f fd, FnOk P w K mg base CX0 k f fd ps (spD g R) ∧ mg x = some (.ref f) ∧ PySem.W.keepIn K (.ref f) = true ∧ L2.Binds K fd ps []
section
variable {g : Gx} {ρ : Env} {X : Cx} {e : Expr} {es : List Expr} {pos p : Pos} {x : Str} {k : Nat} {ps : List Str} {R : List D → D → Prop} {ds : List D} {d : D}
theorem de_callC (c : Cal g X.prog X.w X.K X.mg X.base x k ps R) (hr : Room k X.A) (hg : Gl X x) (ha : DA g X (e :: es) ρ ds) (hR : R ds d) (hdb : (x == ("__debug__" : Str)) = false := by decide)
    (he : starEach (e :: es) X.env = (false, eval e X.env) :: starEach es X.env := by rfl) (hpl : (backTo pos (starEach es X.env)).any (·.1) = false := by rfl) : DE g X (.Call (.Name x p) (e :: es) [] pos) ρ d := by
  obtain ⟨f, fd, h1, h2, h3, h4⟩ := c
  exact de_call h1 hr hg h2 h3 h4 ha hR hdb he hpl
theorem de_callCB (c : Cal g X.prog X.w X.K X.mg X.base x k ps R) (hr : Room k X.A) (hg : Gl X x) (ha : DAB g X (e :: es) ρ ds) (hR : R ds d) (hf : flatD d = true := by rfl) (hdb : (x == ("__debug__" : Str)) = false := by decide)
    (he : starEach (e :: es) X.env = (false, eval e X.env) :: starEach es X.env := by rfl) (hpl : (backTo pos (starEach es X.env)).any (·.1) = false := by rfl) : DE g X (.Call (.Name x p) (e :: es) [] pos) ρ d := by
  obtain ⟨f, fd, h1, h2, h3, h4⟩ := c
  exact de_callB h1 hr hg h2 h3 h4 ha hR hf hdb he hpl
end
end DL
end
section
/-! Data logic: f(lambda x: body, e), the lambda with captured names, called within f. -/
namespace DL
open PySem PySem.Spec PyProof.Rows L2
section
variable {X : Cx} {pins : List (Addr × Obj)} {σ : L2.St} {H : Hp} {s : Shared}
/-- the lambda's object, just made; what is tracked stays tracked -/
theorem lam_new {T : List (Addr × Str)} {c P : Addr} {params : Arguments} {body : Expr} {scope : Scope} {pos : Pos} {E : Value → Shared → Prop} {Q : Value → Shared → Prop} (I : Inv X pins σ H s) (tb : LamX.TabB X.base X.mg c P) (hcode : X.env.code = .ref c)
    (hm : (P, X.env.qual ++ "<lambda>") ∈ T) (hu : ∀ p ∈ T, p.1 = P → p.2 = X.env.qual ++ "<lambda>") (hT : LamX.Tabs T H) (hdef : defaultsOf params X.env = ([], [])) (hfree : ∀ y ∈ scope.names, y.2 = .free → ∃ c, X.env.cells.lookup y.1 = some c)
    (h : ∀ (f c' : Addr) (pm ctv : Value) (H1 : Hp) (s' : Shared), Inv X pins σ H1 s' → LamX.ExtN H H1 → (∀ a, H1 a = none → H a = none) → LamX.Tabs T H1 →
      s'.heap.get? f = some (PySem.W.kla_obj "<lambda>" (X.env.qual ++ "<lambda>") params body scope (cloFrom X.env.cells scope.names []) pm c' ctv) → H1 f = none → f ∉ frs X.stack → s.heap.objs.size ≤ f → H1 c' = some (LamX.CodeO c' (X.env.qual ++ "<lambda>")) → Q (.ref f) s') :
    wpAny (model X.prog X.w) X.A (eval (.Lambda params body scope pos) X.env) Q E s := by
  obtain ⟨ps, tP, tOk, tC⟩ := hT _ hm
  refine PySem.W.kla_eval hdef ?_
  have bAt : s.heap.BuiltinsAt X.mg P := tb.bm.keeps I.bk
  have hP : s.heap.get? P = some { cls := .none, data := .fields ps } := I.hok P _ tP
  have offStack : ∀ f, s.heap.objs.size ≤ f → f ∉ frs X.stack := fun f hf hm => by
    rcases List.mem_cons.mp (I.stkSub _ hm) with e | e
    · rw [e] at hf
      exact absurd I.lt (Nat.not_lt_of_le hf)
    · exact I.nofs hf e
  cases found : codeAmong pos ps.toList with
  | some cv =>
    obtain ⟨c', rfl, hco⟩ := tC pos cv found
    refine PySem.W.kla_makeFunctionHit (mg := X.mg) (c := c) (P := P) (ps := ps) (closure_ok hfree) I.ok.glob (I.mod.glob.keeps I.bk) hcode (tb.code.keeps I.bk) hP tOk found bAt fun ctv h' tk keep hsz => ?_
    exact h _ c' _ ctv H _ (I.kept fun b o e => Heap.get?_push_of_some _ (keep b o e)) (LamX.ExtN.refl H) (fun _ e => e) hT (Heap.get?_push_size _ rfl) (I.hok.fresh hsz) (offStack _ hsz) hsz hco
  | none =>
    refine PySem.W.kla_makeFunction (mg := X.mg) (c := c) (P := P) (ps := ps) (closure_ok hfree) I.ok.glob (I.mod.glob.keeps I.bk) hcode (tb.code.keeps I.bk) hP tOk found tb.gP bAt fun c' ctv h' tk keep hge hlt hrec hnew => ?_
    obtain ⟨c2, oc, vs, t, e2, ho, hd, hv⟩ := hrec
    cases e2
    have cN : H c' = none := I.hok.fresh hge
    have hle : s.heap.objs.size ≤ h'.objs.size := Nat.le_trans hge (Nat.le_of_lt hlt)
    have J := LamX.inv_table (t' := tk) (more := #[rawInt pos.line, rawInt pos.col, .ref c']) (h' := h'.push (PySem.W.kla_obj "<lambda>" (X.env.qual ++ "<lambda>") params body scope (cloFrom X.env.cells scope.names []) ((X.mg "__name__").getD .none) c' ctv)) I tP
      (fun b o hb e => Heap.get?_push_of_some _ (keep b o hb e)) (Heap.get?_push_of_some _ hnew) hge ⟨oc, vs, t, Heap.get?_push_of_some _ ho, hd, hv⟩
    have pc : P ≠ c' := ne_of_none tP cN
    have ext : LamX.ExtN H (upd (upd H P (.tbl (ps ++ #[rawInt pos.line, rawInt pos.col, .ref c']))) c' (LamX.CodeO c' (X.env.qual ++ "<lambda>"))) := fun b o e n => by
      have b1 : b ≠ c' := ne_of_none e cN
      have b2 : b ≠ P := fun z => by
        rw [z, tP] at e
        exact n ps (Option.some.inj e).symm
      rw [upd_ne b1, upd_ne b2, e]
    have lst : (ps ++ #[rawInt pos.line, rawInt pos.col, .ref c']).toList = ps.toList ++ [rawInt pos.line, rawInt pos.col, .ref c'] := by simp
    refine h h'.objs.size c' _ ctv _ _ J ext (fun a e => ?_) (fun p hp => ?_) (Heap.get?_push_size _ rfl) ?_ (offStack _ hle) hle upd_same
    · by_cases a1 : a = c'
      · rw [a1, upd_same] at e; cases e
      · rw [upd_ne a1] at e
        by_cases a2 : a = P
        · rw [a2, upd_same] at e; cases e
        · rw [upd_ne a2] at e; exact e
    · by_cases hb : p.1 = P
      · rw [hu p hp hb, hb]
        refine ⟨_, by rw [upd_ne pc, upd_same], by rw [lst]; exact PySem.TriplesOk_snoc _ _ _ _ tOk, fun p' cv hcv => ?_⟩
        rw [lst] at hcv
        rcases LamX.among_app _ tOk hcv with q | q
        · obtain ⟨c0, z1, z2⟩ := tC p' cv q
          exact ⟨c0, z1, ext _ _ z2 LamX.codeO_ne⟩
        · exact ⟨c', q, upd_same⟩
      · obtain ⟨ps', a1, a2, a3⟩ := hT p hp
        refine ⟨ps', by rw [upd_ne (ne_of_none a1 cN), upd_ne hb, a1], a2, fun p' cv hcv => ?_⟩
        obtain ⟨c0, z1, z2⟩ := a3 p' cv hcv
        exact ⟨c0, z1, ext _ _ z2 LamX.codeO_ne⟩
    · have n1 : h'.objs.size ≠ c' := Nat.ne_of_gt hlt
      have n2 : h'.objs.size ≠ P := Nat.ne_of_gt (Nat.lt_of_lt_of_le (Heap.lt_size hP) hle)
      rw [upd_ne n1, upd_ne n2]
      exact I.hok.fresh hle

/-- the lambda's function, for the contexts of the layer -/
abbrev lamF (X : Cx) (params : Arguments) (scope : Scope) (c' : Addr) : NdefX.NF := ⟨"<lambda>", X.env.qual ++ "<lambda>", params, [], scope, cloFrom X.env.cells scope.names [], c'⟩
abbrev lamX (X : Cx) (N : List Str) (params : Arguments) (scope : Scope) (c' f : Addr) (A : Around) (outer : List PySem.Env) (s : Shared) (H : Hp) : Cx := NdefX.ncx CX0 X.prog X.w X.K X.mg X.base N (lamF X params scope c') f A outer s H E0
/-- the cells of the maker's frame at a later time -/
theorem cells_later {cl : List (Str × Addr)} {fr : List Str} {ws : List (Option V)} {HZ : Hp} {s1 : Shared} {fs : List Addr} (C : NdefX.CellsAt cl fr ws s.heap H) (un : Un fs [] H HZ s.heap s1.heap) : NdefX.CellsAt cl fr ws s1.heap HZ := by
  have cell : ∀ {c : Addr} {v : Option Value}, H c = none → s.heap.IsCell c v → s1.heap.IsCell c v := fun {c v} n ⟨o, ho, hd⟩ => by
    obtain ⟨sl, q⟩ := un.any ho n (by simp)
    exact ⟨_, q, hd⟩
  refine ⟨C.len, fun y c e => ?_, C.inj, fun i y e => ?_⟩
  · obtain ⟨n, v, hv⟩ := C.all y c e
    have ho := hv
    obtain ⟨o, ho, _⟩ := ho
    exact ⟨un.free c o ho n (by simp), v, cell n hv⟩
  · obtain ⟨c, hc, hw⟩ := C.has i y e
    refine ⟨c, hc, fun v hv => ?_⟩
    obtain ⟨u, ru, hu⟩ := hw v hv
    exact ⟨u, ru, cell (C.all y c hc).1 hu⟩
/-- the lambda called, later, in a callee -/
theorem lam_run {N ps fr : List Str} {js : List Nat} {params : Arguments} {body : Expr} {scope : Scope} {f c' : Addr} {pm ctv : Value} {A : Around} {outer : List PySem.Env} {s1 : Shared} {HZ : Hp} {us : List Value} {vs : List V} {Q : VK} {k : Nat} {t : TE} (I : Inv X pins σ H s) (S : NdefX.NScope N ps fr scope)
    (C : NdefX.Caps X (cloFrom X.env.cells scope.names []) fr js) (hf : s.heap.get? f = some (PySem.W.kla_obj "<lambda>" (X.env.qual ++ "<lambda>") params body scope (cloFrom X.env.cells scope.names []) pm c' ctv)) (hfn : H f = none) (hfr : f ∉ frs X.stack)
    (e0 : Env0 X.prog X.w X.K X.mg X.base A outer s1 HZ) (un : Un (frs X.stack) [] H HZ s.heap s1.heap) (hco : HZ c' = some (LamX.CodeO c' (X.env.qual ++ "<lambda>"))) (hr : Room (k + 1) A)
    (hbind : bindArgs (PySem.W.kla_fn "<lambda>" (X.env.qual ++ "<lambda>") params body scope (cloFrom X.env.cells scope.names []) pm (.ref c') ctv) ⟨us, []⟩ = pure (ps.zip us)) (r : Vals vs us) (hl : vs.length = ps.length)
    (hb : PE (lamX X N params scope c' f A outer s1 HZ) body t) (ht : t (NdefX.startF N vs (js.map (NdefX.slotAt σ))) HZ Q) : codeAny (model X.prog X.w) A (.call (.ref f) ⟨us, []⟩) (CR CX0 outer X.prog X.w HZ s1 Q E0) s1 := by
  have of1 := un.keep f _ hf hfn hfr (by simp)
  obtain ⟨⟨oc, ws, tq, hoc, hdc, hvc⟩, _, _⟩ := e0.hok c' _ hco
  have lim : s1.heap.NoLimit := e0.mod.nolimit.keeps fun b o e => (e0.bs b o e).1
  refine PySem.W.kla_callFunE hr.depth of1 rfl S.co S.gen rfl ⟨c', oc, ws, tq, rfl, hoc, hdc, hvc⟩ ?_
  rw [hbind]
  refine wpAny_pure (wpAny_newFunctionEnv S.nocell (fun ⟨n, _⟩ hy => S.par n (List.of_mem_zip hy).1) (fun h1 hns hsb => ⟨lim.fresh _ hsb, ?_⟩) S.kind)
  show codeAny _ _ (.expr body (NdefX.envF (lamF X params scope c') f s1.heap.objs.size)) _ _
  have kp : ∀ b o, s1.heap.get? b = some o → h1.get? b = some o := fun b o e => hsb.extBut b o (Nat.ne_of_lt (Heap.lt_size e)) (Heap.get?_push_of_some _ e)
  have CA := cells_later (NdefX.cells_of I C) un
  have J : Inv (lamX X N params scope c' f A outer s1 HZ) [] (NdefX.startF N vs (js.map (NdefX.slotAt σ))) HZ { s1 with heap := h1, toks := s1.toks + (ps.zip us).length } := NdefX.inv_startN S hr.hd e0 hl r CA hns kp
  refine PySem.W.kla_codeExpr (wpAny_mono (hb.run [] _ _ HZ Q J ht) (fun v s' hq => ?_) fun e s' hq => hq)
  obtain ⟨w', H', J', rv, q⟩ := hq
  exact ⟨w', H', J'.os, J'.bare, J'.base, J'.hok, rv, q⟩
end
theorem thnE {X : Cx} {pins : List (Addr × Obj)} {σ : L2.St} {Q Q' : VK} {u : Value} {s : Shared} (h : EP X pins σ Q u s) (k : ∀ v H, Q v H → Q' v H) : EP X pins σ Q' u s := by
  obtain ⟨v, H, I, r, q⟩ := h
  exact ⟨v, H, I, r, k v H q⟩
/-! ### data without the code object -/
def hide (F : Hp) (c : Addr) : Hp := fun a => if a = c then none else F a
theorem hide_at {F : Hp} {c a : Addr} (h : a ≠ c) : hide F c a = F a := if_neg h
theorem hide_self {F : Hp} {c : Addr} : hide F c c = none := if_pos rfl
section
variable {g : Gx} {F : Hp} {c : Addr} {q : Str}
mutual
theorem Is.hide (hc : F c = some (LamX.CodeO c q)) : ∀ (d : D) (v : V), Is g F d v → Is g (DL.hide F c) d v
  | .non, v, h => h
  | .bl b, v, h => h
  | .int i, v, h => h
  | .str x, v, h => h
  | .tup xs, v, h => by
    obtain ⟨a, vs, e, h1, h2⟩ := h
    refine ⟨a, vs, e, (hide_at fun z => ?_).trans h1, All.hide hc xs vs h2⟩
    rw [z, hc] at h1
    cases h1
  | .lst xs, v, h => by
    obtain ⟨a, vs, e, h1, h2⟩ := h
    refine ⟨a, vs, e, (hide_at fun z => ?_).trans h1, All.hide hc xs vs h2⟩
    rw [z, hc] at h1
    cases h1
  | .fm n ms es, v, h => by
    obtain ⟨a, dx, fs, vm, ve, e, h1, h2, h3, h4, h5, h6⟩ := h
    refine ⟨a, dx, fs, vm, ve, e, (hide_at fun z => ?_).trans h1, h2, h3, Is.hide hc ms vm h4, h5, Is.hide hc es ve h6⟩
    rw [z, hc] at h1
    cases h1
theorem All.hide (hc : F c = some (LamX.CodeO c q)) : ∀ (ds : List D) (vs : List V), All g F ds vs → All g (DL.hide F c) ds vs
  | [], vs, h => h
  | d :: ds, vs, h => by
    obtain ⟨v, r, e, h1, h2⟩ := h
    exact ⟨v, r, e, Is.hide hc d v h1, All.hide hc ds r h2⟩
end
end
/-- what a lambda sees of a slot of its maker's -/
def capS : Option Slot → Slot
  | some (.sh d) => .sh d
  | _ => .un
section
variable {g : Gx} {X : Cx} {pins : List (Addr × Obj)} {σ : L2.St} {H : Hp} {s : Shared} {ρ : Env}
theorem rep_lam {F F1 H1 : Hp} {N : List Str} {js : List Nat} {m : Int} (rp : RepE g F H ρ σ) (b : Base g F1 H1) (sb : Sub F F1) : RepE g F1 H1 (Slot.sh (.int m) :: (js.map (fun j => capS ρ[j]?) ++ List.replicate (N.length - 1 - js.length) .un)) (NdefX.startF N [V.int m] (js.map (NdefX.slotAt σ))) := by
  refine ⟨b, by simp [NdefX.startF], fun i sl o h1 h2 => ?_⟩
  unfold NdefX.startF at h2
  cases i with
  | zero =>
    have e1 : sl = .sh (.int m) := by simpa using h1.symm
    have e2 : o = some (V.int m) := by simpa using h2.symm
    rw [e1, e2]
    exact ⟨_, rfl, rfl⟩
  | succ i =>
    have h1 : (js.map (fun j => capS ρ[j]?) ++ List.replicate (N.length - 1 - js.length) .un)[i]? = some sl := by simpa using h1
    have h2 : (js.map (NdefX.slotAt σ) ++ List.replicate (N.length - 1 - js.length) none)[i]? = some o := by simpa using h2
    by_cases hi : i < js.length
    · rw [List.getElem?_append_left (by rw [List.length_map]; exact hi), List.getElem?_map, List.getElem?_eq_getElem hi] at h1 h2
      cases h1
      cases h2
      show SlotOk g F1 H1 (capS ρ[js[i]]?) (NdefX.slotAt σ js[i])
      cases e : ρ[js[i]]? with
      | none => trivial
      | some sl =>
        cases sl with
        | un => trivial
        | own xs => trivial
        | val v => trivial
        | pt v Fb => trivial
        | sh d =>
          obtain ⟨o, e1, v, e2, iv⟩ := rp.at e
          refine ⟨v, ?_, Is.mono sb d v iv⟩
          rw [e2] at e1
          exact NdefX.slotAt_of e1
    · rw [List.getElem?_append_right (by rw [List.length_map]; omega)] at h1
      rw [List.eq_of_mem_replicate (List.mem_of_getElem? h1)]
      trivial
/-- the callee's context, entered from X at (s, H) -/
abbrev calleeX (X : Cx) (Ng : List Str) (qg : Str) (sg : Scope) (ga : Addr) (cdg : Value) (s : Shared) (H : Hp) : Cx := bodyX X.prog X.w X.K X.mg X.base Ng qg sg ga cdg X.A X.stack s H E0
/-- what the callee may use: its call of the lambda -/
def RowOk (g : Gx) (Z : Cx) (i : Nat) (a : Str) (f : Addr) (Fb : Hp) (m : Int) (dl : D) : Prop :=
  ∀ (e : Expr) (p1 p2 : Pos) (ρZ : Env), ρZ[i]? = some (.pt (.ref f) Fb) → DE g Z e ρZ (.int m) → starEach [e] Z.env = (false, eval e Z.env) :: starEach [] Z.env → DE g Z (.Call (.Name a p1) [e] [] p2) ρZ dl
theorem row_ok {N fr : List Str} {js : List Nat} {params : Arguments} {body : Expr} {scope : Scope} {f c' ga : Addr} {pm ctv cdg : Value} {k i : Nat} {Ng : List Str} {qg a pa : Str} {sg : Scope} {F Fb : Hp} {m : Int} {dl : D} (I : Inv X pins σ H s) (S : NdefX.NScope N [pa] fr scope)
    (C : NdefX.Caps X (cloFrom X.env.cells scope.names []) fr js) (hf : s.heap.get? f = some (PySem.W.kla_obj "<lambda>" (X.env.qual ++ "<lambda>") params body scope (cloFrom X.env.cells scope.names []) pm c' ctv)) (hfn : H f = none) (hfr : f ∉ frs X.stack)
    (hr : Room (k + 1) (calleeX X Ng qg sg ga cdg s H).A) (hbind : ∀ (pm cdv ctv u : Value), bindArgs (PySem.W.kla_fn "<lambda>" (X.env.qual ++ "<lambda>") params body scope (cloFrom X.env.cells scope.names []) pm cdv ctv) ⟨[u], []⟩ = pure [(pa, u)])
    (rp : RepE g F H ρ σ) (sb : Sub F Fb) (hc : Fb c' = some (LamX.CodeO c' (X.env.qual ++ "<lambda>"))) (hN : Ng[i]? = some a) (hv : Vis sg a)
    (hb : ∀ (A : Around) (outer : List PySem.Env) (s1 : Shared) (HZ : Hp), Room k (A.deeper (NdefX.envF (lamF X params scope c') f s1.heap.objs.size)) → DE g (lamX X N params scope c' f A outer s1 HZ) body (Slot.sh (.int m) :: (js.map (fun j => capS ρ[j]?) ++ List.replicate (N.length - 1 - js.length) .un)) dl)
    (hd : (a == ("__debug__" : Str)) = false := by decide) (hcd : (a == ("__classdict__" : Str)) = false := by decide) : RowOk g (calleeX X Ng qg sg ga cdg s H) i a f Fb m dl := by
  intro e p1 p2 ρZ hs he hst
  refine ⟨fun pinsZ sZ σZ HZ Q IZ ⟨FZ, rZ, q⟩ => ?_⟩
  obtain ⟨o, e1, e2, sZb⟩ := rZ.at hs
  subst e2
  refine wpAny_Call_Name_kw (thn ((pe_var (pos := p1) (i := i) hN hv hd hcd).run pinsZ sZ σZ HZ (fun v H1 => v = .ref f ∧ H1 = HZ) IZ ⟨.ref f, e1, rfl, rfl⟩) fun u s1 ⟨v, H1, I1, r1, q1⟩ => ?_)
  obtain ⟨ev, eH⟩ := q1
  subst ev
  subst eH
  obtain rfl : u = Value.ref f := r1
  have keep : ∀ {s2 : Shared} {H2 : Hp} {σ2 : L2.St}, Inv (calleeX X Ng qg sg ga cdg s H) pinsZ σ2 H2 s2 → PySem.W.FnAt f s2.heap := fun {s2 H2 σ2} J => ⟨_, _, _, _, J.base.keep f _ hf hfn hfr (fun z => nomatch (show f ∈ ([] : List Addr) from z))⟩
  refine PySem.W.callWith_F (keep I1) ?_ hst rfl
  refine thn ((pa_cons he pa_nil hst).run p2 pinsZ s1 σZ H1 (fun vs H2 => ∃ F2, Step g FZ H1 F2 H2 ∧ vs = [.int m]) I1 ⟨FZ, rZ, fun v F2 H2 st iv => ⟨F2, st, by rw [show v = V.int m from iv]⟩⟩) fun us s2 ⟨vs, H2, I2, r2, F2, st, evs⟩ => ⟨keep I2, ?_⟩
  subst evs
  have hco : H2 c' = some (LamX.CodeO c' (X.env.qual ++ "<lambda>")) := st.base.sub _ _ (st.sub _ _ (sZb _ _ hc))
  have hl : us.length = 1 := r2.length.symm
  obtain ⟨u, rfl⟩ : ∃ u, us = [u] := by
    cases us with
    | nil => simp at hl
    | cons u r =>
      cases r with
      | nil => exact ⟨u, rfl⟩
      | cons _ _ => simp at hl
  have rL : RepE g F2 H2 _ _ := rep_lam (N := N) (js := js) (m := m) rp st.base ((sb.trans sZb).trans st.sub)
  have rc := lam_run (k := k) (us := [u]) (vs := [V.int m]) (Q := Q) (ps := [pa]) I S C hf hfn hfr I2.env0 I2.base hco hr (hbind _ _ _ u) r2 rfl (hb _ _ s2 H2 (hr.deeper _)) ⟨F2, rL, fun v F3 H3 s3 iv => q v F3 H3 (st.trans s3) iv⟩
  refine wpAny_call (codeAny_mono rc fun r s3 hq => ?_)
  cases r with
  | error e => exact (show False from hq).elim
  | ok fl =>
    cases fl with
    | ret u => exact I2.after hq
    | next => exact False.elim hq
    | brk => exact False.elim hq
    | cont => exact False.elim hq
end
section
variable {g : Gx} {X : Cx} {ρ : Env}
/-- f(lambda pa: body, e2): f's body is walked here, its call of the lambda is given -/
theorem de_lam {x : Str} {st : Stmt} {ga c P : Addr} {fd : FuncData} {Ng : List Str} {a b pa : Str} {N fr : List Str} {js : List Nat} {params : Arguments} {body e2 : Expr} {scope : Scope} {p lpos pos : Pos} {k : Nat} {d2 d : D} {m : Int} {dl : D} (Fn : Fun X.K x x st ga fd) (Sg : FnScope Ng [a, b] (defScope st)) (hb : L2.Binds X.K fd [a, b] [])
    (hg : Gl X x) (hm : X.mg x = some (.ref ga)) (tb : LamX.TabB X.base X.mg c P) (hcode : X.env.code = .ref c) (hmT : (P, X.env.qual ++ "<lambda>") ∈ g.T) (hu : ∀ p ∈ g.T, p.1 = P → p.2 = X.env.qual ++ "<lambda>") (hdef : defaultsOf params X.env = ([], [])) (S : NdefX.NScope N [pa] fr scope)
    (hfree : ∀ y ∈ scope.names, y.2 = .free → X.env.scope.names.lookup y.1 = some .cell ∨ X.env.scope.names.lookup y.1 = some .free) (hfr : ∀ y ∈ fr, (y, NameKind.free) ∈ scope.names) (hjs : js.map (fun j => X.N[j]?) = fr.map some)
    (hbind : ∀ (q : Str) (cl : List (Str × Addr)) (pm cdv ctv u : Value), bindArgs (PySem.W.kla_fn "<lambda>" q params body scope cl pm cdv ctv) ⟨[u], []⟩ = pure [(pa, u)]) (he : DE g X e2 ρ d2) (hr : Room (k + 2) X.A) (hva : Vis (defScope st) a)
    (hl : ∀ (s : Shared) (H : Hp) (c' f : Addr) (A : Around) (outer : List PySem.Env) (s1 : Shared) (HZ : Hp), Room k (A.deeper (NdefX.envF (lamF X params scope c') f s1.heap.objs.size)) → DE g (lamX X N params scope c' f A outer s1 HZ) body (Slot.sh (.int m) :: (js.map (fun j => capS ρ[j]?) ++ List.replicate (N.length - 1 - js.length) .un)) dl)
    (hbody : ∀ (s : Shared) (H Fb : Hp) (f : Addr) (cdg : Value), Room (k + 1) (calleeX X Ng x (defScope st) ga cdg s H).A → RowOk g (calleeX X Ng x (defScope st) ga cdg s H) 0 a f Fb m dl →
      DSs (sy0 g) Fb H (calleeX X Ng x (defScope st) ga cdg s H) (defBody st) (Slot.pt (.ref f) Fb :: Slot.sh d2 :: List.replicate (Ng.length - 2) .un) () ⟨fun _ _ => False, fun d' _ => d' = d, fun _ _ => False, fun _ _ => False⟩)
    (hN : 2 ≤ Ng.length) (hdb : (x == ("__debug__" : Str)) = false := by decide) (hd : (a == ("__debug__" : Str)) = false := by decide) (hcd : (a == ("__classdict__" : Str)) = false := by decide)
    (h1 : starEach [.Lambda params body scope lpos, e2] X.env = (false, eval (.Lambda params body scope lpos) X.env) :: starEach [e2] X.env := by rfl) (h2 : starEach [e2] X.env = (false, eval e2 X.env) :: starEach [] X.env := by rfl) (h3 : ((backTo pos (starEach [e2] X.env)).any fun x => x.fst) = false := by rfl) (h4 : backTo pos (starEach [.Lambda params body scope lpos, e2] X.env) = (false, eval (.Lambda params body scope lpos) X.env) :: backTo pos (starEach [e2] X.env) := by rfl) :
    DE g X (.Call (.Name x p) [.Lambda params body scope lpos, e2] [] pos) ρ d := by
  refine ⟨fun pins s σ H Q I ⟨F, rp, q⟩ => ?_⟩
  have hfr2 : ∀ y ∈ scope.names, y.2 = .free → ∃ c, X.env.cells.lookup y.1 = some c := fun y hy e => (hfree y hy e).elim (fun k => I.ok.has _ (.inl k)) (fun k => I.ok.has _ (.inr k))
  refine wpAny_Call_Name_kw (ld_glob I hg hm ?_ hdb)
  refine PySem.W.callWith_K (h₀ := X.base) I.ok.mod.kin Fn.kp ?_ h1 h3
  rw [h4]
  refine Calls.spliced_cons (lam_new I tb hcode hmT hu rp.base.tabs hdef hfr2 fun f c' pm ctv H1 s1 I1 ext dom T1 hf hfn hfs hge hco => ?_)
  have st1 : Step g F H F H1 := ⟨Sub.refl F, ⟨fun b o e => ext b o (rp.base.sub b o e) (fun ps z => rp.base.noT b ps (z ▸ e)), rp.base.noT, T1⟩, ext, dom, fun _ _ e => .inl e⟩
  have I1p : Inv X (pins ++ [(f, PySem.W.kla_obj "<lambda>" (X.env.qual ++ "<lambda>") params body scope (cloFrom X.env.cells scope.names []) pm c' ctv)]) σ H1 s1 := I1.pins_of fun p hp => by
    rcases List.mem_append.mp hp with hp | hp
    · exact I1.pin p (List.mem_append_right _ hp)
    · rw [List.mem_singleton.mp hp]
      exact ⟨hf, hfn, fun z => absurd I.lt (Nat.not_lt_of_le (z ▸ hge)), I.nofs hge, fun v z => by cases z⟩
  refine thn ((pa_cons he pa_nil h2).run pos _ s1 σ H1 (fun vs H2 => ∃ F2 v, Step g F H1 F2 H2 ∧ vs = [v] ∧ Is g F2 d2 v) I1p ⟨F, rp.step st1, fun v F2 H2 st iv => ⟨F2, v, st, rfl, iv⟩⟩) fun us s2 ⟨vs, H2, I2p, r2, F2, v2, st2, evs, iv2⟩ => ?_
  subst evs
  have I2 := I2p.unpinned
  obtain ⟨hf2, hfn2, _, _, _⟩ := I2p.pin (f, _) (List.mem_append_right _ (List.mem_append_right _ List.mem_cons_self))
  refine ⟨I2.kIn, ?_⟩
  have rp2 := (rp.step st1).step st2
  have hco2 : H2 c' = some (LamX.CodeO c' (X.env.qual ++ "<lambda>")) := st2.ext c' _ hco LamX.codeO_ne
  obtain ⟨Fb, eFb⟩ : ∃ Fb : Hp, Fb = upd F2 c' (LamX.CodeO c' (X.env.qual ++ "<lambda>")) := ⟨_, rfl⟩
  have fbc : Fb c' = some (LamX.CodeO c' (X.env.qual ++ "<lambda>")) := by rw [eFb, upd_same]
  have sbF : Sub F2 Fb := fun b o e => by
    rw [eFb]
    by_cases z : b = c'
    · rw [z, upd_same]
      have e2 := st2.base.sub b o e
      rw [z, hco2] at e2
      exact e2
    · rw [upd_ne z, e]
  have baseB : Base g Fb H2 := ⟨fun b o e => by
    rw [eFb] at e
    by_cases z : b = c'
    · rw [z, upd_same] at e
      rw [z, hco2]
      exact e
    · rw [upd_ne z] at e
      exact st2.base.sub b o e, fun b ps e => by
    rw [eFb] at e
    by_cases z : b = c'
    · rw [z, upd_same] at e
      exact LamX.codeO_ne ps (Option.some.inj e)
    · rw [upd_ne z] at e
      exact st2.base.noT b ps e, st2.base.tabs⟩
  obtain ⟨oc, od, kV, doc, pmg, an, cdv, ct, osl, rfl, lk, hcd'⟩ := Fn.ex
  have caps := NdefX.Caps.made I2.ok hfree hfr hjs
  have hl2 : us.length = 1 := r2.length.symm
  have rc : codeAny (model X.prog X.w) X.A (.call (.ref ga) ⟨.ref f :: us, []⟩) (CR CX0 X.stack X.prog X.w H2 s2 (fun v H3 => ∃ F3, Step g Fb H2 F3 H3 ∧ Is g F3 d v) E0) s2 := by
    refine LamX.run_ofS (N := Ng) (ps := [a, b]) (us := .ref f :: us) (vs := [.ref f, v2]) lk hcd' Sg hr I2.env0 (by have := hb s2 (.ref f :: us) I2.kIn (by simp [hl2]); simpa using this) (.cons rfl r2) rfl fun hr' => ?_
    have row : RowOk g (calleeX X Ng x (defScope st) ga cdv s2 H2) 0 a f Fb m dl := row_ok (k := k) I2 S caps hf2 hfn2 hfs hr' (fun pm cdv ctv u => hbind _ _ pm cdv ctv u) rp2 sbF fbc (by
      have := Sg.pre
      cases Ng with
      | nil => simp at hN
      | cons n1 r => simp at this; simp [this.1]) hva (fun A outer s1 HZ hrr => hl s2 H2 c' f A outer s1 HZ hrr) hd hcd
    refine ⟨_, (hbody s2 H2 Fb f cdv hr' row).nox, Fb, RepS.start baseB ⟨baseB, ?_, fun i sl o e1 e2 => ?_⟩ (fun sl hsl xs e => ?_) (fun a h => absurd h List.not_mem_nil) True.intro, fun _ _ _ _ _ h => h.elim, fun d' z' v F' H' e r iv => ⟨F', r.plain, e ▸ iv⟩, fun _ _ _ _ _ h => h.elim, fun _ _ _ _ _ h => h.elim⟩
    · simp [L2.start]
    · unfold L2.start at e2
      cases i with
      | zero =>
        have z1 : sl = .pt (.ref f) Fb := by simpa using e1.symm
        have z2 : o = some (V.ref f) := by simpa using e2.symm
        rw [z1, z2]
        exact ⟨rfl, Sub.refl _⟩
      | succ i =>
        cases i with
        | zero =>
          have z1 : sl = .sh d2 := by simpa using e1.symm
          have z2 : o = some v2 := by simpa using e2.symm
          rw [z1, z2]
          exact ⟨v2, rfl, Is.mono sbF d2 v2 iv2⟩
        | succ i =>
          have e1 : (List.replicate (Ng.length - 2) Slot.un)[i]? = some sl := by simpa using e1
          rw [List.eq_of_mem_replicate (List.mem_of_getElem? e1)]
          trivial
    · subst e
      rcases List.mem_cons.mp hsl with z | z
      · cases z
      · rcases List.mem_cons.mp z with z | z
        · cases z
        · cases List.eq_of_mem_replicate z
  have I2u : Inv X pins σ H2 s2 := I2
  refine wpAny_call (codeAny_mono rc fun r s3 hq => ?_)
  cases r with
  | error e => exact (show False from hq).elim
  | ok fl =>
    cases fl with
    | next => exact False.elim hq
    | brk => exact False.elim hq
    | cont => exact False.elim hq
    | ret u =>
      refine thnE (I2u.after hq) fun v H3 ⟨F3, st3, iv⟩ => ?_
      by_cases hc : F2 c' = none
      · have sub3 : Sub F2 (DL.hide F3 c') := fun b o e => by
          have nb : b ≠ c' := fun z => by rw [z, hc] at e; cases e
          rw [hide_at nb]
          exact st3.sub _ _ (sbF _ _ e)
        refine q v (DL.hide F3 c') H3 ((st1.trans st2).trans ⟨sub3, ⟨fun b o e => ?_, fun b ps e => ?_, st3.base.tabs⟩, st3.ext, st3.dom, fun b o e => ?_⟩) (Is.hide (st3.sub _ _ fbc) d v iv)
        · by_cases z : b = c'
          · rw [z, hide_self] at e; cases e
          · rw [hide_at z] at e; exact st3.base.sub b o e
        · by_cases z : b = c'
          · rw [z, hide_self] at e; cases e
          · rw [hide_at z] at e; exact st3.base.noT b ps e
        · by_cases z : b = c'
          · rw [z, hide_self] at e; cases e
          · rw [hide_at z] at e
            rcases st3.new b o e with w | w
            · rw [eFb, upd_ne z] at w; exact .inl w
            · exact .inr w
      · refine q v F3 H3 ((st1.trans st2).trans ⟨sbF.trans st3.sub, st3.base, st3.ext, st3.dom, fun b o e => ?_⟩) iv
        rcases st3.new b o e with w | w
        · by_cases z : b = c'
          · left
            cases e2 : F2 c' with
            | none => exact absurd e2 hc
            | some o2 =>
              have e3 := sbF _ _ e2
              rw [z] at w ⊢
              rw [e2, ← e3, w]
          · rw [eFb, upd_ne z] at w; exact .inl w
        · exact .inr w
end
end DL
end
section
/-! zip(v1, v2, strict=True) of two sources of one length, over the library's rules. -/
namespace ZS
open PySem
abbrev Zp (h : Heap) (z TI TO : Addr) (f0 : Value) : Prop := h.get? z = some { cls := .type "zip", dict := none, data := .fields #[f0, .bool false, .bool true, .ref TI, .ref TO], slots := #[] }
abbrev Two (h : Heap) (T : Addr) (a b : Value) : Prop := h.get? T = some { cls := .type "tuple", data := .seq #[a, b] }
theorem typeCall (a b : Value) : checkTypeCall "zip" ⟨[a, b], [(Str.ofString "strict", .bool true)]⟩ = pure () := by kernel_rfl
theorem newCall (a b : Value) : checkBuiltinCall "zip.__new__" ⟨[.type "zip", a, b], [(Str.ofString "strict", .bool true)]⟩ = pure () := by kernel_rfl
theorem initArgs (obj a b : Value) : argsOk "object.__init__" ⟨[obj, a, b], [(Str.ofString "strict", .bool true)]⟩ := by unfold argsOk; kernel_rfl
abbrev hT (h : Heap) (o1 o2 : Obj) : Heap := ((h.push o1).push o2).push { cls := .type "tuple", data := .seq #[.ref h.objs.size, .ref (h.push o1).objs.size] }
abbrev hO (h : Heap) (o1 o2 : Obj) : Heap := (hT h o1 o2).push { cls := .type "tuple", data := .seq #[.none, .none] }
abbrev hZ (h : Heap) (o1 o2 : Obj) : Heap := (hO h o1 o2).push { cls := .type "zip", data := .fields #[.none, .bool false, .bool true, .ref ((h.push o1).push o2).objs.size, .ref (hT h o1 o2).objs.size] }
set_option maxHeartbeats 8000000 in
theorem meets_new {v1 v2 : Value} {o1 o2 : Obj} {H1 H2 : Heap → Prop} (B1 : Begins v1 o1 H1) (B2 : Begins v2 o2 H2) :
    Meets (Builtin.«zip.__new__» ⟨[.type "zip", v1, v2], [(Str.ofString "strict", .bool true)]⟩) (fun _ R s => (H1 s.heap ∧ H2 s.heap) ∧ R (.ok (.ret (.ref (hO s.heap o1 o2).objs.size))) { s with heap := hZ s.heap o1 o2 }) :=
  .of_wp fun prog w A R s h => by
    obtain ⟨hp, g, d, tk, os⟩ := s; obtain ⟨⟨k1, k2⟩, h⟩ := h
    have hsub := sub_zip
    have q1 : ∀ {A' : Around} {E : Value → Shared → Prop} {Q : Value → Shared → Prop}, Q (.ref hp.objs.size) ⟨hp.push o1, g, d, tk, os⟩ → wpAny (model prog w) A' (pyIter v1) Q E ⟨hp, g, d, tk, os⟩ :=
      fun q => B1.iter prog w _ _ ⟨hp, g, d, tk, os⟩ _ k1 q
    have q2 : ∀ {A' : Around} {E : Value → Shared → Prop} {Q : Value → Shared → Prop}, Q (.ref (hp.push o1).objs.size) ⟨(hp.push o1).push o2, g, d, tk, os⟩ → wpAny (model prog w) A' (pyIter v2) Q E ⟨hp.push o1, g, d, tk, os⟩ :=
      fun q => B2.iter prog w _ _ ⟨hp.push o1, g, d, tk, os⟩ _ (B2.keeps _ _ k2 fun b o' x => Heap.get?_push_of_some _ x) q
    have e2 : (Str.ofString "strict" != ("strict" : Str)) = false := by decide +kernel
    wp_walk using q1, q2
    exact ⟨_, rfl, h⟩
section
variable {prog : Program} {w : World} {A : Around} {E : Value → Shared → Prop} {s : Shared} {z TI TO i1 i2 : Addr} {fp1 fp2 : List Addr} {n i : Nat} {P1 P2 : Nat → Value → Prop} {St1 St2 : Nat → Heap → Prop} {a1 a2 : Value}
/-- the object just made and its parts -/
theorem begins {v1 v2 : Value} {o1 o2 : Obj} {H1 H2 : Heap → Prop} {Q : Value → Shared → Prop} (B1 : Begins v1 o1 H1) (B2 : Begins v2 o2 H2) (k1 : H1 s.heap) (k2 : H2 s.heap)
    (h : ∀ h', Zp h' (s.heap.objs.size + 4) (s.heap.objs.size + 2) (s.heap.objs.size + 3) .none → Two h' (s.heap.objs.size + 2) (.ref s.heap.objs.size) (.ref (s.heap.objs.size + 1)) → Two h' (s.heap.objs.size + 3) .none .none →
      h'.get? s.heap.objs.size = some o1 → h'.get? (s.heap.objs.size + 1) = some o2 → (∀ c o, s.heap.get? c = some o → h'.get? c = some o) → Q (.ref (s.heap.objs.size + 4)) { s with heap := h' }) :
    wpAny (model prog w) A (call (.type "zip") [v1, v2] [(Str.ofString "strict", .bool true)]) Q E s := by
  refine callType_newKw F.called_zip (by decide) (typeCall _ _) (newCall _ _) (fun obj => initArgs obj _ _) F.entry_zip_new (meets_new B1 B2) ⟨⟨k1, k2⟩, ?_⟩
  have y1 : (s.heap.push o1).objs.size = s.heap.objs.size + 1 := Heap.size_push ..
  have y2 : ((s.heap.push o1).push o2).objs.size = s.heap.objs.size + 2 := by rw [Heap.size_push, y1]
  have y3 : (hT s.heap o1 o2).objs.size = s.heap.objs.size + 3 := by rw [Heap.size_push, y2]
  have y4 : (hO s.heap o1 o2).objs.size = s.heap.objs.size + 4 := by rw [Heap.size_push, y3]
  have x4 : (hZ s.heap o1 o2).get? (hO s.heap o1 o2).objs.size = some _ := Heap.get?_push_size _ rfl
  have x3 : (hZ s.heap o1 o2).get? (hT s.heap o1 o2).objs.size = some _ := Heap.get?_push_of_some _ (Heap.get?_push_size _ rfl)
  have x2 : (hZ s.heap o1 o2).get? ((s.heap.push o1).push o2).objs.size = some _ := Heap.get?_push_of_some _ (Heap.get?_push_of_some _ (Heap.get?_push_size _ rfl))
  have x1 : (hZ s.heap o1 o2).get? (s.heap.push o1).objs.size = some o2 := Heap.get?_push_of_some _ (Heap.get?_push_of_some _ (Heap.get?_push_of_some _ (Heap.get?_push_size _ B2.free)))
  have x0 : (hZ s.heap o1 o2).get? s.heap.objs.size = some o1 := Heap.get?_push_of_some _ (Heap.get?_push_of_some _ (Heap.get?_push_of_some _ (Heap.get?_push_of_some _ (Heap.get?_push_size _ B1.free))))
  rw [y4, y3, y2] at x4
  rw [y3] at x3
  rw [y2, y1] at x2
  rw [y1] at x1
  show _ ∧ _
  rw [y4]
  exact ⟨⟨_, x4, rfl⟩, h _ x4 x2 x3 x0 x1 fun c o e => Heap.get?_push_of_some _ (Heap.get?_push_of_some _ (Heap.get?_push_of_some _ (Heap.get?_push_of_some _ (Heap.get?_push_of_some _ e))))⟩
/-- one more of a source, or its end, told by an Option -/
theorem noe_item {it : Addr} {fp : List Addr} {P : Nat → Value → Prop} {St : Nat → Heap → Prop} {Q : Option Value → Shared → Prop} (D : Draws prog w A it fp n P St) (hi : i < n) (st : St i s.heap)
    (h : ∀ x h' tk, P i x → St (i + 1) h' → Heap.SameBut it s.heap h' → Q (some x) { s with heap := h', toks := tk }) : wpAny (model prog w) A (Builtin.SmallTypes.nextOrEnd (.ref it)) Q E s := by
  unfold Builtin.SmallTypes.nextOrEnd
  exact wpAny_bind (wpAny_attempt (D.item i s _ _ hi st fun x h' tk p q r => wpAny_pure (h x h' tk p q r)))
theorem noe_end {it : Addr} {fp : List Addr} {P : Nat → Value → Prop} {St : Nat → Heap → Prop} {Q : Option Value → Shared → Prop} (D : Draws prog w A it fp n P St) (st : St n s.heap)
    (h : ∀ h', Heap.ExtBut it s.heap h' → Q none { s with heap := h' }) : wpAny (model prog w) A (Builtin.SmallTypes.nextOrEnd (.ref it)) Q E s := by
  unfold Builtin.SmallTypes.nextOrEnd
  refine wpAny_bind (wpAny_attempt (D.done s _ _ st fun h' e hx he => ?_))
  obtain ⟨o, ho, hc⟩ := he
  exact wpAny_bind (wpAny_isInstance (T := "StopIteration") (b := true) ⟨o, ho, hc⟩ isSubtype_stop (wpAny_pure (h h' hx)))
theorem two_upd {T : Addr} {x : Value} {k : Nat} {Q : Unit → Shared → Prop} (hT : Two s.heap T a1 a2) (h : ∀ h', h'.get? T = some { cls := .type "tuple", data := .seq ((#[a1, a2] : Array Value).setIfInBounds k x) } → Heap.SameBut T s.heap h' → Q () { s with heap := h' }) :
    wpAny (model prog w) A (updateSeq T (·.setIfInBounds k x)) Q E s := wpAny_updateSeq_pair hT h
/-- where the cells lie -/
structure Sep (z TI TO i1 i2 : Addr) (fp1 fp2 : List Addr) : Prop where
  TIz : TI ≠ z
  TOz : TO ≠ z
  z1 : z ≠ i1
  z2 : z ≠ i2
  TITO : TI ≠ TO
  TI1 : TI ≠ i1
  TI2 : TI ≠ i2
  T1 : TO ≠ i1
  T2 : TO ≠ i2
  zf1 : z ∉ fp1
  zf2 : z ∉ fp2
  Tf1 : TO ∉ fp1
  Tf2 : TO ∉ fp2
  f12 : i1 ∉ fp2
  f21 : i2 ∉ fp1
theorem next_item {Q : Value → Shared → Prop} (S : Sep z TI TO i1 i2 fp1 fp2) (D1 : Draws prog w A i1 fp1 n P1 St1) (D2 : Draws prog w A i2 fp2 n P2 St2) (hz : Zp s.heap z TI TO .none) (hI : Two s.heap TI (.ref i1) (.ref i2)) (hO : Two s.heap TO a1 a2)
    (st1 : St1 i s.heap) (st2 : St2 i s.heap) (hi : i < n)
    (hQ : ∀ x1 x2 h' tk, P1 i x1 → P2 i x2 → Zp h' z TI TO (rawInt s.heap.objs.size) → Two h' TO x1 x2 → St1 (i + 1) h' → St2 (i + 1) h' → Two h' s.heap.objs.size x1 x2 → h'.objs.size = s.heap.objs.size + 1 →
      (∀ c o, c ≠ z → c ≠ TO → c ≠ i1 → c ≠ i2 → s.heap.get? c = some o → h'.get? c = some o) → Q (.ref s.heap.objs.size) { s with heap := h', toks := tk }) :
    wpAny (model prog w) A (Builtin.«zip.__next__» ⟨[.ref z], []⟩) (fun fin s' => ∃ v, fin = .done (.ret v) ∧ Q v s') E s := by
  obtain ⟨h0, gs, dr, tk0, os⟩ := s
  show wpAny _ _ (field (.ref z) 2 >>= _) _ _ _
  refine wpAny_bind (wpAny_field hz rfl (x := .bool true) rfl ?_)
  show wpAny _ _ (field (.ref z) 3 >>= _) _ _ _
  refine wpAny_bind (wpAny_field hz rfl (x := .ref TI) rfl (wpAny_bind (wpAny_seqItems hI rfl ?_)))
  show wpAny _ _ (Builtin.SmallTypes.ownedTupleIsFree (.ref z) >>= _) _ _ _
  unfold Builtin.SmallTypes.ownedTupleIsFree
  refine wpAny_bind (wpAny_bind (wpAny_field hz rfl (x := .none) rfl (wpAny_pure ?_)))
  simp only [if_true]
  refine wpAny_bind (wpAny_rule (wpAny_bind (wpAny_field hz rfl (x := .ref TO) rfl (wpAny_bind (wpAny_setField_rec hz (by simp) fun ha hza sa => ?_)))))
  have za : Zp ha z TI TO .ellipsis := hza
  have sa : Heap.SameBut z h0 ha := sa
  refine wpAny_bind ?_
  simp only [List.zipIdx_cons, List.zipIdx_nil, List.forIn_cons, List.forIn_nil]
  -- the first source
  refine wpAny_bind (wpAny_bind (wpAny_onRaise ?_))
  show wpAny _ _ (Builtin.SmallTypes.nextOrEnd (.ref i1)) _ _ ⟨ha, gs, dr, tk0, os⟩
  refine noe_item D1 hi (D1.over st1 sa S.zf1) fun x1 hb tk1 p1 n1 sb => ?_
  have sb : Heap.SameBut i1 ha hb := sb
  have tb : Two hb TO a1 a2 := sb.extBut _ _ S.T1 (sa.extBut _ _ S.TOz hO)
  refine wpAny_bind (wpAny_seqItems (s := ⟨hb, gs, dr, tk1, os⟩) tb rfl (wpAny_bind (two_upd (s := ⟨hb, gs, dr, tk1, os⟩) tb fun hc tc sc => ?_)))
  have tc : Two hc TO x1 a2 := tc
  have sc : Heap.SameBut TO hb hc := sc
  refine wpAny_bind (wpAny_letGo (wpAny_pure ?_))
  -- the second source
  refine wpAny_bind (wpAny_bind (wpAny_onRaise ?_))
  show wpAny _ _ (Builtin.SmallTypes.nextOrEnd (.ref i2)) _ _ ⟨hc, gs, dr, tk1, os⟩
  refine noe_item D2 hi (D2.over (D2.over (D2.over st2 sa S.zf2) sb S.f12) sc S.Tf2) fun x2 hd tk2 p2 n2 sd => ?_
  have sd : Heap.SameBut i2 hc hd := sd
  have td : Two hd TO x1 a2 := sd.extBut _ _ S.T2 tc
  refine wpAny_bind (wpAny_seqItems (s := ⟨hd, gs, dr, tk2, os⟩) td rfl (wpAny_bind (two_upd (s := ⟨hd, gs, dr, tk2, os⟩) td fun he te se => ?_)))
  have te : Two he TO x1 x2 := te
  have se : Heap.SameBut TO hd he := se
  refine wpAny_bind (wpAny_letGo (wpAny_pure (wpAny_pure ?_)))
  refine wpAny_bind (wpAny_seqItems (s := ⟨he, gs, dr, tk2, os⟩) te rfl (wpAny_bind (wpAny_newTuple ?_)))
  have size : he.objs.size = h0.objs.size := by rw [se.1, sd.1, sc.1, sb.1, sa.1]
  have ze : Zp he z TI TO .ellipsis := se.extBut _ _ S.TOz.symm (sd.extBut _ _ S.z2 (sc.extBut _ _ S.TOz.symm (sb.extBut _ _ S.z1 za)))
  have keep : ∀ c o, c ≠ z → c ≠ TO → c ≠ i1 → c ≠ i2 → h0.get? c = some o → he.get? c = some o := fun c o c1 c2 c3 c4 e =>
    se.extBut _ _ c2 (sd.extBut _ _ c4 (sc.extBut _ _ c2 (sb.extBut _ _ c3 (sa.extBut _ _ c1 e))))
  have m1 : St1 (i + 1) he := D1.over (D1.over (D1.over n1 sc S.Tf1) sd S.f21) se S.Tf1
  have m2 : St2 (i + 1) he := D2.over n2 se S.Tf2
  have zlt : z < he.objs.size := Heap.lt_size ze
  show wpAny _ _ (Builtin.SmallTypes.ownedTupleHandOut (.ref z) (.ref he.objs.size) >>= _) _ _ ⟨he.push { cls := .type "tuple", data := .seq #[x1, x2] }, gs, dr, tk2, os⟩
  unfold Builtin.SmallTypes.ownedTupleHandOut
  have zf : Zp (he.push { cls := .type "tuple", data := .seq #[x1, x2] }) z TI TO .ellipsis := Heap.get?_push_of_some _ ze
  refine wpAny_bind (wpAny_bind (wpAny_setField_rec zf (by simp) fun hg zg sg => ?_))
  have zg : Zp hg z TI TO (rawInt he.objs.size) := zg
  have sg : Heap.SameBut z (he.push { cls := .type "tuple", data := .seq #[x1, x2] }) hg := sg
  refine wpAny_setField_rec zg (by simp) fun hh zh sh => ?_
  have zh : Zp hh z TI TO (rawInt he.objs.size) := zh
  have sh : Heap.SameBut z hg hh := sh
  have up : ∀ c o, c ≠ z → he.get? c = some o → hh.get? c = some o := fun c o k e => sh.extBut _ _ k (sg.extBut _ _ k (Heap.get?_push_of_some _ e))
  have nw : Two hh he.objs.size x1 x2 := sh.extBut _ _ (Nat.ne_of_gt zlt) (sg.extBut _ _ (Nat.ne_of_gt zlt) (Heap.get?_push_size _ rfl))
  have last : hh.objs.size = he.objs.size + 1 := by rw [sh.1, sg.1, Heap.size_push]
  rw [size] at zh nw last
  refine wpAny_pure ⟨_, rfl, ?_⟩
  show Q (.ref he.objs.size) ⟨hh, gs, dr, tk2, os⟩
  rw [size]
  exact hQ x1 x2 hh tk2 p1 p2 zh (up _ _ S.TOz te) (D1.frame _ _ _ m1 fun b hb o e => up b o (fun q => S.zf1 (q ▸ hb)) e) (D2.frame _ _ _ m2 fun b hb o e => up b o (fun q => S.zf2 (q ▸ hb)) e) nw last fun c o c1 c2 c3 c4 e => up c o c1 (keep c o c1 c2 c3 c4 e)
theorem stop_raise {α : Type} {Q : α → Shared → Prop} (hh : A.handled = none) (h : ∀ h' e, (∀ c o, s.heap.get? c = some o → h'.get? c = some o) → (∃ o, h'.get? e = some o ∧ o.cls = .type "StopIteration") → E (.ref e) { s with heap := h' }) :
    wpAny (model prog w) A (Builtin.SmallTypes.stopIteration : Sem α) Q E s := by
  show wpAny _ _ (newExc (.type "StopIteration") [] >>= _) _ _ _
  refine wpAny_bind ?_
  simp only [newExc, newTuple]
  refine wpAny_bind (wpAny_newObj_type ?_ (by size_fits))
  refine wpAny_bind (m := firstArgMember _ _) (wpAny_of_eq (a := Value.none) (by first | rfl | (simp only [firstArgMember]; rfl)) ?_)
  refine wpAny_newObj_type ?_ (by size_fits)
  simp only [raiseNew]
  refine wpAny_bind (wpAny_handled ?_)
  rw [hh]
  refine wpAny_bind (wpAny_pure (wpAny_throw ?_))
  exact h _ _ (fun c o e => Heap.get?_push_of_some _ (Heap.get?_push_of_some _ e)) ⟨_, Heap.get?_push_size _ rfl, rfl⟩
theorem next_end {Q : Fin → Shared → Prop} (hh : A.handled = none) (S : Sep z TI TO i1 i2 fp1 fp2) (D1 : Draws prog w A i1 fp1 n P1 St1) (D2 : Draws prog w A i2 fp2 n P2 St2) (hz : Zp s.heap z TI TO .none) (hI : Two s.heap TI (.ref i1) (.ref i2)) (hO : Two s.heap TO a1 a2)
    (st1 : St1 n s.heap) (st2 : St2 n s.heap)
    (hE : ∀ h' tk e, (∀ c o, c ≠ z → c ≠ TO → c ≠ i1 → c ≠ i2 → s.heap.get? c = some o → h'.get? c = some o) → (∃ o, h'.get? e = some o ∧ o.cls = .type "StopIteration") → E (.ref e) { s with heap := h', toks := tk }) :
    wpAny (model prog w) A (Builtin.«zip.__next__» ⟨[.ref z], []⟩) Q E s := by
  obtain ⟨h0, gs, dr, tk0, os⟩ := s
  show wpAny _ _ (field (.ref z) 2 >>= _) _ _ _
  refine wpAny_bind (wpAny_field hz rfl (x := .bool true) rfl ?_)
  show wpAny _ _ (field (.ref z) 3 >>= _) _ _ _
  refine wpAny_bind (wpAny_field hz rfl (x := .ref TI) rfl (wpAny_bind (wpAny_seqItems hI rfl ?_)))
  show wpAny _ _ (Builtin.SmallTypes.ownedTupleIsFree (.ref z) >>= _) _ _ _
  unfold Builtin.SmallTypes.ownedTupleIsFree
  refine wpAny_bind (wpAny_bind (wpAny_field hz rfl (x := .none) rfl (wpAny_pure ?_)))
  simp only [if_true]
  refine wpAny_bind (wpAny_rule (wpAny_bind (wpAny_field hz rfl (x := .ref TO) rfl (wpAny_bind (wpAny_setField_rec hz (by simp) fun ha hza sa => ?_)))))
  have za : Zp ha z TI TO .ellipsis := hza
  have sa : Heap.SameBut z h0 ha := sa
  refine wpAny_bind ?_
  simp only [List.zipIdx_cons, List.zipIdx_nil, List.forIn_cons, List.forIn_nil]
  refine wpAny_bind (wpAny_bind (wpAny_onRaise ?_))
  show wpAny _ _ (Builtin.SmallTypes.nextOrEnd (.ref i1)) _ _ ⟨ha, gs, dr, tk0, os⟩
  refine noe_end D1 (D1.over st1 sa S.zf1) fun hb sb => ?_
  have sb : Heap.ExtBut i1 ha hb := sb
  have zb : Zp hb z TI TO .ellipsis := sb _ _ S.z1 za
  refine wpAny_bind (wpAny_setField_rec (s := ⟨hb, gs, dr, tk0, os⟩) zb (by simp) fun hc zc sc => ?_)
  refine wpAny_bind ?_
  show wpAny _ _ (forIn ((List.drop 1 [Value.ref i1, Value.ref i2]).zipIdx 1) PUnit.unit _ >>= _) _ _ _
  refine wpAny_bind ?_
  simp only [List.drop_succ_cons, List.drop_zero, List.zipIdx_cons, List.zipIdx_nil, List.forIn_cons, List.forIn_nil]
  refine wpAny_bind (wpAny_bind ?_)
  have s2 : St2 n hc := D2.over (D2.frame _ _ _ (D2.over st2 sa S.zf2) fun b hb' o e => sb b o (fun q => S.f12 (q ▸ hb')) e) sc S.zf2
  refine noe_end D2 s2 fun hd sd => wpAny_pure (wpAny_pure ?_)
  have sd : Heap.ExtBut i2 hc hd := sd
  refine wpAny_bind (wpAny_rule ?_)
  refine stop_raise hh fun he e ke hec => ?_
  exact hE he _ e (fun c o c1 c2 c3 c4 x => ke c o (sd c o c4 (sc.extBut c o c1 (sb c o c3 (sa.extBut c o c1 x))))) hec
/-- one turn of a for over it, the walk's end -/
theorem py_item {Q : Option Value → Shared → Prop} (S : Sep z TI TO i1 i2 fp1 fp2) (D1 : Draws prog w A.in1 i1 fp1 n P1 St1) (D2 : Draws prog w A.in1 i2 fp2 n P2 St2) (hz : Zp s.heap z TI TO .none) (hI : Two s.heap TI (.ref i1) (.ref i2)) (hO : Two s.heap TO a1 a2)
    (st1 : St1 i s.heap) (st2 : St2 i s.heap) (hi : i < n)
    (hQ : ∀ x1 x2 h' tk, P1 i x1 → P2 i x2 → Zp h' z TI TO (rawInt s.heap.objs.size) → Two h' TO x1 x2 → St1 (i + 1) h' → St2 (i + 1) h' → Two h' s.heap.objs.size x1 x2 → h'.objs.size = s.heap.objs.size + 1 →
      (∀ c o, c ≠ z → c ≠ TO → c ≠ i1 → c ≠ i2 → s.heap.get? c = some o → h'.get? c = some o) → Q (some (.ref s.heap.objs.size)) { s with heap := h', toks := tk }) : wpAny (model prog w) A (pyNext (.ref z)) Q E s := by
  have ty : s.TypeIs (.ref z) "zip" := ⟨_, hz, rfl⟩
  unfold pyNext
  refine wpAny_bind (wpAny_attempt (wpAny_callSpecial?_slot (name := Str.ofString "__next__") ty F.slot_zip_next (wpAny_call_entry F.slot_zip_next ty F.entry_zip_next ?_ (F.args_zip_next_1 _))))
  exact next_item S D1 D2 hz hI hO st1 st2 hi fun x1 x2 h' tk b1 b2 b3 b4 b5 b6 b7 b8 b9 => wpAny_pure (hQ x1 x2 h' tk b1 b2 b3 b4 b5 b6 b7 b8 b9)
theorem py_end {Q : Option Value → Shared → Prop} (hh : A.handled = none) (S : Sep z TI TO i1 i2 fp1 fp2) (D1 : Draws prog w A.in1 i1 fp1 n P1 St1) (D2 : Draws prog w A.in1 i2 fp2 n P2 St2) (hz : Zp s.heap z TI TO .none) (hI : Two s.heap TI (.ref i1) (.ref i2)) (hO : Two s.heap TO a1 a2)
    (st1 : St1 n s.heap) (st2 : St2 n s.heap) (hQ : ∀ h' tk, (∀ c o, c ≠ z → c ≠ TO → c ≠ i1 → c ≠ i2 → s.heap.get? c = some o → h'.get? c = some o) → Q none { s with heap := h', toks := tk }) : wpAny (model prog w) A (pyNext (.ref z)) Q E s := by
  have ty : s.TypeIs (.ref z) "zip" := ⟨_, hz, rfl⟩
  unfold pyNext
  refine wpAny_bind (wpAny_attempt (wpAny_callSpecial?_slot (name := Str.ofString "__next__") ty F.slot_zip_next (wpAny_call_entry F.slot_zip_next ty F.entry_zip_next (next_end hh S D1 D2 hz hI hO st1 st2 fun h' tk e hk he => ?_) (F.args_zip_next_1 _))))
  obtain ⟨o, ho, hc⟩ := he
  exact wpAny_bind (wpAny_isInstance (T := "StopIteration") (b := true) ⟨o, ho, hc⟩ isSubtype_stop (wpAny_pure (hQ h' tk hk)))
theorem go_own {elts : List Expr} {k : Nat} {pos : Pos} {T : Addr} {Q : Unit → Shared → Prop} (hz : Zp s.heap z TI TO (rawInt T)) (hQ : ∀ h', Zp h' z TI TO .none → Heap.SameBut z s.heap h' → Q () { s with heap := h' }) :
    wpAny (model prog w) A (letOwnedTupleGo (.Tuple elts k pos) (.ref z) (.ref T)) Q E s := by
  unfold letOwnedTupleGo
  refine wpAny_bind (wpAny_load hz ?_)
  show wpAny _ _ (if (["enumerate", "zip", "dict_itemiterator", "dict_reverseitemiterator", "odict_iterator", "itertools.zip_longest", "itertools.pairwise"].contains "zip" && (#[rawInt T, .bool false, .bool true, .ref TI, .ref TO] : Array Value)[0]? == some (rawInt T)) = true then _ else _) Q E s
  rw [if_pos (by simp)]
  exact wpAny_bind (wpAny_rule (wpAny_setField_rec hz (by simp) fun h' hz' hs' => hQ h' hz' hs'))
theorem py_iter {f0 : Value} {Q : Value → Shared → Prop} (hz : Zp s.heap z TI TO f0) (h : Q (.ref z) s) : wpAny (model prog w) A (pyIter (.ref z)) Q E s := by
  have ty : s.TypeIs (.ref z) "zip" := ⟨_, hz, rfl⟩
  refine wpAny_pyIter_slot ty F.slot_zip_iter (wpAny_call_entry F.slot_zip_iter ty F.entry_zip_iter ?_ (F.args_zip_iter_1 _))
  show wpAny _ _ (ret (.ref z)) _ _ s
  exact wpAny_pure ⟨_, rfl, "zip", _, ty, F.slot_zip_next.lookup, h⟩
end
end ZS
end
section
/-! Data logic: enumerate, zip, zip(.., strict=True). -/
namespace DL
open PySem PySem.Spec PyProof.Rows L2
def Sq (K : PySem.W.Frag) (l : Bool) (H : Hp) (a : Addr) (xs : List V) : Prop := if l = true then SqL K H a xs else SqT K H a xs
def ItS (l : Bool) (h : Heap) (it a : Addr) (i : Nat) : Prop := if l = true then h.IsListIter it a i else h.IsTupleIter it a i
def StS (l : Bool) (h : Heap) (a : Addr) (its : Array Value) : Prop := if l = true then h.IsList a its else h.IsTuple a its
theorem draws {prog : Program} {w : World} {A : Around} (l : Bool) (hh : A.handled = none) (it a : Addr) (hne : a ≠ it) (items : Array Value) :
    Draws prog w A it [it, a] items.size (fun i v => items[i]? = some v) (fun i h => ItS l h it a i ∧ StS l h a items) := by
  cases l with
  | true => exact Draws.list hh it a hne items
  | false => exact Draws.tuple hh it a hne items
theorem ItS.at {l : Bool} {h h' : Heap} {it a : Addr} {i : Nat} (x : ItS l h it a i) (k : ∀ o, h.get? it = some o → h'.get? it = some o) : ItS l h' it a i := by
  cases l with
  | true => exact PySem.Heap.IsListIter.at x k
  | false => exact PySem.Heap.IsTupleIter.at x k
theorem ItS.obj {l : Bool} {h : Heap} {it a : Addr} {i : Nat} (x : ItS l h it a i) : ∃ o, h.get? it = some o ∧ ∀ v, o.data ≠ .cell v := by
  cases l with
  | true =>
    obtain ⟨o, ho, _, hd⟩ := (show h.IsListIter it a i from x)
    exact ⟨o, ho, fun v q => by rw [hd] at q; cases q⟩
  | false =>
    obtain ⟨o, ho, _, hd⟩ := (show h.IsTupleIter it a i from x)
    exact ⟨o, ho, fun v q => by rw [hd] at q; cases q⟩
section
variable {X : Cx} {pins : List (Addr × Obj)} {σ : L2.St} {H : Hp} {s : Shared}
theorem sq_src {l : Bool} {a : Addr} {xs : List V} (I : Inv X pins σ H s) (h : Sq X.K l H a xs) : ∃ its : List Value, Vals xs its ∧ StS l s.heap a its.toArray ∧ a < s.heap.objs.size := by
  cases l with
  | true =>
    obtain ⟨its, r, p, _⟩ := I.list h
    exact ⟨its, r, p.isList, p.lt⟩
  | false =>
    obtain ⟨its, r, p, _⟩ := I.tuple h
    exact ⟨its, r, p, p.lt⟩
theorem sq_inj {l : Bool} {a : Addr} {xs ys : List V} (I : Inv X pins σ H s) (h : Sq X.K l H a xs) (k : Sq X.K l H a ys) : xs = ys := by
  cases l with
  | true => exact I.list_inj h k
  | false => exact I.tuple_inj h k
end
/-- pairs of two sequences of one length -/
def Itw (K : PySem.W.Frag) (l m : Bool) (a b : Addr) : It :=
  ⟨fun i H => ∃ (xs ys : List V) (x y : V), Sq K l H a xs ∧ Sq K m H b ys ∧ xs.length = ys.length ∧ xs[i]? = some x ∧ ys[i]? = some y,
    fun i H v H' => ∃ T x y, v = .ref T ∧ H T = none ∧ H' = upd H T (.tup [x, y]) ∧ (∀ xs, Sq K l H a xs → xs[i]? = some x) ∧ ∀ ys, Sq K m H b ys → ys[i]? = some y,
    fun i H => ∃ xs ys : List V, Sq K l H a xs ∧ Sq K m H b ys ∧ xs.length = i ∧ ys.length = i⟩
/-- a sequence with the places -/
def Itn (K : PySem.W.Frag) (l : Bool) (a : Addr) : It :=
  ⟨fun i H => ∃ (xs : List V) (x : V), Sq K l H a xs ∧ xs[i]? = some x,
    fun i H v H' => ∃ T x, v = .ref T ∧ H T = none ∧ H' = upd H T (.tup [.int (i : Nat), x]) ∧ ∀ xs, Sq K l H a xs → xs[i]? = some x,
    fun i H => ∃ xs : List V, Sq K l H a xs ∧ xs.length = i⟩
theorem turn_w {P : Program} {w : World} {K : PySem.W.Frag} {elts : List Expr} {kk : Nat} {tpos : Pos} {a b z TI TO i1 i2 : Addr} {l m : Bool} (D : ZS.Sep z TI TO i1 i2 [i1, a] [i2, b]) (n1 : a ≠ i1) (n2 : b ≠ i2) :
    Turn P w K (.Tuple elts kk tpos) (Itw K l m a b) [z, TI, TO, i1, i2] z (fun i h => ZS.Zp h z TI TO .none ∧ ZS.Two h TI (.ref i1) (.ref i2) ∧ (∃ x y, ZS.Two h TO x y) ∧ ItS l h i1 a i ∧ ItS m h i2 b i) where
  mem := by simp
  obj := fun i h st c hc => by
    obtain ⟨hz, hI, ⟨x, y, hO⟩, h1, h2⟩ := st
    have hc : c = z ∨ c = TI ∨ c = TO ∨ c = i1 ∨ c = i2 := by simpa using hc
    rcases hc with rfl | rfl | rfl | rfl | rfl
    · exact ⟨_, hz, fun v q => nomatch q⟩
    · exact ⟨_, hI, fun v q => nomatch q⟩
    · exact ⟨_, hO, fun v q => nomatch q⟩
    · exact h1.obj
    · exact h2.obj
  keep := fun i h h' st k => by
    obtain ⟨hz, hI, ⟨x, y, hO⟩, h1, h2⟩ := st
    exact ⟨k z (by simp) _ hz, k TI (by simp) _ hI, ⟨x, y, k TO (by simp) _ hO⟩, h1.at fun o q => k i1 (by simp) o q, h2.at fun o q => k i2 (by simp) o q⟩
  item := by
    intro X hP hw hK hc i pins s σ H E I hf st hg
    subst hP hw hK
    obtain ⟨hz, hI, ⟨x0, y0, hO⟩, h1, h2⟩ := st
    obtain ⟨xs, ys, x, y, hx, hy, hl, ex, ey⟩ := hg
    obtain ⟨its, rv, p, alt⟩ := sq_src I hx
    obtain ⟨its2, rv2, p2, blt⟩ := sq_src I hy
    have hh : X.A.in1.handled = none := I.ok.hd hc
    have hn : its2.toArray.size = its.toArray.size := by
      have e1 := rv.length
      have e2 := rv2.length
      simp
      omega
    have D1 := draws (prog := X.prog) (w := X.w) l hh i1 a n1 its.toArray
    have D2 := draws (prog := X.prog) (w := X.w) m hh i2 b n2 its2.toArray
    rw [hn] at D2
    have hi : i < its.toArray.size := by
      have e1 := rv.length
      have e2 := (List.getElem?_eq_some_iff.mp ex).1
      simp
      omega
    refine ZS.py_item D D1 D2 hz hI hO ⟨h1, p⟩ ⟨h2, p2⟩ hi fun u u2 h' tk q1 q2 z' TO' s1 s2 hT hsz hk => ?_
    refine ⟨_, rfl, ZS.go_own (s := { s with heap := h', toks := tk }) z' fun h'' z'' sb => ?_⟩
    have hzl : z < s.heap.objs.size := Heap.lt_size hz
    have hT2 : h''.get? s.heap.objs.size = some { cls := .type "tuple", data := .seq #[u, u2] } := (sb.2 _ (Nat.ne_of_gt hzl)).trans hT
    obtain ⟨v1, hv1, ru⟩ := rv.get ex
    obtain ⟨v2, hv2, ru2⟩ := rv2.get ey
    have eu : u = v1 := by
      have q1 : its.toArray[i]? = some u := q1
      have : its.toArray[i]? = some v1 := by simpa using hv1
      rw [q1] at this
      exact Option.some.inj this
    have eu2 : u2 = v2 := by
      have q2 : its2.toArray[i]? = some u2 := q2
      have : its2.toArray[i]? = some v2 := by simpa using hv2
      rw [q2] at this
      exact Option.some.inj this
    subst eu eu2
    have new : ObjOk X.prog X.w (upd H s.heap.objs.size (.tup [x, y])) h'' s.heap.objs.size (.tup [x, y]) := ⟨by show 2 ≤ sizeLine; decide, [u, u2], .cons ru (.cons ru2 .nil), ⟨_, hT2, rfl, _, rfl⟩⟩
    have far : ∀ c o, c ∉ [z, TI, TO, i1, i2] → s.heap.get? c = some o → h''.get? c = some o := fun c o hb q =>
      (sb.2 c (fun q' => hb (by simp [q']))).trans (hk c o (fun q' => hb (by simp [q'])) (fun q' => hb (by simp [q'])) (fun q' => hb (by simp [q'])) (fun q' => hb (by simp [q'])) q)
    have I1 : Inv X pins σ (upd H s.heap.objs.size (.tup [x, y])) { s with heap := h'', toks := tk } := I.turnedNew far hf (Nat.le_refl _) new
    refine ⟨.ref s.heap.objs.size, _, I1, rfl, ⟨_, x, y, rfl, I.hok.fresh (Nat.le_refl _), rfl, fun xs' hl' => by rw [sq_inj I hl' hx]; exact ex, fun ys' hl' => by rw [sq_inj I hl' hy]; exact ey⟩, ⟨z'', ?_, ⟨u, u2, ?_⟩, ?_, ?_⟩, fun c hcm => ?_⟩
    · exact (sb.2 _ D.TIz).trans (hk _ _ D.TIz D.TITO D.TI1 D.TI2 hI)
    · exact (sb.2 _ D.TOz).trans TO'
    · exact s1.1.at fun o q => (sb.2 _ D.z1.symm).trans q
    · exact s2.1.at fun o q => (sb.2 _ D.z2.symm).trans q
    · have hlt : c < s.heap.objs.size := by
        have hcm : c = z ∨ c = TI ∨ c = TO ∨ c = i1 ∨ c = i2 := by simpa using hcm
        rcases hcm with rfl | rfl | rfl | rfl | rfl
        · exact hzl
        · exact Heap.lt_size hI
        · exact Heap.lt_size hO
        · obtain ⟨o, e, _⟩ := h1.obj; exact Heap.lt_size e
        · obtain ⟨o, e, _⟩ := h2.obj; exact Heap.lt_size e
      rw [upd_ne (Nat.ne_of_lt hlt)]
      exact (hf c hcm).1
  done := by
    intro X hP hw hK hc i pins s σ H E I hf st hg
    subst hP hw hK
    obtain ⟨hz, hI, ⟨x0, y0, hO⟩, h1, h2⟩ := st
    obtain ⟨xs, ys, hx, hy, l1, l2⟩ := hg
    obtain ⟨its, rv, p, alt⟩ := sq_src I hx
    obtain ⟨its2, rv2, p2, blt⟩ := sq_src I hy
    have hh : X.A.in1.handled = none := I.ok.hd hc
    have e1 : its.toArray.size = i := by
      have e1 := rv.length
      simp
      omega
    have e2 : its2.toArray.size = i := by
      have e1 := rv2.length
      simp
      omega
    have D1 := draws (prog := X.prog) (w := X.w) l hh i1 a n1 its.toArray
    have D2 := draws (prog := X.prog) (w := X.w) m hh i2 b n2 its2.toArray
    rw [e1] at D1
    rw [e2] at D2
    exact ZS.py_end (I.ok.hd hc) D D1 D2 hz hI hO ⟨h1, p⟩ ⟨h2, p2⟩ fun h' tk hk => ⟨rfl, I.turnedL (ch := [z, TI, TO, i1, i2]) (fun c o hb q =>
      hk c o (fun q' => hb (by simp [q'])) (fun q' => hb (by simp [q'])) (fun q' => hb (by simp [q'])) (fun q' => hb (by simp [q'])) q) hf⟩
  self := fun A i s Q E st h => ZS.py_iter st.1 h
end DL
end
section
/-! enumerate(v) of a list or a tuple; DI rules of enumerate, zip, zip strict. -/
namespace EN
open PySem
theorem meets_new {v : Value} {o : Obj} {H : Heap → Prop} (B : Begins v o H) :
    Meets (Builtin.«enumerate.__new__» ⟨[.type "enumerate", v], []⟩) (fun _ R s => H s.heap ∧ R (.ok (.ret (.ref (s.heap.push o).objs.size))) { s with heap := (s.heap.push o).push { cls := .type "enumerate", data := .fields #[.none, .bool false, .ref s.heap.objs.size, rawInt 0, .none, .none] } }) :=
  .of_wp fun prog w A R s h => by
    obtain ⟨hp, gs, dr, tk, os⟩ := s; obtain ⟨k, h⟩ := h
    have hsub := sub_enumerate
    have q1 : ∀ {A' : Around} {E : Value → Shared → Prop} {Q : Value → Shared → Prop}, Q (.ref hp.objs.size) ⟨hp.push o, gs, dr, tk, os⟩ → wpAny (model prog w) A' (pyIter v) Q E ⟨hp, gs, dr, tk, os⟩ :=
      fun q => B.iter prog w _ _ ⟨hp, gs, dr, tk, os⟩ _ k q
    wp_walk using q1
    refine wpAny_stack_any fun st => wpAny_pure ?_
    split
    · rename_i c _ _ _ _ _
      cases (c == Value.type "enumerate") <;> (wp_walk using q1; exact ⟨_, rfl, h⟩)
    · wp_walk using q1
      exact ⟨_, rfl, h⟩
theorem begins {prog : Program} {w : World} {A : Around} {E : Value → Shared → Prop} {s : Shared} {v : Value} {o : Obj} {H : Heap → Prop} {Q : Value → Shared → Prop} (B : Begins v o H) (k : H s.heap)
    (h : ∀ h', IsEnum h' (s.heap.objs.size + 1) s.heap.objs.size 0 .none → h'.get? s.heap.objs.size = some o → (∀ b o, s.heap.get? b = some o → h'.get? b = some o) → Q (.ref (s.heap.objs.size + 1)) { s with heap := h' }) :
    wpAny (model prog w) A (call (.type "enumerate") [v]) Q E s := by
  refine callType_new F.called_enumerate (by decide) (F.typeCall_enumerate_1 _) (F.newCall_enumerate_1 _) (fun obj => F.args_object_init_2 obj _) F.entry_enumerate_new (meets_new B) ⟨k, ?_⟩
  have sz : (s.heap.push o).objs.size = s.heap.objs.size + 1 := Heap.size_push ..
  have top : ((s.heap.push o).push { cls := .type "enumerate", data := .fields #[.none, .bool false, .ref s.heap.objs.size, rawInt 0, .none, .none] }).get? (s.heap.push o).objs.size = some _ := Heap.get?_push_size _ rfl
  show _ ∧ _
  rw [sz] at top ⊢
  exact ⟨⟨_, top, rfl⟩, h _ top (Heap.get?_push_of_some _ (Heap.get?_push_size _ B.free)) fun b o x => Heap.get?_push_of_some _ (Heap.get?_push_of_some _ x)⟩
end EN
namespace DL
open PySem PySem.Spec PyProof.Rows L2
theorem turn_n {P : Program} {w : World} {K : PySem.W.Frag} {elts : List Expr} {kk : Nat} {tpos : Pos} {a e it : Addr} {l : Bool} (ne : e ≠ it) (na : a ≠ it) (ea : e ≠ a) :
    Turn P w K (.Tuple elts kk tpos) (Itn K l a) [e, it] e (fun i h => (∃ old, IsEnum h e it ((i : Nat) : Int) old) ∧ ItS l h it a i) where
  mem := by simp
  obj := fun i h st b hb => by
    obtain ⟨⟨old, he⟩, hi⟩ := st
    have hb : b = e ∨ b = it := by simpa using hb
    rcases hb with rfl | rfl
    · exact ⟨_, he, fun v q => nomatch q⟩
    · exact hi.obj
  keep := fun i h h' st k => by
    obtain ⟨⟨old, he⟩, hi⟩ := st
    exact ⟨⟨old, k e (by simp) _ he⟩, hi.at fun o q => k it (by simp) o q⟩
  item := by
    intro X hP hw hK hc i pins s σ H E I hf st hg
    subst hP hw hK
    obtain ⟨⟨old, he⟩, hit⟩ := st
    obtain ⟨xs, x, hq, hx⟩ := hg
    obtain ⟨its, rv, p, alt⟩ := sq_src I hq
    have hh : X.A.in1.handled = none := I.ok.hd hc
    have D1 := draws (prog := X.prog) (w := X.w) l hh it a na its.toArray
    obtain ⟨u, hu, ru⟩ := rv.get hx
    have hi : i < its.toArray.size := by
      have e1 := rv.length
      have e2 := (List.getElem?_eq_some_iff.mp hx).1
      simp
      omega
    refine wpAny_pyNext_enum_itemD D1 he ⟨hit, p⟩ hi ne (by simp [ne, ea]) fun y h' tk hy ho st' hT hsz hk => ?_
    have ey : y = u := by
      have hy : its.toArray[i]? = some y := hy
      have : its.toArray[i]? = some u := by simpa using hu
      rw [hy] at this
      exact Option.some.inj this
    subst ey
    refine ⟨_, rfl, wpAny_letOwnedTupleGo_enum (s := { s with heap := h', toks := tk + 1 }) ho fun h'' he' sb => ?_⟩
    have hel : e < s.heap.objs.size := Heap.lt_size he
    have hT2 : h''.get? s.heap.objs.size = some { cls := .type "tuple", data := .seq #[.int i tk, y] } := (sb.2 _ (Nat.ne_of_gt hel)).trans hT
    have new : ObjOk X.prog X.w (upd H s.heap.objs.size (.tup [.int (i : Nat), x])) h'' s.heap.objs.size (.tup [.int (i : Nat), x]) := ⟨by show 2 ≤ sizeLine; decide, [.int i tk, y], .cons ⟨_, rfl⟩ (.cons ru .nil), ⟨_, hT2, rfl, _, rfl⟩⟩
    have I1 : Inv X pins σ (upd H s.heap.objs.size (.tup [.int (i : Nat), x])) { s with heap := h'', toks := tk + 1 } :=
      I.turnedNew (ch := [e, it]) (fun b ob hb q => (sb.2 b (fun z => hb (by simp [z]))).trans (hk b ob (fun z => hb (by simp [z])) (fun z => hb (by simp [z])) q)) hf (Nat.le_refl _) new
    refine ⟨.ref s.heap.objs.size, _, I1, rfl, ⟨_, x, rfl, I.hok.fresh (Nat.le_refl _), rfl, fun ys hy => by rw [sq_inj I hy hq]; exact hx⟩, ⟨⟨y, ?_⟩, st'.1.at fun o q => (sb.2 it ne.symm).trans q⟩, fun b hb => ?_⟩
    · have e1 : ((i + 1 : Nat) : Int) = (i : Int) + 1 := by omega
      rw [e1]
      exact he'
    · have hlt : b < s.heap.objs.size := by
        have hb : b = e ∨ b = it := by simpa using hb
        rcases hb with rfl | rfl
        · exact hel
        · obtain ⟨o, e, _⟩ := hit.obj; exact Heap.lt_size e
      rw [upd_ne (Nat.ne_of_lt hlt)]
      exact (hf b hb).1
  done := by
    intro X hP hw hK hc i pins s σ H E I hf st hg
    subst hP hw hK
    obtain ⟨⟨old, he⟩, hit⟩ := st
    obtain ⟨xs, hq, hl⟩ := hg
    obtain ⟨its, rv, p, alt⟩ := sq_src I hq
    have hh : X.A.in1.handled = none := I.ok.hd hc
    have D1 := draws (prog := X.prog) (w := X.w) l hh it a na its.toArray
    have e1 : its.toArray.size = i := by
      have e1 := rv.length
      simp
      omega
    rw [e1] at D1
    exact wpAny_pyNext_enum_endD D1 he ⟨hit, p⟩ fun h' hk => ⟨rfl, I.turnedL (t' := s.toks) (ch := [e, it]) (fun b o hb q => hk b o (fun z => hb (by simp [z])) q) hf⟩
  self := fun A i s Q E st h => by
    obtain ⟨⟨_, he⟩, _⟩ := st
    exact wpAny_pyIter_enum he h
theorem begins_of (l : Bool) (a : Addr) (its : Array Value) : Begins (.ref a) (if l = true then { cls := .type "list_iterator", data := .fields #[.ref a, .int 0 0] } else { cls := .type "tuple_iterator", data := .fields #[.ref a, .int 0 0] } : Obj) fun h => StS l h a its := by
  cases l with
  | true => exact begins_list a its
  | false => exact begins_tuple a its
theorem its_of {l : Bool} {h : Heap} {it a : Addr} (e : h.get? it = some (if l = true then { cls := .type "list_iterator", data := .fields #[.ref a, .int 0 0] } else { cls := .type "tuple_iterator", data := .fields #[.ref a, .int 0 0] } : Obj)) : ItS l h it a 0 := by
  cases l with
  | true => exact ⟨_, e, rfl, rfl⟩
  | false => exact ⟨_, e, rfl, rfl⟩
def iW (K : PySem.W.Frag) (l m : Bool) (ta : TA) : TI := fun σ H R => ta σ H fun vs H1 => ∃ a b xs ys, vs = [.ref a, .ref b] ∧ Sq K l H1 a xs ∧ Sq K m H1 b ys ∧ R (Itw K l m a b) H1
def iN (K : PySem.W.Frag) (l : Bool) (ta : TA) : TI := fun σ H R => ta σ H fun vs H1 => ∃ a xs, vs = [.ref a] ∧ Sq K l H1 a xs ∧ R (Itn K l a) H1
section
variable {X : Cx} {e e2 : Expr} {ta : TA} {p pos tpos kp kpos : Pos} {elts : List Expr} {kk j : Nat} {l m : Bool}
theorem pi_n (hg : Gl X "enumerate") (hm : X.mg "enumerate" = none) (ha : PA X [e] ta) (hs : starEach [e] X.env = [(false, eval e X.env)] := by rfl) : PI X (.Tuple elts kk tpos) (.Call (.Name "enumerate" p) [e] [] pos) (iN X.K l ta) := by
  refine ⟨fun pins s σ H R I h => ?_⟩
  refine Call_ (ld_blt I hg hm boot_enumerate (PyProof.Rows.callWith_type1 (thn (ha.run pos pins s σ H _ I h) fun us s1 ⟨vs, H1, I1, r1, a, xs, ex, hq, q⟩ => ?_) hs rfl))
  subst ex
  cases r1 with
  | cons r rr =>
    cases rr
    cases r
    obtain ⟨its, rv, hp, alt⟩ := sq_src I1 hq
    refine EN.begins (begins_of l a its.toArray) hp fun h' he hit hk => wpAny_pyIter_enum he ?_
    have I2 : Inv X pins σ H1 { s1 with heap := h' } := I1.kept (t' := s1.toks) hk
    refine ⟨s1.heap.objs.size + 1, [s1.heap.objs.size + 1, s1.heap.objs.size], _, _, H1, rfl, I2, turn_n (a := a) (Nat.succ_ne_self _) (Nat.ne_of_lt alt) (Nat.ne_of_gt (Nat.lt_succ_of_lt alt)), ⟨⟨.none, he⟩, its_of hit⟩, fun b hb => ?_, q⟩
    have hb : b = s1.heap.objs.size + 1 ∨ b = s1.heap.objs.size := by simpa using hb
    have hle : s1.heap.objs.size ≤ b := by
      rcases hb with z | z <;> rw [z]
      · exact Nat.le_add_right _ _
      · exact Nat.le_refl _
    exact I1.fpOk hle (I1.hok.fresh hle)
theorem nmem2 {x y z : Nat} (h1 : x ≠ y) (h2 : x ≠ z) : x ∉ ([y, z] : List Addr) := fun h => by
  rcases List.mem_cons.mp h with q | q
  · exact h1 q
  · exact h2 (List.mem_singleton.mp q)
theorem neN {x y : Nat} (h : x < y ∨ y < x) : (x : Addr) ≠ y := fun e => by
  have e : x = y := e
  omega
theorem sep_of {N a b : Nat} (ha : a < N) (hb : b < N) : ZS.Sep (N + 4) (N + 2) (N + 3) N (N + 1) [N, a] [N + 1, b] :=
  ⟨neN (by omega), neN (by omega), neN (by omega), neN (by omega), neN (by omega), neN (by omega), neN (by omega), neN (by omega), neN (by omega), nmem2 (by omega) (by omega), nmem2 (by omega) (by omega), nmem2 (by omega) (by omega), nmem2 (by omega) (by omega), nmem2 (by omega) (by omega), nmem2 (by omega) (by omega)⟩
theorem pi_w (hg : Gl X "zip") (hm : X.mg "zip" = none) (ha : PA X [e, e2] ta) (h1 : starEach [e, e2] X.env = (false, eval e X.env) :: starEach [e2] X.env := by rfl)
    (h2 : ((backTo pos (starEach [e, e2] X.env)).any (·.1) || (backToKw pos (keywordEach [⟨some "strict", .Constant (.bool true) j kp, kpos⟩] X.env)).any (·.1.isNone)) = false := by rfl)
    (h3 : (backToKw pos (keywordEach [⟨some "strict", .Constant (.bool true) j kp, kpos⟩] X.env)).all (·.1.isSome) = true := by rfl) (h4 : (backToKw pos (keywordEach [⟨some "strict", .Constant (.bool true) j kp, kpos⟩] X.env)).filterMap (·.1) = [Str.ofString "strict"] := by rfl) :
    PI X (.Tuple elts kk tpos) (.Call (.Name "zip" p) [e, e2] [⟨some "strict", .Constant (.bool true) j kp, kpos⟩] pos) (iW X.K l m ta) := by
  refine ⟨fun pins s σ H R I h => ?_⟩
  refine wpAny_Call_Name_kw (ld_blt I hg hm PyProof.Rows.boot_zip ?_)
  refine PySem.W.callWith_of (P := fun _ => True) h2 (fun h _ => ⟨.machine, .inr (.inl rfl), PySem.W.Looks.now⟩) (PyProof.Rows.evalArgs_kw2 h3 (thn (ha.run pos pins s σ H _ I h) fun us s1 ⟨vs, H1, I1, r1, a, b, xs, ys, ex, hx, hy, q⟩ => ?_) h1)
  subst ex
  have kw := (pk_cons (X := X) (nm := some (Str.ofString "strict")) (kpos := kpos) (pe_bl (b := true) (j := j) (pos := kp)) pk_nil).run pos pins s1 σ H1 (fun zs H2 => zs = [.bl true] ∧ H2 = H1) I1 ⟨rfl, rfl⟩
  refine thn kw fun ks s2 ⟨zs, H2, I2, r2, ez, eH⟩ => ⟨True.intro, ?_⟩
  subst ez
  subst eH
  rw [h4]
  cases r2 with
  | cons rb rr2 =>
    cases rr2
    cases rb
    cases r1 with
    | cons r rr =>
      cases rr with
      | cons r' rr =>
        cases rr
        cases r
        cases r'
        obtain ⟨its, rv, p1, alt⟩ := sq_src I2 hx
        obtain ⟨its2, rv2, p2, blt⟩ := sq_src I2 hy
        show wpAny _ _ (call (.type "zip") [.ref a, .ref b] [(Str.ofString "strict", .bool true)]) _ _ s2
        refine ZS.begins (begins_of l a its.toArray) (begins_of m b its2.toArray) p1 p2 fun h' hz hI hO b1 b2 hk => ZS.py_iter hz ?_
        have I3 : Inv X pins σ H2 { s2 with heap := h' } := I2.kept (t' := s2.toks) hk
        refine ⟨s2.heap.objs.size + 4, [s2.heap.objs.size + 4, s2.heap.objs.size + 2, s2.heap.objs.size + 3, s2.heap.objs.size, s2.heap.objs.size + 1], _, _, H2, rfl, I3, turn_w (sep_of alt blt) (Nat.ne_of_lt alt) (Nat.ne_of_lt (Nat.lt_succ_of_lt blt)), ⟨hz, hI, ⟨_, _, hO⟩, its_of b1, its_of b2⟩, fun c hcm => ?_, q⟩
        have hcm : c = s2.heap.objs.size + 4 ∨ c = s2.heap.objs.size + 2 ∨ c = s2.heap.objs.size + 3 ∨ c = s2.heap.objs.size ∨ c = s2.heap.objs.size + 1 := by simpa using hcm
        have hle : s2.heap.objs.size ≤ c := by
          rcases hcm with z | z | z | z | z <;> rw [z] <;> first | exact Nat.le_add_right _ _ | exact Nat.le_refl _
        exact I2.fpOk hle (I2.hok.fresh hle)
end
/-! ### DI -/
def sqD (l : Bool) (xs : List D) : D := if l = true then .lst xs else .tup xs
section
variable {g : Gx} {ρ : Env} {X : Cx} {e e2 : Expr} {p pos tpos kp kpos : Pos} {elts : List Expr} {kk j : Nat} {l m : Bool} {xs ys : List D}
theorem sqD_at {F H : Hp} {v : V} (b : Sub F H) (h : Is g F (sqD l xs) v) : ∃ a vs, v = .ref a ∧ (∀ H, Sub F H → Sq X.K l H a vs) ∧ All g F xs vs := by
  cases l with
  | true =>
    obtain ⟨a, vs, rfl, ha, al⟩ := h
    exact ⟨a, vs, rfl, fun H s => SqL.of (s _ _ ha), al⟩
  | false =>
    obtain ⟨a, vs, rfl, ha, al⟩ := h
    exact ⟨a, vs, rfl, fun H s => SqT.of (s _ _ ha), al⟩
theorem di_n (hg : Gl X "enumerate") (hm : X.mg "enumerate" = none) (ha : DE g X e ρ (sqD l xs)) (hs : starEach [e] X.env = [(false, eval e X.env)] := by rfl) :
    DI g X (.Tuple elts kk tpos) (.Call (.Name "enumerate" p) [e] [] pos) ρ (xs.zipIdx.map fun q => D.tup [.int (q.2 : Nat), q.1]) := PI.wk (pi_n (l := l) hg hm (da_cons ha da_nil hs) hs) fun σ H R ⟨F, rp, q⟩ => ⟨F, rp, fun vs F2 H2 s al => by
  obtain ⟨v, rfl, iv⟩ := allA1 al
  obtain ⟨a, vs, rfl, hsq, al⟩ := sqD_at (X := X) s.base.sub iv
  refine ⟨a, vs, rfl, hsq _ s.base.sub, q F2 H2 _ s ?_⟩
  have h : (xs.zipIdx.map fun q => D.tup [.int (q.2 : Nat), q.1]) = ((xs.zipIdx.map fun q => (D.int (q.2 : Nat), q.1)).map fun q => D.tup [q.1, q.2]) := by
    rw [List.map_map]
    rfl
  rw [h]
  refine gives_pairT (fun i F' H' b sb q hq => ?_) (fun i F' H' b sb hl => ⟨vs, hsq _ (sb.trans b.sub), by rw [al.len]; simpa using hl.symm⟩)
  rw [List.getElem?_map, List.getElem?_zipIdx] at hq
  cases hx : xs[i]? with
  | none => rw [hx] at hq; cases hq
  | some d =>
    rw [hx] at hq
    have hq : (D.int ((0 + i : Nat) : Int), d) = q := Option.some.inj hq
    subst hq
    obtain ⟨v, hv, iv⟩ := al.get hx
    refine ⟨⟨vs, v, hsq _ (sb.trans b.sub), hv⟩, fun x H3 ⟨T, y, e1, e2, e3, e4⟩ => ?_⟩
    have e5 := e4 vs (hsq _ (sb.trans b.sub))
    rw [hv] at e5
    cases e5
    exact ⟨T, .int (i : Nat), v, e1, e2, e3, by rw [Nat.zero_add]; rfl, Is.mono sb d v iv⟩⟩
theorem gives_w {F : Hp} {a b : Addr} {vs ws : List V} {J : It} (hJ : J = Itw X.K l m a b) (hl : xs.length = ys.length) (s1 : ∀ H, Sub F H → Sq X.K l H a vs) (s2 : ∀ H, Sub F H → Sq X.K m H b ws) (al : All g F xs vs) (al2 : All g F ys ws) :
    Gives g J F ((xs.zip ys).map fun q => D.tup [q.1, q.2]) := by
  subst hJ
  refine gives_pairT (fun i F' H' b sb q hq => ?_) (fun i F' H' b sb hi => ⟨vs, ws, s1 _ (sb.trans b.sub), s2 _ (sb.trans b.sub), by rw [al.len]; simp at hi; omega, by rw [al2.len]; simp at hi; omega⟩)
  obtain ⟨hx, hy⟩ := List.getElem?_zip_eq_some.mp hq
  obtain ⟨v, hv, iv⟩ := al.get hx
  obtain ⟨w, hw, iw⟩ := al2.get hy
  refine ⟨⟨vs, ws, v, w, s1 _ (sb.trans b.sub), s2 _ (sb.trans b.sub), by rw [al.len, al2.len, hl], hv, hw⟩, fun x H3 ⟨T, y, u, e1, e2, e3, e4, e5⟩ => ?_⟩
  have f1 := e4 vs (s1 _ (sb.trans b.sub))
  have f2 := e5 ws (s2 _ (sb.trans b.sub))
  rw [hv] at f1
  rw [hw] at f2
  cases f1
  cases f2
  exact ⟨T, v, w, e1, e2, e3, Is.mono sb _ v iv, Is.mono sb _ w iw⟩
theorem di_w (hg : Gl X "zip") (hm : X.mg "zip" = none) (hl : xs.length = ys.length) (ha : DE g X e ρ (sqD l xs)) (hb : DE g X e2 ρ (sqD m ys)) (h1 : starEach [e, e2] X.env = (false, eval e X.env) :: starEach [e2] X.env := by rfl) (h5 : starEach [e2] X.env = (false, eval e2 X.env) :: starEach [] X.env := by rfl)
    (h2 : ((backTo pos (starEach [e, e2] X.env)).any (·.1) || (backToKw pos (keywordEach [⟨some "strict", .Constant (.bool true) j kp, kpos⟩] X.env)).any (·.1.isNone)) = false := by rfl)
    (h3 : (backToKw pos (keywordEach [⟨some "strict", .Constant (.bool true) j kp, kpos⟩] X.env)).all (·.1.isSome) = true := by rfl) (h4 : (backToKw pos (keywordEach [⟨some "strict", .Constant (.bool true) j kp, kpos⟩] X.env)).filterMap (·.1) = [Str.ofString "strict"] := by rfl) :
    DI g X (.Tuple elts kk tpos) (.Call (.Name "zip" p) [e, e2] [⟨some "strict", .Constant (.bool true) j kp, kpos⟩] pos) ρ ((xs.zip ys).map fun q => D.tup [q.1, q.2]) :=
  PI.wk (pi_w (l := l) (m := m) hg hm (da_cons ha (da_cons hb da_nil h5) h1) h1 h2 h3 h4) fun σ H R ⟨F, rp, q⟩ => ⟨F, rp, fun vs F2 H2 s al => by
  obtain ⟨v, w, rfl, iv, iw⟩ := allA2 al
  obtain ⟨a, vs, rfl, s1, al1⟩ := sqD_at (X := X) s.base.sub iv
  obtain ⟨b, ws, rfl, s2, al2⟩ := sqD_at (X := X) s.base.sub iw
  exact ⟨a, b, vs, ws, rfl, s1 _ s.base.sub, s2 _ s.base.sub, q F2 H2 _ s (gives_w (X := X) rfl hl s1 s2 al1 al2)⟩⟩
/-- zip of two tuples, as many as the shorter has -/
theorem di_zipT (hg : Gl X "zip") (hm : X.mg "zip" = none) (ha : DE g X e ρ (.tup xs)) (hb : DE g X e2 ρ (.tup ys)) (h1 : starEach [e, e2] X.env = (false, eval e X.env) :: starEach [e2] X.env := by rfl) (h5 : starEach [e2] X.env = (false, eval e2 X.env) :: starEach [] X.env := by rfl)
    (h2 : (backTo pos (starEach [e2] X.env)).any (·.1) = false := by rfl) : DI g X (.Tuple elts kk tpos) (.Call (.Name "zip" p) [e, e2] [] pos) ρ ((xs.zip ys).map fun q => D.tup [q.1, q.2]) :=
  PI.wk (RZ.pi_zipA hg hm (da_cons ha (da_cons hb da_nil h5) h1) h1 h2) fun σ H R ⟨F, rp, q⟩ => ⟨F, rp, fun vs F2 H2 s al => by
  obtain ⟨v, w, rfl, iv, iw⟩ := allA2 al
  obtain ⟨a, vs, rfl, s1, al1⟩ := iv
  obtain ⟨b, ws, rfl, s2, al2⟩ := iw
  refine ⟨a, b, vs, ws, rfl, .inr ⟨SqT.of (s.base.sub _ _ s1), SqT.of (s.base.sub _ _ s2), q F2 H2 _ s ?_⟩⟩
  refine gives_pairT (fun i F' H' bs sb q hq => ?_) (fun i F' H' bs sb hi => ⟨vs, ws, SqT.of (bs.sub _ _ (sb _ _ s1)), SqT.of (bs.sub _ _ (sb _ _ s2)), by rw [al1.len, al2.len]; simp at hi; omega⟩)
  obtain ⟨hx, hy⟩ := List.getElem?_zip_eq_some.mp hq
  obtain ⟨v, hv, iv⟩ := al1.get hx
  obtain ⟨w, hw, iw⟩ := al2.get hy
  refine ⟨⟨vs, ws, v, w, SqT.of (bs.sub _ _ (sb _ _ s1)), SqT.of (bs.sub _ _ (sb _ _ s2)), hv, hw⟩, fun x H3 ⟨T, y, u, e1, e2, e3, e4, e5⟩ => ?_⟩
  have f1 := e4 vs (SqT.of (bs.sub _ _ (sb _ _ s1)))
  have f2 := e5 ws (SqT.of (bs.sub _ _ (sb _ _ s2)))
  rw [hv] at f1
  rw [hw] at f2
  cases f1
  cases f2
  exact ⟨T, v, w, e1, e2, e3, Is.mono sb _ v iv, Is.mono sb _ w iw⟩⟩
end
end DL
end
section
/-! Data logic: comparisons as tests. -/
namespace DL
open PySem PySem.Spec PyProof.Rows L2
section
variable {X : Cx} {g : Gx} {ρ : Env} {a b c e : Expr} {pos : Pos} {d d1 d2 d3 : D} {xs ys : List D} {r : R2}
theorem dt_cmp {op : CmpOp} {k : Bool} (ho : OpR X (compareOp op) r) (ha : DB g X a ρ d1) (hb : DB g X b ρ d2) (hr : OpD g r d1 d2 (.bl k)) (hm : behindInMarks op b = false) : DT g X (.Compare a [op] [b] pos) ρ k :=
  PT.wk (pt_cmpR ho ha hb hm) fun σ H Q ⟨F, rp, q⟩ => top_D (ta := tB g ρ d1) (tb := tB g ρ d2) hr ⟨F, rp, fun v F2 H2 s iv => ⟨k, iv, q F2 H2 s⟩⟩
theorem dt_lt {i j : Int} (ha : DB g X a ρ (.int i)) (hb : DB g X b ρ (.int j)) : DT g X (.Compare a [.Lt] [b] pos) ρ (decide (i < j)) := dt_cmp op_lt ha hb (opd_I0 fun _ => rfl) (nomark _)
theorem dt_le {i j : Int} (ha : DB g X a ρ (.int i)) (hb : DB g X b ρ (.int j)) : DT g X (.Compare a [.LtE] [b] pos) ρ (decide (i ≤ j)) := dt_cmp op_le ha hb (opd_I0 fun _ => rfl) (nomark _)
theorem dt_gt {i j : Int} (ha : DB g X a ρ (.int i)) (hb : DB g X b ρ (.int j)) : DT g X (.Compare a [.Gt] [b] pos) ρ (decide (j < i)) := dt_cmp op_gt ha hb (opd_I0 fun _ => rfl) (nomark _)
theorem dt_ge {i j : Int} (ha : DB g X a ρ (.int i)) (hb : DB g X b ρ (.int j)) : DT g X (.Compare a [.GtE] [b] pos) ρ (decide (j ≤ i)) := dt_cmp op_ge ha hb (opd_I0 fun _ => rfl) (nomark _)
theorem dt_eqI {i j : Int} (ha : DB g X a ρ (.int i)) (hb : DB g X b ρ (.int j)) : DT g X (.Compare a [.Eq] [b] pos) ρ (decide (i = j)) := dt_cmp op_eq ha hb opd_eqI (nomark _)
theorem dt_neI {i j : Int} (ha : DB g X a ρ (.int i)) (hb : DB g X b ρ (.int j)) : DT g X (.Compare a [.NotEq] [b] pos) ρ (!decide (i = j)) := dt_cmp op_ne ha hb opd_neI (nomark _)
theorem dt_eqS {i j : Str} (ha : DB g X a ρ (.str i)) (hb : DB g X b ρ (.str j)) : DT g X (.Compare a [.Eq] [b] pos) ρ (decide (i = j)) := dt_cmp op_eq ha hb opd_eqS (nomark _)
theorem dt_neS {i j : Str} (ha : DB g X a ρ (.str i)) (hb : DB g X b ρ (.str j)) : DT g X (.Compare a [.NotEq] [b] pos) ρ (!decide (i = j)) := dt_cmp op_ne ha hb opd_neS (nomark _)
theorem dt_eqB {i j : Bool} (ha : DB g X a ρ (.bl i)) (hb : DB g X b ρ (.bl j)) : DT g X (.Compare a [.Eq] [b] pos) ρ (decide (i = j)) := dt_cmp op_eq ha hb opd_eqB (nomark _)
theorem dt_neB {i j : Bool} (ha : DB g X a ρ (.bl i)) (hb : DB g X b ρ (.bl j)) : DT g X (.Compare a [.NotEq] [b] pos) ρ (!decide (i = j)) := dt_cmp op_ne ha hb opd_neB (nomark _)
theorem dt_eqD {k : Bool} (hu : X.A.units + 64 < cLine) (h : EqOk d1 d2 k) (ha : DB g X a ρ d1) (hb : DB g X b ρ d2) : DT g X (.Compare a [.Eq] [b] pos) ρ k := dt_cmp (op_eqD hu) ha hb (opd_eqD h) (nomark _)
theorem dt_neD {k : Bool} (hu : X.A.units + 64 < cLine) (h : EqOk d1 d2 k) (ha : DB g X a ρ d1) (hb : DB g X b ρ d2) : DT g X (.Compare a [.NotEq] [b] pos) ρ (!k) := dt_cmp (op_neD hu) ha hb (opd_neD h) (nomark _)
theorem dt_inL {n : Int} {ns : List Int} (ha : DB g X a ρ (.int n)) (hb : DB g X b ρ (.lst (ns.map D.int))) (hm : behindInMarks .In b = false := by with_unfolding_all rfl) : DT g X (.Compare a [.In] [b] pos) ρ (decide (n ∈ ns)) := dt_cmp op_in_seq ha hb opd_inL hm
theorem dt_inT {n : Int} {ns : List Int} (ha : DB g X a ρ (.int n)) (hb : DB g X b ρ (.tup (ns.map D.int))) (hm : behindInMarks .In b = false := by with_unfolding_all rfl) : DT g X (.Compare a [.In] [b] pos) ρ (decide (n ∈ ns)) := dt_cmp op_in_seq ha hb opd_inT hm
theorem dt_niL {n : Int} {ns : List Int} (ha : DB g X a ρ (.int n)) (hb : DB g X b ρ (.lst (ns.map D.int))) (hm : behindInMarks .NotIn b = false := by with_unfolding_all rfl) : DT g X (.Compare a [.NotIn] [b] pos) ρ (!decide (n ∈ ns)) := dt_cmp op_notIn_seq ha hb opd_inL hm
theorem dt_isN {j : Nat} {pos' : Pos} (ha : DB g X a ρ d) : DT g X (.Compare a [.Is] [.Constant .none j pos'] pos) ρ (isNon d) :=
  PT.wk (pt_cmp (pc_isN ha) rfl) fun σ H Q ⟨F, rp, q⟩ => ⟨F, rp, fun v F2 H2 s iv => by
    refine ⟨_, rfl, ?_⟩
    rw [isB_non iv]
    exact q F2 H2 s⟩
theorem dt_notN {j : Nat} {pos' : Pos} (ha : DB g X a ρ d) : DT g X (.Compare a [.IsNot] [.Constant .none j pos'] pos) ρ (!isNon d) :=
  PT.wk (pt_cmp (pc_notN ha) rfl) fun σ H Q ⟨F, rp, q⟩ => ⟨F, rp, fun v F2 H2 s iv => by
    refine ⟨_, rfl, ?_⟩
    rw [isB_non iv]
    exact q F2 H2 s⟩
theorem dt_chain {op op' : CmpOp} {r' : R2} {k j : Bool} (ho : OpR X (compareOp op) r) (ho' : OpR X (compareOp op') r') (ha : DB g X a ρ d1) (hb : DB g X b ρ d2) (hc : DB g X c ρ d3) (hr : OpD g r d1 d2 (.bl k)) (hr' : k = true → OpD g r' d2 d3 (.bl j))
    (hm : lastMarks [op, op'] [b, c] = false := by with_unfolding_all rfl) : DT g X (.Compare a [op, op'] [b, c] pos) ρ (k && j) := by
  have n : PE X c (fun σ H Q => k = true ∧ tB g ρ d3 σ H Q) := ⟨fun pins s σ H Q I ⟨hk, q⟩ => hc.run pins s σ H Q I q⟩
  refine PT.wk (pt_chain ho ho' ha hb n hm) fun σ H Q ⟨F, rp, q⟩ => ⟨F, rp, fun x F1 H1 s1 i1 => ⟨F1, rp.step s1, fun y F2 H2 s2 i2 => hr F2 H2 x y s2.base (i1.step s2) i2 _ fun v F3 H3 s3 iv => ⟨k, iv, ?_⟩⟩⟩
  cases k with
  | true => exact (if_pos rfl).mpr ⟨rfl, F3, ((rp.step s1).step s2).step s3, fun w F4 H4 s4 i4 => hr' rfl F4 H4 y w s4.base ((i2.step s3).step s4) i4 _ fun u F5 H5 s5 i5 => ⟨j, i5, q F5 H5 ((((s1.trans s2).trans s3).trans s4).trans s5)⟩⟩
  | false => exact (if_neg Bool.false_ne_true).mpr ⟨_, rfl, q F3 H3 ((s1.trans s2).trans s3)⟩
/-- a variable, by its slot: the name is looked at first -/
theorem va (i : Nat) {x : Str} {pos : Pos} {d : D} (hN : X.N[i]? = some x := by rfl) (h : ρ[i]? = some (.sh d) := by rfl) (hv : Vis X.env.scope x := by first | exact Or.inl rfl | exact Or.inr (Or.inl rfl) | exact Or.inr (Or.inr rfl)) (hd : (x == ("__debug__" : Str)) = false := by decide)
    (hcd : (x == ("__classdict__" : Str)) = false := by decide) : DE g X (.Name x pos) ρ d := de_var h hN hv hd hcd
theorem vo (i : Nat) {x : Str} {pos : Pos} {xs : List D} (hN : X.N[i]? = some x := by rfl) (h : ρ[i]? = some (.own xs) := by rfl) (hv : Vis X.env.scope x := by first | exact Or.inl rfl | exact Or.inr (Or.inl rfl) | exact Or.inr (Or.inr rfl)) (hd : (x == ("__debug__" : Str)) = false := by decide)
    (hcd : (x == ("__classdict__" : Str)) = false := by decide) : DB g X (.Name x pos) ρ (.lst xs) := db_var h hN hv hd hcd
end
end DL
end
section
/-! Data logic: isinstance, written values. -/
namespace DL
open PySem PySem.Spec PyProof.Rows L2
def kindD : D → Option String
  | .bl _ => some "bool"
  | .int _ => some "int"
  | .str _ => some "str"
  | .tup _ => some "tuple"
  | _ => none
section
variable {X : Cx} {g : Gx} {ρ : Env} {e : Expr} {p p2 pos : Pos} {d : D}
theorem ty_of {F H : Hp} {v : V} {t : String} (b : Sub F H) (h : IsB g F H d v) (k : kindD d = some t) : TyX X.K H v (.type t) := by
  cases d with
  | bl x => cases k; cases h.bl; exact .base (.bl x)
  | int x => cases k; cases h.int; exact .base (.int x)
  | str x => cases k; cases h.str; exact .base (.str x)
  | tup xs =>
    cases k
    obtain ⟨a, vs, rfl, h1, _⟩ := h.tup
    exact .base (.tup (b _ _ h1))
  | non => cases k
  | lst xs => cases k
  | fm n ms es => cases k
/-- isinstance(e, T), T a built-in type -/
theorem de_isi {t T : String} {x : Str} {r : Bool} (hg : Gl X "isinstance") (hm : X.mg "isinstance" = none) (hgT : Gl X x) (hmT : X.mg x = none) (hv : bootBuiltins x = some (.type T)) (ha : DB g X e ρ d) (hk : kindD d = some t) (hr : kitB t T = some r)
    (hn : x ≠ ("__name__" : Str) := by decide) (hdb : (x == ("__debug__" : Str)) = false := by decide)
    (h1 : starEach [e, .Name x p2] X.env = (false, eval e X.env) :: starEach [.Name x p2] X.env := by rfl) (h2 : starEach [.Name x p2] X.env = (false, eval (.Name x p2) X.env) :: starEach [] X.env := by rfl)
    (h3 : (backTo pos (starEach [.Name x p2] X.env)).any (·.1) = false := by rfl) :
    DE g X (.Call (.Name "isinstance" p) [e, .Name x p2] [] pos) ρ (.bl r) :=
  PE.wk (pe_callB call_isi hg hm PyProof.Rows.boot_isinstance (pa_cons ha (pa_cons (pe_bltn hgT hmT hv (v := .ty T) rfl hn hdb) pa_nil h2) h1) (by decide) (by decide) h1 h3) fun σ H Q ⟨F, rp, q⟩ =>
    ⟨F, rp, fun v F2 H2 s iv => ⟨v, .ty T, .type t, .type T, r, rfl, .ty T, ty_of s.base.sub iv hk, kit_ty hr, q _ F2 H2 s rfl⟩⟩
theorem de_gI {x : Str} {i : Int} (hg : Gl X x) (hm : ∃ t, X.mg x = some (.int i t)) (hd : (x == ("__debug__" : Str)) = false := by decide) : DE g X (.Name x pos) ρ (.int i) := by
  obtain ⟨t, hm⟩ := hm
  exact de_glob hg hm (v := .int i) ⟨t, rfl⟩ (fun _ => rfl) hd
theorem de_gS {x : Str} {i : Str} (hg : Gl X x) (hm : ∃ t, X.mg x = some (.str i t)) (hd : (x == ("__debug__" : Str)) = false := by decide) : DE g X (.Name x pos) ρ (.str i) := by
  obtain ⟨t, hm⟩ := hm
  exact de_glob hg hm (v := .str i) ⟨t, rfl⟩ (fun _ => rfl) hd
variable {a b : Expr} {es : List Expr} {p1 p3 : Pos}
def rSgn : R2 := fun x y H Q => ∃ (c : Nat) (z : Str), x = .str ⟨#[c]⟩ ∧ y = .str z ∧ Q (.bl (decide (c ∈ z.cps.toList))) H
theorem opd_inS {c : Nat} {z : Str} : OpD g rSgn (.str ⟨#[c]⟩) (.str z) (.bl (decide (c ∈ z.cps.toList))) := fun F H x y bs h1 h2 Q q => by
  cases h1.str
  cases h2.str
  exact ⟨c, z, rfl, rfl, q _ F H (Step.refl bs) rfl⟩
theorem de_inS {c : Nat} {z : Str} (ha : DB g X a ρ (.str ⟨#[c]⟩)) (hb : DB g X b ρ (.str z)) (hm : behindInMarks .In b = false := by with_unfolding_all rfl) : DE g X (.Compare a [.In] [b] pos) ρ (.bl (decide (c ∈ z.cps.toList))) := de_cmp (r := rSgn) op_in_sign ha hb opd_inS hm
end
end DL
end
section
/-! Data logic: a tuple's slice from 0 by ones. -/
namespace HT
open PySem PySem.Spec PyProof.Rows L2
section
variable {prog : Program} {w : World} {A : Around} {E : Value → Shared → Prop} {s : Shared}
theorem sliceApplied_one {sl : Addr} {vl vu vk : Value} {lo hi : Option Int} {n : Nat} {Q : (Int × Int × Nat) → Shared → Prop} (hs : s.heap.IsSliceOf sl vl vu vk) (pl : IsPart vl lo) (pu : IsPart vu hi) (pk : IsPart vk (some 1))
    (h : Q (((sIx n 0 lo : Nat) : Int), 1, sIx n n hi - sIx n 0 lo) s) : wpAny (model prog w) A (Builtin.Slice.sliceApplied (.ref sl) (pure (n : Int))) Q E s := by
  obtain ⟨os, hos, hcs, hds⟩ := id hs
  unfold Builtin.Slice.sliceApplied Builtin.Slice.sliceFields
  refine wpAny_bind (wpAny_bind (wpAny_field hos hds (x := vl) rfl (wpAny_bind (wpAny_field hos hds (x := vu) rfl (wpAny_bind (wpAny_field hos hds (x := vk) rfl (wpAny_pure ?_)))))))
  refine wpAny_bind (slicePart_ pk ?_)
  show wpAny _ _ (if ((1 : Int) == 0) = true then _ else _) _ _ s
  rw [if_neg (by decide)]
  refine wpAny_bind (slicePart_ pl (wpAny_bind (slicePart_ pu (wpAny_bind (wpAny_pure ?_)))))
  show wpAny _ _ (match Builtin.Slice.sliceAdjust lo hi 1 (n : Int) with | (lo, hi) => pure (lo, (1 : Int), Builtin.Slice.slicePlaces lo hi 1)) _ _ s
  rw [adjust_gen lo hi n]
  show wpAny _ _ (pure (((sIx n 0 lo : Nat) : Int), (1 : Int), Builtin.Slice.slicePlaces ((sIx n 0 lo : Nat) : Int) ((sIx n n hi : Nat) : Int) 1)) _ _ s
  rw [places_gen]
  exact wpAny_pure h
theorem getItem_tuple_one {t sl : Addr} {items : Array Value} {vl vu vk : Value} {lo hi : Option Int} {Q : Value → Shared → Prop} (ht : IsTup s.heap t items) (hs : s.heap.IsSliceOf sl vl vu vk) (pl : IsPart vl lo) (pu : IsPart vu hi) (pk : IsPart vk (some 1))
    (hw : sIx items.size 0 lo = 0 ∧ sIx items.size items.size hi = items.size) (h : Q (.ref t) s) : wpAny (model prog w) A (getItem (.ref t) (.ref sl)) Q E s := by
  obtain ⟨os, hos, hcs, hds⟩ := id hs
  have hTs : s.TypeIs (.ref sl) "slice" := ⟨os, hos, hcs⟩
  unfold getItem
  try with_reducible refine wpAny_holding ?_
  first | refine wpAny_bind (wpAny_pure ?_) | skip
  refine wpAny_bind (wpAny_sequenceKey ht.typeIs (by decide) ?_)
  refine wpAny_bind (wpAny_callSpecial?_slot (name := Str.ofString "__getitem__") ht.typeIs PyProof.Rows.slot_tuple_getitem
    (wpAny_call_entry PyProof.Rows.slot_tuple_getitem ht.typeIs entry_tuple_getitem ?_ (args_tuple_getitem _ _)))
  show wpAny _ _ (Builtin.Tuple.tupleItemsOf (.ref t) >>= _) _ _ s
  refine wpAny_bind (tupleItemsOf_ ht ?_)
  refine wpAny_bind (wpAny_typeOf hTs ?_)
  rw [if_pos (by decide)]
  refine wpAny_bind (sliceApplied_one hs pl pu pk ?_)
  have hyes : (((sIx items.size 0 lo : Nat) : Int) == 0 && (1 : Int) == 1 && (sIx items.size items.size hi - sIx items.size 0 lo) == items.size) = true := by
    rw [hw.1, hw.2]
    simp
  show wpAny _ _ (if (((sIx items.size 0 lo : Nat) : Int) == 0 && (1 : Int) == 1 && (sIx items.size items.size hi - sIx items.size 0 lo) == items.size) = true then _ else _) _ _ s
  rw [if_pos hyes]
  refine wpAny_bind ?_
  show wpAny _ _ (typeOf (.ref t) >>= fun T => pure (T == .type "tuple")) _ _ s
  refine wpAny_bind (wpAny_typeOf ht.typeIs (wpAny_pure ?_))
  first
    | rw [if_pos (by decide)]
    | simp only [beq_self_eq_true, if_true]
  first
    | exact wpAny_bind (wpAny_rule (wpAny_pure ⟨_, rfl, wpAny_pure h⟩))
    | exact wpAny_bind (wpAny_rule (wpAny_bind (wpAny_pure (wpAny_pure ⟨_, rfl, wpAny_pure h⟩))))
end
end HT
namespace DL
open PySem PySem.Spec PyProof.Rows L2
section
variable {X : Cx} {g : Gx} {ρ : Env} {e lo st : Expr} {p2 pos : Pos} {xs : List D}
/-- t[lo::st], lo 0 and st 1: t itself -/
theorem de_slS (ha : DE g X e ρ (.tup xs)) (h1 : DO g X (some lo) ρ (some 0)) (h2 : DO g X (some st) ρ (some 1)) : DE g X (.Subscript e (.Slice (some lo) none (some st) p2) pos) ρ (.tup xs) := by
  refine ⟨fun pins s σ H Q I ⟨F, rp, q⟩ => ?_⟩
  refine Subscript_ (thn (ha.run pins s σ H (fun v H1 => ∃ F1, Step g F H F1 H1 ∧ Is g F1 (.tup xs) v) I ⟨F, rp, fun v F1 H1 st iv => ⟨F1, st, iv⟩⟩) fun v s1 ⟨x, H1, I1, r1, F1, st1, iv⟩ => ?_)
  refine wpAny_Slice (thn (h1.run pins s1 σ H1 (fun o H2 => o = some 0 ∧ ∃ F2, Step g F1 H1 F2 H2) I1 ⟨F1, rp.step st1, fun F2 H2 st => ⟨rfl, F2, st⟩⟩) fun vl s2 ⟨l, H2, I2, pl, el, F2, st2⟩ => ?_)
  subst el
  refine thn (po_none.run pins s2 σ H2 (fun o H3 => o = none ∧ H3 = H2) I2 ⟨rfl, rfl⟩) fun vu s3 ⟨u, H3, I3, pu, eu, e3⟩ => ?_
  subst eu e3
  refine thn (h2.run pins s3 σ H3 (fun o H4 => o = some 1 ∧ ∃ F4, Step g F2 H3 F4 H4) I3 ⟨F2, (rp.step st1).step st2, fun F4 H4 st => ⟨rfl, F4, st⟩⟩) fun vk s4 ⟨o, H4, I4, pk, eo, F4, st4⟩ => ?_
  subst eo
  have stt := (st1.trans st2).trans st4
  have iv4 := st4.is (st2.is iv)
  obtain ⟨a, vs, ex, hv, al⟩ := iv4
  subst ex
  cases r1
  have I5 : Inv X pins σ H4 { s4 with heap := s4.heap.push { cls := .type "slice", data := .fields #[vl, vu, vk] } } := I4.kept (t' := s4.toks) fun b ob q => Heap.get?_push_of_some _ q
  obtain ⟨its, r, ht, hz⟩ := I5.tuple (SqT.of (st4.base.sub _ _ hv))
  show wpAny (model X.prog X.w) X.A (subscriptTail e (.Slice (some lo) none (some st) p2) (.ref a) (.ref s4.heap.objs.size)) (EP X pins σ Q) X.xe { s4 with heap := s4.heap.push { cls := .type "slice", data := .fields #[vl, vu, vk] } }
  refine tail_any (ops := [.ref a, .ref s4.heap.objs.size]) ht.typeIs PyProof.Rows.slot_tuple_getitem.lookup ?_ (by with_unfolding_all rfl)
  refine HT.getItem_tuple_one ht (Heap.IsSliceOf.new _ vl vu vk) pl pu pk ⟨?_, rfl⟩ ⟨.ref a, H4, I5, rfl, q (.ref a) F4 H4 stt ⟨a, vs, rfl, hv, al⟩⟩
  simp [HT.sIx]
end
end DL
end
section
/-! Data logic: the order of data, sorted. -/
namespace DL
open PySem PySem.Spec PyProof.Rows L2
/-- what < asks of data, and its answer -/
structure LtOk (d1 d2 : D) (b : Bool) : Prop where
  n1 : noF d1 = true
  n2 : noF d2 = true
  al : PySem.W.alike (toP d1) (toP d2) = true
  nn : toP d1 ≠ .none
  dp : (toP d1).depth ≤ 60
  lt : PySem.W.dataLt (toP d1) (toP d2) = b
def rLtD (K : PySem.W.Frag) : R2 := fun x y H Q => ∃ d e, Dp K H x d ∧ Dp K H y e ∧ PySem.W.alike d e = true ∧ d ≠ .none ∧ d.depth ≤ 60 ∧ Q (.bl (PySem.W.dataLt d e)) H
section
variable {X : Cx} {g : Gx} {ρ : Env} {a b e : Expr} {pos p : Pos} {d1 d2 : D} {ds : List D}
theorem op_ltD (hu : X.A.units + 64 < cLine) : OpR X (compareOp .Lt) (rLtD X.K) := by
  intro pins s σ H x y v u Q I rx ry h
  obtain ⟨d, e, hd, he, al, nn, dp, q⟩ := h
  obtain ⟨as, r1⟩ := Dp.reads I d x v hd rx
  obtain ⟨bs, r2⟩ := Dp.reads I e y u he ry
  exact PySem.W.lt_data r1 r2 al nn (by omega) ⟨.bl _, H, I, rfl, q⟩
theorem opd_ltD {k : Bool} (h : LtOk d1 d2 k) : OpD g (rLtD X.K) d1 d2 (.bl k) := fun F H x y b h1 h2 Q q => by
  refine ⟨toP d1, toP d2, dp_of (h1.is b.sub) h.n1, dp_of (h2.is b.sub) h.n2, h.al, h.nn, h.dp, ?_⟩
  rw [h.lt]
  exact q _ F H (Step.refl b) rfl
theorem de_ltD {k : Bool} (hu : X.A.units + 64 < cLine) (h : LtOk d1 d2 k) (ha : DB g X a ρ d1) (hb : DB g X b ρ d2) : DE g X (.Compare a [.Lt] [b] pos) ρ (.bl k) := de_cmp (op_ltD hu) ha hb (opd_ltD h) (nomark _)
def leD (a b : D) : Bool := !PySem.W.dataLt (toP b) (toP a)
/-- what sorted asks of a list of data -/
structure SortOk (ds : List D) : Prop where
  nf : ∀ d ∈ ds, noF d = true
  al : ∀ d ∈ ds, ∀ d' ∈ ds, PySem.W.alike (toP d) (toP d') = true
  kind : (∀ d ∈ ds, ∃ x r, toP d = .tuple (x :: r)) ∨ ∀ d ∈ ds, toP d ≠ .none ∧ ∀ xs, toP d ≠ .tuple xs
  dp : ∀ d ∈ ds, (toP d).depth ≤ 60
  len : ds.length ≤ 1000
theorem All.zips {F : Hp} : ∀ {ds : List D} {vs : List V}, All g F ds vs → ∀ q ∈ vs.zip ds, Is g F q.2 q.1
  | [], vs, h => by simp
  | d :: ds, vs, h => by
    obtain ⟨v, r, e, h1, h2⟩ := h
    subst e
    intro q hq
    rcases List.mem_cons.mp hq with rfl | hq
    · exact h1
    · exact All.zips h2 q hq
theorem all_of_pairs {F : Hp} : ∀ {qs : List (V × D)}, (∀ q ∈ qs, Is g F q.2 q.1) → All g F (qs.map (·.2)) (qs.map (·.1))
  | [], _ => rfl
  | q :: qs, h => ⟨q.1, qs.map (·.1), rfl, h q List.mem_cons_self, all_of_pairs fun r hr => h r (List.mem_cons_of_mem _ hr)⟩
theorem each_of_vals {H : Heap} : ∀ {vs : List V} {us : List Value} {ds : List D}, Vals vs us → vs.length = ds.length → PySem.W.EachIs (fun u (q : V × D) => RelV q.1 u) us (vs.zip ds)
  | [], us, ds, r, h => by
    cases r
    exact .nil
  | v :: vs, us, [], r, h => by simp at h
  | v :: vs, us, d :: ds, r, h => by
    cases r with
    | cons r1 r2 => exact .cons r1 (each_of_vals (H := H) r2 (by simpa using h))
theorem vals_of_each : ∀ {us : List Value} {qs : List (V × D)}, PySem.W.EachIs (fun u (q : V × D) => RelV q.1 u) us qs → Vals (qs.map (·.1)) us
  | _, _, .nil => .nil
  | _, _, .cons r k => .cons r (vals_of_each k)
theorem each_reads {pins : List (Addr × Obj)} {σ : L2.St} {H : Hp} {s : Shared} {F : Hp} (I : Inv X pins σ H s) (sb : Sub F H) : ∀ {us : List Value} {qs : List (V × D)}, PySem.W.EachIs (fun u (q : V × D) => RelV q.1 u) us qs → (∀ q ∈ qs, Is g F q.2 q.1 ∧ noF q.2 = true) → PySem.W.EachIs (fun u (q : V × D) => ∃ as, Reads s.heap u (toP q.2) as) us qs
  | _, _, .nil, _ => .nil
  | _, _, .cons (b := q) r k, h => .cons (Dp.reads I _ _ _ (dp_of (Is.mono sb _ _ (h q List.mem_cons_self).1) (h q List.mem_cons_self).2) r) (each_reads I sb k fun y hy => h y (List.mem_cons_of_mem _ hy))
theorem zip_snd {vs : List V} : ∀ {ds : List D}, vs.length = ds.length → (vs.zip ds).map (·.2) = ds := fun {ds} h => by
  rw [List.map_snd_zip]
  omega
/-- sorted(e), a new list -/
theorem dn_sortedD (hg : Gl X "sorted") (hm : X.mg "sorted" = none) (hu : X.A.units + 100 < cLine) (so : SortOk ds) (ha : DB g X e ρ (.lst ds)) (h1 : starEach [e] X.env = (false, eval e X.env) :: starEach [] X.env := by rfl) : DN g X (.Call (.Name "sorted" p) [e] [] pos) ρ (ds.mergeSort leD) := by
  refine dn_bltn (id := "sorted") (cr := fun xs H Q => ∃ F, Base g F H ∧ ∃ x, xs = [x] ∧ IsB g F H (.lst ds) x ∧ ∀ l ws, H l = none → All g F (ds.mergeSort leD) ws → Q (.ref l) (upd H l (.lst ws))) ?_ hg hm (by decide +kernel) (dab_cons ha dab_nil h1) ?_ (h1 := h1)
  · intro pins s σ H xs us Q I r h
    obtain ⟨F, b, x, rfl, hx, q⟩ := h
    obtain ⟨a, vs, rfl, hv, al⟩ := hx.lst b.sub
    rw [Vals.ref1 r]
    obtain ⟨its, rv, hl, _⟩ := I.list (SqL.of hv)
    have hlen := al.len
    have each := each_of_vals (H := s.heap) rv hlen
    have hq : ∀ q ∈ vs.zip ds, Is g F q.2 q.1 ∧ noF q.2 = true := fun q hq => ⟨al.zips q hq, so.nf _ (List.of_mem_zip hq).2⟩
    have mem2 : ∀ d ∈ (vs.zip ds).map (fun q => toP q.2), ∃ e ∈ ds, d = toP e := fun d hd => by
      obtain ⟨q, hq, rfl⟩ := List.mem_map.mp hd
      exact ⟨q.2, (List.of_mem_zip hq).2, rfl⟩
    refine PySem.W.sorted_data (β := V × D) (enc := fun q => toP q.2) hl.isList each (each_reads I b.sub each hq) ?_ ?_ ?_ ?_ fun out h1 h2 => ?_
    · intro d hd d' hd'
      obtain ⟨e1, m1, rfl⟩ := mem2 d hd
      obtain ⟨e2, m2, rfl⟩ := mem2 d' hd'
      exact so.al e1 m1 e2 m2
    · rcases so.kind with k | k
      · refine .inl fun d hd => ?_
        obtain ⟨e1, m1, rfl⟩ := mem2 d hd
        exact k e1 m1
      · refine .inr fun d hd => ?_
        obtain ⟨e1, m1, rfl⟩ := mem2 d hd
        exact k e1 m1
    · rw [List.length_zip, hlen, Nat.min_self]
      exact Nat.le_of_lt (small1000 so.len)
    · intro q hq
      have := so.dp q.2 (List.of_mem_zip hq).2
      omega
    · obtain ⟨ep, he'⟩ := PyProof.Rows.sortedAll_at s.heap its out.toArray
      have key : ((vs.zip ds).mergeSort (PySem.W.dataLe false fun q : V × D => toP q.2)).map (·.2) = ds.mergeSort leD := by
        rw [List.map_mergeSort (s := leD), zip_snd hlen]
        intro a _ b _
        exact congrFun (congrFun (PySem.W.dataLe_eq false (fun q : V × D => toP q.2)) a) b
      have hall : All g F (ds.mergeSort leD) (((vs.zip ds).mergeSort (PySem.W.dataLe false fun q : V × D => toP q.2)).map (·.1)) := by
        rw [← key]
        exact all_of_pairs fun q hq' => (hq q (List.mem_mergeSort.mp hq')).1
      refine ⟨.ref _, upd H (s.heap.objs.size + 1) (.lst (((vs.zip ds).mergeSort (PySem.W.dataLe false fun q : V × D => toP q.2)).map (·.1))), I.laid (t' := s.toks) (fun _ _ => PyProof.Rows.sortedAll_old) (Nat.le_succ _) ⟨?_, out, ep, vals_of_each h2, he'⟩, rfl, q _ _ (I.hok.fresh (Nat.le_succ _)) hall⟩
      rw [List.length_map, List.length_mergeSort, List.length_zip, hlen, Nat.min_self]
      exact Nat.le_of_lt (small1000 so.len)
  · intro F H vs b al Q q
    obtain ⟨v, rfl, iv⟩ := allB1 al
    refine ⟨F, b, v, rfl, iv, fun l ws hl al2 => ?_⟩
    exact q l ws F _ (Step.alloc0 b hl) hl (frozen_free b hl) upd_same al2
end
end DL
end
section
/-! Data logic: expressions that change the objects at W. -/
namespace DL
open PySem PySem.Spec PyProof.Rows L2
section
variable {g : Gx} {S : Sy g} {F0 H0 F H F2 H2 : Hp} {ρ : Env} {z z2 : S.ζ} {σ : L2.St}
theorem RetS.trans (r : RetS S F0 H0 F H z) (t : RetS S F H F2 H2 z2) : RetS S F0 H0 F2 H2 z2 :=
  ⟨t.base, r.sub0.trans t.sub0, fun a o e n w => t.extW a o (r.extW a o e n w) n w, fun a e => r.dom0 a (t.dom0 a e), fun a o e => (t.new0 a o e).elim (r.new0 a o) (fun q => .inr (r.dom0 a q)), t.wF, t.zz⟩
theorem RepS.ret (r : RepS S F0 H0 F H ρ z σ) (t : RetS S F H F2 H2 z2) : RepS S F0 H0 F2 H2 ρ z2 σ := by
  refine ⟨⟨t.base, r.e.len, fun i sl o h1 h2 => ?_⟩, r.r.trans t, r.own0, r.dist⟩
  have q := r.e.slot i sl o h1 h2
  cases sl with
  | un => trivial
  | sh d =>
    obtain ⟨v, e, iv⟩ := q
    exact ⟨v, e, Is.mono t.sub0 _ _ iv⟩
  | own xs =>
    obtain ⟨v, e, a, vs, ev, f1, h3, al⟩ := q
    subst e
    subst ev
    refine ⟨_, rfl, a, vs, rfl, ?_, t.extW a _ h3 (fun ps w => by cases w) (r.own0 i xs a h1 h2).2, All.mono t.sub0 _ _ al⟩
    cases w : F2 a with
    | none => rfl
    | some u =>
      rcases t.new0 a u w with k | k
      · rw [f1] at k; cases k
      · rw [h3] at k; cases k
  | val v => exact q
  | pt v Fb => exact ⟨q.1, q.2.trans t.sub0⟩
/-- a frame over a larger one -/
theorem RetS.shift {F1 H1 : Hp} (s : Step g F0 H0 F1 H1) (hw : ∀ a ∈ S.W, H0 a = none) (r : RetS S F1 H1 F H z) : RetS (sy0 g) F0 H0 F H () :=
  ⟨r.base, s.sub.trans r.sub0, fun a o e n _ => r.extW a o (s.ext a o e n) n (fun w => by rw [hw a w] at e; cases e), fun a e => s.dom a (r.dom0 a e), fun a o e => (r.new0 a o e).elim (s.new a o) (fun q => .inr (s.dom a q)), fun a w => absurd w List.not_mem_nil, True.intro⟩
end
section
variable {g : Gx} (S : Sy g) (F0 H0 : Hp)
/-- a value, with what it changes -/
def tW (ρ : Env) (z : S.ζ) (post : D → S.ζ → Prop) : TE := fun σ H Q => ∃ F, RepS S F0 H0 F H ρ z σ ∧ ∀ d z' v F' H', post d z' → RepS S F0 H0 F' H' ρ z' σ → Sub F F' → Is g F' d v → Q v H'
def tWT (ρ : Env) (z : S.ζ) (post : Bool → S.ζ → Prop) : TT := fun σ H Q => ∃ F, RepS S F0 H0 F H ρ z σ ∧ ∀ b z' F' H', post b z' → RepS S F0 H0 F' H' ρ z' σ → Sub F F' → Q b H'
def tWA (ρ : Env) (z : S.ζ) (post : List D → S.ζ → Prop) : TA := fun σ H Q => ∃ F, RepS S F0 H0 F H ρ z σ ∧ ∀ ds z' vs F' H', post ds z' → RepS S F0 H0 F' H' ρ z' σ → Sub F F' → All g F' ds vs → Q vs H'
abbrev EW (X : Cx) (e : Expr) (ρ : Env) (z : S.ζ) (post : D → S.ζ → Prop) : Prop := PE X e (tW S F0 H0 ρ z post)
abbrev TW (X : Cx) (e : Expr) (ρ : Env) (z : S.ζ) (post : Bool → S.ζ → Prop) : Prop := PT X e (tWT S F0 H0 ρ z post)
abbrev AW (X : Cx) (es : List Expr) (ρ : Env) (z : S.ζ) (post : List D → S.ζ → Prop) : Prop := PA X es (tWA S F0 H0 ρ z post)
end
section
variable {g : Gx} {S : Sy g} {F0 H0 : Hp} {X : Cx} {ρ : Env} {z : S.ζ} {P : DEnds S.ζ} {a b c e : Expr} {es : List Expr} {d : D} {pos : Pos} {post p1 p2 p3 : D → S.ζ → Prop}
theorem ew_of (h : DE g X e ρ d) (hp : post d z) : EW S F0 H0 X e ρ z post := PE.wk h fun σ H Q ⟨F, r, q⟩ => ⟨F, r.e, fun v F2 H2 s iv => q d z v F2 H2 hp (r.step s) s.sub iv⟩
theorem EW.mono (h : EW S F0 H0 X e ρ z p1) (k : ∀ d z', p1 d z' → post d z') : EW S F0 H0 X e ρ z post := PE.wk h fun σ H Q ⟨F, r, q⟩ => ⟨F, r, fun d z' v F' H' hp => q d z' v F' H' (k d z' hp)⟩
theorem aw_nil {post : List D → S.ζ → Prop} (h : post [] z) : AW S F0 H0 X [] ρ z post := PA.wk pa_nil fun σ H Q ⟨F, r, q⟩ => q [] z [] F H h r (Sub.refl F) rfl
theorem aw_cons {post : List D → S.ζ → Prop} (h : EW S F0 H0 X e ρ z p1) (k : ∀ d z', p1 d z' → AW S F0 H0 X es ρ z' fun ds z2 => post (d :: ds) z2) (hs : starEach (e :: es) X.env = (false, eval e X.env) :: starEach es X.env := by rfl) : AW S F0 H0 X (e :: es) ρ z post := by
  have k2 : PA X es (fun σ H Q => ∃ d z', p1 d z' ∧ tWA S F0 H0 ρ z' (fun ds z2 => post (d :: ds) z2) σ H Q) := ⟨fun pos pins s σ H Q I ⟨d, z', hp, q⟩ => (k d z' hp).run pos pins s σ H Q I q⟩
  refine PA.wk (pa_cons h k2 hs) fun σ H Q ⟨F, r, q⟩ => ⟨F, r, fun d z' v F' H' hp r' s' iv => ⟨d, z', hp, F', r', fun ds z2 vs F2 H2 hp2 r2 s2 al => ?_⟩⟩
  exact q (d :: ds) z2 (v :: vs) F2 H2 hp2 r2 (s'.trans s2) (.cons (Is.mono s2 _ _ iv) al)
theorem ew_add (ha : EW S F0 H0 X a ρ z p1) (hb : ∀ d z', p1 d z' → EW S F0 H0 X b ρ z' p2) (k : ∀ d z' d2 z2, p1 d z' → p2 d2 z2 → ∃ i j : Int, d = .int i ∧ d2 = .int j ∧ post (.int (i + j)) z2) : EW S F0 H0 X (.BinOp a .Add b pos) ρ z post := by
  have hb2 : PE X b (fun σ H Q => ∃ d z', p1 d z' ∧ tW S F0 H0 ρ z' p2 σ H Q) := ⟨fun pins s σ H Q I ⟨d, z', hp, q⟩ => (hb d z' hp).run pins s σ H Q I q⟩
  refine PE.wk (pe_op op_add ha hb2) fun σ H Q ⟨F, r, q⟩ => ⟨F, r, fun d z' v F' H' hp r' s' iv => ⟨d, z', hp, F', r', fun d2 z2 w F2 H2 hp2 r2 s2 iw => ?_⟩⟩
  obtain ⟨i, j, rfl, rfl, hq⟩ := k d z' d2 z2 hp hp2
  have e1 : v = .int i := iv
  have e2 : w = .int j := iw
  exact ⟨i, j, e1, e2, q _ z2 _ F2 H2 hq r2 (s'.trans s2) rfl⟩
theorem ew_tup {k : Nat} {post : D → S.ζ → Prop} (h : AW S F0 H0 X es ρ z fun ds z' => ds.length ≤ 1000 ∧ post (.tup ds) z') : EW S F0 H0 X (.Tuple es k pos) ρ z post := PE.wk (pe_tup h) fun σ H Q ⟨F, r, q⟩ => ⟨F, r, fun ds z' vs F1 H1 hp r1 s1 al => ⟨Nat.le_of_lt (small1000 (by rw [al.len]; exact hp.1)), fun p hn => by
  have st := Step.alloc (o := .tup vs) r1.e.base hn (fun ps z => by cases z)
  exact q (.tup ds) z' (.ref p) _ _ hp.2 (r1.step st) (s1.trans st.sub) ⟨p, vs, rfl, upd_same, st.all al⟩⟩⟩
theorem tw_le {post : Bool → S.ζ → Prop} (ha : EW S F0 H0 X a ρ z p1) (hb : ∀ d z', p1 d z' → EW S F0 H0 X b ρ z' p2) (k : ∀ d z' d2 z2, p1 d z' → p2 d2 z2 → ∃ i j : Int, d = .int i ∧ d2 = .int j ∧ post (decide (i ≤ j)) z2) : TW S F0 H0 X (.Compare a [.LtE] [b] pos) ρ z post := by
  have hb2 : PE X b (fun σ H Q => ∃ d z', p1 d z' ∧ tW S F0 H0 ρ z' p2 σ H Q) := ⟨fun pins s σ H Q I ⟨d, z', hp, q⟩ => (hb d z' hp).run pins s σ H Q I q⟩
  refine PT.wk (pt_cmpR op_le ha hb2 (nomark _)) fun σ H Q ⟨F, r, q⟩ => ⟨F, r, fun d z' v F' H' hp r' s' iv => ⟨d, z', hp, F', r', fun d2 z2 w F2 H2 hp2 r2 s2 iw => ?_⟩⟩
  obtain ⟨i, j, rfl, rfl, hq⟩ := k d z' d2 z2 hp hp2
  have e1 : v = .int i := iv
  have e2 : w = .int j := iw
  exact ⟨i, j, e1, e2, _, rfl, q _ z2 F2 H2 hq r2 (s'.trans s2)⟩
theorem tw_eq {post : Bool → S.ζ → Prop} (ha : EW S F0 H0 X a ρ z p1) (hb : ∀ d z', p1 d z' → EW S F0 H0 X b ρ z' p2) (k : ∀ d z' d2 z2, p1 d z' → p2 d2 z2 → ∃ i j : Int, d = .int i ∧ d2 = .int j ∧ post (decide (i = j)) z2) : TW S F0 H0 X (.Compare a [.Eq] [b] pos) ρ z post := by
  have hb2 : PE X b (fun σ H Q => ∃ d z', p1 d z' ∧ tW S F0 H0 ρ z' p2 σ H Q) := ⟨fun pins s σ H Q I ⟨d, z', hp, q⟩ => (hb d z' hp).run pins s σ H Q I q⟩
  refine PT.wk (pt_cmpR op_eq ha hb2 (nomark _)) fun σ H Q ⟨F, r, q⟩ => ⟨F, r, fun d z' v F' H' hp r' s' iv => ⟨d, z', hp, F', r', fun d2 z2 w F2 H2 hp2 r2 s2 iw => ?_⟩⟩
  obtain ⟨i, j, rfl, rfl, hq⟩ := k d z' d2 z2 hp hp2
  refine opd_eqI F2 H2 v w r2.e.base (.inl (Is.mono s2 _ _ iv)) (.inl iw) _ fun u F3 H3 s3 iu => ⟨_, iu, q _ z2 F3 H3 hq (r2.step s3) ((s'.trans s2).trans s3.sub)⟩
theorem tw_e {post : Bool → S.ζ → Prop} (h : EW S F0 H0 X e ρ z fun d z' => ∃ k, d = .bl k ∧ post k z') (he : ∀ whole, PySem.isTrue e X.env whole = (do let v ← whole; standAt e.pos; holding [v] (truthy v)) := by intro _; rfl) : TW S F0 H0 X e ρ z post :=
  PT.wk (pt_val h he) fun σ H Q ⟨F, rp, q⟩ => ⟨F, rp, fun d z' v F2 H2 hp r s iv => by
    obtain ⟨k, rfl, hk⟩ := hp
    exact ⟨k, iv, q k z' F2 H2 hk r s⟩⟩
theorem tw_not {post : Bool → S.ζ → Prop} (h : TW S F0 H0 X e ρ z fun b z' => post (!b) z') : TW S F0 H0 X (.UnaryOp .Not e pos) ρ z post := PT.wk (pt_not h) fun σ H Q ⟨F, rp, q⟩ => ⟨F, rp, fun b z' F2 H2 hp r s => q (!b) z' F2 H2 hp r s⟩
/-! ### statements -/
theorem ds_setW {te : TE} {i : Nat} {st : Stmt} (h : PS X st (tAsg te (gName i))) (k : ∀ σ H Q, tW S F0 H0 ρ z post σ H Q → te σ H Q) (n : ∀ d z', post d z' → P.nx (ρ.set i (.sh d)) z') : DS S F0 H0 X st ρ z P :=
  PS.wk h fun E σ H ⟨F, r, hn, _⟩ => k σ H _ ⟨F, r, fun d z' v F' H' hp r' s' iv => hn _ z' _ F' H' (n d z' hp) (r'.sh iv) s'⟩
theorem ds_setE {i : Nat} {x : Str} {pos' : Pos} (hN : X.N.Nodup) (hi : X.N[i]? = some x) (hx : Loc X.env.scope x) (he : EW S F0 H0 X e ρ z post) (n : ∀ d z', post d z' → P.nx (ρ.set i (.sh d)) z') (hs : swapsWith e (some (.Name x pos')) pos.line X.env = pure false := by rfl)
    (hf : X.fn x = true ∨ X.env.scope.names.lookup x = some .local := by first | exact .inl rfl | exact .inr rfl | assumption) :
    DS S F0 H0 X (.Assign [.Name x pos'] e pos) ρ z P := ds_setW (ps_set hN hi hx he hs hf) (fun _ _ _ q => q) n
theorem ds_retW (he : EW S F0 H0 X e ρ z P.rt) : DS S F0 H0 X (.Return (some e) pos) ρ z P := PS.wk (ps_ret he) fun E σ H ⟨F, r, _, hr, _⟩ => ⟨F, r, fun d z' v F' H' hp r' s' iv => hr d z' v F' H' hp r'.r iv⟩
theorem ds_ifW {post : Bool → S.ζ → Prop} {u w : List Stmt} (hc : TW S F0 H0 X c ρ z post) (h1 : ∀ z', post true z' → DSs S F0 H0 X u ρ z' P) (h2 : ∀ z', post false z' → DSs S F0 H0 X w ρ z' P) : DS S F0 H0 X (.If c u w pos) ρ z P := by
  have k1 : PSs X u (fun E σ H => ∃ z', post true z' ∧ tS S F0 H0 ρ z' P E σ H) := ⟨fun pins s σ H D I ⟨z', k, q⟩ => (h1 z' k).run pins s σ H D I q⟩
  have k2 : PSs X w (fun E σ H => ∃ z', post false z' ∧ tS S F0 H0 ρ z' P E σ H) := ⟨fun pins s σ H D I ⟨z', k, q⟩ => (h2 z' k).run pins s σ H D I q⟩
  exact PS.wk (ps_if hc k1 k2) fun E σ H ⟨F, r, q⟩ => ⟨F, r, fun b z' F' H' hp r' s' => by
    cases b with
    | true => exact (if_pos rfl).mpr ⟨z', hp, tS_sub s' q r'⟩
    | false => exact (if_neg Bool.false_ne_true).mpr ⟨z', hp, tS_sub s' q r'⟩⟩
theorem ds_appendW {i : Nat} {x : Str} {xs : List D} {p1 apos cpos : Pos} (h : ρ[i]? = some (.own xs)) (hN : X.N[i]? = some x) (hv : Vis X.env.scope x) (he : EW S F0 H0 X e ρ z post) (hl : xs.length < 1000) (n : ∀ d z', post d z' → P.nx (ρ.set i (.own (xs ++ [d]))) z')
    (hd : (x == ("__debug__" : Str)) = false := by decide) (hcd : (x == ("__classdict__" : Str)) = false := by decide) (hb : attributeBase (.Name x p1) "append" X.env (eval (.Name x p1) X.env) = eval (.Name x p1) X.env := by rfl)
    (h1 : starEach [e] X.env = (false, eval e X.env) :: starEach [] X.env := by rfl) (h2 : (apos.endLine == cpos.line) = true := by rfl) (h3 : swapsWith (.Call (.Attribute (.Name x p1) "append" apos) [e] [] cpos) none pos.line X.env = pure false := by rfl)
    (h4 : (((backTo cpos (starEach [e] X.env)).all fun x => !x.fst) && (backToKw cpos (keywordEach [] X.env)).all (fun x => x.fst.isSome) && decide (([e].length + ([] : List Keyword).length + if ([] : List Keyword).isEmpty = true then 0 else 1) < 30)) = true := by rfl)
    (h5 : ((backTo cpos (starEach [] X.env)).any fun x => x.fst) = false := by rfl) : DS S F0 H0 X (.Expr (.Call (.Attribute (.Name x p1) "append" apos) [e] [] cpos) pos) ρ z P := by
  refine PS.wk (ps_expr (pe_bm PySem.F.plainAttrs_list PySem.F.slot_list_append PySem.F.type_list_append mt_append (pe_var hN hv hd hcd) (pa_cons he pa_nil h1) hb h4 h2 h1 h5) h3) fun E σ H ⟨F, rp, hn, _⟩ => ?_
  obtain ⟨l, vs, e1, f1, h1, al⟩ := own_at rp h
  refine ⟨.ref l, e1, .inl ⟨rfl, vs, SqL.of h1⟩, F, rp, fun d z' v F2 H2 hp r' s' iv => ?_⟩
  obtain ⟨l2, vs2, e2, f2, h2, al2⟩ := own_at r' h
  rw [e1] at e2
  cases e2
  refine ⟨l, vs2, v, rfl, rfl, h2, small1000 (by rw [al2.len]; omega), ?_⟩
  exact hn _ z' _ F2 _ (n d z' hp) (r'.mut h e1 (al2.app (.cons iv .nil))) s'
end
/-! ### defs that change objects -/
section
variable {g : Gx} {A0 : Type} (S : A0 → Sy g) (me : A0 → V) (Pre : (a : A0) → List D → (S a).ζ → Prop) (Post : (a : A0) → List D → (S a).ζ → D → (S a).ζ → Prop)
/-- a promise: the first argument is the object that is changed -/
def spF : Sp := fun vs H Q _ => ∃ (a : A0) (F : Hp) (z : (S a).ζ) (ds : List D) (ws : List V), Base g F H ∧ vs = me a :: ws ∧ All g F ds ws ∧ (∀ x ∈ (S a).W, F x = none) ∧ (S a).Z z F H ∧ Pre a ds z ∧
  ∀ d z' v F' H', Post a ds z d z' → RetS (S a) F H F' H' z' → Is g F' d v → Q v H'
end
def envV (N : List Str) (v : V) (ds : List D) : Env := .val v :: (ds.map Slot.sh ++ List.replicate (N.length - 1 - ds.length) Slot.un)
theorem rep_startV {g : Gx} {F H : Hp} {N : List Str} {v : V} {ds : List D} {vs : List V} (b : Base g F H) (al : All g F ds vs) (hN : ds.length + 1 ≤ N.length) : RepE g F H (envV N v ds) (L2.start N (v :: vs)) := by
  have hl := al.len
  refine ⟨b, by simp [envV, L2.start, hl]; omega, fun i sl o h1 h2 => ?_⟩
  unfold envV at h1
  unfold L2.start at h2
  cases i with
  | zero =>
    simp at h1 h2
    subst h1
    subst h2
    rfl
  | succ i =>
    rw [List.getElem?_cons_succ] at h1
    rw [List.map_cons, List.cons_append, List.getElem?_cons_succ] at h2
    by_cases hi : i < ds.length
    · rw [List.getElem?_append_left (by rw [List.length_map]; exact hi), List.getElem?_map, List.getElem?_eq_getElem hi] at h1
      rw [List.getElem?_append_left (by rw [List.length_map, hl]; exact hi), List.getElem?_map] at h2
      cases h1
      obtain ⟨v, hv, iv⟩ := al.get (List.getElem?_eq_getElem hi)
      rw [hv] at h2
      cases h2
      exact ⟨v, rfl, iv⟩
    · rw [List.getElem?_append_right (by rw [List.length_map]; omega)] at h1
      have hm := List.mem_of_getElem? h1
      rw [List.eq_of_mem_replicate hm]
      trivial
theorem fnF {g : Gx} {A0 : Type} {S : A0 → Sy g} {me : A0 → V} {Pre : (a : A0) → List D → (S a).ζ → Prop} {Post : (a : A0) → List D → (S a).ζ → D → (S a).ζ → Prop} {P : Program} {w : World} {K : PySem.W.Frag} {mg : Str → Option Value} {base : Heap} {x qual : Str} {st : Stmt} {f : Addr} {fd : FuncData} {N ps : List Str} {k : Nat}
    (Fn : Fun K x qual st f fd) (sc : FnScope N ps (defScope st)) (hl : ∀ a ds z, Pre a ds z → ds.length + 1 = ps.length) (hN : ps.length ≤ N.length)
    (hb : ∀ (cdv : Value) (A : Around) (outer : List PySem.Env) (s : Shared) (H : Hp) (E : XK) (a : A0) (F0 H0 : Hp) (z : (S a).ζ) (ds : List D), Room k (A.deeper (envOfC qual (defScope st) s.heap.objs.size f cdv)) → Pre a ds z →
      DSs (S a) F0 H0 (bodyX P w K mg base N qual (defScope st) f cdv A outer s H E) (defBody st) (envV N (me a) ds) z ⟨fun _ z' => Post a ds z .non z', fun d' z' => Post a ds z d' z', fun _ _ => False, fun _ _ => False⟩) : FnOk P w K mg base CX0 (k + 1) f fd ps (spF S me Pre Post) := by
  refine Fn.ok sc (fun vs H Q E h => ?_) (fun cdv A outer s H vs Q E hr h => ?_)
  · obtain ⟨a, F, z, ds, ws, b, rfl, al, _, _, hp, _⟩ := h
    rw [List.length_cons, al.len]
    exact hl a ds z hp
  · obtain ⟨a, F, z, ds, ws, b, rfl, al, wF, zz, hp, q⟩ := h
    refine ⟨_, hb cdv A outer s H E a F H z ds hr hp, F, RepS.start b (rep_startV b al (by rw [hl a ds z hp]; exact hN)) (fun sl h xs e => ?_) wF zz, ?_, ?_, fun _ _ _ _ _ h => h.elim, fun _ _ _ _ _ h => h.elim⟩
    · subst e
      rcases List.mem_cons.mp h with h | h
      · cases h
      · rcases List.mem_append.mp h with h | h
        · obtain ⟨d, _, hd⟩ := List.mem_map.mp h
          cases hd
        · cases List.eq_of_mem_replicate h
    · intro ρ' z' σ' F' H' e r _
      exact q .non z' .non F' H' e r.r rfl
    · intro d' z' v F' H' e r iv
      exact q d' z' v F' H' e r iv
end DL
end
section
/-! Data logic: an object at W is written; a loop over a list at W. -/
namespace DL
open PySem PySem.Spec PyProof.Rows L2
section
variable {g : Gx} {S : Sy g} {F0 H0 F H : Hp} {ρ : Env} {z z' : S.ζ} {σ : L2.St}
theorem tabs_put {a : Addr} {o o' : HO} (t : LamX.Tabs g.T H) (hH : H a = some o) (ho : ∀ ps, o ≠ .tbl ps) (hc : ∀ b q, o ≠ LamX.CodeO b q) : LamX.Tabs g.T (upd H a o') := fun p hp => by
  obtain ⟨ps, t1, t2, t3⟩ := t p hp
  refine ⟨ps, (upd_ne fun q => ?_).trans t1, t2, fun pos cv hcv => ?_⟩
  · rw [q, hH] at t1
    exact ho ps (Option.some.inj t1)
  · obtain ⟨c, c1, c2⟩ := t3 pos cv hcv
    refine ⟨c, c1, (upd_ne fun q => ?_).trans c2⟩
    rw [q, hH] at c2
    exact hc a _ (Option.some.inj c2)
theorem RetS.put {a : Addr} {o o' : HO} (r : RetS S F0 H0 F H z) (ha : a ∈ S.W) (hH : H a = some o) (ho : ∀ ps, o ≠ .tbl ps) (hc : ∀ b q, o ≠ LamX.CodeO b q) (hz : S.Z z' F (upd H a o')) : RetS S F0 H0 F (upd H a o') z' := by
  have nf : ∀ (b : Addr) (u : HO), F b = some u → b ≠ a := fun b u e q => by rw [q, r.wF a ha] at e; cases e
  refine ⟨⟨fun b u e => (upd_ne (nf b u e)).trans (r.base.sub b u e), r.base.noT, tabs_put r.base.tabs hH ho hc⟩, r.sub0, fun b u e n w => (upd_ne fun q => w (by rw [q]; exact ha)).trans (r.extW b u e n w), fun b e => ?_, r.new0, r.wF, hz⟩
  by_cases q : b = a
  · rw [q, upd_same] at e; cases e
  · rw [upd_ne q] at e; exact r.dom0 b e
theorem RepS.put {a : Addr} {o o' : HO} (r : RepS S F0 H0 F H ρ z σ) (ha : a ∈ S.W) (hH : H a = some o) (ho : ∀ ps, o ≠ .tbl ps) (hc : ∀ b q, o ≠ LamX.CodeO b q) (hz : S.Z z' F (upd H a o')) : RepS S F0 H0 F (upd H a o') ρ z' σ := by
  have rr := r.r.put ha hH ho hc hz
  refine ⟨⟨rr.base, r.e.len, fun i sl u h1 h2 => ?_⟩, rr, r.own0, r.dist⟩
  have q := r.e.slot i sl u h1 h2
  cases sl with
  | un => trivial
  | sh d => exact q
  | val v => exact q
  | pt v Fb => exact q
  | own xs =>
    obtain ⟨v, e, b, vs, ev, f1, h3, al⟩ := q
    subst e
    subst ev
    exact ⟨_, rfl, b, vs, rfl, f1, (upd_ne fun w => (r.own0 i xs b h1 h2).2 (by rw [w]; exact ha)).trans h3, al⟩
/-- a walked thing, while the objects at W stand as z tells -/
def GivesW (S : Sy g) (J : It) (F : Hp) (z : S.ζ) (ds : List D) : Prop := ∀ i F' H, Base g F' H → Sub F F' → S.Z z F' H →
  (∀ d, ds[i]? = some d → J.go i H ∧ ∀ x H', J.yld i H x H' → ∃ F2, Step g F' H F2 H' ∧ Is g F2 d x) ∧ (i = ds.length → J.stop i H)
def tIW (S : Sy g) (F0 H0 : Hp) (ρ : Env) (z : S.ζ) (ds : List D) : TI := fun σ H R => ∃ F, RepS S F0 H0 F H ρ z σ ∧ ∀ F2 H2 J, RepS S F0 H0 F2 H2 ρ z σ → Sub F F2 → GivesW S J F2 z ds → R J H2
variable {X : Cx} {P : DEnds S.ζ} {pos : Pos}
theorem ds_forW {α : Type} {tg iter : Expr} {body : List Stmt} {G : TG} {ts : List α} {mk : α → D} (as : α → List (Nat × D)) (hp : PassesOwn (model X.prog X.w) X.A X.env X.xe) (hc : X.calm = true) (hi : PI X tg iter (tIW S F0 H0 ρ z (ts.map mk))) (hg : PG X tg G) (ht : ∀ t ∈ ts, Tgt g G (mk t) (as t))
    (I : Nat → Env → Prop) (h0 : I 0 ρ) (hs : ∀ (k : Nat) (t : α) ρ', ts[k]? = some t → I k ρ' → DSs S F0 H0 X body (putD ρ' (as t)) z { nx := fun ρ2 z2 => I (k + 1) ρ2 ∧ z2 = z, rt := P.rt, bk := P.nx, ct := fun ρ2 z2 => I (k + 1) ρ2 ∧ z2 = z })
    (hd : ∀ ρ', I ts.length ρ' → P.nx ρ' z) (hf : ∀ x, foldedSetIterable iter X.env x = pure x := by intro _; rfl) : DS S F0 H0 X (.For tg iter body [] pos) ρ z P := by
  have hb : PSs X body (fun E σ H => ∃ (k : Nat) (t : α) (ρ' : Env), ts[k]? = some t ∧ I k ρ' ∧ tS S F0 H0 (putD ρ' (as t)) z { nx := fun ρ2 z2 => I (k + 1) ρ2 ∧ z2 = z, rt := P.rt, bk := P.nx, ct := fun ρ2 z2 => I (k + 1) ρ2 ∧ z2 = z } E σ H) :=
    ⟨fun pins s σ H D J ⟨k, t, ρ', h1, h2, h3⟩ => (hs k t ρ' h1 h2).run pins s σ H D J h3⟩
  refine PS.wk (ps_for hp hc hi hg hb hf) fun E σ H ⟨F, r, hn, hr, _⟩ => ⟨F, r, fun F2 H2 J r2 sF gv => ?_⟩
  refine ⟨fun i m σ' H' => m = ts.length - i ∧ i ≤ ts.length ∧ ∃ ρ' F', I i ρ' ∧ RepS S F0 H0 F' H' ρ' z σ' ∧ Sub F2 F', ⟨_, rfl, Nat.zero_le _, ρ, F2, h0, r2, Sub.refl F2⟩, ?_⟩
  rintro i m σ' H' ⟨rfl, hil, ρ', F', hI, r', s'⟩
  obtain ⟨g1, g2⟩ := gv i F' H' r'.e.base s' r'.r.zz
  by_cases hlt : i < ts.length
  · have hti : ts[i]? = some ts[i] := List.getElem?_eq_getElem hlt
    obtain ⟨ggo, gy⟩ := g1 (mk ts[i]) (by rw [List.getElem?_map, hti]; rfl)
    refine .inr ⟨ggo, fun σ2 H3 => ∃ ρ' F', I (i + 1) ρ' ∧ RepS S F0 H0 F' H3 ρ' z σ2 ∧ Sub F2 F', fun σ2 H3 ⟨ρ2, F3, k1, k2, k3⟩ => ⟨_, by omega, rfl, hlt, ρ2, F3, k1, k2, k3⟩, fun x H3 hy => ?_⟩
    obtain ⟨F3, s3, ix⟩ := gy x H3 hy
    refine ht ts[i] (List.getElem_mem hlt) F3 H3 x σ' s3.base ix _ fun vs al => ?_
    refine ⟨i, ts[i], ρ', hti, hI, F3, (r'.step s3).puts al, fun ρ3 z3 σ3 F4 H4 k r4 s4 => ?_, hr, fun ρ3 z3 σ3 F4 H4 k r4 s4 => hn ρ3 z3 σ3 F4 H4 k r4 (((sF.trans s').trans s3.sub).trans s4), fun ρ3 z3 σ3 F4 H4 k r4 s4 => ?_⟩
    · obtain ⟨k1, rfl⟩ := k
      exact ⟨ρ3, F4, k1, r4, (s'.trans s3.sub).trans s4⟩
    · obtain ⟨k1, rfl⟩ := k
      exact ⟨ρ3, F4, k1, r4, (s'.trans s3.sub).trans s4⟩
  · have e : i = ts.length := by omega
    subst e
    exact .inl ⟨g2 (by rw [List.length_map]), hn ρ' z σ' F' H' (hd ρ' hI) r' (sF.trans s')⟩
/-- two names, with what the values change -/
theorem ds_parW {i j : Nat} {x y : Str} {px py pt pt2 : Pos} {kt k2 : Nat} {a b : Expr} {p1 : D → S.ζ → Prop} {p2 : D → S.ζ → D → S.ζ → Prop} (hc : X.calm = true) (hN : X.N.Nodup) (hi : X.N[i]? = some x) (hj : X.N[j]? = some y) (hij : i ≠ j) (hx : X.env.scope.names.lookup x = some .local) (hy : X.env.scope.names.lookup y = some .local)
    (ha : EW S F0 H0 X a ρ z p1) (hb : ∀ d z', p1 d z' → EW S F0 H0 X b ρ z' (p2 d z')) (hw : swappedStores [.Tuple [.Name x px, .Name y py] kt pt] (.Tuple [a, b] k2 pt2) X.env = pure (some [x, y])) (n : ∀ d z' d2 z2, p1 d z' → p2 d z' d2 z2 → P.nx ((ρ.set i (.sh d)).set j (.sh d2)) z2)
    (hs : swapsWithSole [.Tuple [.Name x px, .Name y py] kt pt] (.Tuple [a, b] k2 pt2) pos.line X.env = pure false := by rfl) (h1 : starEach [a, b] X.env = (false, eval a X.env) :: starEach [b] X.env := by rfl) (h2 : starEach [b] X.env = (false, eval b X.env) :: starEach [] X.env := by rfl) :
    DS S F0 H0 X (.Assign [.Tuple [.Name x px, .Name y py] kt pt] (.Tuple [a, b] k2 pt2) pos) ρ z P := by
  have hA : AW S F0 H0 X [a, b] ρ z (fun ds z2 => ∃ d z' d2, ds = [d, d2] ∧ p1 d z' ∧ p2 d z' d2 z2) := aw_cons ha (fun d z' hp => aw_cons (hb d z' hp) (fun d2 z2 hp2 => aw_nil ⟨d, z', d2, rfl, hp, hp2⟩) h2) h1
  exact PS.wk (ps_par hc hN hi hj hij hx hy hA hw hs) fun E σ H ⟨F, r, hn, _⟩ => ⟨F, r, fun ds z2 vs F2 H2 hp r2 s2 al => by
    obtain ⟨d, z', d2, rfl, q1, q2⟩ := hp
    obtain ⟨v, r1, rfl, iv, w, r3, rfl, iw, rfl⟩ := al
    exact ⟨v, w, rfl, hn _ z2 _ F2 H2 (n d z' d2 z2 q1 q2) ((r2.sh iv).sh iw) s2⟩⟩
/-- three -/
theorem ds_par3W {i j l : Nat} {x y w : Str} {px py pz pt pt2 : Pos} {kt k2 : Nat} {a b c : Expr} {p : List D → S.ζ → Prop} (hc : X.calm = true) (hN : X.N.Nodup) (hi : X.N[i]? = some x) (hj : X.N[j]? = some y) (hl : X.N[l]? = some w) (hij : i ≠ j) (hil : i ≠ l) (hjl : j ≠ l) (hx : X.env.scope.names.lookup x = some .local) (hy : X.env.scope.names.lookup y = some .local)
    (hz : X.env.scope.names.lookup w = some .local) (hA : AW S F0 H0 X [a, b, c] ρ z p) (hw : swappedStores [.Tuple [.Name x px, .Name y py, .Name w pz] kt pt] (.Tuple [a, b, c] k2 pt2) X.env = pure (some [x, y, w])) (n : ∀ ds z', p ds z' → ∃ d1 d2 d3, ds = [d1, d2, d3] ∧ P.nx (((ρ.set i (.sh d1)).set j (.sh d2)).set l (.sh d3)) z')
    (hs : swapsWithSole [.Tuple [.Name x px, .Name y py, .Name w pz] kt pt] (.Tuple [a, b, c] k2 pt2) pos.line X.env = pure false := by rfl) : DS S F0 H0 X (.Assign [.Tuple [.Name x px, .Name y py, .Name w pz] kt pt] (.Tuple [a, b, c] k2 pt2) pos) ρ z P :=
  PS.wk (L2.ps_par3 hc hN hi hj hl hij hil hjl hx hy hz hA hw hs) fun E σ H ⟨F, r, hn, _⟩ => ⟨F, r, fun ds z2 vs F2 H2 hp r2 s2 al => by
    obtain ⟨d1, d2, d3, rfl, q⟩ := n ds z2 hp
    obtain ⟨v, r1, rfl, iv, w, r2', rfl, iw, u, r3, rfl, iu, rfl⟩ := al
    exact ⟨v, w, u, rfl, hn _ z2 _ F2 H2 q (((r2.sh iv).sh iw).sh iu) s2⟩⟩
/-- target = e -/
theorem ds_asgW {tg e : Expr} {G : TG} {post : D → S.ζ → Prop} (he : EW S F0 H0 X e ρ z post) (hg : PG X tg G) (n : ∀ d z', post d z' → ∃ as, Tgt g G d as ∧ P.nx (putD ρ as) z') (hs : swapsWithSole [tg] e pos.line X.env = pure false := by rfl) (hw : swappedStores [tg] e X.env = pure none := by rfl)
    (ha : List.map (fun x => x.snd) (assignEach [tg] X.env) = [assign tg X.env] := by rfl) : DS S F0 H0 X (.Assign [tg] e pos) ρ z P :=
  PS.wk (ps_asg he hg hs hw ha) fun E σ H ⟨F, r, hn, _⟩ => ⟨F, r, fun d z' v F2 H2 hp r2 s iv => by
    obtain ⟨as, ht, q⟩ := n d z' hp
    exact ht F2 H2 v σ r2.e.base iv _ fun vs al => hn _ z' _ F2 H2 q (r2.puts al) s⟩
end
end DL
end
section
/-! list(zip(v1, v2, strict=True)): the tuples that were given out stay. -/
namespace ZS
open PySem
abbrev Zq (h : Heap) (z TI TO : Addr) (f0 f1 : Value) : Prop := h.get? z = some { cls := .type "zip", dict := none, data := .fields #[f0, f1, .bool true, .ref TI, .ref TO], slots := #[] }
section
variable {prog : Program} {w : World} {A : Around} {E : Value → Shared → Prop} {s : Shared} {z TI TO i1 i2 T : Addr} {fp1 fp2 : List Addr} {n i : Nat} {P1 P2 : Nat → Value → Prop} {St1 St2 : Nat → Heap → Prop} {b : Bool} {oT : Obj}
theorem held_free {Q : Bool → Shared → Prop} (hz : Zq s.heap z TI TO (rawInt T) (.bool b)) (hT : s.heap.get? T = some oT) (h : ∀ h', Zq h' z TI TO (rawInt T) (.bool true) → Heap.SameBut z s.heap h' → Q false { s with heap := h' }) :
    wpAny (model prog w) A (Builtin.SmallTypes.ownedTupleIsFree (.ref z)) Q E s := by
  unfold Builtin.SmallTypes.ownedTupleIsFree
  refine wpAny_bind (wpAny_field hz rfl (x := rawInt T) rfl ?_)
  show wpAny _ _ (loadIfAlive ((T : Int).toNat) >>= _) _ _ _
  rw [Int.toNat_natCast]
  refine wpAny_bind (PySem.W.kdx_alive hT ?_)
  simp only [Option.isNone_some, Bool.false_eq_true, if_false]
  refine wpAny_bind (wpAny_field hz rfl (x := .bool b) rfl ?_)
  cases b with
  | true =>
    rw [if_neg (show ¬ ((Value.bool true != Value.bool true) = true) from Bool.false_ne_true)]
    exact wpAny_pure (h s.heap hz (Heap.SameBut.refl _ _))
  | false =>
    rw [if_pos (show (Value.bool false != Value.bool true) = true from rfl)]
    exact wpAny_bind (wpAny_setField_rec hz (by simp) fun h' k1 k2 => wpAny_pure (h h' k1 k2))
theorem next_held {Q : Value → Shared → Prop} (S : Sep z TI TO i1 i2 fp1 fp2) (D1 : Draws prog w A i1 fp1 n P1 St1) (D2 : Draws prog w A i2 fp2 n P2 St2) (hz : Zq s.heap z TI TO (rawInt T) (.bool b)) (hT : s.heap.get? T = some oT) (hI : Two s.heap TI (.ref i1) (.ref i2))
    (st1 : St1 i s.heap) (st2 : St2 i s.heap) (hi : i < n)
    (hQ : ∀ x1 x2 h' tk, P1 i x1 → P2 i x2 → Zq h' z TI TO (rawInt T) (.bool true) → St1 (i + 1) h' → St2 (i + 1) h' → Two h' s.heap.objs.size x1 x2 → h'.objs.size = s.heap.objs.size + 1 →
      (∀ c o, c ≠ z → c ≠ i1 → c ≠ i2 → s.heap.get? c = some o → h'.get? c = some o) → Q (.ref s.heap.objs.size) { s with heap := h', toks := tk }) :
    wpAny (model prog w) A (Builtin.«zip.__next__» ⟨[.ref z], []⟩) (fun fin s' => ∃ v, fin = .done (.ret v) ∧ Q v s') E s := by
  obtain ⟨h0, gs, dr, tk0, os⟩ := s
  show wpAny _ _ (field (.ref z) 2 >>= _) _ _ _
  refine wpAny_bind (wpAny_field hz rfl (x := .bool true) rfl ?_)
  show wpAny _ _ (field (.ref z) 3 >>= _) _ _ _
  refine wpAny_bind (wpAny_field hz rfl (x := .ref TI) rfl (wpAny_bind (wpAny_seqItems hI rfl ?_)))
  show wpAny _ _ (Builtin.SmallTypes.ownedTupleIsFree (.ref z) >>= _) _ _ _
  refine wpAny_bind (held_free hz hT fun ha za sa => ?_)
  have sa : Heap.SameBut z h0 ha := sa
  simp only [Bool.false_eq_true, if_false]
  refine wpAny_bind ?_
  rw [← Array.forIn_toList]
  simp only [List.forIn_cons, List.forIn_nil]
  refine wpAny_bind (wpAny_bind (wpAny_holding ?_))
  show wpAny _ _ (Builtin.SmallTypes.nextOrEnd (.ref i1)) _ _ ⟨ha, gs, dr, tk0, os⟩
  refine noe_item D1 hi (D1.over st1 sa S.zf1) fun x1 hb tk1 p1 n1 sb => ?_
  have sb : Heap.SameBut i1 ha hb := sb
  refine wpAny_pure ?_
  refine wpAny_bind (wpAny_bind (wpAny_holding ?_))
  show wpAny _ _ (Builtin.SmallTypes.nextOrEnd (.ref i2)) _ _ ⟨hb, gs, dr, tk1, os⟩
  refine noe_item D2 hi (D2.over (D2.over st2 sa S.zf2) sb S.f12) fun x2 hd tk2 p2 n2 sd => ?_
  have sd : Heap.SameBut i2 hb hd := sd
  refine wpAny_pure (wpAny_pure ?_)
  show wpAny _ _ (newTuple [x1, x2] >>= _) _ _ _
  refine wpAny_bind (wpAny_newTuple (wpAny_pure ⟨_, rfl, ?_⟩))
  have size : hd.objs.size = h0.objs.size := by rw [sd.1, sb.1, sa.1]
  have zd : Zq hd z TI TO (rawInt T) (.bool true) := sd.extBut _ _ S.z2 (sb.extBut _ _ S.z1 za)
  have keep : ∀ c o, c ≠ z → c ≠ i1 → c ≠ i2 → h0.get? c = some o → hd.get? c = some o := fun c o c1 c3 c4 e => sd.extBut _ _ c4 (sb.extBut _ _ c3 (sa.extBut _ _ c1 e))
  have m1 : St1 (i + 1) hd := D1.over n1 sd S.f21
  show Q (.ref hd.objs.size) ⟨hd.push { cls := .type "tuple", data := .seq #[x1, x2] }, gs, dr, tk2, os⟩
  have nw : Two (hd.push { cls := .type "tuple", data := .seq #[x1, x2] }) hd.objs.size x1 x2 := Heap.get?_push_size _ rfl
  have last : (hd.push { cls := .type "tuple", data := .seq #[x1, x2] }).objs.size = hd.objs.size + 1 := Heap.size_push ..
  rw [size] at nw last ⊢
  exact hQ x1 x2 _ tk2 p1 p2 (Heap.get?_push_of_some _ zd) (D1.frame _ _ _ m1 fun b hb o e => Heap.get?_push_of_some _ e) (D2.frame _ _ _ n2 fun b hb o e => Heap.get?_push_of_some _ e) nw last fun c o c1 c3 c4 e => Heap.get?_push_of_some _ (keep c o c1 c3 c4 e)
theorem next_heldEnd {Q : Fin → Shared → Prop} (hh : A.handled = none) (S : Sep z TI TO i1 i2 fp1 fp2) (D1 : Draws prog w A i1 fp1 n P1 St1) (D2 : Draws prog w A i2 fp2 n P2 St2) (hz : Zq s.heap z TI TO (rawInt T) (.bool b)) (hT : s.heap.get? T = some oT) (hI : Two s.heap TI (.ref i1) (.ref i2))
    (st1 : St1 n s.heap) (st2 : St2 n s.heap)
    (hE : ∀ h' tk e, (∀ c o, c ≠ z → c ≠ i1 → c ≠ i2 → s.heap.get? c = some o → h'.get? c = some o) → (∃ o, h'.get? e = some o ∧ o.cls = .type "StopIteration") → E (.ref e) { s with heap := h', toks := tk }) :
    wpAny (model prog w) A (Builtin.«zip.__next__» ⟨[.ref z], []⟩) Q E s := by
  obtain ⟨h0, gs, dr, tk0, os⟩ := s
  show wpAny _ _ (field (.ref z) 2 >>= _) _ _ _
  refine wpAny_bind (wpAny_field hz rfl (x := .bool true) rfl ?_)
  show wpAny _ _ (field (.ref z) 3 >>= _) _ _ _
  refine wpAny_bind (wpAny_field hz rfl (x := .ref TI) rfl (wpAny_bind (wpAny_seqItems hI rfl ?_)))
  show wpAny _ _ (Builtin.SmallTypes.ownedTupleIsFree (.ref z) >>= _) _ _ _
  refine wpAny_bind (held_free hz hT fun ha za sa => ?_)
  have sa : Heap.SameBut z h0 ha := sa
  simp only [Bool.false_eq_true, if_false]
  refine wpAny_bind ?_
  rw [← Array.forIn_toList]
  simp only [List.forIn_cons, List.forIn_nil]
  refine wpAny_bind (wpAny_bind (wpAny_holding ?_))
  show wpAny _ _ (Builtin.SmallTypes.nextOrEnd (.ref i1)) _ _ ⟨ha, gs, dr, tk0, os⟩
  refine noe_end D1 (D1.over st1 sa S.zf1) fun hb sb => ?_
  have sb : Heap.ExtBut i1 ha hb := sb
  refine wpAny_bind ?_
  show wpAny _ _ (forIn ((List.drop 1 [Value.ref i1, Value.ref i2]).zipIdx 1) PUnit.unit _ >>= _) _ _ _
  refine wpAny_bind ?_
  simp only [List.drop_succ_cons, List.drop_zero, List.zipIdx_cons, List.zipIdx_nil, List.forIn_cons, List.forIn_nil]
  refine wpAny_bind (wpAny_bind ?_)
  have s2 : St2 n hb := D2.frame _ _ _ (D2.over st2 sa S.zf2) fun b hb' o e => sb b o (fun q => S.f12 (q ▸ hb')) e
  refine noe_end D2 s2 fun hd sd => wpAny_pure (wpAny_pure ?_)
  have sd : Heap.ExtBut i2 hb hd := sd
  refine wpAny_bind (wpAny_rule ?_)
  refine stop_raise hh fun he e ke hec => ?_
  exact hE he _ e (fun c o c1 c3 c4 x => ke c o (sd c o c4 (sb c o c3 (sa.extBut c o c1 x)))) hec
theorem py_held {Q : Option Value → Shared → Prop} (S : Sep z TI TO i1 i2 fp1 fp2) (D1 : Draws prog w A.in1 i1 fp1 n P1 St1) (D2 : Draws prog w A.in1 i2 fp2 n P2 St2) (hz : Zq s.heap z TI TO (rawInt T) (.bool b)) (hT : s.heap.get? T = some oT) (hI : Two s.heap TI (.ref i1) (.ref i2))
    (st1 : St1 i s.heap) (st2 : St2 i s.heap) (hi : i < n)
    (hQ : ∀ x1 x2 h' tk, P1 i x1 → P2 i x2 → Zq h' z TI TO (rawInt T) (.bool true) → St1 (i + 1) h' → St2 (i + 1) h' → Two h' s.heap.objs.size x1 x2 → h'.objs.size = s.heap.objs.size + 1 →
      (∀ c o, c ≠ z → c ≠ i1 → c ≠ i2 → s.heap.get? c = some o → h'.get? c = some o) → Q (some (.ref s.heap.objs.size)) { s with heap := h', toks := tk }) : wpAny (model prog w) A (pyNext (.ref z)) Q E s := by
  have ty : s.TypeIs (.ref z) "zip" := ⟨_, hz, rfl⟩
  unfold pyNext
  refine wpAny_bind (wpAny_attempt (wpAny_callSpecial?_slot (name := Str.ofString "__next__") ty F.slot_zip_next (wpAny_call_entry F.slot_zip_next ty F.entry_zip_next ?_ (F.args_zip_next_1 _))))
  exact next_held S D1 D2 hz hT hI st1 st2 hi fun x1 x2 h' tk b1 b2 b3 b5 b6 b7 b8 b9 => wpAny_pure (hQ x1 x2 h' tk b1 b2 b3 b5 b6 b7 b8 b9)
theorem py_heldEnd {Q : Option Value → Shared → Prop} (hh : A.handled = none) (S : Sep z TI TO i1 i2 fp1 fp2) (D1 : Draws prog w A.in1 i1 fp1 n P1 St1) (D2 : Draws prog w A.in1 i2 fp2 n P2 St2) (hz : Zq s.heap z TI TO (rawInt T) (.bool b)) (hT : s.heap.get? T = some oT) (hI : Two s.heap TI (.ref i1) (.ref i2))
    (st1 : St1 n s.heap) (st2 : St2 n s.heap) (hQ : ∀ h' tk, (∀ c o, c ≠ z → c ≠ i1 → c ≠ i2 → s.heap.get? c = some o → h'.get? c = some o) → Q none { s with heap := h', toks := tk }) : wpAny (model prog w) A (pyNext (.ref z)) Q E s := by
  have ty : s.TypeIs (.ref z) "zip" := ⟨_, hz, rfl⟩
  unfold pyNext
  refine wpAny_bind (wpAny_attempt (wpAny_callSpecial?_slot (name := Str.ofString "__next__") ty F.slot_zip_next (wpAny_call_entry F.slot_zip_next ty F.entry_zip_next (next_heldEnd hh S D1 D2 hz hT hI st1 st2 fun h' tk e hk he => ?_) (F.args_zip_next_1 _))))
  obtain ⟨o, ho, hc⟩ := he
  exact wpAny_bind (wpAny_isInstance (T := "StopIteration") (b := true) ⟨o, ho, hc⟩ isSubtype_stop (wpAny_pure (hQ h' tk hk)))
/-- the zip amid a list's growth: its own tuple free, or given out and kept -/
def ZSt (h : Heap) (z TI TO i1 i2 LS : Addr) : Prop :=
  (Zp h z TI TO .none ∧ ∃ a1 a2, Two h TO a1 a2) ∨ ∃ (T : Addr) (b : Bool) (oT : Obj), Zq h z TI TO (rawInt T) (.bool b) ∧ h.get? T = some oT ∧ T ≠ z ∧ T ≠ i1 ∧ T ≠ i2 ∧ T ≠ LS
/-- the tuples made so far -/
structure Got (h : Heap) (base : Nat) (LS : Addr) (P1 P2 : Nat → Value → Prop) (Ts : List Addr) : Prop where
  up : Ts.Pairwise (· < ·)
  lt : ∀ T ∈ Ts, T < h.objs.size ∧ base ≤ T ∧ T ≠ LS
  at_ : ∀ j T, Ts[j]? = some T → ∃ x y, Two h T x y ∧ P1 j x ∧ P2 j y
theorem off {z T base : Nat} (h : z < base) (k : base ≤ T) (e : T = z) : False := by omega
theorem loop {R : Result → Shared → Prop} {LS : Addr} {base : Nat} {res : Value} (hh : A.handled = none) (S : Sep z TI TO i1 i2 fp1 fp2) (D1 : Draws prog w A.in1.in1 i1 fp1 n P1 St1) (D2 : Draws prog w A.in1.in1 i2 fp2 n P2 St2) (hn : n ≤ 1000)
    (l1 : LS ≠ z) (l2 : LS ≠ TI) (l3 : LS ≠ TO) (l4 : LS ≠ i1) (l5 : LS ≠ i2) (l6 : LS ∉ fp1) (l7 : LS ∉ fp2) (zb : z < base) (ob : TO < base) (b1 : i1 < base) (b2 : i2 < base) (lb : LS < base) : ∀ (k i : Nat) (s : Shared) (c : Nat) (Ts : List Addr), n - i = k → i ≤ n → Ts.length = i → base ≤ s.heap.objs.size →
      ZSt s.heap z TI TO i1 i2 LS → Two s.heap TI (.ref i1) (.ref i2) → St1 i s.heap → St2 i s.heap → s.heap.get? LS = some { cls := .type "list", dict := none, data := .seq (Ts.map Value.ref).toArray c, slots := #[] } → Got s.heap base LS P1 P2 Ts →
      (∀ h' tk c Us, Us.length = n → h'.get? LS = some { cls := .type "list", dict := none, data := .seq (Us.map Value.ref).toArray c, slots := #[] } → Got h' base LS P1 P2 Us → (∀ b o, b ≠ z → b ≠ TO → b ≠ i1 → b ≠ i2 → b ≠ LS → s.heap.get? b = some o → h'.get? b = some o) → R (.ok (.ret res)) { s with heap := h', toks := tk }) →
      codeAny (model prog w) A (.builtin "list.extend.loop" ⟨[.ref LS, .ref z, res], []⟩) R s := by
  intro k
  induction k with
  | zero =>
    intro i s c Ts hk hi hl hb zs hI st1 st2 hS hg hR
    have hne : ∀ T, base ≤ T → T ≠ z ∧ T ≠ TO ∧ T ≠ i1 ∧ T ≠ i2 := fun T hT => ⟨fun e => off zb hT e, fun e => off ob hT e, fun e => off b1 hT e, fun e => off b2 hT e⟩
    have hin : i = n := by omega
    subst hin
    refine codeAny_builtin F.entry_extend_loop ?_
    rw [Around.under_plainId F.plain_extend_loop _]
    show wpAny _ A.in1 (pyNext (.ref z) >>= _) _ _ s
    have fin : ∀ h' tk, (∀ b o, b ≠ z → b ≠ TO → b ≠ i1 → b ≠ i2 → s.heap.get? b = some o → h'.get? b = some o) → R (.ok (.ret res)) { s with heap := h', toks := tk } := fun h' tk kp => by
      refine hR h' tk c Ts hl (kp LS _ l1 l3 l4 l5 hS) ⟨hg.up, fun T hT => ⟨?_, (hg.lt T hT).2⟩, fun j T hj => ?_⟩ fun b o b1 b2 b3 b4 _ e => kp b o b1 b2 b3 b4 e
      · obtain ⟨j, hj, e⟩ := List.mem_iff_getElem.mp hT
        obtain ⟨x, y, ht, _⟩ := hg.at_ j T (by rw [List.getElem?_eq_getElem hj, e])
        have m := hne T (hg.lt T hT).2.1
        exact Heap.lt_size (kp T _ m.1 m.2.1 m.2.2.1 m.2.2.2 ht)
      · obtain ⟨x, y, ht, p1, p2⟩ := hg.at_ j T hj
        have m := hne T (hg.lt T (List.mem_of_getElem? hj)).2.1
        exact ⟨x, y, kp T _ m.1 m.2.1 m.2.2.1 m.2.2.2 ht, p1, p2⟩
    rcases zs with ⟨hz, a1, a2, hO⟩ | ⟨T, b, oT, hz, hT, _⟩
    · exact wpAny_bind (py_end hh S D1 D2 hz hI hO st1 st2 fun h' tk kp => wpAny_pure (fin h' tk kp))
    · exact wpAny_bind (py_heldEnd hh S D1 D2 hz hT hI st1 st2 fun h' tk kp => wpAny_pure (fin h' tk fun b o b1 _ b3 b4 => kp b o b1 b3 b4))
  | succ k ih =>
    intro i s c Ts hk hi hl hb zs hI st1 st2 hS hg hR
    have hne : ∀ T, base ≤ T → T ≠ z ∧ T ≠ TO ∧ T ≠ i1 ∧ T ≠ i2 := fun T hT => ⟨fun e => off zb hT e, fun e => off ob hT e, fun e => off b1 hT e, fun e => off b2 hT e⟩
    have hlt : i < n := by omega
    refine codeAny_builtin F.entry_extend_loop ?_
    rw [Around.under_plainId F.plain_extend_loop _]
    show wpAny _ A.in1 (pyNext (.ref z) >>= _) _ _ s
    have szl : ∀ {c o}, s.heap.get? c = some o → s.heap.objs.size ≠ c := fun e => Nat.ne_of_gt (Heap.lt_size e)
    have nS : s.heap.objs.size ≠ LS := szl hS
    have hn2 : n ≤ sizeLine := Nat.le_of_lt (Nat.lt_of_le_of_lt hn (by decide))
    have key : ∀ (x1 x2 : Value) (h' : Heap) (tk : Nat), P1 i x1 → P2 i x2 → (∃ (T : Addr) (b : Bool) (oT : Obj), Zq h' z TI TO (rawInt T) (.bool b) ∧ h'.get? T = some oT ∧ T ≠ z ∧ T ≠ i1 ∧ T ≠ i2 ∧ T ≠ LS) → St1 (i + 1) h' → St2 (i + 1) h' → Two h' s.heap.objs.size x1 x2 → h'.objs.size = s.heap.objs.size + 1 →
        (∀ c o, c ≠ z → c ≠ TO → c ≠ i1 → c ≠ i2 → s.heap.get? c = some o → h'.get? c = some o) →
        codeAny (model prog w) A (.builtin "list.extend.loop" ⟨[.ref LS, .ref z, res], []⟩) R { s with heap := h'.update LS (Obj.mapSeq (·.push (.ref s.heap.objs.size))), toks := tk } := fun x1 x2 h' tk p1 p2 hz m1 m2 hT hsz kp => by
      have hS' := kp LS _ l1 l3 l4 l5 hS
      have upk : ∀ b o, b ≠ LS → h'.get? b = some o → (h'.update LS (Obj.mapSeq (·.push (.ref s.heap.objs.size)))).get? b = some o := fun b o hb e => (Heap.get?_update_other _ _ (Ne.symm hb)).trans e
      have usz : (h'.update LS (Obj.mapSeq (·.push (.ref s.heap.objs.size)))).objs.size = s.heap.objs.size + 1 := (Heap.size_after_update _ _ _).trans hsz
      obtain ⟨c', hc'⟩ : ∃ c', (h'.update LS (Obj.mapSeq (·.push (.ref s.heap.objs.size)))).get? LS = some { cls := .type "list", dict := none, data := .seq ((Ts ++ [s.heap.objs.size]).map Value.ref).toArray c', slots := #[] } := by
        refine ⟨if ((Ts.map Value.ref).toArray.push (Value.ref s.heap.objs.size)).size == (Ts.map Value.ref).toArray.size then c else c + 1, (Heap.get?_update_self (Obj.mapSeq (·.push (Value.ref s.heap.objs.size))) hS' rfl).trans ?_⟩
        show some ({ cls := .type "list", dict := none, data := .seq ((Ts.map Value.ref).toArray.push (Value.ref s.heap.objs.size)) _, slots := #[] } : Obj) = _
        have e : ((Ts ++ [s.heap.objs.size]).map Value.ref).toArray = (Ts.map Value.ref).toArray.push (Value.ref s.heap.objs.size) := by
          rw [List.map_append, List.push_toArray]
          rfl
        rw [e]
      refine ih (i + 1) { s with heap := h'.update LS (Obj.mapSeq (·.push (.ref s.heap.objs.size))), toks := tk } c' (Ts ++ [s.heap.objs.size]) (by omega) hlt (by rw [List.length_append, hl]; rfl) (Nat.le_trans hb (Nat.le_trans (Nat.le_succ _) (Nat.le_of_eq usz.symm))) ?_ (upk _ _ (Ne.symm l2) (kp _ _ S.TIz S.TITO S.TI1 S.TI2 hI)) (D1.frame _ _ _ m1 fun b hb o e => upk b o (fun q => l6 (q ▸ hb)) e) (D2.frame _ _ _ m2 fun b hb o e => upk b o (fun q => l7 (q ▸ hb)) e) hc' ?_ ?_
      · obtain ⟨T, b, oT, q1, q2, q3, q4, q5, q6⟩ := hz
        exact .inr ⟨T, b, oT, upk _ _ (Ne.symm l1) q1, upk _ _ q6 q2, q3, q4, q5, q6⟩
      · refine ⟨?_, fun T hT' => ?_, fun j T hj => ?_⟩
        · rw [List.pairwise_append]
          exact ⟨hg.up, List.pairwise_singleton _ _, fun a ha b hb => by rw [List.mem_singleton.mp hb]; exact (hg.lt a ha).1⟩
        · rcases List.mem_append.mp hT' with h | h
          · have := hg.lt T h
            exact ⟨Nat.lt_of_lt_of_le this.1 (Nat.le_trans (Nat.le_succ _) (Nat.le_of_eq usz.symm)), this.2⟩
          · rw [List.mem_singleton.mp h]
            exact ⟨Nat.lt_of_lt_of_le (Nat.lt_succ_self _) (Nat.le_of_eq usz.symm), hb, nS⟩
        · by_cases hjl : j < Ts.length
          · rw [List.getElem?_append_left hjl] at hj
            obtain ⟨x, y, ht, q1, q2⟩ := hg.at_ j T hj
            have hm := List.mem_of_getElem? hj
            have m := hne T (hg.lt T hm).2.1
            exact ⟨x, y, upk _ _ (hg.lt T hm).2.2 (kp T _ m.1 m.2.1 m.2.2.1 m.2.2.2 ht), q1, q2⟩
          · have ej : j = Ts.length := by
              have := (List.getElem?_eq_some_iff.mp hj).1
              rw [List.length_append, List.length_singleton] at this
              omega
            subst ej
            rw [List.getElem?_append_right (Nat.le_refl _), Nat.sub_self] at hj
            have e : s.heap.objs.size = T := by simpa using hj
            rw [← e, hl]
            exact ⟨x1, x2, upk _ _ nS hT, p1, p2⟩
      · intro h2 tk2 c2 Us hU hS2 hg2 kp2
        exact hR h2 tk2 c2 Us hU hS2 hg2 fun b o b1 b2 b3 b4 b5 e => kp2 b o b1 b2 b3 b4 b5 (upk b o b5 (kp b o b1 b2 b3 b4 e))
    have nn := hne _ hb
    rcases zs with ⟨hz, a1, a2, hO⟩ | ⟨T, b, oT, hz, hT, r1, r2, r3, r4⟩
    · refine wpAny_bind (py_item S D1 D2 hz hI hO st1 st2 hlt fun x1 x2 h' tk b1 b2 b3 b4 b5 b6 b7 b8 kp => ?_)
      show wpAny _ A.in1 (updateSeq LS (·.push _) >>= _) _ _ _
      refine wpAny_bind ?_
      refine wpAny_updateSeq (kp LS _ l1 l3 l4 l5 hS) rfl (wpAny_pure ⟨plainId_quiet F.plain_extend_loop _, key x1 x2 h' tk b1 b2 ⟨s.heap.objs.size, false, _, b3, b7, nn.1, nn.2.2.1, nn.2.2.2, nS⟩ b5 b6 b7 b8 kp⟩) (by simp [hl]; omega) (by show (Array.push _ _).size ≤ sizeLine + 1; simp [hl]; omega)
    · refine wpAny_bind (py_held S D1 D2 hz hT hI st1 st2 hlt fun x1 x2 h' tk b1 b2 b3 b5 b6 b7 b8 kp => ?_)
      show wpAny _ A.in1 (updateSeq LS (·.push _) >>= _) _ _ _
      refine wpAny_bind ?_
      refine wpAny_updateSeq (kp LS _ l1 l4 l5 hS) rfl (wpAny_pure ⟨plainId_quiet F.plain_extend_loop _, key x1 x2 h' tk b1 b2 ⟨T, true, oT, b3, kp T _ r1 r2 r3 hT, r1, r2, r3, r4⟩ b5 b6 b7 b8 (fun c o c1 _ c3 c4 e => kp c o c1 c3 c4 e)⟩) (by simp [hl]; omega) (by show (Array.push _ _).size ≤ sizeLine + 1; simp [hl]; omega)
end
section
open PySem.Spec PyProof.Rows GenW
variable {prog : Program} {w : World} {A : Around} {E : Value → Shared → Prop} {s : Shared} {z TI TO i1 i2 : Addr} {fp1 fp2 : List Addr} {n : Nat} {P1 P2 : Nat → Value → Prop} {St1 St2 : Nat → Heap → Prop}
theorem zip_nolen : typeLookup (.type "zip") "__len__" = pure none := by rw [typeLookup_type, builtinLookup_eq_fast]; kernel_rfl
theorem zip_nohint : typeLookup (.type "zip") "__length_hint__" = pure none := by rw [typeLookup_type, builtinLookup_eq_fast]; kernel_rfl
theorem list_of {Q : Value → Shared → Prop} (hh : A.handled = none) (S : Sep z TI TO i1 i2 fp1 fp2) (D1 : ∀ A' : Around, A'.handled = none → Draws prog w A' i1 fp1 n P1 St1) (D2 : ∀ A' : Around, A'.handled = none → Draws prog w A' i2 fp2 n P2 St2) (hn : n ≤ 1000)
    (hz : Zp s.heap z TI TO .none) (hI : Two s.heap TI (.ref i1) (.ref i2)) {a1 a2 : Value} (hO : Two s.heap TO a1 a2) (st1 : St1 0 s.heap) (st2 : St2 0 s.heap) (l1 : i1 < s.heap.objs.size) (l2 : i2 < s.heap.objs.size) (f1 : ∀ b ∈ fp1, b < s.heap.objs.size) (f2 : ∀ b ∈ fp2, b < s.heap.objs.size)
    (hQ : ∀ h' tk c Us, Us.length = n → h'.get? s.heap.objs.size = some { cls := .type "list", dict := none, data := .seq (Us.map Value.ref).toArray c, slots := #[] } → Got h' (s.heap.objs.size + 1) s.heap.objs.size P1 P2 Us → (∀ b o, b ≠ z → b ≠ TO → b ≠ i1 → b ≠ i2 → s.heap.get? b = some o → h'.get? b = some o) → Q (.ref s.heap.objs.size) { s with heap := h', toks := tk }) :
    wpAny (model prog w) A (call (.type "list") [.ref z]) Q E s := by
  have lt : ∀ {b o}, s.heap.get? b = some o → s.heap.objs.size ≠ b := fun e => Nat.ne_of_gt (Heap.lt_size e)
  refine callType_codes (Q₁ := fun obj s₁ => obj = .ref s.heap.objs.size ∧ s₁ = { s with heap := s.heap.push { cls := .type "list", data := .seq #[] } }) F.called_list (F.typeCall_list_1 _) F.entry_list_init
    (code_list_new _ ⟨rfl, rfl⟩) fun obj s₁ h₁ => ?_
  obtain ⟨rfl, rfl⟩ := h₁
  have hS : (s.heap.push { cls := .type "list", data := .seq #[] }).get? s.heap.objs.size = some { cls := .type "list", data := .seq #[] } := Heap.get?_push_size _ rfl
  refine ⟨⟨_, hS, rfl⟩, F.args_list_init_2 _ _, ?_⟩
  show wpAny _ A.in1.in1 (do let old ← Builtin.List.listItems (.ref s.heap.objs.size); Builtin.List.listUpdate (.ref s.heap.objs.size) (fun _ => #[]); letGo old.toList.reverse; Builtin.List.listExtendWith (.ref s.heap.objs.size) (.ref z) .none) _ _ _
  refine wpAny_bind ?_
  unfold Builtin.List.listItems
  refine wpAny_bind (wpAny_seqItems hS rfl (wpAny_pure ?_))
  show wpAny _ A.in1.in1 (updateSeq s.heap.objs.size (fun _ => #[]) >>= fun _ => letGo (#[] : Array Value).toList.reverse >>= fun _ => Builtin.List.listExtendWith (.ref s.heap.objs.size) (.ref z) .none) _ _ _
  refine wpAny_bind (wpAny_updateSeq hS rfl ?_)
  have hS2 := Heap.get?_update_self (Obj.mapSeq (fun _ => (#[] : Array Value))) hS rfl
  refine wpAny_bind (wpAny_letGo ?_)
  unfold Builtin.List.listExtendWith
  have up : ∀ (h : Heap) (f : Obj → Obj), (∀ b o, s.heap.get? b = some o → h.get? b = some o) → ∀ b o, s.heap.get? b = some o → (h.update s.heap.objs.size f).get? b = some o := fun h f q b o e =>
    (Heap.get?_update_other _ _ (lt e)).trans (q b o e)
  have k1 : ∀ b o, s.heap.get? b = some o → (s.heap.push { cls := .type "list", data := .seq #[] }).get? b = some o := fun b o e => Heap.get?_push_of_some _ e
  have k2 := up _ (Obj.mapSeq (fun _ => (#[] : Array Value))) k1
  have zt : ∀ {h : Heap} {s' : Shared}, s'.heap = h → (∀ b o, s.heap.get? b = some o → h.get? b = some o) → s'.TypeIs (.ref z) "zip" := fun {h s'} e q => ⟨_, by rw [e]; exact q _ _ hz, rfl⟩
  refine wpAny_bind (wpAny_typeOf (zt rfl k2) ?_)
  have h1 : Builtin.List.listSameRef (.ref s.heap.objs.size) (.ref z) = false := by simp [Builtin.List.listSameRef, lt hz]
  have h2 : (Value.type "zip" == Value.type "list") = false := by decide
  have h3 : (Value.type "zip" == Value.type "tuple") = false := by decide
  simp only [h1, h2, h3, Bool.or_false, Bool.false_eq_true, if_false]
  refine wpAny_bind (py_iter (s := { s with heap := _ }) (k2 _ _ hz) ?_)
  refine wpAny_bind (wpAny_holding ?_)
  unfold Builtin.List.listLengthHint
  refine wpAny_bind (wpAny_specialOf (zt rfl k2) zip_nolen ?_)
  show wpAny _ A.in1.in1 (specialOf (Value.ref z) (Str.ofString "__length_hint__") >>= _) _ _ _
  refine wpAny_bind (wpAny_specialOf (zt rfl k2) zip_nohint ?_)
  refine wpAny_pure ?_
  show wpAny _ A.in1.in1 (rule "list.extend.makes-room" >>= fun _ => Builtin.List.listTouch (.ref s.heap.objs.size) >>= fun _ =>
    again (.builtin "list.extend.loop" ⟨[.ref s.heap.objs.size, .ref z, .none], []⟩)) _ _ _
  refine wpAny_bind (wpAny_rule ?_)
  refine wpAny_bind ?_
  show wpAny _ A.in1.in1 (updateSeq s.heap.objs.size (·.push .none) >>= fun _ => updateSeq s.heap.objs.size (·.pop)) _ _ _
  refine wpAny_bind (wpAny_updateSeq hS2 rfl ?_)
  have hS3 := Heap.get?_update_self (Obj.mapSeq (·.push Value.none)) hS2 rfl
  refine wpAny_updateSeq (hz := by seq_fits) hS3 rfl ?_
  have hS4 := Heap.get?_update_self (Obj.mapSeq (·.pop)) hS3 rfl
  have k4 := up _ (Obj.mapSeq (·.pop)) (up _ (Obj.mapSeq (·.push Value.none)) k2)
  have sz : ((((s.heap.push { cls := .type "list", data := .seq #[] }).update s.heap.objs.size (Obj.mapSeq fun _ => #[])).update s.heap.objs.size (Obj.mapSeq (·.push Value.none))).update s.heap.objs.size (Obj.mapSeq (·.pop))).objs.size = s.heap.objs.size + 1 := by
    rw [Heap.size_after_update, Heap.size_after_update, Heap.size_after_update, Heap.size_push]
  refine wpAny_pure ⟨plainId_quiet F.plain_extend_loop _, ?_⟩
  have f1' : s.heap.objs.size ∉ fp1 := fun m => Nat.lt_irrefl _ (f1 _ m)
  have f2' : s.heap.objs.size ∉ fp2 := fun m => Nat.lt_irrefl _ (f2 _ m)
  refine loop (base := s.heap.objs.size + 1) (A := A.in1) hh S (D1 _ hh) (D2 _ hh) hn (lt hz) (lt hI) (lt hO) (Nat.ne_of_gt l1) (Nat.ne_of_gt l2) f1' f2' (Nat.lt_succ_of_lt (Heap.lt_size hz)) (Nat.lt_succ_of_lt (Heap.lt_size hO)) (Nat.lt_succ_of_lt l1) (Nat.lt_succ_of_lt l2) (Nat.lt_succ_self _) n 0 _ _ [] (Nat.sub_zero n) (Nat.zero_le _) rfl (Nat.le_of_eq sz.symm)
    (.inl ⟨k4 _ _ hz, a1, a2, k4 _ _ hO⟩) (k4 _ _ hI) ((D1 _ hh).frame _ _ _ st1 fun b _ o e => k4 b o e) ((D2 _ hh).frame _ _ _ st2 fun b _ o e => k4 b o e) hS4 ⟨List.Pairwise.nil, fun T h => by simp at h, fun j T h => by simp at h⟩ fun h' tk c Us hU hL hg kp => ?_
  exact ⟨rfl, hQ h' tk c Us hU hL hg fun b o b1 b2 b3 b4 e => kp b o b1 b2 b3 b4 (Ne.symm (lt e)) (k4 b o e)⟩
end
end ZS
end
section
/-! Data logic: list(zip(a, b, strict=True)). -/
namespace DL
open PySem PySem.Spec PyProof.Rows L2
section
variable {P : Program} {w : World} {H H' : Hp} {h h' : Heap}
theorem un_news {fs ex : List Addr} (k : ∀ b o, h.get? b = some o → h'.get? b = some o) (e1 : ∀ b, b < h.objs.size → H' b = H b) (e2 : ∀ b o, H b = some o → H' b = some o) : Un fs ex H H' h h' where
  keep := fun b o q _ _ _ => k b o q
  slot := fun b o q _ _ _ => ⟨o.slots, k b o q⟩
  free := fun b o q n _ => by rw [e1 b (Heap.lt_size q)]; exact n
  there := fun b o q _ => ⟨o, k b o q⟩
  tups := fun b xs q => e2 b _ q
  frzs := fun b o u q => e2 b _ q
  tbls := fun b ps q => ⟨#[], by rw [e2 b _ q]; simp⟩
theorem hok_news (x : HOk P w H h) (k : ∀ b o, h.get? b = some o → h'.get? b = some o) (e2 : ∀ b o, H b = some o → H' b = some o) (new : ∀ b o, H' b = some o → H b = none → ObjOk P w H' h' b o) : HOk P w H' h' := fun b u eq => by
  cases hb : H b with
  | none => exact new b u eq hb
  | some o =>
    have e := e2 b o hb
    rw [eq] at e
    cases e
    exact (x b u hb).stay (fun c v _ q => k c v q) (fun c q => e2 c _ q) fun c xs q => e2 c _ q
end
theorem lookup_at {β : Type} : ∀ {ks : List Nat} {vs : List β} {j : Nat} {b : Nat} {t : β}, ks.Pairwise (· < ·) → ks[j]? = some b → vs[j]? = some t → (ks.zip vs).lookup b = some t
  | [], _, _, _, _, _, h, _ => by simp at h
  | _ :: _, [], _, _, _, _, _, h => by simp at h
  | k :: ks, v :: vs, 0, b, t, _, h1, h2 => by
    have e1 : k = b := by simpa using h1
    have e2 : v = t := by simpa using h2
    subst e1
    subst e2
    simp [List.zip_cons_cons, List.lookup_cons]
  | k :: ks, v :: vs, j + 1, b, t, hp, h1, h2 => by
    obtain ⟨p1, p2⟩ := List.pairwise_cons.mp hp
    have h1' : ks[j]? = some b := by simpa using h1
    have hlt := p1 b (List.mem_of_getElem? h1')
    have hb : (b == k) = false := by
      rw [beq_eq_false_iff_ne]
      omega
    rw [List.zip_cons_cons, List.lookup_cons, hb]
    exact lookup_at p2 h1' (by simpa using h2)
theorem lookup_mem {β : Type} : ∀ {ks : List Nat} {vs : List β} {b : Nat} {t : β}, (ks.zip vs).lookup b = some t → ∃ j : Nat, ks[j]? = some b ∧ vs[j]? = some t
  | [], _, _, _, h => by simp at h
  | _ :: _, [], _, _, h => by simp at h
  | k :: ks, v :: vs, b, t, h => by
    rw [List.zip_cons_cons, List.lookup_cons] at h
    by_cases e : b = k
    · subst e
      have hb : (b == b) = true := beq_self_eq_true b
      rw [hb] at h
      exact ⟨0, rfl, by simpa using h⟩
    · have hb : (b == k) = false := beq_eq_false_iff_ne.mpr e
      rw [hb] at h
      obtain ⟨j, h1, h2⟩ := lookup_mem h
      exact ⟨j + 1, by simpa using h1, by simpa using h2⟩
section
variable {g : Gx} {ρ : Env} {X : Cx} {e e2 : Expr} {p p0 pos pos0 kp kpos : Pos} {j : Nat} {l m : Bool} {xs ys : List D}
theorem StS.at {l : Bool} {h h' : Heap} {a : Addr} {its : Array Value} (x : StS l h a its) (k : ∀ o, h.get? a = some o → h'.get? a = some o) : StS l h' a its := by
  cases l with
  | true =>
    obtain ⟨o, ho, r⟩ := (show h.IsList a its from x)
    exact ⟨o, k o ho, r⟩
  | false =>
    obtain ⟨o, ho, r⟩ := (show h.IsTuple a its from x)
    exact ⟨o, k o ho, r⟩
theorem refs_vals : ∀ Us : List Addr, Vals (Us.map V.ref) (Us.map Value.ref)
  | [] => .nil
  | U :: Us => .cons rfl (refs_vals Us)
theorem zip_get {α β : Type} {xs : List α} {ys : List β} {i : Nat} {q : α × β} (h : (xs.zip ys)[i]? = some q) : xs[i]? = some q.1 ∧ ys[i]? = some q.2 := by
  rw [List.getElem?_zip_eq_some] at h
  exact h
theorem zip_mk {α β : Type} {xs : List α} {ys : List β} {i : Nat} {a : α} {b : β} (h : xs[i]? = some a) (k : ys[i]? = some b) : (xs.zip ys)[i]? = some (a, b) := by
  rw [List.getElem?_zip_eq_some]
  exact ⟨h, k⟩
theorem all_refs {F : Hp} : ∀ {Us : List Addr} {ds : List D}, ds.length = Us.length → (∀ (i : Nat) (T : Addr) (d : D), Us[i]? = some T → ds[i]? = some d → Is g F d (.ref T)) → All g F ds (Us.map V.ref)
  | [], [], _, _ => rfl
  | [], _ :: _, h, _ => by simp at h
  | _ :: _, [], h, _ => by simp at h
  | U :: Us, d :: ds, h, k => .cons (k 0 U d rfl rfl) (all_refs (by simpa using h) fun i T d' i1 i2 => k (i + 1) T d' (by simpa using i1) (by simpa using i2))
theorem dn_listW (hg : Gl X "list") (hm : X.mg "list" = none) (hgz : Gl X "zip") (hmz : X.mg "zip" = none) (hc : X.calm = true) (hl : xs.length = ys.length) (hn : xs.length ≤ 1000) (ha : DE g X e ρ (sqD l xs)) (hb : DE g X e2 ρ (sqD m ys)) (h1 : starEach [e, e2] X.env = (false, eval e X.env) :: starEach [e2] X.env := by rfl) (h5 : starEach [e2] X.env = (false, eval e2 X.env) :: starEach [] X.env := by rfl)
    (h2 : ((backTo pos (starEach [e, e2] X.env)).any (·.1) || (backToKw pos (keywordEach [⟨some "strict", .Constant (.bool true) j kp, kpos⟩] X.env)).any (·.1.isNone)) = false := by rfl)
    (h3 : (backToKw pos (keywordEach [⟨some "strict", .Constant (.bool true) j kp, kpos⟩] X.env)).all (·.1.isSome) = true := by rfl) (h4 : (backToKw pos (keywordEach [⟨some "strict", .Constant (.bool true) j kp, kpos⟩] X.env)).filterMap (·.1) = [Str.ofString "strict"] := by rfl)
    (h6 : starEach [.Call (.Name "zip" p) [e, e2] [⟨some "strict", .Constant (.bool true) j kp, kpos⟩] pos] X.env = (false, eval (.Call (.Name "zip" p) [e, e2] [⟨some "strict", .Constant (.bool true) j kp, kpos⟩] pos) X.env) :: starEach [] X.env := by rfl) :
    DN g X (.Call (.Name "list" p0) [.Call (.Name "zip" p) [e, e2] [⟨some "strict", .Constant (.bool true) j kp, kpos⟩] pos] [] pos0) ρ ((xs.zip ys).map fun q => .tup [q.1, q.2]) := by
  refine ⟨fun pins s σ H Q I ⟨F, rp, q⟩ => ?_⟩
  refine Call_ (ld_blt I hg hm boot_list ?_)
  refine PyProof.Rows.callWith_type1 (PyProof.Rows.args_cons ?_ h6) h6 rfl
  refine wpAny_Call_Name_kw (ld_blt I hgz hmz PyProof.Rows.boot_zip ?_)
  refine PySem.W.callWith_of (P := fun _ => True) h2 (fun h _ => ⟨.machine, .inr (.inl rfl), PySem.W.Looks.now⟩) (PyProof.Rows.evalArgs_kw2 h3 (thn ((da_cons ha (da_cons hb da_nil h5) h1).run pos pins s σ H (fun vs H1 => ∃ F1, Step g F H F1 H1 ∧ All g F1 [sqD l xs, sqD m ys] vs) I ⟨F, rp, fun vs F1 H1 st al => ⟨F1, st, al⟩⟩) fun us s1 ⟨vs, H1, I1, r1, F1, st1, al⟩ => ?_) h1)
  have kw := (pk_cons (X := X) (nm := some (Str.ofString "strict")) (kpos := kpos) (pe_bl (b := true) (j := j) (pos := kp)) pk_nil).run pos pins s1 σ H1 (fun zs H2 => zs = [.bl true] ∧ H2 = H1) I1 ⟨rfl, rfl⟩
  refine thn kw fun ks s2 ⟨zs, H2, I2, r2, ez, eH⟩ => ⟨True.intro, ?_⟩
  subst ez
  subst eH
  rw [h4]
  obtain ⟨va, vb, rfl, ia, ib⟩ := allA2 al
  obtain ⟨a, vx, rfl, sa, alx⟩ := sqD_at (X := X) st1.base.sub ia
  obtain ⟨b, vy, rfl, sb, aly⟩ := sqD_at (X := X) st1.base.sub ib
  cases r2 with
  | cons rb rr2 =>
    cases rr2
    cases rb
    cases r1 with
    | cons r rr =>
      cases rr with
      | cons r' rr =>
        cases rr
        cases r
        cases r'
        obtain ⟨its, rv, q1, alt⟩ := sq_src I2 (sa _ st1.base.sub)
        obtain ⟨its2, rv2, q2, blt⟩ := sq_src I2 (sb _ st1.base.sub)
        show wpAny _ _ (call (.type "zip") [.ref a, .ref b] [(Str.ofString "strict", .bool true)]) _ _ s2
        refine ZS.begins (begins_of l a its.toArray) (begins_of m b its2.toArray) q1 q2 fun h' hz hI hO b1 b2 hk => PyProof.Rows.args_nil ?_
        have hh : X.A.handled = none := I2.ok.hd hc
        obtain ⟨N, eN⟩ : ∃ N, N = s2.heap.objs.size := ⟨_, rfl⟩
        rw [← eN] at hz hI hO b1 b2 alt blt
        rw [← eN]
        have lx := rv.length
        have ly := rv2.length
        have lvx := alx.len
        have lvy := aly.len
        have en : its2.toArray.size = its.toArray.size := by rw [List.size_toArray, List.size_toArray]; omega
        have D1 : ∀ A' : Around, A'.handled = none → Draws X.prog X.w A' N [N, a] its.toArray.size (fun i v => its.toArray[i]? = some v) (fun i h => ItS l h N a i ∧ StS l h a its.toArray) := fun A' k => draws l k N a (Nat.ne_of_lt alt) its.toArray
        have D2 : ∀ A' : Around, A'.handled = none → Draws X.prog X.w A' (N + 1) [N + 1, b] its.toArray.size (fun i v => its2.toArray[i]? = some v) (fun i h => ItS m h (N + 1) b i ∧ StS m h b its2.toArray) := fun A' k => by
          have := draws (prog := X.prog) (w := X.w) (A := A') m k (N + 1) b (Nat.ne_of_lt (Nat.lt_succ_of_lt blt)) its2.toArray
          rw [en] at this
          exact this
        have zl : N + 4 < h'.objs.size := Heap.lt_size hz
        refine ZS.list_of (s := { s2 with heap := h' }) hh (sep_of alt blt) D1 D2 (by rw [List.size_toArray]; omega) hz hI hO ⟨its_of b1, StS.at q1 fun o k => hk _ o k⟩ ⟨its_of b2, StS.at q2 fun o k => hk _ o k⟩ (by show N < h'.objs.size; omega) (by show N + 1 < h'.objs.size; omega) (fun c hc' => ?_) (fun c hc' => ?_) fun h2 tk cc Us hU hL hgot kp => ?_
        · show c < h'.objs.size
          rcases List.mem_cons.mp hc' with z | z
          · rw [z]; exact Nat.lt_of_le_of_lt (Nat.le_add_right N 4) zl
          · rw [List.mem_singleton.mp z]; exact Nat.lt_trans alt (Nat.lt_of_le_of_lt (Nat.le_add_right N 4) zl)
        · show c < h'.objs.size
          rcases List.mem_cons.mp hc' with z | z
          · rw [z]; exact Nat.lt_of_le_of_lt (Nat.add_le_add_left (by decide : 1 ≤ 4) N) zl
          · rw [List.mem_singleton.mp z]; exact Nat.lt_trans blt (Nat.lt_of_le_of_lt (Nat.le_add_right N 4) zl)
        obtain ⟨LS, eLS⟩ : ∃ LS, LS = h'.objs.size := ⟨_, rfl⟩
        have hL : h2.get? LS = some { cls := .type "list", dict := none, data := .seq (Us.map Value.ref).toArray cc, slots := #[] } := eLS ▸ hL
        have hgot : ZS.Got h2 (LS + 1) LS (fun i v => its.toArray[i]? = some v) (fun i v => its2.toArray[i]? = some v) Us := eLS ▸ hgot
        obtain ⟨tv, etv⟩ : ∃ tv : List (List V), tv = (vx.zip vy).map fun q => [q.1, q.2] := ⟨_, rfl⟩
        have ltv : tv.length = Us.length := by rw [etv, List.length_map, List.length_zip, hU, List.size_toArray]; omega
        have NLS : N + 4 < LS := eLS ▸ zl
        have uge : ∀ T ∈ Us, LS + 1 ≤ T := fun T hT => (hgot.lt T hT).2.1
        obtain ⟨tob, etob⟩ : ∃ tob : Addr → Option HO, tob = fun c => ((Us.zip tv).lookup c).map HO.tup := ⟨_, rfl⟩
        have tob_ge : ∀ c o, tob c = some o → LS + 1 ≤ c := fun c o ho => by
          have ho : Option.map HO.tup ((Us.zip tv).lookup c) = some o := by rw [etob] at ho; exact ho
          cases hq : (Us.zip tv).lookup c with
          | none => rw [hq] at ho; cases ho
          | some t =>
            obtain ⟨j, j1, _⟩ := lookup_mem hq
            exact uge c (List.mem_of_getElem? j1)
        obtain ⟨H3, eH3⟩ : ∃ H3 : Hp, H3 = fun c => if c = LS then some (.lst (Us.map V.ref)) else (tob c).or (H2 c) := ⟨_, rfl⟩
        obtain ⟨F3, eF3⟩ : ∃ F3 : Hp, F3 = fun c => (tob c).or (F1 c) := ⟨_, rfl⟩
        have fresh : ∀ c, N ≤ c → H2 c = none := fun c hc' => I2.hok.fresh (eN ▸ hc')
        have hlow : ∀ c, c < N → H3 c = H2 c := fun c hc' => by
          rw [eH3]
          show (if c = LS then _ else _) = _
          rw [if_neg (by intro z; rw [z] at hc'; exact absurd (Nat.lt_trans (Nat.lt_of_le_of_lt (Nat.le_add_right N 4) NLS) hc') (Nat.lt_irrefl _))]
          cases q : tob c with
          | none => rfl
          | some o => exact absurd (Nat.lt_of_lt_of_le hc' (Nat.le_trans (Nat.le_of_lt (Nat.lt_of_le_of_lt (Nat.le_add_right N 4) NLS)) (Nat.le_trans (Nat.le_succ _) (tob_ge c o q)))) (Nat.lt_irrefl _)
        have hold : ∀ c o, H2 c = some o → H3 c = some o := fun c o ho => by
          have hlt : c < N := by
            rcases Nat.lt_or_ge c N with z | z
            · exact z
            · rw [fresh c z] at ho; cases ho
          rw [hlow c hlt]; exact ho
        have kall : ∀ c o, s2.heap.get? c = some o → h2.get? c = some o := fun c o k => by
          have hlt : c < N := eN ▸ Heap.lt_size k
          exact kp c o (fun z => by rw [z] at hlt; exact absurd hlt (Nat.not_lt_of_le (Nat.le_add_right N 4))) (fun z => by rw [z] at hlt; exact absurd hlt (Nat.not_lt_of_le (Nat.le_add_right N 3))) (fun z => by rw [z] at hlt; exact absurd hlt (Nat.lt_irrefl _)) (fun z => by rw [z] at hlt; exact absurd hlt (Nat.not_lt_of_le (Nat.le_add_right N 1))) (hk c o k)
        have hat : ∀ (j : Nat) (T : Addr) (t : List V), Us[j]? = some T → tv[j]? = some t → tob T = some (.tup t) := fun j T t j1 j2 => by
          rw [etob]
          show Option.map _ _ = _
          rw [lookup_at hgot.up j1 j2]
          rfl
        have hok3 : HOk X.prog X.w H3 h2 := hok_news I2.hok kall hold fun c o ho hn' => by
          rw [eH3] at ho
          have ho : (if c = LS then some (HO.lst (Us.map V.ref)) else (tob c).or (H2 c)) = some o := ho
          by_cases z : c = LS
          · rw [if_pos z] at ho
            cases ho
            subst z
            refine ⟨by rw [List.length_map, hU, List.size_toArray]; exact Nat.le_of_lt (small1000 (by omega)), Us.map Value.ref, cc, refs_vals Us, hL⟩
          · rw [if_neg z, hn'] at ho
            cases q : tob c with
            | none => rw [q] at ho; cases ho
            | some u =>
              rw [q] at ho
              cases ho
              rw [etob] at q
              cases q2 : (Us.zip tv).lookup c with
              | none => have q : Option.map HO.tup ((Us.zip tv).lookup c) = some o := q; rw [q2] at q; cases q
              | some t =>
                have q : Option.map HO.tup ((Us.zip tv).lookup c) = some o := q
                rw [q2] at q
                cases q
                obtain ⟨i, i1, i2⟩ := lookup_mem q2
                obtain ⟨u1, u2, ht, p1, p2⟩ := hgot.at_ i c i1
                rw [etv, List.getElem?_map] at i2
                cases q3 : (vx.zip vy)[i]? with
                | none => rw [q3] at i2; cases i2
                | some pr =>
                  rw [q3] at i2
                  cases i2
                  obtain ⟨w1, w2⟩ := zip_get q3
                  have g1 := rv.get w1
                  have g2 := rv2.get w2
                  obtain ⟨y1, f1, r1⟩ := g1
                  obtain ⟨y2, f2, r2⟩ := g2
                  have p1 : its[i]? = some u1 := by simpa using p1
                  have p2 : its2[i]? = some u2 := by simpa using p2
                  rw [f1] at p1
                  rw [f2] at p2
                  cases p1
                  cases p2
                  exact ⟨by rw [sizeLine_eq]; simp, _, .cons r1 (.cons r2 .nil), ⟨_, ht, rfl, _, rfl⟩⟩
        have J : Inv X pins σ H3 { s2 with heap := h2, toks := tk } := I2.call (ch := []) (g' := s2.gens) (d' := s2.drawn) (un_news kall (fun c hc' => hlow c (eN ▸ hc')) hold) hok3 I2.bare (fun _ z => nomatch z)
        have sub3 : Sub F1 F3 := fun c o ho => by
          have hlt : c < N := by
            rcases Nat.lt_or_ge c N with z | z
            · exact z
            · have := st1.base.sub c o ho; rw [fresh c z] at this; cases this
          rw [eF3]
          show (tob c).or (F1 c) = _
          cases q : tob c with
          | none => exact ho
          | some u => exact absurd (Nat.lt_of_lt_of_le hlt (Nat.le_trans (Nat.le_of_lt (Nat.lt_of_le_of_lt (Nat.le_add_right N 4) NLS)) (Nat.le_trans (Nat.le_succ _) (tob_ge c u q)))) (Nat.lt_irrefl _)
        have st3 : Step g F1 H2 F3 H3 := by
          refine ⟨sub3, ⟨fun c o ho => ?_, fun c ps ho => ?_, st1.base.tabs.ext hold⟩, fun c o ho _ => hold c o ho, fun c ho => ?_, fun c o ho => ?_⟩
          · rw [eF3] at ho
            have ho : (tob c).or (F1 c) = some o := ho
            cases q : tob c with
            | none => rw [q] at ho; exact hold c o (st1.base.sub c o ho)
            | some u =>
              rw [q] at ho
              rw [eH3]
              show (if c = LS then _ else (tob c).or (H2 c)) = _
              rw [if_neg (by intro z; have := tob_ge c u q; rw [z] at this; exact absurd this (Nat.not_succ_le_self _)), q]
              exact ho
          · rw [eF3] at ho
            have ho : (tob c).or (F1 c) = some (.tbl ps) := ho
            cases q : tob c with
            | none => rw [q] at ho; exact st1.base.noT c ps ho
            | some u =>
              rw [q] at ho
              rw [etob] at q
              have q : Option.map HO.tup ((Us.zip tv).lookup c) = some u := q
              cases q2 : (Us.zip tv).lookup c with
              | none => rw [q2] at q; cases q
              | some t => rw [q2] at q; cases q; cases ho
          · cases q : H2 c with
            | none => rfl
            | some o => rw [hold c o q] at ho; cases ho
          · rw [eF3] at ho
            have ho : (tob c).or (F1 c) = some o := ho
            cases q : tob c with
            | none => rw [q] at ho; exact .inl ho
            | some u => exact .inr (fresh c (Nat.le_trans (Nat.le_of_lt (Nat.lt_of_le_of_lt (Nat.le_add_right N 4) NLS)) (Nat.le_trans (Nat.le_succ _) (tob_ge c u q))))
        have nLS : tob LS = none := by
          cases q : tob LS with
          | none => rfl
          | some u => exact absurd (tob_ge LS u q) (Nat.not_succ_le_self _)
        have hLSn : H2 LS = none := fresh LS (Nat.le_of_lt (Nat.lt_of_le_of_lt (Nat.le_add_right N 4) NLS))
        refine ⟨.ref h'.objs.size, H3, J, rfl, ?_⟩
        rw [← eLS]
        refine q LS (Us.map V.ref) F3 H3 (st1.trans st3) (st1.dom LS hLSn) ?_ ?_ ?_
        · rw [eF3]
          show (tob LS).or (F1 LS) = none
          rw [nLS]
          exact frozen_free st1.base hLSn
        · rw [eH3]
          exact if_pos rfl
        · refine all_refs (by rw [List.length_map, List.length_zip, hU, List.size_toArray]; omega) fun i T d i1 i2 => ?_
          rw [List.getElem?_map] at i2
          cases q3 : (xs.zip ys)[i]? with
          | none => rw [q3] at i2; cases i2
          | some pr =>
            rw [q3] at i2
            cases i2
            obtain ⟨w1, w2⟩ := zip_get q3
            obtain ⟨v1, e1, k1⟩ := alx.get w1
            obtain ⟨v2, e2', k2⟩ := aly.get w2
            have et : tv[i]? = some [v1, v2] := by rw [etv, List.getElem?_map, zip_mk e1 e2']; rfl
            refine ⟨T, [v1, v2], rfl, ?_, .cons (Is.mono sub3 _ _ k1) (.cons (Is.mono sub3 _ _ k2) .nil)⟩
            rw [eF3]
            show (tob T).or (F1 T) = _
            rw [hat i T _ i1 et]
            rfl
end
end DL
end
section
/-! setdefault of a dict with tuple keys. -/
namespace DL
open PySem PySem.Spec PyProof.Rows L2
variable {X : Cx}
def rSetdT : V → List V → Hp → VK → Prop := fun x xs H Q => ∃ (a b : Addr) (kvs : List (List L2.Key × V)) (k : List L2.Key) (d : V), x = .ref a ∧ xs = [.ref b, d] ∧ H a = some (.dT kvs) ∧ H b = some (.tup (k.map kV)) ∧ kvs.length < sizeLine ∧
  (∀ v, valV kvs k = some v → Q v H) ∧ (valV kvs k = none → Q d (upd H a (.dT (putK kvs k d))))
theorem mt_setdT (hu : X.A.units + 1 < cLine) : MtR X "dict.setdefault" rSetdT := by
  intro pins s σ H x xs v us Q I rx rxs h
  obtain ⟨a, b, kvs, k, d, rfl, rfl, ha, hb, hl, q1, q2⟩ := h
  cases rx
  obtain ⟨u1, u2, rfl, r1, r2⟩ := vals2 rxs
  cases r1
  obtain ⟨z, hd, ys, rel, dd⟩ := dt_of I.hok ha
  have hz : ys.length ≤ sizeLine := by rw [← Paired.length rel]; exact z
  refine call_meetsIn PySem.F.slot_dict_setdefault dd.typeIs PySem.F.entry_dict_setdefault (PySem.F.args_dict_setdefault_3 _ _ _) (meetsH_dict_setdefault (tupleKind (mixKind X.prog X.w)) a b hd u2)
    ⟨tupleKind_room_in1 hu, k, ys, key_of I.hok hb, dd, hz, fun p hp => ?_, fun hn h' dd' hs => ?_⟩
  · have r := rel.val k
    cases ev : valV kvs k with
    | none =>
      rw [ev, hp] at r
      exact (show False from r).elim
    | some v0 =>
      rw [ev, hp] at r
      exact ⟨v0, H, I.tok _, r, q1 v0 ev⟩
  · have r := rel.val k
    cases ev : valV kvs k with
    | some v0 =>
      rw [ev, hn] at r
      exact (show False from r).elim
    | none =>
      have hl2 : (putK kvs k d).length ≤ sizeLine := by have := length_putK kvs k d; omega
      obtain ⟨o, es, ep, hq, h2, h3, h4, _, h5⟩ := dd'
      have I2 : Inv X pins σ (upd H a (.dT (putK kvs k d))) { s with heap := h', toks := s.toks + (tupleKind (mixKind X.prog X.w)).draws k } :=
        d_write I (by rw [ha]; exact True.intro) hs ⟨o, hq⟩ ⟨hl2, hd, _, (rel.put k hb r2).keeps (fun c ys ec => (by rw [upd_ne (ne_of ec ha (fun z => nomatch z))]; exact ec)), o, es, ep, hq, h2, h3, h4, h5⟩
      exact ⟨d, _, I2, r2, q2 ev⟩
end DL
end
section
/-! A dict comprehension whose keys are tuples. -/
namespace DL
open PySem PySem.Spec PyProof.Rows L2
variable {X : Cx}
theorem putT {pins : List (Addr × Obj)} {σ : L2.St} {H : Hp} {s : Shared} {E : Value → Shared → Prop} {t b : Addr} {ps : List (List L2.Key × V)} {ks : List L2.Key} {y : V} {v : Value} {Q : Unit → Shared → Prop} (hu : X.A.units < cLine) (J : Inv X pins σ H s)
    (ht : H t = some (.dT ps)) (hb : H b = some (.tup (ks.map kV))) (hl : ps.length < sizeLine) (ry : RelV y v) (hq : ∀ s2, Inv X pins σ (upd H t (.dT (putK ps ks y))) s2 → Q () s2) : wpAny (model X.prog X.w) X.A (dictSet t (.ref b) v) Q E s := by
  obtain ⟨z, hd, ys, rel, dd⟩ := dt_of J.hok ht
  have e1 := Paired.length rel
  have e2 : (putK ps ks y).length ≤ sizeLine := Nat.le_trans (length_putK ps ks y) hl
  refine wpAny_dictSet_heap (hsz := e1 ▸ z) (show (tupleKind (mixKind X.prog X.w)).room X.A from hu) (key_of J.hok hb) dd fun h2 dd2 same => ?_
  obtain ⟨o, es, ep, g1, g2, g3, g4, _, g5⟩ := dd2
  refine hq _ (d_write J (by rw [ht]; exact True.intro) same ⟨o, g1⟩ ⟨e2, hd, _, (rel.put ks hb ry).keeps (fun c us ec => (by rw [upd_ne (ne_of ec ht (fun q => nomatch q))]; exact ec)), o, es, ep, g1, g2, g3, g4, g5⟩)
/-- {k: v for target in iter}, every key a tuple: t the new dict -/
def tDcT (wi : TI) (G : TG) (tk tv : TE) (vs : List Nat) : TE := fun σ H Q => wi σ H fun J H1 => ∀ t, H1 t = none → ∃ W : Nat → Nat → Hp → Prop, (∃ m, W 0 m (upd H1 t (.dT []))) ∧ ∀ i m H, W i m H →
  (J.stop i H ∧ Q (.ref t) H) ∨ (J.go i H ∧ ∀ x H2, J.yld i H x H2 → G x (wipe σ vs) H2 fun σ2 H3 => wipe σ2 vs = wipe σ vs ∧ tk σ2 H3 fun y H4 => tv σ2 H4 fun z H5 =>
    ∃ ps ks b, y = .ref b ∧ H5 b = some (.tup (ks.map kV)) ∧ H5 t = some (.dT ps) ∧ ps.length < sizeLine ∧ ∃ m2, m2 < m ∧ W (i + 1) m2 (upd H5 t (.dT (putK ps ks z))))
section
variable {kx vx tg iter : Expr} {scope : Scope} {own : List (Str × Nat)} {pos : Pos} {wi : TI} {G : TG} {tk tv : TE}
theorem pe_dcT (hu : X.A.units < cLine) (hc : X.calm = true) (hN : X.N.Nodup) (hi : PI X tg iter wi) (ok : BlkOk X.N X.env.scope scope own) (hg : ∀ s H C cl fp, PG (X.blk s H scope (compEnvC scope cl C X.env) fp) tg G)
    (hk : ∀ s H C cl fp, PE (X.blk s H scope (compEnvC scope cl C X.env) fp) kx tk) (hv : ∀ s H C cl fp, PE (X.blk s H scope (compEnvC scope cl C X.env) fp) vx tv) (hf : ∀ x, foldedSetIterable iter X.env x = pure x := by intro _; rfl) :
    PE X (.DictComp kx vx [⟨tg, iter, [], 0⟩] scope pos) (tDcT wi G tk tv (own.map (·.2))) := by
  refine ⟨fun pins s σ H Q I h => ?_⟩
  rw [arm_eval_DictComp]
  have hcl : ∀ y ∈ scope.names, y.2 = .free → ∃ c, X.env.cells.lookup y.1 = some c := fun y hy e => (ok.free y hy e).elim (fun k => I.ok.has _ (.inl k)) fun k => I.ok.has _ (.inr k)
  refine wpAny_comprehension_free rfl hf (closure_ok hcl) ok.kind (fun y hy e => by rw [ok.uniq y hy, e]) (thn (hi.run pins s σ H _ I h) fun _ s1 h1 => thn h1 fun _ s2 ⟨it, fp, tn, J, H2, e, I2, T, st2, f2, q⟩ => ?_)
  subst e
  refine wpAny_newObj_type (newEnv_comp ?_)
  generalize ht : s2.heap.objs.size = t
  have htn : H2 t = none := I2.hok.fresh (Nat.le_of_eq ht)
  obtain ⟨W, ⟨m0, w0⟩, turn⟩ := q t htn
  generalize hs3 : ({ s2 with heap := s2.heap.push { cls := .type "dict", data := .dict #[] } } : Shared) = s3
  have h3 : s3.heap = s2.heap.push { cls := .type "dict", data := .dict #[] } := by rw [← hs3]
  have I3 : Inv X pins σ (upd H2 t (.dT [])) s3 := by
    subst hs3
    subst ht
    exact I2.laid (t' := s2.toks) (fun b o e => Heap.get?_push_of_some _ e) (Nat.le_refl _) (dt_empty s2.heap I2.big)
  have sz : ∀ b ∈ fp, b < s2.heap.objs.size := fun b hb => let ⟨o, e, _⟩ := T.obj _ _ st2 b hb; Heap.lt_size e
  have f3 : ∀ b ∈ fp, FpOk X pins (upd H2 t (.dT [])) b ∧ b < s3.heap.objs.size := fun b hb => by
    have l := sz b hb
    exact ⟨⟨(upd_ne (Nat.ne_of_lt (ht ▸ l))).trans (f2 b hb).1, (f2 b hb).2⟩, by rw [h3, Heap.size_push]; exact Nat.lt_succ_of_lt l⟩
  have st3 : tn 0 s3.heap := T.keep _ _ _ st2 fun b _ o e => by rw [h3]; exact Heap.get?_push_of_some _ e
  have I4 := block_start I3 ok hN f3
  let cl := cellsFrom (s3.heap.objs.size + 1) scope.names (cloFrom X.env.cells scope.names [])
  have pg := hg s3 (upd H2 t (.dT [])) s3.heap.objs.size cl fp
  have pk := hk s3 (upd H2 t (.dT [])) s3.heap.objs.size cl fp
  have pv := hv s3 (upd H2 t (.dT [])) s3.heap.objs.size cl fp
  show codeAny _ _ (.compStart (.DictComp kx vx [⟨tg, iter, [], 0⟩] scope pos) 0 (.ref it) (.ref t) (compEnvC scope cl s3.heap.objs.size X.env)) (compPost (model X.prog X.w) X.A X.xe _ _ (.ref t) s3.heap.objs.size) { s3 with heap := pushCells (s3.heap.push { cls := .type "dict", data := .dict #[] }) scope.names }
  have clear : ∀ b ∈ fp, (upd H2 t (.dT [])) b = none := fun b hb => (f3 b hb).1.1
  generalize hce : compEnvC scope cl s3.heap.objs.size X.env = ce at I4 pg pk pv ⊢
  have cL : ce.locals = s3.heap.objs.size := by subst hce; rfl
  generalize hH3 : upd H2 t (.dT []) = H3 at I3 I4 pg pk pv w0 clear f3
  generalize hs4 : ({ s3 with heap := pushCells (s3.heap.push { cls := .type "dict", data := .dict #[] }) scope.names } : Shared) = s4 at I4 ⊢
  have st4 : tn 0 s4.heap := T.keep _ _ _ st3 fun b _ o e => by rw [← hs4]; exact pushCells_keeps _ _ _ _ (Heap.get?_push_of_some _ e)
  have still : ∀ {τ : L2.St} {G : Hp} {s' : Shared}, Inv (X.blk s3 H3 scope ce fp) [] τ G s' → (∀ b ∈ fp, G b = none) → ∀ b ∈ fp, FpOk (X.blk s3 H3 scope ce fp) [] G b := fun {τ G s'} J' hn b hb =>
    ⟨hn b hb, (J'.ok.exf b hb).1, J'.ok.exfs b hb, .inl hb, fun x c e => (J'.ok.exf b hb).2 x c e, fun p hp => absurd (show p ∈ ([] : List (Addr × Obj)) ++ [] from hp) (by simp)⟩
  have loop : codeAny (model X.prog X.w) X.A (.compLoop (.DictComp kx vx [⟨tg, iter, [], 0⟩] scope pos) 0 (.ref it) (.ref t) ce) (compPost (model X.prog X.w) X.A X.xe none (EP X pins σ Q) (.ref t) s3.heap.objs.size) s4 := by
    refine compLoop_anyD (fun n s' => ∃ i Hn, Inv (X.blk s3 H3 scope ce fp) [] (wipe σ (own.map (·.2))) Hn s' ∧ tn i s'.heap ∧ (∀ b ∈ fp, Hn b = none) ∧ W i n Hn) ?_ m0 ⟨0, H3, I4, st4, clear, w0⟩
    rintro n s5 ⟨i, H5, I5, st5, n5, w5⟩
    rcases turn i n H5 w5 with ⟨stop, qq⟩ | ⟨go, step⟩
    · refine thnF (T.done (X.blk s3 H3 scope ce fp) rfl rfl rfl hc i [] s5 _ H5 (fun _ _ => False) I5 (still I5 n5) st5 stop) fun r s6 ⟨hr, I6⟩ => ?_
      subst hr
      have I7 : Inv X pins σ H5 s6 := I3.call' (ch := fp) I6.os I6.base I6.hok I6.bare fun b hb => ⟨(f3 b hb).1.2.2.2.1, (f3 b hb).1.2.1, (f3 b hb).1.2.2.2.2.1, (f3 b hb).1.2.2.2.2.2⟩
      have nC : H5 s3.heap.objs.size = none := cL ▸ (show H5 ce.locals = none from I6.free)
      obtain ⟨m, hn, _⟩ := I6.loc
      obtain ⟨p0, p1, p2, p3, p4, p5⟩ := I3.fpOk (Nat.le_refl _) nC
      exact ⟨m, cL ▸ (show s6.heap.Ns ce.locals m from hn), fun h2 sb => ⟨.ref t, H5, I7.turned (t' := s6.toks) (fun b o hb e => (sb.2 b hb).trans e) p0 p1 p3 p4 p5, rfl, qq⟩⟩
    · refine thnF (T.item (X.blk s3 H3 scope ce fp) rfl rfl rfl hc i [] s5 _ H5 (fun _ _ => False) I5 (still I5 n5) st5 go) fun r s6 ⟨u, hr, h6⟩ => ?_
      subst hr
      refine thnF h6 fun _ s7 ⟨x, H7, I7, r7, y7, st7, n7⟩ => ?_
      refine thnF (pg.run _ s7 _ H7 x u _ (I7.pinned (still I7 n7) (T.obj _ _ st7)) r7 (step x H7 y7)) fun _ s8 ⟨σ8, H8, I8, hw8, q8⟩ => ?_
      refine thnF ((pts_nil (X := X.blk s3 H3 scope ce fp)).run _ s8 σ8 H8 (fun b Hx => b = true ∧ Hx = H8) I8 ⟨rfl, rfl⟩) fun b s9 ⟨H9, I9, hb9, e9⟩ => ?_
      subst hb9 e9
      simp only [if_true]
      refine thnF (pk.run _ s9 σ8 _ _ I9 q8) fun z s10 ⟨yk, H10, I10, r10, q10⟩ => ?_
      refine thnF (pv.run _ s10 σ8 H10 _ I10 q10) fun z2 s11 ⟨yv, H11, I11, r11, ps, ks, b, ek, hb, ht11, hl11, m2, hm2, w2⟩ => ?_
      subst ek
      cases r10
      refine putT (X := X.blk s3 H3 scope ce fp) hu I11 ht11 hb hl11 r11 fun s12 I12 => ?_
      have pin : ∀ b ∈ fp, ∀ o, s7.heap.get? b = some o → s12.heap.get? b = some o ∧ _ = none := fun b hb o e =>
        let z := I12.pin (b, o) (List.mem_append_right _ (List.mem_append_right _ (mem_pinsAt hb e)))
        ⟨z.1, z.2.1⟩
      refine ⟨m2, hm2, i + 1, _, (I12.unpinned (pins := [])).weak (by rw [← hw8, wipe_length]) (fun j v e => (wipe_some (by rw [hw8]; exact e)).1), T.keep _ _ _ st7 fun b hb o e => (pin b hb o e).1, fun b hb => ?_, w2⟩
      obtain ⟨o, e, _⟩ := T.obj _ _ st7 b hb
      exact (pin b hb o e).2
  exact codeAny_compStart_dict loop (T.self X.A 0 _ _ _ st4 loop)
end
end DL
end
section
/-! sorted(set(texts)). -/
namespace SX
open PySem PySem.Spec PyProof.Rows L2
/-- a set of some of the texts xs; its table rises and can be walked -/
def SetX (P : Program) (w : World) (h : Heap) (a : Addr) (xs : List Str) (n : Nat) : Prop :=
  ∃ o es ep t, h.get? a = some o ∧ o.ExactSet ∧ o.data = .set es ep t ∧ ElemsOf (PySem.strKind P w) es.toList ∧ (∀ e ∈ es.toList, ∃ x u, e.2 = Value.str x u ∧ x ∈ xs) ∧
    es.size ≤ n ∧ es.size < scanBound ∧ t.fits es.size = true ∧ Ris t.place.toList ∧ (w.params.followText "set-order" = true ∨ t.led = true)
section
variable {P : Program} {w : World} {A : Around} {E : Value → Shared → Prop} {s : Shared} {a : Addr} {xs : List Str} {n : Nat}
theorem SetX.at {h h' : Heap} (R : SetX P w h a xs n) (k : ∀ o, h.get? a = some o → h'.get? a = some o) : SetX P w h' a xs n := by
  obtain ⟨o, es, ep, t, ho, r⟩ := R
  exact ⟨o, es, ep, t, k o ho, r⟩
theorem setX_tail {g : Bool → Sem Unit} (hg : ∀ (b : Bool) (s₁ : Shared) (Q' : Unit → Shared → Prop), Q' () s₁ → wpAny (model P w) A (g b) Q' E s₁)
    {o : Obj} {es : Array (Int × Value)} {ep : Nat} {t : SetTable} (ho : s.heap.get? a = some o) (hex : o.ExactSet) (hd : o.data = .set es ep t)
    {es1 : Array (Int × Value)} {t2 : SetTable} (g1 : ElemsOf (PySem.strKind P w) es1.toList) (m1 : ∀ e ∈ es1.toList, ∃ x u, e.2 = Value.str x u ∧ x ∈ xs) (hn1 : es1.size ≤ n)
    (hb1 : es1.size < scanBound) (hf2 : t2.fits es1.size = true) (hr : Ris t2.place.toList) (hl : w.params.followText "set-order" = true ∨ t2.led = true) {wasDummy : Bool} {R : Option Bool → Shared → Prop}
    (hR : ∀ h', Heap.SameBut a s.heap h' → SetX P w h' a xs n → R (some true) { s with heap := h' }) :
    wpAny (model P w) A (do
        storeSet a es1 t2
        if (!wasDummy && t2.tooFull) = true then do
            g (relayAll t2 es1 (SetTable.grown es1.size)).2.2
            storeSet a (relayAll t2 es1 (SetTable.grown es1.size)).1 (relayAll t2 es1 (SetTable.grown es1.size)).2.1
            pure (some true)
          else pure (some true)) R E s := by
  refine wpAny_bind (wpAny_storeSet_of ho hd ?_ (fits_of_scanBound hb1))
  have ho1 := store_at (es' := es1) (t' := t2) ho hd
  have sb1 := Heap.SameBut.update s.heap a (Obj.putSet es1 t2)
  split
  · have pm := relayAll_perm t2 es1 (SetTable.grown es1.size)
    have hf3 := relayAll_fits t2 es1 (SetTable.grown es1.size)
    have hr3 := relayAll_ris t2 es1 (SetTable.grown es1.size)
    have hl3 := relayAll_led t2 es1 (SetTable.grown es1.size)
    generalize relayAll t2 es1 (SetTable.grown es1.size) = Z at pm hf3 hr3 hl3 ⊢
    obtain ⟨es2, t3, gave⟩ := Z
    dsimp only at pm hf3 hr3 hl3 ⊢
    have hsz : es2.size = es1.size := by rw [← Array.length_toList, pm.length_eq, Array.length_toList]
    have hb2 : es2.size < scanBound := by rw [hsz]; exact hb1
    refine wpAny_bind (hg _ _ _ ?_)
    refine wpAny_bind (wpAny_storeSet_of ho1 rfl ?_ (fits_of_scanBound hb2))
    have ho2 := store_at (es' := es2) (t' := t3) ho1 rfl
    refine wpAny_pure (hR _ (sb1.trans (Heap.SameBut.update _ a _)) ?_)
    exact ⟨_, es2, _, t3, ho2, hex, rfl, g1.perm pm, fun e he => m1 e (pm.mem_iff.mp he), by rw [hsz]; exact hn1, hb2, hf3, hr3, hl.imp id fun z => by rw [hl3]; exact z⟩
  · exact wpAny_pure (hR _ sb1 ⟨_, es1, _, t2, ho1, hex, rfl, g1, m1, hn1, hb1, hf2, hr, hl⟩)
theorem setX_add {k : Str} {tk : Tok} {Q : Bool → Shared → Prop} (R : SetX P w s.heap a xs n) (room : n + 1 < scanBound) (hk : k ∈ xs)
    (hQ : ∀ (b : Bool) h', Heap.SameBut a s.heap h' → SetX P w h' a xs (n + 1) → Q b { s with heap := h' }) :
    wpAny (model P w) A (setAddHashed a (.str k tk) ((PySem.strKind P w).hash k)) Q E s := by
  obtain ⟨o, es, ep, t, ho, hex, hd, hel, hm, hn, hb, hf, hr, hl⟩ := R
  have hkey : (PySem.strKind P w).is k (.str k tk) = true := strKind_is P w k tk
  have hsc : (Value.str k tk).scannable = true := rfl
  unfold setAddHashed setAddHashedIn
  refine wpAny_holding (wpAny_bind (wpAny_setState_of ho hd hf ?_))
  dsimp only
  rw [byScan_of hsc hb hel]
  simp only [↓reduceIte]
  unfold setAddByScan
  refine wpAny_bind ?_
  refine wpAny_bind (wpAny_rule ?_)
  refine wpAny_bind (wpAny_setScan_of hkey ho hd hf hel ?_)
  cases hfi : List.findIdx? (fun e => (PySem.strKind P w).is k e.2) es.toList with
  | some j =>
    dsimp only
    refine wpAny_pure (wpAny_pure ?_)
    exact hQ _ s.heap (Heap.SameBut.refl a s.heap) ⟨o, es, ep, t, ho, hex, hd, hel, hm, by omega, hb, hf, hr, hl⟩
  | none =>
    dsimp only
    have hgw : ∀ (b : Bool) {s₁ : Shared} {Q' : Unit → Shared → Prop}, Q' () s₁ → wpAny (model P w) A (match b with | true => rule "set.scan.the-table-gave-way" | false => pure ()) Q' E s₁ :=
      fun b s₁ Q' q => by cases b <;> first | exact wpAny_pure q | exact wpAny_rule q
    have pm := layNew_perm t es ((PySem.strKind P w).hash k) (.str k tk)
    have hf1 := layNew_fits t es ((PySem.strKind P w).hash k) (.str k tk)
    have hr1 := layNew_ris t es ((PySem.strKind P w).hash k) (.str k tk) hr
    have hl1 := layNew_led t es ((PySem.strKind P w).hash k) (.str k tk)
    generalize layNew t es ((PySem.strKind P w).hash k) (.str k tk) = Z at pm hf1 hr1 hl1 ⊢
    obtain ⟨es1, t1, wasDummy, gave⟩ := Z
    dsimp only at pm hf1 hr1 hl1 ⊢
    rw [Array.toList_push] at pm
    have g1 : ElemsOf (PySem.strKind P w) es1.toList := (hel.push hkey hsc).perm pm
    have m1 : ∀ e ∈ es1.toList, ∃ x u, e.2 = Value.str x u ∧ x ∈ xs := fun e he => by
      rcases List.mem_append.mp (pm.mem_iff.mp he) with z | z
      · exact hm e z
      · rw [List.mem_singleton.mp z]; exact ⟨k, tk, rfl, hk⟩
    have hsz : es1.size = es.size + 1 := by rw [← Array.length_toList, pm.length_eq, List.length_append, Array.length_toList]; rfl
    have hb1 : es1.size < scanBound := by omega
    have hled : w.params.followText "set-order" = true ∨ t1.led = true := hl.imp id fun z => by rw [hl1]; exact z
    refine wpAny_bind (hgw _ ?_)
    split
    · refine wpAny_bind ?_
      rw [hashByValue_scannable 8 hsc]
      refine wpAny_pure ?_
      refine setX_tail (n := n + 1) ?_ ho hex hd g1 m1 (by omega) hb1 ?_ ?_ ?_ ?_
      · intro b s₁ Q' q; cases b <;> first | exact wpAny_pure q | exact wpAny_rule q
      · first | (split <;> first | exact hf1 | exact SetTable.fits_plain_off hf1) | exact hf1
      · first | (split <;> exact hr1) | exact hr1
      · first | (split <;> exact hled) | exact hled
      · intro h' sb r; dsimp only; exact wpAny_pure (hQ _ h' sb r)
    · refine wpAny_bind (wpAny_pure ?_)
      simp only [↓reduceIte]
      refine setX_tail (n := n + 1) ?_ ho hex hd g1 m1 (by omega) hb1 hf1 hr1 hled ?_
      · intro b s₁ Q' q; cases b <;> first | exact wpAny_pure q | exact wpAny_rule q
      · intro h' sb r; dsimp only; exact wpAny_pure (hQ _ h' sb r)
theorem setX_new {h : Heap} (xs : List Str) (ho : h.get? a = some { cls := .type "set", dict := none, data := .set #[] 0 (.fresh 0 0 (!w.params.followText "set-order")) }) : SetX P w h a xs 0 :=
  ⟨_, #[], 0, _, ho, ⟨rfl, rfl, rfl⟩, rfl, (fun e he => by simp at he), (fun e he => by simp at he), Nat.le_refl 0, (by decide), (by rfl), List.Pairwise.nil, by
    show _ ∨ (!w.params.followText "set-order") = true
    cases w.params.followText "set-order"
    · exact .inr rfl
    · exact .inl rfl⟩
theorem update_strs {I : Addr} {fp wr : List Addr} {G : Array GenState → Array GenState → Prop} {n : Nat} {Pv : Nat → Value → Prop} {St : Nat → Shared → Prop} {R : Result → Shared → Prop}
    (W : WalksS P w A.in1 I fp wr G n Pv St) (S : Addr) (hSf : S ∉ fp) (xs : List Str) (hb : n + 1 < scanBound) (hval : ∀ i v, Pv i v → ∃ k t, k ∈ xs ∧ v = .str k t) :
    ∀ (k i : Nat) (s : Shared), n - i = k → i ≤ n → St i s → SetX P w s.heap S xs i →
      (∀ s', Moved (S :: wr) G s s' → SetX P w s'.heap S xs n → R (.ok (.ret .none)) s') →
      codeAny (model P w) A (.builtin "set.update.loop" ⟨[.ref S, .ref I], []⟩) R s := by
  have hSw : S ∉ wr := fun h => hSf (W.sub _ h)
  have hsub : ∀ b ∈ wr, b ∈ S :: wr := fun b hb => List.mem_cons_of_mem _ hb
  intro k
  induction k with
  | zero =>
    intro i s hk' hi hst hS hR
    have hin : i = n := by omega
    subst hin
    refine codeAny_builtin F.entry_set_update_loop ?_
    rw [Around.under_plainId F.plain_set_update_loop _]
    show wpAny _ A.in1 (pyNext (.ref I) >>= _) _ _ s
    refine wpAny_bind (W.done s _ _ hst fun s' hm => ?_)
    show wpAny _ A.in1 (ret Value.none) _ _ s'
    exact wpAny_pure (hR s' (hm.mono hsub) (hS.at fun o e => hm.heap S o hSw e))
  | succ k ih =>
    intro i s hk' hi hst hS hR
    have hlt : i < n := by omega
    refine codeAny_builtin F.entry_set_update_loop ?_
    rw [Around.under_plainId F.plain_set_update_loop _]
    show wpAny _ A.in1 (pyNext (.ref I) >>= _) _ _ s
    refine wpAny_bind (W.item i s _ _ hlt hst fun v s' hP hst' hm => ?_)
    obtain ⟨z, t, hz, rfl⟩ := hval i v hP
    have hS' : SetX P w s'.heap S xs i := hS.at fun o e => hm.heap S o hSw e
    show wpAny _ A.in1 (holding [Value.str z t] (setAdd S (.str z t)) >>= _) _ _ s'
    refine wpAny_bind (wpAny_holding ?_)
    unfold setAdd
    refine wpAny_holding ?_
    refine wpAny_bind ((PySem.strKind P w).pyHash (k := z) (strKind_is _ _ _ _) ?_)
    refine setX_add (s := { s' with toks := s'.toks + 1 }) hS' (by omega) hz fun b h' hsb hS3 => ?_
    refine wpAny_pure ⟨plainId_quiet F.plain_set_update_loop _, ih (i + 1) _ (by omega) hlt (W.frame _ s' _ _ hst' (Nat.le_succ _) fun b hb o e => ?_) hS3 fun s'' hm'' hS'' => ?_⟩
    · rw [hsb.2 b (fun h : b = S => hSf (by rw [← h]; exact hb))]; exact e
    · refine hR s'' (Moved.trans W.gtrans ((hm.mono hsub).then_heap (Nat.le_succ _) fun b o hb e => ?_) hm'') hS''
      rw [hsb.2 b (fun h : b = S => hb (by rw [h]; exact List.mem_cons_self))]; exact e
set_option maxRecDepth 100000 in
set_option maxHeartbeats 3200000 in
theorem call_set_listX {l : Addr} {items : Array Value} (xs : List Str) {Q : Value → Shared → Prop} (hh : A.handled = none) (hl : s.heap.IsList l items) (hit : ∀ (i : Nat) (v : Value), items[i]? = some v → ∃ k t, k ∈ xs ∧ v = Value.str k t) (hb : items.size + 1 < scanBound)
    (h : ∀ (h' : Heap) (tk : Nat), SetX P w h' s.heap.objs.size xs items.size → (∀ b o, s.heap.get? b = some o → h'.get? b = some o) → Q (.ref s.heap.objs.size) { s with heap := h', toks := tk }) :
    wpAny (model P w) A (call (.type "set") [.ref l]) Q E s := by
  obtain ⟨c, tl, hmro⟩ := F.called_set.mro
  have hmade := F.called_set.made
  have hsub := F.called_set.sub
  refine wpAny_call (codeAny_of_tree ?_)
  show wpAny _ _ (callAny (.type "set") _) _ _ _
  refine wpAny_pure ⟨Code.quiet_builtin _ (by decide +kernel), codeAny_builtin F.entry_type_call ?_⟩
  rw [Around.under_plain (weight_type_call_type "set" [.ref l] []) rfl]
  have h1 := F.called_set.notType
  have h2 := F.called_set.canCreate
  have hct := F.typeCall_set_1 (.ref l)
  repeat (any_goals (first | assumption | wp_step))

  refine codeAny_mono (code_set_led1 (.ref l) (E := E) (Q₁ := fun obj s₁ => obj = .ref s.heap.objs.size ∧ s₁ = { s with heap := s.heap.push { cls := .type "set", dict := none, data := .set #[] 0 (.fresh 0 0 (!w.params.followText "set-order")) } }) ⟨rfl, rfl⟩) fun r s₁ hr => ?_
  cases r with
  | error e => exact hr
  | ok fl =>
    cases fl with
    | ret obj =>
      obtain ⟨rfl, rfl⟩ := hr
      obtain ⟨new, enew⟩ : ∃ new : Obj, new = { cls := .type "set", dict := none, data := .set #[] 0 (.fresh 0 0 (!w.params.followText "set-order")) } := ⟨_, rfl⟩
      have hS : (s.heap.push { cls := .type "set", dict := none, data := .set #[] 0 (.fresh 0 0 (!w.params.followText "set-order")) }).get? s.heap.objs.size = some { cls := .type "set", dict := none, data := .set #[] 0 (.fresh 0 0 (!w.params.followText "set-order")) } := Heap.get?_push_size _ rfl
      have hT : Shared.TypeIs { s with heap := s.heap.push { cls := .type "set", dict := none, data := .set #[] 0 (.fresh 0 0 (!w.params.followText "set-order")) } } (.ref s.heap.objs.size) "set" := ⟨_, hS, rfl⟩
      have hli := F.called_set.init.lookup
      have hbi := F.called_set.init.bind (.ref s.heap.objs.size)
      repeat (any_goals (first | assumption | wp_step))

      refine codeAny_mono (codeAny_call_builtin (R := wants (fun r s₂ => r = .none ∧ ∃ h' tk, s₂ = { s with heap := h', toks := tk } ∧ SetX P w h' s.heap.objs.size xs items.size ∧
          (∀ b o, s.heap.get? b = some o → h'.get? b = some o)) E) F.called_set.init.plain F.entry_set_init (check_set_init_1 hT ?_)) fun r₂ s₂ hr₂ => ?_
      · obtain ⟨ol, hol, hcl, nl, hdl⟩ := hl
        obtain ⟨ocls, odict, odata, oslots⟩ := ol
        simp only at hcl hdl
        subst hcl; subst hdl
        have hol' : (s.heap.push { cls := .type "set", dict := none, data := .set #[] 0 (.fresh 0 0 (!w.params.followText "set-order")) }).get? l = some { cls := .type "list", dict := odict, data := .seq items nl, slots := oslots } := Heap.get?_push_of_some _ hol
        have hsls := F.sub_list_set
        have hslf := F.sub_list_frozenset
        have hne : (Value.type "list" == Value.type "dict") = false := by decide
        have hl1 : (s.heap.push { cls := .type "set", dict := none, data := .set #[] 0 (.fresh 0 0 (!w.params.followText "set-order")) }).IsList l items := ⟨_, hol', rfl, nl, rfl⟩
        unfold Builtin.«set.__init__» noKeywords Builtin.Frozenset.updateFrom
        generalize hPI : pyIter = PI
        wp_walk
        subst hPI

        refine wpAny_pyIter_list hl1 ?_
        refine wpAny_bind (wpAny_runValue ?_)
        have hlS : l < s.heap.objs.size := Heap.lt_size hol
        have hh3 : A.in1.in1.in1.handled = none := by simp [hh]
        have hneI : l ≠ (s.heap.push { cls := .type "set", dict := none, data := .set #[] 0 (.fresh 0 0 (!w.params.followText "set-order")) }).objs.size := by
          rw [Heap.size_push]; exact Nat.ne_of_lt (Nat.lt_succ_of_lt hlS)
        have hSf : s.heap.objs.size ∉ [(s.heap.push { cls := .type "set", dict := none, data := .set #[] 0 (.fresh 0 0 (!w.params.followText "set-order")) }).objs.size, l] := by
          rw [Heap.size_push]; simp only [List.mem_cons, List.mem_singleton, List.not_mem_nil, or_false, not_or]
          exact ⟨Nat.ne_of_lt (Nat.lt_succ_self _), Nat.ne_of_gt hlS⟩
        refine update_strs ((Walks.list hh3 _ l hneI items).toS) s.heap.objs.size
          hSf xs hb hit (items.size - 0) 0 _ (by omega) (Nat.zero_le _)
          ⟨⟨_, Heap.get?_push_size _ rfl, rfl, rfl⟩, (hl1.push _)⟩ ?hS0 ?hR
        case hS0 =>
          exact setX_new xs (Heap.get?_push_of_some _ hS)
        case hR =>
          intro s' hm hS'
          obtain ⟨h', g2, d', tk', os'⟩ := s'
          have eg : g2 = s.gens := hm.gens
          have ed : d' = s.drawn := hm.drawn
          have eo : os' = s.os := hm.os
          subst eg; subst ed; subst eo
          show wpAny _ _ _ _ _ _
          refine wpAny_pure ?_
          show wpAny _ _ (ret Value.none) _ _ _
          refine wpAny_pure ⟨rfl, h', tk', rfl, hS', fun b o e => ?_⟩
          have hb0 : b < s.heap.objs.size := Heap.lt_size e
          have hb1 : b ≠ s.heap.objs.size := Nat.ne_of_lt hb0
          have hb2 : b ≠ (s.heap.push { cls := .type "set", dict := none, data := .set #[] 0 (.fresh 0 0 (!w.params.followText "set-order")) }).objs.size := by
            rw [Heap.size_push]; exact Nat.ne_of_lt (Nat.lt_succ_of_lt hb0)
          exact hm.heap b o (by simp only [List.mem_cons, List.mem_singleton, List.not_mem_nil, or_false, not_or]; exact ⟨hb1, hb2⟩) (Heap.get?_push_of_some _ (Heap.get?_push_of_some _ e))

      · cases r₂ with
        | error e => exact hr₂
        | ok fl₂ =>
          cases fl₂ with
          | ret r =>
            obtain ⟨rfl, h', tk, rfl, hS', hk'⟩ := hr₂
            repeat (any_goals (first | assumption | wp_step))
            exact h _ _ hS' hk'
          | _ => exact hr₂.elim
    | _ => exact hr.elim
theorem strs_ofX : ∀ (vs : List Value), (∀ v ∈ vs, ∃ k u, v = Value.str k u ∧ k ∈ xs) → ∃ ys, StrsAre vs ys ∧ ∀ y ∈ ys, y ∈ xs
  | [], _ => ⟨[], .nil, fun y hy => (by cases hy)⟩
  | v :: vs, h => by
    obtain ⟨k, u, rfl, hk⟩ := h v List.mem_cons_self
    obtain ⟨ys, h1, h2⟩ := strs_ofX vs fun v hv => h v (List.mem_cons_of_mem _ hv)
    exact ⟨k :: ys, .cons k u h1, fun y hy => by
      rcases List.mem_cons.mp hy with rfl | hy
      · exact hk
      · exact h2 y hy⟩
end
end SX
end
section
namespace SX
open PySem PySem.Spec PyProof.Rows L2
section
variable {P : Program} {w : World} {A : Around} {E : Value → Shared → Prop} {s : Shared} {a : Addr} {xs : List Str} {n : Nat}
theorem sorted_setX {Q : Value → Shared → Prop} (R : SetX P w s.heap a xs n) (hh : A.handled = none) (h64 : n < 64)
    (hQ : ∀ s' p (out : Array Value) (c : Nat) (ys : List Str), (∀ b o, s.heap.get? b = some o → s'.heap.get? b = some o) → s'.gens = s.gens → s'.os = s.os → s.heap.objs.size ≤ p →
      s'.heap.get? p = some (seqObj "list" out c) → StrsAre out.toList ys → (∀ y ∈ ys, y ∈ xs) → ys.length ≤ n → Q (.ref p) s') :
    wpAny (model P w) A (call (.builtin "sorted") [.ref a]) Q E s := by
  obtain ⟨o, es, ep, t, ho, hex, hd, g, hm, hn, hb, hf, hr, hl⟩ := R
  refine Calls.call_function_entry kind_sorted plain_sorted entry_sorted (args_sorted1 _) ?_
  unfold Builtin.«sorted»
  refine wpAny_bind (m := checkCount "sorted" 1 1 _) (wpAny_pure ?_)
  refine wpAny_bind (collect_set (A := A.in1) hh ⟨o, ho, hex.1, hd⟩ hf hb hr hl fun s1 vs k1 hz g1 o1 pm => ?_)
  have hvl : vs.length ≤ n := by rw [pm.length_eq, List.length_map, Array.length_toList]; exact hn
  obtain ⟨ys, hI, hmem⟩ := strs_ofX (xs := xs) vs fun v hv => by
    obtain ⟨e, he, q⟩ := List.mem_map.mp (pm.mem_iff.mp hv)
    obtain ⟨x, u, h1, h2⟩ := hm e he
    exact ⟨x, u, by rw [← q]; exact h1, h2⟩
  refine wpAny_bind (wpAny_newList ?_ (by rw [sizeLine_eq]; omega))
  have hoL : (s1.heap.push (seqObj "list" vs.toArray 0)).get? s1.heap.objs.size = some (seqObj "list" vs.toArray 0) := Heap.get?_push_size _ rfl
  refine wpAny_bind (wpAny_holding (wpAny_call_entry slot_list_sort ⟨_, hoL, rfl⟩ entry_list_sort
    (list_sort_treeK strKind_oneLt hoL hI.keysOf (fun v₁ v₂ rest e => keyKind_strs (by rw [← e]; exact hI)) (by omega) fun st' hp hs => ⟨_, rfl, ?_⟩) (args_list_sort _)))
  obtain ⟨zs, g1', g2, g3⟩ := sorted_out_str hI hp hs
  obtain ⟨c, hc⟩ := sortedHeap_at (vs := vs) (out := (arrOf st').map (·.2)) hoL
  have hlen : ys.length = vs.length := by
    have h : ∀ {vs : List Value} {ys : List Str}, StrsAre vs ys → ys.length = vs.length := fun h => by
      induction h with
      | nil => rfl
      | cons _ _ _ ih => rw [List.length_cons, List.length_cons, ih]
    exact h hI
  refine wpAny_pure ⟨_, rfl, hQ _ s1.heap.objs.size _ c zs (fun b u e => ?_) g1 o1 hz hc g1' (fun y hy => hmem y (g2.mem_iff.mp hy)) (by rw [g2.length_eq, hlen]; exact hvl)⟩
  have q := k1 b u e
  have hlt := Heap.lt_size q
  show (sortedHeap (s1.heap.push (seqObj "list" vs.toArray 0)) s1.heap.objs.size vs _).get? b = some u
  rw [sortedHeap_old (Nat.ne_of_lt hlt) (by rw [size_push']; exact Nat.lt_succ_of_lt hlt)]
  exact Heap.get?_push_of_some _ q
end
section
variable {X : Cx}
/-- sorted(set(e)), the items of e texts -/
def tSortSet (K : PySem.W.Frag) (ta : TE) : TE := fun σ H Q => ta σ H fun x H1 => ∃ (l : Addr) (xs : List Str), x = .ref l ∧ SqL K H1 l (xs.map V.str) ∧ xs.length < 64 ∧
  ∀ (ys : List Str) (p : Addr), (∀ y ∈ ys, y ∈ xs) → ys.length ≤ xs.length → H1 p = none → Q (.ref p) (upd H1 p (.lst (ys.map V.str)))
theorem strs_at : ∀ {xs : List Str} {us : List Value}, Vals (xs.map V.str) us → ∀ (i : Nat) (v : Value), us[i]? = some v → ∃ k t, k ∈ xs ∧ v = Value.str k t
  | [], _, .nil, i, v, h => by simp at h
  | y :: ys, _, .cons r t, 0, v, h => by
    obtain ⟨k, rfl⟩ := r
    have e : Value.str y k = v := by simpa using h
    exact ⟨y, k, List.mem_cons_self, e.symm⟩
  | y :: ys, _, .cons r t, i + 1, v, h => by
    obtain ⟨k, u, hk, e⟩ := strs_at t i v (by simpa using h)
    exact ⟨k, u, List.mem_cons_of_mem _ hk, e⟩
theorem pe_sortSet {a : Expr} {ta : TE} {p p2 q pos : Pos} (hc : X.calm = true) (hg : Gl X "sorted") (hm : X.mg "sorted" = none) (hg2 : Gl X "set") (hm2 : X.mg "set" = none) (ha : PE X a ta)
    (na : starEach [a] X.env = (false, eval a X.env) :: starEach [] X.env := by rfl) : PE X (.Call (.Name "sorted" p) [.Call (.Name "set" p2) [a] [] q] [] pos) (tSortSet X.K ta) := by
  refine ⟨fun pins s σ H Q I h => ?_⟩
  refine Call_ (ld_blt (u := .builtin "sorted") I hg hm (by decide +kernel) ?_)
  refine PyProof.Rows.callWith_builtin1 (PyProof.Rows.args_cons ?_ rfl) rfl rfl
  refine Call_ (ld_blt I hg2 hm2 boot_set ?_)
  refine PyProof.Rows.callWith_type1 (PyProof.Rows.args_cons (thn (ha.run pins s σ H _ I h) fun v s1 ⟨x, H1, I1, r1, q1⟩ => PyProof.Rows.args_nil ?_) na) na rfl
  obtain ⟨l, xs, rfl, hq, h64, q1⟩ := q1
  cases r1
  obtain ⟨its, r, pl, hz⟩ := I1.list hq
  have hl : its.toArray.size = xs.length := by rw [List.size_toArray, ← r.length, List.length_map]
  refine call_set_listX (P := X.prog) (w := X.w) xs (I1.ok.hd hc) pl.isList (fun i v hv => strs_at r i v (by rw [← hv]; simp)) (by rw [hl]; unfold scanBound; omega) fun h' tk R hk => ?_
  rw [hl] at R
  refine PyProof.Rows.args_nil ?_
  have I2 : Inv X pins σ H1 { s1 with heap := h', toks := tk } := I1.kept hk
  have R2 : SetX X.prog X.w ({ s1 with heap := h', toks := tk } : Shared).heap s1.heap.objs.size xs xs.length := R
  generalize ({ s1 with heap := h', toks := tk } : Shared) = s2 at I2 R2
  refine sorted_setX R2 (I1.ok.hd hc) h64 fun s' p out c ys k g o hp hg hi hs hm => ?_
  have hlen : (ys.map V.str).length ≤ sizeLine := by rw [List.length_map, sizeLine_eq]; omega
  have hn : H1 p = none := I2.hok.fresh hp
  have J : Inv X pins σ (upd H1 p (.lst (ys.map V.str))) { s2 with heap := s'.heap, gens := s'.gens, drawn := s'.drawn, toks := s'.toks } :=
    I2.call (ch := []) (Un.laid k hp hn) (I2.hok.laid k hp ⟨hlen, out.toList, c, vals_of_strs hi, hg⟩) (by rw [g]; exact I2.bare) (fun _ z => nomatch z)
  have e : s' = { s2 with heap := s'.heap, gens := s'.gens, drawn := s'.drawn, toks := s'.toks } := by
    cases s'
    cases s2
    cases o
    rfl
  rw [e]
  exact ⟨.ref p, _, J, rfl, q1 ys p hs hm hn⟩
end
end SX
end
section
/-! Data logic: objects in the making; promises with several answers. -/
namespace DL
open PySem PySem.Spec PyProof.Rows L2
/-- a promise: any answer that Post lets -/
def spP (g : Gx) (Pre : List D → Prop) (Post : List D → D → Prop) : Sp := fun vs H Q _ => ∃ F ds, Base g F H ∧ All g F ds vs ∧ Pre ds ∧ ∀ d v F' H', Post ds d → Step g F H F' H' → Is g F' d v → Q v H'
theorem fnP {g : Gx} {P : Program} {w : World} {K : PySem.W.Frag} {mg : Str → Option Value} {base : Heap} {x qual : Str} {st : Stmt} {f : Addr} {fd : FuncData} {N ps : List Str} {k : Nat} {Pre : List D → Prop} {Post : List D → D → Prop} (Fn : Fun K x qual st f fd) (sc : FnScope N ps (defScope st)) (hl : ∀ ds, Pre ds → ds.length = ps.length)
    (hb : ∀ (cdv : Value) (A : Around) (outer : List PySem.Env) (s : Shared) (H : Hp) (E : XK) (F0 H0 : Hp) (ds : List D), Room k (A.deeper (envOfC qual (defScope st) s.heap.objs.size f cdv)) → Pre ds →
      DSs (sy0 g) F0 H0 (bodyX P w K mg base N qual (defScope st) f cdv A outer s H E) (defBody st) (envOf N ds) () ⟨fun _ _ => Post ds .non, fun d' _ => Post ds d', fun _ _ => False, fun _ _ => False⟩) : FnOk P w K mg base CX0 (k + 1) f fd ps (spP g Pre Post) := by
  refine Fn.ok sc (fun vs H Q E h => ?_) (fun cdv A outer s H vs Q E hr h => ?_)
  · obtain ⟨F, ds, b, al, hR, _⟩ := h
    rw [al.len]
    exact hl ds hR
  · obtain ⟨F, ds, b, al, hR, q⟩ := h
    refine ⟨_, hb cdv A outer s H E F H ds hr hR, F, RepS.start b (rep_start b al) (fun sl h xs e => ?_) (fun a h => absurd h List.not_mem_nil) True.intro, ?_, ?_, fun _ _ _ _ _ h => h.elim, fun _ _ _ _ _ h => h.elim⟩
    · subst e
      rcases List.mem_append.mp h with h | h
      · obtain ⟨d, _, hd⟩ := List.mem_map.mp h
        cases hd
      · cases List.eq_of_mem_replicate h
    · intro ρ' z' σ' F' H' e r _
      exact q .non .non F' H' e r.r.plain rfl
    · intro d' z' v F' H' e r iv
      exact q d' v F' H' e r.plain iv
/-- a def with several answers -/
def CalP (g : Gx) (P : Program) (w : World) (K : PySem.W.Frag) (mg : Str → Option Value) (base : Heap) (x : Str) (k : Nat) (ps : List Str) (Pre : List D → Prop) (Post : List D → D → Prop) : Prop :=
  ∃ f fd, FnOk P w K mg base CX0 k f fd ps (spP g Pre Post) ∧ mg x = some (.ref f) ∧ PySem.W.keepIn K (.ref f) = true ∧ L2.Binds K fd ps []
section
variable {g : Gx} {S : Sy g} {F0 H0 : Hp} {X : Cx} {ρ : Env} {z : S.ζ} {e : Expr} {es : List Expr} {pos p : Pos} {x : Str} {k : Nat} {ps : List Str} {Pre : List D → Prop} {Post : List D → D → Prop} {ds : List D}
theorem ew_callP (c : CalP g X.prog X.w X.K X.mg X.base x k ps Pre Post) (hr : Room k X.A) (hg : Gl X x) (ha : DA g X (e :: es) ρ ds) (hR : Pre ds) (hdb : (x == ("__debug__" : Str)) = false := by decide)
    (he : starEach (e :: es) X.env = (false, eval e X.env) :: starEach es X.env := by rfl) (hpl : (backTo pos (starEach es X.env)).any (·.1) = false := by rfl) : EW S F0 H0 X (.Call (.Name x p) (e :: es) [] pos) ρ z (fun d z' => Post ds d ∧ z' = z) := by
  obtain ⟨f, fd, h1, h2, h3, h4⟩ := c
  refine PE.wk (pe_call h1 hr hg h2 h3 h4 .nil pass0 ha hdb he hpl) fun σ H Q ⟨F, r, q⟩ => ⟨F, r.e, fun vs F2 H2 s al => ?_⟩
  show spP g Pre Post (vs ++ []) H2 Q _
  rw [List.append_nil]
  exact ⟨F2, ds, s.base, al, hR, fun d v F' H' hp s2 iv => q d z v F' H' ⟨hp, rfl⟩ ((r.step s).step s2) (s.sub.trans s2.sub) iv⟩
end
/-! ### an object of a class, in the making -/
structure OLoc where
  C : Addr
  obj : Addr
  dx : Addr
def obZ (g : Gx) (L : OLoc) (z : List (Str × D)) (F H : Hp) : Prop := ∃ fs, H L.obj = some (.ins L.C L.dx fs) ∧ fs.length < 100 ∧ ∀ q ∈ z, ∃ v, fs.lookup q.1 = some v ∧ Is g F q.2 v
/-- how many fields stand is counted by n -/
abbrev obS (g : Gx) (L : OLoc) : Sy g where
  W := [L.obj]
  ζ := Nat × List (Str × D)
  Z := fun z F H => (∃ fs, H L.obj = some (.ins L.C L.dx fs) ∧ fs.length ≤ z.1 ∧ ∀ q ∈ z.2, ∃ v, fs.lookup q.1 = some v ∧ Is g F q.2 v)
  stab := fun z F H F' H' s e ⟨fs, h1, h2, h3⟩ => ⟨fs, (e _ (by simp)).trans h1, h2, fun q hq => let ⟨v, a, b⟩ := h3 q hq; ⟨v, a, Is.mono s _ _ b⟩⟩
  trk := fun z F H ⟨fs, h1, _⟩ a ha => by
    rw [List.mem_singleton.mp ha]
    exact ⟨_, h1, fun ps e => by cases e⟩
theorem putF_len (f : Str) (v : V) : ∀ fs : List (Str × V), (putF f v fs).length ≤ fs.length + 1
  | [] => Nat.le_refl _
  | (k, x) :: r => by
    show (if k = f then (k, v) :: r else (k, x) :: putF f v r).length ≤ _
    split
    · simp
    · have := putF_len f v r
      simp only [List.length_cons]
      omega
section
variable {g : Gx} {L : OLoc} {F0 H0 F H : Hp} {X : Cx} {ρ : Env} {z : Nat × List (Str × D)} {Pd : DEnds (Nat × List (Str × D))} {σ : L2.St} {e : Expr} {f x : Str} {pos p1 p2 : Pos} {post : D → (Nat × List (Str × D)) → Prop}
theorem ob_put {v : V} {z' : List (Str × D)} (r : RepS (obS g L) F0 H0 F H ρ z σ) (h : ∀ q ∈ z', (q ∈ z.2 ∧ q.1 ≠ f) ∨ (q.1 = f ∧ Is g F q.2 v)) : ∃ fs, H L.obj = some (.ins L.C L.dx fs) ∧ fs.length ≤ z.1 ∧ RepS (obS g L) F0 H0 F (upd H L.obj (.ins L.C L.dx (putF f v fs))) ρ (z.1 + 1, z') σ := by
  obtain ⟨fs, h1, h2, h3⟩ := r.r.zz
  refine ⟨fs, h1, h2, r.put (by simp) h1 (fun ps e => by cases e) (fun b q e => by cases e) ⟨_, upd_same, Nat.le_trans (putF_len f v fs) (Nat.succ_le_succ h2), fun q hq => ?_⟩⟩
  rcases h q hq with ⟨k1, k2⟩ | ⟨k1, k2⟩
  · obtain ⟨u, a, b⟩ := h3 q k1
    exact ⟨u, by rw [lookup_putF, if_neg k2]; exact a, b⟩
  · exact ⟨v, by rw [lookup_putF, if_pos k1], k2⟩
/-- self.f = e, a datum that is kept -/
theorem ds_fs (cl : Cls X.K L.C) (nf : NoAttr X.K L.C f) (h0 : ρ[0]? = some (.val (.ref L.obj))) (hN : X.N[0]? = some x) (hv : Vis X.env.scope x) (he : EW (obS g L) F0 H0 X e ρ z post) (hz : z.1 < 100) (hq : ∀ q ∈ z.2, q.1 ≠ f) (hk : ∀ d z', post d z' → z' = z) (n : ∀ d z', post d z' → Pd.nx ρ (z.1 + 1, (f, d) :: z.2))
    (hd : (x == ("__debug__" : Str)) = false := by decide) (hcd : (x == ("__classdict__" : Str)) = false := by decide) (hs : swapsWith e (some (.Attribute (.Name x p1) f p2)) pos.line X.env = pure false := by rfl) : DS (obS g L) F0 H0 X (.Assign [.Attribute (.Name x p1) f p2] e pos) ρ z Pd := by
  refine PS.wk (ps_fld (pe_var hN hv hd hcd) he hs) fun E σ H ⟨F, r, hn, _⟩ => ⟨F, r, fun d z' v F1 H1 hp r1 s1 iv => ?_⟩
  have ez := hk d z' hp
  subst ez
  obtain ⟨o, hs', ho⟩ := r1.e.at h0
  subst ho
  obtain ⟨fs, h1, h2, r2⟩ := ob_put (f := f) (v := v) (z' := (f, d) :: z'.2) r1 fun q hm => by
    rcases List.mem_cons.mp hm with rfl | hm
    · exact .inr ⟨rfl, iv⟩
    · exact .inl ⟨hm, hq q hm⟩
  exact ⟨.ref L.obj, hs', L.obj, L.C, L.dx, fs, rfl, h1, cl, nf, by omega, hn ρ _ σ F1 _ (n d z' hp) r2 s1⟩
/-- a datum, by a list of the fields that stand -/
theorem ds_fd {k : Nat} {l : List (Str × D)} {d : D} {ns : List Str} {Pd : DEnds (Nat × List (Str × D))} (cl : Cls X.K L.C) (nf : NoAttr X.K L.C f) (h0 : ρ[0]? = some (.val (.ref L.obj))) (hN : X.N[0]? = some x) (hv : Vis X.env.scope x) (he : DE g X e ρ d) (hl : l.map (·.1) = ns) (n : Pd.nx ρ (k + 1, (f, d) :: l)) (hz : k < 100 := by decide) (hq : f ∉ ns := by decide)
    (hd : (x == ("__debug__" : Str)) = false := by decide) (hcd : (x == ("__classdict__" : Str)) = false := by decide) (hs : swapsWith e (some (.Attribute (.Name x p1) f p2)) pos.line X.env = pure false := by rfl) : DS (obS g L) F0 H0 X (.Assign [.Attribute (.Name x p1) f p2] e pos) ρ (k, l) Pd :=
  ds_fs (post := fun d' z' => d' = d ∧ z' = (k, l)) cl nf h0 hN hv (ew_of he ⟨rfl, rfl⟩) hz (fun q hm e => hq (by rw [← hl, ← e]; exact List.mem_map.mpr ⟨q, hm, rfl⟩)) (fun d' z' h => h.2) (fun d' z' h => by rw [h.1]; exact n) hd hcd hs
/-- some value, the objects as they were -/
def tX (S : Sy g) (F0 H0 : Hp) (ρ : Env) (z : S.ζ) : TE := fun σ H Q => ∃ F, RepS S F0 H0 F H ρ z σ ∧ ∀ v F' H', RepS S F0 H0 F' H' ρ z σ → Sub F F' → Q v H'
/-- self.f = e, of which nothing is kept -/
theorem ds_fx (cl : Cls X.K L.C) (nf : NoAttr X.K L.C f) (h0 : ρ[0]? = some (.val (.ref L.obj))) (hN : X.N[0]? = some x) (hv : Vis X.env.scope x) (he : PE X e (tX (obS g L) F0 H0 ρ z)) (hz : z.1 < 100) (hq : ∀ q ∈ z.2, q.1 ≠ f) (n : Pd.nx ρ (z.1 + 1, z.2))
    (hd : (x == ("__debug__" : Str)) = false := by decide) (hcd : (x == ("__classdict__" : Str)) = false := by decide) (hs : swapsWith e (some (.Attribute (.Name x p1) f p2)) pos.line X.env = pure false := by rfl) : DS (obS g L) F0 H0 X (.Assign [.Attribute (.Name x p1) f p2] e pos) ρ z Pd := by
  refine PS.wk (ps_fld (pe_var hN hv hd hcd) he hs) fun E σ H ⟨F, r, hn, _⟩ => ⟨F, r, fun v F1 H1 r1 s1 => ?_⟩
  obtain ⟨o, hs', ho⟩ := r1.e.at h0
  subst ho
  obtain ⟨fs, h1, h2, r2⟩ := ob_put (f := f) (v := v) (z' := z.2) r1 fun q hm => .inl ⟨hm, hq q hm⟩
  exact ⟨.ref L.obj, hs', L.obj, L.C, L.dx, fs, rfl, h1, cl, nf, by omega, hn ρ _ σ F1 _ n r2 s1⟩
theorem ds_fy {k : Nat} {l : List (Str × D)} {ns : List Str} {Pd : DEnds (Nat × List (Str × D))} (cl : Cls X.K L.C) (nf : NoAttr X.K L.C f) (h0 : ρ[0]? = some (.val (.ref L.obj))) (hN : X.N[0]? = some x) (hv : Vis X.env.scope x) (he : PE X e (tX (obS g L) F0 H0 ρ (k, l))) (hl : l.map (·.1) = ns) (n : Pd.nx ρ (k + 1, l)) (hz : k < 100 := by decide) (hq : f ∉ ns := by decide)
    (hd : (x == ("__debug__" : Str)) = false := by decide) (hcd : (x == ("__classdict__" : Str)) = false := by decide) (hs : swapsWith e (some (.Attribute (.Name x p1) f p2)) pos.line X.env = pure false := by rfl) : DS (obS g L) F0 H0 X (.Assign [.Attribute (.Name x p1) f p2] e pos) ρ (k, l) Pd :=
  ds_fx cl nf h0 hN hv he hz (fun q hm e => hq (by rw [← hl, ← e]; exact List.mem_map.mpr ⟨q, hm, rfl⟩)) n hd hcd hs
theorem ex_ew {S : Sy g} {z : S.ζ} {post : D → S.ζ → Prop} (h : EW S F0 H0 X e ρ z post) (hk : ∀ d z', post d z' → z' = z) : PE X e (tX S F0 H0 ρ z) := PE.wk h fun σ H Q ⟨F, r, q⟩ => ⟨F, r, fun d z' v F' H' hp r' s' iv => by
  have := hk d z' hp
  subst this
  exact q v F' H' r' s'⟩
end
section
variable {g : Gx} {S : Sy g} {F0 H0 F H : Hp} {ρ : Env} {z : S.ζ} {σ : L2.St}
/-- an object of this frame that is neither frozen nor tracked changes -/
theorem RepS.free {a : Addr} {o o' : HO} (r : RepS S F0 H0 F H ρ z σ) (ha : a ∉ S.W) (hF : F a = none) (h0 : H0 a = none) (hH : H a = some o) (ho : ∀ ps, o ≠ .tbl ps) (hc : ∀ b q, o ≠ LamX.CodeO b q) (hown : ∀ sl ∈ ρ, ∀ xs, sl ≠ .own xs) : RepS S F0 H0 F (upd H a o') ρ z σ := by
  have nf : ∀ (b : Addr) (u : HO), F b = some u → b ≠ a := fun b u e q => by rw [q, hF] at e; cases e
  have bb : Base g F (upd H a o') := ⟨fun b u e => (upd_ne (nf b u e)).trans (r.e.base.sub b u e), r.e.base.noT, tabs_put r.e.base.tabs hH ho hc⟩
  refine ⟨⟨bb, r.e.len, fun i sl u h1 h2 => ?_⟩, ⟨bb, r.r.sub0, fun b u e n w => (upd_ne fun q => by rw [q, h0] at e; cases e).trans (r.r.extW b u e n w), fun b e => ?_, r.r.new0, r.r.wF, S.stab z F H F _ (Sub.refl F) (fun w hw => upd_ne fun q => ha (q ▸ hw)) r.r.zz⟩, r.own0, r.dist⟩
  · have q := r.e.slot i sl u h1 h2
    cases sl with
    | un => trivial
    | sh d => exact q
    | val v => exact q
    | pt v Fb => exact q
    | own xs => exact absurd rfl (hown _ (List.mem_of_getElem? h1) xs)
  · by_cases q : b = a
    · rw [q, upd_same] at e; cases e
    · rw [upd_ne q] at e; exact r.r.dom0 b e
theorem step_keep {F H F2 H2 : Hp} {a : Addr} {o : HO} (s : Step g F H F2 H2) (f : F a = none) (h : H a = some o) (n : ∀ ps, o ≠ .tbl ps) : F2 a = none ∧ H2 a = some o := by
  refine ⟨?_, s.ext a _ h n⟩
  cases hz : F2 a with
  | none => rfl
  | some u =>
    rcases s.new a u hz with q | q
    · rw [f] at q; cases q
    · rw [h] at q; cases q
end
end DL
end
section
/-! Data logic: self.f = {}; for .. in ..: self.f.setdefault(key, []).append(e). -/
namespace DL
open PySem PySem.Spec PyProof.Rows L2
/-- the dict at a field of the object, its values lists of this frame -/
def Gb (f : Str) (L : OLoc) (H0 F H : Hp) (n : Nat) : Prop := ∃ t kvs fs, H L.obj = some (.ins L.C L.dx fs) ∧ fs.lookup f = some (.ref t) ∧ F t = none ∧ H0 t = none ∧ H t = some (.dT kvs) ∧ kvs.length ≤ n ∧
  ∀ kv ∈ kvs, ∃ a vs, kv.2 = V.ref a ∧ H a = some (.lst vs) ∧ vs.length ≤ n ∧ F a = none ∧ H0 a = none
theorem Gb.step {g : Gx} {f : Str} {L : OLoc} {H0 F H F2 H2 : Hp} {n : Nat} (s : Step g F H F2 H2) (h : Gb f L H0 F H n) : Gb f L H0 F2 H2 n := by
  obtain ⟨t, kvs, fs, h1, h2, h3, h4, h5, h6, h7⟩ := h
  obtain ⟨a1, a2⟩ := step_keep s h3 h5 (fun ps e => by cases e)
  refine ⟨t, kvs, fs, s.ext _ _ h1 (fun ps e => by cases e), h2, a1, h4, a2, h6, fun kv hkv => ?_⟩
  obtain ⟨a, vs, k1, k2, k3, k4, k5⟩ := h7 kv hkv
  obtain ⟨b1, b2⟩ := step_keep s k4 k2 (fun ps e => by cases e)
  exact ⟨a, vs, k1, b2, k3, b1, k5⟩
theorem valV_mem {k : List L2.Key} {v : V} {kvs : List (List L2.Key × V)} (h : valV kvs k = some v) : ∃ kv ∈ kvs, kv.2 = v := by
  unfold valV at h
  obtain ⟨kv, h1, h2⟩ := Option.map_eq_some_iff.mp h
  exact ⟨kv, List.mem_of_find?_eq_some h1, h2⟩
theorem putK_mem {k : List L2.Key} {v : V} {kvs : List (List L2.Key × V)} {kv : List L2.Key × V} (h : kv ∈ putK kvs k v) : kv ∈ kvs ∨ kv.2 = v := by
  unfold putK at h
  split at h
  · obtain ⟨q, hq, rfl⟩ := List.mem_map.mp h
    by_cases e : q.1 = k
    · rw [if_pos e]; exact .inr rfl
    · rw [if_neg e]; exact .inl hq
  · rcases List.mem_append.mp h with h | h
    · exact .inl h
    · rw [List.mem_singleton.mp h]; exact .inr rfl
section
variable {g : Gx} {L : OLoc} {F0 H0 : Hp} {X : Cx} {ρ : Env} {z : Nat × List (Str × D)} {Pd : DEnds (Nat × List (Str × D))} {f : Str} {α : Type} {tg iter kx fx : Expr} {G : TG} {ts : List α} {mk : α → D} {pos p1 p2 p3 p4 p5 p6 p7 p8 p9 : Pos}
/-- the body of the loop, at one turn -/
theorem gb_turn {key : α → Nat × Str} {e : α → D} {as : α → List (Nat × D)} {I : Env → Prop} (cl : Cls X.K L.C) (nf : NoAttr X.K L.C f) (hu : X.A.units + 1 < cLine) (hN : X.N[0]? = some ("self" : Str)) (hv : Vis X.env.scope "self")
    (hI0 : ∀ ρ' t, t ∈ ts → I ρ' → (putD ρ' (as t))[0]? = some (.val (.ref L.obj)) ∧ (∀ sl ∈ putD ρ' (as t), ∀ xs, sl ≠ .own xs) ∧ DE g X kx (putD ρ' (as t)) (.tup [.int (key t).1, .str (key t).2]) ∧ DE g X fx (putD ρ' (as t)) (e t))
    (hb1 : attributeBase (.Name "self" p1) f X.env (eval (.Name "self" p1) X.env) = eval (.Name "self" p1) X.env := by rfl)
    (hb2 : attributeBase (.Attribute (.Name "self" p1) f p2) "setdefault" X.env (eval (.Attribute (.Name "self" p1) f p2) X.env) = eval (.Attribute (.Name "self" p1) f p2) X.env := by rfl)
    (hb3 : attributeBase (.Call (.Attribute (.Attribute (.Name "self" p1) f p2) "setdefault" p3) [kx, .List [] p4] [] p5) "append" X.env (eval (.Call (.Attribute (.Attribute (.Name "self" p1) f p2) "setdefault" p3) [kx, .List [] p4] [] p5) X.env) = eval (.Call (.Attribute (.Attribute (.Name "self" p1) f p2) "setdefault" p3) [kx, .List [] p4] [] p5) X.env := by rfl)
    (h1 : starEach [fx] X.env = (false, eval fx X.env) :: starEach [] X.env := by rfl) (h2 : starEach [kx, .List [] p4] X.env = (false, eval kx X.env) :: starEach [.List [] p4] X.env := by rfl)
    (h3 : starEach [.List [] p4] X.env = (false, eval (.List [] p4) X.env) :: starEach [] X.env := by rfl)
    (l1 : (p3.endLine == p5.line) = true := by rfl) (l2 : (p6.endLine == p7.line) = true := by rfl)
    (hs : swapsWith (.Call (.Attribute (.Call (.Attribute (.Attribute (.Name "self" p1) f p2) "setdefault" p3) [kx, .List [] p4] [] p5) "append" p6) [fx] [] p7) none p8.line X.env = pure false := by rfl)
    (f1 : ((backTo p5 (starEach [kx, .List [] p4] X.env)).all (fun x => !x.1) && (backToKw p5 (keywordEach [] X.env)).all (fun x => x.1.isSome) && decide ([kx, .List [] p4].length + ([] : List Keyword).length + (if ([] : List Keyword).isEmpty then 0 else 1) < 30)) = true := by rfl)
    (f2 : ((backTo p7 (starEach [fx] X.env)).all (fun x => !x.1) && (backToKw p7 (keywordEach [] X.env)).all (fun x => x.1.isSome) && decide ([fx].length + ([] : List Keyword).length + (if ([] : List Keyword).isEmpty then 0 else 1) < 30)) = true := by rfl)
    (g1 : (backTo p5 (starEach [.List [] p4] X.env)).any (·.1) = false := by rfl) (g2 : (backTo p7 (starEach [] X.env)).any (·.1) = false := by rfl) :
    PSs X [.Expr (.Call (.Attribute (.Call (.Attribute (.Attribute (.Name "self" p1) f p2) "setdefault" p3) [kx, .List [] p4] [] p5) "append" p6) [fx] [] p7) p8]
      (fun E σ H => ∃ t ρ' F n, t ∈ ts ∧ I ρ' ∧ n < 1000 ∧ RepS (obS g L) F0 H0 F H (putD ρ' (as t)) z σ ∧ Gb f L H0 F H n ∧
        ∀ F' H', RepS (obS g L) F0 H0 F' H' (putD ρ' (as t)) z σ → Sub F F' → Gb f L H0 F' H' (n + 1) → E.nx σ H') := by
  have pk : PE X kx (fun σ H Q => ∃ t ρ', t ∈ ts ∧ I ρ' ∧ tD g (putD ρ' (as t)) (.tup [.int (key t).1, .str (key t).2]) σ H Q) := ⟨fun pins s σ H Q J ⟨t, ρ', ht, hI, q⟩ => (hI0 ρ' t ht hI).2.2.1.run pins s σ H Q J q⟩
  have pf : PE X fx (fun σ H Q => ∃ t ρ', t ∈ ts ∧ I ρ' ∧ tD g (putD ρ' (as t)) (e t) σ H Q) := ⟨fun pins s σ H Q J ⟨t, ρ', ht, hI, q⟩ => (hI0 ρ' t ht hI).2.2.2.run pins s σ H Q J q⟩
  refine PSs.wk (pss_cons (ps_expr (pe_bm PySem.F.plainAttrs_list PySem.F.slot_list_append PySem.F.type_list_append mt_append
    (pe_bm PySem.F.plainAttrs_dict PySem.F.slot_dict_setdefault PySem.F.type_dict_setdefault (mt_setdT hu) (pe_fld (pe_var hN hv) hb1) (pa_cons pk (pa_cons (pe_lst pa_nil) pa_nil h3) h2) hb2 f1 l1 h2 g1)
    (pa_cons pf pa_nil h1) hb3 f2 l2 h1 g2) hs) pss_nil) fun E σ H ⟨t, ρ', F, n, ht, hI, hn, r, gb, q⟩ => ?_
  obtain ⟨e0, eown, _, _⟩ := hI0 ρ' t ht hI
  obtain ⟨o, hs', ho⟩ := r.e.at e0
  subst ho
  obtain ⟨d, kvs, fs, k1, k2, k3, k4, k5, k6, k7⟩ := gb
  refine ⟨.ref L.obj, hs', L.obj, L.C, L.dx, fs, .ref d, rfl, k1, cl, nf, k2, .inr (.inr (.inl ⟨rfl, .inr ⟨kvs, k5⟩⟩)), t, ρ', ht, hI, F, r.e, fun v F1 H1 s1 iv => ?_⟩
  obtain ⟨b, us, rfl, hb, al⟩ := iv
  have eus : us = [V.int (key t).1, V.str (key t).2] := by
    obtain ⟨v1, r1, rfl, i1, v2, r2, rfl, i2, rfl⟩ := al
    have e1 : v1 = .int (key t).1 := i1
    have e2 : v2 = .str (key t).2 := i2
    rw [e1, e2]
  subst eus
  have r1 := r.step s1
  have gb1 : Gb f L H0 F1 H1 n := Gb.step s1 ⟨d, kvs, fs, k1, k2, k3, k4, k5, k6, k7⟩
  refine ⟨by rw [sizeLine_eq]; simp, fun p hp => ?_⟩
  -- the new list
  have st2 := Step.alloc0 (o := .lst []) s1.base hp
  have r2 := r1.step st2
  have hb2' : upd H1 p (.lst []) b = some (.tup [V.int (key t).1, V.str (key t).2]) := st2.ext b _ (s1.base.sub b _ hb) (fun ps e => by cases e)
  have fp1 : F1 p = none := frozen_free s1.base hp
  have p0 : H0 p = none := r1.r.dom0 p hp
  obtain ⟨a1, a2⟩ := step_keep (s1.trans st2) k3 k5 (fun ps e => by cases e)
  have k1' : upd H1 p (.lst []) L.obj = some (.ins L.C L.dx fs) := st2.ext _ _ (s1.ext _ _ k1 (fun ps e => by cases e)) (fun ps e => by cases e)
  have dp : d ≠ p := fun e => by
    have := s1.ext _ _ k5 (fun ps e => by cases e)
    rw [e, hp] at this
    cases this
  have dobj : L.obj ≠ d := fun e => by
    rw [e] at k1
    rw [k1] at k5
    cases k5
  have vals2 : ∀ kv ∈ kvs, ∃ a vs, kv.2 = V.ref a ∧ upd H1 p (.lst []) a = some (.lst vs) ∧ vs.length ≤ n ∧ F1 a = none ∧ H0 a = none := fun kv hkv => by
    obtain ⟨a, vs, c1, c2, c3, c4, c5⟩ := k7 kv hkv
    obtain ⟨b1, b2⟩ := step_keep (s1.trans st2) c4 c2 (fun ps e => by cases e)
    exact ⟨a, vs, c1, b2, c3, b1, c5⟩
  -- what stands behind setdefault: a list at a, the dict at d
  have fin : ∀ (a : Addr) (vs : List V) (kvs2 : List (List L2.Key × V)) (H3 : Hp), RepS (obS g L) F0 H0 F1 H3 (putD ρ' (as t)) z σ → H3 a = some (.lst vs) → vs.length ≤ n → F1 a = none → H0 a = none → H3 L.obj = some (.ins L.C L.dx fs) → H3 d = some (.dT kvs2) → kvs2.length ≤ n + 1 →
      (∀ kv ∈ kvs2, ∃ a vs, kv.2 = V.ref a ∧ H3 a = some (.lst vs) ∧ vs.length ≤ n ∧ F1 a = none ∧ H0 a = none) →
      tyV X.K "list" (.ref a) H3 ∧ tCons (fun σ H Q => ∃ t ρ', t ∈ ts ∧ I ρ' ∧ tD g (putD ρ' (as t)) (e t) σ H Q) tNil σ H3 fun xs H2 => rAppend (.ref a) xs H2 fun _ H' => E.nx σ H' := by
    intro a vs kvs2 H3 r3 ha hvl hFa h0a hobj hd hkl hall
    refine ⟨.inl ⟨rfl, vs, SqL.of ha⟩, t, ρ', ht, hI, F1, r3.e, fun v F4 H4 s4 iv => ?_⟩
    obtain ⟨c1, c2⟩ := step_keep s4 hFa ha (fun ps e => by cases e)
    obtain ⟨d1, d2⟩ := step_keep s4 (show F1 d = none from a1) hd (fun ps e => by cases e)
    have o2 := s4.ext _ _ hobj (fun ps e => by cases e)
    have aobj : a ≠ L.obj := fun e => by rw [e, hobj] at ha; cases ha
    have ad : a ≠ d := fun e => by rw [e, hd] at ha; cases ha
    refine ⟨a, vs, v, rfl, rfl, c2, small1000 (by omega), ?_⟩
    have r4 := (r3.step s4).free (o' := .lst (vs ++ [v])) (by simpa using aobj) c1 h0a c2 (fun ps e => by cases e) (fun b q e => by cases e) eown
    refine q F4 _ r4 (s1.sub.trans s4.sub) ⟨d, kvs2, fs, (upd_ne fun e => aobj e.symm).trans o2, k2, d1, k4, (upd_ne fun e => ad e.symm).trans d2, hkl, fun kv hkv => ?_⟩
    obtain ⟨a', vs', m1, m2, m3, m4, m5⟩ := hall kv hkv
    by_cases e : a' = a
    · subst e
      rw [ha] at m2
      cases m2
      exact ⟨a', _, m1, upd_same, by simpa using m3, c1, m5⟩
    · obtain ⟨n1, n2⟩ := step_keep s4 m4 m2 (fun ps e => by cases e)
      exact ⟨a', vs', m1, (upd_ne e).trans n2, by omega, n1, m5⟩
  refine ⟨d, b, kvs, [.inl (key t).1, .inr (key t).2], .ref p, rfl, rfl, a2, hb2', small1000 (by omega), fun v hv' => ?_, fun hn' => ?_⟩
  · obtain ⟨kv, hkv, e⟩ := valV_mem hv'
    obtain ⟨a, vs, c1, c2, c3, c4, c5⟩ := vals2 kv hkv
    have ev : v = .ref a := e ▸ c1
    subst ev
    exact fin a vs kvs _ r2 c2 c3 c4 c5 k1' a2 (by omega) vals2
  · have pobj : L.obj ≠ p := fun e => by
      have := s1.ext _ _ k1 (fun ps e => by cases e)
      rw [e, hp] at this
      cases this
    have r3 := r2.free (o' := .dT (putK kvs [.inl (key t).1, .inr (key t).2] (.ref p))) (by simpa using fun e : d = L.obj => dobj e.symm) a1 k4 a2 (fun ps e => by cases e) (fun b q e => by cases e) eown
    refine fin p [] (putK kvs [.inl (key t).1, .inr (key t).2] (.ref p)) _ r3 ((upd_ne fun e => dp e.symm).trans upd_same) (Nat.zero_le _) fp1 p0 ((upd_ne dobj).trans k1') upd_same (by have := length_putK kvs [.inl (key t).1, .inr (key t).2] (V.ref p); omega) fun kv hkv => ?_
    rcases putK_mem hkv with m | m
    · obtain ⟨a, vs, c1, c2, c3, c4, c5⟩ := vals2 kv m
      exact ⟨a, vs, c1, (upd_ne fun e => by rw [e, a2] at c2; cases c2).trans c2, c3, c4, c5⟩
    · exact ⟨p, [], m, (upd_ne fun e => dp e.symm).trans upd_same, Nat.zero_le _, fp1, p0⟩
theorem dss_gb {key : α → Nat × Str} {e : α → D} {as : α → List (Nat × D)} {I : Env → Prop} {q1 q2 q3 q4 q5 : Pos} (hp : PassesOwn (model X.prog X.w) X.A X.env X.xe) (hc : X.calm = true) (cl : Cls X.K L.C) (nf : NoAttr X.K L.C f) (hu : X.A.units + 1 < cLine) (hN : X.N[0]? = some ("self" : Str)) (hv : Vis X.env.scope "self")
    (hi : DI g X tg iter ρ (ts.map mk)) (hg : PG X tg G) (ht : ∀ t ∈ ts, Tgt g G (mk t) (as t)) (hz : z.1 < 100) (hq : ∀ q ∈ z.2, q.1 ≠ f) (hl : ts.length < 1000) (h0 : ρ[0]? = some (.val (.ref L.obj))) (hI : I ρ) (hIs : ∀ ρ' t, t ∈ ts → I ρ' → I (putD ρ' (as t)))
    (hI0 : ∀ ρ' t, t ∈ ts → I ρ' → (putD ρ' (as t))[0]? = some (.val (.ref L.obj)) ∧ (∀ sl ∈ putD ρ' (as t), ∀ xs, sl ≠ .own xs) ∧ DE g X kx (putD ρ' (as t)) (.tup [.int (key t).1, .str (key t).2]) ∧ DE g X fx (putD ρ' (as t)) (e t))
    (n : ∀ ρ' z', I ρ' → Pd.nx ρ' z')
    (hb : PSs X [.Expr (.Call (.Attribute (.Call (.Attribute (.Attribute (.Name "self" p1) f p2) "setdefault" p3) [kx, .List [] p4] [] p5) "append" p6) [fx] [] p7) p8]
      (fun E σ H => ∃ t ρ' F n, t ∈ ts ∧ I ρ' ∧ n < 1000 ∧ RepS (obS g L) F0 H0 F H (putD ρ' (as t)) (z.1 + 1, z.2) σ ∧ Gb f L H0 F H n ∧
        ∀ F' H', RepS (obS g L) F0 H0 F' H' (putD ρ' (as t)) (z.1 + 1, z.2) σ → Sub F F' → Gb f L H0 F' H' (n + 1) → E.nx σ H'))
    (hs : swapsWith (.Dict [] [] q3) (some (.Attribute (.Name "self" q1) f q2)) q4.line X.env = pure false := by rfl) (hf : ∀ x, foldedSetIterable iter X.env x = pure x := by intro _; rfl) :
    DSs (obS g L) F0 H0 X [.Assign [.Attribute (.Name "self" q1) f q2] (.Dict [] [] q3) q4, .For tg iter [.Expr (.Call (.Attribute (.Call (.Attribute (.Attribute (.Name "self" p1) f p2) "setdefault" p3) [kx, .List [] p4] [] p5) "append" p6) [fx] [] p7) p8] [] q5] ρ z Pd := by
  refine PSs.wk (pss_cons (ps_fld (pe_var hN hv) pe_dnewT hs) (pss_cons (ps_for hp hc hi hg hb hf) pss_nil)) fun E σ H ⟨F, r, hn, _⟩ => ?_
  intro p hpn
  obtain ⟨o, hs', ho⟩ := r.e.at h0
  subst ho
  have st := Step.alloc0 (o := .dT []) r.e.base hpn
  have r1 := r.step st
  obtain ⟨fs, k1, k2, r2⟩ := ob_put (f := f) (v := .ref p) (z' := z.2) r1 fun q hm => .inl ⟨hm, hq q hm⟩
  have ne : p ≠ L.obj := fun e => by rw [e, upd_same] at k1; cases k1
  refine ⟨.ref L.obj, hs', L.obj, L.C, L.dx, fs, rfl, k1, cl, nf, by omega, ?_⟩
  have gb : Gb f L H0 F (upd (upd H p (.dT [])) L.obj (.ins L.C L.dx (putF f (.ref p) fs))) 0 :=
    ⟨p, [], _, upd_same, by rw [lookup_putF, if_pos rfl], frozen_free r.e.base hpn, r.r.dom0 p hpn, (upd_ne ne).trans upd_same, Nat.le_refl 0, fun kv hkv => (by cases hkv)⟩
  refine ⟨F, r2.e, fun F3 H3 J s3 gv => ⟨fun i m σ' H' => m = ts.length - i ∧ i ≤ ts.length ∧ ∃ ρ' F', I ρ' ∧ RepS (obS g L) F0 H0 F' H' ρ' (z.1 + 1, z.2) σ' ∧ Sub F3 F' ∧ Gb f L H0 F' H' i, ⟨_, rfl, Nat.zero_le _, ρ, F3, hI, r2.step s3, Sub.refl F3, Gb.step s3 gb⟩, ?_⟩⟩
  rintro i m σ' H' ⟨rfl, hil, ρ', F', hI', r', s', gb'⟩
  obtain ⟨g1, g2⟩ := gv i F' H' r'.e.base s'
  by_cases hlt : i < ts.length
  · have hti : ts[i]? = some ts[i] := List.getElem?_eq_getElem hlt
    have hmem := List.getElem_mem hlt
    obtain ⟨ggo, gy⟩ := g1 (mk ts[i]) (by rw [List.getElem?_map, hti]; rfl)
    refine .inr ⟨ggo, fun σ2 H3 => ∃ ρ' F', I ρ' ∧ RepS (obS g L) F0 H0 F' H3 ρ' (z.1 + 1, z.2) σ2 ∧ Sub F3 F' ∧ Gb f L H0 F' H3 (i + 1), fun σ2 H3 ⟨ρ2, F4, c1, c2, c3, c4⟩ => ⟨_, by omega, rfl, hlt, ρ2, F4, c1, c2, c3, c4⟩, fun x H4 hy => ?_⟩
    obtain ⟨F4, s4, ix⟩ := gy x H4 hy
    refine ht ts[i] hmem F4 H4 x σ' s4.base ix _ fun vs al => ?_
    refine ⟨ts[i], ρ', F4, i, hmem, hI', by omega, (r'.step s4).puts al, Gb.step s4 gb', fun F5 H5 r5 s5 gb5 => ?_⟩
    exact ⟨putD ρ' (as ts[i]), F5, hIs ρ' _ hmem hI', r5, (s'.trans s4.sub).trans s5, gb5⟩
  · have e : i = ts.length := by omega
    subst e
    exact .inl ⟨g2 (by rw [List.length_map]), hn ρ' _ σ' F' H' (n ρ' _ hI') r' (s3.sub.trans s')⟩
end
end DL
end
section
/-! Data logic: some new value; a dict comprehension with tuple keys; an object made. -/
namespace DL
open PySem PySem.Spec PyProof.Rows L2
section
variable {g : Gx} {F H F4 H4 : Hp}
theorem Step.new_mut {D : Addr} {o o' : HO} (st : Step g F H F4 H4) (hn : H D = none) (k1 : F4 D = none) (k2 : H4 D = some o) (ho : ∀ ps, o ≠ .tbl ps) (hc : ∀ b q, o ≠ LamX.CodeO b q) : Step g F H F4 (upd H4 D o') :=
  ⟨st.sub, ⟨fun c u z => (upd_ne fun w => by rw [w, k1] at z; cases z).trans (st.base.sub c u z), st.base.noT, tabs_put st.base.tabs k2 ho hc⟩,
    fun c u z n => (upd_ne fun w => by rw [w, hn] at z; cases z).trans (st.ext c u z n), fun c z => by
      by_cases w : c = D
      · rw [w]; exact hn
      · rw [upd_ne w] at z; exact st.dom c z, st.new⟩
/-- some value -/
def tU (g : Gx) (ρ : Env) : TE := fun σ H Q => ∃ F, RepE g F H ρ σ ∧ ∀ v F2 H2, Step g F H F2 H2 → Q v H2
theorem ex_u {S : Sy g} {F0 H0 : Hp} {X : Cx} {ρ : Env} {z : S.ζ} {e : Expr} (h : PE X e (tU g ρ)) : PE X e (tX S F0 H0 ρ z) := PE.wk h fun σ H Q ⟨F, r, q⟩ => ⟨F, r.e, fun v F2 H2 s => q v F2 H2 (r.step s) s.sub⟩
theorem pu_dnewK {X : Cx} {ρ : Env} {pos : Pos} : PE X (.Dict [] [] pos) (tU g ρ) := PE.wk pe_dnewK fun σ H Q ⟨F, r, q⟩ p hp => q _ F _ (Step.alloc0 r.base hp)
end
section
variable {g : Gx} {X : Cx} {ρ : Env} {α : Type} {kx vx tg iter : Expr} {scope : Scope} {own : List (Str × Nat)} {pos : Pos} {G : TG} {ts : List α} {mk : α → D}
/-- {key: value for target in iter}, the keys pairs of an int and a text -/
theorem pu_dcT {key : α → Nat × Str} {e : α → D} {as : α → List (Nat × D)} (hu : X.A.units < cLine) (hc : X.calm = true) (hN : X.N.Nodup) (hi : DI g X tg iter ρ (ts.map mk)) (ok : BlkOk X.N X.env.scope scope own)
    (ht : ∀ t ∈ ts, Tgt g G (mk t) (as t)) (hj : ∀ t ∈ ts, ∀ j ∈ (as t).map (·.1), j ∈ own.map (·.2))
    (hg : ∀ s H C cl fp, PG (X.blk s H scope (compEnvC scope cl C X.env) fp) tg G)
    (hk : ∀ s H C cl fp, ∀ t ∈ ts, DE g (X.blk s H scope (compEnvC scope cl C X.env) fp) kx (putD (wipeD ρ (own.map (·.2))) (as t)) (.tup [.int (key t).1, .str (key t).2]))
    (hv : ∀ s H C cl fp, ∀ t ∈ ts, DE g (X.blk s H scope (compEnvC scope cl C X.env) fp) vx (putD (wipeD ρ (own.map (·.2))) (as t)) (e t)) (hl : ts.length < 1000)
    (hf : ∀ x, foldedSetIterable iter X.env x = pure x := by intro _; rfl) : PE X (.DictComp kx vx [⟨tg, iter, [], 0⟩] scope pos) (tU g ρ) := by
  refine PE.wk (pe_dcT hu hc hN hi ok hg (tk := fun σ H Q => ∃ t ∈ ts, tD g (putD (wipeD ρ (own.map (·.2))) (as t)) (.tup [.int (key t).1, .str (key t).2]) σ H Q) (fun s H C cl fp => ⟨fun pins s1 σ H1 Q I ⟨t, ht, q⟩ => (hk s H C cl fp t ht).run pins s1 σ H1 Q I q⟩)
    (tv := fun σ H Q => ∃ t ∈ ts, tD g (putD (wipeD ρ (own.map (·.2))) (as t)) (e t) σ H Q) (fun s H C cl fp => ⟨fun pins s1 σ H1 Q I ⟨t, ht, q⟩ => (hv s H C cl fp t ht).run pins s1 σ H1 Q I q⟩) hf) fun σ H Q ⟨F, rp, q⟩ => ?_
  refine ⟨F, rp, fun F1 H1 J s1 gv D hD => ?_⟩
  have f1 : F1 D = none := frozen_free s1.base hD
  have st0 := Step.alloc0 (o := .dT []) s1.base hD
  have hn : H D = none := s1.dom D hD
  refine ⟨fun i m H' => m = ts.length - i ∧ i ≤ ts.length ∧ ∃ F' kvs, Step g F H F' H' ∧ Sub F1 F' ∧ F' D = none ∧ H' D = some (.dT kvs) ∧ kvs.length ≤ i,
    ⟨_, rfl, Nat.zero_le _, F1, [], s1.trans st0, Sub.refl _, f1, upd_same, Nat.le_refl 0⟩, ?_⟩
  rintro i m H' ⟨rfl, hil, F', kvs, s', sb, f', hd, hkl⟩
  obtain ⟨g1, g2⟩ := gv i F' H' s'.base sb
  by_cases hlt : i < ts.length
  · have hti : ts[i]? = some ts[i] := List.getElem?_eq_getElem hlt
    have hm : ts[i] ∈ ts := List.getElem_mem hlt
    obtain ⟨ggo, gy⟩ := g1 (mk ts[i]) (by rw [List.getElem?_map, hti]; rfl)
    refine .inr ⟨ggo, fun x H2 hy => ?_⟩
    obtain ⟨F2, s2, ix⟩ := gy x H2 hy
    refine ht _ hm F2 H2 x _ s2.base ix _ fun ws alw => ⟨wipe_put (hj _ hm), ?_⟩
    have rp2 : RepE g F2 H2 (putD (wipeD ρ (own.map (·.2))) (as ts[i])) (putV (wipe σ (own.map (·.2))) ((as ts[i]).map (·.1)) ws) := (((rp.step s').step s2).wipes _).puts alw
    refine ⟨ts[i], hm, F2, rp2, fun y F3 H3 s3 iy => ⟨ts[i], hm, F3, rp2.step s3, fun w F4 H4 s4 iw => ?_⟩⟩
    obtain ⟨b, us, rfl, hb, al⟩ := iy
    have eus : us = [V.int (key ts[i]).1, V.str (key ts[i]).2] := by
      obtain ⟨v1, r1, rfl, i1, v2, r2, rfl, i2, rfl⟩ := al
      have e1 : v1 = .int (key ts[i]).1 := i1
      have e2 : v2 = .str (key ts[i]).2 := i2
      rw [e1, e2]
    subst eus
    have hb4 : H4 b = some (.tup [V.int (key ts[i]).1, V.str (key ts[i]).2]) := s4.ext b _ (s3.base.sub b _ hb) (fun ps e => by cases e)
    obtain ⟨k1, k2⟩ := step_keep ((s2.trans s3).trans s4) f' hd (fun ps e => by cases e)
    refine ⟨kvs, [.inl (key ts[i]).1, .inr (key ts[i]).2], b, rfl, hb4, k2, small1000 (by omega), _, ?_, rfl, hlt, F4, _, Step.new_mut (((s'.trans s2).trans s3).trans s4) hn k1 k2 (fun ps e => by cases e) (fun b q e => by cases e), (sb.trans s2.sub).trans (s3.sub.trans s4.sub), k1, upd_same, ?_⟩
    · omega
    · have := length_putK kvs [.inl (key ts[i]).1, .inr (key ts[i]).2] w
      omega
  · have ei : i = ts.length := by omega
    exact .inl ⟨g2 (by rw [List.length_map]; exact ei), q _ F' H' s'⟩
end
/-! ### an object is made -/
def tOb (g : Gx) (C : Addr) (ρ : Env) (post : Nat × List (Str × D) → Prop) : TE := fun σ H Q => ∃ F, RepE g F H ρ σ ∧ ∀ (L : OLoc) (z' : Nat × List (Str × D)) F' H', L.C = C → Step g F H F' H' → H L.obj = none → F' L.obj = none → (obS g L).Z z' F' H' → post z' → Q (.ref L.obj) H'
section
variable {g : Gx} {X : Cx} {ρ : Env} {C f : Addr} {fd : FuncData} {k : Nat} {ps : List Str} {x : Str} {e : Expr} {es : List Expr} {p pos : Pos} {ds : List D} {Pre : (L : OLoc) → List D → Nat × List (Str × D) → Prop} {Post : (L : OLoc) → List D → Nat × List (Str × D) → D → Nat × List (Str × D) → Prop} {post : Nat × List (Str × D) → Prop}
theorem pe_ob (M : Mk X.K C f) (Fn : FnOk X.prog X.w X.K X.mg X.base CX0 k f fd ps (spF (obS g) (fun L => .ref L.obj) Pre Post)) (hr : Room (k + 1) X.A) (hg : Gl X x) (hm : X.mg x = some (.ref C)) (hb : L2.Binds X.K fd ps []) (ha : DA g X (e :: es) ρ ds)
    (hP : ∀ L : OLoc, L.C = C → Pre L ds (0, [])) (hQ : ∀ L z' d, Post L ds (0, []) d z' → d = .non ∧ post z') (hdb : (x == ("__debug__" : Str)) = false := by decide) (he : starEach (e :: es) X.env = (false, eval e X.env) :: starEach es X.env := by rfl) (hpl : (backTo pos (starEach es X.env)).any (·.1) = false := by rfl) :
    PE X (.Call (.Name x p) (e :: es) [] pos) (tOb g C ρ post) := by
  refine PE.wk (pe_make M Fn hr hg hm hb .nil pass0 ha hdb he hpl) fun σ H Q ⟨F, r, q⟩ => ⟨F, r, fun vs F1 H1 s1 al => ?_⟩
  intro a dx ha' hdx hne
  show spF (obS g) (fun L => .ref L.obj) Pre Post (.ref a :: (vs ++ [])) _ _ _
  rw [List.append_nil]
  have sa := Step.alloc0 (o := .own a) s1.base hdx
  have ha2 : upd H1 dx (.own a) a = none := (upd_ne fun e => hne e.symm).trans ha'
  have sb := Step.alloc0 (o := .ins C dx []) sa.base ha2
  have fa : F1 a = none := frozen_free s1.base ha'
  refine ⟨⟨C, a, dx⟩, F1, (0, []), ds, vs, sb.base, rfl, al, fun w hw => by rw [List.mem_singleton.mp hw]; exact fa, ⟨[], upd_same, Nat.le_refl 0, fun q hq => by cases hq⟩, hP _ rfl, fun d z' v F' H' hp ret iv => ?_⟩
  obtain ⟨rfl, hpost⟩ := hQ _ _ _ hp
  refine ⟨iv, ?_⟩
  have st : Step g F1 H1 F' H' := (RetS.shift (sa.trans sb) (fun w hw => by rw [List.mem_singleton.mp hw]; exact ha') ret).plain
  exact q ⟨C, a, dx⟩ z' F' H' rfl (s1.trans st) (s1.dom _ ha') (ret.wF _ (by simp)) ret.zz hpost
theorem pu_ob (h : PE X e (tOb g C ρ post)) : PE X e (tU g ρ) := PE.wk h fun σ H Q ⟨F, r, q⟩ => ⟨F, r, fun L z' F' H' _ s _ _ _ _ => q _ F' H' s⟩
/-- a format -/
theorem de_fm {n : Int} {ms es' : D} (h : PE X e (tOb g g.C ρ post)) (hp : ∀ z', post z' → (("size" : Str), D.int n) ∈ z'.2 ∧ (("moves" : Str), ms) ∈ z'.2 ∧ (("ends" : Str), es') ∈ z'.2) : DE g X e ρ (.fm n ms es') := PE.wk h fun σ H Q ⟨F, r, q⟩ => ⟨F, r, fun L z' F' H' hC s hn hf zz hpost => by
  obtain ⟨fs, h1, h2, h3⟩ := zz
  obtain ⟨p1, p2, p3⟩ := hp z' hpost
  obtain ⟨v1, a1, b1⟩ := h3 _ p1
  obtain ⟨v2, a2, b2⟩ := h3 _ p2
  obtain ⟨v3, a3, b3⟩ := h3 _ p3
  have e1 : v1 = .int n := b1
  subst e1
  have sf := Step.freeze s.base s hn h1 (fun ps e => by cases e) hf
  have sub : Sub F' (upd F' L.obj (.ins L.C L.dx fs)) := fun b u e => (upd_ne (ne_of_none e hf)).trans e
  refine q _ _ H' sf ⟨L.obj, L.dx, fs, v2, v3, rfl, by rw [← hC]; exact upd_same, a1, a2, Is.mono sub _ _ b2, a3, Is.mono sub _ _ b3⟩⟩
end
end DL
end
section
/-! What the program's functions compute, in plain Lean. -/
namespace K19
def sumN (f : Nat → Int) : Nat → Int
  | 0 => 0
  | n + 1 => sumN f n + f n
def seqUp (a : Nat → Int) (n : Nat) : List Int := (List.range n).map a
/-! ### relations -/
def gcdL (ns : List Int) : Nat := ns.foldl (fun s n => Int.gcd s n) 0
def light (cs ps : List Int) : List Int × List Int :=
  if gcdL (cs ++ ps) < 2 then (cs, ps) else (cs.map fun n => n / (gcdL (cs ++ ps) : Nat), ps.map fun n => n / (gcdL (cs ++ ps) : Nat))
def placeFrom (i : Nat) : List Int → Option Nat
  | [] => none
  | n :: ns => if n = 0 then placeFrom (i + 1) ns else some i
def placeOf (cs : List Int) : Option Nat := placeFrom 0 cs
/-- one known column: its place, itself, its parts -/
abbrev Known := Nat × List Int × List Int
def comb (top lead : Int) (xs ys : List Int) : List Int := (xs.zip ys).map fun q => q.1 * top - lead * q.2
def putOne (st : List Int × List Int) (k : Known) : List Int × List Int :=
  if st.1.getD k.1 0 = 0 then st else
    light (comb (k.2.1.getD k.1 0) (st.1.getD k.1 0) st.1 k.2.1) (comb (k.2.1.getD k.1 0) (st.1.getD k.1 0) st.2 (k.2.2 ++ List.replicate (st.2.length - k.2.2.length) 0))
def reduce (free : List Known) (col : List Int) : List Int × List Int := free.foldl putOne (col, List.replicate free.length 0 ++ [1])
/-! ### rules -/
abbrev Rule := List Int × List Int
/-- what next_term gives -/
def nextTerm (known factors : List Int) : Int := sumN (fun b => factors.getD b 0 * known.getD (known.length - 1 - b) 0) factors.length
/-- the rule tells the sequence -/
structure Gen (r : Rule) (a : Nat → Int) : Prop where
  len : r.1.length = r.2.length
  fst : r.1 = seqUp a r.2.length
  step : ∀ n, a (n + r.2.length) = sumN (fun b => r.2.getD b 0 * a (n + r.2.length - 1 - b)) r.2.length
/-- c applied to a at n -/
def act : List Int → (Nat → Int) → Nat → Int
  | [], _, _ => 0
  | x :: c, a, n => x * a n + act c a (n + 1)
/-- C is the turned list of a relation of order k -/
def RelF (a : Nat → Int) (k : Nat) (C : Nat → Int) : Prop := (∀ n, k < n → C n = 0) ∧ ∀ n, k ≤ n → sumN (fun i => C i * a (n - i)) (n + 1) = 0
/-- the shortest rule -/
structure Least (r : Rule) (a : Nat → Int) : Prop where
  gen : Gen r a
  ind : ∀ j, j < r.2.length → ∀ C, RelF a j C → ∀ n, C n = 0
/-- a monic relation of order m -/
def Ann (a : Nat → Int) (m : Nat) : Prop := ∃ Q : Nat → Int, Q 0 = 1 ∧ RelF a m Q
/-- small terms -/
def Sm (k : Nat) (a : Nat → Int) : Prop := ∀ n, n < 13 → (a n).natAbs < 2 ^ k
/-! ### rows -/
structure Fm where
  size : Nat
  moves : List (Nat × Nat × Nat)
  ends : List Nat
def firstLayer (w : Fm) : List Int := (List.range w.size).map fun i => if i ∈ w.ends then 1 else 0
def nextStep (l : List Int) (f : List Int) (m : Nat × Nat × Nat) : List Int := f.set m.1 (f.getD m.1 0 + l.getD m.2.2 0)
def nextLayer (w : Fm) (l : List Int) : List Int := w.moves.foldl (nextStep l) (List.replicate w.size 0)
def layerAt (w : Fm) : Nat → List Int
  | 0 => firstLayer w
  | n + 1 => nextLayer w (layerAt w n)
def cnt (w : Fm) (s n : Nat) : Int := (layerAt w n).getD s 0
structure Fm.Ok (w : Fm) : Prop where
  pos : 0 < w.size
  big : w.size ≤ 6
  near : ∀ m ∈ w.moves, m.1 < w.size
  far : ∀ m ∈ w.moves, m.2.2 < w.size
  ends : ∀ e ∈ w.ends, e < w.size
  few : w.moves.length ≤ 50
  fewE : w.ends.length ≤ 6
  deg : ∀ s, (w.moves.filter fun m => m.1 == s).length ≤ 3
/-! ### rules from rules -/
def addS (a b : Nat → Int) : Nat → Int := fun n => a n + b n
def subS (a b : Nat → Int) : Nat → Int := fun n => a n - b n
def metS (a b : Nat → Int) : Nat → Int := fun n => sumN (fun i => a i * b (n - i)) (n + 1)
def accS (a : Nat → Int) : Nat → Int := fun n => sumN a (n + 1)
/-! ### what the defs compute -/
def obeysB (m : Fm) (r : Rule) : Bool := decide (seqUp (cnt m 0) r.2.length = r.1) && (List.range m.size).all fun i => decide (nextTerm (seqUp (cnt m 0) (r.2.length + i)) r.2 = cnt m 0 (r.2.length + i))
def addAt (u : Int) (f : List Int) (i : Nat) (v : Int) : List Int := f.set i ((f.getD i 0 + v) % u)
def stepF (u last : Int) (fs : List Int) (f : List Int) (b : Nat) : List Int := addAt u f (fs.length - 1 - b) (last * fs.getD b 0)
def stepL (rest fs : List Int) (u : Int) : List Int := (List.range fs.length).foldl (stepF u (rest.getLastD 0) fs) (0 :: rest.dropLast)
def mulF (u x : Int) (other : List Int) (i : Nat) (f : List Int) (j : Nat) : List Int := addAt u f (i + j) (x * other.getD j 0)
def mulR (u : Int) (one other : List Int) (f : List Int) (i : Nat) : List Int := (List.range other.length).foldl (mulF u (one.getD i 0) other i) f
def redF (u : Int) (fs : List Int) (t : Nat) (f : List Int) (b : Nat) : List Int := addAt u f (t - 1 - b) (f.getD t 0 * fs.getD b 0)
def redR (u : Int) (fs : List Int) (f : List Int) (i : Nat) : List Int := (List.range fs.length).foldl (redF u fs (2 * fs.length - 2 - i)) f
def timesL (one other fs : List Int) (u : Int) : List Int :=
  ((List.range (fs.length - 1)).foldl (redR u fs) ((List.range one.length).foldl (mulR u one other) (List.replicate (2 * fs.length - 1) 0))).take fs.length
def figsLow : Nat → Nat → List Nat
  | 0, _ => []
  | k + 1, n => if n = 0 then [] else n % 2 :: figsLow k (n / 2)
def figs (n : Nat) : List Nat := (figsLow n n).reverse
def figStep (fs : List Int) (u : Int) (rest : List Int) (g : Nat) : List Int := if g = 1 then stepL (timesL rest rest fs u) fs u else timesL rest rest fs u
def restL (fs : List Int) (idx : Nat) (u : Int) : List Int := (figs idx).foldl (figStep fs u) (1 % u :: List.replicate (fs.length - 1) 0)
def termL (r : Rule) (idx : Nat) (u : Int) : Int := if r.2 = [] then 0 else sumN (fun i => (restL r.2 idx u).getD i 0 * r.1.getD i 0) r.2.length % u
def Res (u : Int) (f : List Int) : Prop := ∀ x ∈ f, 0 ≤ x ∧ x < u
def shiftM (by_ : Nat) (m : Nat × Nat × Nat) : Nat × Nat × Nat := (m.1 + by_, m.2.1, m.2.2 + by_)
def behindRaw (n f : Fm) : List (Nat × Nat × Nat) :=
  n.moves ++ f.moves.map (shiftM n.size) ++ n.ends.flatMap fun s => (f.moves.filter fun m => m.1 == 0).map fun m => (s, m.2.1, m.2.2 + n.size)
def behindEnds (n f : Fm) : List Nat := if 0 ∈ f.ends then n.ends ++ f.ends.map (· + n.size) else f.ends.map (· + n.size)
def besideRaw (n f : Fm) : List (Nat × Nat × Nat) :=
  ((n.moves.filter fun m => m.1 == 0).map fun m => (0, m.2.1, m.2.2 + 1)) ++ ((f.moves.filter fun m => m.1 == 0).map fun m => (0, m.2.1, m.2.2 + 1 + n.size)) ++ n.moves.map (shiftM 1) ++ f.moves.map (shiftM (1 + n.size))
def besideEnds (n f : Fm) : List Nat := (if 0 ∈ n.ends ∨ 0 ∈ f.ends then [0] else []) ++ (n.ends.map (· + 1) ++ f.ends.map (· + 1 + n.size))
/-- moves drawn so far: states below k, and at k the first j signs -/
structure MOk (size : Nat) (cs : List Nat) (k j : Nat) (M : List (Nat × Nat × Nat)) : Prop where
  at_ : ∀ x ∈ M, (x.1 < k ∧ x.2.1 ∈ cs) ∨ (x.1 = k ∧ x.2.1 ∈ cs.take j)
  to_ : ∀ x ∈ M, x.2.2 < size
  up : M.Pairwise fun a b => a.1 < b.1 ∨ (a.1 = b.1 ∧ a.2.1 < b.2.1)
  len : M.length ≤ 2 * k + j
def unlike (m1 m2 : Fm) : Option Nat := (List.range (m1.size + m2.size)).find? fun i => !decide (cnt m1 0 i = cnt m2 0 i)
/-! ### elimination: what the walk asks -/
def Sml (l : List Int) : Prop := ∀ x ∈ l, x.natAbs < 2 ^ 3999
def stAt (free : List Known) (ns : List Int) (k : Nat) : List Int × List Int := (free.take k).foldl putOne (ns, List.replicate free.length 0 ++ [1])
structure PutPre (free : List Known) (many : Nat) (ns : List Int) : Prop where
  cnt : many = free.length
  few : free.length ≤ 10
  len : ns.length ≤ 10
  kl : ∀ k ∈ free, k.1 < ns.length ∧ k.2.1.length = ns.length ∧ k.2.2.length ≤ free.length
  sk : ∀ k ∈ free, Sml k.2.1 ∧ Sml k.2.2
  st : ∀ k, k ≤ free.length → Sml (stAt free ns k).1 ∧ Sml (stAt free ns k).2
def colAt (a : Nat → Int) (m k : Nat) : List Int := (List.range m).map fun i => a (k + i)
def frees (a : Nat → Int) (m : Nat) : Nat → List Known
  | 0 => []
  | k + 1 => frees a m k ++ [((placeOf (reduce (frees a m k) (colAt a m k)).1).getD 0, reduce (frees a m k) (colAt a m k))]
/-- what the elimination does with these terms: all that the walk asks -/
structure ElimOk (a : Nat → Int) (m : Nat) (r : Rule) : Prop where
  le : r.2.length ≤ m
  up : ∀ k, k < r.2.length → ∃ p, placeOf (reduce (frees a m k) (colAt a m k)).1 = some p
  last : placeOf (reduce (frees a m r.2.length) (colAt a m r.2.length)).1 = none
  pre : ∀ k, k ≤ r.2.length → PutPre (frees a m k) k (colAt a m k)
  unit : (reduce (frees a m r.2.length) (colAt a m r.2.length)).2.getD r.2.length 0 = 1 ∨ (reduce (frees a m r.2.length) (colAt a m r.2.length)).2.getD r.2.length 0 = -1
  plen : (reduce (frees a m r.2.length) (colAt a m r.2.length)).2.length = r.2.length + 1
  facs : r.2 = (((reduce (frees a m r.2.length) (colAt a m r.2.length)).2.take r.2.length).map fun n => (-n).fdiv ((reduce (frees a m r.2.length) (colAt a m r.2.length)).2.getD r.2.length 0)).reverse
  fst : r.1 = seqUp a r.2.length
end K19
end
section
/-! Sums, power series over the integers. -/
namespace KM
open K19
theorem sumN_eq {f h : Nat → Int} : ∀ {n : Nat}, (∀ i, i < n → f i = h i) → sumN f n = sumN h n
  | 0, _ => rfl
  | n + 1, e => by rw [sumN, sumN, sumN_eq fun i hi => e i (by omega), e n (by omega)]
theorem sumN_zero {f : Nat → Int} {n : Nat} (h : ∀ i, i < n → f i = 0) : sumN f n = 0 := by
  induction n with
  | zero => rfl
  | succ n ih => rw [sumN, ih fun i hi => h i (by omega), h n (by omega)]; rfl
theorem sumN_add (f h : Nat → Int) (n : Nat) : sumN (fun i => f i + h i) n = sumN f n + sumN h n := by
  induction n with
  | zero => rfl
  | succ n ih => rw [sumN, sumN, sumN, ih]; omega
theorem sumN_sub (f h : Nat → Int) (n : Nat) : sumN (fun i => f i - h i) n = sumN f n - sumN h n := by
  induction n with
  | zero => rfl
  | succ n ih => rw [sumN, sumN, sumN, ih]; omega
theorem sumN_mul (x : Int) (f : Nat → Int) (n : Nat) : sumN (fun i => x * f i) n = x * sumN f n := by
  induction n with
  | zero => simp [sumN]
  | succ n ih => rw [sumN, sumN, ih, Int.mul_add]
theorem sumN_first (f : Nat → Int) (n : Nat) : sumN f (n + 1) = f 0 + sumN (fun i => f (i + 1)) n := by
  induction n with
  | zero => simp [sumN]
  | succ n ih => rw [sumN, ih, sumN]; omega
theorem sumN_rev (f : Nat → Int) (n : Nat) : sumN f n = sumN (fun i => f (n - 1 - i)) n := by
  induction n generalizing f with
  | zero => rfl
  | succ n ih =>
    rw [sumN_first, ih, sumN]
    have e1 : sumN (fun i => f (n - 1 - i + 1)) n = sumN (fun i => f (n + 1 - 1 - i)) n := sumN_eq fun i hi => by congr 1; omega
    rw [e1, show n + 1 - 1 - n = 0 by omega]
    omega
theorem sumN_more {f : Nat → Int} {n m : Nat} (h : n ≤ m) (hf : ∀ i, n ≤ i → i < m → f i = 0) : sumN f m = sumN f n := by
  induction m with
  | zero => rw [show n = 0 by omega]
  | succ m ih =>
    by_cases e : n = m + 1
    · rw [e]
    · rw [sumN, ih (by omega) fun i h1 h2 => hf i h1 (by omega), hf m (by omega) (by omega)]; omega
/-- power series -/
@[ext] structure Ser where
  c : Nat → Int
def tail (a : Nat → Int) : Nat → Int := fun n => a (n + 1)
def lin (x : Int) (a b : Nat → Int) : Nat → Int := fun n => x * a n + b n
theorem met_zero (a b : Nat → Int) : metS a b 0 = a 0 * b 0 := by simp [metS, sumN]
theorem met_left (a b : Nat → Int) (n : Nat) : metS a b (n + 1) = a 0 * b (n + 1) + metS (tail a) b n := by
  rw [metS, sumN_first]
  congr 1
  exact sumN_eq fun i hi => by rw [tail]; congr 2; omega
theorem met_right (a b : Nat → Int) (n : Nat) : metS a b (n + 1) = metS a (tail b) n + a (n + 1) * b 0 := by
  rw [metS, sumN]
  congr 1
  · exact sumN_eq fun i hi => by rw [tail]; congr 2; omega
  · rw [show n + 1 - (n + 1) = 0 by omega]
theorem met_comm (a b : Nat → Int) : metS a b = metS b a := by
  funext n
  induction n generalizing a b with
  | zero => rw [met_zero, met_zero, Int.mul_comm]
  | succ n ih => rw [met_left, met_right, ih, Int.mul_comm]; omega
theorem met_lin (x : Int) (a b c : Nat → Int) (n : Nat) : metS (lin x a b) c n = x * metS a c n + metS b c n := by
  rw [metS, metS, metS, ← sumN_mul, ← sumN_add]
  exact sumN_eq fun i _ => by rw [lin, Int.add_mul, Int.mul_assoc]
theorem met_tail (a b : Nat → Int) : tail (metS a b) = lin (a 0) (tail b) (metS (tail a) b) := by
  funext n
  rw [tail, met_left]
  rfl
theorem met_assoc (a b c : Nat → Int) : metS (metS a b) c = metS a (metS b c) := by
  funext n
  induction n generalizing a with
  | zero => rw [met_zero, met_zero, met_zero, met_zero, Int.mul_assoc]
  | succ n ih =>
    rw [met_left, met_tail, met_lin, ih, met_left a, met_left b, met_zero, Int.mul_add, Int.mul_assoc]
    omega
def oneS : Nat → Int := fun n => if n = 0 then 1 else 0
def cst (x : Int) : Nat → Int := fun n => if n = 0 then x else 0
theorem cst_mul (x : Int) (a : Nat → Int) (n : Nat) : metS (cst x) a n = x * a n := by
  cases n with
  | zero => rw [met_zero]; rfl
  | succ n =>
    rw [met_left]
    have : metS (tail (cst x)) a n = 0 := sumN_zero fun i _ => by rw [show tail (cst x) i = 0 from rfl, Int.zero_mul]
    rw [this]
    show x * a (n + 1) + 0 = _
    omega
instance : Add Ser := ⟨fun a b => ⟨fun n => a.c n + b.c n⟩⟩
instance : Mul Ser := ⟨fun a b => ⟨metS a.c b.c⟩⟩
instance : Neg Ser := ⟨fun a => ⟨fun n => - a.c n⟩⟩
instance : Sub Ser := ⟨fun a b => ⟨fun n => a.c n - b.c n⟩⟩
instance : NatCast Ser := ⟨fun n => ⟨cst n⟩⟩
instance (n : Nat) : OfNat Ser n := ⟨⟨cst n⟩⟩
instance : SMul Nat Ser := ⟨fun n a => (n : Ser) * a⟩
instance : IntCast Ser := ⟨fun n => ⟨cst n⟩⟩
instance : SMul Int Ser := ⟨fun n a => (n : Ser) * a⟩
def serPow (a : Ser) : Nat → Ser
  | 0 => (1 : Ser)
  | n + 1 => serPow a n * a
instance : HPow Ser Nat Ser := ⟨serPow⟩
theorem ser_ext {a b : Ser} (h : ∀ n, a.c n = b.c n) : a = b := Ser.ext (funext h)
theorem ser_add (a b : Ser) (n : Nat) : (a + b).c n = a.c n + b.c n := rfl
theorem ser_sub (a b : Ser) (n : Nat) : (a - b).c n = a.c n - b.c n := rfl
theorem ser_neg (a : Ser) (n : Nat) : (-a).c n = - a.c n := rfl
theorem ser_mul (a b : Ser) : (a * b).c = metS a.c b.c := rfl
theorem ser_zero (n : Nat) : (0 : Ser).c n = 0 := by
  show cst 0 n = 0
  rw [cst]
  split <;> rfl
theorem ser_one (n : Nat) : (1 : Ser).c n = if n = 0 then 1 else 0 := rfl
theorem ser_int (x : Int) : (x : Ser).c = cst x := rfl
theorem ser_left (a b c : Ser) : a * (b + c) = a * b + a * c := by
  apply ser_ext
  intro n
  rw [ser_mul, ser_add, ser_mul, ser_mul]
  unfold metS
  rw [← sumN_add]
  exact sumN_eq fun i _ => by rw [ser_add, Int.mul_add]
theorem ser_cst (x : Int) (a : Ser) (n : Nat) : ((x : Ser) * a).c n = x * a.c n := cst_mul x a.c n
theorem ser_comm (a b : Ser) : a * b = b * a := Ser.ext (met_comm _ _)
theorem ser_one_mul (a : Ser) : (1 : Ser) * a = a := ser_ext fun n => by
  rw [ser_mul, show (1 : Ser).c = cst 1 from rfl, cst_mul, Int.one_mul]
theorem ser_zero_mul (a : Ser) : (0 : Ser) * a = 0 := ser_ext fun n => by
  rw [ser_mul, ser_zero, show (0 : Ser).c = cst 0 from rfl, cst_mul, Int.zero_mul]
instance : Lean.Grind.CommRing Ser where
  add_zero a := ser_ext fun n => by rw [ser_add, ser_zero, Int.add_zero]
  add_comm a b := ser_ext fun n => Int.add_comm _ _
  add_assoc a b c := ser_ext fun n => Int.add_assoc _ _ _
  mul_assoc a b c := Ser.ext (met_assoc _ _ _)
  mul_comm := ser_comm
  mul_one a := by rw [ser_comm, ser_one_mul]
  one_mul := ser_one_mul
  left_distrib := ser_left
  right_distrib a b c := by rw [ser_comm, ser_left, ser_comm c, ser_comm c]
  zero_mul := ser_zero_mul
  mul_zero a := by rw [ser_comm, ser_zero_mul]
  pow_zero a := rfl
  pow_succ a n := rfl
  ofNat_succ n := ser_ext fun i => by
    rw [ser_add]
    show cst ((n + 1 : Nat) : Int) i = cst (n : Int) i + cst 1 i
    rw [cst, cst, cst]
    split <;> simp
  ofNat_eq_natCast n := rfl
  nsmul_eq_natCast_mul n a := rfl
  neg_add_cancel a := ser_ext fun n => by rw [ser_add, ser_neg, ser_zero]; omega
  sub_eq_add_neg a b := ser_ext fun n => by rw [ser_add, ser_neg, ser_sub]; omega
  neg_zsmul i a := ser_ext fun n => by
    rw [ser_neg]
    show (((-i : Int) : Ser) * a).c n = - (((i : Int) : Ser) * a).c n
    rw [ser_cst, ser_cst, Int.neg_mul]
  zsmul_natCast_eq_nsmul n a := rfl
  intCast_ofNat n := rfl
  intCast_neg i := ser_ext fun n => by
    rw [ser_neg, ser_int, ser_int, cst, cst]
    split <;> simp

/-! ### degrees -/
/-- nothing from k on -/
def Pd (k : Nat) (a : Ser) : Prop := ∀ n, k ≤ n → a.c n = 0
theorem Pd.mono {j k : Nat} {a : Ser} (h : Pd j a) (e : j ≤ k) : Pd k a := fun n hn => h n (by omega)
theorem Pd.add {k : Nat} {a b : Ser} (h : Pd k a) (g : Pd k b) : Pd k (a + b) := fun n hn => by rw [ser_add, h n hn, g n hn]; rfl
theorem Pd.sub {k : Nat} {a b : Ser} (h : Pd k a) (g : Pd k b) : Pd k (a - b) := fun n hn => by rw [ser_sub, h n hn, g n hn]; rfl
theorem Pd.cst {k : Nat} {a : Ser} (x : Int) (h : Pd k a) : Pd k ((x : Ser) * a) := fun n hn => by rw [ser_cst, h n hn, Int.mul_zero]
theorem Pd.mul {j k : Nat} {a b : Ser} (h : Pd (j + 1) a) (g : Pd k b) : Pd (j + k) (a * b) := fun n hn => by
  rw [ser_mul]
  refine sumN_zero fun i hi => ?_
  by_cases e : j < i
  · rw [h i (by omega), Int.zero_mul]
  · rw [g (n - i) (by omega), Int.mul_zero]
def Zr (a : Ser) : Prop := ∀ n, a.c n = 0
theorem Zr.eq {a : Ser} (h : Zr a) : a = 0 := ser_ext fun n => by rw [h n, ser_zero]
theorem zr_of {a : Ser} (h : a = 0) : Zr a := fun n => by rw [h, ser_zero]
theorem Pd.zero {a : Ser} (h : Pd 0 a) : a = 0 := Zr.eq fun n => h n (Nat.zero_le _)
/-- x times -/
def xS : Ser := ⟨fun n => if n = 1 then 1 else 0⟩
def tl (a : Ser) : Ser := ⟨tail a.c⟩
theorem x_mul (a : Ser) (n : Nat) : (xS * a).c (n + 1) = a.c n := by
  rw [ser_mul, met_left]
  have e : metS (tail xS.c) a.c n = a.c n := by
    have : tail xS.c = cst 1 := by
      funext i
      show (if i + 1 = 1 then (1 : Int) else 0) = if i = 0 then 1 else 0
      simp
    rw [this, cst_mul, Int.one_mul]
  rw [e]
  show 0 * _ + _ = _
  rw [Int.zero_mul, Int.zero_add]
theorem x_zero (a : Ser) : (xS * a).c 0 = 0 := by
  rw [ser_mul, met_zero]
  show 0 * _ = (0 : Int)
  rw [Int.zero_mul]
theorem tl_eq (a : Ser) : a = ((a.c 0 : Int) : Ser) + xS * tl a := ser_ext fun n => by
  rw [ser_add]
  cases n with
  | zero => rw [x_zero]; show _ = a.c 0 + 0; omega
  | succ n => rw [x_mul]; show _ = 0 + a.c (n + 1); omega
theorem tl_eq0 {a : Ser} (h : a.c 0 = 0) : a = xS * tl a := ser_ext fun n => by
  cases n with
  | zero => rw [x_zero]; exact h
  | succ n => rw [x_mul]; rfl
theorem Pd.of_x {k : Nat} {a : Ser} (h : Pd (k + 1) (xS * a)) : Pd k a := fun n hn => by rw [← x_mul]; exact h _ (by omega)
theorem Pd.tl {k : Nat} {a : Ser} (h : Pd (k + 1) a) : Pd k (tl a) := fun n hn => h (n + 1) (by omega)
theorem cst_cancel {x : Int} (hx : x ≠ 0) {a b : Ser} (h : (x : Ser) * a = (x : Ser) * b) : a = b := ser_ext fun n => by
  have e : ((x : Ser) * a).c n = ((x : Ser) * b).c n := by rw [h]
  rw [ser_cst, ser_cst] at e
  exact Int.eq_of_mul_eq_mul_left hx e
end KM
end
section
/-! Relations of a row; the shortest one has whole factors. -/
namespace KM
open K19
/-- C is the turned list of a relation of order k -/
def Rel (a : Ser) (k : Nat) (C : Ser) : Prop := Pd (k + 1) C ∧ Pd k (C * a)
def AnnS (a : Ser) (m : Nat) : Prop := ∃ Q : Ser, Q.c 0 = 1 ∧ Rel a m Q
theorem Rel.lin {a C D : Ser} {k : Nat} (x y : Int) (h : Rel a k C) (g : Rel a k D) : Rel a k ((x : Ser) * C - (y : Ser) * D) := by
  refine ⟨(h.1.cst x).sub (g.1.cst y), ?_⟩
  have e : ((x : Ser) * C - (y : Ser) * D) * a = (x : Ser) * (C * a) - (y : Ser) * (D * a) := by grind
  rw [e]
  exact (h.2.cst x).sub (g.2.cst y)
theorem Rel.mono {a C : Ser} {k m : Nat} (h : Rel a k C) (e : k ≤ m) : Rel a m C := ⟨h.1.mono (by omega), h.2.mono e⟩
theorem Rel.tl {a C : Ser} {k : Nat} (h : Rel a (k + 1) C) (h0 : C.c 0 = 0) : Rel a k (tl C) := by
  refine ⟨h.1.tl, Pd.of_x ?_⟩
  have e : xS * (KM.tl C * a) = (xS * KM.tl C) * a := by grind
  rw [e, ← tl_eq0 h0]
  exact h.2
theorem Rel.zero {a C : Ser} (h : Rel a 0 C) (h0 : C.c 0 = 0) : C = 0 := Zr.eq fun n => by
  cases n with
  | zero => exact h0
  | succ n => exact h.1 _ (by omega)
/-- no relation of lower order but nought -/
def Low (a : Ser) (k : Nat) : Prop := ∀ j, j < k → ∀ D, Rel a j D → D = 0
theorem Low.top {a C : Ser} {k : Nat} (h : Low a k) (g : Rel a k C) (n0 : C ≠ 0) : C.c 0 ≠ 0 := fun e => by
  cases k with
  | zero => exact n0 (g.zero e)
  | succ k =>
    apply n0
    rw [tl_eq0 e, h k (by omega) _ (g.tl e)]
    grind
theorem exists_low {a Q : Ser} : ∀ {m : Nat}, Rel a m Q → Q ≠ 0 → ∃ k, k ≤ m ∧ Low a k ∧ ∃ C, Rel a k C ∧ C ≠ 0 := by
  intro m
  induction m using Nat.strongRecOn generalizing Q with
  | ind m ih =>
    intro h n0
    by_cases e : ∃ j, j < m ∧ ∃ D, Rel a j D ∧ D ≠ 0
    · obtain ⟨j, hj, D, hD, nD⟩ := e
      obtain ⟨k, hk, r⟩ := ih j hj hD nD
      exact ⟨k, by omega, r⟩
    · refine ⟨m, Nat.le_refl m, fun j hj D hD => ?_, Q, h, n0⟩
      exact Classical.byContradiction fun n => e ⟨j, hj, D, hD, n⟩
/-- long division from the low end -/
theorem divide {a C : Ser} {k : Nat} (low : Low a k) (hC : Rel a k C) (n0 : C ≠ 0) : ∀ {m : Nat} {Q : Ser}, Rel a m Q → ∃ (s : Nat) (D : Ser), (((C.c 0) ^ s : Int) : Ser) * Q = D * C := by
  intro m
  induction m with
  | zero =>
    intro Q h
    cases k with
    | zero =>
      refine ⟨1, ((Q.c 0 : Int) : Ser), ser_ext fun n => ?_⟩
      rw [ser_cst, ser_cst, Int.pow_succ, Int.pow_zero, Int.one_mul]
      cases n with
      | zero => exact Int.mul_comm _ _
      | succ n =>
        have h1 := h.1 (n + 1) (by omega)
        have h2 := hC.1 (n + 1) (by omega)
        rw [h1, h2, Int.mul_zero, Int.mul_zero]
    | succ k =>
      refine ⟨0, 0, ?_⟩
      rw [low 0 (by omega) Q h]
      grind
  | succ m ih =>
    intro Q h
    by_cases hm : m + 1 < k
    · refine ⟨0, 0, ?_⟩
      rw [low (m + 1) hm Q h]
      grind
    · have h1 : Rel a (m + 1) ((C.c 0 : Int) * Q - (Q.c 0 : Int) * C) := h.lin _ _ (hC.mono (by omega))
      have z : ((C.c 0 : Int) * Q - (Q.c 0 : Int) * C : Ser).c 0 = 0 := by
        rw [ser_sub, ser_cst, ser_cst, Int.mul_comm]
        omega
      obtain ⟨s, D, e⟩ := ih (h1.tl z)
      have e2 := tl_eq0 z
      refine ⟨s + 1, (((C.c 0) ^ s : Int) : Ser) * ((Q.c 0 : Int) : Ser) + xS * D, ?_⟩
      have e3 : (((C.c 0) ^ (s + 1) : Int) : Ser) = (((C.c 0) ^ s : Int) : Ser) * ((C.c 0 : Int) : Ser) := by
        apply ser_ext
        intro n
        rw [ser_cst, ser_int, ser_int, cst, cst]
        split
        · rw [Int.pow_succ]
        · omega
      rw [e3]
      generalize KM.tl ((C.c 0 : Int) * Q - (Q.c 0 : Int) * C : Ser) = T at e e2
      grind
/-! ### the lemma of Gauss -/
def Prime (p : Nat) : Prop := 1 < p ∧ ∀ d, d ∣ p → d = 1 ∨ d = p
theorem exists_prime : ∀ (n : Nat), 1 < n → ∃ p, Prime p ∧ p ∣ n := by
  intro n
  induction n using Nat.strongRecOn with
  | ind n ih =>
    intro h
    by_cases e : ∃ d, d ∣ n ∧ d ≠ 1 ∧ d ≠ n
    · obtain ⟨d, h1, h2, h3⟩ := e
      have hle := Nat.le_of_dvd (by omega) h1
      have h0 : d ≠ 0 := fun e => by rw [e] at h1; have := Nat.eq_zero_of_zero_dvd h1; omega
      obtain ⟨p, hp, hd⟩ := ih d (by omega) (by omega)
      exact ⟨p, hp, Nat.dvd_trans hd h1⟩
    · refine ⟨n, ⟨h, fun d hd => ?_⟩, Nat.dvd_refl n⟩
      by_cases e1 : d = 1
      · exact .inl e1
      · by_cases e2 : d = n
        · exact .inr e2
        · exact absurd ⟨d, hd, e1, e2⟩ e
theorem Prime.mul {p : Nat} (h : Prime p) {x y : Int} (d : (p : Int) ∣ x * y) (nx : ¬ (p : Int) ∣ x) : (p : Int) ∣ y := by
  have g : Nat.gcd p x.natAbs = 1 := by
    rcases h.2 _ (Nat.gcd_dvd_left p x.natAbs) with e | e
    · exact e
    · exact absurd (Int.ofNat_dvd_left.mpr (e ▸ Nat.gcd_dvd_right p x.natAbs)) nx
  have d' : p ∣ x.natAbs * y.natAbs := by rw [← Int.natAbs_mul]; exact Int.ofNat_dvd_left.mp d
  exact Int.ofNat_dvd_left.mpr (Nat.Coprime.dvd_of_dvd_mul_left g d')
theorem first_not {P : Nat → Prop} {n : Nat} (h : ¬ P n) : ∃ j, ¬ P j ∧ ∀ i, i < j → P i := by
  induction n using Nat.strongRecOn with
  | ind n ih =>
    by_cases e : ∃ i, i < n ∧ ¬ P i
    · obtain ⟨i, hi, ni⟩ := e
      exact ih i hi ni
    · exact ⟨n, h, fun i hi => Classical.byContradiction fun q => e ⟨i, hi, q⟩⟩
theorem dvd_sumN {p : Int} {f : Nat → Int} {n : Nat} (h : ∀ i, i < n → p ∣ f i) : p ∣ sumN f n := by
  induction n with
  | zero => exact Int.dvd_zero p
  | succ n ih => exact Int.dvd_add (ih fun i hi => h i (by omega)) (h n (by omega))
theorem gauss {p : Nat} (hp : Prime p) {D C : Ser} (h : ∀ n, (p : Int) ∣ (D * C).c n) (hC : ∃ n, ¬ (p : Int) ∣ C.c n) : ∀ n, (p : Int) ∣ D.c n := by
  obtain ⟨n, hn⟩ := hC
  obtain ⟨j, hj, hi⟩ := first_not (P := fun n => (p : Int) ∣ C.c n) hn
  intro i
  induction i using Nat.strongRecOn with
  | ind i ih =>
    have hh := h (i + j)
    rw [ser_mul, metS] at hh
    -- the sum is D i * C j and others
    have key : (p : Int) ∣ D.c i * C.c j := by
      have e : sumN (fun t => D.c t * C.c (i + j - t)) (i + j + 1) = sumN (fun t => if t = i then 0 else D.c t * C.c (i + j - t)) (i + j + 1) + D.c i * C.c j := by
        have : ∀ t, D.c t * C.c (i + j - t) = (if t = i then 0 else D.c t * C.c (i + j - t)) + (if t = i then D.c i * C.c j else 0) := by
          intro t
          by_cases q : t = i
          · rw [if_pos q, if_pos q, q, show i + j - i = j by omega]; omega
          · rw [if_neg q, if_neg q]; omega
        rw [sumN_eq fun t _ => this t, sumN_add]
        congr 1
        have s1 : sumN (fun t => if t = i then D.c i * C.c j else 0) (i + j + 1) = sumN (fun t => if t = i then D.c i * C.c j else 0) (i + 1) := sumN_more (by omega) fun t h1 h2 => if_neg (by omega)
        rw [s1, sumN, if_pos rfl, sumN_zero fun t ht => if_neg (by omega)]
        omega
      rw [e] at hh
      have s : (p : Int) ∣ sumN (fun t => if t = i then 0 else D.c t * C.c (i + j - t)) (i + j + 1) := by
        refine dvd_sumN fun t ht => ?_
        by_cases q : t = i
        · show _ ∣ ite _ _ _
          rw [if_pos q]; exact Int.dvd_zero _
        · show _ ∣ ite _ _ _
          rw [if_neg q]
          by_cases q2 : t < i
          · exact Int.dvd_mul_of_dvd_left (ih t q2)
          · exact Int.dvd_mul_of_dvd_right (hi _ (by omega))
      exact (Int.dvd_add_right s).mp hh
    rw [Int.mul_comm] at key
    exact hp.mul key hj
/-- nothing but 1 divides all -/
def Prim (C : Ser) : Prop := ∀ p : Nat, Prime p → ∃ n, ¬ (p : Int) ∣ C.c n
def divS (a : Ser) (x : Int) : Ser := ⟨fun n => a.c n / x⟩
theorem divS_mul {a : Ser} {x : Int} (h : ∀ n, x ∣ a.c n) : (x : Ser) * divS a x = a := ser_ext fun n => by
  rw [ser_cst]
  exact Int.mul_ediv_cancel' (h n)
theorem cst_mulS (x y : Int) : ((x * y : Int) : Ser) = (x : Ser) * (y : Ser) := ser_ext fun n => by
  rw [ser_cst, ser_int, ser_int, cst, cst]
  split
  · rfl
  · omega
theorem prim_dvd {C : Ser} (hC : Prim C) : ∀ (e : Nat) (x : Int) (Q D : Ser), x.natAbs = e → x ≠ 0 → (x : Ser) * Q = D * C → ∀ n, x ∣ D.c n := by
  intro e
  induction e using Nat.strongRecOn with
  | ind e ih =>
    intro x Q D he hx h n
    by_cases h1 : e = 1
    · rcases Int.natAbs_eq x with q | q
      · rw [q, he, h1]; exact Int.one_dvd _
      · rw [q, he, h1]; exact (Int.neg_dvd).mpr (Int.one_dvd _)
    · have he0 : e ≠ 0 := fun q => hx (by omega)
      obtain ⟨p, hp, d⟩ := exists_prime e (by omega)
      have dx : (p : Int) ∣ x := Int.ofNat_dvd_left.mpr (he ▸ d)
      obtain ⟨y, ey⟩ := dx
      have hp1 := hp.1
      have hD : ∀ n, (p : Int) ∣ D.c n := gauss hp (fun n => by rw [← h, ser_cst, ey, Int.mul_assoc]; exact Int.dvd_mul_right _ _) (hC p hp)
      have hy : y ≠ 0 := fun q => hx (by rw [ey, q, Int.mul_zero])
      have e1 : (y : Ser) * Q = divS D p * C := by
        refine cst_cancel (x := (p : Int)) (by omega) ?_
        have := divS_mul hD
        rw [ey, cst_mulS] at h
        generalize divS D p = D1 at *
        grind
      have lt : y.natAbs < e := by
        rw [← he, ey, Int.natAbs_mul, Int.natAbs_natCast]
        have : 0 < y.natAbs := by omega
        calc y.natAbs = 1 * y.natAbs := by omega
          _ < p * y.natAbs := Nat.mul_lt_mul_of_pos_right hp1 this
      have r := ih _ lt y Q (divS D p) rfl hy e1 n
      have := congrArg (fun s : Ser => s.c n) (divS_mul hD)
      simp only [ser_cst] at this
      rw [← this, ey]
      exact Int.mul_dvd_mul_left _ r
theorem exists_prim {a : Ser} {k : Nat} (h : ∃ C, Rel a k C ∧ C.c 0 ≠ 0) : ∃ C, Rel a k C ∧ C.c 0 ≠ 0 ∧ Prim C := by
  obtain ⟨C, hC, n0⟩ := h
  obtain ⟨e, he⟩ : ∃ e, e = (C.c 0).natAbs := ⟨_, rfl⟩
  induction e using Nat.strongRecOn generalizing C with
  | ind e ih =>
    by_cases q : Prim C
    · exact ⟨C, hC, n0, q⟩
    · have : ∃ p, Prime p ∧ ∀ n, (p : Int) ∣ C.c n := Classical.byContradiction fun z => q fun p hp => Classical.byContradiction fun z2 => z ⟨p, hp, fun n => Classical.byContradiction fun z3 => z2 ⟨n, z3⟩⟩
      obtain ⟨p, hp, hd⟩ := this
      have hp1 := hp.1
      have eC := divS_mul hd
      have e0 : (p : Int) * (divS C p).c 0 = C.c 0 := by
        have := congrArg (fun s : Ser => s.c 0) eC
        simpa only [ser_cst] using this
      have n1 : (divS C p).c 0 ≠ 0 := fun z => n0 (by rw [← e0, z, Int.mul_zero])
      have R1 : Rel a k (divS C p) := by
        refine ⟨fun n hn => ?_, fun n hn => ?_⟩
        · show C.c n / _ = 0
          rw [hC.1 n hn, Int.zero_ediv]
        · have := hC.2 n hn
          have e2 : ((p : Int) : Ser) * (divS C p * a) = C * a := by grind
          rw [← e2, ser_cst] at this
          rcases Int.mul_eq_zero.mp this with z | z
          · omega
          · exact z
      refine ih _ ?_ (divS C p) R1 n1 rfl
      rw [he, ← e0, Int.natAbs_mul, Int.natAbs_natCast]
      have : 0 < ((divS C p).c 0).natAbs := by omega
      calc ((divS C p).c 0).natAbs = 1 * ((divS C p).c 0).natAbs := by omega
        _ < p * ((divS C p).c 0).natAbs := Nat.mul_lt_mul_of_pos_right hp1 this
/-- the shortest relation -/
theorem shortest {a : Ser} {m : Nat} (h : AnnS a m) : ∃ k, k ≤ m ∧ Low a k ∧ ∃ C : Ser, C.c 0 = 1 ∧ Rel a k C := by
  obtain ⟨Q, q0, hQ⟩ := h
  have nQ : Q ≠ 0 := fun e => by rw [e, ser_zero] at q0; cases q0
  obtain ⟨k, hk, low, C0, hC0, n0⟩ := exists_low hQ nQ
  obtain ⟨C, hC, c0, pC⟩ := exists_prim ⟨C0, hC0, low.top hC0 n0⟩
  have nC : C ≠ 0 := fun e => c0 (by rw [e, ser_zero])
  obtain ⟨s, D, e⟩ := divide low hC nC hQ
  have hx : (C.c 0) ^ s ≠ 0 := Int.pow_ne_zero c0
  have d := prim_dvd pC _ _ Q D rfl hx e
  have e1 : Q = divS D ((C.c 0) ^ s) * C := by
    refine cst_cancel hx ?_
    have := divS_mul d
    generalize divS D ((C.c 0) ^ s) = D1 at *
    grind
  have e2 : 1 = (divS D ((C.c 0) ^ s)).c 0 * C.c 0 := by
    rw [← q0]
    conv => lhs; rw [e1]
    rw [ser_mul, met_zero]
  have u : C.c 0 = 1 ∨ C.c 0 = -1 := by
    have : (C.c 0).natAbs ∣ 1 := by
      rw [← Int.natAbs_one, e2, Int.natAbs_mul]
      exact Nat.dvd_mul_left _ _
    have := Nat.dvd_one.mp this
    omega
  rcases u with u | u
  · exact ⟨k, hk, low, C, u, hC⟩
  · refine ⟨k, hk, low, ((-1 : Int) : Ser) * C - ((0 : Int) : Ser) * C, ?_, hC.lin (-1) 0 hC⟩
    rw [ser_sub, ser_cst, ser_cst, u]
    omega
end KM
end
section
/-! Rules and relations; what is closed under relations. -/
namespace KM
open K19
theorem rel_iff {a C : Nat → Int} {k : Nat} : RelF a k C ↔ Rel ⟨a⟩ k ⟨C⟩ := Iff.rfl
theorem ann_iff {a : Nat → Int} {m : Nat} : Ann a m ↔ AnnS ⟨a⟩ m :=
  ⟨fun ⟨Q, h, g⟩ => ⟨⟨Q⟩, h, g⟩, fun ⟨Q, h, g⟩ => ⟨Q.c, h, g⟩⟩
def denF (fs : List Int) : Nat → Int
  | 0 => 1
  | b + 1 => - fs.getD b 0
def den (fs : List Int) : Ser := ⟨denF fs⟩
theorem getD_out {fs : List Int} {i : Nat} (h : fs.length ≤ i) : fs.getD i 0 = 0 := by
  rw [List.getD_eq_getElem?_getD, List.getElem?_eq_none h]
  rfl
theorem den_mul (fs : List Int) (a : Nat → Int) (n : Nat) (h : fs.length ≤ n) : (den fs * ⟨a⟩).c n = a n - sumN (fun b => fs.getD b 0 * a (n - 1 - b)) fs.length := by
  rw [ser_mul]
  cases n with
  | zero =>
    rw [met_zero, show fs.length = 0 by omega]
    show 1 * a 0 = a 0 - 0
    omega
  | succ n =>
    rw [met_left]
    have e1 : metS (tail (den fs).c) a n = - sumN (fun b => fs.getD b 0 * a (n + 1 - 1 - b)) fs.length := by
      rw [metS]
      rw [sumN_more (n := fs.length) h fun i h1 _ => by
        show - fs.getD i 0 * _ = 0
        rw [getD_out h1]; simp]
      have : ∀ i, tail (den fs).c i * a (n - i) = (-1) * (fs.getD i 0 * a (n - i)) := fun i => by
        show - fs.getD i 0 * _ = _
        rw [Int.neg_mul]; omega
      rw [sumN_eq fun i _ => this i, sumN_mul, show n + 1 - 1 = n by omega]
      omega
    show (1 : Int) * a (n + 1) + metS (tail (den fs).c) a n = _
    rw [e1]
    omega
theorem den_deg (fs : List Int) : Pd (fs.length + 1) (den fs) := fun n hn => by
  obtain ⟨j, rfl⟩ : ∃ j, n = j + 1 := ⟨n - 1, by omega⟩
  show - fs.getD j 0 = 0
  rw [getD_out (by omega)]
  rfl
theorem gen_rel {r : Rule} {a : Nat → Int} (h : Gen r a) : Rel ⟨a⟩ r.2.length (den r.2) := by
  refine ⟨den_deg r.2, fun n hn => ?_⟩
  rw [den_mul _ _ _ hn]
  obtain ⟨j, rfl⟩ : ∃ j, n = j + r.2.length := ⟨n - r.2.length, by omega⟩
  rw [h.step j]
  omega
theorem seqUp_length (a : Nat → Int) (n : Nat) : (seqUp a n).length = n := by simp [seqUp]
theorem rel_gen {fs : List Int} {a : Nat → Int} (h : Rel ⟨a⟩ fs.length (den fs)) : Gen (seqUp a fs.length, fs) a := by
  refine ⟨seqUp_length _ _, rfl, fun n => ?_⟩
  have := h.2 (n + fs.length) (by omega)
  rw [den_mul _ _ _ (by omega)] at this
  show a (n + fs.length) = sumN (fun b => fs.getD b 0 * a (n + fs.length - 1 - b)) fs.length
  omega
theorem gen_ann {r : Rule} {a : Nat → Int} (h : Gen r a) : Ann a r.2.length := ann_iff.mpr ⟨den r.2, rfl, gen_rel h⟩
theorem _root_.K19.Least.low {r : Rule} {a : Nat → Int} (h : Least r a) : Low ⟨a⟩ r.2.length := fun j hj D hD => Zr.eq (h.ind j hj D.c hD)
theorem exists_least {a : Nat → Int} {m : Nat} (h : Ann a m) : ∃ r, Least r a ∧ r.2.length ≤ m := by
  obtain ⟨k, hk, low, C, c0, hC⟩ := shortest (ann_iff.mp h)
  obtain ⟨fs, efs⟩ : ∃ fs : List Int, fs = (List.range k).map fun b => - C.c (b + 1) := ⟨_, rfl⟩
  have hl : fs.length = k := by rw [efs]; simp
  have e : C = den fs := by
    apply ser_ext
    intro n
    cases n with
    | zero => exact c0
    | succ n =>
      show _ = - fs.getD n 0
      by_cases hn : n < k
      · rw [efs, List.getD_eq_getElem?_getD, List.getElem?_map, List.getElem?_range hn]
        simp
      · rw [getD_out (by omega), hC.1 _ (by omega)]; rfl
  rw [e, ← hl] at hC
  rw [← hl] at low
  exact ⟨(seqUp a fs.length, fs), ⟨rel_gen hC, fun j hj D hD => zr_of (low j hj ⟨D⟩ hD)⟩, by show fs.length ≤ m; omega⟩
theorem _root_.K19.Least.le {r : Rule} {a : Nat → Int} {m : Nat} (h : Least r a) (g : Ann a m) : r.2.length ≤ m := by
  obtain ⟨Q, q0, hQ⟩ := g
  refine Classical.byContradiction fun n => ?_
  have := h.ind m (by omega) Q hQ 0
  omega
theorem least_eq {r q : Rule} {a : Nat → Int} (h : Least r a) (g : Least q a) : r = q := by
  have e : r.2.length = q.2.length := by
    have h1 := h.le (gen_ann g.gen)
    have h2 := g.le (gen_ann h.gen)
    omega
  have h1 : r.1 = q.1 := by rw [h.gen.fst, g.gen.fst, e]
  have h2 : r.2 = q.2 := by
    cases k : r.2.length with
    | zero =>
      rw [List.length_eq_zero_iff.mp k, List.length_eq_zero_iff.mp (e.symm.trans k)]
    | succ k' =>
      have r1 := gen_rel h.gen
      have r2 := gen_rel g.gen
      rw [← e] at r2
      have d := r1.lin 1 1 r2
      have z : (((1 : Int) : Ser) * den r.2 - ((1 : Int) : Ser) * den q.2).c 0 = 0 := by
        rw [ser_sub, ser_cst, ser_cst]
        show (1 : Int) * 1 - 1 * 1 = 0
        decide
      rw [k] at d
      have t := h.low k' (by omega) _ (d.tl z)
      apply List.ext_getElem?
      intro i
      have ti := zr_of t i
      have e1 : r.2.getD i 0 = q.2.getD i 0 := by
        have : (((1 : Int) : Ser) * den r.2 - ((1 : Int) : Ser) * den q.2).c (i + 1) = 0 := ti
        rw [ser_sub, ser_cst, ser_cst] at this
        have : (1 : Int) * (- r.2.getD i 0) - 1 * (- q.2.getD i 0) = 0 := this
        omega
      by_cases hi : i < r.2.length
      · rw [List.getD_eq_getElem?_getD, List.getD_eq_getElem?_getD, List.getElem?_eq_getElem hi, List.getElem?_eq_getElem (by omega)] at e1
        rw [List.getElem?_eq_getElem hi, List.getElem?_eq_getElem (by omega)]
        exact congrArg some e1
      · rw [List.getElem?_eq_none (by omega), List.getElem?_eq_none (by omega)]
  exact Prod.ext h1 h2
/-! ### closure -/
theorem ann_mono {a : Nat → Int} {m k : Nat} (h : Ann a m) (e : m ≤ k) : Ann a k := by
  obtain ⟨Q, q0, hQ⟩ := ann_iff.mp h
  exact ann_iff.mpr ⟨Q, q0, hQ.mono e⟩
theorem mul_c0 {Q R : Ser} (h : Q.c 0 = 1) (g : R.c 0 = 1) : (Q * R).c 0 = 1 := by
  rw [ser_mul, met_zero, h, g]
  rfl
theorem ann_add {a b : Nat → Int} {m k : Nat} (h : Ann a m) (g : Ann b k) : Ann (addS a b) (m + k) := by
  obtain ⟨Q, q0, hQ⟩ := ann_iff.mp h
  obtain ⟨R, r0, hR⟩ := ann_iff.mp g
  refine ann_iff.mpr ⟨Q * R, mul_c0 q0 r0, (hQ.1.mul hR.1).mono (by omega), ?_⟩
  have e : Q * R * ⟨addS a b⟩ = R * (Q * ⟨a⟩) + Q * (R * ⟨b⟩) := by
    have : (⟨addS a b⟩ : Ser) = ⟨a⟩ + ⟨b⟩ := rfl
    rw [this]
    grind
  rw [e]
  exact ((hR.1.mul hQ.2).mono (by omega)).add ((hQ.1.mul hR.2).mono (by omega))
theorem ann_neg {b : Nat → Int} {k : Nat} (g : Ann b k) : Ann (fun n => - b n) k := by
  obtain ⟨R, r0, hR⟩ := ann_iff.mp g
  refine ann_iff.mpr ⟨R, r0, hR.1, ?_⟩
  have e : R * ⟨fun n => - b n⟩ = ((-1 : Int) : Ser) * (R * ⟨b⟩) := by
    have : (⟨fun n => - b n⟩ : Ser) = ((-1 : Int) : Ser) * ⟨b⟩ := ser_ext fun n => by rw [ser_cst]; show - b n = (-1) * b n; omega
    rw [this]
    grind
  rw [e]
  exact hR.2.cst _
theorem ann_sub {a b : Nat → Int} {m k : Nat} (h : Ann a m) (g : Ann b k) : Ann (subS a b) (m + k) := by
  have := ann_add h (ann_neg g)
  have e : addS a (fun n => - b n) = subS a b := by
    funext n
    show a n + - b n = a n - b n
    omega
  rwa [e] at this
theorem ann_met {a b : Nat → Int} {m k : Nat} (h : Ann a m) (g : Ann b k) : Ann (metS a b) (m + k) := by
  obtain ⟨Q, q0, hQ⟩ := ann_iff.mp h
  obtain ⟨R, r0, hR⟩ := ann_iff.mp g
  refine ann_iff.mpr ⟨Q * R, mul_c0 q0 r0, (hQ.1.mul hR.1).mono (by omega), ?_⟩
  have e : Q * R * ⟨metS a b⟩ = (Q * ⟨a⟩) * (R * ⟨b⟩) := by
    have : (⟨metS a b⟩ : Ser) = ⟨a⟩ * ⟨b⟩ := rfl
    rw [this]
    grind
  rw [e]
  cases m with
  | zero =>
    rw [Pd.zero hQ.2]
    intro n _
    rw [show (0 : Ser) * (R * ⟨b⟩) = 0 by grind, ser_zero]
  | succ m => exact (hQ.2.mul hR.2).mono (by omega)
theorem ann_acc {a : Nat → Int} {m : Nat} (h : Ann a m) : Ann (accS a) (m + 1) := by
  have o : Ann (fun _ => 1) 1 := ann_iff.mpr ⟨den [1], rfl, den_deg [1], fun n hn => by
    rw [den_mul [1] _ _ hn]
    simp [sumN]⟩
  have := ann_met h o
  have e : metS a (fun _ => 1) = accS a := by
    funext n
    exact sumN_eq fun i _ => Int.mul_one _
  rwa [e] at this
/-- all but the first term stay -/
theorem ann_first {a b : Nat → Int} {m : Nat} (h : Ann a m) (e : ∀ n, b (n + 1) = a (n + 1)) : Ann b (m + 1) := by
  obtain ⟨Q, q0, hQ⟩ := ann_iff.mp h
  refine ann_iff.mpr ⟨Q, q0, hQ.1.mono (by omega), ?_⟩
  have eb : (⟨b⟩ : Ser) = ⟨a⟩ + ((b 0 - a 0 : Int) : Ser) := ser_ext fun n => by
    rw [ser_add, ser_int]
    cases n with
    | zero => show b 0 = a 0 + (b 0 - a 0); omega
    | succ n => show b (n + 1) = a (n + 1) + 0; rw [e]; omega
  rw [eb, show Q * (⟨a⟩ + ((b 0 - a 0 : Int) : Ser)) = Q * ⟨a⟩ + ((b 0 - a 0 : Int) : Ser) * Q by grind]
  exact (hQ.2.mono (by omega)).add (hQ.1.cst _)
/-- shifted rows -/
theorem keep_shift {Q : Ser} {a : Nat → Int} {m : Nat} (h : Rel ⟨a⟩ m Q) : ∀ k, Rel ⟨fun n => a (n + k)⟩ m Q
  | 0 => h
  | k + 1 => by
    have ih := keep_shift h k
    refine ⟨h.1, fun n hn => ?_⟩
    have := ih.2 (n + 1) (by omega)
    rw [ser_mul, met_right, h.1 _ (by omega), Int.zero_mul, Int.add_zero] at this
    rw [ser_mul, ← this]
    congr 1
    funext i
    show a (i + (k + 1)) = a (i + 1 + k)
    congr 1
    omega
theorem ann_shift {a : Nat → Int} {m : Nat} (h : Ann a m) (k : Nat) : Ann (fun n => a (n + k)) m := by
  obtain ⟨Q, q0, hQ⟩ := ann_iff.mp h
  exact ann_iff.mpr ⟨Q, q0, keep_shift hQ k⟩
/-- c read along the row -/
def along (c : Nat → Int) (k : Nat) (a : Nat → Int) : Nat → Int := fun n => sumN (fun i => c i * a (n + i)) k
theorem keep_along {Q : Ser} {a : Nat → Int} {m : Nat} (h : Rel ⟨a⟩ m Q) (c : Nat → Int) : ∀ k, Rel ⟨along c k a⟩ m Q
  | 0 => by
    refine ⟨h.1, fun n _ => ?_⟩
    have : (⟨along c 0 a⟩ : Ser) = 0 := ser_ext fun n => by rw [ser_zero]; rfl
    rw [this, show Q * (0 : Ser) = 0 by grind, ser_zero]
  | k + 1 => by
    have ih := keep_along h c k
    refine ⟨h.1, ?_⟩
    have : (⟨along c (k + 1) a⟩ : Ser) = ⟨along c k a⟩ + ((c k : Int) : Ser) * ⟨fun n => a (n + k)⟩ := ser_ext fun n => by
      rw [ser_add, ser_cst]
      rfl
    rw [this, show Q * (⟨along c k a⟩ + ((c k : Int) : Ser) * ⟨fun n => a (n + k)⟩) = Q * ⟨along c k a⟩ + ((c k : Int) : Ser) * (Q * ⟨fun n => a (n + k)⟩) by grind]
    exact ih.2.add ((keep_shift h k).2.cst _)
theorem ann_along {a : Nat → Int} {m : Nat} (h : Ann a m) (c : Nat → Int) (k : Nat) : Ann (along c k a) m := by
  obtain ⟨Q, q0, hQ⟩ := ann_iff.mp h
  exact ann_iff.mpr ⟨Q, q0, keep_along hQ c k⟩
/-- nought at the first m terms is nought -/
theorem ann_zero {a : Nat → Int} {m : Nat} (h : Ann a m) (z : ∀ n, n < m → a n = 0) : ∀ n, a n = 0 := by
  obtain ⟨Q, q0, hQ⟩ := h
  intro n
  induction n using Nat.strongRecOn with
  | ind n ih =>
    by_cases e : n < m
    · exact z n e
    · have := hQ.2 n (by omega)
      rw [sumN_first, q0, sumN_zero (n := n) fun i hi => by rw [ih (n - (i + 1)) (by omega), Int.mul_zero]] at this
      rw [Nat.sub_zero] at this
      omega
theorem ann_eq {a b : Nat → Int} {m k : Nat} (h : Ann a m) (g : Ann b k) (z : ∀ n, n < m + k → a n = b n) : ∀ n, a n = b n := fun n => by
  have := ann_zero (ann_sub h g) (fun n hn => by rw [subS, z n hn]; omega) n
  rw [subS] at this
  omega
/-- a row with the rule -/
theorem gen_eq {r : Rule} {a b : Nat → Int} (h : Gen r a) (g : Gen r b) : ∀ n, a n = b n := fun n => by
  induction n using Nat.strongRecOn with
  | ind n ih =>
    by_cases e : n < r.2.length
    · have h1 := h.fst
      have h2 := g.fst
      rw [h1] at h2
      have := congrArg (fun l : List Int => l[n]?) h2
      simp only [seqUp, List.getElem?_map, List.getElem?_range e] at this
      simpa using this
    · obtain ⟨j, rfl⟩ : ∃ j, n = j + r.2.length := ⟨n - r.2.length, by omega⟩
      rw [h.step, g.step]
      refine sumN_eq fun i hi => ?_
      rw [ih _ (by omega)]
theorem gen_congr {r : Rule} {a b : Nat → Int} (h : Gen r a) (e : ∀ n, a n = b n) : Gen r b := by
  have : a = b := funext e
  rwa [← this]
/-- the first terms and so many steps beyond -/
theorem gen_of {fs : List Int} {a : Nat → Int} {m : Nat} (h : Ann a m) (z : ∀ n, n < m → a (n + fs.length) = sumN (fun b => fs.getD b 0 * a (n + fs.length - 1 - b)) fs.length) : Gen (seqUp a fs.length, fs) a := by
  refine ⟨seqUp_length _ _, rfl, ?_⟩
  have e : ∀ n, along (fun i => (den fs).c (fs.length - i)) (fs.length + 1) a n = a (n + fs.length) - sumN (fun b => fs.getD b 0 * a (n + fs.length - 1 - b)) fs.length := by
    intro n
    rw [along, sumN, show fs.length - fs.length = 0 by omega, sumN_rev]
    have : ∀ i, i < fs.length → (den fs).c (fs.length - (fs.length - 1 - i)) * a (n + (fs.length - 1 - i)) = (-1) * (fs.getD i 0 * a (n + fs.length - 1 - i)) := by
      intro i hi
      rw [show fs.length - (fs.length - 1 - i) = i + 1 by omega, show n + (fs.length - 1 - i) = n + fs.length - 1 - i by omega]
      show - fs.getD i 0 * _ = _
      rw [Int.neg_mul]; omega
    rw [sumN_eq this, sumN_mul]
    show _ + 1 * a (n + fs.length) = _
    omega
  have := ann_zero (ann_along h (fun i => (den fs).c (fs.length - i)) (fs.length + 1)) fun n hn => by rw [e, z n hn]; omega
  intro n
  have := this n
  rw [e] at this
  show a (n + fs.length) = sumN (fun b => fs.getD b 0 * a (n + fs.length - 1 - b)) fs.length
  omega
theorem least_congr {r : Rule} {a b : Nat → Int} (h : Least r a) (e : ∀ n, a n = b n) : Least r b := by
  have : a = b := funext e
  rwa [← this]
theorem ann_congr {a b : Nat → Int} {m : Nat} (h : Ann a m) (e : ∀ n, a n = b n) : Ann b m := by
  have : a = b := funext e
  rwa [← this]
end KM
end
section
/-! The elimination finds the shortest rule. -/
namespace KM
open K19
/-! ### what all numbers share -/
theorem gcd_fold : ∀ (ns : List Int) (s : Nat), (ns.foldl (fun (s : Nat) n => Int.gcd s n) s ∣ s ∧ ∀ x ∈ ns, ((ns.foldl (fun (s : Nat) n => Int.gcd s n) s : Nat) : Int) ∣ x) ∧ ∀ d : Nat, d ∣ s → (∀ x ∈ ns, (d : Int) ∣ x) → d ∣ ns.foldl (fun (s : Nat) n => Int.gcd s n) s
  | [], s => ⟨⟨Nat.dvd_refl s, fun x hx => by cases hx⟩, fun d h _ => h⟩
  | n :: ns, s => by
    obtain ⟨⟨h1, h2⟩, h3⟩ := gcd_fold ns (Int.gcd s n)
    rw [List.foldl_cons]
    have g1 : Int.gcd s n ∣ s := by
      have := Int.gcd_dvd_left (s : Int) n
      exact Int.natCast_dvd_natCast.mp this
    refine ⟨⟨Nat.dvd_trans h1 g1, fun x hx => ?_⟩, fun d hd hx => ?_⟩
    · rcases List.mem_cons.mp hx with rfl | hx
      · exact Int.dvd_trans (Int.natCast_dvd_natCast.mpr h1) (Int.gcd_dvd_right _ _)
      · exact h2 x hx
    · refine h3 d ?_ fun x hm => hx x (List.mem_cons_of_mem _ hm)
      exact Int.dvd_gcd (Int.natCast_dvd_natCast.mpr hd) (hx n List.mem_cons_self)
theorem gcdL_dvd {ns : List Int} {x : Int} (h : x ∈ ns) : (gcdL ns : Int) ∣ x := (gcd_fold ns 0).1.2 x h
theorem dvd_gcdL {ns : List Int} {d : Nat} (h : ∀ x ∈ ns, (d : Int) ∣ x) : d ∣ gcdL ns := (gcd_fold ns 0).2 d (Nat.dvd_zero d) h
theorem getD_memI {xs : List Int} {i : Nat} (h : i < xs.length) : xs.getD i 0 ∈ xs := by
  rw [List.getD_eq_getElem?_getD, List.getElem?_eq_getElem h]
  exact List.getElem_mem h
theorem gcd_one_of {xs : List Int} {i : Nat} (h : i < xs.length) (e : xs.getD i 0 = 1) : gcdL xs = 1 := by
  have := gcdL_dvd (getD_memI h)
  rw [e] at this
  have : gcdL xs ∣ 1 := Int.natCast_dvd_natCast.mp this
  exact Nat.dvd_one.mp this
theorem gcd_pos {xs : List Int} {i : Nat} (h : i < xs.length) (e : xs.getD i 0 ≠ 0) : 0 < gcdL xs := by
  refine Nat.pos_of_ne_zero fun z => e ?_
  have := gcdL_dvd (getD_memI h)
  rw [z] at this
  exact Int.zero_dvd.mp this
theorem div_getD {xs : List Int} {g : Nat} (i : Nat) : (xs.map fun n => n / (g : Int)).getD i 0 = xs.getD i 0 / (g : Int) := by
  rw [List.getD_eq_getElem?_getD, List.getD_eq_getElem?_getD, List.getElem?_map]
  cases xs[i]? with
  | none => simp
  | some x => rfl
theorem light_fst {cs ps : List Int} (hp : 0 < gcdL (cs ++ ps)) : light cs ps = (cs.map fun n => n / ((gcdL (cs ++ ps) : Nat) : Int), ps.map fun n => n / ((gcdL (cs ++ ps) : Nat) : Int)) := by
  unfold light
  split
  · have e : gcdL (cs ++ ps) = 1 := by omega
    rw [e]
    simp
  · rfl
theorem light_gcd {cs ps : List Int} (hp : 0 < gcdL (cs ++ ps)) : gcdL ((light cs ps).1 ++ (light cs ps).2) = 1 := by
  rw [light_fst hp]
  obtain ⟨g, eg⟩ : ∃ g, g = gcdL (cs ++ ps) := ⟨_, rfl⟩
  rw [← eg] at hp ⊢
  rw [← List.map_append]
  obtain ⟨h, eh⟩ : ∃ h, h = gcdL ((cs ++ ps).map fun n => n / (g : Int)) := ⟨_, rfl⟩
  show gcdL ((cs ++ ps).map fun n => n / (g : Int)) = 1
  rw [← eh]
  have : g * h ∣ gcdL (cs ++ ps) := by
    refine dvd_gcdL fun x hx => ?_
    have d1 : (g : Int) ∣ x := eg ▸ gcdL_dvd hx
    have d2 : (h : Int) ∣ x / (g : Int) := eh ▸ gcdL_dvd (List.mem_map.mpr ⟨x, hx, rfl⟩)
    have e := Int.mul_ediv_cancel' d1
    rw [← e, Int.natCast_mul]
    exact Int.mul_dvd_mul_left _ d2
  rw [← eg] at this
  have le := Nat.le_of_dvd hp this
  have h0 : 0 < h := Nat.pos_of_ne_zero fun z => by rw [z, Nat.mul_zero] at this; have := Nat.eq_zero_of_zero_dvd this; omega
  have : h ≤ 1 := by
    refine Classical.byContradiction fun n => ?_
    have : g * 2 ≤ g * h := Nat.mul_le_mul_left g (by omega)
    omega
  omega
/-! ### one step -/
theorem comb_length {top lead : Int} {xs ys : List Int} (h : xs.length = ys.length) : (comb top lead xs ys).length = xs.length := by
  rw [comb, List.length_map, List.length_zip]
  omega
theorem comb_getD {top lead : Int} {xs ys : List Int} (h : xs.length = ys.length) (i : Nat) : (comb top lead xs ys).getD i 0 = xs.getD i 0 * top - lead * ys.getD i 0 := by
  by_cases e : i < xs.length
  · rw [comb, List.getD_eq_getElem?_getD, List.getElem?_map, List.getElem?_zip_eq_some (z := (xs[i], ys[i]'(h ▸ e))).mpr ⟨List.getElem?_eq_getElem e, List.getElem?_eq_getElem (h ▸ e)⟩, List.getD_eq_getElem?_getD, List.getD_eq_getElem?_getD, List.getElem?_eq_getElem e, List.getElem?_eq_getElem (h ▸ e)]
    rfl
  · rw [getD_out (by rw [comb_length h]; omega), getD_out (fs := xs) (by omega), getD_out (fs := ys) (by omega)]
    simp
/-- exponents of the bounds -/
def bd (t : Nat) : Nat := 61 * 2 ^ t - 1
theorem bd_succ (t : Nat) : bd (t + 1) = 2 * bd t + 1 := by
  have : 0 < 2 ^ t := Nat.pos_of_ne_zero (by simp)
  rw [bd, bd, Nat.pow_succ]
  omega
theorem bd_mono {s t : Nat} (h : s ≤ t) : bd s ≤ bd t := by
  have : 2 ^ s ≤ 2 ^ t := Nat.pow_le_pow_right (by decide) h
  rw [bd, bd]
  omega
structure StOk (a : Nat → Int) (m j e : Nat) (pls : List Nat) (st : List Int × List Int) : Prop where
  lc : st.1.length = m
  lp : st.2.length = j + 1
  eq : ∀ row, row < m → st.1.getD row 0 = along (fun i => st.2.getD i 0) (j + 1) a row
  top : st.2.getD j 0 ≠ 0
  one : gcdL (st.1 ++ st.2) = 1
  zer : ∀ p ∈ pls, st.1.getD p 0 = 0
  bd : ∀ x ∈ st.1 ++ st.2, x.natAbs < 2 ^ e
structure KnS (a : Nat → Int) (m s : Nat) (kn : Known) (pls : List Nat) : Prop where
  st : StOk a m s (bd s) pls kn.2
  lt : kn.1 < m
  nz : kn.2.1.getD kn.1 0 ≠ 0
theorem along_lin (x y : Int) (c d : Nat → Int) (k : Nat) (a : Nat → Int) (n : Nat) : along (fun i => c i * x - y * d i) k a n = along c k a n * x - y * along d k a n := by
  rw [along, along, along, Int.mul_comm _ x, ← sumN_mul, ← sumN_mul, ← sumN_sub]
  exact sumN_eq fun i _ => by grind
theorem along_more {c : Nat → Int} {a : Nat → Int} {k l n : Nat} (h : k ≤ l) (z : ∀ i, k ≤ i → i < l → c i = 0) : along c l a n = along c k a n :=
  sumN_more h fun i h1 h2 => by rw [z i h1 h2, Int.zero_mul]
theorem along_eq {c d : Nat → Int} {k n : Nat} {a : Nat → Int} (h : ∀ i, i < k → c i = d i) : along c k a n = along d k a n := sumN_eq fun i hi => by rw [h i hi]
theorem pad_getD {xs : List Int} {n : Nat} (i : Nat) : (xs ++ List.replicate n 0).getD i 0 = xs.getD i 0 := by
  by_cases h : i < xs.length
  · rw [List.getD_eq_getElem?_getD, List.getD_eq_getElem?_getD, List.getElem?_append_left h]
  · rw [getD_out (fs := xs) (by omega), List.getD_eq_getElem?_getD, List.getElem?_append_right (by omega), List.getElem?_replicate]
    split <;> rfl
theorem two_pow_pos (e : Nat) : 0 < 2 ^ e := Nat.pos_of_ne_zero (by simp)
theorem comb_bd {top lead : Int} {xs ys : List Int} {e : Nat} (h1 : top.natAbs < 2 ^ e) (h2 : lead.natAbs < 2 ^ e) (hx : ∀ x ∈ xs, x.natAbs < 2 ^ e) (hy : ∀ x ∈ ys, x.natAbs < 2 ^ e) : ∀ x ∈ comb top lead xs ys, x.natAbs < 2 ^ (2 * e + 1) := by
  intro x hx'
  obtain ⟨q, hq, rfl⟩ := List.mem_map.mp hx'
  have m1 := hx _ (List.of_mem_zip hq).1
  have m2 := hy _ (List.of_mem_zip hq).2
  have a1 : (q.1 * top).natAbs < 2 ^ e * 2 ^ e := by
    rw [Int.natAbs_mul]
    exact Nat.mul_lt_mul'' m1 h1
  have a2 : (lead * q.2).natAbs < 2 ^ e * 2 ^ e := by
    rw [Int.natAbs_mul]
    exact Nat.mul_lt_mul'' h2 m2
  have a3 : (2 : Nat) ^ (2 * e + 1) = 2 ^ e * 2 ^ e + 2 ^ e * 2 ^ e := by
    rw [Nat.pow_succ, Nat.two_mul, Nat.pow_add]; omega
  rw [a3]
  generalize 2 ^ e * 2 ^ e = B at *
  omega
theorem div_bd {x : Int} {g : Nat} {B : Nat} (h : x.natAbs < B) (hd : (g : Int) ∣ x) (hg : 0 < g) : (x / (g : Int)).natAbs < B := by
  obtain ⟨y, rfl⟩ := hd
  rw [Int.mul_ediv_cancel_left _ (by omega)]
  rw [Int.natAbs_mul, Int.natAbs_natCast] at h
  calc y.natAbs = 1 * y.natAbs := by omega
    _ ≤ g * y.natAbs := Nat.mul_le_mul_right _ hg
    _ < B := h
/-- dividing by what all share -/
theorem StOk.light {a : Nat → Int} {m j e : Nat} {pls : List Nat} {cs ps : List Int} (lc : cs.length = m) (lp : ps.length = j + 1)
    (eq : ∀ row, row < m → cs.getD row 0 = along (fun i => ps.getD i 0) (j + 1) a row) (top : ps.getD j 0 ≠ 0) (zer : ∀ p ∈ pls, cs.getD p 0 = 0) (bd : ∀ x ∈ cs ++ ps, x.natAbs < 2 ^ e) : StOk a m j e pls (light cs ps) := by
  have hp : 0 < gcdL (cs ++ ps) := gcd_pos (i := cs.length + j) (by rw [List.length_append]; omega) (by
    rw [List.getD_eq_getElem?_getD, List.getElem?_append_right (by omega), Nat.add_sub_cancel_left, ← List.getD_eq_getElem?_getD]
    exact top)
  have one := light_gcd hp
  rw [light_fst hp] at one ⊢
  obtain ⟨g, eg⟩ : ∃ g, g = gcdL (cs ++ ps) := ⟨_, rfl⟩
  have dv : ∀ x ∈ cs ++ ps, (g : Int) ∣ x := fun x hx => eg ▸ gcdL_dvd hx
  rw [← eg] at hp one ⊢
  have dps : ∀ i, (g : Int) ∣ ps.getD i 0 := fun i => by
    by_cases h : i < ps.length
    · exact dv _ (List.mem_append_right _ (getD_memI h))
    · rw [getD_out (by omega)]; exact Int.dvd_zero _
  have dcs : ∀ i, (g : Int) ∣ cs.getD i 0 := fun i => by
    by_cases h : i < cs.length
    · exact dv _ (List.mem_append_left _ (getD_memI h))
    · rw [getD_out (by omega)]; exact Int.dvd_zero _
  have g0 : (g : Int) ≠ 0 := by omega
  refine ⟨by simpa using lc, by simpa using lp, fun row hr => ?_, ?_, one, fun p hp' => ?_, fun x hx => ?_⟩
  · have h1 := eq row hr
    refine Int.eq_of_mul_eq_mul_left g0 ?_
    show (g : Int) * (cs.map fun n => n / (g : Int)).getD row 0 = (g : Int) * along (fun i => (ps.map fun n => n / (g : Int)).getD i 0) (j + 1) a row
    rw [div_getD, Int.mul_ediv_cancel' (dcs row), h1, along, along, ← sumN_mul]
    refine sumN_eq fun i _ => ?_
    rw [div_getD, ← Int.mul_assoc, Int.mul_ediv_cancel' (dps i)]
  · show (ps.map fun n => n / (g : Int)).getD j 0 ≠ 0
    rw [div_getD]
    intro z
    have := Int.mul_ediv_cancel' (dps j)
    rw [z, Int.mul_zero] at this
    exact top this.symm
  · show (cs.map fun n => n / (g : Int)).getD p 0 = 0
    rw [div_getD, zer p hp', Int.zero_ediv]
  · have hx : x ∈ (cs ++ ps).map fun n => n / (g : Int) := by rw [List.map_append]; exact hx
    obtain ⟨y, hy, rfl⟩ := List.mem_map.mp hx
    exact div_bd (bd y hy) (dv y hy) hp
theorem putOne_ok {a : Nat → Int} {m j s : Nat} {pls : List Nat} {st : List Int × List Int} {kn : Known} (h : StOk a m j (bd s) pls st) (k : KnS a m s kn pls) (hs : s < j) : StOk a m j (bd (s + 1)) (pls ++ [kn.1]) (putOne st kn) := by
  have two : ∀ x ∈ st.1 ++ st.2, x.natAbs < 2 ^ bd (s + 1) := fun x hx => Nat.lt_of_lt_of_le (h.bd x hx) (Nat.pow_le_pow_right (by decide) (bd_mono (by omega)))
  rw [putOne]
  split
  · next e => exact ⟨h.lc, h.lp, h.eq, h.top, h.one, fun p hp => by
      rcases List.mem_append.mp hp with hp | hp
      · exact h.zer p hp
      · rw [List.mem_singleton.mp hp]; exact e, two⟩
  · next e =>
    obtain ⟨lg, elg⟩ : ∃ lg, lg = kn.2.2 ++ List.replicate (st.2.length - kn.2.2.length) (0 : Int) := ⟨_, rfl⟩
    have llg : lg.length = st.2.length := by rw [elg, List.length_append, List.length_replicate, h.lp, k.st.lp]; omega
    have glg : ∀ i, lg.getD i 0 = kn.2.2.getD i 0 := fun i => by rw [elg, pad_getD]
    obtain ⟨top, et⟩ : ∃ t, t = kn.2.1.getD kn.1 0 := ⟨_, rfl⟩
    obtain ⟨lead, el⟩ : ∃ t, t = st.1.getD kn.1 0 := ⟨_, rfl⟩
    have lc : st.1.length = kn.2.1.length := by rw [h.lc, k.st.lc]
    rw [← elg, ← et, ← el]
    have ht : top.natAbs < 2 ^ bd s := et ▸ k.st.bd _ (List.mem_append_left _ (getD_memI (by rw [k.st.lc]; exact k.lt)))
    have hl : lead.natAbs < 2 ^ bd s := el ▸ h.bd _ (List.mem_append_left _ (getD_memI (by rw [h.lc]; exact k.lt)))
    have top0 : top ≠ 0 := et ▸ k.nz
    refine StOk.light (by rw [comb_length lc, h.lc]) (by rw [comb_length llg.symm, h.lp]) (fun row hr => ?_) ?_ (fun p hp => ?_) (fun x hx => ?_)
    · have e1 : ∀ i, (comb top lead st.2 lg).getD i 0 = st.2.getD i 0 * top - lead * kn.2.2.getD i 0 := fun i => by rw [comb_getD llg.symm, glg]
      rw [comb_getD lc, along_eq (fun i _ => e1 i), along_lin, h.eq row hr, k.st.eq row hr]
      congr 2
      symm
      exact along_more (by omega) fun i h1 _ => getD_out (by rw [k.st.lp]; omega)
    · rw [comb_getD llg.symm, glg, getD_out (fs := kn.2.2) (by rw [k.st.lp]; omega), Int.mul_zero, Int.sub_zero]
      exact Int.mul_ne_zero h.top top0
    · rw [comb_getD lc]
      rcases List.mem_append.mp hp with hp | hp
      · rw [h.zer p hp, k.st.zer p hp]; simp
      · rw [List.mem_singleton.mp hp, ← et, ← el, Int.mul_comm]; omega
    · rw [bd_succ]
      rcases List.mem_append.mp hx with hx | hx
      · exact comb_bd ht hl (fun x hx => h.bd x (List.mem_append_left _ hx)) (fun x hx => k.st.bd x (List.mem_append_left _ hx)) x hx
      · refine comb_bd ht hl (fun x hx => h.bd x (List.mem_append_right _ hx)) (fun x hx => ?_) x hx
        rw [elg] at hx
        rcases List.mem_append.mp hx with hx | hx
        · exact k.st.bd x (List.mem_append_right _ hx)
        · rw [List.eq_of_mem_replicate hx]; exact two_pow_pos _
def FrOk (a : Nat → Int) (m : Nat) (fr : List Known) : Prop := ∀ s kn, fr[s]? = some kn → KnS a m s kn ((fr.take s).map (·.1))
theorem fold_ok {a : Nat → Int} {m j : Nat} {fr : List Known} {st : List Int × List Int} (hf : FrOk a m fr) (hj : fr.length ≤ j) (h : StOk a m j (bd 0) [] st) : ∀ t, t ≤ fr.length → StOk a m j (bd t) ((fr.take t).map (·.1)) ((fr.take t).foldl putOne st)
  | 0, _ => h
  | t + 1, ht => by
    have ih := fold_ok hf hj h t (by omega)
    have hk := List.getElem?_eq_getElem (l := fr) (i := t) (by omega)
    have kn := hf t _ hk
    have := putOne_ok ih kn (by omega)
    rw [List.take_succ, hk, Option.toList, List.map_append, List.foldl_append]
    exact this
/-! ### the columns -/
theorem colAt_len (a : Nat → Int) (m k : Nat) : (colAt a m k).length = m := by simp [colAt]
theorem colAt_getD {a : Nat → Int} {m k i : Nat} (h : i < m) : (colAt a m k).getD i 0 = a (k + i) := by
  rw [colAt, List.getD_eq_getElem?_getD, List.getElem?_map, List.getElem?_range h]
  rfl
theorem unit_getD {j i : Nat} : (List.replicate j (0 : Int) ++ [1]).getD i 0 = if i = j then 1 else 0 := by
  rw [List.getD_eq_getElem?_getD]
  by_cases h : i < j
  · rw [List.getElem?_append_left (by simpa using h), List.getElem?_replicate, if_pos h, if_neg (by omega)]
    rfl
  · rw [List.getElem?_append_right (by simp; omega), List.length_replicate]
    by_cases e : i = j
    · rw [e, Nat.sub_self, if_pos rfl]
      rfl
    · rw [if_neg e, List.getElem?_eq_none (by simp; omega)]
      rfl
theorem start_ok {a : Nat → Int} {m j : Nat} (hb : ∀ i, i < m → (a (j + i)).natAbs < 2 ^ 60) : StOk a m j (bd 0) [] (colAt a m j, List.replicate j 0 ++ [1]) := by
  have b0 : bd 0 = 60 := rfl
  refine ⟨colAt_len _ _ _, by simp, fun row hr => ?_, ?_, ?_, fun p hp => (by cases hp), fun x hx => ?_⟩
  · show (colAt a m j).getD row 0 = along (fun i => (List.replicate j (0 : Int) ++ [1]).getD i 0) (j + 1) a row
    rw [colAt_getD hr, along, sumN, unit_getD, if_pos rfl, sumN_zero fun i hi => by rw [unit_getD, if_neg (by omega), Int.zero_mul]]
    rw [Nat.add_comm]
    omega
  · show (List.replicate j (0 : Int) ++ [1]).getD j 0 ≠ 0
    rw [unit_getD, if_pos rfl]
    decide
  · refine gcd_one_of (i := m + j) (by simp [colAt_len]) ?_
    show (colAt a m j ++ (List.replicate j (0 : Int) ++ [1])).getD (m + j) 0 = 1
    rw [List.getD_eq_getElem?_getD, List.getElem?_append_right (by rw [colAt_len]; omega), colAt_len, Nat.add_sub_cancel_left, ← List.getD_eq_getElem?_getD, unit_getD, if_pos rfl]
  · rw [b0]
    have hx : x ∈ colAt a m j ++ (List.replicate j (0 : Int) ++ [1]) := hx
    rcases List.mem_append.mp hx with hx | hx
    · obtain ⟨i, hi, rfl⟩ := List.mem_map.mp hx
      exact hb i (by simpa using hi)
    · rcases List.mem_append.mp hx with hx | hx
      · rw [List.eq_of_mem_replicate hx]; exact two_pow_pos _
      · rw [List.mem_singleton.mp hx]
        show 1 < 2 ^ 60
        decide
/-! ### places -/
theorem place_some : ∀ (cs : List Int) (i p : Nat), placeFrom i cs = some p → i ≤ p ∧ p - i < cs.length ∧ cs.getD (p - i) 0 ≠ 0
  | [], i, p, h => by cases h
  | c :: cs, i, p, h => by
    rw [placeFrom] at h
    split at h
    · obtain ⟨h1, h2, h3⟩ := place_some cs (i + 1) p h
      refine ⟨by omega, by rw [List.length_cons]; omega, ?_⟩
      rw [show p - i = (p - (i + 1)) + 1 by omega]
      exact h3
    · next e =>
      cases h
      rw [Nat.sub_self]
      exact ⟨Nat.le_refl _, by simp, e⟩
theorem place_none : ∀ (cs : List Int) (i : Nat), placeFrom i cs = none → ∀ j, cs.getD j 0 = 0
  | [], i, h, j => by simp
  | c :: cs, i, h, j => by
    rw [placeFrom] at h
    split at h
    · next e =>
      cases j with
      | zero => exact e
      | succ j => exact place_none cs (i + 1) h j
    · cases h
theorem place_zero : ∀ (cs : List Int) (i : Nat), (∀ j, cs.getD j 0 = 0) → placeFrom i cs = none
  | [], i, h => rfl
  | c :: cs, i, h => by
    have e : c = 0 := h 0
    rw [placeFrom, if_pos e]
    exact place_zero cs (i + 1) fun j => h (j + 1)
/-! ### no lower relation -/
theorem along_low {a : Nat → Int} {m j k : Nat} {c : Nat → Int} (hA : Ann a m) (low : Low ⟨a⟩ k) (hj : j < k) (z : ∀ n, n < m → along c (j + 1) a n = 0) : c j = 0 := by
  have zz := ann_zero (ann_along hA c (j + 1)) z
  have hR : Rel ⟨a⟩ j ⟨fun i => if i ≤ j then c (j - i) else 0⟩ := by
    refine ⟨fun n hn => ?_, fun n hn => ?_⟩
    · show (if n ≤ j then _ else (0 : Int)) = 0
      rw [if_neg (by omega)]
    · rw [ser_mul]
      show sumN (fun i => (if i ≤ j then c (j - i) else 0) * a (n - i)) (n + 1) = 0
      rw [sumN_more (n := j + 1) (by omega) fun i h1 h2 => by rw [if_neg (by omega), Int.zero_mul], sumN_rev]
      refine Eq.trans ?_ (zz (n - j))
      refine sumN_eq fun i hi => ?_
      show (if j + 1 - 1 - i ≤ j then c (j - (j + 1 - 1 - i)) else 0) * a (n - (j + 1 - 1 - i)) = c i * a (n - j + i)
      rw [if_pos (by omega)]
      congr 2
      · omega
      · omega
  have := zr_of (low j hj _ hR) 0
  have e : (if 0 ≤ j then c (j - 0) else 0) = 0 := this
  rwa [if_pos (by omega)] at e
theorem reduce_eq {fr : List Known} {col : List Int} {j : Nat} (h : fr.length = j) : reduce fr col = (fr.take fr.length).foldl putOne (col, List.replicate j 0 ++ [1]) := by
  rw [reduce, List.take_length, h]
/-- the columns that were free -/
theorem frees_ok {a : Nat → Int} {m k : Nat} (hA : Ann a m) (low : Low ⟨a⟩ k) (hb : ∀ j i, j ≤ k → i < m → (a (j + i)).natAbs < 2 ^ 60) : ∀ j, j ≤ k → (frees a m j).length = j ∧ FrOk a m (frees a m j)
  | 0, _ => ⟨rfl, fun s kn h => by cases h⟩
  | j + 1, hj => by
    obtain ⟨hl, hf⟩ := frees_ok hA low hb j (by omega)
    have st := fold_ok hf (Nat.le_of_eq hl) (start_ok (fun i hi => hb j i (by omega) hi)) (frees a m j).length (Nat.le_refl _)
    rw [← reduce_eq hl, List.take_length, hl] at st
    have hp : ∃ p, placeOf (reduce (frees a m j) (colAt a m j)).1 = some p := by
      cases q : placeOf (reduce (frees a m j) (colAt a m j)).1 with
      | some p => exact ⟨p, rfl⟩
      | none =>
        have z := place_none _ _ q
        exact absurd (along_low (j := j) hA low (by omega) fun n hn => by rw [← st.eq n hn]; exact z n) st.top
    obtain ⟨p, ep⟩ := hp
    obtain ⟨_, p2, p3⟩ := place_some _ _ _ ep
    rw [Nat.sub_zero] at p2 p3
    have hfr : frees a m (j + 1) = frees a m j ++ [(p, reduce (frees a m j) (colAt a m j))] := by rw [frees, ep]; rfl
    rw [hfr]
    refine ⟨by rw [List.length_append, hl]; rfl, fun s kn h => ?_⟩
    by_cases hs : s < j
    · rw [List.getElem?_append_left (by omega)] at h
      rw [List.take_append_of_le_length (by omega)]
      exact hf s kn h
    · have hs2 : s = j := by
        have := (List.getElem?_eq_some_iff.mp h).1
        rw [List.length_append, hl] at this
        simp only [List.length_singleton] at this
        omega
      subst hs2
      rw [List.getElem?_append_right (by omega), hl, Nat.sub_self] at h
      cases h
      rw [List.take_append_of_le_length (by omega), List.take_of_length_le (by omega)]
      exact ⟨st, by rw [← st.lc]; exact p2, p3⟩
/-- a sum of the columns ahead with noughts at all places -/
theorem comb_zero {a : Nat → Int} {m : Nat} {fr : List Known} (hf : FrOk a m fr) : ∀ (j : Nat) (d : Nat → Int), j ≤ fr.length → (∀ s kn, s < j → fr[s]? = some kn → along d j a kn.1 = 0) → ∀ i, i < j → d i = 0
  | 0, d, _, _, i, hi => by omega
  | j + 1, d, hj, hz, i, hi => by
    have hk := List.getElem?_eq_getElem (l := fr) (i := j) (by omega)
    obtain ⟨kn, ekn⟩ : ∃ kn, kn = fr[j] := ⟨_, rfl⟩
    rw [← ekn] at hk
    have K := hf j kn hk
    have dj : ∀ i, i < j → d i * kn.2.2.getD j 0 - d j * kn.2.2.getD i 0 = 0 := by
      refine comb_zero hf j _ (by omega) fun s ks hs hks => ?_
      have hlast : along (fun i => d i * kn.2.2.getD j 0 - d j * kn.2.2.getD i 0) (j + 1) a ks.1 = along (fun i => d i * kn.2.2.getD j 0 - d j * kn.2.2.getD i 0) j a ks.1 := along_more (by omega) fun i h1 h2 => by rw [show i = j by omega]; omega
      rw [← hlast, along_lin, hz s ks (by omega) hks, ← K.st.eq ks.1 (hf s ks hks).lt]
      have : kn.2.1.getD ks.1 0 = 0 := by
        refine K.st.zer ks.1 (List.mem_map.mpr ⟨ks, ?_, rfl⟩)
        have : (fr.take j)[s]? = some ks := by rw [List.getElem?_take_of_lt hs]; exact hks
        exact List.mem_of_getElem? this
      rw [this]
      simp
    have top : d j = 0 := by
      have hlast : along (fun i => d i * kn.2.2.getD j 0 - d j * kn.2.2.getD i 0) (j + 1) a kn.1 = 0 := sumN_zero fun i hi => by
        by_cases e : i < j
        · show (d i * kn.2.2.getD j 0 - d j * kn.2.2.getD i 0) * _ = 0
          rw [dj i e, Int.zero_mul]
        · show (d i * kn.2.2.getD j 0 - d j * kn.2.2.getD i 0) * _ = 0
          rw [show i = j by omega, Int.sub_self, Int.zero_mul]
      rw [along_lin, hz j kn (by omega) hk, ← K.st.eq kn.1 K.lt] at hlast
      have : d j * kn.2.1.getD kn.1 0 = 0 := by omega
      rcases Int.mul_eq_zero.mp this with e | e
      · exact e
      · exact absurd e K.nz
    by_cases e : i < j
    · have := dj i e
      rw [top, Int.zero_mul, Int.sub_zero] at this
      rcases Int.mul_eq_zero.mp this with e | e
      · exact e
      · exact absurd e K.st.top
    · rw [show i = j by omega]; exact top
theorem elim_ok (a : Nat → Int) (m : Nat) (r : Rule) (hL : Least r a) (hA : Ann a m) (hm : m ≤ 6) (hb : ∀ i, i < 12 → (a i).natAbs < 2 ^ 60) : ElimOk a m r := by
  obtain ⟨k, ek⟩ : ∃ k, k = r.2.length := ⟨_, rfl⟩
  have hk : k ≤ m := ek ▸ hL.le hA
  have low : Low ⟨a⟩ k := ek ▸ hL.low
  have hb' : ∀ j i, j ≤ k → i < m → (a (j + i)).natAbs < 2 ^ 60 := fun j i h1 h2 => hb _ (by omega)
  have all := frees_ok hA low hb'
  have stj : ∀ j, j ≤ k → ∀ t, t ≤ j → StOk a m j (bd t) (((frees a m j).take t).map (·.1)) (stAt (frees a m j) (colAt a m j) t) := fun j hj t ht => by
    have h := all j hj
    have := fold_ok h.2 (Nat.le_of_eq h.1) (start_ok (fun i hi => hb' j i hj hi)) t (by rw [h.1]; exact ht)
    rw [stAt, h.1]
    exact this
  have red : ∀ j, j ≤ k → StOk a m j (bd j) ((frees a m j).map (·.1)) (reduce (frees a m j) (colAt a m j)) := fun j hj => by
    have h := all j hj
    have := stj j hj j (Nat.le_refl j)
    rw [stAt, h.1] at this
    rw [reduce_eq h.1, h.1]
    rwa [List.take_of_length_le (by rw [h.1]; exact Nat.le_refl j)] at this ⊢
  have sml : ∀ e, e ≤ k → ∀ x : Int, x.natAbs < 2 ^ bd e → x.natAbs < 2 ^ 3999 := fun e he x hx => by
    refine Nat.lt_of_lt_of_le hx (Nat.pow_le_pow_right (by decide) ?_)
    have := bd_mono (show e ≤ 6 by omega)
    have : bd 6 = 3903 := rfl
    omega
  have S := red k (Nat.le_refl k)
  have F := all k (Nat.le_refl k)
  obtain ⟨ps, eps⟩ : ∃ ps, ps = (reduce (frees a m k) (colAt a m k)).2 := ⟨_, rfl⟩
  -- the rule as it reads the row ahead
  have hg : ∀ n, a (n + k) = along (fun i => r.2.getD (k - 1 - i) 0) k a n := fun n => by
    have := hL.gen.step n
    rw [← ek] at this
    rw [this, sumN_rev, along]
    refine sumN_eq fun i hi => ?_
    congr 2
    omega
  have hrow : ∀ n, along (fun i => ps.getD i 0) (k + 1) a n = along (fun i => ps.getD i 0 + ps.getD k 0 * r.2.getD (k - 1 - i) 0) k a n := fun n => by
    show along (fun i => ps.getD i 0) k a n + ps.getD k 0 * a (n + k) = _
    rw [hg n, along, along, along, ← sumN_mul, ← sumN_add]
    exact sumN_eq fun i _ => by grind
  have hd : ∀ i, i < k → ps.getD i 0 + ps.getD k 0 * r.2.getD (k - 1 - i) 0 = 0 := by
    refine comb_zero F.2 k _ (by rw [F.1]; exact Nat.le_refl k) fun s kn hs hks => ?_
    rw [← hrow, eps, ← S.eq kn.1 (F.2 s kn hks).lt]
    exact S.zer kn.1 (List.mem_map.mpr ⟨kn, List.mem_of_getElem? hks, rfl⟩)
  have hc : ∀ n, (reduce (frees a m k) (colAt a m k)).1.getD n 0 = 0 := fun n => by
    by_cases e : n < m
    · rw [S.eq n e, ← eps, hrow]
      exact sumN_zero fun i hi => by
        show (ps.getD i 0 + ps.getD k 0 * r.2.getD (k - 1 - i) 0) * _ = 0
        rw [hd i hi, Int.zero_mul]
    · exact getD_out (by rw [S.lc]; omega)
  have lps : ps.length = k + 1 := eps ▸ S.lp
  have unit : ps.getD k 0 = 1 ∨ ps.getD k 0 = -1 := by
    have : (ps.getD k 0).natAbs ∣ gcdL ((reduce (frees a m k) (colAt a m k)).1 ++ (reduce (frees a m k) (colAt a m k)).2) := by
      refine dvd_gcdL fun x hx => ?_
      rw [Int.natAbs_dvd]
      rcases List.mem_append.mp hx with hx | hx
      · obtain ⟨i, hi, rfl⟩ := List.mem_iff_getElem.mp hx
        have := hc i
        rw [List.getD_eq_getElem?_getD, List.getElem?_eq_getElem hi] at this
        have this : (reduce (frees a m k) (colAt a m k)).1[i] = 0 := this
        rw [this]
        exact Int.dvd_zero _
      · rw [← eps] at hx
        obtain ⟨i, hi, rfl⟩ := List.mem_iff_getElem.mp hx
        have e : ps.getD i 0 = ps[i] := by rw [List.getD_eq_getElem?_getD, List.getElem?_eq_getElem hi]; rfl
        rw [← e]
        by_cases q : i < k
        · have : ps.getD i 0 = ps.getD k 0 * (- r.2.getD (k - 1 - i) 0) := by
            have := hd i q
            rw [Int.mul_neg]
            omega
          rw [this]
          exact Int.dvd_mul_right _ _
        · rw [show i = k by omega]
          exact Int.dvd_refl _
    rw [S.one] at this
    have := Nat.dvd_one.mp this
    omega
  refine ⟨ek ▸ hk, fun j hj => ?_, ?_, fun j hj => ?_, ?_, ?_, ?_, ?_⟩
  · rw [← ek] at hj
    cases q : placeOf (reduce (frees a m j) (colAt a m j)).1 with
    | some p => exact ⟨p, rfl⟩
    | none =>
      have st := red j (by omega)
      have z := place_none _ _ q
      exact absurd (along_low hA low hj fun n hn => by rw [← st.eq n hn]; exact z n) st.top
  · rw [← ek]
    exact place_zero _ _ hc
  · rw [← ek] at hj
    have h := all j hj
    refine ⟨h.1.symm, by rw [h.1]; omega, by rw [colAt_len]; omega, fun kn hkn => ?_, fun kn hkn => ?_, fun t ht => ?_⟩
    · obtain ⟨s, hs, e⟩ := List.mem_iff_getElem.mp hkn
      have K := h.2 s kn (by rw [List.getElem?_eq_getElem hs, e])
      rw [colAt_len]
      exact ⟨K.lt, K.st.lc, by rw [K.st.lp]; omega⟩
    · obtain ⟨s, hs, e⟩ := List.mem_iff_getElem.mp hkn
      have K := h.2 s kn (by rw [List.getElem?_eq_getElem hs, e])
      rw [h.1] at hs
      exact ⟨fun x hx => sml s (by omega) x (K.st.bd x (List.mem_append_left _ hx)), fun x hx => sml s (by omega) x (K.st.bd x (List.mem_append_right _ hx))⟩
    · rw [h.1] at ht
      have st := stj j hj t ht
      exact ⟨fun x hx => sml t (by omega) x (st.bd x (List.mem_append_left _ hx)), fun x hx => sml t (by omega) x (st.bd x (List.mem_append_right _ hx))⟩
  · rw [← ek, ← eps]
    exact unit
  · rw [← ek, ← eps]
    exact lps
  · rw [← ek, ← eps]
    apply List.ext_getElem?
    intro b
    by_cases hbk : b < k
    · rw [List.getElem?_reverse (by rw [List.length_map, List.length_take, lps]; omega), List.length_map, List.length_take, lps, List.getElem?_map, List.getElem?_take_of_lt (by omega), List.getElem?_eq_getElem (by omega), List.getElem?_eq_getElem (l := ps) (by omega)]
      show _ = some _
      congr 1
      have e1 : r.2[b]'(by omega) = r.2.getD b 0 := by rw [List.getD_eq_getElem?_getD, List.getElem?_eq_getElem (by omega)]; rfl
      have e2 : ps[min k (k + 1) - 1 - b]'(by omega) = ps.getD (k - 1 - b) 0 := by
        rw [List.getD_eq_getElem?_getD, List.getElem?_eq_getElem (by omega)]
        show _ = ps[k - 1 - b]
        congr 1
        omega
      rw [e1, e2]
      have := hd (k - 1 - b) (by omega)
      rw [show k - 1 - (k - 1 - b) = b by omega] at this
      rcases unit with u | u
      · rw [u] at this ⊢
        show _ = (- ps.getD (k - 1 - b) 0).fdiv 1
        rw [Int.fdiv_one]
        omega
      · rw [u] at this ⊢
        show _ = (- ps.getD (k - 1 - b) 0).fdiv (-1)
        have e3 : ps.getD (k - 1 - b) 0 = r.2.getD b 0 := by omega
        rw [e3]
        have : -(r.2.getD b 0) = r.2.getD b 0 * (-1) := by omega
        rw [this, Int.mul_fdiv_cancel _ (by decide)]
    · rw [List.getElem?_eq_none (by omega), List.getElem?_eq_none (by rw [List.length_reverse, List.length_map, List.length_take, lps]; omega)]
  · exact hL.gen.fst
end KM
end
section
/-! Rows of formats. -/
namespace KM
open K19
abbrev Mv := Nat × Nat × Nat
/-- the sum over the moves from a state -/
def go : List Mv → Nat → (Nat → Int) → Int
  | [], _, _ => 0
  | m :: l, s, v => (if m.1 = s then v m.2.2 else 0) + go l s v
theorem go_app (l1 l2 : List Mv) (s : Nat) (v : Nat → Int) : go (l1 ++ l2) s v = go l1 s v + go l2 s v := by
  induction l1 with
  | nil => rw [List.nil_append]; show _ = 0 + _; omega
  | cons m l ih => rw [List.cons_append, go, go, ih]; omega
theorem go_perm {l1 l2 : List Mv} (h : l1.Perm l2) (s : Nat) (v : Nat → Int) : go l1 s v = go l2 s v := by
  induction h with
  | nil => rfl
  | cons x _ ih => rw [go, go, ih]
  | swap x y l => rw [go, go, go, go]; omega
  | trans _ _ h1 h2 => rw [h1, h2]
theorem go_congr {l : List Mv} {s : Nat} {v u : Nat → Int} (h : ∀ m ∈ l, m.1 = s → v m.2.2 = u m.2.2) : go l s v = go l s u := by
  induction l with
  | nil => rfl
  | cons m l ih =>
    rw [go, go, ih fun x hx => h x (List.mem_cons_of_mem _ hx)]
    congr 1
    split
    · next e => exact h m List.mem_cons_self e
    · rfl
theorem go_none {l : List Mv} {s : Nat} {v : Nat → Int} (h : ∀ m ∈ l, m.1 ≠ s) : go l s v = 0 := by
  induction l with
  | nil => rfl
  | cons m l ih =>
    rw [go, ih fun x hx => h x (List.mem_cons_of_mem _ hx), if_neg (h m List.mem_cons_self)]
    rfl
theorem go_lin (l : List Mv) (s : Nat) (x : Int) (v u : Nat → Int) : go l s (fun t => x * v t + u t) = x * go l s v + go l s u := by
  induction l with
  | nil => simp [go]
  | cons m l ih =>
    rw [go, go, go, ih]
    split
    · rw [Int.mul_add]; omega
    · rw [Int.mul_add]; omega
theorem go_map {l : List Mv} {f : Mv → Mv} {s k d : Nat} {v : Nat → Int} (h1 : ∀ m ∈ l, ((f m).1 = s ↔ m.1 = k)) (h2 : ∀ m ∈ l, (f m).2.2 = m.2.2 + d) : go (l.map f) s v = go l k (fun t => v (t + d)) := by
  induction l with
  | nil => rfl
  | cons m l ih =>
    rw [List.map_cons, go, go, ih (fun x hx => h1 x (List.mem_cons_of_mem _ hx)) (fun x hx => h2 x (List.mem_cons_of_mem _ hx)), h2 m List.mem_cons_self]
    congr 1
    have := h1 m List.mem_cons_self
    by_cases e : m.1 = k
    · rw [if_pos e, if_pos (this.mpr e)]
    · rw [if_neg e, if_neg fun q => e (this.mp q)]
theorem go_filter (l : List Mv) (s : Nat) (v : Nat → Int) : go (l.filter fun m => m.1 == s) s v = go l s v := by
  induction l with
  | nil => rfl
  | cons m l ih =>
    rw [List.filter_cons]
    split
    · rw [go, go, ih]
    · next e =>
      rw [ih, go, if_neg (by simpa using e)]
      omega
/-! ### layers -/
theorem getD_set {f : List Int} {i j : Nat} {x : Int} (h : i < f.length) : (f.set i x).getD j 0 = if i = j then x else f.getD j 0 := by
  rw [List.getD_eq_getElem?_getD, List.getD_eq_getElem?_getD, List.getElem?_set]
  by_cases e : i = j
  · rw [if_pos e, if_pos h, if_pos e]
    rfl
  · rw [if_neg e, if_neg e]
theorem fold_step (l : List Int) : ∀ (ms : List Mv) (f : List Int), (∀ m ∈ ms, m.1 < f.length) → (ms.foldl (nextStep l) f).length = f.length ∧ ∀ s, (ms.foldl (nextStep l) f).getD s 0 = f.getD s 0 + go ms s (fun t => l.getD t 0)
  | [], f, _ => ⟨rfl, fun s => by show f.getD s 0 = f.getD s 0 + (0 : Int); omega⟩
  | m :: ms, f, h => by
    have hl : (nextStep l f m).length = f.length := by rw [nextStep, List.length_set]
    obtain ⟨h1, h2⟩ := fold_step l ms (nextStep l f m) fun x hx => by rw [hl]; exact h x (List.mem_cons_of_mem _ hx)
    rw [List.foldl_cons]
    refine ⟨h1.trans hl, fun s => ?_⟩
    rw [h2, go, nextStep, getD_set (h m List.mem_cons_self)]
    split
    · next e => rw [e]; omega
    · omega
theorem layer_len {w : Fm} (h : ∀ m ∈ w.moves, m.1 < w.size) : ∀ n, (layerAt w n).length = w.size
  | 0 => by simp [layerAt, firstLayer]
  | n + 1 => by
    rw [layerAt, nextLayer]
    have := (fold_step (layerAt w n) w.moves (List.replicate w.size 0) (by simpa using h)).1
    simpa using this
theorem cnt_succ {w : Fm} (h : ∀ m ∈ w.moves, m.1 < w.size) (s n : Nat) : cnt w s (n + 1) = go w.moves s (fun t => cnt w t n) := by
  rw [cnt, layerAt, nextLayer, (fold_step (layerAt w n) w.moves (List.replicate w.size 0) (by simpa using h)).2]
  have : (List.replicate w.size (0 : Int)).getD s 0 = 0 := by
    rw [List.getD_eq_getElem?_getD, List.getElem?_replicate]
    split <;> rfl
  rw [this]
  show 0 + go w.moves s (fun t => cnt w t n) = _
  omega
theorem cnt_zero {w : Fm} {s : Nat} (h : s < w.size) : cnt w s 0 = if s ∈ w.ends then 1 else 0 := by
  rw [cnt, layerAt, firstLayer, List.getD_eq_getElem?_getD, List.getElem?_map, List.getElem?_range h]
  rfl
/-! ### bounds -/
theorem go_bd {l : List Mv} {s : Nat} {v : Nat → Int} {B : Int} (h : ∀ m ∈ l, 0 ≤ v m.2.2 ∧ v m.2.2 ≤ B) : 0 ≤ go l s v ∧ go l s v ≤ (l.filter fun m => m.1 == s).length * B := by
  induction l with
  | nil => simp [go]
  | cons m l ih =>
    obtain ⟨h1, h2⟩ := ih fun x hx => h x (List.mem_cons_of_mem _ hx)
    obtain ⟨h3, h4⟩ := h m List.mem_cons_self
    rw [go, List.filter_cons]
    by_cases e : m.1 = s
    · rw [if_pos e, if_pos (by simpa using e), List.length_cons, Int.natCast_add, Int.add_mul]
      omega
    · rw [if_neg e, if_neg (by simpa using e)]
      omega
theorem cnt_bd {w : Fm} {c : Nat} (h1 : ∀ m ∈ w.moves, m.1 < w.size) (h2 : ∀ m ∈ w.moves, m.2.2 < w.size) (hd : ∀ s, (w.moves.filter fun m => m.1 == s).length ≤ c) : ∀ n s, s < w.size → 0 ≤ cnt w s n ∧ cnt w s n ≤ c ^ n
  | 0, s, hs => by
    rw [cnt_zero hs]
    split <;> simp
  | n + 1, s, hs => by
    rw [cnt_succ h1]
    have := go_bd (l := w.moves) (s := s) (v := fun t => cnt w t n) (B := (c : Int) ^ n) fun m hm => cnt_bd h1 h2 hd n _ (h2 m hm)
    refine ⟨this.1, Int.le_trans this.2 ?_⟩
    rw [Int.pow_succ, Int.mul_comm ((c : Int) ^ n)]
    have h0 : (0 : Int) ≤ (c : Int) ^ n := by
      have : ((c : Int) ^ n) = ((c ^ n : Nat) : Int) := by simp
      rw [this]
      omega
    exact Int.mul_le_mul_of_nonneg_right (Int.ofNat_le.mpr (hd s)) h0
theorem cnt_small {w : Fm} (h : w.Ok) {s n : Nat} (hs : s < w.size) (hn : n < 13) : 0 ≤ cnt w s n ∧ cnt w s n ≤ 531441 := by
  obtain ⟨h1, h2⟩ := cnt_bd h.near h.far h.deg n s hs
  refine ⟨h1, Int.le_trans h2 ?_⟩
  have e : (((3 : Nat) : Int) ^ n) = ((3 ^ n : Nat) : Int) := by simp
  rw [e]
  have : 3 ^ n ≤ 3 ^ 12 := Nat.pow_le_pow_right (by decide) (by omega)
  have : (3 : Nat) ^ 12 = 531441 := by decide
  omega
/-! ### as many terms as states: small sizes -/
def mat (w : Fm) (s j : Nat) : Int := go w.moves s (fun t => if t = j then 1 else 0)
theorem go_mat {l : List Mv} {s n : Nat} {v : Nat → Int} (h : ∀ m ∈ l, m.2.2 < n) : go l s v = sumN (fun j => go l s (fun t => if t = j then 1 else 0) * v j) n := by
  induction l with
  | nil => symm; exact sumN_zero fun i _ => by simp [go]
  | cons m l ih =>
    rw [go, ih fun x hx => h x (List.mem_cons_of_mem _ hx)]
    have : (if m.1 = s then v m.2.2 else 0) = sumN (fun j => (if m.1 = s then (if m.2.2 = j then 1 else 0) else 0) * v j) n := by
      by_cases e : m.1 = s
      · simp only [if_pos e]
        have hm := h m List.mem_cons_self
        rw [sumN_more (n := m.2.2 + 1) (by omega) fun i h1 h2 => by rw [if_neg (by omega), Int.zero_mul], sumN, if_pos rfl, sumN_zero fun i hi => by rw [if_neg (by omega), Int.zero_mul]]
        omega
      · simp only [if_neg e]
        symm
        exact sumN_zero fun i _ => Int.zero_mul _
    rw [this, ← sumN_add]
    exact sumN_eq fun j _ => by rw [go, Int.add_mul]
theorem ann_rec {a : Nat → Int} {fs : List Int} (h : ∀ n, a (n + fs.length) = sumN (fun b => fs.getD b 0 * a (n + fs.length - 1 - b)) fs.length) : Ann a fs.length :=
  gen_ann (r := (seqUp a fs.length, fs)) ⟨seqUp_length _ _, rfl, h⟩
theorem ann_cnt {w : Fm} (h : w.Ok) (h3 : w.size ≤ 3) {s : Nat} (hs : s < w.size) : Ann (cnt w s) w.size := by
  have st : ∀ t n, cnt w t (n + 1) = sumN (fun j => mat w t j * cnt w j n) w.size := fun t n => by
    rw [cnt_succ h.near, go_mat h.far]
    rfl
  generalize hA : mat w = A at st
  have hpos := h.pos
  have hc : w.size = 1 ∨ w.size = 2 ∨ w.size = 3 := by omega
  rcases hc with e | e | e
  · rw [e] at st hs ⊢
    simp only [sumN] at st
    refine ann_rec (fs := [A 0 0]) fun n => ?_
    rw [show s = 0 by omega]
    show cnt w 0 (n + 1) = sumN (fun b => [A 0 0].getD b 0 * cnt w 0 (n + 1 - 1 - b)) 1
    rw [sumN, sumN, st]
    simp
  · rw [e] at st hs ⊢
    simp only [sumN] at st
    refine ann_rec (fs := [A 0 0 + A 1 1, A 0 1 * A 1 0 - A 0 0 * A 1 1]) fun n => ?_
    show cnt w s (n + 1 + 1) = sumN (fun b => [A 0 0 + A 1 1, A 0 1 * A 1 0 - A 0 0 * A 1 1].getD b 0 * cnt w s (n + 2 - 1 - b)) 2
    have e1 : sumN (fun b => [A 0 0 + A 1 1, A 0 1 * A 1 0 - A 0 0 * A 1 1].getD b 0 * cnt w s (n + 2 - 1 - b)) 2 = (A 0 0 + A 1 1) * cnt w s (n + 1) + (A 0 1 * A 1 0 - A 0 0 * A 1 1) * cnt w s n := by
      simp [sumN]
    rw [e1, st s (n + 1), st 0 n, st 1 n, st s n]
    have hs' : s = 0 ∨ s = 1 := by omega
    rcases hs' with rfl | rfl
    · grind
    · grind
  · rw [e] at st hs ⊢
    simp only [sumN] at st
    obtain ⟨c1, hc1⟩ : ∃ c, c = A 0 0 + A 1 1 + A 2 2 := ⟨_, rfl⟩
    obtain ⟨c2, hc2⟩ : ∃ c, c = A 0 1 * A 1 0 + A 0 2 * A 2 0 + A 1 2 * A 2 1 - A 0 0 * A 1 1 - A 0 0 * A 2 2 - A 1 1 * A 2 2 := ⟨_, rfl⟩
    obtain ⟨c3, hc3⟩ : ∃ c, c = A 0 0 * (A 1 1 * A 2 2 - A 1 2 * A 2 1) - A 0 1 * (A 1 0 * A 2 2 - A 1 2 * A 2 0) + A 0 2 * (A 1 0 * A 2 1 - A 1 1 * A 2 0) := ⟨_, rfl⟩
    refine ann_rec (fs := [c1, c2, c3]) fun n => ?_
    show cnt w s (n + 1 + 1 + 1) = sumN (fun b => [c1, c2, c3].getD b 0 * cnt w s (n + 3 - 1 - b)) 3
    have e1 : sumN (fun b => [c1, c2, c3].getD b 0 * cnt w s (n + 3 - 1 - b)) 3 = c1 * cnt w s (n + 1 + 1) + c2 * cnt w s (n + 1) + c3 * cnt w s n := by
      simp [sumN]
    rw [e1, st s (n + 1 + 1), st 0 (n + 1), st 1 (n + 1), st 2 (n + 1), st s (n + 1), st 0 n, st 1 n, st 2 n, st s n, hc1, hc2, hc3]
    have hs' : s = 0 ∨ s = 1 ∨ s = 2 := by omega
    rcases hs' with rfl | rfl | rfl
    · grind
    · grind
    · grind
end KM
end
section
/-! Formats put together; cuts. -/
namespace KM
open K19
/-- a drawn format -/
structure Frm (w : Fm) (c : Nat) : Prop where
  pos : 0 < w.size
  near : ∀ m ∈ w.moves, m.1 < w.size
  far : ∀ m ∈ w.moves, m.2.2 < w.size
  ends : ∀ e ∈ w.ends, e < w.size
  nd : w.ends.Nodup
  fewE : w.ends.length ≤ w.size
  few : w.moves.length ≤ 2 * w.size
  deg : ∀ s, (w.moves.filter fun m => m.1 == s).length ≤ c
theorem nodup_le {l cs : List Nat} (h : l.Nodup) (g : ∀ x ∈ l, x ∈ cs) : l.length ≤ cs.length := by
  induction l generalizing cs with
  | nil => simp
  | cons x l ih =>
    rw [List.nodup_cons] at h
    have hx := g x List.mem_cons_self
    have := ih (cs := cs.erase x) h.2 fun y hy => (List.mem_erase_of_ne (fun e : y = x => h.1 (by rw [← e]; exact hy))).mpr (g y (List.mem_cons_of_mem _ hy))
    rw [List.length_erase_of_mem hx] at this
    have : 0 < cs.length := List.length_pos_of_mem hx
    rw [List.length_cons]
    omega
theorem mok_deg {n : Nat} {cs : List Nat} {M : List Mv} (h : MOk n cs n 0 M) (s : Nat) : (M.filter fun m => m.1 == s).length ≤ cs.length := by
  have e : (M.filter fun m => m.1 == s).length = ((M.filter fun m => m.1 == s).map fun m => m.2.1).length := by rw [List.length_map]
  rw [e]
  refine nodup_le ?_ fun x hx => ?_
  · rw [List.nodup_iff_pairwise_ne, List.pairwise_map]
    refine List.Pairwise.imp_of_mem ?_ (h.up.sublist List.filter_sublist)
    intro a b ha hb hab
    have h1 : a.1 = s := by have := (List.mem_filter.mp ha).2; simpa using this
    have h2 : b.1 = s := by have := (List.mem_filter.mp hb).2; simpa using this
    omega
  · obtain ⟨m, hm, rfl⟩ := List.mem_map.mp hx
    rcases h.at_ m (List.mem_filter.mp hm).1 with q | q
    · exact q.2
    · have := q.2
      simp at this
theorem frm_of {w : Fm} {cs : List Nat} (h0 : 0 < w.size) (h : MOk w.size cs w.size 0 w.moves) (he : w.ends.Sublist (List.range w.size)) : Frm w cs.length where
  pos := h0
  near := fun m hm => by
    rcases h.at_ m hm with q | q
    · exact q.1
    · have := q.2
      simp at this
  far := h.to_
  ends := fun e hx => List.mem_range.mp (he.subset hx)
  nd := List.nodup_range.sublist he
  fewE := by have := he.length_le; rwa [List.length_range] at this
  few := h.len
  deg := mok_deg h
theorem Frm.ok {w : Fm} {c : Nat} (h : Frm w c) (hc : c ≤ 3) (hs : w.size ≤ 6) : w.Ok where
  pos := h.pos
  big := hs
  near := h.near
  far := h.far
  ends := h.ends
  few := by have := h.few; omega
  fewE := by have := h.fewE; omega
  deg := fun s => Nat.le_trans (h.deg s) hc
theorem go_len (l : List Mv) (s : Nat) : go l s (fun _ => 1) = ((l.filter fun m => m.1 == s).length : Int) := by
  induction l with
  | nil => rfl
  | cons m l ih =>
    rw [go, ih, List.filter_cons]
    by_cases e : m.1 = s
    · rw [if_pos e, if_pos (by simpa using e), List.length_cons]; omega
    · rw [if_neg e, if_neg (by simpa using e)]; omega
theorem Frm.go {w : Fm} {c : Nat} (h : Frm w c) (s : Nat) : go w.moves s (fun _ => 1) ≤ (c : Int) := by
  rw [go_len]
  exact Int.ofNat_le.mpr (h.deg s)
theorem go_flat {f : Fm} {N q : Nat} {v : Nat → Int} : ∀ {es : List Nat}, es.Nodup → go (es.flatMap fun s => (f.moves.filter fun m => m.1 == 0).map fun m => (s, m.2.1, m.2.2 + N)) q v = if q ∈ es then go f.moves 0 (fun t => v (t + N)) else 0
  | [], _ => rfl
  | s :: es, h => by
    rw [List.nodup_cons] at h
    rw [List.flatMap_cons, go_app, go_flat h.2]
    by_cases e : q = s
    · subst e
      rw [if_neg h.1, if_pos List.mem_cons_self, go_map (k := 0) (d := N), go_filter]
      · omega
      · intro m hm
        have := (List.mem_filter.mp hm).2
        simp at this
        simp [this]
      · intro m hm
        rfl
    · rw [go_none fun m hm => by
        obtain ⟨x, _, rfl⟩ := List.mem_map.mp hm
        exact fun z => e z.symm]
      rw [Int.zero_add]
      by_cases e2 : q ∈ es
      · rw [if_pos e2, if_pos (List.mem_cons_of_mem _ e2)]
      · rw [if_neg e2, if_neg fun z => (List.mem_cons.mp z).elim e e2]
theorem go_met (l : List Mv) (s : Nat) (c : Nat → Nat → Int) (b : Nat → Int) (k : Nat) : metS (fun i => go l s (fun t => c t i)) b k = go l s (fun t => metS (c t) b k) := by
  induction l with
  | nil => exact sumN_zero fun i _ => by show (0 : Int) * _ = 0; rw [Int.zero_mul]
  | cons m l ih =>
    rw [go, ← ih]
    by_cases e : m.1 = s
    · rw [if_pos e]
      have := met_lin 1 (c m.2.2) (fun i => go l s (fun t => c t i)) b k
      rw [Int.one_mul] at this
      rw [← this]
      congr 1
      funext i
      rw [go, if_pos e, lin]
      omega
    · rw [if_neg e, Int.zero_add]
      congr 1
      funext i
      rw [go, if_neg e]
      omega
/-! ### one behind the other -/
structure Beh (n f B : Fm) : Prop where
  size : B.size = n.size + f.size
  perm : B.moves.Perm (behindRaw n f)
  ends : B.ends = behindEnds n f
section
variable {n f B : Fm} {c d : Nat}
theorem beh_go (hn : Frm n c) (h : Beh n f B) (q : Nat) (v : Nat → Int) : go B.moves q v = go n.moves q v + (if q < n.size then 0 else go f.moves (q - n.size) (fun t => v (t + n.size))) + (if q ∈ n.ends then go f.moves 0 (fun t => v (t + n.size)) else 0) := by
  rw [go_perm h.perm, behindRaw, go_app, go_app, go_flat hn.nd]
  congr 2
  by_cases e : q < n.size
  · rw [if_pos e]
    exact go_none fun m hm => by
      obtain ⟨x, _, rfl⟩ := List.mem_map.mp hm
      show x.1 + n.size ≠ q
      omega
  · rw [if_neg e]
    refine go_map (fun m _ => ?_) (fun m _ => rfl)
    show m.1 + n.size = q ↔ m.1 = q - n.size
    omega
theorem beh_mem (h : Beh n f B) {m : Mv} (hm : m ∈ B.moves) : m ∈ n.moves ∨ (∃ x ∈ f.moves, m = shiftM n.size x) ∨ ∃ s ∈ n.ends, ∃ x ∈ f.moves, x.1 = 0 ∧ m = (s, x.2.1, x.2.2 + n.size) := by
  have := h.perm.mem_iff.mp hm
  rw [behindRaw, List.mem_append, List.mem_append, List.mem_map, List.mem_flatMap] at this
  rcases this with (q | ⟨x, hx, e⟩) | ⟨s, hs, q⟩
  · exact .inl q
  · exact .inr (.inl ⟨x, hx, e.symm⟩)
  · obtain ⟨x, hx, e⟩ := List.mem_map.mp q
    have hx := List.mem_filter.mp hx
    exact .inr (.inr ⟨s, hs, x, hx.1, by simpa using hx.2, e.symm⟩)
theorem beh_near (hn : Frm n c) (hf : Frm f d) (h : Beh n f B) : ∀ m ∈ B.moves, m.1 < B.size := fun m hm => by
  rw [h.size]
  rcases beh_mem h hm with q | ⟨x, hx, rfl⟩ | ⟨s, hs, x, hx, _, rfl⟩
  · have := hn.near m q; omega
  · have := hf.near x hx; show x.1 + n.size < _; omega
  · have := hn.ends s hs; show s < _; omega
theorem beh_far (hn : Frm n c) (hf : Frm f d) (h : Beh n f B) : ∀ m ∈ B.moves, m.2.2 < B.size := fun m hm => by
  rw [h.size]
  rcases beh_mem h hm with q | ⟨x, hx, rfl⟩ | ⟨s, hs, x, hx, _, rfl⟩
  · have := hn.far m q; omega
  · have := hf.far x hx; show x.2.2 + n.size < _; omega
  · have := hf.far x hx; show x.2.2 + n.size < _; omega
theorem beh_mem_ends (hn : Frm n c) (h : Beh n f B) (s : Nat) : s ∈ B.ends ↔ (0 ∈ f.ends ∧ s ∈ n.ends) ∨ (n.size ≤ s ∧ s - n.size ∈ f.ends) := by
  have e2 : s ∈ f.ends.map (· + n.size) ↔ n.size ≤ s ∧ s - n.size ∈ f.ends := by
    rw [List.mem_map]
    constructor
    · rintro ⟨x, hx, rfl⟩
      exact ⟨by omega, by rw [Nat.add_sub_cancel]; exact hx⟩
    · rintro ⟨h1, h2⟩
      exact ⟨_, h2, by omega⟩
  rw [h.ends, behindEnds]
  by_cases e : 0 ∈ f.ends
  · rw [if_pos e, List.mem_append, e2]
    simp [e]
  · rw [if_neg e, e2]
    simp [e]
theorem beh_ok (hn : Frm n c) (hf : Frm f d) (h : Beh n f B) (hcd : c + d ≤ 3) (h3 : n.size ≤ 3) (h2 : f.size ≤ 3) : B.Ok where
  pos := by have := hn.pos; have := h.size; omega
  big := by rw [h.size]; omega
  near := beh_near hn hf h
  far := beh_far hn hf h
  ends := fun e he => by
    rw [h.size]
    rcases (beh_mem_ends hn h e).mp he with q | q
    · have := hn.ends e q.2; omega
    · have := hf.ends _ q.2; omega
  few := by
    rw [h.perm.length_eq, behindRaw, List.length_append, List.length_append, List.length_map]
    have h1 := hn.few
    have h2' := hf.few
    have h3' := hn.fewE
    have h4 : (n.ends.flatMap fun s => (f.moves.filter fun m => m.1 == 0).map fun m => (s, m.2.1, m.2.2 + n.size)).length ≤ n.ends.length * d := by
      generalize n.ends = es
      induction es with
      | nil => simp
      | cons s es ih =>
        rw [List.flatMap_cons, List.length_append, List.length_map, List.length_cons, Nat.succ_mul]
        have := hf.deg 0
        omega
    have h5 : n.ends.length * d ≤ 3 * 3 := Nat.mul_le_mul (by omega) (by omega)
    omega
  fewE := by
    rw [h.ends, behindEnds]
    have h1 := hn.fewE
    have h2' := hf.fewE
    split
    · rw [List.length_append, List.length_map]; omega
    · rw [List.length_map]; omega
  deg := fun s => by
    have e := beh_go hn h s (fun _ => 1)
    rw [go_len B.moves] at e
    have h1 := hn.go s
    have h2' := hf.go (s - n.size)
    have h3' := hf.go 0
    have goal : ((B.moves.filter fun m => m.1 == s).length : Int) ≤ 3 := ?_
    exact Int.ofNat_le.mp goal
    by_cases q : s < n.size
    · rw [if_pos q] at e
      rw [e]
      split <;> omega
    · have : s ∉ n.ends := fun z => q (hn.ends s z)
      rw [if_neg q, if_neg this] at e
      rw [e, go_none fun m hm => by have := hn.near m hm; omega]
      omega
theorem beh_after (hn : Frm n c) (hf : Frm f d) (h : Beh n f B) : ∀ (k t : Nat), t < f.size → cnt B (t + n.size) k = cnt f t k
  | 0, t, ht => by
    rw [cnt_zero (by rw [h.size]; omega), cnt_zero ht]
    have : t + n.size ∈ B.ends ↔ t ∈ f.ends := by
      rw [beh_mem_ends hn h, Nat.add_sub_cancel]
      constructor
      · rintro (q | q)
        · have := hn.ends _ q.2; omega
        · exact q.2
      · intro q
        exact .inr ⟨by omega, q⟩
    by_cases e : t ∈ f.ends
    · rw [if_pos e, if_pos (this.mpr e)]
    · rw [if_neg e, if_neg fun z => e (this.mp z)]
  | k + 1, t, ht => by
    rw [cnt_succ (beh_near hn hf h), cnt_succ hf.near, beh_go hn h, if_neg (by omega), if_neg fun z => by have := hn.ends _ z; omega, Nat.add_sub_cancel, go_none fun m hm => by have := hn.near m hm; omega]
    rw [Int.zero_add, Int.add_zero]
    exact go_congr fun m hm _ => beh_after hn hf h k _ (hf.far m hm)
theorem beh_cnt (hn : Frm n c) (hf : Frm f d) (h : Beh n f B) : ∀ (k s : Nat), s < n.size → cnt B s k = metS (cnt n s) (cnt f 0) k
  | 0, s, hs => by
    rw [met_zero, cnt_zero (by rw [h.size]; omega), cnt_zero hs, cnt_zero hf.pos]
    have : s ∈ B.ends ↔ 0 ∈ f.ends ∧ s ∈ n.ends := by
      rw [beh_mem_ends hn h]
      constructor
      · rintro (q | q)
        · exact q
        · omega
      · exact .inl
    by_cases e1 : 0 ∈ f.ends
    · by_cases e2 : s ∈ n.ends
      · rw [if_pos e1, if_pos e2, if_pos (this.mpr ⟨e1, e2⟩)]; rfl
      · rw [if_neg e2, if_neg fun z => e2 (this.mp z).2]; omega
    · rw [if_neg e1, if_neg fun z => e1 (this.mp z).1]; omega
  | k + 1, s, hs => by
    rw [met_left, cnt_succ (beh_near hn hf h), beh_go hn h, if_pos hs, cnt_zero hs]
    have e1 : go n.moves s (fun t => cnt B t k) = metS (tail (cnt n s)) (cnt f 0) k := by
      have : tail (cnt n s) = fun i => go n.moves s (fun t => cnt n t i) := funext fun i => cnt_succ hn.near s i
      rw [this, go_met n.moves s (fun t i => cnt n t i)]
      exact go_congr fun m hm _ => beh_cnt hn hf h k _ (hn.far m hm)
    have e2 : go f.moves 0 (fun t => cnt B (t + n.size) k) = cnt f 0 (k + 1) := by
      rw [cnt_succ hf.near]
      exact go_congr fun m hm _ => beh_after hn hf h k _ (hf.far m hm)
    rw [e1, e2]
    by_cases e : s ∈ n.ends
    · rw [if_pos e, if_pos e]; omega
    · rw [if_neg e, if_neg e]; omega
theorem beh_ann (hn : Frm n c) (hf : Frm f d) (h : Beh n f B) (hc : c ≤ 3) (hd : d ≤ 3) (h3 : n.size ≤ 3) (h2 : f.size ≤ 3) : Ann (cnt B 0) B.size := by
  rw [h.size]
  exact ann_congr (ann_met (ann_cnt (hn.ok hc (by omega)) h3 hn.pos) (ann_cnt (hf.ok hd (by omega)) h2 hf.pos)) fun k => (beh_cnt hn hf h k 0 hn.pos).symm
end
/-! ### side by side -/
structure Bes (n f B : Fm) : Prop where
  size : B.size = 1 + n.size + f.size
  perm : B.moves.Perm (besideRaw n f)
  ends : B.ends = besideEnds n f
section
variable {n f B : Fm} {c d : Nat}
theorem bes_mem (h : Bes n f B) {m : Mv} (hm : m ∈ B.moves) : (∃ x ∈ n.moves, x.1 = 0 ∧ m = (0, x.2.1, x.2.2 + 1)) ∨ (∃ x ∈ f.moves, x.1 = 0 ∧ m = (0, x.2.1, x.2.2 + 1 + n.size)) ∨ (∃ x ∈ n.moves, m = shiftM 1 x) ∨ ∃ x ∈ f.moves, m = shiftM (1 + n.size) x := by
  have := h.perm.mem_iff.mp hm
  rw [besideRaw, List.mem_append, List.mem_append, List.mem_append, List.mem_map, List.mem_map, List.mem_map, List.mem_map] at this
  rcases this with ((⟨x, hx, e⟩ | ⟨x, hx, e⟩) | ⟨x, hx, e⟩) | ⟨x, hx, e⟩
  · have hx := List.mem_filter.mp hx
    exact .inl ⟨x, hx.1, by simpa using hx.2, e.symm⟩
  · have hx := List.mem_filter.mp hx
    exact .inr (.inl ⟨x, hx.1, by simpa using hx.2, e.symm⟩)
  · exact .inr (.inr (.inl ⟨x, hx, e.symm⟩))
  · exact .inr (.inr (.inr ⟨x, hx, e.symm⟩))
theorem bes_near (hn : Frm n c) (hf : Frm f d) (h : Bes n f B) : ∀ m ∈ B.moves, m.1 < B.size := fun m hm => by
  rw [h.size]
  rcases bes_mem h hm with ⟨x, hx, _, rfl⟩ | ⟨x, hx, _, rfl⟩ | ⟨x, hx, rfl⟩ | ⟨x, hx, rfl⟩
  · show 0 < _; omega
  · show 0 < _; omega
  · have := hn.near x hx; show x.1 + 1 < _; omega
  · have := hf.near x hx; show x.1 + (1 + n.size) < _; omega
theorem bes_far (hn : Frm n c) (hf : Frm f d) (h : Bes n f B) : ∀ m ∈ B.moves, m.2.2 < B.size := fun m hm => by
  rw [h.size]
  rcases bes_mem h hm with ⟨x, hx, _, rfl⟩ | ⟨x, hx, _, rfl⟩ | ⟨x, hx, rfl⟩ | ⟨x, hx, rfl⟩
  · have := hn.far x hx; show x.2.2 + 1 < _; omega
  · have := hf.far x hx; show x.2.2 + 1 + n.size < _; omega
  · have := hn.far x hx; show x.2.2 + 1 < _; omega
  · have := hf.far x hx; show x.2.2 + (1 + n.size) < _; omega
theorem bes_go (hn : Frm n c) (hf : Frm f d) (h : Bes n f B) (q : Nat) (v : Nat → Int) : go B.moves q v =
    if q = 0 then go n.moves 0 (fun t => v (t + 1)) + go f.moves 0 (fun t => v (t + (1 + n.size))) else if q ≤ n.size then go n.moves (q - 1) (fun t => v (t + 1)) else go f.moves (q - (1 + n.size)) (fun t => v (t + (1 + n.size))) := by
  rw [go_perm h.perm, besideRaw, go_app, go_app, go_app]
  have g1 : go ((n.moves.filter fun m => m.1 == 0).map fun m => (0, m.2.1, m.2.2 + 1)) q v = if q = 0 then go n.moves 0 (fun t => v (t + 1)) else 0 := by
    by_cases e : q = 0
    · rw [if_pos e, go_map (k := 0) (d := 1) (fun m hm => by
        have := (List.mem_filter.mp hm).2
        simp at this
        simp [this, e]) fun m _ => rfl, go_filter]
    · rw [if_neg e]
      exact go_none fun m hm => by
        obtain ⟨x, _, rfl⟩ := List.mem_map.mp hm
        exact fun z => e z.symm
  have g2 : go ((f.moves.filter fun m => m.1 == 0).map fun m => (0, m.2.1, m.2.2 + 1 + n.size)) q v = if q = 0 then go f.moves 0 (fun t => v (t + (1 + n.size))) else 0 := by
    by_cases e : q = 0
    · rw [if_pos e, go_map (k := 0) (d := 1 + n.size) (fun m hm => by
        have := (List.mem_filter.mp hm).2
        simp at this
        simp [this, e]) fun m _ => Nat.add_assoc _ _ _, go_filter]
    · rw [if_neg e]
      exact go_none fun m hm => by
        obtain ⟨x, _, rfl⟩ := List.mem_map.mp hm
        exact fun z => e z.symm
  have g3 : go (n.moves.map (shiftM 1)) q v = if q = 0 then 0 else if q ≤ n.size then go n.moves (q - 1) (fun t => v (t + 1)) else 0 := by
    by_cases e : q = 0
    · rw [if_pos e]
      exact go_none fun m hm => by
        obtain ⟨x, _, rfl⟩ := List.mem_map.mp hm
        show x.1 + 1 ≠ q
        omega
    · rw [if_neg e]
      by_cases e2 : q ≤ n.size
      · rw [if_pos e2]
        refine go_map (fun m _ => ?_) fun m _ => rfl
        show m.1 + 1 = q ↔ m.1 = q - 1
        omega
      · rw [if_neg e2]
        exact go_none fun m hm => by
          obtain ⟨x, hx, rfl⟩ := List.mem_map.mp hm
          have := hn.near x hx
          show x.1 + 1 ≠ q
          omega
  have g4 : go (f.moves.map (shiftM (1 + n.size))) q v = if q ≤ n.size then 0 else go f.moves (q - (1 + n.size)) (fun t => v (t + (1 + n.size))) := by
    by_cases e2 : q ≤ n.size
    · rw [if_pos e2]
      exact go_none fun m hm => by
        obtain ⟨x, hx, rfl⟩ := List.mem_map.mp hm
        show x.1 + (1 + n.size) ≠ q
        omega
    · rw [if_neg e2]
      refine go_map (fun m _ => ?_) fun m _ => rfl
      show m.1 + (1 + n.size) = q ↔ m.1 = q - (1 + n.size)
      omega
  rw [g1, g2, g3, g4]
  by_cases e : q = 0
  · rw [if_pos e, if_pos e, if_pos e, if_pos e, if_pos (by omega)]; omega
  · rw [if_neg e, if_neg e, if_neg e, if_neg e]
    by_cases e2 : q ≤ n.size
    · rw [if_pos e2, if_pos e2, if_pos e2]; omega
    · rw [if_neg e2, if_neg e2, if_neg e2]; omega
theorem bes_mem_ends (hn : Frm n c) (h : Bes n f B) (s : Nat) : s ∈ B.ends ↔ if s = 0 then 0 ∈ n.ends ∨ 0 ∈ f.ends else if s ≤ n.size then s - 1 ∈ n.ends else s - (1 + n.size) ∈ f.ends := by
  rw [h.ends, besideEnds, List.mem_append, List.mem_append, List.mem_map, List.mem_map]
  by_cases e : s = 0
  · rw [if_pos e]
    subst e
    constructor
    · rintro (q | ⟨x, _, q⟩ | ⟨x, _, q⟩)
      · split at q
        · assumption
        · cases q
      · omega
      · omega
    · intro q
      rw [if_pos q]
      exact .inl (List.mem_singleton.mpr rfl)
  · rw [if_neg e]
    have h0 : s ∉ (if 0 ∈ n.ends ∨ 0 ∈ f.ends then [0] else []) := fun z => by
      split at z
      · exact e (List.mem_singleton.mp z)
      · cases z
    by_cases e2 : s ≤ n.size
    · rw [if_pos e2]
      constructor
      · rintro (q | ⟨x, hx, q⟩ | ⟨x, hx, q⟩)
        · exact absurd q h0
        · rw [show s - 1 = x by omega]; exact hx
        · omega
      · intro q
        exact .inr (.inl ⟨_, q, by omega⟩)
    · rw [if_neg e2]
      constructor
      · rintro (q | ⟨x, hx, q⟩ | ⟨x, hx, q⟩)
        · exact absurd q h0
        · have := hn.ends x hx; omega
        · rw [show s - (1 + n.size) = x by omega]; exact hx
      · intro q
        exact .inr (.inr ⟨_, q, by omega⟩)
theorem bes_ok (hn : Frm n c) (hf : Frm f d) (h : Bes n f B) (hc : c ≤ 2) (hd : d ≤ 1) (h3 : n.size ≤ 3) (h2 : f.size ≤ 2) : B.Ok where
  pos := by have := h.size; omega
  big := by rw [h.size]; omega
  near := bes_near hn hf h
  far := bes_far hn hf h
  ends := fun e he => by
    rw [h.size]
    have := (bes_mem_ends hn h e).mp he
    split at this
    · omega
    · split at this
      · omega
      · have := hf.ends _ this; omega
  few := by
    rw [h.perm.length_eq, besideRaw, List.length_append, List.length_append, List.length_append, List.length_map, List.length_map, List.length_map, List.length_map]
    have h1 := hn.few
    have h2' := hf.few
    have h3' := List.length_filter_le (fun m : Nat × Nat × Nat => m.1 == 0) n.moves
    have h4' := List.length_filter_le (fun m : Nat × Nat × Nat => m.1 == 0) f.moves
    omega
  fewE := by
    rw [h.ends, besideEnds, List.length_append, List.length_append, List.length_map, List.length_map]
    have h1 := hn.fewE
    have h2' := hf.fewE
    have : (if 0 ∈ n.ends ∨ 0 ∈ f.ends then [0] else []).length ≤ 1 := by split <;> simp
    omega
  deg := fun s => by
    have e := bes_go hn hf h s (fun _ => 1)
    rw [go_len B.moves] at e
    have h1 := hn.go 0
    have h1' := hn.go (s - 1)
    have h2' := hf.go (s - (1 + n.size))
    have h3' := hf.go 0
    have goal : ((B.moves.filter fun m => m.1 == s).length : Int) ≤ 3 := ?_
    exact Int.ofNat_le.mp goal
    rw [e]
    split
    · omega
    · split <;> omega
theorem bes_one (hn : Frm n c) (hf : Frm f d) (h : Bes n f B) : ∀ (k t : Nat), t < n.size → cnt B (t + 1) k = cnt n t k
  | 0, t, ht => by
    rw [cnt_zero (by rw [h.size]; omega), cnt_zero ht]
    have := bes_mem_ends hn h (t + 1)
    rw [if_neg (by omega), if_pos (by omega), Nat.add_sub_cancel] at this
    by_cases e : t ∈ n.ends
    · rw [if_pos e, if_pos (this.mpr e)]
    · rw [if_neg e, if_neg fun z => e (this.mp z)]
  | k + 1, t, ht => by
    rw [cnt_succ (bes_near hn hf h), cnt_succ hn.near, bes_go hn hf h, if_neg (by omega), if_pos (by omega), Nat.add_sub_cancel]
    exact go_congr fun m hm _ => bes_one hn hf h k _ (hn.far m hm)
theorem bes_other (hn : Frm n c) (hf : Frm f d) (h : Bes n f B) : ∀ (k t : Nat), t < f.size → cnt B (t + (1 + n.size)) k = cnt f t k
  | 0, t, ht => by
    rw [cnt_zero (by rw [h.size]; omega), cnt_zero ht]
    have := bes_mem_ends hn h (t + (1 + n.size))
    rw [if_neg (by omega), if_neg (by omega), Nat.add_sub_cancel] at this
    by_cases e : t ∈ f.ends
    · rw [if_pos e, if_pos (this.mpr e)]
    · rw [if_neg e, if_neg fun z => e (this.mp z)]
  | k + 1, t, ht => by
    rw [cnt_succ (bes_near hn hf h), cnt_succ hf.near, bes_go hn hf h, if_neg (by omega), if_neg (by omega), Nat.add_sub_cancel]
    exact go_congr fun m hm _ => bes_other hn hf h k _ (hf.far m hm)
theorem bes_cnt (hn : Frm n c) (hf : Frm f d) (h : Bes n f B) (k : Nat) : cnt B 0 (k + 1) = cnt n 0 (k + 1) + cnt f 0 (k + 1) := by
  rw [cnt_succ (bes_near hn hf h), cnt_succ hn.near, cnt_succ hf.near, bes_go hn hf h, if_pos rfl]
  congr 1
  · exact go_congr fun m hm _ => bes_one hn hf h k _ (hn.far m hm)
  · exact go_congr fun m hm _ => bes_other hn hf h k _ (hf.far m hm)
theorem bes_ann (hn : Frm n c) (hf : Frm f d) (h : Bes n f B) (hc : c ≤ 3) (hd : d ≤ 3) (h3 : n.size ≤ 3) (h2 : f.size ≤ 3) : Ann (cnt B 0) B.size := by
  have := ann_first (b := cnt B 0) (ann_add (ann_cnt (hn.ok hc (by omega)) h3 hn.pos) (ann_cnt (hf.ok hd (by omega)) h2 hf.pos)) fun k => bes_cnt hn hf h k
  rw [h.size]
  rw [show 1 + n.size + f.size = n.size + f.size + 1 by omega]
  exact this
end
/-! ### cut at a length -/
def wayStep (ws : List Int) (f : List Int) (m : Mv) : List Int := f.set m.2.2 (f.getD m.2.2 0 + ws.getD m.1 0)
def waysAt (w : Fm) : Nat → List Int
  | 0 => 1 :: List.replicate (w.size - 1) 0
  | n + 1 => w.moves.foldl (wayStep (waysAt w n)) (List.replicate w.size 0)
theorem way_fold (ws : List Int) (v : Nat → Int) (n : Nat) : ∀ (ms : List Mv) (f : List Int), f.length = n → (∀ m ∈ ms, m.2.2 < n ∧ m.1 < n) → (ms.foldl (wayStep ws) f).length = n ∧
    sumN (fun i => (ms.foldl (wayStep ws) f).getD i 0 * v i) n = sumN (fun i => f.getD i 0 * v i) n + sumN (fun i => ws.getD i 0 * go ms i v) n
  | [], f, hf, _ => ⟨hf, by
    rw [sumN_zero (f := fun i => ws.getD i 0 * go [] i v) fun i _ => by show _ * (0 : Int) = 0; rw [Int.mul_zero]]
    show _ = _ + (0 : Int)
    rw [Int.add_zero]
    rfl⟩
  | m :: ms, f, hf, h => by
    have hm := h m List.mem_cons_self
    have hl : (wayStep ws f m).length = n := by rw [wayStep, List.length_set, hf]
    obtain ⟨h1, h2⟩ := way_fold ws v n ms (wayStep ws f m) hl fun x hx => h x (List.mem_cons_of_mem _ hx)
    rw [List.foldl_cons]
    refine ⟨h1, ?_⟩
    rw [h2]
    have e1 : sumN (fun i => (wayStep ws f m).getD i 0 * v i) n = sumN (fun i => f.getD i 0 * v i) n + ws.getD m.1 0 * v m.2.2 := by
      have : ∀ i, (wayStep ws f m).getD i 0 * v i = f.getD i 0 * v i + (if i = m.2.2 then ws.getD m.1 0 * v m.2.2 else 0) := fun i => by
        rw [wayStep, getD_set (by omega)]
        by_cases e : m.2.2 = i
        · rw [if_pos e, if_pos e.symm, ← e, Int.add_mul]
        · rw [if_neg e, if_neg fun z => e z.symm, Int.add_zero]
      rw [sumN_eq fun i _ => this i, sumN_add]
      congr 1
      rw [sumN_more (n := m.2.2 + 1) (by omega) fun i h1 h2 => if_neg (by omega), sumN, if_pos rfl, sumN_zero fun i hi => if_neg (by omega)]
      omega
    have e2 : sumN (fun i => ws.getD i 0 * go (m :: ms) i v) n = sumN (fun i => ws.getD i 0 * go ms i v) n + ws.getD m.1 0 * v m.2.2 := by
      have : ∀ i, ws.getD i 0 * go (m :: ms) i v = ws.getD i 0 * go ms i v + (if i = m.1 then ws.getD m.1 0 * v m.2.2 else 0) := fun i => by
        rw [go, Int.mul_add]
        by_cases e : m.1 = i
        · rw [if_pos e, if_pos e.symm, e]; omega
        · rw [if_neg e, if_neg fun z => e z.symm]; simp
      rw [sumN_eq fun i _ => this i, sumN_add]
      congr 1
      rw [sumN_more (n := m.1 + 1) (by omega) fun i h1 h2 => if_neg (by omega), sumN, if_pos rfl, sumN_zero fun i hi => if_neg (by omega)]
      omega
    rw [e1, e2]
    omega
theorem ways_len {w : Fm} {c : Nat} (h : Frm w c) : ∀ k, (waysAt w k).length = w.size
  | 0 => by have := h.pos; simp [waysAt]; omega
  | k + 1 => (way_fold (waysAt w k) (fun _ => 0) w.size w.moves _ (by simp) fun m hm => ⟨h.far m hm, h.near m hm⟩).1
theorem ways_cut {w : Fm} {c : Nat} (h : Frm w c) : ∀ k n, sumN (fun i => (waysAt w k).getD i 0 * cnt w i n) w.size = cnt w 0 (n + k)
  | 0, n => by
    have hp := h.pos
    rw [sumN_more (n := 1) (by omega) fun i h1 h2 => by
      obtain ⟨j, rfl⟩ : ∃ j, i = j + 1 := ⟨i - 1, by omega⟩
      have : (waysAt w 0).getD (j + 1) 0 = 0 := by
        show (List.replicate (w.size - 1) (0 : Int)).getD j 0 = 0
        rw [List.getD_eq_getElem?_getD, List.getElem?_replicate]
        split <;> rfl
      rw [this, Int.zero_mul]]
    show 0 + 1 * cnt w 0 n = _
    rw [Nat.add_zero]
    omega
  | k + 1, n => by
    have := (way_fold (waysAt w k) (fun i => cnt w i n) w.size w.moves (List.replicate w.size 0) (by simp) fun m hm => ⟨h.far m hm, h.near m hm⟩).2
    show sumN (fun i => (w.moves.foldl (wayStep (waysAt w k)) (List.replicate w.size 0)).getD i 0 * cnt w i n) w.size = _
    rw [this, sumN_zero fun i _ => by
      rw [List.getD_eq_getElem?_getD, List.getElem?_replicate]
      split <;> exact Int.zero_mul _]
    rw [Int.zero_add, show n + (k + 1) = (n + 1) + k by omega, ← ways_cut h k (n + 1)]
    exact sumN_eq fun i _ => by rw [cnt_succ h.near]
end KM
end
section
/-! Far terms by their rests; papers. -/
namespace KM
open K19
section
variable {u : Int} {a : Nat → Int}
def ev (f : List Int) (T : Nat) (a : Nat → Int) (n : Nat) : Int := along (fun i => f.getD i 0) T a n
theorem addAt_length {f : List Int} {i : Nat} {v : Int} : (addAt u f i v).length = f.length := List.length_set
theorem ev_add {f : List Int} {i T n : Nat} {v : Int} (hi : i < f.length) (hT : i < T) : u ∣ ev (addAt u f i v) T a n - (ev f T a n + v * a (n + i)) := by
  have e : ev (addAt u f i v) T a n = ev f T a n + ((f.getD i 0 + v) % u - f.getD i 0) * a (n + i) := by
    have : ∀ j, (addAt u f i v).getD j 0 * a (n + j) = f.getD j 0 * a (n + j) + (if j = i then ((f.getD i 0 + v) % u - f.getD i 0) * a (n + i) else 0) := fun j => by
      rw [addAt, getD_set hi]
      by_cases e : i = j
      · rw [if_pos e, if_pos e.symm, e, Int.sub_mul]; omega
      · rw [if_neg e, if_neg fun z => e z.symm, Int.add_zero]
    rw [ev, along, sumN_eq fun j _ => this j, sumN_add]
    congr 1
    rw [sumN_more (n := i + 1) (by omega) fun j h1 h2 => if_neg (by omega), sumN, if_pos rfl, sumN_zero fun j hj => if_neg (by omega)]
    omega
  rw [e]
  have h1 : (f.getD i 0 + v) % u = (f.getD i 0 + v) - u * ((f.getD i 0 + v) / u) := by
    have := Int.mul_ediv_add_emod (f.getD i 0 + v) u
    omega
  refine ⟨-((f.getD i 0 + v) / u) * a (n + i), ?_⟩
  rw [h1]
  grind
theorem dvd_trans_sub {x y z : Int} (h : u ∣ x - y) (g : u ∣ y - z) : u ∣ x - z := by
  have := Int.dvd_add h g
  rwa [show x - y + (y - z) = x - z by omega] at this
/-- so many additions at places -/
theorem fold_add {F : List Int → Nat → List Int} {g : Nat → Nat} {v : Nat → Int} {f0 : List Int} {T n : Nat} : ∀ N, (∀ f b, b < N → (∀ q, (∀ b, b < N → g b ≠ q) → f.getD q 0 = f0.getD q 0) → F f b = addAt u f (g b) (v b)) → (∀ b, b < N → g b < f0.length ∧ g b < T) →
    ((List.range N).foldl F f0).length = f0.length ∧ (∀ q, (∀ b, b < N → g b ≠ q) → ((List.range N).foldl F f0).getD q 0 = f0.getD q 0) ∧ u ∣ ev ((List.range N).foldl F f0) T a n - (ev f0 T a n + sumN (fun b => v b * a (n + g b)) N) := by
  intro N
  suffices H : ∀ M, M ≤ N → (∀ f b, b < N → (∀ q, (∀ b, b < N → g b ≠ q) → f.getD q 0 = f0.getD q 0) → F f b = addAt u f (g b) (v b)) → (∀ b, b < N → g b < f0.length ∧ g b < T) →
    ((List.range M).foldl F f0).length = f0.length ∧ (∀ q, (∀ b, b < N → g b ≠ q) → ((List.range M).foldl F f0).getD q 0 = f0.getD q 0) ∧ u ∣ ev ((List.range M).foldl F f0) T a n - (ev f0 T a n + sumN (fun b => v b * a (n + g b)) M) from H N (Nat.le_refl N)
  intro M
  induction M with
  | zero => exact fun _ _ _ => ⟨rfl, fun q _ => rfl, by show u ∣ ev f0 T a n - (ev f0 T a n + 0); exact ⟨0, by omega⟩⟩
  | succ M ih =>
    intro hM hF hg
    obtain ⟨h1, h2, h3⟩ := ih (by omega) hF hg
    rw [List.range_succ, List.foldl_append]
    show (F ((List.range M).foldl F f0) M).length = _ ∧ (∀ q, _ → (F ((List.range M).foldl F f0) M).getD q 0 = _) ∧ u ∣ ev (F ((List.range M).foldl F f0) M) T a n - _
    rw [hF _ M (by omega) h2]
    have hgM := hg M (by omega)
    refine ⟨addAt_length.trans h1, fun q hq => ?_, ?_⟩
    · rw [addAt, getD_set (by omega), if_neg (hq M (by omega))]
      exact h2 q hq
    · refine dvd_trans_sub (ev_add (by omega) hgM.2) ?_
      rw [sumN]
      have e : ev ((List.range M).foldl F f0) T a n + v M * a (n + g M) - (ev f0 T a n + (sumN (fun b => v b * a (n + g b)) M + v M * a (n + g M))) = ev ((List.range M).foldl F f0) T a n - (ev f0 T a n + sumN (fun b => v b * a (n + g b)) M) := by omega
      rw [e]
      exact h3
/-- the list stands for e places on -/
def Rp (u : Int) (a : Nat → Int) (k : Nat) (l : List Int) (e : Nat) : Prop := l.length = k ∧ ∀ n, u ∣ ev l k a n - a (n + e)
variable {fs : List Int}
def Obey (fs : List Int) (a : Nat → Int) : Prop := ∀ n, a (n + fs.length) = sumN (fun b => fs.getD b 0 * a (n + fs.length - 1 - b)) fs.length
theorem step_rp (h : Obey fs a) (h0 : 0 < fs.length) {l : List Int} {e : Nat} (hl : Rp u a fs.length l e) : Rp u a fs.length (stepL l fs u) (e + 1) := by
  have h3 := hl.1
  obtain ⟨k, ek⟩ : ∃ k, fs.length = k + 1 := ⟨fs.length - 1, by omega⟩
  have len0 : (0 :: l.dropLast).length = fs.length := by rw [List.length_cons, List.length_dropLast]; omega
  have F := fun n => fold_add (u := u) (a := a) (F := stepF u (l.getLastD 0) fs) (g := fun b => fs.length - 1 - b) (v := fun b => l.getLastD 0 * fs.getD b 0) (f0 := 0 :: l.dropLast) (T := fs.length) (n := n) fs.length (fun f b _ _ => rfl) (fun b hb => by rw [len0]; omega)
  refine ⟨by rw [stepL, (F 0).1, len0], fun n => ?_⟩
  refine dvd_trans_sub (F n).2.2 ?_
  have last : l.getLastD 0 = l.getD k 0 := by
    rw [List.getLastD_eq_getLast?, List.getLast?_eq_getElem?, List.getD_eq_getElem?_getD, show l.length - 1 = k by omega]
  have e1 : sumN (fun b => l.getLastD 0 * fs.getD b 0 * a (n + (fs.length - 1 - b))) fs.length = l.getLastD 0 * a (n + fs.length) := by
    rw [h n, ← sumN_mul]
    refine sumN_eq fun b hb => ?_
    rw [Int.mul_assoc, show n + (fs.length - 1 - b) = n + fs.length - 1 - b by omega]
  have e2 : ev (0 :: l.dropLast) fs.length a n = ev l fs.length a (n + 1) - l.getD k 0 * a (n + fs.length) := by
    rw [ev, along, ev, along, ek, sumN_first, sumN]
    have e3 : ∀ i, i < k → (0 :: l.dropLast).getD (i + 1) 0 * a (n + (i + 1)) = l.getD i 0 * a (n + 1 + i) := fun i hi => by
      rw [show n + (i + 1) = n + 1 + i by omega]
      congr 1
      show l.dropLast.getD i 0 = _
      rw [List.getD_eq_getElem?_getD, List.getD_eq_getElem?_getD, List.dropLast_eq_take, List.getElem?_take_of_lt (by omega)]
    rw [sumN_eq e3, show n + (k + 1) = n + 1 + k by omega]
    show (0 : Int) * _ + _ = _
    omega
  rw [e1, e2, last]
  have := hl.2 (n + 1)
  rw [show n + 1 + e = n + (e + 1) by omega] at this
  rw [show ev l fs.length a (n + 1) - l.getD k 0 * a (n + fs.length) + l.getD k 0 * a (n + fs.length) - a (n + (e + 1)) = ev l fs.length a (n + 1) - a (n + (e + 1)) by omega]
  exact this
theorem mul_rp {one other : List Int} {k e1 e2 : Nat} (h1 : Rp u a k one e1) (h2 : Rp u a k other e2) (hk : 0 < k) (n : Nat) : ((List.range one.length).foldl (mulR u one other) (List.replicate (2 * k - 1) 0)).length = 2 * k - 1 ∧ u ∣ ev ((List.range one.length).foldl (mulR u one other) (List.replicate (2 * k - 1) 0)) (2 * k - 1) a n - a (n + (e1 + e2)) := by
  have l1 := h1.1
  have l2 := h2.1
  have H : ∀ M, M ≤ k → ((List.range M).foldl (mulR u one other) (List.replicate (2 * k - 1) 0)).length = 2 * k - 1 ∧ u ∣ ev ((List.range M).foldl (mulR u one other) (List.replicate (2 * k - 1) 0)) (2 * k - 1) a n - sumN (fun i => one.getD i 0 * ev other k a (n + i)) M := by
    intro M
    induction M with
    | zero =>
      intro _
      refine ⟨by simp, ?_⟩
      have : ev (List.replicate (2 * k - 1) 0) (2 * k - 1) a n = 0 := sumN_zero fun i _ => by
        show (List.replicate (2 * k - 1) (0 : Int)).getD i 0 * _ = 0
        rw [List.getD_eq_getElem?_getD, List.getElem?_replicate]
        split <;> exact Int.zero_mul _
      show u ∣ ev (List.replicate (2 * k - 1) 0) (2 * k - 1) a n - 0
      rw [this]
      exact Int.dvd_zero _
    | succ M ih =>
      intro hM
      obtain ⟨i1, i2⟩ := ih (by omega)
      rw [List.range_succ, List.foldl_append]
      obtain ⟨G, eG⟩ : ∃ G, G = (List.range M).foldl (mulR u one other) (List.replicate (2 * k - 1) 0) := ⟨_, rfl⟩
      rw [← eG] at i1 i2 ⊢
      show (mulR u one other G M).length = _ ∧ u ∣ ev (mulR u one other G M) (2 * k - 1) a n - _
      have F := fold_add (u := u) (a := a) (F := mulF u (one.getD M 0) other M) (g := fun j => M + j) (v := fun j => one.getD M 0 * other.getD j 0) (f0 := G) (T := 2 * k - 1) (n := n) other.length (fun f b _ _ => rfl) (fun b hb => by rw [i1]; omega)
      refine ⟨F.1.trans i1, dvd_trans_sub F.2.2 ?_⟩
      rw [sumN]
      have e : sumN (fun b => one.getD M 0 * other.getD b 0 * a (n + (M + b))) other.length = one.getD M 0 * ev other k a (n + M) := by
        rw [ev, along, ← sumN_mul, l2]
        refine sumN_eq fun b _ => ?_
        rw [Int.mul_assoc, Nat.add_assoc]
      rw [e]
      generalize one.getD M 0 * ev other k a (n + M) = X
      rw [show ev G (2 * k - 1) a n + X - (sumN (fun i => one.getD i 0 * ev other k a (n + i)) M + X) = ev G (2 * k - 1) a n - sumN (fun i => one.getD i 0 * ev other k a (n + i)) M by omega]
      exact i2
  obtain ⟨g1, g2⟩ := H k (Nat.le_refl k)
  rw [l1]
  refine ⟨g1, dvd_trans_sub g2 ?_⟩
  have e3 : u ∣ sumN (fun i => one.getD i 0 * ev other k a (n + i)) k - ev one k a (n + e2) := by
    rw [ev, along, ← sumN_sub]
    refine dvd_sumN fun i hi => ?_
    have := h2.2 (n + i)
    rw [← Int.mul_sub, show n + e2 + i = n + i + e2 by omega]
    exact Int.dvd_mul_of_dvd_right this
  refine dvd_trans_sub e3 ?_
  have := h1.2 (n + e2)
  rwa [show n + e2 + e1 = n + (e1 + e2) by omega] at this
theorem times_rp (h : Obey fs a) (h0 : 0 < fs.length) {one other : List Int} {e1 e2 : Nat} (h1 : Rp u a fs.length one e1) (h2 : Rp u a fs.length other e2) : Rp u a fs.length (timesL one other fs u) (e1 + e2) := by
  obtain ⟨k, ek⟩ : ∃ k, k = fs.length := ⟨_, rfl⟩
  obtain ⟨G, eG⟩ : ∃ G, G = (List.range one.length).foldl (mulR u one other) (List.replicate (2 * fs.length - 1) 0) := ⟨_, rfl⟩
  have hG := fun n => mul_rp h1 h2 h0 n
  rw [← eG] at hG
  have H : ∀ n M, M ≤ k - 1 → ((List.range M).foldl (redR u fs) G).length = 2 * k - 1 ∧ u ∣ ev ((List.range M).foldl (redR u fs) G) (2 * k - 1 - M) a n - a (n + (e1 + e2)) := by
    intro n M
    induction M with
    | zero =>
      intro _
      rw [ek]
      exact hG n
    | succ M ih =>
      intro hM
      obtain ⟨i1, i2⟩ := ih (by omega)
      rw [List.range_succ, List.foldl_append]
      obtain ⟨G1, eG1⟩ : ∃ G1, G1 = (List.range M).foldl (redR u fs) G := ⟨_, rfl⟩
      rw [← eG1] at i1 i2 ⊢
      show (redR u fs G1 M).length = _ ∧ u ∣ ev (redR u fs G1 M) (2 * k - 1 - (M + 1)) a n - _
      obtain ⟨t, et⟩ : ∃ t, t = 2 * fs.length - 2 - M := ⟨_, rfl⟩
      have F := fold_add (u := u) (a := a) (F := redF u fs t) (g := fun b => t - 1 - b) (v := fun b => G1.getD t 0 * fs.getD b 0) (f0 := G1) (T := t) (n := n) fs.length (fun f b _ hq => by
        rw [redF, hq t fun b hb => by omega]) (fun b hb => by rw [i1]; omega)
      rw [redR, ← et]
      refine ⟨F.1.trans i1, ?_⟩
      rw [show 2 * k - 1 - (M + 1) = t by omega]
      refine dvd_trans_sub F.2.2 ?_
      rw [show 2 * k - 1 - M = t + 1 by omega] at i2
      have e3 : sumN (fun b => G1.getD t 0 * fs.getD b 0 * a (n + (t - 1 - b))) fs.length = G1.getD t 0 * a (n + t) := by
        have := h (n + t - fs.length)
        rw [show n + t - fs.length + fs.length = n + t by omega] at this
        rw [this, ← sumN_mul]
        refine sumN_eq fun b hb => ?_
        rw [Int.mul_assoc, show n + (t - 1 - b) = n + t - 1 - b by omega]
      rw [e3]
      have e4 : ev G1 (t + 1) a n = ev G1 t a n + G1.getD t 0 * a (n + t) := rfl
      rw [e4] at i2
      exact i2
  refine ⟨?_, fun n => ?_⟩
  · rw [timesL, ← eG, List.length_take, ← ek, (H 0 (k - 1) (Nat.le_refl _)).1]
    omega
  · have := (H n (k - 1) (Nat.le_refl _)).2
    rw [show 2 * k - 1 - (k - 1) = k by omega] at this
    rw [timesL, ← eG, ← ek]
    have e5 : ev (((List.range (k - 1)).foldl (redR u fs) G).take k) k a n = ev ((List.range (k - 1)).foldl (redR u fs) G) k a n := along_eq' fun i hi => by
      rw [List.getD_eq_getElem?_getD, List.getD_eq_getElem?_getD, List.getElem?_take_of_lt hi]
    rw [e5]
    exact this
where along_eq' {c d : Nat → Int} {k n : Nat} {a : Nat → Int} (h : ∀ i, i < k → c i = d i) : along c k a n = along d k a n := sumN_eq fun i hi => by rw [h i hi]
theorem figs_val : ∀ (k n : Nat), n ≤ k → (figsLow k n).foldr (fun g e => 2 * e + g) 0 = n ∧ ∀ g ∈ figsLow k n, g < 2
  | 0, n, h => ⟨by rw [show n = 0 by omega]; rfl, fun g hg => by cases hg⟩
  | k + 1, n, h => by
    rw [figsLow]
    split
    · next e => exact ⟨by rw [e]; rfl, fun g hg => by cases hg⟩
    · next e =>
      obtain ⟨h1, h2⟩ := figs_val k (n / 2) (by omega)
      refine ⟨?_, fun g hg => ?_⟩
      · rw [List.foldr_cons, h1]; omega
      · rcases List.mem_cons.mp hg with rfl | hg
        · omega
        · exact h2 g hg
theorem rest_rp (h : Obey fs a) (h0 : 0 < fs.length) (idx : Nat) : Rp u a fs.length (restL fs idx u) idx := by
  obtain ⟨v1, v2⟩ := figs_val idx idx (Nat.le_refl _)
  have H : ∀ (l : List Nat), (∀ g ∈ l, g < 2) → ∀ r e, Rp u a fs.length r e → Rp u a fs.length (l.foldl (figStep fs u) r) (l.foldl (fun e g => 2 * e + g) e) := by
    intro l
    induction l with
    | nil => exact fun _ r e hr => hr
    | cons g l ih =>
      intro hg r e hr
      rw [List.foldl_cons, List.foldl_cons]
      refine ih (fun x hx => hg x (List.mem_cons_of_mem _ hx)) _ _ ?_
      have hg2 := hg g List.mem_cons_self
      have t := times_rp h h0 hr hr
      rw [figStep]
      split
      · next e1 =>
        have := step_rp h h0 t
        rwa [show e + e + 1 = 2 * e + g by omega] at this
      · rwa [show e + e = 2 * e + g by omega] at t
  have st : Rp u a fs.length (1 % u :: List.replicate (fs.length - 1) 0) 0 := by
    refine ⟨by rw [List.length_cons, List.length_replicate]; omega, fun n => ?_⟩
    have e : ev (1 % u :: List.replicate (fs.length - 1) 0) fs.length a n = 1 % u * a n := by
      rw [ev, along, show fs.length = fs.length - 1 + 1 by omega, sumN_first, sumN_zero fun i _ => by
        show (List.replicate (fs.length - 1) (0 : Int)).getD i 0 * _ = 0
        rw [List.getD_eq_getElem?_getD, List.getElem?_replicate]
        split <;> exact Int.zero_mul _]
      show 1 % u * a n + 0 = _
      omega
    rw [e]
    have := Int.mul_ediv_add_emod 1 u
    refine ⟨-(1 / u) * a n, ?_⟩
    have e2 : 1 % u = 1 - u * (1 / u) := by omega
    rw [e2, Nat.add_zero]
    grind
  have := H (figs idx) (fun g hg => v2 g (by simpa [figs] using hg)) _ 0 st
  have e9 : (figs idx).foldl (fun e g => 2 * e + g) 0 = idx := by
    rw [figs, List.foldl_reverse]
    exact v1
  rw [e9] at this
  exact this
theorem term_left {r : Rule} (h : Gen r a) (idx : Nat) : termL r idx u = a idx % u := by
  rw [termL]
  split
  · next e =>
    have := h.step idx
    rw [e] at this
    have : a idx = 0 := this
    rw [this]
    simp
  · next e =>
    have h0 : 0 < r.2.length := List.length_pos_iff.mpr e
    obtain ⟨_, R⟩ := rest_rp (u := u) (a := a) (fs := r.2) (fun n => h.step n) h0 idx
    have := R 0
    rw [Nat.zero_add] at this
    have e1 : sumN (fun i => (restL r.2 idx u).getD i 0 * r.1.getD i 0) r.2.length = ev (restL r.2 idx u) r.2.length a 0 := sumN_eq fun i hi => by
      rw [Nat.zero_add]
      congr 1
      rw [h.fst, List.getD_eq_getElem?_getD, seqUp, List.getElem?_map, List.getElem?_range hi]
      rfl
    rw [e1]
    exact Int.emod_emod_of_dvd_sub this
where Int.emod_emod_of_dvd_sub {x y : Int} (h : u ∣ x - y) : x % u = y % u := Int.emod_eq_emod_iff_emod_sub_eq_zero.mpr (Int.emod_eq_zero_of_dvd h)
end
/-! ### papers -/
theorem next_seq (a : Nat → Int) (fs : List Int) (n : Nat) : nextTerm (seqUp a (n + fs.length)) fs = sumN (fun b => fs.getD b 0 * a (n + fs.length - 1 - b)) fs.length := by
  rw [nextTerm, seqUp_length]
  refine sumN_eq fun i hi => ?_
  congr 1
  rw [List.getD_eq_getElem?_getD, seqUp, List.getElem?_map, List.getElem?_range (by omega)]
  rfl
theorem obeys_iff {m : Fm} {r : Rule} (hA : Ann (cnt m 0) m.size) : obeysB m r = true ↔ Gen r (cnt m 0) := by
  rw [obeysB, Bool.and_eq_true, decide_eq_true_iff, List.all_eq_true]
  constructor
  · rintro ⟨h1, h2⟩
    have g := gen_of (fs := r.2) hA fun n hn => by
      have := h2 n (List.mem_range.mpr hn)
      rw [decide_eq_true_iff, Nat.add_comm, next_seq] at this
      exact this.symm
    rwa [h1] at g
  · intro g
    refine ⟨g.fst.symm, fun n _ => ?_⟩
    rw [decide_eq_true_iff, Nat.add_comm, next_seq]
    exact (g.step n).symm
theorem unlike_iff {m1 m2 : Fm} (h1 : Ann (cnt m1 0) m1.size) (h2 : Ann (cnt m2 0) m2.size) : (unlike m1 m2).isNone = true ↔ ∀ n, cnt m1 0 n = cnt m2 0 n := by
  rw [Option.isNone_iff_eq_none, unlike, List.find?_eq_none]
  constructor
  · intro h
    refine ann_eq h1 h2 fun n hn => ?_
    have := h n (List.mem_range.mpr hn)
    simpa using this
  · intro h n _
    simp [h n]
theorem least_iff {r q : Rule} {a b : Nat → Int} (h : Least r a) (g : Least q b) : r = q ↔ ∀ n, a n = b n := by
  constructor
  · intro e
    subst e
    exact gen_eq h.gen g.gen
  · intro e
    exact least_eq h (least_congr g fun n => (e n).symm)
end KM
end
section
/-! What the law's two halves lean on. -/
namespace KM
open K19
theorem pos_of_bd {x : Int} {B : Nat} (h : 0 ≤ x ∧ x ≤ B) {k : Nat} (hk : B < 2 ^ k) : x.natAbs < 2 ^ k := by omega
theorem seqUp_drop (a : Nat → Int) (n : Nat) : (seqUp a (n + 1)).drop 1 = seqUp (fun i => a (i + 1)) n := by
  rw [seqUp, seqUp, List.range_succ_eq_map, List.map_cons, List.drop_succ_cons, List.drop_zero, List.map_map]
  rfl
theorem seqUp_cons (a : Nat → Int) (n : Nat) : seqUp a (n + 1) = a 0 :: seqUp (fun i => a (i + 1)) n := by
  rw [seqUp, seqUp, List.range_succ_eq_map, List.map_cons, List.map_map]
  rfl
theorem seqUp_congr {a b : Nat → Int} {n : Nat} (h : ∀ i, i < n → a i = b i) : seqUp a n = seqUp b n := List.map_congr_left fun i hi => h i (List.mem_range.mp hi)
/-- the rows of the states to which a state's first moves lead, added up -/
def tot (w : Fm) (st k : Nat) : Nat → Int := fun n => go (w.moves.take k) st (fun t => cnt w t n)
def hits (w : Fm) (st k : Nat) : Nat := ((w.moves.take k).filter fun m => m.1 == st).length
theorem hits_le {w : Fm} {c : Nat} (h : Frm w c) (st k : Nat) : hits w st k ≤ c :=
  Nat.le_trans (((List.take_sublist k w.moves).filter _).length_le) (h.deg st)
theorem take_next {α : Type} {l : List α} {k : Nat} {t : α} (h : l[k]? = some t) : l.take (k + 1) = l.take k ++ [t] := by
  rw [List.take_add_one, h]
  rfl
theorem tot_hit {w : Fm} {st k : Nat} {t : Mv} (h : w.moves[k]? = some t) (e : t.1 = st) (n : Nat) : tot w st (k + 1) n = addS (tot w st k) (cnt w t.2.2) n := by
  rw [tot, take_next h, go_app, go, if_pos e]
  show _ + (_ + (0 : Int)) = _
  rw [Int.add_zero]
  rfl
theorem tot_miss {w : Fm} {st k : Nat} {t : Mv} (h : w.moves[k]? = some t) (e : t.1 ≠ st) (n : Nat) : tot w st (k + 1) n = tot w st k n := by
  rw [tot, take_next h, go_app, go, if_neg e]
  show _ + (0 + (0 : Int)) = _
  rw [Int.add_zero, Int.add_zero]
  rfl
theorem hits_hit {w : Fm} {st k : Nat} {t : Mv} (h : w.moves[k]? = some t) (e : t.1 = st) : hits w st (k + 1) = hits w st k + 1 := by
  rw [hits, take_next h, List.filter_append, List.length_append, List.filter_cons, if_pos (by simpa using e)]
  rfl
theorem hits_miss {w : Fm} {st k : Nat} {t : Mv} (h : w.moves[k]? = some t) (e : t.1 ≠ st) : hits w st (k + 1) = hits w st k := by
  rw [hits, take_next h, List.filter_append, List.length_append, List.filter_cons, if_neg (by simpa using e)]
  rfl
theorem tot_bd {w : Fm} {c : Nat} (h : Frm w c) (hok : w.Ok) (st k n : Nat) (hc : c ≤ 2) (hn : n < 13) : 0 ≤ tot w st k n ∧ tot w st k n ≤ 1062882 := by
  have := go_bd (l := w.moves.take k) (s := st) (v := fun t => cnt w t n) (B := 531441) fun m hm => cnt_small hok (h.far m (List.mem_of_mem_take hm)) hn
  refine ⟨this.1, Int.le_trans this.2 ?_⟩
  have h1 : ((w.moves.take k).filter fun m => m.1 == st).length ≤ c := hits_le h st k
  generalize ((w.moves.take k).filter fun m => m.1 == st).length = x at h1 ⊢
  omega
theorem tot_all {w : Fm} {c : Nat} (h : Frm w c) (st n : Nat) : tot w st w.moves.length n = cnt w st (n + 1) := by
  rw [tot, List.take_length, cnt_succ h.near]
theorem least_nil : Least (([], []) : Rule) (fun _ => 0) := ⟨⟨rfl, rfl, fun n => rfl⟩, fun j hj => absurd hj (Nat.not_lt_zero j)⟩
theorem gen_first (e : Int) : Gen (([e], [0]) : Rule) (fun n => if n = 0 then e else 0) := ⟨rfl, rfl, fun n => by
  show (if n + 1 = 0 then e else 0) = sumN (fun b => [(0 : Int)].getD b 0 * _) 1
  rw [if_neg (by omega), sumN, sumN]
  show (0 : Int) = 0 + 0 * _
  rw [Int.zero_mul]
  rfl⟩
theorem sumN_bd {f : Nat → Int} {B : Int} {n : Nat} (h : ∀ i, i < n → 0 ≤ f i ∧ f i ≤ B) : 0 ≤ sumN f n ∧ sumN f n ≤ n * B := by
  induction n with
  | zero => simp [sumN]
  | succ n ih =>
    have h1 := ih fun i hi => h i (by omega)
    have h2 := h n (by omega)
    rw [sumN, Int.natCast_add, Int.add_mul]
    omega
theorem enum_sum (ws ls : List Int) : (ws.zipIdx.map fun q => q.1 * ls.getD q.2 0).sum = sumN (fun i => ws.getD i 0 * ls.getD i 0) ws.length := by
  suffices H : ∀ (ws : List Int) (k : Nat), ((ws.zipIdx k).map fun q => q.1 * ls.getD q.2 0).sum = sumN (fun i => ws.getD i 0 * ls.getD (k + i) 0) ws.length by
    have := H ws 0
    rw [this]
    exact sumN_eq fun i _ => by rw [Nat.zero_add]
  intro ws
  induction ws with
  | nil => intro k; rfl
  | cons x ws ih =>
    intro k
    rw [List.zipIdx_cons, List.map_cons, List.sum_cons, ih, List.length_cons, sumN_first]
    congr 1
    exact sumN_eq fun i _ => by
      rw [show k + 1 + i = k + (i + 1) by omega]
      rfl
end KM
end
section
/-! Keys of moves; the law's second half. -/
namespace KM
open K19
def KeyNe (a b : Mv) : Prop := ¬ (a.1 = b.1 ∧ a.2.1 = b.2.1)
def UpM (ms : List Mv) : Prop := ms.Pairwise fun a b => a.1 < b.1 ∨ (a.1 = b.1 ∧ a.2.1 < b.2.1)
theorem UpM.ne {ms : List Mv} (h : UpM ms) : ms.Pairwise KeyNe := h.imp fun {a b} q e => by
  obtain ⟨e1, e2⟩ := e
  rcases q with q | q
  · omega
  · omega
theorem key_symm {a b : Mv} (h : KeyNe a b) : KeyNe b a := fun e => h ⟨e.1.symm, e.2.symm⟩
theorem shift_ne {ms : List Mv} (h : UpM ms) (k : Nat) : (ms.map (shiftM k)).Pairwise KeyNe := by
  rw [List.pairwise_map]
  exact h.ne.imp fun {a b} q e => q ⟨by have := e.1; simp only [shiftM] at this; omega, e.2⟩
theorem start_ne {ms : List Mv} (h : UpM ms) (s : Nat) (g : Mv → Nat) : ((ms.filter fun m => m.1 == 0).map fun m => ((s, m.2.1, g m) : Mv)).Pairwise KeyNe := by
  rw [List.pairwise_map]
  refine List.Pairwise.imp_of_mem ?_ (h.ne.sublist List.filter_sublist)
  intro a b ha hb q e
  have h1 := (List.mem_filter.mp ha).2
  have h2 := (List.mem_filter.mp hb).2
  simp at h1 h2
  exact q ⟨by omega, e.2⟩
section
variable {n f : Fm} {c d : Nat}
theorem behind_ne (hn : Frm n c) (un : UpM n.moves) (uf : UpM f.moves) (ap : ∀ x ∈ n.moves, ∀ y ∈ f.moves, x.2.1 ≠ y.2.1) : (behindRaw n f).Pairwise KeyNe := by
  rw [behindRaw, List.pairwise_append, List.pairwise_append]
  refine ⟨⟨un.ne, shift_ne uf _, fun x hx y hy => ?_⟩, ?_, fun x hx y hy => ?_⟩
  · obtain ⟨q, hq, rfl⟩ := List.mem_map.mp hy
    exact fun e => by
      have := hn.near x hx
      have := e.1
      simp only [shiftM] at this
      omega
  · rw [List.pairwise_flatMap]
    refine ⟨fun s hs => start_ne uf s _, ?_⟩
    refine List.Pairwise.imp ?_ hn.nd
    intro s t hst x hx y hy e
    obtain ⟨q, _, rfl⟩ := List.mem_map.mp hx
    obtain ⟨r, _, rfl⟩ := List.mem_map.mp hy
    exact hst e.1
  · obtain ⟨s, hs, hy⟩ := List.mem_flatMap.mp hy
    obtain ⟨r, hr, rfl⟩ := List.mem_map.mp hy
    have hr := (List.mem_filter.mp hr).1
    rcases List.mem_append.mp hx with hx | hx
    · exact fun e => ap x hx r hr e.2
    · obtain ⟨q, _, rfl⟩ := List.mem_map.mp hx
      exact fun e => by
        have h1 := hn.ends s hs
        have h2 : q.1 + n.size = s := e.1
        omega
theorem beside_ne (hn : Frm n c) (un : UpM n.moves) (uf : UpM f.moves) (ap : ∀ x ∈ n.moves, ∀ y ∈ f.moves, x.2.1 ≠ y.2.1) : (besideRaw n f).Pairwise KeyNe := by
  rw [besideRaw, List.pairwise_append, List.pairwise_append, List.pairwise_append]
  refine ⟨⟨⟨start_ne un 0 _, start_ne uf 0 _, fun x hx y hy => ?_⟩, shift_ne un _, fun x hx y hy => ?_⟩, shift_ne uf _, fun x hx y hy => ?_⟩
  · obtain ⟨q, hq, rfl⟩ := List.mem_map.mp hx
    obtain ⟨r, hr, rfl⟩ := List.mem_map.mp hy
    exact fun e => ap q (List.mem_filter.mp hq).1 r (List.mem_filter.mp hr).1 e.2
  · obtain ⟨r, hr, rfl⟩ := List.mem_map.mp hy
    have h0 : x.1 = 0 := by
      rcases List.mem_append.mp hx with hx | hx
      · obtain ⟨q, hq, rfl⟩ := List.mem_map.mp hx; rfl
      · obtain ⟨q, hq, rfl⟩ := List.mem_map.mp hx; rfl
    exact fun e => by
      have h1 : x.1 = r.1 + 1 := e.1
      omega
  · obtain ⟨r, hr, rfl⟩ := List.mem_map.mp hy
    rcases List.mem_append.mp hx with hx | hx
    · have h0 : x.1 = 0 := by
        rcases List.mem_append.mp hx with hx | hx
        · obtain ⟨q, hq, rfl⟩ := List.mem_map.mp hx; rfl
        · obtain ⟨q, hq, rfl⟩ := List.mem_map.mp hx; rfl
      exact fun e => by
        have h1 : x.1 = r.1 + (1 + n.size) := e.1
        omega
    · obtain ⟨q, hq, rfl⟩ := List.mem_map.mp hx
      exact fun e => by
        have h1 : q.1 + 1 = r.1 + (1 + n.size) := e.1
        have h2 := hn.near q hq
        omega
theorem map_up {es : List Nat} (h : es.Pairwise (· < ·)) (k : Nat) : (es.map (· + k)).Pairwise (· < ·) := by
  rw [List.pairwise_map]
  exact h.imp fun {a b} q => by omega
theorem behind_up (hn : Frm n c) (h1 : n.ends.Pairwise (· < ·)) (h2 : f.ends.Pairwise (· < ·)) : (behindEnds n f).Pairwise (· < ·) := by
  rw [behindEnds]
  split
  · rw [List.pairwise_append]
    refine ⟨h1, map_up h2 _, fun x hx y hy => ?_⟩
    obtain ⟨r, hr, rfl⟩ := List.mem_map.mp hy
    have := hn.ends x hx
    omega
  · exact map_up h2 _
theorem beside_up (hn : Frm n c) (h1 : n.ends.Pairwise (· < ·)) (h2 : f.ends.Pairwise (· < ·)) : (besideEnds n f).Pairwise (· < ·) := by
  rw [besideEnds, List.pairwise_append, List.pairwise_append]
  have e2 : (f.ends.map (· + 1 + n.size)).Pairwise (· < ·) := by
    rw [List.pairwise_map]
    exact h2.imp fun {a b} q => by omega
  refine ⟨by split <;> simp, ⟨map_up h1 _, e2, fun x hx y hy => ?_⟩, fun x hx y hy => ?_⟩
  · obtain ⟨q, hq, rfl⟩ := List.mem_map.mp hx
    obtain ⟨r, hr, rfl⟩ := List.mem_map.mp hy
    have := hn.ends q hq
    omega
  · have h0 : x = 0 := by
      split at hx
      · exact List.mem_singleton.mp hx
      · cases hx
    rcases List.mem_append.mp hy with hy | hy
    · obtain ⟨r, hr, rfl⟩ := List.mem_map.mp hy; omega
    · obtain ⟨r, hr, rfl⟩ := List.mem_map.mp hy; omega
end
end KM
end
section
namespace K19
open PySem PySem.Spec PyProof.Rows L2 DL
def chr (c : Nat) : Str := ⟨#[c]⟩
def mvD (m : Nat × Nat × Nat) : D := .tup [.int m.1, .str (chr m.2.1), .int m.2.2]
def nums (ns : List Nat) : List Int := ns.map fun (n : Nat) => (n : Int)
def fmD (w : Fm) : D := .fm w.size (.tup (w.moves.map mvD)) (.tup ((nums w.ends).map D.int))
def intsD (ns : List Int) : D := .lst (ns.map D.int)
def tupD (ns : List Int) : D := .tup (ns.map D.int)
/-- facts of the text that all defs lean on -/
structure Tx (g : Gx) (K : PySem.W.Frag) (mg : Str → Option Value) : Prop where
  cl : Cls K g.C
  nS : NoAttr K g.C "size"
  nM : NoAttr K g.C "moves"
  nE : NoAttr K g.C "ends"
  list : mg "list" = none
  range : mg "range" = none
  int : mg "int" = none
  abs : mg "abs" = none
  len : mg "len" = none
  tuple : mg "tuple" = none
  sum : mg "sum" = none
  all : mg "all" = none
  enum : mg "enumerate" = none
  zip : mg "zip" = none
  inst : mg "isinstance" = none
  sorted : mg "sorted" = none
  set : mg "set" = none
  kbool : mg "bool" = none
  kstr : mg "str" = none
  two : ∃ t, mg "RULE_PARTS" = some (.int 2 t)
  paper : ∃ t, mg "PAPER_PARTS" = some (.int 2 t)
  triple : ∃ t, mg "TRIPLE" = some (.int 3 t)
  lets : ∃ t, mg "LETTERS" = some (.str "abcdefghijklmnopqrstuvwxyz" t)
/-- a def of the text -/
def Def (P : Program) (w : World) (K : PySem.W.Frag) (mg : Str → Option Value) (base : Heap) (x : Str) (st : Stmt) (ps : List Str) : Prop :=
  ∃ f fd, Fun K x x st f fd ∧ mg x = some (.ref f) ∧ L2.Binds K fd ps []
section
variable {g : Gx} {P : Program} {w : World} {K : PySem.W.Frag} {mg : Str → Option Value} {base : Heap}
theorem cal_of {x : Str} {st : Stmt} {N ps : List Str} {k : Nat} {R : List D → D → Prop} (h : Def P w K mg base x st ps) (sc : FnScope N ps (defScope st)) (hl : ∀ ds d, R ds d → ds.length = ps.length)
    (hb : ∀ (f : Addr) (cdv : Value) (A : Around) (outer : List PySem.Env) (s : Shared) (H : Hp) (E : XK) (F0 H0 : Hp) (ds : List D) (d : D), Room k (A.deeper (envOfC x (defScope st) s.heap.objs.size f cdv)) → R ds d →
      DSs (sy0 g) F0 H0 (bodyX P w K mg base N x (defScope st) f cdv A outer s H E) (defBody st) (envOf N ds) () ⟨fun _ _ => d = .non, fun d' _ => d' = d, fun _ _ => False, fun _ _ => False⟩) :
    Cal g P w K mg base x (k + 1) ps R := by
  obtain ⟨f, fd, Fn, h2, h3⟩ := h
  exact ⟨f, fd, fnD Fn sc hl (fun cdv A outer s H E F0 H0 ds d => hb f cdv A outer s H E F0 H0 ds d), h2, Fn.kp, h3⟩
end
end K19
end
namespace K19
open PySem PySem.Spec PyProof.Rows L2 DL
local macro_rules | `(tactic| walk_at "dv") => `(tactic| first
  | exact va 0
  | exact va 1
  | exact va 2
  | exact va 3
  | exact va 4
  | exact va 5
  | exact va 6
  | exact va 7
  | exact va 8
  | exact va 9
  | exact va 10
  | exact va 11
  | exact va 12
  | exact va 13
  | exact va 14
  | exact va 15)
local macro_rules | `(tactic| walk_at "bv") => `(tactic| first
  | exact vo 0
  | exact vo 1
  | exact vo 2
  | exact vo 3
  | exact vo 4
  | exact vo 5
  | exact vo 6
  | exact vo 7
  | exact vo 8
  | exact vo 9
  | exact vo 10
  | exact vo 11
  | exact vo 12
  | exact vo 13
  | exact vo 14
  | exact vo 15)
local macro_rules | `(tactic| walk_at "db") => `(tactic| first
  | exact DE.b (by walk_at "de")
  | (show DB _ _ (.Name _ _) _ _; walk_at "bv"))
local macro_rules | `(tactic| walk_at "room") => `(tactic| first
  | assumption
  | exact Room.mono (by assumption) (by decide))
local macro_rules | `(tactic| walk_at "de") => `(tactic| first
  | exact de_int
  | exact de_str
  | exact de_bl
  | exact de_non
  | (show DE _ _ (.Name _ _) _ _; walk_at "dv")
  | (show DE _ _ (.Attribute _ "size" _) _ _; exact de_size (Tx.cl (by assumption)) (Tx.nS (by assumption)) (by walk_at "de"))
  | (show DE _ _ (.Attribute _ "moves" _) _ _; exact de_moves (Tx.cl (by assumption)) (Tx.nM (by assumption)) (by walk_at "de"))
  | (show DE _ _ (.Attribute _ "ends" _) _ _; exact de_ends (Tx.cl (by assumption)) (Tx.nE (by assumption)) (by walk_at "de"))
  | (show DE _ _ (.Call (.Name "int" _) [_] [] _) _ _; exact de_intB (by rfl) (Tx.int (by assumption)) (by walk_at "db"))
  | (show DE _ _ (.Call (.Name "int" _) [_] [] _) _ _; exact de_intI (by rfl) (Tx.int (by assumption)) (by walk_at "db"))
  | (show DE _ _ (.Call (.Name "abs" _) [_] [] _) _ _; exact de_abs (by rfl) (Tx.abs (by assumption)) (by walk_at "db"))
  | (show DE _ _ (.BinOp _ .Add _ _) _ _; exact de_add (by walk_at "db") (by walk_at "db"))
  | (show DE _ _ (.BinOp _ .Sub _ _) _ _; exact de_sub (by walk_at "db") (by walk_at "db"))
  | (show DE _ _ (.Compare _ [.In] [_] _) _ _; exact de_inL (by walk_at "db") (by walk_at "db"))
  | (show DE _ _ (.Compare _ [.In] [_] _) _ _; exact de_inT (by walk_at "db") (by walk_at "db"))
  | (show DE _ _ (.Compare _ [.NotIn] [_] _) _ _; exact de_niL (by walk_at "db") (by walk_at "db"))
  | (show DE _ _ (.Compare _ [.Lt] [_] _) _ _; exact de_lt (by walk_at "db") (by walk_at "db"))
  | (show DE _ _ (.Compare _ [.LtE] [_] _) _ _; exact de_le (by walk_at "db") (by walk_at "db"))
  | (show DE _ _ (.Compare _ [.Gt] [_] _) _ _; exact de_gt (by walk_at "db") (by walk_at "db"))
  | (show DE _ _ (.Compare _ [.GtE] [_] _) _ _; exact de_ge (by walk_at "db") (by walk_at "db"))
  | (show DE _ _ (.Compare _ [.Eq] [_] _) _ _; exact de_eqI (by walk_at "db") (by walk_at "db"))
  | (show DE _ _ (.Compare _ [.NotEq] [_] _) _ _; exact de_neI (by walk_at "db") (by walk_at "db"))
  | (show DE _ _ (.Compare _ [.Eq] [_] _) _ _; exact de_eqS (by walk_at "db") (by walk_at "db"))
  | (show DE _ _ (.Compare _ [.NotEq] [_] _) _ _; exact de_neS (by walk_at "db") (by walk_at "db"))
  | (show DE _ _ (.Compare _ [.Eq] [_] _) _ _; exact de_eqB (by walk_at "db") (by walk_at "db"))
  | (show DE _ _ (.Compare _ [.NotEq] [_] _) _ _; exact de_neB (by walk_at "db") (by walk_at "db"))
  | (show DE _ _ (.UnaryOp .USub _ _) _ _; exact de_neg (by walk_at "db"))
  | (show DE _ _ (.Compare _ [.Is] [_] _) _ _; exact de_isN (by walk_at "db"))
  | (show DE _ _ (.Compare _ [.IsNot] [_] _) _ _; exact de_notN (by walk_at "db"))
  | (show DE _ _ (.UnaryOp .Not _ _) _ _; exact de_not (by walk_at "de"))
  | (show DE _ _ (.Call (.Name "len" _) [_] [] _) _ _; exact de_lenL (by rfl) (Tx.len (by assumption)) (by walk_at "db"))
  | (show DE _ _ (.Call (.Name "len" _) [_] [] _) _ _; exact de_lenT (by rfl) (Tx.len (by assumption)) (by walk_at "de"))
  | (show DE _ _ (.Call (.Name "tuple" _) [_] [] _) _ _; exact de_tupleL (by rfl) (Tx.tuple (by assumption)) (by walk_at "db"))
  | (show DE _ _ (.Call (.Name "sum" _) [_] [] _) _ _; exact de_sum rfl (by rfl) (Tx.sum (by assumption)) (by walk_at "db"))
  | (show DE _ _ (.Call (.Name "all" _) [_] [] _) _ _; exact de_all rfl (by rfl) (Tx.all (by assumption)) (by walk_at "db"))
  | (show DE _ _ (.Tuple _ _ _) _ _; exact de_tup (by walk_at "da") (by simp))
  | (show DE _ _ _ _ (.lst _); exact DN.e (by walk_at "dn")))
local macro_rules | `(tactic| walk_at "da") => `(tactic| first
  | exact da_nil
  | (show DA _ _ (_ :: _) _ _; exact da_cons (by walk_at "de") (by walk_at "da")))
local macro_rules | `(tactic| walk_at "dab") => `(tactic| first
  | exact dab_nil
  | (show DAB _ _ (_ :: _) _ _; exact dab_cons (by walk_at "db") (by walk_at "dab")))
local macro_rules | `(tactic| walk_at "do") => `(tactic| first
  | exact do_none
  | (show DO _ _ (some _) _ _; exact do_some (by walk_at "db")))
local macro_rules | `(tactic| walk_at "dt") => `(tactic| first
  | (show DT _ _ (.UnaryOp .Not _ _) _ _; exact dt_not (by walk_at "dt"))
  | (show DT _ _ (.Compare _ [.In] [_] _) _ _; exact dt_inL (by walk_at "db") (by walk_at "db"))
  | (show DT _ _ (.Compare _ [.In] [_] _) _ _; exact dt_inT (by walk_at "db") (by walk_at "db"))
  | (show DT _ _ (.Compare _ [.NotIn] [_] _) _ _; exact dt_niL (by walk_at "db") (by walk_at "db"))
  | (show DT _ _ (.Compare _ [.Lt] [_] _) _ _; exact dt_lt (by walk_at "db") (by walk_at "db"))
  | (show DT _ _ (.Compare _ [.LtE] [_] _) _ _; exact dt_le (by walk_at "db") (by walk_at "db"))
  | (show DT _ _ (.Compare _ [.Gt] [_] _) _ _; exact dt_gt (by walk_at "db") (by walk_at "db"))
  | (show DT _ _ (.Compare _ [.GtE] [_] _) _ _; exact dt_ge (by walk_at "db") (by walk_at "db"))
  | (show DT _ _ (.Compare _ [.Eq] [_] _) _ _; exact dt_eqI (by walk_at "db") (by walk_at "db"))
  | (show DT _ _ (.Compare _ [.NotEq] [_] _) _ _; exact dt_neI (by walk_at "db") (by walk_at "db"))
  | (show DT _ _ (.Compare _ [.Eq] [_] _) _ _; exact dt_eqS (by walk_at "db") (by walk_at "db"))
  | (show DT _ _ (.Compare _ [.NotEq] [_] _) _ _; exact dt_neS (by walk_at "db") (by walk_at "db"))
  | (show DT _ _ (.Compare _ [.Eq] [_] _) _ _; exact dt_eqB (by walk_at "db") (by walk_at "db"))
  | (show DT _ _ (.Compare _ [.NotEq] [_] _) _ _; exact dt_neB (by walk_at "db") (by walk_at "db"))
  | (show DT _ _ (.Compare _ [.Is] [_] _) _ _; exact dt_isN (by walk_at "db"))
  | (show DT _ _ (.Compare _ [.IsNot] [_] _) _ _; exact dt_notN (by walk_at "db"))
  | (show DT _ _ (.BoolOp _ _ _) _ _; exact DW.t (by walk_at "dw"))
  | (show DT _ _ (.Call _ _ _ _) _ _; exact dt_e (by walk_at "de"))
  | (show DT _ _ (.Name _ _) _ _; exact dt_e (by walk_at "de")))
local macro_rules | `(tactic| walk_at "dn") => `(tactic| first
  | (show DN _ _ (.Call (.Name "list" _) [_] [] _) _ _; exact dn_listT (by rfl) (Tx.list (by assumption)) (by walk_at "de"))
  | (show DN _ _ (.Call (.Name "list" _) [_] [] _) _ _; exact dn_listL (by rfl) (Tx.list (by assumption)) (by walk_at "db"))
  | (show DN _ _ (.List _ _) _ _; exact dn_lst (by walk_at "da") (by simp))
  | (show DN _ _ (.Subscript _ (.Slice none none (some _) _) _) _ _; exact dn_rev (by walk_at "db"))
  | (show DN _ _ (.Subscript _ (.Slice _ _ none _) _) _ _; exact dn_slL (by walk_at "db") (by walk_at "do") (by walk_at "do")))
local macro_rules | `(tactic| walk_at "loc") => `(tactic| first
  | exact Or.inl rfl
  | exact Or.inr rfl)
local macro_rules | `(tactic| walk_at "pn") => `(tactic| first
  | exact pg_name (i := 0) (by assumption) (by rfl) (by walk_at "loc")
  | exact pg_name (i := 1) (by assumption) (by rfl) (by walk_at "loc")
  | exact pg_name (i := 2) (by assumption) (by rfl) (by walk_at "loc")
  | exact pg_name (i := 3) (by assumption) (by rfl) (by walk_at "loc")
  | exact pg_name (i := 4) (by assumption) (by rfl) (by walk_at "loc")
  | exact pg_name (i := 5) (by assumption) (by rfl) (by walk_at "loc")
  | exact pg_name (i := 6) (by assumption) (by rfl) (by walk_at "loc")
  | exact pg_name (i := 7) (by assumption) (by rfl) (by walk_at "loc")
  | exact pg_name (i := 8) (by assumption) (by rfl) (by walk_at "loc")
  | exact pg_name (i := 9) (by assumption) (by rfl) (by walk_at "loc")
  | exact pg_name (i := 10) (by assumption) (by rfl) (by walk_at "loc")
  | exact pg_name (i := 11) (by assumption) (by rfl) (by walk_at "loc")
  | exact pg_name (i := 12) (by assumption) (by rfl) (by walk_at "loc")
  | exact pg_name (i := 13) (by assumption) (by rfl) (by walk_at "loc")
  | exact pg_name (i := 14) (by assumption) (by rfl) (by walk_at "loc")
  | exact pg_name (i := 15) (by assumption) (by rfl) (by walk_at "loc"))
local macro_rules | `(tactic| walk_at "pgs") => `(tactic| first | exact pgs_nil | exact pgs_cons (by walk_at "pg") (by walk_at "pgs"))
local macro_rules | `(tactic| walk_at "pg") => `(tactic| first | (show PG _ (.Name _ _) _; walk_at "pn") | (show PG _ (.Tuple _ _ _) _; exact pg_tup rfl (by walk_at "pgs")))
local macro_rules | `(tactic| walk_at "vis") => `(tactic| first | exact Or.inl rfl | exact Or.inr (Or.inl rfl) | exact Or.inr (Or.inr rfl))
local macro_rules | `(tactic| walk_at "isi") => `(tactic| first
  | (show DE _ _ (.Call _ [_, .Name "int" _] _ _) _ _; exact de_isi (by rfl) (Tx.inst (by assumption)) (by rfl) (Tx.int (by assumption)) boot_int (by walk_at "db") (by rfl) (by decide +kernel))
  | (show DE _ _ (.Call _ [_, .Name "bool" _] _ _) _ _; exact de_isi (by rfl) (Tx.inst (by assumption)) (by rfl) (Tx.kbool (by assumption)) boot_bool (by walk_at "db") (by rfl) (by decide +kernel))
  | (show DE _ _ (.Call _ [_, .Name "tuple" _] _ _) _ _; exact de_isi (by rfl) (Tx.inst (by assumption)) (by rfl) (Tx.tuple (by assumption)) boot_tuple (by walk_at "db") (by rfl) (by decide +kernel))
  | (show DE _ _ (.Call _ [_, .Name "str" _] _ _) _ _; exact de_isi (by rfl) (Tx.inst (by assumption)) (by rfl) (Tx.kstr (by assumption)) boot_str (by walk_at "db") (by rfl) (by decide +kernel)))
section
variable {g : Gx} {P : Program} {w : World} {K : PySem.W.Frag} {mg : Str → Option Value} {base : Heap}
abbrev s2 : Stmt := top 2
theorem sc2 : FnScope ["one", "other"] ["one", "other"] (defScope s2) := ⟨rfl, rfl, rfl, by decide +kernel, rfl, by decide +kernel, by decide +kernel⟩
def Rcp (ds : List D) (d : D) : Prop := ∃ a b : Int, ds = [.int a, .int b] ∧ d = .int (Int.gcd a b : Nat)
theorem ok2 (T : Tx g K mg) (h : Def P w K mg base "common_part" s2 ["one", "other"]) : Cal g P w K mg base "common_part" 1 ["one", "other"] Rcp := by
  refine cal_of h sc2 (fun ds d h => by obtain ⟨a, b, rfl, _⟩ := h; rfl) ?_
  rintro f cdv A outer s H E F0 H0 ds d hr ⟨a, b, rfl, rfl⟩
  refine dss_cons ?_
  apply ds_par (i := 0) (j := 1) rfl sc2.nd rfl rfl (by decide) rfl rfl ?_ ?_ rfl ?_
  rotate_left 2
  · walk_at "de"
  · walk_at "de"
  refine dss_cons (ds_while (by exact PassesOwn.never) (fun ρ _ => ∃ p q : Nat, ρ = [.sh (.int p), .sh (.int q)] ∧ Nat.gcd p q = Int.gcd a b) (fun ρ _ => match ρ with | [_, .sh (.int q)] => q.toNat | _ => 0) ?_ ?_)
  · refine ⟨a.natAbs, b.natAbs, ?_, rfl⟩
    show [_, _] = _
    congr 3 <;> congr 2 <;> split <;> omega
  · rintro ρ' z' ⟨p, q, rfl, hg⟩
    refine ⟨!decide ((q : Int) = 0), ?_, ?_, ?_⟩
    · walk_at "dt"
    · intro hq
      have hq : (q : Int) ≠ 0 := by simpa using hq
      refine dss_cons (ds_par (i := 0) (j := 1) (d1 := .int q) (d2 := .int (p % q)) rfl sc2.nd rfl rfl (by decide) rfl rfl ?_ ?_ rfl ?_)
      · walk_at "de"
      · refine de_mod (by omega) ?_ ?_ <;> walk_at "db"
      · refine dss_nil ⟨⟨q, p % q, ?_, ?_⟩, ?_⟩
        · show [_, _] = _
          congr 3
        · rw [← hg, Nat.gcd_comm p q, Nat.gcd_rec q p]
          exact Nat.gcd_comm _ _
        · show ((p : Int) % q).toNat < (q : Int).toNat
          have := Nat.mod_lt p (show 0 < q by omega)
          omega
    · intro hq
      have hq : (q : Int) = 0 := by simpa using hq
      have : q = 0 := by omega
      subst this
      refine dss_cons (ds_ret (d := .int p) (by walk_at "de") ?_)
      rw [← hg]
      simp
theorem foldl_take {α β : Type} (f : β → α → β) (b : β) {ts : List α} {k : Nat} {t : α} (h : ts[k]? = some t) : (ts.take (k + 1)).foldl f b = f ((ts.take k).foldl f b) t := by
  rw [List.take_succ, h, Option.toList, List.foldl_append]
  rfl
theorem gcdL_lt {B : Nat} : ∀ (ns : List Int) (s : Nat), s < B → (∀ x ∈ ns, x.natAbs < B) → ns.foldl (fun (s : Nat) n => Int.gcd s n) s < B
  | [], s, h, _ => h
  | n :: ns, s, h, hn => by
    refine gcdL_lt ns _ ?_ fun x hx => hn x (List.mem_cons_of_mem _ hx)
    have hn := hn n List.mem_cons_self
    rcases Nat.eq_zero_or_pos s with e | e
    · subst e
      simpa [Int.gcd] using hn
    · exact Nat.lt_of_le_of_lt (Nat.gcd_le_left _ (by simpa using e)) (by simpa using h)
theorem log2_lt {n B : Nat} (h : n < 2 ^ B) (hB : 0 < B) : n.log2 < B := by
  by_cases e : n = 0
  · subst e; simpa using hB
  · exact (Nat.log2_lt e).mpr h
abbrev s3 : Stmt := top 3
theorem sc3 : FnScope ["column", "parts", "shared", "number"] ["column", "parts"] (defScope s3) := ⟨rfl, rfl, rfl, by decide +kernel, rfl, by decide +kernel, by decide +kernel⟩
def Rlt (ds : List D) (d : D) : Prop := ∃ cs ps : List Int, ds = [intsD cs, intsD ps] ∧ d = .tup [intsD (light cs ps).1, intsD (light cs ps).2] ∧ cs.length + ps.length ≤ 1000 ∧ ∀ x ∈ cs ++ ps, x.natAbs < 2 ^ 8000
theorem ok3 (T : Tx g K mg) (h : Def P w K mg base "lightened" s3 ["column", "parts"]) (c2 : Cal g P w K mg base "common_part" 1 ["one", "other"] Rcp) : Cal g P w K mg base "lightened" 2 ["column", "parts"] Rlt := by
  refine cal_of h sc3 (fun ds d h => by obtain ⟨a, b, rfl, _⟩ := h; rfl) ?_
  rintro f cdv A outer s H E F0 H0 ds d hr ⟨cs, ps, rfl, rfl, hl, hb⟩
  have nd := sc3.nd
  refine dss_cons (ds_set (d := .int 0) (i := 2) nd rfl (by walk_at "loc") ?_ ?_)
  · walk_at "de"
  refine dss_cons (ds_for (ts := cs ++ ps) (mk := D.int) (fun t => [(3, .int t)]) PassesOwn.never rfl ?_ (by walk_at "pg") (fun t _ => tgt_name 3 _) (fun k ρ _ => ∃ w, ρ = [.sh (intsD cs), .sh (intsD ps), .sh (.int (gcdL ((cs ++ ps).take k) : Nat)), w]) ⟨_, rfl⟩ ?_ ?_)
  · rw [List.map_append]
    exact di_list (DN.e (dn_cat (by simpa using hl) (by walk_at "db") (by walk_at "db")))
  · rintro k t ρ' z' ht ⟨w, rfl⟩
    refine dss_cons (ds_set (d := .int (gcdL ((cs ++ ps).take (k + 1)) : Nat)) (i := 2) nd rfl (by walk_at "loc") ?_ (dss_nil ⟨_, rfl⟩))
    refine de_callC c2 (by walk_at "room") (by rfl) (by walk_at "da") ⟨_, _, rfl, ?_⟩
    rw [gcdL, foldl_take _ _ ht]
    rfl
  · rintro ρ' z' ⟨w, rfl⟩
    rw [List.take_length]
    have hg : gcdL (cs ++ ps) < 2 ^ 8000 := gcdL_lt _ _ (by decide +kernel) hb
    refine dss_cons (ds_if (by walk_at "dt") ?_ ?_)
    · intro hq
      have hq : gcdL (cs ++ ps) < 2 := by simp at hq; omega
      refine dss_cons (ds_ret (by walk_at "de") ?_)
      rw [light, if_pos hq]
    · intro hq
      have hq : ¬ gcdL (cs ++ ps) < 2 := by simp at hq; omega
      refine dss_nil ?_
      refine dss_cons (ds_ret (d := .tup [intsD (light cs ps).1, intsD (light cs ps).2]) ?_ rfl)
      rw [light, if_neg hq]
      refine de_tup (da_cons (DN.e ?_) (da_cons (DN.e ?_) da_nil)) (by simp)
      · rw [List.map_map]
        refine dn_map (ts := cs) (mk := D.int) (j := 3) rfl nd (di_list (by walk_at "de")) (blkOk_by (by rfl)) (fun s H C cl fp => by walk_at "pg") (fun s H C cl fp t ht => ?_) (by omega)
        refine de_fdivW ⟨by omega, ?_⟩ (by walk_at "db") (by walk_at "db")
        exact Nat.lt_trans (log2_lt hg (by decide)) (by decide)
      · rw [List.map_map]
        refine dn_map (ts := ps) (mk := D.int) (j := 3) rfl nd (di_list (by walk_at "de")) (blkOk_by (by rfl)) (fun s H C cl fp => by walk_at "pg") (fun s H C cl fp t ht => ?_) (by omega)
        refine de_fdivW ⟨by omega, ?_⟩ (by walk_at "db") (by walk_at "db")
        exact Nat.lt_trans (log2_lt hg (by decide)) (by decide)
theorem zip_at {α : Type} {xs : List α} {k : Nat} {t : α × Nat} (h : xs.zipIdx[k]? = some t) : t.2 = k ∧ xs[k]? = some t.1 := by
  rw [List.getElem?_zipIdx] at h
  cases e : xs[k]? with
  | none => rw [e] at h; cases h
  | some x => rw [e] at h; cases h; exact ⟨Nat.zero_add k, rfl⟩
theorem map_at {α β : Type} {f : α → β} {xs : List α} {k : Nat} {t : β} (h : (xs.map f)[k]? = some t) : ∃ x, xs[k]? = some x ∧ f x = t := by
  rw [List.getElem?_map] at h
  cases e : xs[k]? with
  | none => rw [e] at h; cases h
  | some x => rw [e] at h; exact ⟨x, rfl, Option.some.inj h⟩
theorem placeFrom_hit : ∀ (cs : List Int) (k i : Nat) (x : Int), cs[k]? = some x → x ≠ 0 → (∀ j, j < k → cs[j]? = some 0) → placeFrom i cs = some (i + k)
  | [], _, _, _, h, _, _ => by simp at h
  | c :: cs, 0, i, x, h, hx, _ => by
    have e : c = x := by simpa using h
    rw [placeFrom, e, if_neg hx]
    rfl
  | c :: cs, k + 1, i, x, h, hx, hz => by
    have e : c = 0 := by simpa using hz 0 (by omega)
    rw [placeFrom, e, if_pos rfl, placeFrom_hit cs k (i + 1) x (by simpa using h) hx (fun j hj => by simpa using hz (j + 1) (by omega))]
    congr 1
    omega
theorem placeFrom_none : ∀ (cs : List Int) (i : Nat), (∀ j, j < cs.length → cs[j]? = some 0) → placeFrom i cs = none
  | [], _, _ => rfl
  | c :: cs, i, hz => by
    have e : c = 0 := by simpa using hz 0 (by simp)
    rw [placeFrom, e, if_pos rfl, placeFrom_none cs (i + 1) fun j hj => by simpa using hz (j + 1) (by simpa using hj)]
abbrev s4 : Stmt := top 4
theorem sc4 : FnScope ["column", "place", "number"] ["column"] (defScope s4) := ⟨rfl, rfl, rfl, by decide +kernel, rfl, by decide +kernel, by decide +kernel⟩
def optD : Option Nat → D
  | none => .non
  | some i => .int i
def Rpl (ds : List D) (d : D) : Prop := ∃ cs : List Int, ds = [intsD cs] ∧ d = optD (placeOf cs)
theorem ok4 (T : Tx g K mg) (h : Def P w K mg base "place_of" s4 ["column"]) : Cal g P w K mg base "place_of" 1 ["column"] Rpl := by
  refine cal_of h sc4 (fun ds d h => by obtain ⟨a, rfl, _⟩ := h; rfl) ?_
  rintro f cdv A outer s H E F0 H0 ds d hr ⟨cs, rfl, rfl⟩
  have nd := sc4.nd
  refine dss_cons (ds_for (ts := (cs.map D.int).zipIdx) (mk := fun q => D.tup [D.int q.2, q.1]) (fun t => [(1, .int t.2), (2, t.1)]) PassesOwn.never rfl (di_n (l := true) (by rfl) T.enum (by show DE _ _ _ _ (.lst _); walk_at "de")) (by walk_at "pg") (fun t _ => tgt_tup2 1 2 _ _)
    (fun k ρ _ => (∃ u w, ρ = [.sh (intsD cs), u, w]) ∧ ∀ j, j < k → cs[j]? = some 0) ⟨⟨_, _, rfl⟩, fun j hj => by omega⟩ ?_ ?_)
  · rintro k ⟨td, tn⟩ ρ' z' ht ⟨⟨u, w, rfl⟩, hz⟩
    obtain ⟨rfl, h2⟩ := zip_at ht
    obtain ⟨x, hx, rfl⟩ := map_at h2
    refine dss_cons (ds_if (b := !decide (x = 0)) (by walk_at "dt") ?_ ?_)
    · intro hq
      have hq : x ≠ 0 := by simpa using hq
      refine dss_cons (ds_ret (by walk_at "de") ?_)
      rw [placeOf, placeFrom_hit cs _ 0 x hx hq hz, Nat.zero_add]
      rfl
    · intro hq
      have hq : x = 0 := by simpa using hq
      subst hq
      refine dss_nil (dss_nil ⟨⟨_, _, rfl⟩, fun j hj => ?_⟩)
      by_cases e : j = tn
      · subst e; exact hx
      · exact hz j (by simp only at hj; omega)
  · rintro ρ' z' ⟨⟨u, w, rfl⟩, hz⟩
    refine dss_cons (ds_ret (by walk_at "de") ?_)
    rw [placeOf, placeFrom_none cs 0 fun j hj => hz j (by simpa using hj)]
    rfl
end
section
variable {g : Gx} {P : Program} {w : World} {K : PySem.W.Frag} {mg : Str → Option Value} {base : Heap}
theorem rep_one {α : Type} (x : α) : ∀ n : Nat, (List.replicate n [x]).flatten = List.replicate n x
  | 0 => rfl
  | n + 1 => by rw [List.replicate_succ, List.flatten_cons, rep_one x n]; rfl
theorem map_rep {α β : Type} (f : α → β) (x : α) (n : Nat) : (List.replicate n x).map f = List.replicate n (f x) := by simp
theorem nextStep_len (l f : List Int) (m : Nat × Nat × Nat) : (nextStep l f m).length = f.length := by rw [nextStep, List.length_set]
theorem nextFold_len (l : List Int) : ∀ (ms : List (Nat × Nat × Nat)) (f : List Int), (ms.foldl (nextStep l) f).length = f.length
  | [], f => rfl
  | m :: ms, f => by rw [List.foldl_cons, nextFold_len l ms, nextStep_len]
theorem layerAt_len (m : Fm) : ∀ k, (layerAt m k).length = m.size
  | 0 => by simp [layerAt, firstLayer]
  | k + 1 => by rw [layerAt, nextLayer, nextFold_len, List.length_replicate]
theorem atI_nat {α : Type} {xs : List α} {i : Nat} {x : α} (h : xs[i]? = some x) : atI xs (i : Int) = some x := by
  have hi := (List.getElem?_eq_some_iff.mp h).1
  unfold atI ixN
  rw [if_pos (by omega), if_pos (by omega)]
  exact h
theorem ixN_nat {n i : Nat} (h : i < n) : ixN n (i : Int) = some i := by
  unfold ixN
  rw [if_pos (by omega), if_pos (by omega)]
  rfl
theorem getD_at {α : Type} {xs : List α} {i : Nat} {d : α} (h : i < xs.length) : xs[i]? = some (xs.getD i d) := by
  rw [List.getD_eq_getElem?_getD, List.getElem?_eq_getElem h]
  rfl
abbrev s8 : Stmt := top 8
theorem sc8 : FnScope ["form", "ends", "state"] ["form"] (defScope s8) := ⟨rfl, rfl, rfl, by decide +kernel, rfl, by decide +kernel, by decide +kernel⟩
def R8 (ds : List D) (d : D) : Prop := ∃ m : Fm, ds = [fmD m] ∧ d = intsD (firstLayer m) ∧ m.Ok
theorem ok8 (T : Tx g K mg) (h : Def P w K mg base "first_layer" s8 ["form"]) : Cal g P w K mg base "first_layer" 1 ["form"] R8 := by
  refine cal_of h sc8 (fun ds d h => by obtain ⟨m, rfl, _⟩ := h; rfl) ?_
  rintro f cdv A outer s H E F0 H0 ds d hr ⟨m, rfl, rfl, hm⟩
  have nd := sc8.nd
  have hz := hm.big
  refine dss_cons (ds_new (xs := (nums m.ends).map D.int) (i := 1) nd rfl (by walk_at "loc") (by walk_at "dn") ?_)
  refine dss_fix (i := 1) rfl ?_
  refine dss_cons (ds_ret (d := intsD (firstLayer m)) ?_ rfl)
  unfold intsD firstLayer
  rw [List.map_map]
  refine (dn_map (ts := List.range m.size) (mk := fun (i : Nat) => D.int i) (j := 2) rfl nd (di_range1 (by rfl) T.range (by omega) (by walk_at "de")) (blkOk_by (by rfl)) (fun s H C cl fp => by walk_at "pg") (fun s H C cl fp t ht => ?_) (by simp; omega)).e
  have e : D.int (if decide ((t : Int) ∈ nums m.ends) = true then 1 else 0) = (D.int ∘ fun i => if i ∈ m.ends then 1 else 0) t := by
    show D.int _ = D.int _
    congr 1
    have : decide ((t : Int) ∈ nums m.ends) = decide (t ∈ m.ends) := by
      congr 1
      simp only [nums, List.mem_map, eq_iff_iff]
      exact ⟨fun ⟨a, h1, h2⟩ => by have e : a = t := by omega
                                   rw [← e]; exact h1, fun h => ⟨t, h, rfl⟩⟩
    rw [this]
    simp
  exact e ▸ de_intB (by rfl) T.int (DE.b (de_inL (by walk_at "db") (by walk_at "db")))
abbrev s9 : Stmt := top 9
theorem sc9 : FnScope ["form", "layer", "found", "state", "letter", "further"] ["form", "layer"] (defScope s9) := ⟨rfl, rfl, rfl, by decide +kernel, rfl, by decide +kernel, by decide +kernel⟩
def R9 (ds : List D) (d : D) : Prop := ∃ (m : Fm) (l : List Int), ds = [fmD m, intsD l] ∧ d = intsD (nextLayer m l) ∧ m.Ok ∧ l.length = m.size
theorem ok9 (T : Tx g K mg) (h : Def P w K mg base "next_layer" s9 ["form", "layer"]) : Cal g P w K mg base "next_layer" 1 ["form", "layer"] R9 := by
  refine cal_of h sc9 (fun ds d h => by obtain ⟨m, l, rfl, _⟩ := h; rfl) ?_
  rintro f cdv A outer s H E F0 H0 ds d hr ⟨m, l, rfl, rfl, hm, hl⟩
  have nd := sc9.nd
  have hz := hm.big
  refine dss_cons (ds_new (xs := (List.replicate m.size (0 : Int)).map D.int) (i := 2) nd rfl (by walk_at "loc") ?_ ?_)
  · rw [map_rep, ← rep_one]
    exact dn_rep (k := (m.size : Int)) (xs := [.int 0]) (by omega) (by omega) (by simp; omega) (DE.b (DN.e (by walk_at "dn"))) (by walk_at "db")
  refine dss_cons (ds_for (ts := m.moves) (mk := mvD) (fun t => [(3, .int t.1), (4, .str (chr t.2.1)), (5, .int t.2.2)]) PassesOwn.never rfl (di_tup (by walk_at "de")) (by walk_at "pg") (fun t _ => tgt_tup3 3 4 5 _ _ _)
    (fun k ρ _ => ∃ u v w, ρ = [.sh (fmD m), .sh (intsD l), .own (((m.moves.take k).foldl (nextStep l) (List.replicate m.size 0)).map D.int), u, v, w]) ⟨_, _, _, rfl⟩ ?_ ?_)
  · rintro k t ρ' z' ht ⟨u, v, w, rfl⟩
    have hmem := List.mem_of_getElem? ht
    have h1 := hm.near t hmem
    have h2 := hm.far t hmem
    have hlen : ((m.moves.take k).foldl (nextStep l) (List.replicate m.size 0)).length = m.size := by rw [nextFold_len, List.length_replicate]
    refine dss_cons (ds_augix (i := 2) (j := t.1) (k := t.1) (m := ((m.moves.take k).foldl (nextStep l) (List.replicate m.size 0)).getD t.1 0) (q := l.getD t.2.2 0) rfl rfl (by walk_at "vis") (by walk_at "de") (ixN_nat (by rw [List.length_map]; omega)) ?_ ?_ (dss_nil ?_))
    · rw [List.getElem?_map, getD_at (d := 0) (by omega)]
      rfl
    · refine de_ixL (i := (t.2.2 : Int)) (xs := l.map D.int) (atI_nat ?_) (by walk_at "db") (by walk_at "db")
      rw [List.getElem?_map, getD_at (d := 0) (by omega)]
      rfl
    · refine ⟨.sh (.int t.1), .sh (.str (chr t.2.1)), .sh (.int t.2.2), ?_⟩
      rw [foldl_take _ _ ht, nextStep, List.map_set]
      rfl
  · rintro ρ' z' ⟨u, v, w, rfl⟩
    refine dss_fix (i := 2) rfl ?_
    refine dss_cons (ds_ret (by walk_at "de") ?_)
    rw [List.take_length]
    rfl
abbrev s10 : Stmt := top 10
theorem sc10 : FnScope ["form", "many", "found", "layer", "turn"] ["form", "many"] (defScope s10) := ⟨rfl, rfl, rfl, by decide +kernel, rfl, by decide +kernel, by decide +kernel⟩
def layersD (m : Fm) (k : Nat) : List D := (List.range k).map fun i => intsD (layerAt m i)
def R10 (ds : List D) (d : D) : Prop := ∃ (m : Fm) (k : Nat), ds = [fmD m, .int k] ∧ d = .lst (layersD m k) ∧ m.Ok ∧ k ≤ 100
theorem ok10 (T : Tx g K mg) (h : Def P w K mg base "layers" s10 ["form", "many"]) (c8 : Cal g P w K mg base "first_layer" 1 ["form"] R8) (c9 : Cal g P w K mg base "next_layer" 1 ["form", "layer"] R9) : Cal g P w K mg base "layers" 2 ["form", "many"] R10 := by
  refine cal_of h sc10 (fun ds d h => by obtain ⟨m, l, rfl, _⟩ := h; rfl) ?_
  rintro f cdv A outer s H E F0 H0 ds d hr ⟨m, n, rfl, rfl, hm, hn⟩
  have nd := sc10.nd
  refine dss_cons (ds_new (xs := []) (i := 2) nd rfl (by walk_at "loc") (by walk_at "dn") ?_)
  refine dss_cons (ds_set (d := intsD (layerAt m 0)) (i := 3) nd rfl (by walk_at "loc") (de_callC c8 (by walk_at "room") (by rfl) (by walk_at "da") ⟨_, rfl, rfl, hm⟩) ?_)
  refine dss_cons (ds_for (ts := List.range n) (mk := fun (i : Nat) => D.int i) (fun t => [(4, .int t)]) PassesOwn.never rfl (di_range1 (by rfl) T.range (by omega) (by walk_at "de")) (by walk_at "pg") (fun t _ => tgt_name 4 _)
    (fun k ρ _ => ∃ u, ρ = [.sh (fmD m), .sh (.int n), .own (layersD m k), .sh (intsD (layerAt m k)), u]) ⟨_, rfl⟩ ?_ ?_)
  · rintro k t ρ' z' ht ⟨u, rfl⟩
    have hk : k < n := by have := (List.getElem?_eq_some_iff.mp ht).1; simpa using this
    refine dss_cons (ds_append (i := 2) (xs := layersD m k) (d := intsD (layerAt m k)) rfl rfl (by walk_at "vis") (by walk_at "de") (by simp [layersD]; omega) ?_)
    refine dss_cons (ds_set (d := intsD (layerAt m (k + 1))) (i := 3) nd rfl (by walk_at "loc") (de_callC c9 (by walk_at "room") (by rfl) (by walk_at "da") ⟨_, _, rfl, rfl, hm, layerAt_len m k⟩) (dss_nil ⟨.sh (.int t), ?_⟩))
    rw [layersD, layersD, List.range_succ, List.map_append]
    rfl
  · rintro ρ' z' ⟨u, rfl⟩
    refine dss_fix (i := 2) rfl ?_
    refine dss_cons (ds_ret (by walk_at "de") ?_)
    rw [List.length_range]
theorem layersD_at (m : Fm) {i k : Nat} (h : i < k) : (layersD m k)[i]? = some (intsD (layerAt m i)) := by
  rw [layersD, List.getElem?_map, List.getElem?_range h]
  rfl
abbrev s11 : Stmt := top 11
theorem sc11 : FnScope ["form", "length"] ["form", "length"] (defScope s11) := ⟨rfl, rfl, rfl, by decide +kernel, rfl, by decide +kernel, by decide +kernel⟩
def R11 (ds : List D) (d : D) : Prop := ∃ (m : Fm) (k : Nat), ds = [fmD m, .int k] ∧ d = tupD (layerAt m k) ∧ m.Ok ∧ k < 100
theorem ok11 (T : Tx g K mg) (h : Def P w K mg base "counts_by_state" s11 ["form", "length"]) (c10 : Cal g P w K mg base "layers" 2 ["form", "many"] R10) : Cal g P w K mg base "counts_by_state" 3 ["form", "length"] R11 := by
  refine cal_of h sc11 (fun ds d h => by obtain ⟨m, l, rfl, _⟩ := h; rfl) ?_
  rintro f cdv A outer s H E F0 H0 ds d hr ⟨m, n, rfl, rfl, hm, hn⟩
  refine dss_cons (ds_ret (d := tupD (layerAt m n)) ?_ rfl)
  refine de_tupleL (by rfl) T.tuple (DE.b (de_ixL (i := (n : Int)) (xs := layersD m (n + 1)) (atI_nat (layersD_at m (by omega))) (DE.b (de_callC (ds := [fmD m, .int ((n : Int) + 1)]) c10 (by walk_at "room") (by rfl) (by walk_at "da") ⟨m, n + 1, rfl, rfl, hm, by omega⟩)) (by walk_at "db")))
abbrev s12 : Stmt := top 12
theorem sc12 : FnScope ["form", "state", "length"] ["form", "state", "length"] (defScope s12) := ⟨rfl, rfl, rfl, by decide +kernel, rfl, by decide +kernel, by decide +kernel⟩
def R12 (ds : List D) (d : D) : Prop := ∃ (m : Fm) (t k : Nat), ds = [fmD m, .int t, .int k] ∧ d = .int (cnt m t k) ∧ m.Ok ∧ t < m.size ∧ k < 100
theorem layer_at {m : Fm} {t : Nat} (k : Nat) (h : t < m.size) : ((layerAt m k).map D.int)[t]? = some (.int (cnt m t k)) := by
  rw [List.getElem?_map, getD_at (d := 0) (by rw [layerAt_len]; exact h)]
  rfl
theorem ok12 (T : Tx g K mg) (h : Def P w K mg base "count_from" s12 ["form", "state", "length"]) (c11 : Cal g P w K mg base "counts_by_state" 3 ["form", "length"] R11) : Cal g P w K mg base "count_from" 4 ["form", "state", "length"] R12 := by
  refine cal_of h sc12 (fun ds d h => by obtain ⟨m, t, k, rfl, _⟩ := h; rfl) ?_
  rintro f cdv A outer s H E F0 H0 ds d hr ⟨m, t, n, rfl, rfl, hm, ht, hn⟩
  refine dss_cons (ds_ret (d := .int (cnt m t n)) ?_ rfl)
  exact de_ixT (i := (t : Int)) (xs := (layerAt m n).map D.int) (atI_nat (layer_at n ht)) (DE.b (de_callC c11 (by walk_at "room") (by rfl) (by walk_at "da") ⟨m, n, rfl, rfl, hm, hn⟩)) (by walk_at "db")
abbrev s13 : Stmt := top 13
theorem sc13 : FnScope ["form", "length"] ["form", "length"] (defScope s13) := ⟨rfl, rfl, rfl, by decide +kernel, rfl, by decide +kernel, by decide +kernel⟩
def R13 (ds : List D) (d : D) : Prop := ∃ (m : Fm) (k : Nat), ds = [fmD m, .int k] ∧ d = .int (cnt m 0 k) ∧ m.Ok ∧ k < 100
theorem ok13 (T : Tx g K mg) (h : Def P w K mg base "count" s13 ["form", "length"]) (c12 : Cal g P w K mg base "count_from" 4 ["form", "state", "length"] R12) : Cal g P w K mg base "count" 5 ["form", "length"] R13 := by
  refine cal_of h sc13 (fun ds d h => by obtain ⟨m, k, rfl, _⟩ := h; rfl) ?_
  rintro f cdv A outer s H E F0 H0 ds d hr ⟨m, n, rfl, rfl, hm, hn⟩
  refine dss_cons (ds_ret (d := .int (cnt m 0 n)) ?_ rfl)
  exact de_callC c12 (by walk_at "room") (by rfl) (by walk_at "da") ⟨m, 0, n, rfl, rfl, hm, hm.pos, hn⟩
abbrev s14 : Stmt := top 14
theorem sc14 : FnScope ["form", "many", "layer"] ["form", "many"] (defScope s14) := ⟨rfl, rfl, rfl, by decide +kernel, rfl, by decide +kernel, by decide +kernel⟩
def R14 (ds : List D) (d : D) : Prop := ∃ (m : Fm) (k : Nat), ds = [fmD m, .int k] ∧ d = tupD (seqUp (cnt m 0) k) ∧ m.Ok ∧ k < 100
theorem ok14 (T : Tx g K mg) (h : Def P w K mg base "counts" s14 ["form", "many"]) (c10 : Cal g P w K mg base "layers" 2 ["form", "many"] R10) : Cal g P w K mg base "counts" 3 ["form", "many"] R14 := by
  refine cal_of h sc14 (fun ds d h => by obtain ⟨m, k, rfl, _⟩ := h; rfl) ?_
  rintro f cdv A outer s H E F0 H0 ds d hr ⟨m, n, rfl, rfl, hm, hn⟩
  have nd := sc14.nd
  refine dss_cons (ds_ret (d := tupD (seqUp (cnt m 0) n)) ?_ rfl)
  refine de_tupleL (by rfl) T.tuple (DE.b (DN.e ?_))
  rw [seqUp, List.map_map]
  refine dn_map (ts := List.range n) (mk := fun i => intsD (layerAt m i)) (j := 2) rfl nd (di_list (de_callC c10 (by walk_at "room") (by rfl) (by walk_at "da") ⟨m, n, rfl, rfl, hm, by omega⟩)) (blkOk_by (by rfl)) (fun s H C cl fp => by walk_at "pg") (fun s H C cl fp t ht => ?_) (by simp; omega)
  exact de_ixL (i := (0 : Int)) (xs := (layerAt m t).map D.int) (atI_nat (i := 0) (layer_at t hm.pos)) (by walk_at "db") (by walk_at "db")
end
section
variable {g : Gx} {P : Program} {w : World} {K : PySem.W.Frag} {mg : Str → Option Value} {base : Heap}
theorem sumN_congr {f h : Nat → Int} : ∀ {n : Nat}, (∀ i, i < n → f i = h i) → sumN f n = sumN h n
  | 0, _ => rfl
  | n + 1, e => by rw [sumN, sumN, sumN_congr fun i hi => e i (by omega), e n (by omega)]
theorem seqUp_len (a : Nat → Int) (n : Nat) : (seqUp a n).length = n := by simp [seqUp]
theorem seqUp_at {a : Nat → Int} {n i : Nat} (h : i < n) : (seqUp a n)[i]? = some (a i) := by
  rw [seqUp, List.getElem?_map, List.getElem?_range h]
  rfl
theorem seqUp_get {a : Nat → Int} {n i : Nat} (h : i < n) : (seqUp a n).getD i 0 = a i := by
  rw [List.getD_eq_getElem?_getD, seqUp_at h]
  rfl
theorem seqUp_succ (a : Nat → Int) (n : Nat) : seqUp a (n + 1) = seqUp a n ++ [a n] := by
  rw [seqUp, seqUp, List.range_succ, List.map_append]
  rfl
theorem seqUp_take (a : Nat → Int) {n k : Nat} (h : k ≤ n) : (seqUp a n).take k = seqUp a k := by
  rw [seqUp, seqUp, ← List.map_take, List.take_range, Nat.min_eq_left h]
theorem gen_next {r : Rule} {a : Nat → Int} (h : Gen r a) (n : Nat) : nextTerm (seqUp a (n + r.2.length)) r.2 = a (n + r.2.length) := by
  rw [h.step n, nextTerm]
  refine sumN_congr fun i hi => ?_
  rw [seqUp_len, seqUp_get (by omega)]
/-! ### is_integer, are_integers, is_rule -/
abbrev s17 : Stmt := top 17
theorem sc17 : FnScope ["thing"] ["thing"] (defScope s17) := ⟨rfl, rfl, rfl, by decide +kernel, rfl, by decide +kernel, by decide +kernel⟩
def R17 (ds : List D) (d : D) : Prop := ∃ n : Int, ds = [.int n] ∧ d = .bl true
theorem ok17 (T : Tx g K mg) (h : Def P w K mg base "is_integer" s17 ["thing"]) : Cal g P w K mg base "is_integer" 1 ["thing"] R17 := by
  refine cal_of h sc17 (fun ds d h => by obtain ⟨m, rfl, _⟩ := h; rfl) ?_
  rintro f cdv A outer s H E F0 H0 ds d hr ⟨m, rfl, rfl⟩
  refine dss_cons (ds_ret (d := .bl (true && !false)) ?_ rfl)
  refine de_and (by walk_at "isi") fun _ => de_one (de_not (by walk_at "isi"))
abbrev s18 : Stmt := top 18
theorem sc18 : FnScope ["thing", "number"] ["thing"] (defScope s18) := ⟨rfl, rfl, rfl, by decide +kernel, rfl, by decide +kernel, by decide +kernel⟩
def R18 (ds : List D) (d : D) : Prop := ∃ ns : List Int, ds = [tupD ns] ∧ d = .bl true ∧ ns.length ≤ 100
theorem all_yes {α : Type} (l : List α) : (l.map fun _ => true).all (fun b => b) = true := by simp
theorem ok18 (T : Tx g K mg) (h : Def P w K mg base "are_integers" s18 ["thing"]) (c17 : Cal g P w K mg base "is_integer" 1 ["thing"] R17) : Cal g P w K mg base "are_integers" 2 ["thing"] R18 := by
  refine cal_of h sc18 (fun ds d h => by obtain ⟨m, rfl, _⟩ := h; rfl) ?_
  rintro f cdv A outer s H E F0 H0 ds d hr ⟨ns, rfl, rfl, hl⟩
  have nd := sc18.nd
  refine dss_cons (ds_ret (d := .bl (true && (ns.map fun _ => true).all fun b => b)) ?_ (by rw [all_yes]; rfl))
  refine de_and (by walk_at "isi") fun _ => de_one (de_all rfl (by rfl) T.all (DE.b (DN.e ?_)))
  rw [List.map_map]
  refine dn_map (ts := ns) (mk := D.int) (j := 1) rfl nd (di_tup (by walk_at "de")) (blkOk_by (by rfl)) (fun s H C cl fp => by walk_at "pg") (fun s H C cl fp t ht => ?_) (by omega)
  exact de_callC c17 (by walk_at "room") (by rfl) (by walk_at "da") ⟨_, rfl, rfl⟩
abbrev s19 : Stmt := top 19
theorem sc19 : FnScope ["thing"] ["thing"] (defScope s19) := ⟨rfl, rfl, rfl, by decide +kernel, rfl, by decide +kernel, by decide +kernel⟩
def R19 (ds : List D) (d : D) : Prop := ∃ r : Rule, ds = [rl r] ∧ d = .bl true ∧ r.1.length = r.2.length ∧ r.2.length ≤ 100
theorem ok19 (T : Tx g K mg) (h : Def P w K mg base "is_rule" s19 ["thing"]) (c18 : Cal g P w K mg base "are_integers" 2 ["thing"] R18) : Cal g P w K mg base "is_rule" 3 ["thing"] R19 := by
  refine cal_of h sc19 (fun ds d h => by obtain ⟨m, rfl, _⟩ := h; rfl) ?_
  rintro f cdv A outer s H E F0 H0 ds d hr ⟨r, rfl, rfl, hl, h1⟩
  refine dss_cons (ds_if (b := (!true || !decide ((2 : Int) = 2))) (DW.t (dw_or (dt_not (dt_e (by walk_at "isi"))) fun _ => dw_or1 (dt_neI (i := 2) (j := 2) (DE.b (de_lenT (xs := [.tup (r.1.map D.int), .tup (r.2.map D.int)]) (by rfl) T.len (by walk_at "de"))) (DE.b (de_gI (by rfl) T.two))))) (fun e => absurd e (by decide)) fun _ => dss_nil ?_)
  refine dss_cons (ds_ret (d := .bl (true && (true && decide ((r.1.length : Int) = (r.2.length : Int))))) ?_ (by rw [hl]; simp))
  refine de_and (de_callC (ds := [tupD r.1]) c18 (by walk_at "room") (by rfl) ?_ ⟨_, rfl, rfl, by omega⟩) fun _ => ?_
  · refine da_cons (de_ixT (i := 0) (xs := [.tup (r.1.map D.int), .tup (r.2.map D.int)]) rfl ?_ ?_) da_nil
    · walk_at "db"
    · walk_at "db"
  refine de_and (de_callC (ds := [tupD r.2]) c18 (by walk_at "room") (by rfl) (da_cons (de_ixT (i := 1) (xs := [.tup (r.1.map D.int), .tup (r.2.map D.int)]) rfl (by walk_at "db") (by walk_at "db")) da_nil) ⟨_, rfl, rfl, by omega⟩) fun _ => ?_
  refine de_one (de_eqI (DE.b ?_) (DE.b ?_))
  · rw [← List.length_map (as := r.1) (f := D.int)]
    exact de_lenT (by rfl) T.len (de_ixT (i := 0) (xs := [.tup (r.1.map D.int), .tup (r.2.map D.int)]) rfl (by walk_at "db") (by walk_at "db"))
  · rw [← List.length_map (as := r.2) (f := D.int)]
    exact de_lenT (by rfl) T.len (de_ixT (i := 1) (xs := [.tup (r.1.map D.int), .tup (r.2.map D.int)]) rfl (by walk_at "db") (by walk_at "db"))
/-! ### next_term, terms, term -/
abbrev s20 : Stmt := top 20
theorem sc20 : FnScope ["known", "factors", "found", "back", "factor"] ["known", "factors"] (defScope s20) := ⟨rfl, rfl, rfl, by decide +kernel, rfl, by decide +kernel, by decide +kernel⟩
def R20 (ds : List D) (d : D) : Prop := ∃ (l : Bool) (kn fs : List Int), ds = [sqD l (kn.map D.int), tupD fs] ∧ d = .int (nextTerm kn fs) ∧ fs.length ≤ kn.length ∧ ∀ x ∈ kn, x.natAbs < 2 ^ 63
theorem small_mul {i j : Int} (h : j.natAbs < 2 ^ 63) : CMul i j := .inr (by omega)
theorem getD_mem {xs : List Int} {i : Nat} (h : i < xs.length) : xs.getD i 0 ∈ xs := List.mem_of_getElem? (getD_at (d := 0) h)
theorem ok20 (T : Tx g K mg) (h : Def P w K mg base "next_term" s20 ["known", "factors"]) : Cal g P w K mg base "next_term" 1 ["known", "factors"] R20 := by
  refine cal_of h sc20 (fun ds d h => by obtain ⟨l, kn, fs, rfl, _⟩ := h; rfl) ?_
  rintro f cdv A outer s H E F0 H0 ds d hr ⟨l, kn, fs, rfl, rfl, hl, hb⟩
  have nd := sc20.nd
  refine dss_cons (ds_set (d := .int 0) (i := 2) nd rfl (by walk_at "loc") (by walk_at "de") ?_)
  refine dss_cons (ds_for (ts := (fs.map D.int).zipIdx) (mk := fun q => D.tup [D.int q.2, q.1]) (fun t => [(3, .int t.2), (4, t.1)]) PassesOwn.never rfl (di_n (l := false) (by rfl) T.enum (by show DE _ _ _ _ (.tup _); walk_at "de")) (by walk_at "pg") (fun t _ => tgt_tup2 3 4 _ _)
    (fun k ρ _ => ∃ u w, ρ = [.sh (sqD l (kn.map D.int)), .sh (tupD fs), .sh (.int (sumN (fun b => fs.getD b 0 * kn.getD (kn.length - 1 - b) 0) k)), u, w]) ⟨_, _, rfl⟩ ?_ ?_)
  · rintro k ⟨td, tn⟩ ρ' z' ht ⟨u, w, rfl⟩
    obtain ⟨rfl, h2⟩ := zip_at ht
    obtain ⟨x, hx, rfl⟩ := map_at h2
    simp only at hx h2
    have hk : tn < fs.length := (List.getElem?_eq_some_iff.mp hx).1
    have ex : x = fs.getD tn 0 := by rw [List.getD_eq_getElem?_getD, hx]; rfl
    refine dss_cons (ds_augAdd (i := 2) (q := x * kn.getD (kn.length - 1 - tn) 0) nd rfl (by walk_at "loc") rfl ?_ (dss_nil ⟨.sh (.int tn), .sh (.int x), ?_⟩))
    · refine de_mul (small_mul (hb _ (getD_mem (by omega)))) (by walk_at "db") (DE.b ?_)
      have at_ : ((kn.map D.int))[kn.length - 1 - tn]? = some (.int (kn.getD (kn.length - 1 - tn) 0)) := by
        rw [List.getElem?_map, getD_at (d := 0) (by omega)]
        rfl
      have ei : ((kn.length - 1 - tn : Nat) : Int) = ((kn.map D.int).length : Int) - 1 - (tn : Int) := by rw [List.length_map]; omega
      cases l with
      | true => exact de_ixL (i := ((kn.map D.int).length : Int) - 1 - (tn : Int)) (xs := kn.map D.int) (by rw [← ei]; exact atI_nat at_) (by walk_at "db") (by walk_at "db")
      | false => exact de_ixT (i := ((kn.map D.int).length : Int) - 1 - (tn : Int)) (xs := kn.map D.int) (by rw [← ei]; exact atI_nat at_) (by walk_at "db") (by walk_at "db")
    · rw [sumN, ← ex]
      rfl
  · rintro ρ' z' ⟨u, w, rfl⟩
    refine dss_cons (ds_ret (by walk_at "de") ?_)
    rw [nextTerm, List.length_zipIdx, List.length_map]
abbrev s21 : Stmt := top 21
theorem sc21 : FnScope ["rule", "many", "firsts", "factors", "found"] ["rule", "many"] (defScope s21) := ⟨rfl, rfl, rfl, by decide +kernel, rfl, by decide +kernel, by decide +kernel⟩
def R21 (ds : List D) (d : D) : Prop := ∃ (r : Rule) (a : Nat → Int) (n : Nat), ds = [rl r, .int n] ∧ d = tupD (seqUp a n) ∧ Gen r a ∧ n ≤ 100 ∧ r.2.length ≤ 100 ∧ ∀ i, i < n → (a i).natAbs < 2 ^ 63
theorem cutD_to {α : Type} {xs : List α} {n : Nat} : DL.cutD xs none (some (n : Int)) = xs.take n := by
  unfold DL.cutD
  have h0 : HT.sIx xs.length 0 none = 0 := rfl
  have h1 : HT.sIx xs.length xs.length (some (n : Int)) = min n xs.length := by
    simp [HT.sIx]
    omega
  rw [h0, h1, List.drop_zero, Nat.sub_zero]
  rw [← List.take_eq_take_min]
theorem ok21 (T : Tx g K mg) (h : Def P w K mg base "terms" s21 ["rule", "many"]) (c20 : Cal g P w K mg base "next_term" 1 ["known", "factors"] R20) : Cal g P w K mg base "terms" 2 ["rule", "many"] R21 := by
  refine cal_of h sc21 (fun ds d h => by obtain ⟨r, a, n, rfl, _⟩ := h; rfl) ?_
  rintro f cdv A outer s H E F0 H0 ds d hr ⟨r, a, n, rfl, rfl, hg, hn, hl, hb⟩
  have nd := sc21.nd
  refine dss_cons (ds_asg (d := rl r) (by walk_at "de") (by walk_at "pg") (tgt_tup2 2 3 _ _) ?_)
  refine dss_cons (ds_new (xs := r.1.map D.int) (i := 4) nd rfl (by walk_at "loc") (by walk_at "dn") ?_)
  refine dss_cons (ds_while PassesOwn.never (fun ρ _ => ∃ k, ρ = [.sh (rl r), .sh (.int n), .sh (tupD r.1), .sh (tupD r.2), .own ((seqUp a (k + r.2.length)).map D.int)] ∧ (0 < k → k + r.2.length ≤ n)) (fun ρ _ => match ρ with | [_, _, _, _, .own xs] => n - xs.length | _ => 0) ⟨0, ?_, fun h => absurd h (Nat.lt_irrefl 0)⟩ ?_)
  · rw [Nat.zero_add, ← hg.fst]
    rfl
  · rintro ρ' z' ⟨k, rfl, hk⟩
    have hlen : ((seqUp a (k + r.2.length)).map D.int).length = k + r.2.length := by rw [List.length_map, seqUp_len]
    refine ⟨decide ((((seqUp a (k + r.2.length)).map D.int).length : Int) < n), by walk_at "dt", fun hq => ?_, fun hq => ?_⟩
    · have hq : k + r.2.length < n := by rw [hlen] at hq; simpa [← Int.natCast_add] using hq
      refine dss_cons (ds_append (i := 4) (d := .int (a (k + r.2.length))) rfl rfl (by walk_at "vis") ?_ (by rw [hlen]; omega) (dss_nil ⟨⟨k + 1, ?_, fun _ => by omega⟩, ?_⟩))
      · refine de_callCB (ds := [sqD true ((seqUp a (k + r.2.length)).map D.int), tupD r.2]) c20 (by walk_at "room") (by rfl) (by show DAB _ _ _ _ [.lst _, _]; walk_at "dab") ⟨true, _, _, rfl, ?_, by rw [seqUp_len]; omega, ?_⟩
        · rw [gen_next hg]
        · intro x hx
          obtain ⟨i, hi, rfl⟩ := List.mem_map.mp hx
          exact hb i (by have := List.mem_range.mp hi; omega)
      · rw [Nat.add_right_comm, seqUp_succ, List.map_append]
        rfl
      · show n - (((seqUp a (k + r.2.length)).map D.int) ++ [D.int (a (k + r.2.length))]).length < n - ((seqUp a (k + r.2.length)).map D.int).length
        rw [List.length_append, hlen]
        simp only [List.length_singleton]
        omega
    · have hq : n ≤ k + r.2.length := by rw [hlen] at hq; simp at hq; omega
      refine dss_cons (ds_ret (d := tupD (((seqUp a (k + r.2.length))).take n)) ?_ (by rw [seqUp_take _ hq]))
      have e : tupD (((seqUp a (k + r.2.length))).take n) = .tup (DL.cutD ((seqUp a (k + r.2.length)).map D.int) none (some (n : Int))) := by rw [tupD, List.map_take, ← cutD_to]
      rw [e]
      exact de_tupleL (by rfl) T.tuple (DE.b (DN.e (dn_slL (by walk_at "db") do_none (do_some (by walk_at "db")))))
abbrev s22 : Stmt := top 22
theorem sc22 : FnScope ["rule", "index"] ["rule", "index"] (defScope s22) := ⟨rfl, rfl, rfl, by decide +kernel, rfl, by decide +kernel, by decide +kernel⟩
def R22 (ds : List D) (d : D) : Prop := ∃ (r : Rule) (a : Nat → Int) (n : Nat), ds = [rl r, .int n] ∧ d = .int (a n) ∧ Gen r a ∧ n < 100 ∧ r.2.length ≤ 100 ∧ ∀ i, i ≤ n → (a i).natAbs < 2 ^ 63
theorem ok22 (T : Tx g K mg) (h : Def P w K mg base "term" s22 ["rule", "index"]) (c21 : Cal g P w K mg base "terms" 2 ["rule", "many"] R21) : Cal g P w K mg base "term" 3 ["rule", "index"] R22 := by
  refine cal_of h sc22 (fun ds d h => by obtain ⟨r, a, n, rfl, _⟩ := h; rfl) ?_
  rintro f cdv A outer s H E F0 H0 ds d hr ⟨r, a, n, rfl, rfl, hg, hn, hl, hb⟩
  refine dss_cons (ds_ret (d := .int (a n)) ?_ rfl)
  refine de_ixT (i := (n : Int)) (xs := (seqUp a (n + 1)).map D.int) (atI_nat (by rw [List.getElem?_map, seqUp_at (by omega)]; rfl)) (DE.b (de_callC (ds := [rl r, .int ((n : Int) + 1)]) c21 (by walk_at "room") (by rfl) (by walk_at "da") ⟨r, a, n + 1, rfl, rfl, hg, by omega, hl, fun i hi => hb i (by omega)⟩)) (by walk_at "db")
end
section
variable {g : Gx} {P : Program} {w : World} {K : PySem.W.Frag} {mg : Str → Option Value} {base : Heap}
/-! ### obeys -/
theorem cutD_lo {α : Type} {xs : List α} {n : Nat} : DL.cutD xs (some (n : Int)) none = xs.drop n := by
  unfold DL.cutD
  have h0 : HT.sIx xs.length 0 (some (n : Int)) = min n xs.length := by
    simp [HT.sIx]
    omega
  have h1 : HT.sIx xs.length xs.length none = xs.length := rfl
  rw [h0, h1]
  by_cases h : n ≤ xs.length
  · rw [Nat.min_eq_left h, List.take_of_length_le (by simp)]
  · rw [Nat.min_eq_right (by omega), List.drop_length, List.drop_of_length_le (by omega)]
    simp
abbrev s26 : Stmt := top 26
theorem sc26 : FnScope ["form", "thing", "firsts", "factors", "row", "at"] ["form", "thing"] (defScope s26) := ⟨rfl, rfl, rfl, by decide +kernel, rfl, by decide +kernel, by decide +kernel⟩
def R26 (ds : List D) (d : D) : Prop := ∃ (m : Fm) (r : Rule), ds = [fmD m, rl r] ∧ d = .bl (obeysB m r) ∧ m.Ok ∧ r.1.length = r.2.length ∧ r.2.length ≤ 6 ∧ ∀ i, i < 13 → (cnt m 0 i).natAbs < 2 ^ 63
theorem ok26 (T : Tx g K mg) (h : Def P w K mg base "obeys" s26 ["form", "thing"]) (c19 : Cal g P w K mg base "is_rule" 3 ["thing"] R19) (c14 : Cal g P w K mg base "counts" 3 ["form", "many"] R14) (c20 : Cal g P w K mg base "next_term" 1 ["known", "factors"] R20) : Cal g P w K mg base "obeys" 4 ["form", "thing"] R26 := by
  refine cal_of h sc26 (fun ds d h => by obtain ⟨m, r, rfl, _⟩ := h; rfl) ?_
  rintro f cdv A outer s H E F0 H0 ds d hr ⟨m, r, rfl, rfl, hm, hl, hl6, hb⟩
  have nd := sc26.nd
  have hz := hm.big
  refine dss_cons (ds_if (b := !true) (dt_not (dt_e (de_callC c19 (by walk_at "room") (by rfl) (by walk_at "da") ⟨r, rfl, rfl, hl, by omega⟩))) (fun e => absurd e (by decide)) fun _ => dss_nil ?_)
  refine dss_cons (ds_asg (d := rl r) (by walk_at "de") (by walk_at "pg") (tgt_tup2 2 3 _ _) ?_)
  have hn : DE g (bodyX P w K mg base ["form", "thing", "firsts", "factors", "row", "at"] "obeys" (defScope s26) f cdv A outer s H E) (.Name "form" ⟨0, 0, 0, 0⟩) [.sh (fmD m), .sh (rl r), .sh (tupD r.1), .sh (tupD r.2), .un, .un] (fmD m) := by walk_at "de"
  refine dss_cons (ds_set (d := tupD (seqUp (cnt m 0) (r.2.length + m.size))) (i := 4) nd rfl (by walk_at "loc") ?_ ?_)
  · refine de_callC (ds := [fmD m, .int (((r.2.map D.int).length : Int) + (m.size : Int))]) c14 (by walk_at "room") (by rfl) (by walk_at "da") ⟨m, r.2.length + m.size, ?_, rfl, hm, by omega⟩
    rw [List.length_map]
    rfl
  have e1 : DL.cutD ((seqUp (cnt m 0) (r.2.length + m.size)).map D.int) none (some ((r.2.map D.int).length : Int)) = (seqUp (cnt m 0) r.2.length).map D.int := by
    rw [cutD_to, ← List.map_take, List.length_map, seqUp_take _ (by omega)]
  refine dss_cons (ds_if (b := !decide (seqUp (cnt m 0) r.2.length = r.1)) (dt_neD (by exact hr.units) (eqok_tup (ns := seqUp (cnt m 0) r.2.length) (ms := r.1)) (DE.b (e1 ▸ de_slT (by walk_at "de") do_none (do_some (by walk_at "db")))) (by walk_at "db")) (fun e => ?_) fun e => dss_nil ?_)
  · refine dss_cons (ds_ret (by walk_at "de") ?_)
    have e : decide (seqUp (cnt m 0) r.2.length = r.1) = false := by simpa using e
    rw [obeysB, e]
    rfl
  · have e : decide (seqUp (cnt m 0) r.2.length = r.1) = true := by simpa using e
    refine dss_cons (ds_ret (d := .bl (((List.range m.size).map fun i => decide (nextTerm (seqUp (cnt m 0) (r.2.length + i)) r.2 = cnt m 0 (r.2.length + i))).all fun b => b)) ?_ ?_)
    · refine de_all rfl (by rfl) T.all (DE.b (DN.e ?_))
      rw [List.map_map]
      have hrng : (List.range (((seqUp (cnt m 0) (r.2.length + m.size)).map D.int).length - ((r.2.map D.int).length : Int)).toNat) = List.range m.size := by
        rw [List.length_map, List.length_map, seqUp_len]
        congr 1
        omega
      refine dn_map (ts := List.range m.size) (mk := fun (i : Nat) => D.int (((r.2.map D.int).length : Int) + (i : Nat))) (j := 5) rfl nd ?_ (blkOk_by (by rfl)) (fun s H C cl fp => by walk_at "pg") (fun s H C cl fp t ht => ?_) (by simp; omega)
      · rw [← hrng]
        exact di_range2 (by rfl) T.range (by omega) (by rw [List.length_map]; omega) (by omega) (by rw [List.length_map, seqUp_len]; omega) (by walk_at "de") (by walk_at "de")
      · have ht : t < m.size := by simpa using ht
        have hL : (r.2.map D.int).length = r.2.length := List.length_map _
        have e2 : DL.cutD ((seqUp (cnt m 0) (r.2.length + m.size)).map D.int) none (some (((r.2.map D.int).length : Int) + (t : Nat))) = (seqUp (cnt m 0) (r.2.length + t)).map D.int := by
          rw [hL, ← Int.natCast_add, cutD_to, ← List.map_take, seqUp_take _ (by omega)]
        refine de_eqI (DE.b ?_) (DE.b ?_)
        · refine de_callC (ds := [sqD false ((seqUp (cnt m 0) (r.2.length + t)).map D.int), tupD r.2]) c20 (by walk_at "room") (by rfl) (da_cons ?_ (by walk_at "da")) ⟨false, _, _, rfl, rfl, by rw [seqUp_len]; omega, ?_⟩
          · show DE g _ _ _ (.tup _)
            rw [← e2]
            exact de_slT (by walk_at "de") do_none (do_some (by walk_at "db"))
          · intro x hx
            obtain ⟨i, hi, rfl⟩ := List.mem_map.mp hx
            exact hb i (by have := List.mem_range.mp hi; omega)
        · refine de_ixT (i := ((r.2.map D.int).length : Int) + (t : Nat)) (xs := (seqUp (cnt m 0) (r.2.length + m.size)).map D.int) ?_ (by walk_at "db") (by walk_at "db")
          rw [hL, ← Int.natCast_add]
          refine atI_nat ?_
          rw [List.getElem?_map, seqUp_at (by omega)]
          rfl
    · rw [obeysB, e, List.all_map]
      rfl
/-! ### met_terms, sums_of -/
theorem sum_range (f : Nat → Int) : ∀ n : Nat, ((List.range n).map f).sum = sumN f n
  | 0 => rfl
  | n + 1 => by rw [List.range_succ, List.map_append, List.sum_append, sum_range f n, sumN]; simp
abbrev s31 : Stmt := top 31
theorem sc31 : FnScope ["row", "mate", "found", "at", "place"] ["row", "mate"] (defScope s31) := ⟨rfl, rfl, rfl, by decide +kernel, rfl, by decide +kernel, by decide +kernel⟩
def R31 (ds : List D) (d : D) : Prop := ∃ (a b : Nat → Int) (n : Nat), ds = [tupD (seqUp a n), tupD (seqUp b n)] ∧ d = intsD (seqUp (metS a b) n) ∧ n ≤ 100 ∧ ∀ i, i < n → (b i).natAbs < 2 ^ 63
theorem ok31 (T : Tx g K mg) (h : Def P w K mg base "met_terms" s31 ["row", "mate"]) : Cal g P w K mg base "met_terms" 1 ["row", "mate"] R31 := by
  refine cal_of h sc31 (fun ds d h => by obtain ⟨m, r, n, rfl, _⟩ := h; rfl) ?_
  rintro f cdv A outer s H E F0 H0 ds d hr ⟨a, b, n, rfl, rfl, hn, hb⟩
  have nd := sc31.nd
  have hA : ∀ (c : Nat → Int), ((seqUp c n).map D.int).length = n := fun c => by rw [List.length_map, seqUp_len]
  refine dss_cons (ds_new (xs := []) (i := 2) nd rfl (by walk_at "loc") (by walk_at "dn") ?_)
  refine dss_cons (ds_for (ts := List.range ((seqUp a n).map D.int).length) (mk := fun (i : Nat) => D.int i) (fun t => [(3, .int t)]) PassesOwn.never rfl (di_range1 (by rfl) T.range (by rw [hA]; omega) (by walk_at "de")) (by walk_at "pg") (fun t _ => tgt_name 3 _)
    (fun k ρ _ => ∃ u w, ρ = [.sh (tupD (seqUp a n)), .sh (tupD (seqUp b n)), .own ((seqUp (metS a b) k).map D.int), u, w]) ⟨_, _, rfl⟩ ?_ ?_)
  · rintro k t ρ' z' ht ⟨u, w, rfl⟩
    have hk : k < n ∧ t = k := by
      have h1 := (List.getElem?_eq_some_iff.mp ht).1
      rw [List.length_range, hA] at h1
      rw [List.getElem?_range (by rw [hA]; exact h1)] at ht
      exact ⟨h1, by cases ht; rfl⟩
    obtain ⟨hk, rfl⟩ := hk
    refine dss_cons (ds_append (i := 2) (d := .int (metS a b t)) rfl rfl (by walk_at "vis") ?_ (by simp [seqUp]; omega) (dss_nil ⟨.sh (.int t), w, ?_⟩))
    · rw [metS, ← sum_range]
      refine de_sum rfl (by rfl) T.sum (DE.b (DN.e ?_))
      rw [List.map_map]
      refine dn_map (ts := List.range (t + 1)) (mk := fun (i : Nat) => D.int i) (j := 4) rfl nd (di_range1 (n := t + 1) (by rfl) T.range (by omega) (by show DE _ _ _ _ (.int ((t : Int) + 1)); walk_at "de")) (blkOk_by (by rfl)) (fun s H C cl fp => by walk_at "pg") (fun s H C cl fp i hi => ?_) (by simp; omega)
      have hi : i < t + 1 := by simpa using hi
      refine de_mul (small_mul (hb _ (by omega))) (DE.b ?_) (DE.b ?_)
      · exact de_ixT (i := (i : Int)) (xs := (seqUp a n).map D.int) (atI_nat (by rw [List.getElem?_map, seqUp_at (by omega)]; rfl)) (by walk_at "db") (by walk_at "db")
      · refine de_ixT (i := (t : Int) - (i : Int)) (xs := (seqUp b n).map D.int) ?_ (by walk_at "db") (by walk_at "db")
        rw [show (t : Int) - (i : Int) = ((t - i : Nat) : Int) by omega]
        exact atI_nat (by rw [List.getElem?_map, seqUp_at (by omega)]; rfl)
    · rw [seqUp_succ, List.map_append]
      rfl
  · rintro ρ' z' ⟨u, w, rfl⟩
    refine dss_fix (i := 2) rfl ?_
    refine dss_cons (ds_ret (by walk_at "de") ?_)
    rw [List.length_range, hA]
    rfl
abbrev s33 : Stmt := top 33
theorem sc33 : FnScope ["row", "found", "total", "number"] ["row"] (defScope s33) := ⟨rfl, rfl, rfl, by decide +kernel, rfl, by decide +kernel, by decide +kernel⟩
def R33 (ds : List D) (d : D) : Prop := ∃ (a : Nat → Int) (n : Nat), ds = [tupD (seqUp a n)] ∧ d = intsD (seqUp (accS a) n) ∧ n ≤ 100
theorem ok33 (T : Tx g K mg) (h : Def P w K mg base "sums_of" s33 ["row"]) : Cal g P w K mg base "sums_of" 1 ["row"] R33 := by
  refine cal_of h sc33 (fun ds d h => by obtain ⟨m, n, rfl, _⟩ := h; rfl) ?_
  rintro f cdv A outer s H E F0 H0 ds d hr ⟨a, n, rfl, rfl, hn⟩
  have nd := sc33.nd
  refine dss_cons (ds_parN (i := 1) (j := 2) (xs := []) (d2 := .int 0) rfl nd rfl rfl (by decide) rfl rfl (by walk_at "dn") (by walk_at "de") rfl ?_)
  refine dss_cons (ds_for (ts := seqUp a n) (mk := D.int) (fun t => [(3, .int t)]) PassesOwn.never rfl (di_tup (by walk_at "de")) (by walk_at "pg") (fun t _ => tgt_name 3 _)
    (fun k ρ _ => ∃ u, ρ = [.sh (tupD (seqUp a n)), .own ((seqUp (accS a) k).map D.int), .sh (.int (sumN a k)), u]) ⟨_, rfl⟩ ?_ ?_)
  · rintro k t ρ' z' ht ⟨u, rfl⟩
    have hk : k < n ∧ t = a k := by
      have h1 := (List.getElem?_eq_some_iff.mp ht).1
      rw [seqUp_len] at h1
      rw [seqUp_at h1] at ht
      exact ⟨h1, by cases ht; rfl⟩
    obtain ⟨hk, rfl⟩ := hk
    refine dss_cons (ds_augAdd (i := 2) (q := a k) nd rfl (by walk_at "loc") rfl (by walk_at "de") ?_)
    refine dss_cons (ds_append (i := 1) (d := .int (sumN a k + a k)) rfl rfl (by walk_at "vis") (by walk_at "de") (by simp [seqUp]; omega) (dss_nil ⟨.sh (.int (a k)), ?_⟩))
    rw [seqUp_succ, List.map_append]
    rfl
  · rintro ρ' z' ⟨u, rfl⟩
    refine dss_fix (i := 1) rfl ?_
    refine dss_cons (ds_ret (by walk_at "de") ?_)
    rw [seqUp_len]
    rfl
end
section
variable {g : Gx} {P : Program} {w : World} {K : PySem.W.Frag} {mg : Str → Option Value} {base : Heap}
/-! ### farcounts -/
theorem Res.at {u : Int} {f : List Int} {i : Nat} (h : Res u f) (hu : 0 < u) : 0 ≤ f.getD i 0 ∧ f.getD i 0 < u := by
  by_cases e : i < f.length
  · exact h _ (getD_mem e)
  · rw [List.getD_eq_getElem?_getD, List.getElem?_eq_none (by omega)]
    exact ⟨Int.le_refl 0, hu⟩
theorem Res.add {u : Int} {f : List Int} (h : Res u f) (hu : 0 < u) (i : Nat) (v : Int) : Res u (addAt u f i v) := fun x hx => by
  rcases List.mem_or_eq_of_mem_set hx with hx | rfl
  · exact h x hx
  · exact ⟨Int.emod_nonneg _ (by omega), Int.emod_lt_of_pos _ hu⟩
theorem addAt_len {u : Int} {f : List Int} {i : Nat} {v : Int} : (addAt u f i v).length = f.length := List.length_set
theorem fold_keep {α β : Type} {P : β → Prop} {f : β → α → β} (hf : ∀ b a, P b → P (f b a)) : ∀ (l : List α) (b : β), P b → P (l.foldl f b)
  | [], b, h => h
  | a :: l, b, h => fold_keep hf l _ (hf b a h)
/-- residues, of a length -/
def ResN (u : Int) (n : Nat) (f : List Int) : Prop := Res u f ∧ f.length = n
theorem ResN.add {u : Int} {f : List Int} {n : Nat} (h : ResN u n f) (hu : 0 < u) (i : Nat) (v : Int) : ResN u n (addAt u f i v) := ⟨h.1.add hu i v, by rw [addAt_len, h.2]⟩
theorem stepL_res {rest fs : List Int} {u : Int} (hu : 0 < u) (h : ResN u fs.length rest) (h0 : 0 < fs.length) : ResN u fs.length (stepL rest fs u) := by
  refine fold_keep (P := ResN u fs.length) (fun b a hb => hb.add hu _ _) _ _ ⟨fun x hx => ?_, by rw [List.length_cons, List.length_dropLast, h.2]; omega⟩
  rcases List.mem_cons.mp hx with rfl | hx
  · omega
  · exact h.1 x (List.dropLast_subset _ hx)
theorem rep0_res {u : Int} (hu : 0 < u) (n : Nat) : ResN u n (List.replicate n 0) := ⟨fun x hx => by rw [List.eq_of_mem_replicate hx]; omega, List.length_replicate⟩
theorem mulR_res {u : Int} (hu : 0 < u) {n : Nat} {one other f : List Int} {i : Nat} (h : ResN u n f) : ResN u n (mulR u one other f i) := fold_keep (P := ResN u n) (fun b a hb => hb.add hu _ _) _ _ h
theorem redR_res {u : Int} (hu : 0 < u) {n : Nat} {fs f : List Int} {i : Nat} (h : ResN u n f) : ResN u n (redR u fs f i) := fold_keep (P := ResN u n) (fun b a hb => hb.add hu _ _) _ _ h
theorem timesL_res {one other fs : List Int} {u : Int} (hu : 0 < u) (h0 : 0 < fs.length) : ResN u fs.length (timesL one other fs u) := by
  have h := fold_keep (P := ResN u (2 * fs.length - 1)) (fun b a hb => redR_res hu (fs := fs) (i := a) hb) (List.range (fs.length - 1)) _ (fold_keep (P := ResN u (2 * fs.length - 1)) (fun b a hb => mulR_res hu (one := one) (other := other) (i := a) hb) (List.range one.length) _ (rep0_res hu _))
  refine ⟨fun x hx => h.1 x (List.mem_of_mem_take hx), ?_⟩
  rw [timesL, List.length_take, h.2]
  omega
theorem figStep_res {fs rest : List Int} {u : Int} {g : Nat} (hu : 0 < u) (h0 : 0 < fs.length) : ResN u fs.length (figStep fs u rest g) := by
  rw [figStep]
  split
  · exact stepL_res hu (timesL_res hu h0) h0
  · exact timesL_res hu h0
theorem small_res {u i : Int} (j : Int) (h : 0 ≤ i ∧ i < u) (hu : u < 2 ^ 60) : CMul i j := .inl (by omega)
theorem set_map {xs : List Int} {i : Nat} {x : Int} : (xs.map D.int).set i (.int x) = (xs.set i x).map D.int := (List.map_set).symm
abbrev s37 : Stmt := top 37
theorem sc37 : FnScope ["rest", "factors", "under", "last", "found", "back", "factor", "place"] ["rest", "factors", "under"] (defScope s37) := ⟨rfl, rfl, rfl, by decide +kernel, rfl, by decide +kernel, by decide +kernel⟩
def R37 (ds : List D) (d : D) : Prop := ∃ (rest fs : List Int) (u : Int), ds = [intsD rest, tupD fs, .int u] ∧ d = intsD (stepL rest fs u) ∧ 0 < u ∧ u < 2 ^ 60 ∧ ResN u fs.length rest ∧ 0 < fs.length ∧ fs.length ≤ 100
theorem at_last {rest : List Int} (h : 0 < rest.length) : atI (rest.map D.int) (-1) = some (.int (rest.getLastD 0)) := by
  unfold atI ixN
  rw [if_neg (by omega), List.length_map, if_pos (by omega)]
  rw [show ((-1 : Int) + (rest.length : Int)).toNat = rest.length - 1 by omega]
  show (rest.map D.int)[rest.length - 1]? = _
  rw [List.getElem?_map, List.getElem?_eq_getElem (by omega), List.getLastD_eq_getLast?, List.getLast?_eq_getElem?, List.getElem?_eq_getElem (by omega)]
  rfl
theorem cut_last {rest : List Int} : DL.cutD (rest.map D.int) none (some (-1)) = rest.dropLast.map D.int := by
  unfold DL.cutD
  have h0 : HT.sIx (rest.map D.int).length 0 none = 0 := rfl
  have h1 : HT.sIx (rest.map D.int).length (rest.map D.int).length (some (-1)) = rest.length - 1 := by
    simp [HT.sIx]
    omega
  rw [h0, h1, List.drop_zero, Nat.sub_zero, List.dropLast_eq_take, List.map_take]
theorem ok37 (T : Tx g K mg) (h : Def P w K mg base "stepped" s37 ["rest", "factors", "under"]) : Cal g P w K mg base "stepped" 1 ["rest", "factors", "under"] R37 := by
  refine cal_of h sc37 (fun ds d h => by obtain ⟨m, r, u, rfl, _⟩ := h; rfl) ?_
  rintro f cdv A outer s H E F0 H0 ds d hr ⟨rest, fs, u, rfl, rfl, hu, hu2, hres, hk, hk2⟩
  have nd := sc37.nd
  refine dss_cons (ds_set (d := .int (rest.getLastD 0)) (i := 3) nd rfl (by walk_at "loc") (de_ixL (i := -1) (xs := rest.map D.int) (at_last (by rw [hres.2]; exact hk)) (by walk_at "db") (by walk_at "db")) ?_)
  refine dss_cons (ds_new (xs := (0 :: rest.dropLast).map D.int) (i := 4) nd rfl (by walk_at "loc") ?_ ?_)
  · rw [List.map_cons, ← cut_last]
    refine dn_lst (da_cons (by walk_at "de") ?_) ?_
    · rw [← List.append_nil (DL.cutD _ _ _)]
      exact da_star (DE.b (DN.e (dn_slL (by walk_at "db") do_none (do_some (by walk_at "db"))))) da_nil
    · rw [cut_last, List.length_cons, List.length_map, List.length_dropLast, hres.2]
      omega
  refine dss_cons (ds_for (ts := (fs.map D.int).zipIdx) (mk := fun q => D.tup [D.int q.2, q.1]) (fun t => [(5, .int t.2), (6, t.1)]) PassesOwn.never rfl (di_n (l := false) (by rfl) T.enum (by show DE _ _ _ _ (.tup _); walk_at "de")) (by walk_at "pg") (fun t _ => tgt_tup2 5 6 _ _)
    (fun k ρ _ => ∃ x y z, ρ = [.sh (intsD rest), .sh (tupD fs), .sh (.int u), .sh (.int (rest.getLastD 0)), .own (((List.range k).foldl (stepF u (rest.getLastD 0) fs) (0 :: rest.dropLast)).map D.int), x, y, z]) ⟨_, _, _, rfl⟩ ?_ ?_)
  · rintro k ⟨td, tn⟩ ρ' z' ht ⟨x1, x2, x3, rfl⟩
    obtain ⟨rfl, h2⟩ := zip_at ht
    obtain ⟨x, hx, rfl⟩ := map_at h2
    simp only at hx h2
    have hk : tn < fs.length := (List.getElem?_eq_some_iff.mp hx).1
    have ex : x = fs.getD tn 0 := by rw [List.getD_eq_getElem?_getD, hx]; rfl
    have hf : ResN u fs.length ((List.range tn).foldl (stepF u (rest.getLastD 0) fs) (0 :: rest.dropLast)) := by
      refine fold_keep (P := ResN u fs.length) (fun b a hb => hb.add hu _ _) _ _ ⟨fun x hx => ?_, by rw [List.length_cons, List.length_dropLast, hres.2]; omega⟩
      rcases List.mem_cons.mp hx with rfl | hx
      · omega
      · exact hres.1 x (List.dropLast_subset _ hx)
    have hla : 0 ≤ rest.getLastD 0 ∧ rest.getLastD 0 < u := by
      rw [List.getLastD_eq_getLast?, List.getLast?_eq_getElem?, ← List.getD_eq_getElem?_getD]
      exact hres.1.at hu
    refine dss_cons (ds_set (d := .int ((fs.map D.int).length - 1 - (tn : Int))) (i := 7) nd rfl (by walk_at "loc") (by walk_at "de") ?_)
    have ei : ((fs.map D.int).length : Int) - 1 - (tn : Int) = ((fs.length - 1 - tn : Nat) : Int) := by rw [List.length_map]; omega
    rw [ei]
    refine dss_cons (ds_setix (i := 4) (j := fs.length - 1 - tn) (k := ((fs.length - 1 - tn : Nat) : Int)) (d := .int ((((List.range tn).foldl (stepF u (rest.getLastD 0) fs) (0 :: rest.dropLast)).getD (fs.length - 1 - tn) 0 + rest.getLastD 0 * x) % u)) rfl rfl (by walk_at "vis") ?_ (by walk_at "de") (ixN_nat (by rw [List.length_map, hf.2]; omega)) (dss_nil ⟨.sh (.int tn), .sh (.int x), .sh (.int ((fs.length - 1 - tn : Nat) : Int)), ?_⟩))
    · refine de_mod hu (DE.b (de_add (DE.b ?_) (DE.b (de_mul (small_res _ hla hu2) (by walk_at "db") (by walk_at "db"))))) (by walk_at "db")
      exact de_ixL (i := ((fs.length - 1 - tn : Nat) : Int)) (xs := ((List.range tn).foldl (stepF u (rest.getLastD 0) fs) (0 :: rest.dropLast)).map D.int) (atI_nat (by rw [List.getElem?_map, getD_at (d := 0) (by rw [hf.2]; omega)]; rfl)) (by walk_at "db") (by walk_at "db")
    · rw [List.range_succ, List.foldl_append]
      show [_, _, _, _, Slot.own _, _, _, _] = [_, _, _, _, Slot.own _, _, _, _]
      rw [set_map, ex]
      rfl
  · rintro ρ' z' ⟨x1, x2, x3, rfl⟩
    refine dss_fix (i := 4) rfl ?_
    refine dss_cons (ds_ret (by walk_at "de") ?_)
    rw [List.length_zipIdx, List.length_map]
    rfl
abbrev s36 : Stmt := top 36
theorem sc36 : FnScope ["one", "other", "factors", "under", "size", "found", "at", "number", "place", "mate", "back", "factor"] ["one", "other", "factors", "under"] (defScope s36) := ⟨rfl, rfl, rfl, by decide +kernel, rfl, by decide +kernel, by decide +kernel⟩
def R36 (ds : List D) (d : D) : Prop := ∃ (one other fs : List Int) (u : Int), ds = [intsD one, intsD other, tupD fs, .int u] ∧ d = intsD (timesL one other fs u) ∧ 0 < u ∧ u < 2 ^ 60 ∧ ResN u fs.length one ∧ other.length = fs.length ∧ 0 < fs.length ∧ fs.length ≤ 100
theorem zipD_len (xs : List Int) : ((xs.map D.int).zipIdx).length = xs.length := by rw [List.length_zipIdx, List.length_map]
theorem ok36 (T : Tx g K mg) (h : Def P w K mg base "times_left" s36 ["one", "other", "factors", "under"]) : Cal g P w K mg base "times_left" 1 ["one", "other", "factors", "under"] R36 := by
  refine cal_of h sc36 (fun ds d h => by obtain ⟨m, r, u, v, rfl, _⟩ := h; rfl) ?_
  rintro f cdv A outer s H E F0 H0 ds d hr ⟨one, other, fs, u, rfl, rfl, hu, hu2, hone, hoth, hk, hk2⟩
  have nd := sc36.nd
  have hF : (fs.map D.int).length = fs.length := List.length_map _
  refine dss_cons (ds_set (d := .int (fs.length : Int)) (i := 4) nd rfl (by walk_at "loc") (by rw [← hF]; walk_at "de") ?_)
  refine dss_cons (ds_new (xs := (List.replicate (2 * fs.length - 1) (0 : Int)).map D.int) (i := 5) nd rfl (by walk_at "loc") ?_ ?_)
  · rw [map_rep, ← rep_one, show 2 * fs.length - 1 = (2 * (fs.length : Int) - 1).toNat by omega]
    exact dn_rep (k := 2 * (fs.length : Int) - 1) (xs := [.int 0]) (by omega) (by omega) (by simp; omega) (DE.b (DN.e (by walk_at "dn"))) (DE.b (de_sub (DE.b (de_mul (.inl (by decide)) (by walk_at "db") (by walk_at "db"))) (by walk_at "db")))
  refine dss_cons (ds_for (ts := (one.map D.int).zipIdx) (mk := fun q => D.tup [D.int q.2, q.1]) (fun t => [(6, .int t.2), (7, t.1)]) PassesOwn.never rfl (di_n (l := true) (by rfl) T.enum (by show DE _ _ _ _ (.lst _); walk_at "de")) (by walk_at "pg") (fun t _ => tgt_tup2 6 7 _ _)
    (fun k ρ _ => ∃ x6 x7 x8 x9, ρ = [.sh (intsD one), .sh (intsD other), .sh (tupD fs), .sh (.int u), .sh (.int (fs.length : Int)), .own (((List.range k).foldl (mulR u one other) (List.replicate (2 * fs.length - 1) 0)).map D.int), x6, x7, x8, x9, .un, .un]) ⟨_, _, _, _, rfl⟩ ?_ ?_)
  · rintro k ⟨td, tn⟩ ρ' z' ht ⟨x6, x7, x8, x9, rfl⟩
    obtain ⟨rfl, h2⟩ := zip_at ht
    obtain ⟨x, hx, rfl⟩ := map_at h2
    simp only at hx h2
    have hk : tn < one.length := (List.getElem?_eq_some_iff.mp hx).1
    have ex : x = one.getD tn 0 := by rw [List.getD_eq_getElem?_getD, hx]; rfl
    have hxr : 0 ≤ x ∧ x < u := ex ▸ hone.1.at hu
    obtain ⟨G, eG⟩ : ∃ G, G = (List.range tn).foldl (mulR u one other) (List.replicate (2 * fs.length - 1) 0) := ⟨_, rfl⟩
    have hG : ResN u (2 * fs.length - 1) G := eG ▸ fold_keep (P := ResN u (2 * fs.length - 1)) (fun b a hb => mulR_res hu hb) _ _ (rep0_res hu _)
    rw [← eG]
    refine dss_cons (ds_for (ts := (other.map D.int).zipIdx) (mk := fun q => D.tup [D.int q.2, q.1]) (fun t => [(8, .int t.2), (9, t.1)]) PassesOwn.never rfl (di_n (l := true) (by rfl) T.enum (by show DE _ _ _ _ (.lst _); walk_at "de")) (by walk_at "pg") (fun t _ => tgt_tup2 8 9 _ _)
      (fun j ρ _ => ∃ x8 x9, ρ = [.sh (intsD one), .sh (intsD other), .sh (tupD fs), .sh (.int u), .sh (.int (fs.length : Int)), .own (((List.range j).foldl (mulF u x other tn) G).map D.int), .sh (.int tn), .sh (.int x), x8, x9, .un, .un]) ⟨_, _, rfl⟩ ?_ ?_)
    · rintro j ⟨td, tj⟩ ρ' z' ht ⟨x8, x9, rfl⟩
      obtain ⟨rfl, h2⟩ := zip_at ht
      obtain ⟨y, hy, rfl⟩ := map_at h2
      simp only at hy h2
      have hj : tj < other.length := (List.getElem?_eq_some_iff.mp hy).1
      have ey : y = other.getD tj 0 := by rw [List.getD_eq_getElem?_getD, hy]; rfl
      obtain ⟨G2, eG2⟩ : ∃ G2, G2 = (List.range tj).foldl (mulF u x other tn) G := ⟨_, rfl⟩
      have hG2 : ResN u (2 * fs.length - 1) G2 := eG2 ▸ fold_keep (P := ResN u (2 * fs.length - 1)) (fun b a hb => hb.add hu _ _) _ _ hG
      rw [← eG2]
      have hlt : tn + tj < 2 * fs.length - 1 := by have := hone.2; omega
      refine dss_cons (ds_setix (i := 5) (j := tn + tj) (k := (tn : Int) + (tj : Int)) (d := .int ((G2.getD (tn + tj) 0 + x * y) % u)) rfl rfl (by walk_at "vis") ?_ (by walk_at "de") (by rw [← Int.natCast_add]; exact ixN_nat (by rw [List.length_map, hG2.2]; omega)) (dss_nil ⟨.sh (.int tj), .sh (.int y), ?_⟩))
      · refine de_mod hu (DE.b (de_add (DE.b ?_) (DE.b (de_mul (small_res _ hxr hu2) (by walk_at "db") (by walk_at "db"))))) (by walk_at "db")
        exact de_ixL (i := (tn : Int) + (tj : Int)) (xs := G2.map D.int) (by rw [← Int.natCast_add]; exact atI_nat (by rw [List.getElem?_map, getD_at (d := 0) (by rw [hG2.2]; omega)]; rfl)) (by walk_at "db") (by walk_at "db")
      · rw [List.range_succ, List.foldl_append, ← eG2]
        show [_, _, _, _, _, Slot.own _, _, _, _, _, _, _] = [_, _, _, _, _, Slot.own _, _, _, _, _, _, _]
        rw [set_map, ey]
        rfl
    · rintro ρ' z' ⟨x8, x9, rfl⟩
      refine dss_nil ⟨.sh (.int tn), .sh (.int x), x8, x9, ?_⟩
      rw [List.range_succ, List.foldl_append, ← eG, zipD_len, ex]
      rfl
  · rintro ρ' z' ⟨x6, x7, x8, x9, rfl⟩
    rw [zipD_len]
    obtain ⟨G, eG⟩ : ∃ G, G = (List.range one.length).foldl (mulR u one other) (List.replicate (2 * fs.length - 1) 0) := ⟨_, rfl⟩
    have hG : ResN u (2 * fs.length - 1) G := eG ▸ fold_keep (P := ResN u (2 * fs.length - 1)) (fun b a hb => mulR_res hu hb) _ _ (rep0_res hu _)
    rw [← eG]
    have e3 : (2 * (fs.length : Int) - 2 - ((fs.length : Int) - 1)).toNat = fs.length - 1 := by omega
    refine dss_cons (ds_for (ts := List.range (fs.length - 1)) (mk := fun (i : Nat) => D.int (2 * (fs.length : Int) - 2 + (i : Nat) * (-1))) (fun t => [(6, .int (2 * (fs.length : Int) - 2 + (t : Nat) * (-1)))]) PassesOwn.never rfl ?_ (by walk_at "pg") (fun t _ => tgt_name 6 _)
      (fun k ρ _ => ∃ x6 x7 x8 x9 x10 x11, ρ = [.sh (intsD one), .sh (intsD other), .sh (tupD fs), .sh (.int u), .sh (.int (fs.length : Int)), .own (((List.range k).foldl (redR u fs) G).map D.int), x6, x7, x8, x9, x10, x11]) ⟨_, _, _, _, _, _, rfl⟩ ?_ ?_)
    · rw [← e3]
      exact di_range3 (by rfl) T.range (by omega) (by omega) (by omega) (by omega) (de_sub (DE.b (de_mul (.inl (by decide)) (by walk_at "db") (by walk_at "db"))) (by walk_at "db")) (by walk_at "de") (by walk_at "de")
    · rintro k t ρ' z' ht ⟨x6, x7, x8, x9, x10, x11, rfl⟩
      have hkt : k < fs.length - 1 ∧ t = k := by
        have h1 := (List.getElem?_eq_some_iff.mp ht).1
        rw [List.length_range] at h1
        rw [List.getElem?_range h1] at ht
        exact ⟨h1, by cases ht; rfl⟩
      obtain ⟨hkt, rfl⟩ := hkt
      have e4 : 2 * (fs.length : Int) - 2 + (t : Nat) * (-1) = ((2 * fs.length - 2 - t : Nat) : Int) := by omega
      rw [e4]
      obtain ⟨G1, eG1⟩ : ∃ G1, G1 = (List.range t).foldl (redR u fs) G := ⟨_, rfl⟩
      have hG1 : ResN u (2 * fs.length - 1) G1 := eG1 ▸ fold_keep (P := ResN u (2 * fs.length - 1)) (fun b a hb => redR_res hu hb) _ _ hG
      rw [← eG1]
      obtain ⟨q, eq⟩ : ∃ q, q = 2 * fs.length - 2 - t := ⟨_, rfl⟩
      rw [← eq]
      refine dss_cons (ds_for (ts := (fs.map D.int).zipIdx) (mk := fun q => D.tup [D.int q.2, q.1]) (fun t => [(10, .int t.2), (11, t.1)]) PassesOwn.never rfl (di_n (l := false) (by rfl) T.enum (by show DE _ _ _ _ (.tup _); walk_at "de")) (by walk_at "pg") (fun t _ => tgt_tup2 10 11 _ _)
        (fun j ρ _ => ∃ x10 x11, ρ = [.sh (intsD one), .sh (intsD other), .sh (tupD fs), .sh (.int u), .sh (.int (fs.length : Int)), .own (((List.range j).foldl (redF u fs q) G1).map D.int), .sh (.int (q : Int)), x7, x8, x9, x10, x11]) ⟨_, _, rfl⟩ ?_ ?_)
      · rintro j ⟨td, tj⟩ ρ' z' ht ⟨x10, x11, rfl⟩
        obtain ⟨rfl, h2⟩ := zip_at ht
        obtain ⟨y, hy, rfl⟩ := map_at h2
        simp only at hy h2
        have hj : tj < fs.length := (List.getElem?_eq_some_iff.mp hy).1
        have ey : y = fs.getD tj 0 := by rw [List.getD_eq_getElem?_getD, hy]; rfl
        obtain ⟨G2, eG2⟩ : ∃ G2, G2 = (List.range tj).foldl (redF u fs q) G1 := ⟨_, rfl⟩
        have hG2 : ResN u (2 * fs.length - 1) G2 := eG2 ▸ fold_keep (P := ResN u (2 * fs.length - 1)) (fun b a hb => hb.add hu _ _) _ _ hG1
        rw [← eG2]
        have hi : ((q : Int) - 1 - (tj : Int)) = ((q - 1 - tj : Nat) : Int) := by omega
        refine dss_cons (ds_setix (i := 5) (j := q - 1 - tj) (k := (q : Int) - 1 - (tj : Int)) (d := .int ((G2.getD (q - 1 - tj) 0 + G2.getD q 0 * y) % u)) rfl rfl (by walk_at "vis") ?_ (by walk_at "de") (by rw [hi]; exact ixN_nat (by rw [List.length_map, hG2.2]; omega)) (dss_nil ⟨.sh (.int tj), .sh (.int y), ?_⟩))
        · refine de_mod hu (DE.b (de_add (DE.b ?_) (DE.b (de_mul (small_res _ (hG2.1.at hu) hu2) (DE.b ?_) (by walk_at "db"))))) (by walk_at "db")
          · exact de_ixL (i := (q : Int) - 1 - (tj : Int)) (xs := G2.map D.int) (by rw [hi]; exact atI_nat (by rw [List.getElem?_map, getD_at (d := 0) (by rw [hG2.2]; omega)]; rfl)) (by walk_at "db") (by walk_at "db")
          · exact de_ixL (i := (q : Int)) (xs := G2.map D.int) (atI_nat (by rw [List.getElem?_map, getD_at (d := 0) (by rw [hG2.2]; omega)]; rfl)) (by walk_at "db") (by walk_at "db")
        · rw [List.range_succ, List.foldl_append, ← eG2]
          show [_, _, _, _, _, Slot.own _, _, _, _, _, _, _] = [_, _, _, _, _, Slot.own _, _, _, _, _, _, _]
          rw [set_map, ey]
          rfl
      · rintro ρ' z' ⟨x10, x11, rfl⟩
        refine dss_nil ⟨.sh (.int (q : Int)), x7, x8, x9, x10, x11, ?_⟩
        rw [List.range_succ, List.foldl_append, ← eG1, zipD_len, eq]
        rfl
    · rintro ρ' z' ⟨x6, x7, x8, x9, x10, x11, rfl⟩
      rw [List.length_range]
      have e5 : (timesL one other fs u).map D.int = DL.cutD (((List.range (fs.length - 1)).foldl (redR u fs) G).map D.int) none (some (fs.length : Int)) := by rw [timesL, ← eG, cutD_to, List.map_take]
      refine dss_cons (ds_ret (d := intsD (timesL one other fs u)) ?_ rfl)
      have e6 : intsD (timesL one other fs u) = .lst (DL.cutD (((List.range (fs.length - 1)).foldl (redR u fs) G).map D.int) none (some (fs.length : Int))) := by rw [intsD, e5]
      rw [e6]
      exact DN.e (dn_slL (by walk_at "db") do_none (do_some (by walk_at "db")))
end
section
variable {g : Gx} {P : Program} {w : World} {K : PySem.W.Frag} {mg : Str → Option Value} {base : Heap}
abbrev s38 : Stmt := top 38
theorem sc38 : FnScope ["number", "found"] ["number"] (defScope s38) := ⟨rfl, rfl, rfl, by decide +kernel, rfl, by decide +kernel, by decide +kernel⟩
def R38 (ds : List D) (d : D) : Prop := ∃ n : Nat, ds = [.int n] ∧ d = intsD (nums (figs n)) ∧ n < 2 ^ 900
theorem ok38 (T : Tx g K mg) (h : Def P w K mg base "figures_of" s38 ["number"]) : Cal g P w K mg base "figures_of" 1 ["number"] R38 := by
  refine cal_of h sc38 (fun ds d h => by obtain ⟨m, rfl, _⟩ := h; rfl) ?_
  rintro f cdv A outer s H E F0 H0 ds d hr ⟨n, rfl, rfl, hn⟩
  have nd := sc38.nd
  refine dss_cons (ds_new (xs := []) (i := 1) nd rfl (by walk_at "loc") (by walk_at "dn") ?_)
  refine dss_cons (ds_while PassesOwn.never (fun ρ _ => ∃ (m k : Nat) (l : List Nat), ρ = [.sh (.int m), .own ((nums l).map D.int)] ∧ l ++ figsLow k m = figsLow n n ∧ m ≤ k ∧ (0 < m → m * 2 ^ l.length ≤ n)) (fun ρ _ => match ρ with | [.sh (.int q), _] => q.toNat | _ => 0) ⟨n, n, [], rfl, rfl, Nat.le_refl n, fun _ => by simp⟩ ?_)
  rintro ρ' z' ⟨m, k, l, rfl, he, hk, hb⟩
  refine ⟨decide ((0 : Int) < m), by walk_at "dt", fun hq => ?_, fun hq => ?_⟩
  · have hq : 0 < m := by simpa using hq
    have hl : l.length < 900 := by
      have h1 := hb hq
      have h2 : 2 ^ l.length ≤ n := Nat.le_trans (Nat.le_mul_of_pos_left _ hq) h1
      exact (Nat.pow_lt_pow_iff_right (by decide)).mp (Nat.lt_of_le_of_lt h2 hn)
    obtain ⟨k, rfl⟩ : ∃ j, k = j + 1 := ⟨k - 1, by omega⟩
    refine dss_cons (ds_append (i := 1) (d := .int ((m : Int) % 2)) rfl rfl (by walk_at "vis") (de_mod (by decide) (by walk_at "db") (by walk_at "db")) (by simp [nums]; omega) ?_)
    refine dss_cons (ds_augDiv (i := 0) (p := m) (q := 2) ⟨by decide, by decide⟩ nd rfl (by walk_at "loc") rfl (by walk_at "de") (dss_nil ⟨⟨m / 2, k, l ++ [m % 2], ?_, ?_, by omega, fun h2 => ?_⟩, ?_⟩))
    · show [_, Slot.own _] = [_, Slot.own _]
      congr 2
      rw [nums, nums, List.map_append, List.map_append]
      rfl
    · rw [← he, figsLow, if_neg (by omega), List.append_assoc]
      rfl
    · have h1 := hb hq
      rw [List.length_append, List.length_singleton, Nat.pow_succ]
      calc m / 2 * (2 ^ l.length * 2) = (m / 2 * 2) * 2 ^ l.length := by rw [Nat.mul_comm (2 ^ l.length) 2, Nat.mul_assoc]
        _ ≤ m * 2 ^ l.length := Nat.mul_le_mul_right _ (Nat.div_mul_le_self m 2)
        _ ≤ n := h1
    · show ((m : Int) / 2).toNat < (m : Int).toNat
      omega
  · have hq : m = 0 := by simp at hq; omega
    subst hq
    refine dss_cons (ds_ret (d := .lst ((nums l).map D.int).reverse) (DN.e (dn_rev (by walk_at "db"))) ?_)
    have e : figsLow k 0 = [] := by cases k <;> simp [figsLow]
    rw [e, List.append_nil] at he
    rw [figs, ← he, ← List.map_reverse]
    show D.lst _ = D.lst _
    simp only [nums, List.map_reverse]
theorem mem_range {n i : Nat} (h : i ∈ List.range n) : i < n := List.mem_range.mp h
abbrev s39 : Stmt := top 39
theorem sc39 : FnScope ["rule", "index", "under", "firsts", "factors", "rest", "figure", "number", "first"] ["rule", "index", "under"] (defScope s39) := ⟨rfl, rfl, rfl, by decide +kernel, rfl, by decide +kernel, by decide +kernel⟩
def R39 (ds : List D) (d : D) : Prop := ∃ (r : Rule) (n : Nat) (u : Int), ds = [rl r, .int n, .int u] ∧ d = .int (termL r n u) ∧ r.1.length = r.2.length ∧ r.2.length ≤ 100 ∧ n < 2 ^ 900 ∧ 0 < u ∧ u < 2 ^ 60
theorem zip_sum (xs ys : List Int) (h : xs.length = ys.length) : ((xs.zip ys).map fun q => q.1 * q.2).sum = sumN (fun i => xs.getD i 0 * ys.getD i 0) xs.length := by
  rw [← sum_range]
  congr 1
  apply List.ext_getElem
  · simp [h]
  · intro i h1 h2
    have hx : i < xs.length := by simpa using h2
    simp [List.getD_eq_getElem?_getD, List.getElem?_eq_getElem hx, List.getElem?_eq_getElem (show i < ys.length by omega)]
theorem ok39 (T : Tx g K mg) (h : Def P w K mg base "term_left" s39 ["rule", "index", "under"]) (c38 : Cal g P w K mg base "figures_of" 1 ["number"] R38) (c36 : Cal g P w K mg base "times_left" 1 ["one", "other", "factors", "under"] R36) (c37 : Cal g P w K mg base "stepped" 1 ["rest", "factors", "under"] R37) : Cal g P w K mg base "term_left" 2 ["rule", "index", "under"] R39 := by
  refine cal_of h sc39 (fun ds d h => by obtain ⟨m, n, u, rfl, _⟩ := h; rfl) ?_
  rintro f cdv A outer s H E F0 H0 ds d hr ⟨r, n, u, rfl, rfl, hl, hl2, hn, hu, hu2⟩
  have nd := sc39.nd
  refine dss_cons (ds_asg (d := rl r) (by walk_at "de") (by walk_at "pg") (tgt_tup2 3 4 _ _) ?_)
  refine dss_cons (ds_if (b := decide (r.2 = [])) (dt_eqD (by exact hr.units) (eqok_tup (ns := r.2) (ms := [])) (by walk_at "db") (DE.b (de_tup da_nil (by simp)))) (fun e => ?_) fun e => dss_nil ?_)
  · refine dss_cons (ds_ret (by walk_at "de") ?_)
    rw [termL, if_pos (by simpa using e)]
  have e : r.2 ≠ [] := by simpa using e
  have hk : 0 < r.2.length := List.length_pos_iff.mpr e
  have hF : (r.2.map D.int).length = r.2.length := List.length_map _
  refine dss_cons (ds_set (d := intsD (1 % u :: List.replicate (r.2.length - 1) 0)) (i := 5) nd rfl (by walk_at "loc") ?_ ?_)
  · rw [intsD, List.map_cons, map_rep, ← rep_one]
    refine DN.e (dn_cat (xs := [.int (1 % u)]) (by rw [rep_one]; simp; omega) (DE.b (DN.e (dn_lst (da_cons (de_mod hu (by walk_at "db") (by walk_at "db")) da_nil) (by simp)))) (DE.b (DN.e ?_)))
    rw [show r.2.length - 1 = (((r.2.map D.int).length : Int) - 1).toNat by rw [hF]; omega]
    exact dn_rep (xs := [.int 0]) (by omega) (by rw [hF]; omega) (by simp; omega) (DE.b (DN.e (by walk_at "dn"))) (by walk_at "db")
  have res0 : ResN u r.2.length (1 % u :: List.replicate (r.2.length - 1) 0) := by
    refine ⟨fun x hx => ?_, by rw [List.length_cons, List.length_replicate]; omega⟩
    rcases List.mem_cons.mp hx with rfl | hx
    · exact ⟨Int.emod_nonneg _ (by omega), Int.emod_lt_of_pos _ hu⟩
    · rw [List.eq_of_mem_replicate hx]; omega
  have resk : ∀ l : List Nat, ResN u r.2.length (l.foldl (figStep r.2 u) (1 % u :: List.replicate (r.2.length - 1) 0)) := fun l => fold_keep (P := ResN u r.2.length) (fun b a hb => figStep_res hu hk) _ _ res0
  refine dss_cons (ds_for (ts := figs n) (mk := fun (i : Nat) => D.int i) (fun t => [(6, .int t)]) PassesOwn.never rfl ?_ (by walk_at "pg") (fun t _ => tgt_name 6 _)
    (fun k ρ _ => ∃ x6, ρ = [.sh (rl r), .sh (.int n), .sh (.int u), .sh (tupD r.1), .sh (tupD r.2), .sh (intsD (((figs n).take k).foldl (figStep r.2 u) (1 % u :: List.replicate (r.2.length - 1) 0))), x6, .un, .un]) ⟨_, rfl⟩ ?_ ?_)
  · refine di_list (de_callC (ds := [.int n]) c38 (by walk_at "room") (by rfl) (by walk_at "da") ⟨n, rfl, ?_, hn⟩)
    rw [intsD, nums, List.map_map]
    rfl
  · rintro k t ρ' z' ht ⟨x6, rfl⟩
    have rk := resk ((figs n).take k)
    obtain ⟨G, eG⟩ : ∃ G, G = ((figs n).take k).foldl (figStep r.2 u) (1 % u :: List.replicate (r.2.length - 1) 0) := ⟨_, rfl⟩
    rw [← eG] at rk ⊢
    refine dss_cons (ds_set (d := intsD (timesL G G r.2 u)) (i := 5) nd rfl (by walk_at "loc") (de_callC (ds := [intsD G, intsD G, tupD r.2, .int u]) c36 (by walk_at "room") (by rfl) (by walk_at "da") ⟨G, G, r.2, u, rfl, rfl, hu, hu2, rk, rk.2, hk, hl2⟩) ?_)
    refine dss_cons (ds_if (b := decide ((t : Int) = 1)) (by walk_at "dt") (fun hq => ?_) fun hq => dss_nil (dss_nil ⟨.sh (.int t), ?_⟩))
    · have hq : t = 1 := by have := of_decide_eq_true hq; omega
      refine dss_cons (ds_set (d := intsD (stepL (timesL G G r.2 u) r.2 u)) (i := 5) nd rfl (by walk_at "loc") (de_callC (ds := [intsD (timesL G G r.2 u), tupD r.2, .int u]) c37 (by walk_at "room") (by rfl) (by walk_at "da") ⟨_, r.2, u, rfl, rfl, hu, hu2, timesL_res hu hk, hk, hl2⟩) (dss_nil (dss_nil ⟨.sh (.int t), ?_⟩)))
      rw [foldl_take _ _ ht, figStep, if_pos hq, ← eG]
      rfl
    · have hq : ¬ t = 1 := by intro h; rw [h] at hq; simp at hq
      rw [foldl_take _ _ ht, figStep, if_neg hq, ← eG]
      rfl
  · rintro ρ' z' ⟨x6, rfl⟩
    rw [List.take_length]
    have rk := resk (figs n)
    have e2 : termL r n u = ((((restL r.2 n u).zip r.1).map fun q => q.1 * q.2).sum) % u := by
      rw [termL, if_neg e, zip_sum _ _ (by rw [hl]; exact rk.2)]
      congr 1
      rw [show (restL r.2 n u).length = r.2.length from rk.2]
    refine dss_cons (ds_ret (d := .int (termL r n u)) ?_ rfl)
    rw [e2]
    refine de_mod hu (DE.b (de_sum rfl (by rfl) T.sum (DE.b (DN.e ?_)))) (by walk_at "db")
    rw [List.map_map]
    refine dn_map2 (ts := (restL r.2 n u).zip r.1) (f1 := fun q => .int q.1) (f2 := fun q => .int q.2) (y1 := "number") (y2 := "first") (i := 7) (j := 8) rfl nd ?_ (blkOk_by (by rfl)) (fun s H C cl fp => by walk_at "pg") (fun s H C cl fp q hq => ?_) (by rw [List.length_zip, show (restL r.2 n u).length = r.2.length from rk.2]; omega)
    · have hzz : (((restL r.2 n u).map D.int).zip (r.1.map D.int)).map (fun q => D.tup [q.1, q.2]) = ((restL r.2 n u).zip r.1).map fun t => D.tup [.int t.1, .int t.2] := by
        rw [List.zip_map, List.map_map]
        rfl
      rw [← hzz]
      exact di_w (l := true) (m := false) (by rfl) T.zip (by rw [List.length_map, List.length_map, hl]; exact rk.2) (by show DE _ _ _ _ (.lst _); exact va 5) (by show DE _ _ _ _ (.tup _); exact va 3)
    · exact de_mul (small_res _ (rk.1 _ (List.of_mem_zip hq).1) hu2) (by walk_at "db") (by walk_at "db")
end
section
variable {g : Gx} {P : Program} {w : World} {K : PySem.W.Frag} {mg : Str → Option Value} {base : Heap}
/-! ### least_by and those that call it -/
def R6 (ds : List D) (d : D) : Prop := ∃ (a : Nat → Int) (m : Nat) (r : Rule), ds = [intsD (seqUp a (2 * m)), .int m] ∧ d = rl r ∧ Least r a ∧ Ann a m ∧ m ≤ 6 ∧ ∀ i, i < 12 → (a i).natAbs < 2 ^ 60
/-- a def whose code object is known, with its table of code objects -/
def DefT (g : Gx) (P : Program) (w : World) (K : PySem.W.Frag) (mg : Str → Option Value) (base : Heap) (x : Str) (st : Stmt) (ps : List Str) (q : Str) : Prop :=
  ∃ f fd c p, (∃ (oc : Value) (od : Option Addr) (kV doc pm : Value) (an : Option Addr) (ct : Value) (osl : Array (Option Value)), fd = PySem.W.fnOf x x (defArgs st) (defBody st) (defScope st) .none kV doc pm an (.ref c) ct ∧ K.lookup f = some ⟨oc, od, .func fd, osl⟩ ∧ PySem.W.codeIn K (.ref c) x = true) ∧
    PySem.W.keepIn K (.ref f) = true ∧ mg x = some (.ref f) ∧ L2.Binds K fd ps [] ∧ LamX.TabB base mg c p ∧ (p, q) ∈ g.T ∧ ∀ y ∈ g.T, y.1 = p → y.2 = q
theorem calT_of {x q : Str} {st : Stmt} {N ps : List Str} {k : Nat} {R : List D → D → Prop} (h : DefT g P w K mg base x st ps q) (sc : FnScope N ps (defScope st)) (hl : ∀ ds d, R ds d → ds.length = ps.length)
    (hb : ∀ (f c p : Addr) (A : Around) (outer : List PySem.Env) (s : Shared) (H : Hp) (E : XK) (F0 H0 : Hp) (ds : List D) (d : D), Room k (A.deeper (envOfC x (defScope st) s.heap.objs.size f (.ref c))) → LamX.TabB base mg c p → (p, q) ∈ g.T → (∀ y ∈ g.T, y.1 = p → y.2 = q) → R ds d →
      DSs (sy0 g) F0 H0 (bodyX P w K mg base N x (defScope st) f (.ref c) A outer s H E) (defBody st) (envOf N ds) () ⟨fun _ _ => d = .non, fun d' _ => d' = d, fun _ _ => False, fun _ _ => False⟩) :
    Cal g P w K mg base x (k + 1) ps R := by
  obtain ⟨f, fd, c, p, ⟨oc, od, kV, doc, pm, an, ct, osl, rfl, lk, hcd⟩, hk, h2, h3, h4, h5, h6⟩ := h
  refine ⟨f, _, fn_of lk hcd sc (fun vs H Q E h => ?_) (fun A outer s H vs Q E hr h => ?_), h2, hk, h3⟩
  · obtain ⟨F, ds, d, b, al, hR, _⟩ := h
    rw [al.len]
    exact hl ds d hR
  · obtain ⟨F, ds, d, b, al, hR, q⟩ := h
    have hbb := hb f c p A outer s H E F H ds d hr h4 h5 h6 hR
    refine ⟨_, PSs.nox hbb, F, RepS.start b (rep_start b al) (fun sl h xs e => ?_) (fun a h => absurd h List.not_mem_nil) True.intro, ?_, ?_, fun _ _ _ _ _ h => h.elim, fun _ _ _ _ _ h => h.elim⟩
    · subst e
      rcases List.mem_append.mp h with h | h
      · obtain ⟨d, _, hd⟩ := List.mem_map.mp h
        cases hd
      · cases List.eq_of_mem_replicate h
    · intro ρ' z' σ' F' H' e r _
      exact q .non F' H' r.r.plain (by rw [e]; rfl)
    · intro d' z' v F' H' e r iv
      exact q v F' H' r.plain (e ▸ iv)
abbrev s23 : Stmt := top 23
theorem sc23 : FnScope ["row", "most"] ["row", "most"] (defScope s23) := ⟨rfl, rfl, rfl, by decide +kernel, rfl, by decide +kernel, by decide +kernel⟩
abbrev ArgsL : Arguments := ⟨[], [⟨"many", none, ⟨0, 0, 0, 0⟩⟩], none, [], [], none, []⟩
def freeB (ns ms : List (Str × NameKind)) : Bool := ns.all fun y => !decide (y.2 = .free) || (decide (ms.lookup y.1 = some .cell) || decide (ms.lookup y.1 = some .free))
theorem freeB_of {ns ms : List (Str × NameKind)} (h : freeB ns ms = true) : ∀ y ∈ ns, y.2 = .free → ms.lookup y.1 = some .cell ∨ ms.lookup y.1 = some .free := by
  intro y hy e
  have h1 := List.all_eq_true.mp h y hy
  simpa [e] using h1
/-- least_by(lambda many: body, e2) -/
theorem de_lb0 {l : Bool} {X : Cx} {ρ : DL.Env} {c p : Addr} {q : Str} {N fr : List Str} {js : List Nat} {body e2 : Expr} {scope : Scope} {params : Arguments} {p1 lpos pos : Pos} {a : Nat → Int} {m : Nat} {r : Rule} (T : Tx g X.K X.mg) (h23 : Def X.prog X.w X.K X.mg X.base "least_by" s23 ["row", "most"])
    (c6 : Cal g X.prog X.w X.K X.mg X.base "least_of_terms" 5 ["terms", "most"] R6) (hr : Room 10 X.A) (hg : Gl X "least_by") (hcode : X.env.code = .ref c) (tb : LamX.TabB X.base X.mg c p) (hmT : (p, q) ∈ g.T) (hu : ∀ y ∈ g.T, y.1 = p → y.2 = q) (hq : q = X.env.qual ++ "<lambda>")
    (hL : Least r a) (hA : Ann a m) (hm : m ≤ 6) (hb : ∀ i, i < 12 → (a i).natAbs < 2 ^ 60) (S : NdefX.NScope N ["many"] fr scope)
    (hfree : freeB scope.names X.env.scope.names = true) (hfr : ∀ y ∈ fr, (y, NameKind.free) ∈ scope.names) (hjs : js.map (fun j => X.N[j]?) = fr.map some) (he : DE g X e2 ρ (.int m))
    (hl : ∀ (s : Shared) (H : Hp) (c' f : Addr) (A : Around) (outer : List PySem.Env) (s1 : Shared) (HZ : Hp), Room 8 (A.deeper (NdefX.envF (lamF X params scope c') f s1.heap.objs.size)) → DE g (lamX X N params scope c' f A outer s1 HZ) body (Slot.sh (.int ((2 * m : Nat) : Int)) :: (js.map (fun j => capS ρ[j]?) ++ List.replicate (N.length - 1 - js.length) .un)) (sqD l ((seqUp a (2 * m)).map D.int)))
    (hdef : defaultsOf params X.env = ([], []) := by rfl)
    (hbind : ∀ (q : Str) (cl : List (Str × Addr)) (pm cdv ctv u : Value), bindArgs (PySem.W.kla_fn "<lambda>" q params body scope cl pm cdv ctv) ⟨[u], []⟩ = pure [(("many" : Str), u)] := by intros; rfl)
    (h1 : starEach [.Lambda params body scope lpos, e2] X.env = (false, eval (.Lambda params body scope lpos) X.env) :: starEach [e2] X.env := by rfl) (h2 : starEach [e2] X.env = (false, eval e2 X.env) :: starEach [] X.env := by rfl) (h3 : ((backTo pos (starEach [e2] X.env)).any fun x => x.fst) = false := by rfl) (h4 : backTo pos (starEach [.Lambda params body scope lpos, e2] X.env) = (false, eval (.Lambda params body scope lpos) X.env) :: backTo pos (starEach [e2] X.env) := by rfl) :
    DE g X (.Call (.Name "least_by" p1) [.Lambda params body scope lpos, e2] [] pos) ρ (rl r) := by
  subst hq
  obtain ⟨ga, fd, Fn, hmg, hbd⟩ := h23
  refine de_lam (k := 8) (m := ((2 * m : Nat) : Int)) (dl := sqD l ((seqUp a (2 * m)).map D.int)) (d2 := .int m) (a := "row") (b := "most") (pa := "many") (Ng := ["row", "most"]) Fn sc23 hbd hg hmg tb hcode hmT hu hdef S (freeB_of hfree) hfr hjs hbind he hr (.inl rfl) hl ?_ (by decide) (by decide) (by decide) (by decide) h1 h2 h3 h4
  intro s H Fb f cdg hr2 row
  refine dss_cons (ds_ret (d := rl r) ?_ rfl)
  refine de_callC (ds := [intsD (seqUp a (2 * m)), .int m]) c6 (hr2.mono (by decide)) (by rfl) (da_cons (DN.e ?_) (da_cons (by exact va 1) da_nil)) ⟨a, m, r, rfl, rfl, hL, hA, hm, hb⟩
  have hm2 : ((2 * m : Nat) : Int) = 2 * (m : Int) := Int.natCast_mul 2 m
  rw [hm2] at row
  cases l with
  | true => exact dn_listL (by rfl) T.list (DE.b (row _ _ _ _ rfl (de_mul (.inl (by decide)) (DE.b de_int) (DE.b (va 1))) (by rfl)))
  | false => exact dn_listT (by rfl) T.list (row _ _ _ _ rfl (de_mul (.inl (by decide)) (DE.b de_int) (DE.b (va 1))) (by rfl))
theorem de_lb {X : Cx} {ρ : DL.Env} {c p : Addr} {q : Str} {N fr : List Str} {js : List Nat} {body e2 : Expr} {scope : Scope} {params : Arguments} {p1 lpos pos : Pos} {a : Nat → Int} {m : Nat} {r : Rule} (T : Tx g X.K X.mg) (h23 : Def X.prog X.w X.K X.mg X.base "least_by" s23 ["row", "most"])
    (c6 : Cal g X.prog X.w X.K X.mg X.base "least_of_terms" 5 ["terms", "most"] R6) (hr : Room 10 X.A) (hg : Gl X "least_by") (hcode : X.env.code = .ref c) (tb : LamX.TabB X.base X.mg c p) (hmT : (p, q) ∈ g.T) (hu : ∀ y ∈ g.T, y.1 = p → y.2 = q) (hq : q = X.env.qual ++ "<lambda>")
    (hL : Least r a) (hA : Ann a m) (hm : m ≤ 6) (hb : ∀ i, i < 12 → (a i).natAbs < 2 ^ 60) (S : NdefX.NScope N ["many"] fr scope)
    (hfree : freeB scope.names X.env.scope.names = true) (hfr : ∀ y ∈ fr, (y, NameKind.free) ∈ scope.names) (hjs : js.map (fun j => X.N[j]?) = fr.map some) (he : DE g X e2 ρ (.int m))
    (hl : ∀ (s : Shared) (H : Hp) (c' f : Addr) (A : Around) (outer : List PySem.Env) (s1 : Shared) (HZ : Hp), Room 8 (A.deeper (NdefX.envF (lamF X params scope c') f s1.heap.objs.size)) → DE g (lamX X N params scope c' f A outer s1 HZ) body (Slot.sh (.int ((2 * m : Nat) : Int)) :: (js.map (fun j => capS ρ[j]?) ++ List.replicate (N.length - 1 - js.length) .un)) (intsD (seqUp a (2 * m))))
    (hdef : defaultsOf params X.env = ([], []) := by rfl)
    (hbind : ∀ (q : Str) (cl : List (Str × Addr)) (pm cdv ctv u : Value), bindArgs (PySem.W.kla_fn "<lambda>" q params body scope cl pm cdv ctv) ⟨[u], []⟩ = pure [(("many" : Str), u)] := by intros; rfl)
    (h1 : starEach [.Lambda params body scope lpos, e2] X.env = (false, eval (.Lambda params body scope lpos) X.env) :: starEach [e2] X.env := by rfl) (h2 : starEach [e2] X.env = (false, eval e2 X.env) :: starEach [] X.env := by rfl) (h3 : ((backTo pos (starEach [e2] X.env)).any fun x => x.fst) = false := by rfl) (h4 : backTo pos (starEach [.Lambda params body scope lpos, e2] X.env) = (false, eval (.Lambda params body scope lpos) X.env) :: backTo pos (starEach [e2] X.env) := by rfl) :
    DE g X (.Call (.Name "least_by" p1) [.Lambda params body scope lpos, e2] [] pos) ρ (rl r) :=
  de_lb0 (l := true) T h23 c6 hr hg hcode tb hmT hu hq hL hA hm hb S hfree hfr hjs he hl hdef hbind h1 h2 h3 h4
theorem de_lbT {X : Cx} {ρ : DL.Env} {c p : Addr} {q : Str} {N fr : List Str} {js : List Nat} {body e2 : Expr} {scope : Scope} {params : Arguments} {p1 lpos pos : Pos} {a : Nat → Int} {m : Nat} {r : Rule} (T : Tx g X.K X.mg) (h23 : Def X.prog X.w X.K X.mg X.base "least_by" s23 ["row", "most"])
    (c6 : Cal g X.prog X.w X.K X.mg X.base "least_of_terms" 5 ["terms", "most"] R6) (hr : Room 10 X.A) (hg : Gl X "least_by") (hcode : X.env.code = .ref c) (tb : LamX.TabB X.base X.mg c p) (hmT : (p, q) ∈ g.T) (hu : ∀ y ∈ g.T, y.1 = p → y.2 = q) (hq : q = X.env.qual ++ "<lambda>")
    (hL : Least r a) (hA : Ann a m) (hm : m ≤ 6) (hb : ∀ i, i < 12 → (a i).natAbs < 2 ^ 60) (S : NdefX.NScope N ["many"] fr scope)
    (hfree : freeB scope.names X.env.scope.names = true) (hfr : ∀ y ∈ fr, (y, NameKind.free) ∈ scope.names) (hjs : js.map (fun j => X.N[j]?) = fr.map some) (he : DE g X e2 ρ (.int m))
    (hl : ∀ (s : Shared) (H : Hp) (c' f : Addr) (A : Around) (outer : List PySem.Env) (s1 : Shared) (HZ : Hp), Room 8 (A.deeper (NdefX.envF (lamF X params scope c') f s1.heap.objs.size)) → DE g (lamX X N params scope c' f A outer s1 HZ) body (Slot.sh (.int ((2 * m : Nat) : Int)) :: (js.map (fun j => capS ρ[j]?) ++ List.replicate (N.length - 1 - js.length) .un)) (tupD (seqUp a (2 * m))))
    (hdef : defaultsOf params X.env = ([], []) := by rfl)
    (hbind : ∀ (q : Str) (cl : List (Str × Addr)) (pm cdv ctv u : Value), bindArgs (PySem.W.kla_fn "<lambda>" q params body scope cl pm cdv ctv) ⟨[u], []⟩ = pure [(("many" : Str), u)] := by intros; rfl)
    (h1 : starEach [.Lambda params body scope lpos, e2] X.env = (false, eval (.Lambda params body scope lpos) X.env) :: starEach [e2] X.env := by rfl) (h2 : starEach [e2] X.env = (false, eval e2 X.env) :: starEach [] X.env := by rfl) (h3 : ((backTo pos (starEach [e2] X.env)).any fun x => x.fst) = false := by rfl) (h4 : backTo pos (starEach [.Lambda params body scope lpos, e2] X.env) = (false, eval (.Lambda params body scope lpos) X.env) :: backTo pos (starEach [e2] X.env) := by rfl) :
    DE g X (.Call (.Name "least_by" p1) [.Lambda params body scope lpos, e2] [] pos) ρ (rl r) :=
  de_lb0 (l := false) T h23 c6 hr hg hcode tb hmT hu hq hL hA hm hb S hfree hfr hjs he hl hdef hbind h1 h2 h3 h4
end
section
variable {g : Gx} {P : Program} {w : World} {K : PySem.W.Frag} {mg : Str → Option Value} {base : Heap}
def lamQ (x : Str) (st : Stmt) : Str := (envOfC x (defScope st) 0 0 .none).qual ++ "<lambda>"
abbrev s25 : Stmt := top 25
theorem sc25 : FnScope ["form", "state"] ["form", "state"] (defScope s25) := ⟨rfl, rfl, rfl, by decide +kernel, rfl, by decide +kernel, by decide +kernel⟩
def R25 (ds : List D) (d : D) : Prop := ∃ (m : Fm) (t : Nat) (r : Rule), ds = [fmD m, .int t] ∧ d = rl r ∧ Least r (cnt m t) ∧ Ann (cnt m t) m.size ∧ m.Ok ∧ t < m.size ∧ ∀ i, i < 12 → (cnt m t i).natAbs < 2 ^ 60
theorem ok25 (T : Tx g K mg) (h : DefT g P w K mg base "least_rule_from" s25 ["form", "state"] (lamQ "least_rule_from" s25)) (h23 : Def P w K mg base "least_by" s23 ["row", "most"]) (c6 : Cal g P w K mg base "least_of_terms" 5 ["terms", "most"] R6)
    (c10 : Cal g P w K mg base "layers" 2 ["form", "many"] R10) : Cal g P w K mg base "least_rule_from" 11 ["form", "state"] R25 := by
  refine calT_of h sc25 (fun ds d h => by obtain ⟨m, t, r, rfl, _⟩ := h; rfl) ?_
  rintro f c p A outer s H E F0 H0 ds d hr tb hmT hu ⟨m, t, r, rfl, rfl, hL, hA, hm, ht, hb⟩
  have hz := hm.big
  refine dss_cons (ds_ret (d := rl r) ?_ rfl)
  refine de_lb (N := ["many", "form", "state", "layer"]) (fr := ["form", "state"]) (js := [0, 1]) T h23 c6 hr (by rfl) rfl tb hmT hu (by rfl) hL hA hm.big hb (NdefX.nscope_by (by decide +kernel)) (by rfl) (by decide +kernel) (by rfl) (by walk_at "de") ?_
  intro s1 H1 c' f' A' outer' s2 HZ hr2
  have nd : (["many", "form", "state", "layer"] : List Str).Nodup := by decide +kernel
  have e : seqUp (cnt m t) (2 * m.size) = (List.range (2 * m.size)).map (cnt m t) := rfl
  rw [intsD, e, List.map_map]
  refine (dn_map (ts := List.range (2 * m.size)) (mk := fun i => intsD (layerAt m i)) (y := "layer") (j := 3) rfl nd (di_list (de_callC (ds := [fmD m, .int ((2 * m.size : Nat) : Int)]) c10 (by walk_at "room") (by rfl) (by walk_at "da") ⟨m, 2 * m.size, rfl, rfl, hm, by omega⟩)) (blkOk_by (by rfl)) (fun s H C cl fp => by walk_at "pg") (fun s H C cl fp i hi => ?_) (by simp; omega)).e
  exact de_ixL (i := (t : Int)) (xs := (layerAt m i).map D.int) (atI_nat (layer_at i ht)) (by walk_at "db") (by walk_at "db")
abbrev s24 : Stmt := top 24
theorem sc24 : FnScope ["form"] ["form"] (defScope s24) := ⟨rfl, rfl, rfl, by decide +kernel, rfl, by decide +kernel, by decide +kernel⟩
def R24 (ds : List D) (d : D) : Prop := ∃ (m : Fm) (r : Rule), ds = [fmD m] ∧ d = rl r ∧ Least r (cnt m 0) ∧ Ann (cnt m 0) m.size ∧ m.Ok ∧ ∀ i, i < 12 → (cnt m 0 i).natAbs < 2 ^ 60
theorem ok24 (T : Tx g K mg) (h : Def P w K mg base "least_rule" s24 ["form"]) (c25 : Cal g P w K mg base "least_rule_from" 11 ["form", "state"] R25) : Cal g P w K mg base "least_rule" 12 ["form"] R24 := by
  refine cal_of h sc24 (fun ds d h => by obtain ⟨m, r, rfl, _⟩ := h; rfl) ?_
  rintro f cdv A outer s H E F0 H0 ds d hr ⟨m, r, rfl, rfl, hL, hA, hm, hb⟩
  refine dss_cons (ds_ret (d := rl r) ?_ rfl)
  exact de_callC (ds := [fmD m, .int (0 : Nat)]) c25 (by walk_at "room") (by rfl) (by walk_at "da") ⟨m, 0, r, rfl, rfl, hL, hA, hm, hm.pos, hb⟩
abbrev s40 : Stmt := top 40
theorem sc40 : FnScope ["form", "length", "under"] ["form", "length", "under"] (defScope s40) := ⟨rfl, rfl, rfl, by decide +kernel, rfl, by decide +kernel, by decide +kernel⟩
def R40 (ds : List D) (d : D) : Prop := ∃ (m : Fm) (r : Rule) (n : Nat) (u : Int), ds = [fmD m, .int n, .int u] ∧ d = .int (termL r n u) ∧ Least r (cnt m 0) ∧ Ann (cnt m 0) m.size ∧ m.Ok ∧ (∀ i, i < 12 → (cnt m 0 i).natAbs < 2 ^ 60) ∧ r.2.length ≤ 100 ∧ n < 2 ^ 900 ∧ 0 < u ∧ u < 2 ^ 60
theorem ok40 (T : Tx g K mg) (h : Def P w K mg base "count_left" s40 ["form", "length", "under"]) (c24 : Cal g P w K mg base "least_rule" 12 ["form"] R24) (c39 : Cal g P w K mg base "term_left" 2 ["rule", "index", "under"] R39) : Cal g P w K mg base "count_left" 13 ["form", "length", "under"] R40 := by
  refine cal_of h sc40 (fun ds d h => by obtain ⟨m, r, n, u, rfl, _⟩ := h; rfl) ?_
  rintro f cdv A outer s H E F0 H0 ds d hr ⟨m, r, n, u, rfl, rfl, hL, hA, hm, hb, hl, hn, hu, hu2⟩
  refine dss_cons (ds_ret (d := .int (termL r n u)) ?_ rfl)
  exact de_callC (ds := [rl r, .int n, .int u]) c39 (by walk_at "room") (by rfl) (da_cons (de_callC (ds := [fmD m]) c24 (by walk_at "room") (by rfl) (by walk_at "da") ⟨m, r, rfl, rfl, hL, hA, hm, hb⟩) (by walk_at "da")) ⟨r, n, u, rfl, rfl, hL.gen.len, hl, hn, hu, hu2⟩
/-! ### rules from rules -/
/-- what a rule's use asks -/
def Rok (r : Rule) (a : Nat → Int) : Prop := Gen r a ∧ r.2.length ≤ 6 ∧ ∀ i, i < 13 → (a i).natAbs < 2 ^ 63
def R29 (ds : List D) (d : D) : Prop := ∃ (r1 r2 : Rule) (a b : Nat → Int) (n : Nat), ds = [rl r1, rl r2, .int n] ∧ d = .lst ((List.range n).map fun i => .tup [.int (a i), .int (b i)]) ∧ Rok r1 a ∧ Rok r2 b ∧ n ≤ 12
abbrev s27 : Stmt := top 27
theorem sc27 : FnScope ["one", "other"] ["one", "other"] (defScope s27) := ⟨rfl, rfl, rfl, by decide +kernel, rfl, by decide +kernel, by decide +kernel⟩
def R27 (ds : List D) (d : D) : Prop := ∃ (r1 r2 r : Rule) (a b : Nat → Int), ds = [rl r1, rl r2] ∧ d = rl r ∧ Rok r1 a ∧ Rok r2 b ∧ r1.2.length + r2.2.length ≤ 6 ∧ Least r (addS a b) ∧ Ann (addS a b) (r1.2.length + r2.2.length) ∧ ∀ i, i < 12 → (addS a b i).natAbs < 2 ^ 60
theorem len_facts {X : Cx} {ρ : DL.Env} {e : Expr} {r : Rule} {p1 p2 p3 p4 : Pos} {k : Nat} (T : Tx g X.K X.mg) (hg : Gl X "len") (he : DE g X e ρ (rl r)) (h : starEach [.Subscript e (.Constant (.int 1) k p1) p2] X.env = (false, eval (.Subscript e (.Constant (.int 1) k p1) p2) X.env) :: starEach [] X.env := by rfl)
    (hs : PlainIx (.Constant (.int 1) k p1) := by intro _ _; rfl) : DE g X (.Call (.Name "len" p3) [.Subscript e (.Constant (.int 1) k p1) p2] [] p4) ρ (.int r.2.length) := by
  have e1 : ((r.2.map D.int).length : Int) = r.2.length := by rw [List.length_map]
  rw [← e1]
  exact de_lenT hg T.len (de_ixT (i := 1) (xs := [.tup (r.1.map D.int), .tup (r.2.map D.int)]) rfl (DE.b he) (DE.b de_int) hs) h
theorem ok27 (T : Tx g K mg) (h : DefT g P w K mg base "added" s27 ["one", "other"] (lamQ "added" s27)) (h23 : Def P w K mg base "least_by" s23 ["row", "most"]) (c6 : Cal g P w K mg base "least_of_terms" 5 ["terms", "most"] R6)
    (c29 : Cal g P w K mg base "pairs" 3 ["one", "other", "many"] R29) : Cal g P w K mg base "added" 11 ["one", "other"] R27 := by
  refine calT_of h sc27 (fun ds d h => by obtain ⟨m, t, r, a, b, rfl, _⟩ := h; rfl) ?_
  rintro f c p A outer s H E F0 H0 ds d hr tb hmT hu ⟨r1, r2, r, a, b, rfl, rfl, h1, h2, hl6, hL, hA, hb⟩
  refine dss_cons (ds_ret (d := rl r) ?_ rfl)
  refine de_lb (N := ["many", "one", "other", "x", "y"]) (fr := ["one", "other"]) (js := [0, 1]) T h23 c6 hr (by rfl) rfl tb hmT hu (by rfl) hL hA hl6 hb (NdefX.nscope_by (by decide +kernel)) (by rfl) (by decide +kernel) (by rfl) ?_ ?_
  · rw [Int.natCast_add]
    exact de_add (DE.b (len_facts T (by rfl) (by walk_at "de"))) (DE.b (len_facts T (by rfl) (by walk_at "de")))
  intro s1 H1 c' f' A' outer' s2 HZ hr2
  have nd : (["many", "one", "other", "x", "y"] : List Str).Nodup := by decide +kernel
  obtain ⟨n, en⟩ : ∃ n, n = 2 * (r1.2.length + r2.2.length) := ⟨_, rfl⟩
  rw [← en]
  have e : seqUp (addS a b) n = (List.range n).map (addS a b) := rfl
  rw [intsD, e, List.map_map]
  refine (dn_map2 (ts := List.range n) (f1 := fun i => .int (a i)) (f2 := fun i => .int (b i)) (y1 := "x") (y2 := "y") (i := 3) (j := 4) rfl nd (di_list (de_callC (ds := [rl r1, rl r2, .int (n : Int)]) c29 (by walk_at "room") (by rfl) (by walk_at "da") ⟨r1, r2, a, b, n, rfl, rfl, h1, h2, by omega⟩)) (blkOk_by (by rfl)) (fun s H C cl fp => by walk_at "pg") (fun s H C cl fp i hi => ?_) (by simp; omega)).e
  exact de_add (by walk_at "db") (by walk_at "db")
abbrev s28 : Stmt := top 28
theorem sc28 : FnScope ["one", "other"] ["one", "other"] (defScope s28) := ⟨rfl, rfl, rfl, by decide +kernel, rfl, by decide +kernel, by decide +kernel⟩
def R28 (ds : List D) (d : D) : Prop := ∃ (r1 r2 r : Rule) (a b : Nat → Int), ds = [rl r1, rl r2] ∧ d = rl r ∧ Rok r1 a ∧ Rok r2 b ∧ r1.2.length + r2.2.length ≤ 6 ∧ Least r (subS a b) ∧ Ann (subS a b) (r1.2.length + r2.2.length) ∧ ∀ i, i < 12 → (subS a b i).natAbs < 2 ^ 60
theorem ok28 (T : Tx g K mg) (h : DefT g P w K mg base "lessened" s28 ["one", "other"] (lamQ "lessened" s28)) (h23 : Def P w K mg base "least_by" s23 ["row", "most"]) (c6 : Cal g P w K mg base "least_of_terms" 5 ["terms", "most"] R6)
    (c29 : Cal g P w K mg base "pairs" 3 ["one", "other", "many"] R29) : Cal g P w K mg base "lessened" 11 ["one", "other"] R28 := by
  refine calT_of h sc28 (fun ds d h => by obtain ⟨m, t, r, a, b, rfl, _⟩ := h; rfl) ?_
  rintro f c p A outer s H E F0 H0 ds d hr tb hmT hu ⟨r1, r2, r, a, b, rfl, rfl, h1, h2, hl6, hL, hA, hb⟩
  refine dss_cons (ds_ret (d := rl r) ?_ rfl)
  refine de_lb (N := ["many", "one", "other", "x", "y"]) (fr := ["one", "other"]) (js := [0, 1]) T h23 c6 hr (by rfl) rfl tb hmT hu (by rfl) hL hA hl6 hb (NdefX.nscope_by (by decide +kernel)) (by rfl) (by decide +kernel) (by rfl) ?_ ?_
  · rw [Int.natCast_add]
    exact de_add (DE.b (len_facts T (by rfl) (by walk_at "de"))) (DE.b (len_facts T (by rfl) (by walk_at "de")))
  intro s1 H1 c' f' A' outer' s2 HZ hr2
  have nd : (["many", "one", "other", "x", "y"] : List Str).Nodup := by decide +kernel
  obtain ⟨n, en⟩ : ∃ n, n = 2 * (r1.2.length + r2.2.length) := ⟨_, rfl⟩
  rw [← en]
  have e : seqUp (subS a b) n = (List.range n).map (subS a b) := rfl
  rw [intsD, e, List.map_map]
  refine (dn_map2 (ts := List.range n) (f1 := fun i => .int (a i)) (f2 := fun i => .int (b i)) (y1 := "x") (y2 := "y") (i := 3) (j := 4) rfl nd (di_list (de_callC (ds := [rl r1, rl r2, .int (n : Int)]) c29 (by walk_at "room") (by rfl) (by walk_at "da") ⟨r1, r2, a, b, n, rfl, rfl, h1, h2, by omega⟩)) (blkOk_by (by rfl)) (fun s H C cl fp => by walk_at "pg") (fun s H C cl fp i hi => ?_) (by simp; omega)).e
  exact de_sub (by walk_at "db") (by walk_at "db")
abbrev s30 : Stmt := top 30
theorem sc30 : FnScope ["one", "other"] ["one", "other"] (defScope s30) := ⟨rfl, rfl, rfl, by decide +kernel, rfl, by decide +kernel, by decide +kernel⟩
def R30 (ds : List D) (d : D) : Prop := ∃ (r1 r2 r : Rule) (a b : Nat → Int), ds = [rl r1, rl r2] ∧ d = rl r ∧ Rok r1 a ∧ Rok r2 b ∧ r1.2.length + r2.2.length ≤ 6 ∧ Least r (metS a b) ∧ Ann (metS a b) (r1.2.length + r2.2.length) ∧ ∀ i, i < 12 → (metS a b i).natAbs < 2 ^ 60
theorem ok30 (T : Tx g K mg) (h : DefT g P w K mg base "met" s30 ["one", "other"] (lamQ "met" s30)) (h23 : Def P w K mg base "least_by" s23 ["row", "most"]) (c6 : Cal g P w K mg base "least_of_terms" 5 ["terms", "most"] R6)
    (c21 : Cal g P w K mg base "terms" 2 ["rule", "many"] R21) (c31 : Cal g P w K mg base "met_terms" 1 ["row", "mate"] R31) : Cal g P w K mg base "met" 11 ["one", "other"] R30 := by
  refine calT_of h sc30 (fun ds d h => by obtain ⟨m, t, r, a, b, rfl, _⟩ := h; rfl) ?_
  rintro f c p A outer s H E F0 H0 ds d hr tb hmT hu ⟨r1, r2, r, a, b, rfl, rfl, h1, h2, hl6, hL, hA, hb⟩
  refine dss_cons (ds_ret (d := rl r) ?_ rfl)
  refine de_lb (N := ["many", "one", "other"]) (fr := ["one", "other"]) (js := [0, 1]) T h23 c6 hr (by rfl) rfl tb hmT hu (by rfl) hL hA hl6 hb (NdefX.nscope_by (by decide +kernel)) (by rfl) (by decide +kernel) (by rfl) ?_ ?_
  · rw [Int.natCast_add]
    exact de_add (DE.b (len_facts T (by rfl) (by walk_at "de"))) (DE.b (len_facts T (by rfl) (by walk_at "de")))
  intro s1 H1 c' f' A' outer' s2 HZ hr2
  obtain ⟨n, en⟩ : ∃ n, n = 2 * (r1.2.length + r2.2.length) := ⟨_, rfl⟩
  rw [← en]
  have hl1 := h1.2.1
  have hl2 := h2.2.1
  refine de_callC (ds := [tupD (seqUp a n), tupD (seqUp b n)]) c31 (by walk_at "room") (by rfl) (da_cons (de_callC (ds := [rl r1, .int (n : Int)]) c21 (by walk_at "room") (by rfl) (by walk_at "da") ⟨r1, a, n, rfl, rfl, h1.1, by omega, by omega, fun i hi => h1.2.2 i (by omega)⟩)
    (da_cons (de_callC (ds := [rl r2, .int (n : Int)]) c21 (by walk_at "room") (by rfl) (by walk_at "da") ⟨r2, b, n, rfl, rfl, h2.1, by omega, by omega, fun i hi => h2.2.2 i (by omega)⟩) da_nil)) ⟨a, b, n, rfl, rfl, by omega, fun i hi => h2.2.2 i (by omega)⟩
abbrev s32 : Stmt := top 32
theorem sc32 : FnScope ["rule"] ["rule"] (defScope s32) := ⟨rfl, rfl, rfl, by decide +kernel, rfl, by decide +kernel, by decide +kernel⟩
def R32 (ds : List D) (d : D) : Prop := ∃ (r1 r : Rule) (a : Nat → Int), ds = [rl r1] ∧ d = rl r ∧ Rok r1 a ∧ r1.2.length + 1 ≤ 6 ∧ Least r (accS a) ∧ Ann (accS a) (r1.2.length + 1) ∧ ∀ i, i < 12 → (accS a i).natAbs < 2 ^ 60
theorem ok32 (T : Tx g K mg) (h : DefT g P w K mg base "summed" s32 ["rule"] (lamQ "summed" s32)) (h23 : Def P w K mg base "least_by" s23 ["row", "most"]) (c6 : Cal g P w K mg base "least_of_terms" 5 ["terms", "most"] R6)
    (c21 : Cal g P w K mg base "terms" 2 ["rule", "many"] R21) (c33 : Cal g P w K mg base "sums_of" 1 ["row"] R33) : Cal g P w K mg base "summed" 11 ["rule"] R32 := by
  refine calT_of h sc32 (fun ds d h => by obtain ⟨m, t, r, rfl, _⟩ := h; rfl) ?_
  rintro f c p A outer s H E F0 H0 ds d hr tb hmT hu ⟨r1, r, a, rfl, rfl, h1, hl6, hL, hA, hb⟩
  refine dss_cons (ds_ret (d := rl r) ?_ rfl)
  refine de_lb (N := ["many", "rule"]) (fr := ["rule"]) (js := [0]) T h23 c6 hr (by rfl) rfl tb hmT hu (by rfl) hL hA hl6 hb (NdefX.nscope_by (by decide +kernel)) (by rfl) (by decide +kernel) (by rfl) ?_ ?_
  · rw [Int.natCast_add]
    exact de_add (DE.b (len_facts T (by rfl) (by walk_at "de"))) (by walk_at "db")
  intro s1 H1 c' f' A' outer' s2 HZ hr2
  obtain ⟨n, en⟩ : ∃ n, n = 2 * (r1.2.length + 1) := ⟨_, rfl⟩
  rw [← en]
  have hl1 := h1.2.1
  exact de_callC (ds := [tupD (seqUp a n)]) c33 (by walk_at "room") (by rfl) (da_cons (de_callC (ds := [rl r1, .int (n : Int)]) c21 (by walk_at "room") (by rfl) (by walk_at "da") ⟨r1, a, n, rfl, rfl, h1.1, by omega, by omega, fun i hi => h1.2.2 i (by omega)⟩) da_nil) ⟨a, n, rfl, rfl, by omega⟩
end
section
variable {g : Gx} {P : Program} {w : World} {K : PySem.W.Frag} {mg : Str → Option Value} {base : Heap}
abbrev s34 : Stmt := top 34
theorem sc34 : FnScope ["rule", "step", "rest"] ["rule", "step", "rest"] (defScope s34) := ⟨rfl, rfl, rfl, by decide +kernel, rfl, by decide +kernel, by decide +kernel⟩
def R34 (ds : List D) (d : D) : Prop := ∃ (r1 r : Rule) (a : Nat → Int), ds = [rl r1, .int 1, .int 0] ∧ d = rl r ∧ Rok r1 a ∧ Least r a ∧ Ann a r1.2.length ∧ ∀ i, i < 12 → (a i).natAbs < 2 ^ 60
theorem ok34 (T : Tx g K mg) (h : DefT g P w K mg base "part" s34 ["rule", "step", "rest"] (lamQ "part" s34)) (h23 : Def P w K mg base "least_by" s23 ["row", "most"]) (c6 : Cal g P w K mg base "least_of_terms" 5 ["terms", "most"] R6)
    (c21 : Cal g P w K mg base "terms" 2 ["rule", "many"] R21) : Cal g P w K mg base "part" 11 ["rule", "step", "rest"] R34 := by
  refine calT_of h sc34 (fun ds d h => by obtain ⟨m, t, r, rfl, _⟩ := h; rfl) ?_
  rintro f c p A outer s H E F0 H0 ds d hr tb hmT hu ⟨r1, r, a, rfl, rfl, h1, hL, hA, hb⟩
  refine dss_cons (ds_ret (d := rl r) ?_ rfl)
  have hl1 := h1.2.1
  refine de_lbT (N := ["many", "rule", "step", "rest"]) (fr := ["rule", "step", "rest"]) (js := [0, 1, 2]) T h23 c6 hr (by rfl) rfl tb hmT hu (by rfl) hL hA hl1 hb (NdefX.nscope_by (by decide +kernel)) (by rfl) (by decide +kernel) (by rfl) ?_ ?_
  · exact len_facts T (by rfl) (by walk_at "de")
  intro s1 H1 c' f' A' outer' s2 HZ hr2
  obtain ⟨n, en⟩ : ∃ n, n = 2 * r1.2.length := ⟨_, rfl⟩
  rw [← en]
  have e2 : tupD (seqUp a n) = .tup (DL.cutD ((seqUp a n).map D.int) none (some (n : Int))) := by rw [cutD_to, List.take_of_length_le (by rw [List.length_map, seqUp_len]; omega)]; rfl
  rw [e2]
  refine de_slT (de_slS (de_callC (ds := [rl r1, .int (1 * (n : Int) + 0)]) c21 (by walk_at "room") (by rfl) (da_cons (by walk_at "de") (da_cons (de_add (DE.b (de_mul (.inl (by decide)) (by walk_at "db") (by walk_at "db"))) (by walk_at "db")) da_nil)) ⟨r1, a, n, by rw [Int.one_mul, Int.add_zero], rfl, h1.1, by omega, by omega, fun i hi => h1.2.2 i (by omega)⟩) (do_some (by walk_at "db")) (do_some (by walk_at "db"))) do_none (do_some (by walk_at "db"))
end
section
variable {g : Gx} {P : Program} {w : World} {K : PySem.W.Frag} {mg : Str → Option Value} {base : Heap}
/-! ### sames -/
theorem find_hit {α : Type} {p : α → Bool} : ∀ {l : List α} {k : Nat} {x : α}, l[k]? = some x → p x = true → (∀ j y, j < k → l[j]? = some y → p y = false) → l.find? p = some x
  | [], _, _, h, _, _ => by simp at h
  | a :: l, 0, x, h, hx, _ => by
    have e : a = x := by simpa using h
    rw [e, List.find?_cons, hx]
  | a :: l, k + 1, x, h, hx, hz => by
    have e := hz 0 a (by omega) rfl
    rw [List.find?_cons, e]
    exact find_hit (k := k) (by simpa using h) hx fun j y hj hy => hz (j + 1) y (by omega) (by simpa using hy)
abbrev s82 : Stmt := top 82
theorem sc82 : FnScope ["one", "other", "many", "row", "mate", "length"] ["one", "other"] (defScope s82) := ⟨rfl, rfl, rfl, by decide +kernel, rfl, by decide +kernel, by decide +kernel⟩
def R82 (ds : List D) (d : D) : Prop := ∃ m1 m2 : Fm, ds = [fmD m1, fmD m2] ∧ d = optD (unlike m1 m2) ∧ m1.Ok ∧ m2.Ok
theorem ok82 (T : Tx g K mg) (h : Def P w K mg base "first_unlike" s82 ["one", "other"]) (c14 : Cal g P w K mg base "counts" 3 ["form", "many"] R14) : Cal g P w K mg base "first_unlike" 4 ["one", "other"] R82 := by
  refine cal_of h sc82 (fun ds d h => by obtain ⟨m, t, rfl, _⟩ := h; rfl) ?_
  rintro f cdv A outer s H E F0 H0 ds d hr ⟨m1, m2, rfl, rfl, h1, h2⟩
  have nd := sc82.nd
  have hz1 := h1.big
  have hz2 := h2.big
  refine dss_cons (ds_set (d := .int ((m1.size : Int) + (m2.size : Int))) (i := 2) nd rfl (by walk_at "loc") (by walk_at "de") ?_)
  obtain ⟨n, en⟩ : ∃ n, n = m1.size + m2.size := ⟨_, rfl⟩
  rw [← Int.natCast_add, ← en]
  refine dss_cons (ds_par (d1 := tupD (seqUp (cnt m1 0) n)) (d2 := tupD (seqUp (cnt m2 0) n)) (i := 3) (j := 4) rfl nd rfl rfl (by decide) rfl rfl (de_callC (ds := [fmD m1, .int n]) c14 (by walk_at "room") (by rfl) (by walk_at "da") ⟨m1, n, rfl, rfl, h1, by omega⟩)
    (de_callC (ds := [fmD m2, .int n]) c14 (by walk_at "room") (by rfl) (by walk_at "da") ⟨m2, n, rfl, rfl, h2, by omega⟩) rfl ?_)
  refine dss_cons (ds_for (ts := List.range n) (mk := fun (i : Nat) => D.int i) (fun t => [(5, .int t)]) PassesOwn.never rfl (di_range1 (by rfl) T.range (by omega) (by walk_at "de")) (by walk_at "pg") (fun t _ => tgt_name 5 _)
    (fun k ρ _ => (∃ u, ρ = [.sh (fmD m1), .sh (fmD m2), .sh (.int n), .sh (tupD (seqUp (cnt m1 0) n)), .sh (tupD (seqUp (cnt m2 0) n)), u]) ∧ ∀ j, j < k → cnt m1 0 j = cnt m2 0 j) ⟨⟨_, rfl⟩, fun j hj => by omega⟩ ?_ ?_)
  · rintro k t ρ' z' ht ⟨⟨u, rfl⟩, hs⟩
    have hk : k < n ∧ t = k := by
      have h1 := (List.getElem?_eq_some_iff.mp ht).1
      rw [List.length_range] at h1
      rw [List.getElem?_range h1] at ht
      exact ⟨h1, by cases ht; rfl⟩
    obtain ⟨hk, rfl⟩ := hk
    have ix : ∀ m : Fm, atI ((seqUp (cnt m 0) n).map D.int) (t : Int) = some (.int (cnt m 0 t)) := fun m => atI_nat (by rw [List.getElem?_map, seqUp_at (by omega)]; rfl)
    refine dss_cons (ds_if (b := !decide (cnt m1 0 t = cnt m2 0 t)) (dt_neI (DE.b (de_ixT (i := (t : Int)) (ix m1) (by walk_at "db") (by walk_at "db"))) (DE.b (de_ixT (i := (t : Int)) (ix m2) (by walk_at "db") (by walk_at "db")))) (fun hq => ?_) fun hq => dss_nil (dss_nil ⟨⟨_, rfl⟩, fun j hj => ?_⟩))
    · refine dss_cons (ds_ret (by walk_at "de") ?_)
      rw [unlike, ← en, find_hit (k := t) (x := t) (List.getElem?_range hk) hq ?_]
      · rfl
      · intro j y hj hy
        rw [List.getElem?_range (by omega)] at hy
        cases hy
        simp [hs j hj]
    · by_cases e : j = t
      · subst e; simpa using hq
      · exact hs j (by omega)
  · rintro ρ' z' ⟨⟨u, rfl⟩, hs⟩
    refine dss_cons (ds_ret (by walk_at "de") ?_)
    rw [unlike, ← en, List.find?_eq_none.mpr]
    · rfl
    · intro j hj
      have hj : j < n := by simpa using hj
      simp [hs j (by simpa using hj)]
theorem isNon_opt (o : Option Nat) : isNon (optD o) = o.isNone := by cases o <;> rfl
abbrev s83 : Stmt := top 83
theorem sc83 : FnScope ["one", "other"] ["one", "other"] (defScope s83) := ⟨rfl, rfl, rfl, by decide +kernel, rfl, by decide +kernel, by decide +kernel⟩
def R83 (ds : List D) (d : D) : Prop := ∃ m1 m2 : Fm, ds = [fmD m1, fmD m2] ∧ d = .bl (unlike m1 m2).isNone ∧ m1.Ok ∧ m2.Ok
theorem ok83 (T : Tx g K mg) (h : Def P w K mg base "have_same_rows" s83 ["one", "other"]) (c82 : Cal g P w K mg base "first_unlike" 4 ["one", "other"] R82) : Cal g P w K mg base "have_same_rows" 5 ["one", "other"] R83 := by
  refine cal_of h sc83 (fun ds d h => by obtain ⟨m, t, rfl, _⟩ := h; rfl) ?_
  rintro f cdv A outer s H E F0 H0 ds d hr ⟨m1, m2, rfl, rfl, h1, h2⟩
  refine dss_cons (ds_ret (d := .bl (unlike m1 m2).isNone) ?_ rfl)
  rw [← isNon_opt]
  exact de_isN (DE.b (de_callC (ds := [fmD m1, fmD m2]) c82 (by walk_at "room") (by rfl) (by walk_at "da") ⟨m1, m2, rfl, rfl, h1, h2⟩))
abbrev s84 : Stmt := top 84
theorem sc84 : FnScope ["one", "other", "length"] ["one", "other"] (defScope s84) := ⟨rfl, rfl, rfl, by decide +kernel, rfl, by decide +kernel, by decide +kernel⟩
def judgeD (o : Option Nat) (r : Rule) : D := match o with
  | none => .tup [.str "same", rl r]
  | some i => .tup [.str "unlike", .int i]
def R84 (ds : List D) (d : D) : Prop := ∃ (m1 m2 : Fm) (r : Rule), ds = [fmD m1, fmD m2] ∧ d = judgeD (unlike m1 m2) r ∧ m1.Ok ∧ m2.Ok ∧ Least r (cnt m1 0) ∧ Ann (cnt m1 0) m1.size ∧ ∀ i, i < 12 → (cnt m1 0 i).natAbs < 2 ^ 60
theorem ok84 (T : Tx g K mg) (h : Def P w K mg base "judge_rows" s84 ["one", "other"]) (c82 : Cal g P w K mg base "first_unlike" 4 ["one", "other"] R82) (c24 : Cal g P w K mg base "least_rule" 12 ["form"] R24) : Cal g P w K mg base "judge_rows" 13 ["one", "other"] R84 := by
  refine cal_of h sc84 (fun ds d h => by obtain ⟨m, t, r, rfl, _⟩ := h; rfl) ?_
  rintro f cdv A outer s H E F0 H0 ds d hr ⟨m1, m2, r, rfl, rfl, h1, h2, hL, hA, hb⟩
  refine dss_cons (ds_set (d := optD (unlike m1 m2)) (i := 2) sc84.nd rfl (by walk_at "loc") (de_callC (ds := [fmD m1, fmD m2]) c82 (by walk_at "room") (by rfl) (by walk_at "da") ⟨m1, m2, rfl, rfl, h1, h2⟩) ?_)
  refine dss_cons (ds_ret (d := judgeD (unlike m1 m2) r) ?_ rfl)
  refine de_if (k := isNon (optD (unlike m1 m2))) (dt_isN (by walk_at "db")) (fun e => ?_) fun e => ?_
  · rw [isNon_opt] at e
    rw [Option.isNone_iff_eq_none.mp e]
    exact de_tup (da_cons (by walk_at "de") (da_cons (de_callC (ds := [fmD m1]) c24 (by walk_at "room") (by rfl) (by walk_at "da") ⟨m1, r, rfl, rfl, hL, hA, h1, hb⟩) da_nil)) (by simp)
  · rw [isNon_opt] at e
    obtain ⟨i, ei⟩ : ∃ i, unlike m1 m2 = some i := by
      cases q : unlike m1 m2 with
      | none => rw [q] at e; cases e
      | some i => exact ⟨i, rfl⟩
    rw [ei]
    exact de_tup (da_cons (by walk_at "de") (da_cons (by exact va 2) da_nil)) (by simp)
abbrev s85 : Stmt := top 85
theorem sc85 : FnScope ["one", "other", "thing", "word", "what"] ["one", "other", "thing"] (defScope s85) := ⟨rfl, rfl, rfl, by decide +kernel, rfl, by decide +kernel, by decide +kernel⟩
def R85 (ds : List D) (d : D) : Prop := ∃ (m1 m2 : Fm) (r : Rule), ds = [fmD m1, fmD m2, .tup [.str "same", rl r]] ∧ d = .bl (obeysB m1 r && obeysB m2 r) ∧ m1.Ok ∧ m2.Ok ∧ r.1.length = r.2.length ∧ r.2.length ≤ 6 ∧ (∀ i, i < 13 → (cnt m1 0 i).natAbs < 2 ^ 63) ∧ ∀ i, i < 13 → (cnt m2 0 i).natAbs < 2 ^ 63
theorem ok85 (T : Tx g K mg) (h : Def P w K mg base "rows_hold" s85 ["one", "other", "thing"]) (c26 : Cal g P w K mg base "obeys" 4 ["form", "thing"] R26) : Cal g P w K mg base "rows_hold" 5 ["one", "other", "thing"] R85 := by
  refine cal_of h sc85 (fun ds d h => by obtain ⟨m, t, r, rfl, _⟩ := h; rfl) ?_
  rintro f cdv A outer s H E F0 H0 ds d hr ⟨m1, m2, r, rfl, rfl, h1, h2, hl, hl6, hb1, hb2⟩
  have nd := sc85.nd
  refine dss_cons (ds_if (b := (!true || !decide ((2 : Int) = 2))) (DW.t (dw_or (dt_not (dt_e (by walk_at "isi"))) fun _ => dw_or1 (dt_neI (i := 2) (j := 2) (DE.b (de_lenT (xs := [.str "same", rl r]) (by rfl) T.len (by walk_at "de"))) (DE.b (de_gI (by rfl) T.paper))))) (fun e => absurd e (by decide)) fun _ => dss_nil ?_)
  refine dss_cons (ds_asg (d := .tup [.str "same", rl r]) (by walk_at "de") (by walk_at "pg") (tgt_tup2 3 4 _ _) ?_)
  refine dss_cons (ds_if (b := true && decide (("same" : Str) = "same")) (DW.t (dw_and (dt_e (de_isi (by rfl) T.inst (by rfl) T.kstr PyProof.Rows.boot_str (by walk_at "db") (by rfl) (by decide +kernel))) fun _ => dw_and1 (dt_eqS (by walk_at "db") (by walk_at "db")))) (fun _ => ?_) fun e => absurd e (by decide +kernel))
  refine dss_cons (ds_ret (d := .bl (obeysB m1 r && obeysB m2 r)) ?_ rfl)
  exact de_and (de_callC (ds := [fmD m1, rl r]) c26 (by walk_at "room") (by rfl) (by walk_at "da") ⟨m1, r, rfl, rfl, h1, hl, hl6, hb1⟩) fun _ => de_one (de_callC (ds := [fmD m2, rl r]) c26 (by walk_at "room") (by rfl) (by walk_at "da") ⟨m2, r, rfl, rfl, h2, hl, hl6, hb2⟩)
end
section
variable {g : Gx} {P : Program} {w : World} {K : PySem.W.Frag} {mg : Str → Option Value} {base : Heap}
/-! ### sheettexts -/
def Low (c : Nat) : Prop := c ∈ ("abcdefghijklmnopqrstuvwxyz" : Str).cps.toList
abbrev s48 : Stmt := top 48
theorem sc48 : FnScope ["thing"] ["thing"] (defScope s48) := ⟨rfl, rfl, rfl, by decide +kernel, rfl, by decide +kernel, by decide +kernel⟩
def R48 (ds : List D) (d : D) : Prop := ∃ c : Nat, ds = [.str (chr c)] ∧ d = .bl true ∧ Low c
theorem ok48 (T : Tx g K mg) (h : Def P w K mg base "is_letter" s48 ["thing"]) : Cal g P w K mg base "is_letter" 1 ["thing"] R48 := by
  refine cal_of h sc48 (fun ds d h => by obtain ⟨m, rfl, _⟩ := h; rfl) ?_
  rintro f cdv A outer s H E F0 H0 ds d hr ⟨c, rfl, rfl, hc⟩
  refine dss_cons (ds_ret (d := .bl (true && (decide (((chr c).length : Int) = 1) && decide (c ∈ ("abcdefghijklmnopqrstuvwxyz" : Str).cps.toList)))) ?_ ?_)
  · refine de_and (by walk_at "isi") fun _ => de_and (de_eqI (DE.b (de_lenS (by rfl) T.len (by simp [chr, Str.length]) (by walk_at "de"))) (by walk_at "db")) fun _ => de_one (de_inS (by walk_at "db") (DE.b (de_gS (by rfl) T.lets)))
  · rw [decide_eq_true (show c ∈ _ from hc)]
    rfl
abbrev s57 : Stmt := top 57
theorem sc57 : FnScope ["thing"] ["thing"] (defScope s57) := ⟨rfl, rfl, rfl, by decide +kernel, rfl, by decide +kernel, by decide +kernel⟩
def R57 (ds : List D) (d : D) : Prop := ∃ n : Nat, ds = [.int n] ∧ d = .bl true ∧ 0 < n
theorem ok57 (T : Tx g K mg) (h : Def P w K mg base "is_size" s57 ["thing"]) : Cal g P w K mg base "is_size" 1 ["thing"] R57 := by
  refine cal_of h sc57 (fun ds d h => by obtain ⟨m, rfl, _⟩ := h; rfl) ?_
  rintro f cdv A outer s H E F0 H0 ds d hr ⟨n, rfl, rfl, hn⟩
  refine dss_cons (ds_ret (d := .bl (true && (!false && decide ((1 : Int) ≤ n)))) ?_ ?_)
  · exact de_and (by walk_at "isi") fun _ => de_and (de_not (by walk_at "isi")) fun _ => de_one (by walk_at "de")
  · rw [decide_eq_true (show (1 : Int) ≤ n by omega)]
    rfl
abbrev s58 : Stmt := top 58
theorem sc58 : FnScope ["size", "thing"] ["size", "thing"] (defScope s58) := ⟨rfl, rfl, rfl, by decide +kernel, rfl, by decide +kernel, by decide +kernel⟩
def R58 (ds : List D) (d : D) : Prop := ∃ n t : Nat, ds = [.int n, .int t] ∧ d = .bl true ∧ t < n
theorem ok58 (T : Tx g K mg) (h : Def P w K mg base "is_state" s58 ["size", "thing"]) : Cal g P w K mg base "is_state" 1 ["size", "thing"] R58 := by
  refine cal_of h sc58 (fun ds d h => by obtain ⟨m, t, rfl, _⟩ := h; rfl) ?_
  rintro f cdv A outer s H E F0 H0 ds d hr ⟨n, t, rfl, rfl, hn⟩
  refine dss_cons (ds_ret (d := .bl (true && (!false && (decide ((0 : Int) ≤ t) && decide ((t : Int) < n))))) ?_ ?_)
  · exact de_and (by walk_at "isi") fun _ => de_and (de_not (by walk_at "isi")) fun _ => de_one (de_chain op_le op_lt (d1 := .int 0) (d2 := .int t) (d3 := .int n) (by walk_at "db") (by walk_at "db") (by walk_at "db") (opd_I0 fun _ => rfl) fun _ => opd_I0 fun _ => rfl)
  · rw [decide_eq_true (show (0 : Int) ≤ t by omega), decide_eq_true (show (t : Int) < n by omega)]
    rfl
/-- a move of a text -/
def MvOk (n : Nat) (m : Nat × Nat × Nat) : Prop := m.1 < n ∧ Low m.2.1 ∧ m.2.2 < n
abbrev s59 : Stmt := top 59
theorem sc59 : FnScope ["size", "thing"] ["size", "thing"] (defScope s59) := ⟨rfl, rfl, rfl, by decide +kernel, rfl, by decide +kernel, by decide +kernel⟩
def R59 (ds : List D) (d : D) : Prop := ∃ (n : Nat) (m : Nat × Nat × Nat), ds = [.int n, mvD m] ∧ d = .bl true ∧ MvOk n m
theorem ok59 (T : Tx g K mg) (h : Def P w K mg base "is_move" s59 ["size", "thing"]) (c58 : Cal g P w K mg base "is_state" 1 ["size", "thing"] R58) (c48 : Cal g P w K mg base "is_letter" 1 ["thing"] R48) : Cal g P w K mg base "is_move" 2 ["size", "thing"] R59 := by
  refine cal_of h sc59 (fun ds d h => by obtain ⟨m, t, rfl, _⟩ := h; rfl) ?_
  rintro f cdv A outer s H E F0 H0 ds d hr ⟨n, m, rfl, rfl, h1, h2, h3⟩
  refine dss_cons (ds_if (b := (!true || !decide ((3 : Int) = 3))) (DW.t (dw_or (dt_not (dt_e (by walk_at "isi"))) fun _ => dw_or1 (dt_neI (i := 3) (j := 3) (DE.b (de_lenT (xs := [.int m.1, .str (chr m.2.1), .int m.2.2]) (by rfl) T.len (by walk_at "de"))) (DE.b (de_gI (by rfl) T.triple))))) (fun e => absurd e (by decide)) fun _ => dss_nil ?_)
  refine dss_cons (ds_ret (d := .bl (true && (true && true))) ?_ rfl)
  refine de_and (de_callC (ds := [.int n, .int m.1]) c58 (by walk_at "room") (by rfl) (da_cons (by walk_at "de") (da_cons (de_ixT (i := 0) (xs := [.int m.1, .str (chr m.2.1), .int m.2.2]) rfl (by walk_at "db") (by walk_at "db")) da_nil)) ⟨n, m.1, rfl, rfl, h1⟩) fun _ => ?_
  refine de_and (de_callC (ds := [.str (chr m.2.1)]) c48 (by walk_at "room") (by rfl) (da_cons (de_ixT (i := 1) (xs := [.int m.1, .str (chr m.2.1), .int m.2.2]) rfl (by walk_at "db") (by walk_at "db")) da_nil) ⟨m.2.1, rfl, rfl, h2⟩) fun _ => ?_
  exact de_one (de_callC (ds := [.int n, .int m.2.2]) c58 (by walk_at "room") (by rfl) (da_cons (by walk_at "de") (da_cons (de_ixT (i := 2) (xs := [.int m.1, .str (chr m.2.1), .int m.2.2]) rfl (by walk_at "db") (by walk_at "db")) da_nil)) ⟨n, m.2.2, rfl, rfl, h3⟩)
/-- pairs that stand side by side -/
def sides {α : Type} (xs : List α) : List (α × α) := xs.zip (xs.drop 1)
abbrev s60 : Stmt := top 60
theorem sc60 : FnScope ["items", "one", "other"] ["items"] (defScope s60) := ⟨rfl, rfl, rfl, by decide +kernel, rfl, by decide +kernel, by decide +kernel⟩
def R60 (ds : List D) (d : D) : Prop := ∃ xs : List D, ds = [.tup xs] ∧ d = .bl true ∧ xs.length ≤ 100 ∧ ∀ q ∈ sides xs, LtOk q.1 q.2 true
theorem ok60 (T : Tx g K mg) (h : Def P w K mg base "are_ascending" s60 ["items"]) : Cal g P w K mg base "are_ascending" 1 ["items"] R60 := by
  refine cal_of h sc60 (fun ds d h => by obtain ⟨m, rfl, _⟩ := h; rfl) ?_
  rintro f cdv A outer s H E F0 H0 ds d hr ⟨xs, rfl, rfl, hl, hq⟩
  have nd := sc60.nd
  refine dss_cons (ds_ret (d := .bl (((sides xs).map fun _ => true).all fun b => b)) ?_ (by rw [all_yes]))
  refine de_all rfl (by rfl) T.all (DE.b (DN.e ?_))
  rw [List.map_map]
  have e1 : DL.cutD xs (some ((1 : Nat) : Int)) none = xs.drop 1 := cutD_lo
  refine dn_map2 (ts := sides xs) (f1 := fun q => q.1) (f2 := fun q => q.2) (y1 := "one") (y2 := "other") (i := 1) (j := 2) rfl nd ?_ (blkOk_by (by rfl)) (fun s H C cl fp => by walk_at "pg") (fun s H C cl fp q hq' => ?_) (by rw [sides, List.length_zip]; omega)
  · rw [sides, ← e1]
    exact di_zipT (by rfl) T.zip (by walk_at "de") (de_slT (by walk_at "de") (do_some (by exact DE.b de_int)) do_none)
  · exact de_ltD (by exact hr.units) (hq q hq') (by walk_at "db") (by walk_at "db")
def fmMoves (ms : List (Nat × Nat × Nat)) : D := .tup (ms.map mvD)
abbrev s61 : Stmt := top 61
theorem sc61 : FnScope ["size", "thing", "move"] ["size", "thing"] (defScope s61) := ⟨rfl, rfl, rfl, by decide +kernel, rfl, by decide +kernel, by decide +kernel⟩
def R61 (ds : List D) (d : D) : Prop := ∃ (n : Nat) (ms : List (Nat × Nat × Nat)), ds = [.int n, fmMoves ms] ∧ d = .bl true ∧ (∀ m ∈ ms, MvOk n m) ∧ ms.length ≤ 100 ∧ ∀ q ∈ sides (ms.map mvD), LtOk q.1 q.2 true
theorem ok61 (T : Tx g K mg) (h : Def P w K mg base "are_moves" s61 ["size", "thing"]) (c59 : Cal g P w K mg base "is_move" 2 ["size", "thing"] R59) (c60 : Cal g P w K mg base "are_ascending" 1 ["items"] R60) : Cal g P w K mg base "are_moves" 3 ["size", "thing"] R61 := by
  refine cal_of h sc61 (fun ds d h => by obtain ⟨m, t, rfl, _⟩ := h; rfl) ?_
  rintro f cdv A outer s H E F0 H0 ds d hr ⟨n, ms, rfl, rfl, hm, hl, hq⟩
  have nd := sc61.nd
  refine dss_cons (ds_ret (d := .bl (true && (((ms.map fun _ => true).all fun b => b) && true))) ?_ (by rw [all_yes]; rfl))
  refine de_and (by walk_at "isi") fun _ => de_and (de_all rfl (by rfl) T.all (DE.b (DN.e ?_))) fun _ => de_one (de_callC (ds := [fmMoves ms]) c60 (by walk_at "room") (by rfl) (by walk_at "da") ⟨ms.map mvD, rfl, rfl, by rw [List.length_map]; exact hl, hq⟩)
  rw [List.map_map]
  refine dn_map (ts := ms) (mk := mvD) (j := 2) rfl nd (di_tup (by walk_at "de")) (blkOk_by (by rfl)) (fun s H C cl fp => by walk_at "pg") (fun s H C cl fp m hm' => ?_) (by omega)
  exact de_callC (ds := [.int n, mvD m]) c59 (by walk_at "room") (by rfl) (by walk_at "da") ⟨n, m, rfl, rfl, hm m hm'⟩
abbrev s62 : Stmt := top 62
theorem sc62 : FnScope ["size", "thing", "state"] ["size", "thing"] (defScope s62) := ⟨rfl, rfl, rfl, by decide +kernel, rfl, by decide +kernel, by decide +kernel⟩
def R62 (ds : List D) (d : D) : Prop := ∃ (n : Nat) (es : List Nat), ds = [.int n, tupD (nums es)] ∧ d = .bl true ∧ (∀ m ∈ es, m < n) ∧ es.length ≤ 100 ∧ ∀ q ∈ sides ((nums es).map D.int), LtOk q.1 q.2 true
theorem ok62 (T : Tx g K mg) (h : Def P w K mg base "are_ends" s62 ["size", "thing"]) (c58 : Cal g P w K mg base "is_state" 1 ["size", "thing"] R58) (c60 : Cal g P w K mg base "are_ascending" 1 ["items"] R60) : Cal g P w K mg base "are_ends" 3 ["size", "thing"] R62 := by
  refine cal_of h sc62 (fun ds d h => by obtain ⟨m, t, rfl, _⟩ := h; rfl) ?_
  rintro f cdv A outer s H E F0 H0 ds d hr ⟨n, es, rfl, rfl, hm, hl, hq⟩
  have nd := sc62.nd
  refine dss_cons (ds_ret (d := .bl (true && (((es.map fun _ => true).all fun b => b) && true))) ?_ (by rw [all_yes]; rfl))
  refine de_and (by walk_at "isi") fun _ => de_and (de_all rfl (by rfl) T.all (DE.b (DN.e ?_))) fun _ => de_one (de_callC (ds := [tupD (nums es)]) c60 (by walk_at "room") (by rfl) (by walk_at "da") ⟨(nums es).map D.int, rfl, rfl, by simp [nums]; exact hl, hq⟩)
  rw [List.map_map]
  refine dn_map (ts := es) (mk := fun (i : Nat) => D.int i) (j := 2) rfl nd (di_tup ?_) (blkOk_by (by rfl)) (fun s H C cl fp => by walk_at "pg") (fun s H C cl fp m hm' => ?_) (by omega)
  · have e : (es.map fun (i : Nat) => D.int i) = (nums es).map D.int := by rw [nums, List.map_map]; rfl
    rw [e]
    walk_at "de"
  · exact de_callC (ds := [.int n, .int m]) c58 (by walk_at "room") (by rfl) (by walk_at "da") ⟨n, m, rfl, rfl, hm m hm'⟩
end
section
variable {g : Gx} {P : Program} {w : World} {K : PySem.W.Frag} {mg : Str → Option Value} {base : Heap}
/-! ### are_single, reached, useful_states -/
theorem eqok_key {a b : Int} {s t : Str} (hs : PyData.strOk s = true) (ht : PyData.strOk t = true) : EqOk (.tup [.int a, .str s]) (.tup [.int b, .str t]) (decide (a = b) && decide (s = t)) where
  n1 := rfl
  n2 := rfl
  s1 := by simp [toP, toPs, SeqAt.shaped, PyData.canLay0, PyData.canLayAll0, PyData.depth, PyData.depthAll, hs]
  s2 := by simp [toP, toPs, SeqAt.shaped, PyData.canLay0, PyData.canLayAll0, PyData.depth, PyData.depthAll, ht]
  eq := by
    rw [Bool.eq_iff_iff]
    simp [toP, toPs, PyData.eqv, PyData.eqvAll]
theorem low_ok {c : Nat} (h : Low c) : PyData.strOk (chr c) = true := by
  have : ∀ x ∈ ("abcdefghijklmnopqrstuvwxyz" : Str).cps.toList, PyData.strOk (chr x) = true := by decide +kernel
  exact this c h
abbrev s63 : Stmt := top 63
theorem sc63 : FnScope ["moves", "one", "other"] ["moves"] (defScope s63) := ⟨rfl, rfl, rfl, by decide +kernel, rfl, by decide +kernel, by decide +kernel⟩
def R63 (ds : List D) (d : D) : Prop := ∃ ms : List (Nat × Nat × Nat), ds = [fmMoves ms] ∧ d = .bl true ∧ ms.length ≤ 100 ∧ ∀ q ∈ sides ms, ¬ (q.1.1 = q.2.1 ∧ q.1.2.1 = q.2.2.1) ∧ Low q.1.2.1 ∧ Low q.2.2.1
theorem sides_map {α β : Type} (f : α → β) (xs : List α) : sides (xs.map f) = (sides xs).map fun q => (f q.1, f q.2) := by
  rw [sides, sides, ← List.map_drop, List.zip_map]
  rfl
theorem chr_inj {a b : Nat} (h : chr a = chr b) : a = b := by
  have := congrArg (fun s : Str => s.cps.toList) h
  simpa [chr] using this
theorem ok63 (T : Tx g K mg) (h : Def P w K mg base "are_single" s63 ["moves"]) : Cal g P w K mg base "are_single" 1 ["moves"] R63 := by
  refine cal_of h sc63 (fun ds d h => by obtain ⟨m, rfl, _⟩ := h; rfl) ?_
  rintro f cdv A outer s H E F0 H0 ds d hr ⟨ms, rfl, rfl, hl, hq⟩
  have nd := sc63.nd
  refine dss_cons (ds_ret (d := .bl (((sides ms).map fun q => !(decide ((q.1.1 : Int) = q.2.1) && decide (chr q.1.2.1 = chr q.2.2.1))).all fun b => b)) ?_ ?_)
  · refine de_all rfl (by rfl) T.all (DE.b (DN.e ?_))
    rw [List.map_map]
    have e1 : DL.cutD (ms.map mvD) (some ((1 : Nat) : Int)) none = (ms.map mvD).drop 1 := cutD_lo
    have e2 : (sides ms).map (fun q => D.tup [mvD q.1, mvD q.2]) = ((ms.map mvD).zip ((ms.map mvD).drop 1)).map fun q => D.tup [q.1, q.2] := by
      show _ = (sides (ms.map mvD)).map _
      rw [sides_map, List.map_map]
      rfl
    refine dn_map2 (ts := sides ms) (f1 := fun q => mvD q.1) (f2 := fun q => mvD q.2) (y1 := "one") (y2 := "other") (i := 1) (j := 2) rfl nd ?_ (blkOk_by (by rfl)) (fun s H C cl fp => by walk_at "pg") (fun s H C cl fp q hq' => ?_) (by rw [sides, List.length_zip]; omega)
    · rw [e2, ← e1]
      exact di_zipT (by rfl) T.zip (by walk_at "de") (de_slT (by walk_at "de") (do_some (by exact DE.b de_int)) do_none)
    · have cut : ∀ m : Nat × Nat × Nat, DL.cutD [D.int m.1, D.str (chr m.2.1), D.int m.2.2] none (some ((2 : Nat) : Int)) = [D.int m.1, D.str (chr m.2.1)] := fun m => by rw [cutD_to]; rfl
      have c1 := cut q.1
      have c2 := cut q.2
      refine de_neD (by exact hr.units) (eqok_key (a := q.1.1) (b := q.2.1) (s := chr q.1.2.1) (t := chr q.2.2.1) (low_ok (hq q hq').2.1) (low_ok (hq q hq').2.2)) (DE.b ?_) (DE.b ?_)
      · rw [← c1]
        exact de_slT (by walk_at "de") do_none (do_some (by exact DE.b de_int))
      · rw [← c2]
        exact de_slT (by walk_at "de") do_none (do_some (by exact DE.b de_int))
  · rw [List.all_map]
    congr 1
    rw [List.all_eq_true]
    intro q hq'
    have h1 := hq q hq'
    show (!(decide ((q.1.1 : Int) = q.2.1) && decide (chr q.1.2.1 = chr q.2.2.1))) = true
    rw [Bool.not_eq_true', Bool.and_eq_false_iff]
    by_cases e : q.1.1 = q.2.1
    · refine .inr (decide_eq_false fun k => h1.1 ⟨e, chr_inj k⟩)
    · exact .inl (decide_eq_false fun k => e (by omega))
def reachStep (a : Nat) (f : List Nat) (m : Nat × Nat × Nat) : List Nat := if m.1 = a ∧ m.2.2 ∉ f then f ++ [m.2.2] else f
def reachAll (ms : List (Nat × Nat × Nat)) : Nat → List Nat → Nat → List Nat
  | 0, f, _ => f
  | n + 1, f, p => if p < f.length then reachAll ms n (ms.foldl (reachStep (f.getD p 0)) f) (p + 1) else f
/-- how many below n are not found yet -/
def missing (n : Nat) (f : List Nat) : Nat := ((List.range n).filter fun i => !decide (i ∈ f)).length
theorem missing_add {n t : Nat} {f : List Nat} (h : t ∉ f) (ht : t < n) : missing n (f ++ [t]) + 1 ≤ missing n f := by
  have key : ∀ l : List Nat, l.Nodup → ((l.filter fun i => !decide (i ∈ f ++ [t])).length + (if t ∈ l then 1 else 0) = (l.filter fun i => !decide (i ∈ f)).length) := by
    intro l
    induction l with
    | nil => intro _; rfl
    | cons x l ih =>
      intro nd
      obtain ⟨h1, h2⟩ := List.nodup_cons.mp nd
      have ih := ih h2
      by_cases e : x = t
      · subst e
        rw [if_neg h1] at ih
        simp only [List.filter_cons, List.mem_append, List.mem_singleton, List.mem_cons]
        simp [h] at ih ⊢
        omega
      · by_cases e2 : x ∈ f
        · simp [List.filter_cons, e, e2, Ne.symm (a := x) (b := t) e] at ih ⊢
          omega
        · simp [List.filter_cons, e, e2, Ne.symm (a := x) (b := t) e] at ih ⊢
          omega
  have := key (List.range n) List.nodup_range
  rw [if_pos (List.mem_range.mpr ht)] at this
  unfold missing
  omega
/-- what a round keeps -/
theorem fold_reach {n a : Nat} : ∀ (ms : List (Nat × Nat × Nat)) (f : List Nat), (∀ m ∈ ms, m.2.2 < n) → (∀ i ∈ f, i < n) → (∀ i ∈ ms.foldl (reachStep a) f, i < n) ∧ missing n (ms.foldl (reachStep a) f) + (ms.foldl (reachStep a) f).length ≤ missing n f + f.length ∧ f.length ≤ (ms.foldl (reachStep a) f).length
  | [], f, _, hf => ⟨hf, Nat.le_refl _, Nat.le_refl _⟩
  | m :: ms, f, hm, hf => by
    have hmn := hm m List.mem_cons_self
    have hms : ∀ m ∈ ms, m.2.2 < n := fun x hx => hm x (List.mem_cons_of_mem _ hx)
    rw [List.foldl_cons]
    by_cases e : m.1 = a ∧ m.2.2 ∉ f
    · have er : reachStep a f m = f ++ [m.2.2] := if_pos e
      rw [er]
      have := fold_reach (a := a) ms (f ++ [m.2.2]) hms (fun i hi => by
        rcases List.mem_append.mp hi with hi | hi
        · exact hf i hi
        · rw [List.mem_singleton.mp hi]; exact hmn)
      have h2 := missing_add e.2 hmn
      rw [List.length_append, List.length_singleton] at this
      exact ⟨this.1, by omega, by omega⟩
    · have er : reachStep a f m = f := if_neg e
      rw [er]
      exact fold_reach ms f hms hf
theorem missing_le (n : Nat) (f : List Nat) : missing n f ≤ n := by
  have := List.length_filter_le (fun i => !decide (i ∈ f)) (List.range n)
  rw [List.length_range] at this
  exact this
def natsOf (xs : List D) : List Nat := xs.map fun d => match d with
  | .int i => i.toNat
  | _ => 0
theorem natsOf_nums (l : List Nat) : natsOf ((nums l).map D.int) = l := by
  rw [natsOf, nums, List.map_map, List.map_map]
  conv => rhs; rw [← List.map_id l]
  exact List.map_congr_left fun a _ => rfl
theorem nums_snoc (l : List Nat) (t : Nat) : (nums (l ++ [t])).map D.int = (nums l).map D.int ++ [D.int t] := by
  rw [nums, nums, List.map_append, List.map_append]
  rfl
theorem reach_pre {a : Nat} : ∀ (ms : List (Nat × Nat × Nat)) (f : List Nat), f <+: ms.foldl (reachStep a) f
  | [], f => List.prefix_refl f
  | m :: ms, f => by
    rw [List.foldl_cons]
    refine List.IsPrefix.trans ?_ (reach_pre ms _)
    rw [reachStep]
    split
    · exact List.prefix_append _ _
    · exact List.prefix_refl f
abbrev s76 : Stmt := top 76
theorem sc76 : FnScope ["firsts", "moves", "found", "place", "near", "letter", "far"] ["firsts", "moves"] (defScope s76) := ⟨rfl, rfl, rfl, by decide +kernel, rfl, by decide +kernel, by decide +kernel⟩
def R76 (ds : List D) (d : D) : Prop := ∃ (l1 l2 : Bool) (n : Nat) (es : List Nat) (ms : List (Nat × Nat × Nat)), ds = [sqD l1 ((nums es).map D.int), sqD l2 (ms.map mvD)] ∧ d = intsD (nums (reachAll ms (n + es.length) es 0)) ∧ (∀ m ∈ ms, m.2.2 < n) ∧ (∀ i ∈ es, i < n) ∧ n ≤ 100 ∧ es.length ≤ 100
theorem nums_mem {t : Nat} {l : List Nat} : decide ((t : Int) ∈ nums l) = decide (t ∈ l) := by
  congr 1
  simp only [nums, List.mem_map, eq_iff_iff]
  exact ⟨fun ⟨a, h1, h2⟩ => by have e : a = t := by omega
                               rw [← e]; exact h1, fun h => ⟨t, h, rfl⟩⟩
theorem ok76 (T : Tx g K mg) (h : Def P w K mg base "reached" s76 ["firsts", "moves"]) : Cal g P w K mg base "reached" 1 ["firsts", "moves"] R76 := by
  refine cal_of h sc76 (fun ds d h => by obtain ⟨_, _, _, _, _, rfl, _⟩ := h; rfl) ?_
  rintro f cdv A outer s H E F0 H0 ds d hr ⟨l1, l2, n, es, ms, rfl, rfl, hm, he, hn, hl⟩
  have nd := sc76.nd
  refine dss_cons (ds_new (xs := (nums es).map D.int) (i := 2) nd rfl (by walk_at "loc") ?_ ?_)
  · cases l1 with
    | true => exact dn_listL (by rfl) T.list (DE.b (by exact va 0))
    | false => exact dn_listT (by rfl) T.list (by exact va 0)
  refine dss_cons (ds_set (d := .int (0 : Nat)) (i := 3) nd rfl (by walk_at "loc") (by walk_at "de") ?_)
  refine dss_cons (ds_while PassesOwn.never (fun ρ _ => ∃ (q p : Nat) (fo : List Nat) (x y z : Slot), ρ = [.sh (sqD l1 ((nums es).map D.int)), .sh (sqD l2 (ms.map mvD)), .own ((nums fo).map D.int), .sh (.int p), x, y, z] ∧ reachAll ms q fo p = reachAll ms (n + es.length) es 0 ∧ (∀ i ∈ fo, i < n) ∧ missing n fo + fo.length ≤ n + es.length ∧ p ≤ fo.length ∧ missing n fo + fo.length ≤ q + p)
    (fun ρ _ => match ρ with | [_, _, .own xs, .sh (.int p), _, _, _] => missing n (natsOf xs) + (natsOf xs).length - p.toNat | _ => 0) ?_ ?_)
  · refine ⟨n + es.length, 0, es, _, _, _, rfl, rfl, he, ?_, Nat.zero_le _, ?_⟩
    · have := missing_le n es; omega
    · have := missing_le n es; omega
  · rintro ρ' z' ⟨q, p, fo, x, y, z, rfl, hre, hfo, hms, hp, hfu⟩
    have hL : ((nums fo).map D.int).length = fo.length := by simp [nums]
    refine ⟨decide ((p : Int) < ((nums fo).map D.int).length), by walk_at "dt", fun hq => ?_, fun hq => ?_⟩
    · have hq : p < fo.length := by rw [hL] at hq; simpa using hq
      obtain ⟨q, rfl⟩ : ∃ j, q = j + 1 := ⟨q - 1, by omega⟩
      obtain ⟨a, ea⟩ : ∃ a, a = fo.getD p 0 := ⟨_, rfl⟩
      have hfl : fo.length ≤ 200 := by omega
      have hgr := fold_reach (n := n) (a := a) ms fo hm hfo
      refine dss_cons (ds_for (ts := ms) (mk := mvD) (fun t => [(4, .int t.1), (5, .str (chr t.2.1)), (6, .int t.2.2)]) PassesOwn.never rfl ?_ (by walk_at "pg") (fun t _ => tgt_tup3 4 5 6 _ _ _)
        (fun k ρ _ => ∃ x y z, ρ = [.sh (sqD l1 ((nums es).map D.int)), .sh (sqD l2 (ms.map mvD)), .own ((nums ((ms.take k).foldl (reachStep a) fo)).map D.int), .sh (.int p), x, y, z]) ⟨_, _, _, rfl⟩ ?_ ?_)
      · cases l2 with
        | true => exact di_list (by exact va 1)
        | false => exact di_tup (by exact va 1)
      · rintro k t ρ' z' ht ⟨x, y, z, rfl⟩
        have htk := fold_reach (n := n) (a := a) (ms.take k) fo (fun m hm' => hm m (List.mem_of_mem_take hm')) hfo
        obtain ⟨G, eG⟩ : ∃ G, G = (ms.take k).foldl (reachStep a) fo := ⟨_, rfl⟩
        rw [← eG] at htk ⊢
        have hfold : (ms.take (k + 1)).foldl (reachStep a) fo = reachStep a G t := by rw [foldl_take _ _ ht, ← eG]
        have hpG : ((nums G).map D.int)[p]? = some (.int a) := by
          have hpre : fo <+: G := by rw [eG]; exact reach_pre _ _
          obtain ⟨r, er⟩ := hpre
          have : G[p]? = some a := by
            rw [← er, List.getElem?_append_left hq, ea]
            exact getD_at hq
          rw [nums, List.map_map, List.getElem?_map, this]
          rfl
        refine dss_cons (ds_if (b := decide ((t.1 : Int) = a) && !decide ((t.2.2 : Int) ∈ nums G)) (DW.t (dw_and (dt_eqI (by walk_at "db") (DE.b (de_ixL (i := (p : Int)) (xs := (nums G).map D.int) (atI_nat hpG) (by walk_at "db") (by walk_at "db")))) fun _ => dw_and1 (dt_niL (by walk_at "db") (by walk_at "db")))) (fun hc => ?_) fun hc => dss_nil (dss_nil ⟨.sh (.int t.1), .sh (.str (chr t.2.1)), .sh (.int t.2.2), ?_⟩))
        · rw [Bool.and_eq_true, nums_mem] at hc
          have c1 : t.1 = a := by have := of_decide_eq_true hc.1; omega
          have c2 : t.2.2 ∉ G := by simpa using hc.2
          refine dss_cons (ds_append (i := 2) (d := .int t.2.2) rfl rfl (by walk_at "vis") (by walk_at "de") (by simp [nums]; omega) (dss_nil (dss_nil ⟨.sh (.int t.1), .sh (.str (chr t.2.1)), .sh (.int t.2.2), ?_⟩)))
          rw [hfold, reachStep, if_pos ⟨c1, c2⟩, nums_snoc]
          rfl
        · rw [Bool.and_eq_false_iff, nums_mem] at hc
          have c : ¬ (t.1 = a ∧ t.2.2 ∉ G) := fun k => by
            rcases hc with hc | hc
            · exact of_decide_eq_false hc (by omega)
            · simp [k.2] at hc
          rw [hfold, reachStep, if_neg c]
          rfl
      · rintro ρ' z' ⟨x, y, z, rfl⟩
        rw [List.take_length]
        refine dss_cons (ds_augAdd (i := 3) (p := p) (q := 1) nd rfl (by walk_at "loc") rfl (by walk_at "de") (dss_nil ⟨⟨q, p + 1, ms.foldl (reachStep a) fo, x, y, z, rfl, ?_, hgr.1, by omega, by omega, by omega⟩, ?_⟩))
        · rw [← hre, reachAll, if_pos hq, ea]
        · show missing n (natsOf ((nums (ms.foldl (reachStep a) fo)).map D.int)) + (natsOf ((nums (ms.foldl (reachStep a) fo)).map D.int)).length - ((p : Int) + 1).toNat < missing n (natsOf ((nums fo).map D.int)) + (natsOf ((nums fo).map D.int)).length - (p : Int).toNat
          rw [natsOf_nums, natsOf_nums]
          omega
    · have hq : ¬ p < fo.length := by rw [hL] at hq; simpa using hq
      refine dss_fix (i := 2) rfl ?_
      refine dss_cons (ds_ret (by walk_at "de") ?_)
      have e : reachAll ms q fo p = fo := by
        cases q with
        | zero => rfl
        | succ q => rw [reachAll, if_neg hq]
      rw [← hre, e]
      rfl
theorem room100 {k : Nat} {A : Around} (r : Room k A) : A.units + 100 < cLine := by
  have := r.un
  omega
abbrev s77 : Stmt := top 77
theorem sc77 : FnScope ["moves", "ends", "back", "far", "letter", "near", "state"] ["moves", "ends"] (defScope s77) := ⟨rfl, rfl, rfl, by decide +kernel, rfl, by decide +kernel, by decide +kernel⟩
def usefulD (n : Nat) (ms : List (Nat × Nat × Nat)) (es : List Nat) : D :=
  .tup (((nums ((reachAll ms (n + 1) [0] 0).filter fun t => decide (t ∈ reachAll (ms.map fun m => (m.2.2, m.2.1, m.1)) (n + es.length) es 0))).map D.int).mergeSort leD)
def R77 (ds : List D) (d : D) : Prop := ∃ (n : Nat) (ms : List (Nat × Nat × Nat)) (es : List Nat), ds = [fmMoves ms, tupD (nums es)] ∧ d = usefulD n ms es ∧ (∀ m ∈ ms, m.1 < n ∧ m.2.2 < n) ∧ (∀ i ∈ es, i < n) ∧ 0 < n ∧ n ≤ 100 ∧ es.length ≤ 100 ∧ ms.length ≤ 100
theorem sort_ints {l : List Int} (h : l.length ≤ 1000) : SortOk (l.map D.int) where
  nf := fun d hd => by obtain ⟨i, _, rfl⟩ := List.mem_map.mp hd; rfl
  al := fun d hd d' hd' => by
    obtain ⟨i, _, rfl⟩ := List.mem_map.mp hd
    obtain ⟨j, _, rfl⟩ := List.mem_map.mp hd'
    simp only [toP, PySem.W.alike]
  kind := .inr fun d hd => by
    obtain ⟨i, _, rfl⟩ := List.mem_map.mp hd
    exact ⟨fun e => by simp [toP] at e, fun xs e => by simp [toP] at e⟩
  dp := fun d hd => by
    obtain ⟨i, _, rfl⟩ := List.mem_map.mp hd
    simp [toP, PyData.depth]
  len := by rw [List.length_map]; exact h
theorem reach_lt {n : Nat} {ms : List (Nat × Nat × Nat)} (hm : ∀ m ∈ ms, m.2.2 < n) : ∀ (q : Nat) (f : List Nat) (p : Nat), (∀ i ∈ f, i < n) → (∀ i ∈ reachAll ms q f p, i < n) ∧ missing n (reachAll ms q f p) + (reachAll ms q f p).length ≤ missing n f + f.length
  | 0, f, p, hf => ⟨hf, Nat.le_refl _⟩
  | q + 1, f, p, hf => by
    rw [reachAll]
    split
    · have h1 := fold_reach (a := f.getD p 0) ms f hm hf
      have h2 := reach_lt hm q _ (p + 1) h1.1
      exact ⟨h2.1, by omega⟩
    · exact ⟨hf, Nat.le_refl _⟩
theorem ok77 (T : Tx g K mg) (h : Def P w K mg base "useful_states" s77 ["moves", "ends"]) (c76 : Cal g P w K mg base "reached" 1 ["firsts", "moves"] R76) : Cal g P w K mg base "useful_states" 2 ["moves", "ends"] R77 := by
  refine cal_of h sc77 (fun ds d h => by obtain ⟨_, _, _, rfl, _⟩ := h; rfl) ?_
  rintro f cdv A outer s H E F0 H0 ds d hr ⟨n, ms, es, rfl, rfl, hm, he, h0, hn, hle, hlm⟩
  have nd := sc77.nd
  obtain ⟨back, eb⟩ : ∃ back, back = reachAll (ms.map fun m => (m.2.2, m.2.1, m.1)) (n + es.length) es 0 := ⟨_, rfl⟩
  obtain ⟨fw, ef⟩ : ∃ fw, fw = reachAll ms (n + 1) [0] 0 := ⟨_, rfl⟩
  have hfl := reach_lt (n := n) (fun m hm' => (hm m hm').2) (n + 1) [0] 0 (fun i hi => by rw [List.mem_singleton.mp hi]; exact h0)
  rw [← ef] at hfl
  have hml := missing_le n [0]
  have hlen : fw.length ≤ 200 := by have := hfl.2; simp only [List.length_singleton] at this; omega
  refine dss_cons (ds_set (d := intsD (nums back)) (i := 2) nd rfl (by walk_at "loc") (de_callC (ds := [sqD false ((nums es).map D.int), sqD true ((ms.map fun m => (m.2.2, m.2.1, m.1)).map mvD)]) c76 (by walk_at "room") (by rfl) (da_cons (by exact va 1) (da_cons ?_ da_nil)) ⟨false, true, n, es, _, rfl, by rw [eb], ?_, he, hn, hle⟩) ?_)
  · show DE g _ _ _ (.lst _)
    rw [List.map_map]
    refine DN.e (dn_map3 (ts := ms) (f1 := fun m => .int m.1) (f2 := fun m => .str (chr m.2.1)) (f3 := fun m => .int m.2.2) (y1 := "near") (y2 := "letter") (y3 := "far") (i := 5) (j := 4) (k := 3) rfl nd (di_tup (by exact va 0)) (blkOk_by (by rfl)) (fun s H C cl fp => by walk_at "pg") (fun s H C cl fp m hm' => ?_) (by omega))
    exact de_tup (da_cons (by exact va 3) (da_cons (by exact va 4) (da_cons (by exact va 5) da_nil))) (by simp)
  · intro m hm'
    obtain ⟨q, hq, rfl⟩ := List.mem_map.mp hm'
    exact (hm q hq).1
  refine dss_cons (ds_ret (d := usefulD n ms es) ?_ rfl)
  rw [usefulD, ← eb, ← ef]
  refine de_tupleL (by rfl) T.tuple (DE.b (DN.e (dn_sortedD (by rfl) T.sorted (by exact room100 hr) (sort_ints ?_) (DE.b (DN.e ?_)))))
  · rw [nums, List.length_map]
    have := List.length_filter_le (fun t => decide (t ∈ back)) fw
    omega
  · have e : (nums (fw.filter fun t => decide (t ∈ back))).map D.int = (fw.filter fun t => decide (t ∈ back)).map fun (i : Nat) => D.int i := by rw [nums, List.map_map]; rfl
    rw [e]
    refine dn_mapIf (ts := fw) (mk := fun (i : Nat) => D.int i) (j := 6) rfl nd (di_list ?_) (blkOk_by (by rfl)) (fun s H C cl fp => by walk_at "pg") (fun s H C cl fp t ht => ?_) (fun s H C cl fp t ht _ => by exact va 6) (by omega)
    · have e2 : (fw.map fun (i : Nat) => D.int i) = (nums fw).map D.int := by rw [nums, List.map_map]; rfl
      rw [e2]
      exact de_callC (ds := [sqD true ((nums [0]).map D.int), sqD false (ms.map mvD)]) c76 (by walk_at "room") (by rfl) (da_cons (by show DE _ _ _ _ (.lst [.int 0]); walk_at "de") (da_cons (by exact va 0) da_nil)) ⟨true, false, n, [0], ms, rfl, by rw [ef]; rfl, fun m hm' => (hm m hm').2, fun i hi => by rw [List.mem_singleton.mp hi]; exact h0, hn, by simp⟩
    · rw [← nums_mem]
      exact dt_inL (by walk_at "db") (DE.b (by exact va 2))
end
section
variable {g : Gx} {P : Program} {w : World} {K : PySem.W.Frag} {mg : Str → Option Value} {base : Heap}
/-! ### Columns -/
structure CLoc where
  C : Addr
  obj : Addr
  dx : Addr
  lst : Addr
def knD (k : Known) : D := .tup [.int k.1, intsD k.2.1, intsD k.2.2]
def colZ (g : Gx) (L : CLoc) (z : List Known × Nat) (F H : Hp) : Prop :=
  (∃ fs, H L.obj = some (.ins L.C L.dx fs) ∧ fs.length < 10 ∧ fs.lookup ("free" : Str) = some (.ref L.lst) ∧ fs.lookup ("many" : Str) = some (.int z.2) ∧ fs.lookup ("put" : Str) = none) ∧ ∃ vs, H L.lst = some (.lst vs) ∧ All g F (z.1.map knD) vs
abbrev colS (g : Gx) (L : CLoc) : Sy g where
  W := [L.obj, L.lst]
  ζ := List Known × Nat
  Z := colZ g L
  stab := fun z F H F' H' s e ⟨⟨fs, h1, h2⟩, vs, h3, h4⟩ => ⟨⟨fs, (e _ (by simp)).trans h1, h2⟩, vs, (e _ (by simp)).trans h3, All.mono s _ _ h4⟩
  trk := fun z F H ⟨⟨fs, h1, h2⟩, vs, h3, h4⟩ a ha => by
    rcases List.mem_cons.mp ha with rfl | ha
    · exact ⟨_, h1, fun ps e => by cases e⟩
    · rw [List.mem_singleton.mp ha]
      exact ⟨_, h3, fun ps e => by cases e⟩
/-- the class Columns as the text leaves it -/
structure ColK (K : PySem.W.Frag) (C : Addr) : Prop where
  cl : Cls K C
  nf : NoAttr K C "free"
  nm : NoAttr K C "many"
abbrev s5p : Stmt := mth 5 1
theorem sc5p : FnScope ["self", "numbers", "column", "parts", "place", "known", "known_parts", "lead", "top", "longer", "number", "other"] ["self", "numbers"] (defScope s5p) := ⟨rfl, rfl, rfl, by decide +kernel, rfl, by decide +kernel, by decide +kernel⟩
def putPre (L : CLoc) (C : Addr) (ds : List D) (z : List Known × Nat) : Prop := L.C = C ∧ ∃ ns, ds = [intsD ns] ∧ PutPre z.1 z.2 ns
def putPost (ds : List D) (z : List Known × Nat) (d : D) (z' : List Known × Nat) : Prop := ∃ ns, ds = [intsD ns] ∧
  match placeOf (reduce z.1 ns).1 with
  | none => d = intsD (reduce z.1 ns).2
  | some p => d = .non ∧ z' = (z.1 ++ [(p, reduce z.1 ns)], z.2 + 1)
theorem putF_old {f : Str} {v u : V} : ∀ {fs : List (Str × V)}, fs.lookup f = some u → (putF f v fs).length = fs.length
  | [], h => by simp at h
  | (k, x) :: r, h => by
    show (if k = f then (k, v) :: r else (k, x) :: putF f v r).length = _
    by_cases e : k = f
    · rw [if_pos e]; rfl
    · rw [if_neg e, List.length_cons, List.length_cons]
      have hb : (f == k) = false := beq_eq_false_iff_ne.mpr fun q => e q.symm
      have h' : List.lookup f r = some u := by
        rw [List.lookup_cons, hb] at h
        exact h
      rw [putF_old h']
section
variable {X : Cx} {F0 H0 : Hp} {L : CLoc} {z : List Known × Nat} {ρ : DL.Env} {Pd : DEnds (List Known × Nat)} {pos p1 p2 p3 p4 p5 p6 p7 p8 : Pos} {j1 j2 k1 : Nat}
/-- self.many -/
theorem ew_parts (kc : ColK X.K L.C) (h0 : ρ[0]? = some (.val (.ref L.obj))) (hN : X.N[0]? = some ("self" : Str)) (hv : Vis X.env.scope "self") (hm : z.2 ≤ 100)
    (hb : attributeBase (.Name "self" p3) "many" X.env (eval (.Name "self" p3) X.env) = eval (.Name "self" p3) X.env := by rfl)
    (h1 : starEach [.Constant (.int 0) j1 p1] X.env = (false, eval (.Constant (.int 0) j1 p1) X.env) :: starEach [] X.env := by rfl) (h2 : starEach [.Constant (.int 1) j2 p2] X.env = (false, eval (.Constant (.int 1) j2 p2) X.env) :: starEach [] X.env := by rfl) :
    EW (colS g L) F0 H0 X (.BinOp (.BinOp (.List [.Constant (.int 0) j1 p1] p5) .Mult (.Attribute (.Name "self" p3) "many" p4) p6) .Add (.List [.Constant (.int 1) j2 p2] p7) p8) ρ z (fun d z' => d = intsD (List.replicate z.2 0 ++ [1]) ∧ z' = z) := by
  refine PE.wk (pe_op op_cat (pe_op op_rep (dn_lst (g := g) (ρ := ρ) (ds := [.int 0]) (da_cons de_int da_nil h1) (by simp)) (pe_fld (pe_var hN hv) hb)) (dn_lst (g := g) (ρ := ρ) (ds := [.int 1]) (da_cons de_int da_nil h2) (by simp))) fun σ H Q ⟨F, r, q⟩ => ?_
  obtain ⟨o, hs, ho⟩ := r.e.at h0
  subst ho
  refine ⟨F, r.e, fun a1 v1 F1 H1 s1 hn1 f1 hh1 al1 => ?_⟩
  have r1 := r.step s1
  obtain ⟨⟨fs, e1, e2, e3, e4⟩, _⟩ := r1.r.zz
  refine ⟨.ref L.obj, hs, L.obj, L.C, L.dx, fs, .int z.2, rfl, e1, kc.cl, kc.nm, e4.1, ?_⟩
  have ev1 : v1 = [V.int 0] := by
    have := All.ints (ns := [0]) (by exact al1)
    exact this
  refine ⟨a1, z.2, v1, rfl, rfl, hh1, by omega, by omega, by rw [ev1]; exact Nat.le_of_lt (small1000 (by simp; omega)), fun a2 hn2 => ?_⟩
  have b1 := s1.base
  have st2 := Step.alloc0 (o := .lst (List.replicate (z.2 : Int).toNat v1).flatten) b1 hn2
  refine ⟨F1, (r1.step st2).e, fun a3 v3 F3 H3 s3 hn3 f3 hh3 al3 => ?_⟩
  have ev3 : v3 = [V.int 1] := by
    have := All.ints (ns := [1]) (by exact al3)
    exact this
  have hh2 : H3 a2 = some (.lst (List.replicate (z.2 : Int).toNat v1).flatten) := s3.ext a2 _ upd_same (fun ps e => by cases e)
  refine ⟨a2, a3, _, v3, rfl, rfl, hh2, hh3, by rw [ev1, ev3]; exact Nat.le_of_lt (small1000 (by simp; omega)), fun a4 hn4 => ?_⟩
  have st := (s1.trans st2).trans s3
  have st4 := Step.alloc (o := .lst ((List.replicate (z.2 : Int).toNat v1).flatten ++ v3)) s3.base hn4 (fun ps e => by cases e)
  refine q (intsD (List.replicate z.2 0 ++ [1])) z (.ref a4) _ _ ⟨rfl, rfl⟩ (r.step (st.trans st4)) (st.trans st4).sub ⟨a4, _, rfl, upd_same, ?_⟩
  have e5 : (List.replicate (z.2 : Int).toNat v1).flatten ++ v3 = (List.replicate z.2 0 ++ [1] : List Int).map V.int := by
    rw [ev1, ev3, rep_one]
    simp
  rw [e5]
  exact All.of_ints _
/-- self.many += 1 -/
theorem ds_many (kc : ColK X.K L.C) (h0 : ρ[0]? = some (.val (.ref L.obj))) (hN : X.N[0]? = some ("self" : Str)) (hv : Vis X.env.scope "self") (n : Pd.nx ρ (z.1, z.2 + 1)) :
    DS (colS g L) F0 H0 X (.AugAssign (.Attribute (.Name "self" p1) "many" p2) .Add (.Constant (.int 1) j1 p3) pos) ρ z Pd := by
  refine PS.wk (ps_fldaug (pe_var hN hv) (de_int (g := g) (ρ := ρ)) in_add) fun E σ H ⟨F, r, hn, _⟩ => ?_
  obtain ⟨o, hs, ho⟩ := r.e.at h0
  subst ho
  obtain ⟨⟨fs, e1, e2, e3, e4⟩, _⟩ := r.r.zz
  refine ⟨.ref L.obj, hs, L.obj, L.C, L.dx, fs, .int z.2, rfl, e1, kc.cl, kc.nm, e4.1, F, r.e, fun v F1 H1 s1 iv => ?_⟩
  have ev : v = .int 1 := iv
  subst ev
  have r1 := r.step s1
  obtain ⟨⟨fs1, g1, g2, g3, g4⟩, vs, g5, g6⟩ := r1.r.zz
  have hle : (putF "many" (.int ((z.2 : Int) + 1)) fs1).length < 10 := by
    have := putF_old (f := "many") (v := .int ((z.2 : Int) + 1)) g4.1
    rw [this]; exact g2
  have ne : L.lst ≠ L.obj := fun q => by rw [q, g1] at g5; cases g5
  refine ⟨z.2, 1, rfl, rfl, L.dx, fs1, g1, by omega, ?_⟩
  refine hn ρ (z.1, z.2 + 1) σ F1 _ n (r1.put (by simp) g1 (fun ps e => by cases e) (fun b q e => by cases e) ⟨⟨_, upd_same, hle, ?_, ?_, ?_⟩, vs, (upd_ne ne).trans g5, g6⟩) s1.sub
  · rw [lookup_putF, if_neg (by decide)]; exact g3
  · rw [lookup_putF, if_pos rfl]; rfl
  · rw [lookup_putF, if_neg (by decide)]; exact g4.2
/-- for .. in self.free -/
theorem pi_free {tg : Expr} (kc : ColK X.K L.C) (h0 : ρ[0]? = some (.val (.ref L.obj))) (hN : X.N[0]? = some ("self" : Str)) (hv : Vis X.env.scope "self")
    (hb : attributeBase (.Name "self" p1) "free" X.env (eval (.Name "self" p1) X.env) = eval (.Name "self" p1) X.env := by rfl) : PI X tg (.Attribute (.Name "self" p1) "free" p2) (tIW (colS g L) F0 H0 ρ z (z.1.map knD)) := by
  refine PI.wk (pi_list (pe_fld (pe_var hN hv) hb)) fun σ H R ⟨F, r, q⟩ => ?_
  obtain ⟨o, hs, ho⟩ := r.e.at h0
  subst ho
  obtain ⟨⟨fs, e1, e2, e3, e4⟩, vs, e5, e6⟩ := r.r.zz
  refine ⟨.ref L.obj, hs, L.obj, L.C, L.dx, fs, .ref L.lst, rfl, e1, kc.cl, kc.nf, e3, L.lst, rfl, ⟨vs, SqL.of e5⟩, q F H _ r (Sub.refl F) ?_⟩
  intro i F' H' b s zz
  obtain ⟨_, ws, k5, k6⟩ := zz
  have hq : SqL X.K H' L.lst ws := SqL.of k5
  refine ⟨fun d hd => ?_, fun hl => ⟨ws, hq, by rw [k6.len]; exact Nat.le_of_eq hl.symm⟩⟩
  obtain ⟨v, hv, iv⟩ := k6.get hd
  refine ⟨⟨ws, v, hq, hv⟩, fun x H2 hy => ?_⟩
  obtain ⟨e, f⟩ := hy
  have e2 := f ws hq
  rw [hv] at e2
  cases e2
  rw [e]
  exact ⟨F', Step.refl b, iv⟩
/-- self.free.append(e) -/
theorem ds_freeAdd {e : Expr} {k : Known} (kc : ColK X.K L.C) (h0 : ρ[0]? = some (.val (.ref L.obj))) (hN : X.N[0]? = some ("self" : Str)) (hv : Vis X.env.scope "self") (he : DE g X e ρ (knD k)) (hl : z.1.length < 100) (n : Pd.nx ρ (z.1 ++ [k], z.2))
    (hb : attributeBase (.Name "self" p1) "free" X.env (eval (.Name "self" p1) X.env) = eval (.Name "self" p1) X.env := by rfl)
    (hb2 : attributeBase (.Attribute (.Name "self" p1) "free" p2) "append" X.env (eval (.Attribute (.Name "self" p1) "free" p2) X.env) = eval (.Attribute (.Name "self" p1) "free" p2) X.env := by rfl)
    (h1 : starEach [e] X.env = (false, eval e X.env) :: starEach [] X.env := by rfl) (h2 : (p3.endLine == p4.line) = true := by rfl) (h3 : swapsWith (.Call (.Attribute (.Attribute (.Name "self" p1) "free" p2) "append" p3) [e] [] p4) none pos.line X.env = pure false := by rfl)
    (h4 : (((backTo p4 (starEach [e] X.env)).all fun x => !x.fst) && (backToKw p4 (keywordEach [] X.env)).all (fun x => x.fst.isSome) && decide (([e].length + ([] : List Keyword).length + if ([] : List Keyword).isEmpty = true then 0 else 1) < 30)) = true := by rfl)
    (h5 : ((backTo p4 (starEach [] X.env)).any fun x => x.fst) = false := by rfl) : DS (colS g L) F0 H0 X (.Expr (.Call (.Attribute (.Attribute (.Name "self" p1) "free" p2) "append" p3) [e] [] p4) pos) ρ z Pd := by
  refine PS.wk (ps_expr (pe_bm PySem.F.plainAttrs_list PySem.F.slot_list_append PySem.F.type_list_append mt_append (pe_fld (pe_var hN hv) hb) (pa_cons he pa_nil h1) hb2 h4 h2 h1 h5) h3) fun E σ H ⟨F, r, hn, _⟩ => ?_
  obtain ⟨o, hs, ho⟩ := r.e.at h0
  subst ho
  obtain ⟨⟨fs, e1, e2, e3, e4⟩, vs, e5, e6⟩ := r.r.zz
  refine ⟨.ref L.obj, hs, L.obj, L.C, L.dx, fs, .ref L.lst, rfl, e1, kc.cl, kc.nf, e3, .inl ⟨rfl, vs, SqL.of e5⟩, F, r.e, fun v F1 H1 s1 iv => ?_⟩
  have r1 := r.step s1
  obtain ⟨⟨fs1, g1, g2, g3, g4⟩, ws, g5, g6⟩ := r1.r.zz
  have ne : L.obj ≠ L.lst := fun q => by rw [q, g5] at g1; cases g1
  refine ⟨L.lst, ws, v, rfl, rfl, g5, small1000 (by rw [g6.len, List.length_map]; omega), ?_⟩
  refine hn ρ (z.1 ++ [k], z.2) σ F1 _ n (r1.put (by simp) g5 (fun ps e => by cases e) (fun b q e => by cases e) ⟨⟨fs1, (upd_ne ne).trans g1, g2, g3, g4⟩, _, upd_same, ?_⟩) s1.sub
  rw [List.map_append]
  exact g6.app (.cons iv .nil)
end
end
section
variable {g : Gx} {P : Program} {w : World} {K : PySem.W.Frag} {mg : Str → Option Value} {base : Heap}
theorem light_len (cs ps : List Int) : (light cs ps).1.length = cs.length ∧ (light cs ps).2.length = ps.length := by
  rw [light]
  split <;> simp
theorem comb_len {top lead : Int} {xs ys : List Int} (h : xs.length = ys.length) : (comb top lead xs ys).length = xs.length := by
  rw [comb, List.length_map, List.length_zip]
  omega
theorem putOne_len {st : List Int × List Int} {k : Known} (h1 : k.2.1.length = st.1.length) (h2 : k.2.2.length ≤ st.2.length) : (putOne st k).1.length = st.1.length ∧ (putOne st k).2.length = st.2.length := by
  rw [putOne]
  split
  · exact ⟨rfl, rfl⟩
  · have e1 := light_len (comb (k.2.1.getD k.1 0) (st.1.getD k.1 0) st.1 k.2.1) (comb (k.2.1.getD k.1 0) (st.1.getD k.1 0) st.2 (k.2.2 ++ List.replicate (st.2.length - k.2.2.length) 0))
    rw [comb_len h1.symm] at e1
    rw [comb_len (by rw [List.length_append, List.length_replicate]; omega)] at e1
    exact e1
theorem fold_len : ∀ (free : List Known) (st : List Int × List Int), (∀ k ∈ free, k.2.1.length = st.1.length ∧ k.2.2.length ≤ st.2.length) → (free.foldl putOne st).1.length = st.1.length ∧ (free.foldl putOne st).2.length = st.2.length
  | [], st, _ => ⟨rfl, rfl⟩
  | k :: free, st, h => by
    have h1 := putOne_len (h k List.mem_cons_self).1 (h k List.mem_cons_self).2
    have h2 := fold_len free (putOne st k) fun q hq => by rw [h1.1, h1.2]; exact h q (List.mem_cons_of_mem _ hq)
    rw [List.foldl_cons]
    exact ⟨h2.1.trans h1.1, h2.2.trans h1.2⟩
theorem PutPre.lens {free : List Known} {many : Nat} {ns : List Int} (h : PutPre free many ns) (k : Nat) : (stAt free ns k).1.length = ns.length ∧ (stAt free ns k).2.length = free.length + 1 := by
  have := fold_len (free.take k) (ns, List.replicate free.length 0 ++ [1]) fun q hq => by
    have := h.kl q (List.mem_of_mem_take hq)
    exact ⟨this.2.1, by simp; omega⟩
  simpa [stAt] using this
theorem sml_mul {a b : Int} (ha : a.natAbs < 2 ^ 3999) (hb : b.natAbs < 2 ^ 3999) : CMulW a b := by
  have h1 := log2_lt ha (by decide)
  have h2 := log2_lt hb (by decide)
  show a.natAbs.log2 + b.natAbs.log2 < 1000000
  omega
theorem sml_comb {top lead : Int} {xs ys : List Int} (h1 : top.natAbs < 2 ^ 3999) (h2 : lead.natAbs < 2 ^ 3999) (hx : Sml xs) (hy : Sml ys) : ∀ x ∈ comb top lead xs ys, x.natAbs < 2 ^ 8000 := by
  intro x hx'
  obtain ⟨q, hq, rfl⟩ := List.mem_map.mp hx'
  have m1 := hx _ (List.of_mem_zip hq).1
  have m2 := hy _ (List.of_mem_zip hq).2
  have a1 : (q.1 * top).natAbs < 2 ^ 7998 := by
    rw [Int.natAbs_mul]
    calc q.1.natAbs * top.natAbs < 2 ^ 3999 * 2 ^ 3999 := Nat.mul_lt_mul'' m1 h1
      _ = 2 ^ 7998 := by rw [← Nat.pow_add]
  have a2 : (lead * q.2).natAbs < 2 ^ 7998 := by
    rw [Int.natAbs_mul]
    calc lead.natAbs * q.2.natAbs < 2 ^ 3999 * 2 ^ 3999 := Nat.mul_lt_mul'' h2 m2
      _ = 2 ^ 7998 := by rw [← Nat.pow_add]
  have a3 : (2 : Nat) ^ 7998 + 2 ^ 7998 = 2 ^ 7999 := by rw [← Nat.two_mul, ← Nat.pow_succ']
  have a4 : (2 : Nat) ^ 7999 < 2 ^ 8000 := Nat.pow_lt_pow_right (by decide) (by decide)
  generalize (2 : Nat) ^ 7998 = B at *
  generalize (2 : Nat) ^ 7999 = B2 at *
  generalize (2 : Nat) ^ 8000 = B3 at *
  omega
theorem zipD (xs ys : List Int) : ((xs.map D.int).zip (ys.map D.int)).map (fun q => D.tup [q.1, q.2]) = (xs.zip ys).map fun t => D.tup [.int t.1, .int t.2] := by
  rw [List.zip_map, List.map_map]
  rfl
theorem ok5p {C : Addr} {f : Addr} {fd : FuncData} (T : Tx g K mg) (kc : ColK K C) (Fn : Fun K "put" "Columns.put" s5p f fd) (c3 : Cal g P w K mg base "lightened" 2 ["column", "parts"] Rlt) (c4 : Cal g P w K mg base "place_of" 1 ["column"] Rpl) :
    FnOk P w K mg base CX0 4 f fd ["self", "numbers"] (spF (colS g) (fun L => .ref L.obj) (fun L ds z => putPre L C ds z) (fun L ds z d z' => putPost ds z d z')) := by
  refine fnF Fn sc5p (fun L ds z h => by obtain ⟨_, ns, rfl, _⟩ := h; rfl) (by decide) ?_
  rintro cdv A outer s H E L F0 H0 ⟨free, many⟩ ds hr ⟨hC, ns, rfl, hp⟩
  have kc' : ColK K L.C := hC ▸ kc
  have hp : PutPre free many ns := hp
  have nd := sc5p.nd
  have hcnt : many = free.length := hp.cnt
  have hfew : free.length ≤ 10 := hp.few
  have hlen := hp.len
  refine dss_cons (ds_parW (p1 := fun d z' => d = intsD ns ∧ z' = (free, many)) (p2 := fun _ _ d z' => d = intsD (List.replicate many 0 ++ [1]) ∧ z' = (free, many)) (i := 2) (j := 3) rfl nd rfl rfl (by decide) rfl rfl (ew_of (DN.e (by walk_at "dn")) ⟨rfl, rfl⟩) ?_ rfl ?_)
  · rintro d z' ⟨rfl, rfl⟩
    exact ew_parts kc' rfl rfl (by walk_at "vis") (by show many ≤ 100; omega)
  rintro d z1 d2 z2 ⟨rfl, rfl⟩ ⟨rfl, rfl⟩
  refine dss_cons (ds_many kc' rfl rfl (by walk_at "vis") ?_)
  refine dss_cons (ds_forW (ts := free) (mk := knD) (fun k => [(4, .int k.1), (5, intsD k.2.1), (6, intsD k.2.2)]) PassesOwn.never rfl (pi_free kc' rfl rfl (by walk_at "vis")) (by walk_at "pg") (fun k _ => tgt_tup3 4 5 6 _ _ _)
    (fun k ρ => ∃ x4 x5 x6 x7 x8 x9, ρ = [.val (.ref L.obj), .sh (intsD ns), .sh (intsD (stAt free ns k).1), .sh (intsD (stAt free ns k).2), x4, x5, x6, x7, x8, x9, .un, .un]) ⟨.un, .un, .un, .un, .un, .un, ?_⟩ ?_ ?_)
  · rw [hcnt]
    rfl
  · rintro k kn ρ' hk ⟨x4, x5, x6, x7, x8, x9, rfl⟩
    have hmem := List.mem_of_getElem? hk
    have hkl := hp.kl kn hmem
    have hsk := hp.sk kn hmem
    have hk1 : k < free.length := (List.getElem?_eq_some_iff.mp hk).1
    have hst := hp.st k (by omega)
    have hls := hp.lens k
    have hnext : stAt free ns (k + 1) = putOne (stAt free ns k) kn := by rw [stAt, foldl_take _ _ hk]; rfl
    obtain ⟨st, est⟩ : ∃ st, st = stAt free ns k := ⟨_, rfl⟩
    rw [← est] at hst hls hnext ⊢
    have hld : (st.1.getD kn.1 0).natAbs < 2 ^ 3999 := hst.1 _ (getD_mem (by omega))
    have htp : (kn.2.1.getD kn.1 0).natAbs < 2 ^ 3999 := hsk.1 _ (getD_mem (by omega))
    refine dss_cons (ds_set (d := .int (st.1.getD kn.1 0)) (i := 7) nd rfl (by walk_at "loc") (de_ixL (i := (kn.1 : Int)) (xs := st.1.map D.int) (atI_nat (by rw [List.getElem?_map, getD_at (d := 0) (by omega)]; rfl)) (by walk_at "db") (by walk_at "db")) ?_)
    refine dss_cons (ds_if (b := !decide (st.1.getD kn.1 0 = 0)) (by walk_at "dt") (fun hq => ?_) fun hq => dss_nil (dss_nil ⟨⟨.sh (.int kn.1), .sh (intsD kn.2.1), .sh (intsD kn.2.2), .sh (.int (st.1.getD kn.1 0)), x8, x9, ?_⟩, rfl⟩))
    · have hq : st.1.getD kn.1 0 ≠ 0 := by simpa using hq
      refine dss_cons (ds_set (d := .int (kn.2.1.getD kn.1 0)) (i := 8) nd rfl (by walk_at "loc") (de_ixL (i := (kn.1 : Int)) (xs := kn.2.1.map D.int) (atI_nat (by rw [List.getElem?_map, getD_at (d := 0) (by omega)]; rfl)) (by walk_at "db") (by walk_at "db")) ?_)
      obtain ⟨lead, el⟩ : ∃ l, l = st.1.getD kn.1 0 := ⟨_, rfl⟩
      obtain ⟨top, et⟩ : ∃ t, t = kn.2.1.getD kn.1 0 := ⟨_, rfl⟩
      rw [← el] at hld hq ⊢
      rw [← et] at htp ⊢
      refine dss_cons (ds_lc (own := [("number", 10), ("other", 11)]) (ts := st.1.zip kn.2.1) (mk := fun t => .tup [.int t.1, .int t.2]) (e := fun t => .int (t.1 * top - lead * t.2)) (i := 2) rfl nd rfl rfl rfl (by rw [← zipD]; exact di_w (l := true) (m := true) (by rfl) T.zip (by simp; omega) (by show DE _ _ _ _ (.lst _); exact va 2) (by show DE _ _ _ _ (.lst _); exact va 5)) (blkOk_by (by rfl))
        (Lc.pair0 (fun s H C cl fp => by walk_at "pg") (fun s H C cl fp t ht => ?_) (by rw [List.length_zip]; omega)) ?_)
      · have m1 := hst.1 _ (List.of_mem_zip ht).1
        have m2 := hsk.1 _ (List.of_mem_zip ht).2
        exact de_sub (DE.b (de_mulW (sml_mul m1 htp) (by walk_at "db") (by walk_at "db"))) (DE.b (de_mulW (sml_mul hld m2) (by walk_at "db") (by walk_at "db")))
      rw [filter_yes]
      refine dss_fix (i := 2) rfl ?_
      have ec : (st.1.zip kn.2.1).map (fun t => D.int (t.1 * top - lead * t.2)) = (comb top lead st.1 kn.2.1).map D.int := by rw [comb, List.map_map]; rfl
      rw [ec]
      obtain ⟨lg, elg⟩ : ∃ lg, lg = kn.2.2 ++ List.replicate (st.2.length - kn.2.2.length) (0 : Int) := ⟨_, rfl⟩
      have hlg : lg.length = st.2.length := by rw [elg, List.length_append, List.length_replicate]; omega
      have hslg : Sml lg := by
        intro x hx
        rw [elg] at hx
        rcases List.mem_append.mp hx with hx | hx
        · exact hsk.2 x hx
        · rw [List.eq_of_mem_replicate hx]; exact Nat.pow_pos (n := 3999) (show 0 < 2 by decide)
      refine dss_cons (ds_set (d := intsD lg) (i := 9) nd rfl (by walk_at "loc") ?_ ?_)
      · have e6 : intsD (kn.2.2 ++ List.replicate (st.2.length - kn.2.2.length) (0 : Int)) = .lst (kn.2.2.map D.int ++ (List.replicate (st.2.length - kn.2.2.length) [D.int 0]).flatten) := by rw [intsD, List.map_append, map_rep, ← rep_one]
        rw [elg, e6]
        refine DN.e (dn_cat (by rw [rep_one]; simp; omega) (by walk_at "db") (DE.b (DN.e ?_)))
        rw [show st.2.length - kn.2.2.length = (((st.2.map D.int).length : Int) - ((kn.2.2.map D.int).length : Int)).toNat by rw [List.length_map, List.length_map]; omega]
        exact dn_rep (xs := [.int 0]) (by rw [List.length_map, List.length_map]; omega) (by rw [List.length_map, List.length_map]; omega) (by simp; omega) (DE.b (DN.e (by walk_at "dn"))) (by walk_at "db")
      refine dss_cons (ds_lc (own := [("number", 10), ("other", 11)]) (ts := st.2.zip lg) (mk := fun t => .tup [.int t.1, .int t.2]) (e := fun t => .int (t.1 * top - lead * t.2)) (i := 3) rfl nd rfl rfl rfl (by rw [← zipD]; exact di_w (l := true) (m := true) (by rfl) T.zip (by simp; omega) (by show DE _ _ _ _ (.lst _); exact va 3) (by show DE _ _ _ _ (.lst _); exact va 9)) (blkOk_by (by rfl))
        (Lc.pair0 (fun s H C cl fp => by walk_at "pg") (fun s H C cl fp t ht => ?_) (by rw [List.length_zip]; omega)) ?_)
      · have m1 := hst.2 _ (List.of_mem_zip ht).1
        have m2 := hslg _ (List.of_mem_zip ht).2
        exact de_sub (DE.b (de_mulW (sml_mul m1 htp) (by walk_at "db") (by walk_at "db"))) (DE.b (de_mulW (sml_mul hld m2) (by walk_at "db") (by walk_at "db")))
      rw [filter_yes]
      refine dss_fix (i := 3) rfl ?_
      have ec2 : (st.2.zip lg).map (fun t => D.int (t.1 * top - lead * t.2)) = (comb top lead st.2 lg).map D.int := by rw [comb, List.map_map]; rfl
      rw [ec2]
      refine dss_cons (ds_asg (d := .tup [intsD (light (comb top lead st.1 kn.2.1) (comb top lead st.2 lg)).1, intsD (light (comb top lead st.1 kn.2.1) (comb top lead st.2 lg)).2]) (de_callC (ds := [intsD (comb top lead st.1 kn.2.1), intsD (comb top lead st.2 lg)]) c3 (by walk_at "room") (by rfl) (by walk_at "da") ⟨_, _, rfl, rfl, ?_, ?_⟩) (by walk_at "pg") (tgt_tup2 2 3 _ _) (dss_nil (dss_nil ⟨⟨.sh (.int kn.1), .sh (intsD kn.2.1), .sh (intsD kn.2.2), .sh (.int lead), .sh (.int top), .sh (intsD lg), ?_⟩, rfl⟩)))
      · rw [comb_len (by omega), comb_len (by omega)]; omega
      · intro x hx
        rcases List.mem_append.mp hx with hx | hx
        · exact sml_comb htp hld hst.1 hsk.1 x hx
        · exact sml_comb htp hld hst.2 hslg x hx
      · rw [hnext, putOne, ← el, if_neg hq, ← et, ← elg]
        rfl
    · have hq : st.1.getD kn.1 0 = 0 := by simpa using hq
      rw [hnext, putOne, if_pos hq]
      rfl
  · rintro ρ' ⟨x4, x5, x6, x7, x8, x9, rfl⟩
    have hfin : stAt free ns free.length = reduce free ns := by rw [stAt, List.take_length]; rfl
    rw [hfin]
    obtain ⟨st, est⟩ : ∃ st, st = reduce free ns := ⟨_, rfl⟩
    rw [← est]
    refine dss_cons (ds_set (d := optD (placeOf st.1)) (i := 4) nd rfl (by walk_at "loc") (de_callC (ds := [intsD st.1]) c4 (by walk_at "room") (by rfl) (by walk_at "da") ⟨_, rfl, rfl⟩) ?_)
    refine dss_cons (ds_if (b := isNon (optD (placeOf st.1))) (dt_isN (by walk_at "db")) (fun hq => ?_) fun hq => dss_nil ?_)
    · rw [isNon_opt] at hq
      refine dss_cons (ds_ret (d := intsD st.2) (by walk_at "de") ⟨ns, rfl, ?_⟩)
      show (match placeOf (reduce free ns).1 with | none => _ | some p => _)
      rw [← est, Option.isNone_iff_eq_none.mp hq]
    · rw [isNon_opt] at hq
      obtain ⟨p, ep⟩ : ∃ p, placeOf st.1 = some p := by
        cases q : placeOf st.1 with
        | none => rw [q] at hq; cases hq
        | some i => exact ⟨i, rfl⟩
      rw [ep]
      refine dss_cons (ds_freeAdd (k := (p, st)) kc' rfl rfl (by walk_at "vis") (de_tup (da_cons (by exact va 4) (da_cons (by exact va 2) (da_cons (by exact va 3) da_nil))) (by simp)) (by show free.length < 100; omega) ?_)
      refine dss_cons (ds_ret (d := .non) (by walk_at "de") ⟨ns, rfl, ?_⟩)
      show (match placeOf (reduce free ns).1 with | none => _ | some p => _)
      rw [← est, ep]
      exact ⟨rfl, rfl⟩
end
section
variable {g : Gx} {P : Program} {w : World} {K : PySem.W.Frag} {mg : Str → Option Value} {base : Heap}
/-! ### least_of_terms -/
/-- Columns.__init__ -/
def spCI (C : Addr) : Sp := fun vs H Q _ => ∃ obj dx, vs = [.ref obj] ∧ H obj = some (.ins C dx []) ∧ ∀ lst, H lst = none → Q .non (upd (upd (upd H lst (.lst [])) obj (.ins C dx [("free", .ref lst)])) obj (.ins C dx [("free", .ref lst), ("many", .int 0)]))
abbrev s5i : Stmt := mth 5 0
theorem sc5i : FnScope ["self"] ["self"] (defScope s5i) := ⟨rfl, rfl, rfl, by decide +kernel, rfl, by decide +kernel, by decide +kernel⟩
theorem ok5i {C f : Addr} {fd : FuncData} (kc : ColK K C) (Fn : Fun K "__init__" "Columns.__init__" s5i f fd) : FnOk P w K mg base CX0 1 f fd ["self"] (spCI C) := by
  refine Fn.ok sc5i (fun vs H Q E h => ?_) fun cdv A outer s H vs Q E hr h => ?_
  · obtain ⟨obj, dx, rfl, _⟩ := h
    rfl
  · obtain ⟨obj, dx, rfl, ho, q⟩ := h
    refine ⟨_, pss_cons (ps_fld (f := "free") (pe_var (i := 0) rfl (by walk_at "vis")) (pe_lst pa_nil) (by rfl)) (pss_cons (ps_fld (f := "many") (pe_var (i := 0) rfl (by walk_at "vis")) pe_int (by rfl)) pss_nil), ?_⟩
    refine ⟨by rw [sizeLine_eq]; decide, fun lst hl => ?_⟩
    have ne : obj ≠ lst := fun e => by rw [e, hl] at ho; cases ho
    refine ⟨.ref obj, rfl, obj, C, dx, [], rfl, (upd_ne ne).trans ho, kc.cl, kc.nf, by decide, ?_⟩
    refine ⟨.ref obj, rfl, obj, C, dx, _, rfl, upd_same, kc.cl, kc.nm, by simp [putF], ?_⟩
    exact q lst hl
theorem cut_col (a : Nat → Int) {m k : Nat} (h : k ≤ m) : DL.cutD ((seqUp a (2 * m)).map D.int) (some (k : Int)) (some ((k : Int) + (m : Int))) = (colAt a m k).map D.int := by
  unfold DL.cutD
  have hl : ((seqUp a (2 * m)).map D.int).length = 2 * m := by rw [List.length_map, seqUp_len]
  have h0 : HT.sIx (2 * m) 0 (some (k : Int)) = k := by
    show (if (k : Int) < 0 then ((k : Int) + ((2 * m : Nat) : Int)).toNat else min (k : Int).toNat (2 * m)) = k
    rw [if_neg (by omega)]
    omega
  have h1 : HT.sIx (2 * m) (2 * m) (some ((k : Int) + (m : Int))) = k + m := by
    show (if (k : Int) + (m : Int) < 0 then ((k : Int) + (m : Int) + ((2 * m : Nat) : Int)).toNat else min ((k : Int) + (m : Int)).toNat (2 * m)) = k + m
    rw [if_neg (by omega)]
    omega
  rw [hl, h0, h1]
  apply List.ext_getElem?
  intro i
  by_cases hi : i < m
  · rw [List.getElem?_take_of_lt (by omega), List.getElem?_drop, List.getElem?_map, seqUp_at (by omega), List.getElem?_map, colAt, List.getElem?_map, List.getElem?_range hi]
    rfl
  · rw [List.getElem?_eq_none (by rw [List.length_take, List.length_drop, hl]; omega), List.getElem?_eq_none (by rw [List.length_map, colAt, List.length_map, List.length_range]; omega)]
theorem step_grow {g : Gx} {F H H' : Hp} (b : Base g F H) (e : ∀ a o, H a = some o → H' a = some o) : Step g F H F H' :=
  ⟨Sub.refl F, ⟨fun a o h => e a o (b.sub a o h), b.noT, b.tabs.ext e⟩, fun a o h _ => e a o h, fun a h => (by
    cases q : H a with
    | none => rfl
    | some o => rw [e a o q] at h; cases h), fun a o h => .inl h⟩
abbrev s6 : Stmt := top 6
theorem sc6 : FnScope ["terms", "most", "columns", "parts", "size", "factors", "number"] ["terms", "most"] (defScope s6) := ⟨rfl, rfl, rfl, by decide +kernel, rfl, by decide +kernel, by decide +kernel⟩
/-- the class as its callers know it -/
def ColC (g : Gx) (P : Program) (w : World) (K : PySem.W.Frag) (mg : Str → Option Value) (base : Heap) (C : Addr) : Prop :=
  ColK K C ∧ mg "Columns" = some (.ref C) ∧ (∃ f fd, Mk K C f ∧ FnOk P w K mg base CX0 1 f fd ["self"] (spCI C) ∧ L2.Binds K fd ["self"] []) ∧
    ∃ f fd, Meth K C "put" f ∧ FnOk P w K mg base CX0 4 f fd ["self", "numbers"] (spF (colS g) (fun L => .ref L.obj) (fun L ds z => putPre L C ds z) (fun L ds z d z' => putPost ds z d z')) ∧ L2.Binds K fd ["self", "numbers"] []
section
variable {X : Cx} {F0 H0 : Hp} {L : CLoc} {z : List Known × Nat} {ρ : DL.Env} {pos p1 p2 : Pos} {C : Addr} {e : Expr} {ns : List Int} {i : Nat} {x : Str}
theorem ew_put (cc : ColC g X.prog X.w X.K X.mg X.base C) (hC : L.C = C) (hr : Room 4 X.A) (h0 : ρ[i]? = some (.val (.ref L.obj))) (hN : X.N[i]? = some x) (hv : Vis X.env.scope x) (he : DE g X e ρ (intsD ns)) (hp : PutPre z.1 z.2 ns) (hd : (x == ("__debug__" : Str)) = false := by decide) (hcd : (x == ("__classdict__" : Str)) = false := by decide)
    (hst : starEach (e :: []) X.env = (false, eval e X.env) :: starEach [] X.env := by rfl) (hpl : (backTo pos (starEach [] X.env)).any (·.1) = false := by rfl) {pl : Sem Bool}
    (ht : eval (.Call (.Attribute (.Name x p1) "put" p2) (e :: []) [] pos) X.env = (do
      let ov ← eval (.Name x p1) X.env
      standAt p2.atName
      let (f, first) ← holding [ov] (getMethod ov "put" pl)
      callWith pos f first (backTo pos (starEach (e :: []) X.env)) (backToKw pos (keywordEach [] X.env))) := by rfl) : EW (colS g L) F0 H0 X (.Call (.Attribute (.Name x p1) "put" p2) [e] [] pos) ρ z (fun d z' => putPost [intsD ns] z d z') := by
  obtain ⟨kc, _, _, f, fd, hm, Fn, hb⟩ := cc
  refine PE.wk (pe_meth (pl := pl) (pe_var hN hv hd hcd) kc.cl hm Fn hr hb .nil pass0 (pa_cons he pa_nil hst) hst hpl ht) fun σ H Q ⟨F, r, q⟩ => ?_
  obtain ⟨o, hs, ho⟩ := r.e.at h0
  subst ho
  obtain ⟨⟨fs, e1, e2, e3, e4, e5⟩, _⟩ := r.r.zz
  refine ⟨.ref L.obj, hs, L.obj, L.dx, fs, rfl, hC ▸ e1, e5, F, r.e, fun v F1 H1 s1 iv => ?_⟩
  have r1 := r.step s1
  exact ⟨L, F1, z, [intsD ns], [v], r1.e.base, rfl, .cons iv .nil, r1.r.wF, r1.r.zz, ⟨hC, ns, rfl, hp⟩, fun d z' v' F' H' post t iv' => q d z' v' F' H' post (r1.ret t) (s1.sub.trans t.sub0) iv'⟩
end
theorem ok6 {C : Addr} (T : Tx g K mg) (h : Def P w K mg base "least_of_terms" s6 ["terms", "most"]) (cc : ColC g P w K mg base C) (hE : ∀ a m r, Least r a → Ann a m → m ≤ 6 → (∀ i, i < 12 → (a i).natAbs < 2 ^ 60) → ElimOk a m r) : Cal g P w K mg base "least_of_terms" 5 ["terms", "most"] R6 := by
  refine cal_of h sc6 (fun ds d h => by obtain ⟨_, _, _, rfl, _⟩ := h; rfl) ?_
  rintro f cdv A outer s H E F0 H0 ds d hr ⟨a, m, r, rfl, rfl, hL, hA, hm, hb⟩
  have eo := hE a m r hL hA hm hb
  have nd := sc6.nd
  have cc0 := cc
  obtain ⟨kc, hmg, ⟨fi, fdi, hmk, Fi, hbi⟩, _⟩ := cc0
  obtain ⟨r0, er0⟩ : ∃ r0, r0 = r.2.length := ⟨_, rfl⟩
  have hle := eo.le
  rw [← er0] at hle
  -- what stands behind the first statement
  have hrest : ∀ (L : CLoc) (F1 H1 : Hp), L.C = C → DSs (colS g L) F1 H1 (bodyX P w K mg base ["terms", "most", "columns", "parts", "size", "factors", "number"] "least_of_terms" (defScope s6) f cdv A outer s H E) ((defBody s6).drop 1)
      [.sh (intsD (seqUp a (2 * m))), .sh (.int m), .val (.ref L.obj), .sh .non, .sh (.int (-1)), .un, .un] ([], 0) ⟨fun _ _ => False, fun d' _ => d' = rl r, fun _ _ => False, fun _ _ => False⟩ := by
    intro L F1 H1 hC
    refine dss_cons (ds_while PassesOwn.never (fun ρ z => (∃ k, k ≤ r0 ∧ ρ = [.sh (intsD (seqUp a (2 * m))), .sh (.int m), .val (.ref L.obj), .sh .non, .sh (.int ((k : Int) - 1)), .un, .un] ∧ z = (frees a m k, k)) ∨
        ρ = [.sh (intsD (seqUp a (2 * m))), .sh (.int m), .val (.ref L.obj), .sh (intsD (reduce (frees a m r0) (colAt a m r0)).2), .sh (.int r0), .un, .un])
      (fun ρ _ => match ρ with | [_, _, _, .sh .non, .sh (.int k), _, _] => r0 + 5 - (k + 1).toNat | _ => 0) (.inl ⟨0, Nat.zero_le _, rfl, rfl⟩) ?_)
    rintro ρ' z' (⟨k, hk, rfl, rfl⟩ | rfl)
    · refine ⟨true, (dt_isN (by walk_at "db") : DT g _ _ _ (DL.isNon .non)), fun _ => ?_, fun e => by cases e⟩
      refine dss_cons (ds_augAdd (i := 4) (p := (k : Int) - 1) (q := 1) nd rfl (by walk_at "loc") rfl (by walk_at "de") ?_)
      have ek : (k : Int) - 1 + 1 = k := by omega
      rw [ek]
      have pre := eo.pre k (by omega)
      refine dss_cons (ds_setE (post := fun d z' => putPost [intsD (colAt a m k)] (frees a m k, k) d z') (i := 3) nd rfl (by walk_at "loc") (ew_put (i := 2) cc hC (hr.mono (by decide)) rfl rfl (by walk_at "vis") ?_ pre) ?_)
      · have e9 : intsD (colAt a m k) = .lst (DL.cutD ((seqUp a (2 * m)).map D.int) (some (k : Int)) (some ((k : Int) + (m : Int)))) := by rw [intsD, ← cut_col a (show k ≤ m by omega)]
        rw [e9]
        exact DN.e (dn_slL (by walk_at "db") (do_some (by walk_at "db")) (do_some (DE.b (de_add (by walk_at "db") (by walk_at "db")))))
      · rintro d z2 ⟨ns, ens, hq⟩
        have ens : colAt a m k = ns := by
          have : (colAt a m k).map D.int = ns.map D.int := by
            have := List.cons.inj ens
            exact D.lst.inj this.1
          exact (List.map_inj_right (fun x y e => D.int.inj e)).mp this
        subst ens
        refine dss_nil ?_
        by_cases hlt : k < r0
        · obtain ⟨p, ep⟩ := eo.up k (by omega)
          have hq : match placeOf (reduce (frees a m k) (colAt a m k)).1 with
            | none => d = intsD (reduce (frees a m k) (colAt a m k)).2
            | some p => d = .non ∧ z2 = (frees a m k ++ [(p, reduce (frees a m k) (colAt a m k))], k + 1) := hq
          rw [ep] at hq
          obtain ⟨rfl, rfl⟩ := hq
          refine ⟨.inl ⟨k + 1, by omega, ?_, ?_⟩, ?_⟩
          · rw [show ((k + 1 : Nat) : Int) - 1 = k by omega]
            rfl
          · rw [frees, ep]
            rfl
          · show r0 + 5 - ((k : Int) + 1).toNat < r0 + 5 - ((k : Int) - 1 + 1).toNat
            omega
        · have ekr : k = r0 := by omega
          subst ekr
          have el := eo.last
          rw [← er0] at el
          have hq : match placeOf (reduce (frees a m k) (colAt a m k)).1 with
            | none => d = intsD (reduce (frees a m k) (colAt a m k)).2
            | some p => d = .non ∧ z2 = (frees a m k ++ [(p, reduce (frees a m k) (colAt a m k))], k + 1) := hq
          rw [el] at hq
          subst hq
          refine ⟨.inr rfl, ?_⟩
          show 0 < k + 5 - ((k : Int) - 1 + 1).toNat
          omega
    · refine ⟨false, (dt_isN (by walk_at "db") : DT g _ _ _ (DL.isNon (intsD (reduce (frees a m r0) (colAt a m r0)).2))), fun e => (by cases e), fun _ => ?_⟩
      have eu := eo.unit
      have epl := eo.plen
      have efa := eo.facs
      have efs := eo.fst
      rw [← er0] at eu epl efa efs
      obtain ⟨ps, eps⟩ : ∃ ps, ps = (reduce (frees a m r0) (colAt a m r0)).2 := ⟨_, rfl⟩
      rw [← eps] at eu epl efa ⊢
      have eix : (ps.map D.int)[r0]? = some (.int (ps.getD r0 0)) := by rw [List.getElem?_map, getD_at (d := 0) (by omega)]; rfl
      refine dss_cons (ds_lc (own := [("number", 6)]) (ts := ps.take r0) (mk := D.int) (e := fun n => .int ((-n).fdiv (ps.getD r0 0))) (i := 5) rfl nd rfl rfl rfl ?_ (blkOk_by (by rfl)) (Lc.of0 (fun s H C cl fp => by walk_at "pg") (fun s H C cl fp t ht => ?_) (by rw [List.length_take]; omega)) ?_)
      · rw [List.map_take, ← cutD_to]
        exact di_list (DN.e (dn_slL (by walk_at "db") do_none (do_some (by walk_at "db"))))
      · exact de_fdivN ⟨by rcases eu with e | e <;> rw [e] <;> decide, by rcases eu with e | e <;> rw [e] <;> decide⟩ (DE.b (de_neg (by walk_at "db"))) (DE.b (de_ixL (i := (r0 : Int)) (xs := ps.map D.int) (atI_nat eix) (by walk_at "db") (by walk_at "db")))
      rw [filter_yes]
      refine dss_fix (i := 5) rfl ?_
      refine dss_cons (ds_ret (d := rl r) ?_ rfl)
      have e1 : rl r = .tup [.tup (DL.cutD ((seqUp a (2 * m)).map D.int) none (some (r0 : Int))), .tup ((ps.take r0).map fun n => D.int ((-n).fdiv (ps.getD r0 0))).reverse] := by
        rw [rl, efs, cutD_to, ← List.map_take, seqUp_take _ (by omega), ← List.map_reverse]
        congr 3
        rw [efa, ← List.map_reverse, List.map_map]
        rfl
      rw [e1]
      exact de_tup (da_cons (de_tupleL (by rfl) T.tuple (DE.b (DN.e (dn_slL (by walk_at "db") do_none (do_some (by walk_at "db")))))) (da_cons (de_tupleL (by rfl) T.tuple (DE.b (DN.e (dn_rev (by exact DE.b (va 5)))))) da_nil)) (by simp)
  have h2 : PSs (bodyX P w K mg base ["terms", "most", "columns", "parts", "size", "factors", "number"] "least_of_terms" (defScope s6) f cdv A outer s H E) ((defBody s6).drop 1) (fun D σ H1 => ∃ (L : CLoc) (F1 : Hp), L.C = C ∧
      tS (colS g L) F1 H1 [.sh (intsD (seqUp a (2 * m))), .sh (.int m), .val (.ref L.obj), .sh .non, .sh (.int (-1)), .un, .un] ([], 0) ⟨fun _ _ => False, fun d' _ => d' = rl r, fun _ _ => False, fun _ _ => False⟩ D σ H1) :=
    ⟨fun pins s σ H D I ⟨L, F1, hC, q⟩ => (hrest L F1 _ hC).run pins s σ H D I q⟩
  refine PSs.wk (pss_cons (ps_asg (pe_tup (pa_cons (pe_make0 hmk Fi (hr.mono (by decide)) (by rfl) hmg hbi .nil pass0) (pa_cons pe_non (pa_cons (pe_un un_neg pe_int) pa_nil)))) (by walk_at "pg")) h2) fun D σ H1 ⟨F, rp, hn, hrt, _⟩ => ?_
  intro x dx hx hdx hne
  refine ⟨x, dx, rfl, upd_same, fun lst hl => ⟨rfl, 1, rfl, ?_⟩⟩
  have l1 : lst ≠ x := fun e => by rw [e, upd_same] at hl; cases hl
  have l2 : lst ≠ dx := fun e => by rw [e, upd_ne hne, upd_same] at hl; cases hl
  have l3 : H1 lst = none := by rw [upd_ne l1, upd_ne l2] at hl; exact hl
  obtain ⟨H4, eH4⟩ : ∃ H4, H4 = upd (upd (upd (upd (upd H1 dx (.own x)) x (.ins C dx [])) lst (.lst [])) x (.ins C dx [("free", .ref lst)])) x (.ins C dx [("free", .ref lst), ("many", .int 0)]) := ⟨_, rfl⟩
  rw [← eH4]
  have hx4 : H4 x = some (.ins C dx [("free", .ref lst), ("many", .int 0)]) := by rw [eH4, upd_same]
  have hl4 : H4 lst = some (.lst []) := by rw [eH4, upd_ne l1, upd_ne l1, upd_same]
  have grow : ∀ b o, H1 b = some o → H4 b = some o := fun b o hb => by
    have n1 : b ≠ x := ne_of_none hb hx
    have n2 : b ≠ dx := ne_of_none hb hdx
    have n3 : b ≠ lst := ne_of_none hb l3
    rw [eH4, upd_ne n1, upd_ne n1, upd_ne n3, upd_ne n1, upd_ne n2]
    exact hb
  have s4 := step_grow rp.e.base grow
  refine ⟨by rw [sizeLine_eq]; simp, fun p hp => ?_⟩
  have s5 := Step.alloc0 (o := .tup [V.ref x, V.non, V.int (-1)]) s4.base hp
  have px : x ≠ p := fun e => by rw [← e, hx4] at hp; cases hp
  have pl : lst ≠ p := fun e => by rw [← e, hl4] at hp; cases hp
  refine ⟨p, _, rfl, SqT.of upd_same, rfl, _, _, rfl, _, _, rfl, _, _, rfl, rfl, ?_⟩
  have st := s4.trans s5
  refine ⟨⟨C, x, dx, lst⟩, F, rfl, F, RepS.start st.base ?_ ?_ ?_ ?_, fun _ _ _ _ _ h => h.elim, fun d z' v F' H' e t iv => ?_, fun _ _ _ _ _ h => h.elim, fun _ _ _ _ _ h => h.elim⟩
  · exact (((rp.e.step st).set (i := 2) (sl := .val (.ref x)) rfl).set (i := 3) (sl := .sh .non) ⟨_, rfl, rfl⟩).set (i := 4) (sl := .sh (.int (-1))) ⟨_, rfl, rfl⟩
  · intro sl hsl xs e
    subst e
    simp at hsl
  · intro b hb
    rcases List.mem_cons.mp hb with rfl | hb
    · exact frozen_free rp.e.base hx
    · rw [List.mem_singleton.mp hb]; exact frozen_free rp.e.base l3
  · exact ⟨⟨_, (upd_ne px).trans hx4, by simp, rfl, rfl, rfl⟩, [], (upd_ne pl).trans hl4, rfl⟩
  · refine hrt d () v F' H' e (RetS.shift (rp.r.plain.trans st) ?_ t) iv
    intro b hb
    rcases List.mem_cons.mp hb with rfl | hb
    · exact rp.r.dom0 _ hx
    · rw [List.mem_singleton.mp hb]; exact rp.r.dom0 _ l3
end
section
variable {g : Gx} {P : Program} {w : World} {K : PySem.W.Frag} {mg : Str → Option Value} {base : Heap}
/-! ### pairs -/
abbrev s29 : Stmt := top 29
theorem sc29 : FnScope ["one", "other", "many"] ["one", "other", "many"] (defScope s29) := ⟨rfl, rfl, rfl, by decide +kernel, rfl, by decide +kernel, by decide +kernel⟩
theorem ok29 (T : Tx g K mg) (h : Def P w K mg base "pairs" s29 ["one", "other", "many"]) (c21 : Cal g P w K mg base "terms" 2 ["rule", "many"] R21) : Cal g P w K mg base "pairs" 3 ["one", "other", "many"] R29 := by
  refine cal_of h sc29 (fun ds d h => by obtain ⟨_, _, _, _, _, rfl, _⟩ := h; rfl) ?_
  rintro f cdv A outer s H E F0 H0 ds d hr ⟨r1, r2, a, b, n, rfl, rfl, h1, h2, hn⟩
  have hl1 := h1.2.1
  have hl2 := h2.2.1
  have e : D.lst ((List.range n).map fun i => .tup [.int (a i), .int (b i)]) = .lst ((((seqUp a n).map D.int).zip ((seqUp b n).map D.int)).map fun q => .tup [q.1, q.2]) := by
    congr 1
    rw [seqUp, seqUp, List.map_map, List.map_map, List.zip_map', List.map_map]
    rfl
  refine dss_cons (ds_ret (d := .lst ((List.range n).map fun i => .tup [.int (a i), .int (b i)])) ?_ rfl)
  rw [e]
  refine DN.e (dn_listW (l := false) (m := false) (by rfl) T.list (by rfl) T.zip rfl (by simp [seqUp]) (by simp [seqUp]; omega) ?_ ?_)
  · exact de_callC (ds := [rl r1, .int (n : Int)]) c21 (by walk_at "room") (by rfl) (by walk_at "da") ⟨r1, a, n, rfl, rfl, h1.1, by omega, by omega, fun i hi => h1.2.2 i (by omega)⟩
  · exact de_callC (ds := [rl r2, .int (n : Int)]) c21 (by walk_at "room") (by rfl) (by walk_at "da") ⟨r2, b, n, rfl, rfl, h2.1, by omega, by omega, fun i hi => h2.2.2 i (by omega)⟩
end
section
variable {g : Gx} {P : Program} {w : World} {K : PySem.W.Frag} {mg : Str → Option Value} {base : Heap}
/-! ### the deck -/
structure DLoc where
  dk : Addr
  cl : Addr
structure Deck where
  cells : List Int
  mixed : Int
  draws : Nat
def deckKv (L : DLoc) (z : Deck) : List (L2.Key × V) := [(.inr "cells", .ref L.cl), (.inr "mixed", .int z.mixed), (.inr "draws", .int z.draws)]
def deckZ (L : DLoc) (z : Deck) (H : Hp) : Prop := H L.dk = some (.dK (deckKv L z)) ∧ H L.cl = some (.lst (z.cells.map V.int))
abbrev deckS (g : Gx) (L : DLoc) : Sy g where
  W := [L.dk, L.cl]
  ζ := Deck
  Z := fun z _ H => deckZ L z H
  stab := fun z F H F' H' s e ⟨h1, h2⟩ => ⟨(e _ (by simp)).trans h1, (e _ (by simp)).trans h2⟩
  trk := fun z F H ⟨h1, h2⟩ a ha => by
    rcases List.mem_cons.mp ha with rfl | ha
    · exact ⟨_, h1, fun ps e => by cases e⟩
    · rw [List.mem_singleton.mp ha]
      exact ⟨_, h2, fun ps e => by cases e⟩
section
variable {X : Cx} {F0 H0 : Hp} {L : DLoc} {z : Deck} {ρ : DL.Env} {Pd : DEnds Deck} {pos p1 p2 p3 p4 p5 : Pos} {j : Nat} {x : Str} {e : Expr}
theorem pe_dk (hu : X.A.units + 1 < cLine) {k : Str} (hN : X.N[0]? = some x) (hv : Vis X.env.scope x) (hd : (x == ("__debug__" : Str)) = false) (hcd : (x == ("__classdict__" : Str)) = false) (hs : NoSl (.Constant (.str k) j p2)) :
    PE X (.Subscript (.Name x p1) (.Constant (.str k) j p2) pos) (tDGet (tVar 0) (tC (.str k))) := pe_dget hu (pe_var hN hv hd hcd) pe_str hs
theorem ew_mixed (hu : X.A.units + 1 < cLine) (h0 : ρ[0]? = some (.val (.ref L.dk))) (hN : X.N[0]? = some x) (hv : Vis X.env.scope x) (hd : (x == ("__debug__" : Str)) = false := by decide) (hcd : (x == ("__classdict__" : Str)) = false := by decide) (hs : NoSl (.Constant (.str "mixed") j p2) := by intro _ _; rfl) :
    EW (deckS g L) F0 H0 X (.Subscript (.Name x p1) (.Constant (.str "mixed") j p2) pos) ρ z (fun d z' => d = .int z.mixed ∧ z' = z) := PE.wk (pe_dk hu hN hv hd hcd hs) fun σ H Q ⟨F, r, q⟩ => by
  obtain ⟨o, hs, ho⟩ := r.e.at h0
  subst ho
  obtain ⟨e1, e2⟩ := r.r.zz
  exact ⟨.ref L.dk, hs, L.dk, .int z.mixed, rfl, DGet.k (k := .inr "mixed") e1, q _ z (.int z.mixed) F H ⟨rfl, rfl⟩ r (Sub.refl F) rfl⟩
theorem ew_draws (hu : X.A.units + 1 < cLine) (h0 : ρ[0]? = some (.val (.ref L.dk))) (hN : X.N[0]? = some x) (hv : Vis X.env.scope x) (hd : (x == ("__debug__" : Str)) = false := by decide) (hcd : (x == ("__classdict__" : Str)) = false := by decide) (hs : NoSl (.Constant (.str "draws") j p2) := by intro _ _; rfl) :
    EW (deckS g L) F0 H0 X (.Subscript (.Name x p1) (.Constant (.str "draws") j p2) pos) ρ z (fun d z' => d = .int z.draws ∧ z' = z) := PE.wk (pe_dk hu hN hv hd hcd hs) fun σ H Q ⟨F, r, q⟩ => by
  obtain ⟨o, hs, ho⟩ := r.e.at h0
  subst ho
  obtain ⟨e1, e2⟩ := r.r.zz
  exact ⟨.ref L.dk, hs, L.dk, .int z.draws, rfl, DGet.k (k := .inr "draws") e1, q _ z (.int z.draws) F H ⟨rfl, rfl⟩ r (Sub.refl F) rfl⟩
/-- deck['draws'] = e -/
theorem ds_draws {n : Nat} (hu : X.A.units + 1 < cLine) (h0 : ρ[0]? = some (.val (.ref L.dk))) (hN : X.N[0]? = some x) (hv : Vis X.env.scope x) (he : EW (deckS g L) F0 H0 X e ρ z (fun d z' => d = .int n ∧ z' = z)) (nx : Pd.nx ρ { z with draws := n }) (hd : (x == ("__debug__" : Str)) = false := by decide) (hcd : (x == ("__classdict__" : Str)) = false := by decide)
    (hs : swapsWithSole [.Subscript (.Name x p1) (.Constant (.str "draws") j p2) p3] e pos.line X.env = pure false := by rfl) (hw : swappedStores [.Subscript (.Name x p1) (.Constant (.str "draws") j p2) p3] e X.env = pure none := by rfl)
    (ha : List.map (fun x => x.snd) (assignEach [.Subscript (.Name x p1) (.Constant (.str "draws") j p2) p3] X.env) = [assign (.Subscript (.Name x p1) (.Constant (.str "draws") j p2) p3) X.env] := by rfl) :
    DS (deckS g L) F0 H0 X (.Assign [.Subscript (.Name x p1) (.Constant (.str "draws") j p2) p3] e pos) ρ z Pd := by
  refine PS.wk (ps_asg he (pg_sub (pe_var hN hv hd hcd) pe_str (set_dict hu)) hs hw ha) fun E σ H ⟨F, r, hn, _⟩ => ⟨F, r, fun d z' v F1 H1 hp r1 s1 iv => ?_⟩
  obtain ⟨rfl, rfl⟩ := hp
  have ev : v = .int n := iv
  subst ev
  obtain ⟨o, hs, ho⟩ := r1.e.at h0
  subst ho
  obtain ⟨e1, e2⟩ := r1.r.zz
  have ne : L.cl ≠ L.dk := fun q => by rw [q, e1] at e2; cases e2
  refine ⟨.ref L.dk, hs, L.dk, upd H1 L.dk (.dK (deckKv L { z' with draws := n })), rfl, ?_, ?_⟩
  · have := DPut.k (k := .inr ("draws" : Str)) (v := .int n) e1 (small1000 (by simp [deckKv]))
    exact this
  · exact hn ρ { z' with draws := n } σ F1 _ nx (r1.put (by simp) e1 (fun ps e => by cases e) (fun b q e => by cases e) ⟨upd_same, (upd_ne ne).trans e2⟩) s1
theorem ints_dp {K : PySem.W.Frag} {H : Hp} {a : Addr} {ns : List Int} (h : H a = some (.lst (ns.map V.int))) : Is g H (.lst (ns.map D.int)) (.ref a) := ⟨a, _, rfl, h, All.of_ints ns⟩
/-- deck['cells'] != [] -/
theorem tw_cells (hu : X.A.units + 64 < cLine) (h0 : ρ[0]? = some (.val (.ref L.dk))) (hN : X.N[0]? = some x) (hv : Vis X.env.scope x) (hd : (x == ("__debug__" : Str)) = false := by decide) (hcd : (x == ("__classdict__" : Str)) = false := by decide) (hs : NoSl (.Constant (.str "cells") j p2) := by intro _ _; rfl) :
    TW (deckS g L) F0 H0 X (.Compare (.Subscript (.Name x p1) (.Constant (.str "cells") j p2) p3) [.NotEq] [.List [] p4] pos) ρ z (fun b z' => b = !decide (z.cells = []) ∧ z' = z) := by
  refine PT.wk (pt_cmpR (op_neD hu) (pe_dk (by omega) hN hv hd hcd hs) (dn_lst (g := g) (ρ := ρ) (ds := []) da_nil (by simp)) (nomark _)) fun σ H Q ⟨F, r, q⟩ => ?_
  obtain ⟨o, hs, ho⟩ := r.e.at h0
  subst ho
  obtain ⟨e1, e2⟩ := r.r.zz
  refine ⟨.ref L.dk, hs, L.dk, .ref L.cl, rfl, DGet.k (k := .inr "cells") e1, F, r.e, fun a vs F2 H2 s2 hn f2 h2 al => ?_⟩
  have r2 := r.step s2
  obtain ⟨k1, k2⟩ := r2.r.zz
  have ok : EqOk (.lst (z.cells.map D.int)) (.lst []) (decide (z.cells = [])) := eqok_lst (ns := z.cells) (ms := [])
  have evs : vs = [] := al
  subst evs
  refine ⟨toP (.lst (z.cells.map D.int)), toP (.lst []), dp_of (g := g) (ints_dp (K := X.K) k2) ok.n1, dp_of (g := g) ⟨a, [], rfl, h2, rfl⟩ rfl, ok.s1, ok.s2, _, rfl, ?_⟩
  rw [ok.eq]
  exact q _ z F2 H2 ⟨rfl, rfl⟩ r2 s2.sub
/-- deck['cells'].pop() -/
theorem ew_pop {c : Int} {cs : List Int} (hu : X.A.units + 1 < cLine) (h0 : ρ[0]? = some (.val (.ref L.dk))) (hN : X.N[0]? = some x) (hv : Vis X.env.scope x) (hz : z.cells = cs ++ [c]) (hd : (x == ("__debug__" : Str)) = false := by decide) (hcd : (x == ("__classdict__" : Str)) = false := by decide) (hs : NoSl (.Constant (.str "cells") j p2) := by intro _ _; rfl)
    (hb : attributeBase (.Subscript (.Name x p1) (.Constant (.str "cells") j p2) p3) "pop" X.env (eval (.Subscript (.Name x p1) (.Constant (.str "cells") j p2) p3) X.env) = eval (.Subscript (.Name x p1) (.Constant (.str "cells") j p2) p3) X.env := by rfl) (hl : (p4.endLine == pos.line) = true := by rfl) :
    EW (deckS g L) F0 H0 X (.Call (.Attribute (.Subscript (.Name x p1) (.Constant (.str "cells") j p2) p3) "pop" p4) [] [] pos) ρ z (fun d z' => d = .int c ∧ z' = { z with cells := cs }) := by
  refine PE.wk (pe_bm0 PySem.F.plainAttrs_list PySem.F.slot_list_pop PySem.F.type_list_pop mt_pop (pe_dk hu hN hv hd hcd hs) hb hl) fun σ H Q ⟨F, r, q⟩ => ?_
  obtain ⟨o, hs, ho⟩ := r.e.at h0
  subst ho
  obtain ⟨e1, e2⟩ := r.r.zz
  have ne : L.dk ≠ L.cl := fun q => by rw [q, e2] at e1; cases e1
  refine ⟨.ref L.dk, hs, L.dk, .ref L.cl, rfl, DGet.k (k := .inr "cells") e1, .inl ⟨rfl, _, SqL.of e2⟩, L.cl, _, .int c, rfl, rfl, e2, ?_, ?_⟩
  · rw [hz, List.map_append, List.length_append]
    simp
  · refine q _ { z with cells := cs } (.int c) F _ ⟨rfl, rfl⟩ (r.put (by simp) e2 (fun ps e => by cases e) (fun b q e => by cases e) ⟨(upd_ne ne).trans e1, ?_⟩) (Sub.refl F) rfl
    rw [hz, List.map_append, upd_same]
    simp
/-- deck['cells'].append(e) -/
theorem ds_cellAdd {n : Int} (hu : X.A.units + 1 < cLine) (h0 : ρ[0]? = some (.val (.ref L.dk))) (hN : X.N[0]? = some x) (hv : Vis X.env.scope x) (he : DE g X e ρ (.int n)) (hl : z.cells.length < 1000) (nx : Pd.nx ρ { z with cells := z.cells ++ [n] }) (hd : (x == ("__debug__" : Str)) = false := by decide) (hcd : (x == ("__classdict__" : Str)) = false := by decide) (hs : NoSl (.Constant (.str "cells") j p2) := by intro _ _; rfl)
    (hb : attributeBase (.Subscript (.Name x p1) (.Constant (.str "cells") j p2) p3) "append" X.env (eval (.Subscript (.Name x p1) (.Constant (.str "cells") j p2) p3) X.env) = eval (.Subscript (.Name x p1) (.Constant (.str "cells") j p2) p3) X.env := by rfl)
    (h1 : starEach [e] X.env = (false, eval e X.env) :: starEach [] X.env := by rfl) (h2 : (p4.endLine == p5.line) = true := by rfl) (h3 : swapsWith (.Call (.Attribute (.Subscript (.Name x p1) (.Constant (.str "cells") j p2) p3) "append" p4) [e] [] p5) none pos.line X.env = pure false := by rfl)
    (h4 : (((backTo p5 (starEach [e] X.env)).all fun x => !x.fst) && (backToKw p5 (keywordEach [] X.env)).all (fun x => x.fst.isSome) && decide (([e].length + ([] : List Keyword).length + if ([] : List Keyword).isEmpty = true then 0 else 1) < 30)) = true := by rfl)
    (h5 : ((backTo p5 (starEach [] X.env)).any fun x => x.fst) = false := by rfl) : DS (deckS g L) F0 H0 X (.Expr (.Call (.Attribute (.Subscript (.Name x p1) (.Constant (.str "cells") j p2) p3) "append" p4) [e] [] p5) pos) ρ z Pd := by
  refine PS.wk (ps_expr (pe_bm PySem.F.plainAttrs_list PySem.F.slot_list_append PySem.F.type_list_append mt_append (pe_dk hu hN hv hd hcd hs) (pa_cons he pa_nil h1) hb h4 h2 h1 h5) h3) fun E σ H ⟨F, r, hn, _⟩ => ?_
  obtain ⟨o, hs, ho⟩ := r.e.at h0
  subst ho
  obtain ⟨e1, e2⟩ := r.r.zz
  refine ⟨.ref L.dk, hs, L.dk, .ref L.cl, rfl, DGet.k (k := .inr "cells") e1, .inl ⟨rfl, _, SqL.of e2⟩, F, r.e, fun v F1 H1 s1 iv => ?_⟩
  have ev : v = .int n := iv
  subst ev
  have r1 := r.step s1
  obtain ⟨k1, k2⟩ := r1.r.zz
  have ne : L.dk ≠ L.cl := fun q => by rw [q, k2] at k1; cases k1
  refine ⟨L.cl, _, .int n, rfl, rfl, k2, small1000 (by rw [List.length_map]; omega), ?_⟩
  refine hn ρ { z with cells := z.cells ++ [n] } σ F1 _ nx (r1.put (by simp) k2 (fun ps e => by cases e) (fun b q e => by cases e) ⟨(upd_ne ne).trans k1, ?_⟩) s1.sub
  rw [upd_same, List.map_append]
  rfl
end
abbrev s88 : Stmt := top 88
theorem sc88 : FnScope ["_law_deck_here", "_law_bound", "_law_turn", "_law_cell", "_law_mixed"] ["_law_deck_here", "_law_bound"] (defScope s88) := ⟨rfl, rfl, rfl, by decide +kernel, rfl, by decide +kernel, by decide +kernel⟩
def drawPre (ds : List D) (z : Deck) : Prop := ∃ b : Nat, ds = [.int b] ∧ 0 < b ∧ b < 1000000000 ∧ z.draws < 2 ^ 50 ∧ z.cells.length ≤ 100
def drawPost (ds : List D) (z : Deck) (d : D) (z' : Deck) : Prop := ∃ b n : Nat, ds = [.int b] ∧ d = .int n ∧ n < b ∧ z'.draws = z.draws + 1 ∧ z'.cells.length ≤ z.cells.length
theorem modNat {b : Nat} (hb : 0 < b) (x : Int) : ∃ n : Nat, x % (b : Int) = n ∧ n < b := by
  have h1 := Int.emod_nonneg x (show (b : Int) ≠ 0 by omega)
  have h2 := Int.emod_lt_of_pos x (show (0 : Int) < b by omega)
  exact ⟨(x % (b : Int)).toNat, by omega, by omega⟩
theorem ok88 {f : Addr} {fd : FuncData} (T : Tx g K mg) (Fn : Fun K "_law_draw" "_law_draw" s88 f fd) : FnOk P w K mg base CX0 1 f fd ["_law_deck_here", "_law_bound"] (spF (deckS g) (fun L => .ref L.dk) (fun _ ds z => drawPre ds z) (fun _ ds z d z' => drawPost ds z d z')) := by
  refine fnF Fn sc88 (fun L ds z h => by obtain ⟨b, rfl, _⟩ := h; rfl) (by decide) ?_
  rintro cdv A outer s H E L F0 H0 z ds hr ⟨b, rfl, hb0, hb, hd, hcl⟩
  have nd := sc88.nd
  refine dss_cons (ds_draws (n := z.draws + 1) (by exact hu_of hr) rfl rfl (by walk_at "vis") (ew_add (ew_draws (by exact hu_of hr) rfl rfl (by walk_at "vis")) (fun d z' hp => ew_of (d := .int 1) (post := fun d2 z2 => d2 = .int 1 ∧ z2 = z) de_int ⟨rfl, hp.2⟩) ?_) ?_)
  · rintro d z' d2 z2 ⟨rfl, rfl⟩ ⟨rfl, rfl⟩
    exact ⟨_, _, rfl, rfl, rfl, rfl⟩
  obtain ⟨t, et⟩ : ∃ t, t = z.draws + 1 := ⟨_, rfl⟩
  rw [← et]
  have ht : t < 2 ^ 51 := by omega
  obtain ⟨z1, ez1⟩ : ∃ z1 : Deck, z1 = { z with draws := t } := ⟨_, rfl⟩
  rw [← ez1]
  have hz1 : z1.draws = t ∧ z1.cells = z.cells := by rw [ez1]; exact ⟨rfl, rfl⟩
  refine dss_cons (ds_parW (p1 := fun d z' => d = .int t ∧ z' = z1) (p2 := fun _ _ d z' => d = .int z1.mixed ∧ z' = z1) (i := 2) (j := 3) rfl nd rfl rfl (by decide) rfl rfl ((ew_draws (by exact hu_of hr) rfl rfl (by walk_at "vis")).mono fun d z' hp => ⟨by rw [hp.1, hz1.1], hp.2⟩) (fun d z' hp => by
    obtain ⟨_, rfl⟩ := hp
    exact ew_mixed (by exact hu_of hr) rfl rfl (by walk_at "vis")) rfl ?_)
  rintro d z' d2 z2 ⟨rfl, rfl⟩ ⟨rfl, rfl⟩
  -- the end, whatever the cell is
  have tail : ∀ (c : Int) (z3 : Deck), z3.draws = t → z3.cells.length ≤ z.cells.length → DSs (deckS g L) F0 H0 (bodyX P w K mg base ["_law_deck_here", "_law_bound", "_law_turn", "_law_cell", "_law_mixed"] "_law_draw" (defScope s88) f cdv A outer s H E) ((defBody s88).drop 3)
      [.val (.ref L.dk), .sh (.int b), .sh (.int t), .sh (.int c), .un] z3 ⟨fun _ z' => drawPost [.int b] z .non z', fun d z' => drawPost [.int b] z d z', fun _ _ => False, fun _ _ => False⟩ := by
    intro c z3 h3 h4
    have c1 : CMul 60703 (t : Int) := .inl (by decide)
    have c2 : CMul (60703 * (t : Int)) t := .inr (by omega)
    refine dss_cons (ds_set (d := .int ((c % 2147483629 + 60703 * (t : Int) * t + 193) * 40692 % 2147483647)) (i := 4) nd rfl (by walk_at "loc") ?_ ?_)
    · refine de_mod (by decide) (DE.b (de_mul (.inr (by decide)) (DE.b (de_intI (by rfl) T.int (DE.b (de_add (DE.b (de_add (DE.b (de_mod (by decide) (DE.b (de_intI (by rfl) T.int (by walk_at "db"))) (by walk_at "db"))) (DE.b (de_mul c2 (DE.b (de_mul c1 (by walk_at "db") (by walk_at "db"))) (by walk_at "db"))))) (by walk_at "db"))))) (by walk_at "db"))) (by walk_at "db")
    obtain ⟨mx, em⟩ : ∃ mx, mx = (c % 2147483629 + 60703 * (t : Int) * t + 193) * 40692 % 2147483647 := ⟨_, rfl⟩
    rw [← em]
    have hm1 : 0 ≤ mx := em ▸ Int.emod_nonneg _ (by decide)
    have hm2 : mx < 2147483647 := em ▸ Int.emod_lt_of_pos _ (by decide)
    refine dss_cons (ds_set (d := .int ((mx * mx + 39373 * (t : Int) + 83) % 2147483587)) (i := 4) nd rfl (by walk_at "loc") ?_ ?_)
    · refine de_mod (by decide) (DE.b (de_intI (by rfl) T.int (DE.b (de_add (DE.b (de_add (DE.b (de_mul (.inl (by omega)) (by walk_at "db") (by walk_at "db"))) (DE.b (de_mul (.inl (by decide)) (by walk_at "db") (by walk_at "db"))))) (by walk_at "db"))))) (by walk_at "db")
    obtain ⟨my, emy⟩ : ∃ my, my = (mx * mx + 39373 * (t : Int) + 83) % 2147483587 := ⟨_, rfl⟩
    rw [← emy]
    obtain ⟨n, en, hn⟩ := modNat hb0 (my * 69621 % 2147483563 / 64)
    refine dss_cons (ds_ret (d := .int n) ?_ ⟨b, n, rfl, rfl, hn, by rw [h3, et], h4⟩)
    rw [← en]
    exact de_mod (by omega) (DE.b (de_fdiv ⟨by decide, by decide⟩ (DE.b (de_mod (by decide) (DE.b (de_intI (by rfl) T.int (DE.b (de_mul (.inr (by decide)) (by walk_at "db") (by walk_at "db"))))) (by walk_at "db"))) (by walk_at "db"))) (by walk_at "db")
  refine dss_cons (ds_ifW (tw_cells (by exact hr.units) rfl rfl (by walk_at "vis")) ?_ ?_)
  · rintro z' ⟨hc, rfl⟩
    have hne : z'.cells ≠ [] := by simpa using hc.symm
    obtain ⟨cs, c, ecs⟩ : ∃ cs c, z'.cells = cs ++ [c] := ⟨z'.cells.dropLast, z'.cells.getLast hne, (List.dropLast_concat_getLast hne).symm⟩
    have hlen : cs.length + 1 ≤ z.cells.length := by
      rw [← hz1.2, ecs, List.length_append]
      exact Nat.le_refl _
    refine dss_cons (ds_setE (i := 3) nd rfl (by walk_at "loc") (ew_pop (c := c) (cs := cs) (by exact hu_of hr) rfl rfl (by walk_at "vis") ecs) ?_)
    rintro d z2 ⟨rfl, rfl⟩
    refine dss_cons (ds_if (b := decide ((10 : Int) ^ (18 : Int).toNat ≤ c)) (dt_ge (by walk_at "db") (DE.b (de_pow ⟨by decide, by decide, by decide⟩ (by walk_at "db") (by walk_at "db")))) (fun hq => ?_) fun hq => dss_nil ?_)
    · refine dss_cons (ds_cellAdd (n := c / (b : Int)) (by exact hu_of hr) rfl rfl (by walk_at "vis") (de_fdiv ⟨by omega, by omega⟩ (by walk_at "db") (by walk_at "db")) (by show cs.length < 1000; omega) ?_)
      obtain ⟨n, en, hn⟩ := modNat hb0 c
      refine dss_cons (ds_ret (d := .int n) ?_ ⟨b, n, rfl, rfl, hn, by show z'.draws = _; rw [hz1.1, et], by show (cs ++ [_]).length ≤ _; rw [List.length_append]; exact hlen⟩)
      rw [← en]
      exact de_mod (by omega) (DE.b (de_intI (by rfl) T.int (by walk_at "db"))) (by walk_at "db")
    · refine dss_cons (ds_setE (post := fun d z2 => (∃ c2 : Int, d = .int c2) ∧ z2 = { z' with cells := cs }) (i := 3) nd rfl (by walk_at "loc") (ew_add (ew_of (d := .int c) (post := fun d z2 => d = .int c ∧ z2 = { z' with cells := cs }) (by walk_at "de") ⟨rfl, rfl⟩) (fun d z2 hp => by
        obtain ⟨_, rfl⟩ := hp
        exact ew_mixed (by exact hu_of hr) rfl rfl (by walk_at "vis")) ?_) ?_)
      · rintro d z2 d2 z3 ⟨rfl, rfl⟩ ⟨rfl, rfl⟩
        exact ⟨_, _, rfl, rfl, ⟨_, rfl⟩, rfl⟩
      · rintro d z2 ⟨⟨c2, rfl⟩, rfl⟩
        exact dss_nil (tail c2 _ hz1.1 (by show cs.length ≤ _; omega))
  · rintro z' ⟨hc, rfl⟩
    exact dss_nil (tail _ _ hz1.1 (by rw [hz1.2]; exact Nat.le_refl _))
end
section
variable {g : Gx} {P : Program} {w : World} {K : PySem.W.Frag} {mg : Str → Option Value} {base : Heap}
/-! ### draws, picks -/
/-- a def that changes the deck, as its callers know it -/
def CalK (g : Gx) (P : Program) (w : World) (K : PySem.W.Frag) (mg : Str → Option Value) (base : Heap) (x : Str) (k : Nat) (ps : List Str) (Pre : List D → Deck → Prop) (Post : List D → Deck → D → Deck → Prop) : Prop :=
  ∃ f fd, FnOk P w K mg base CX0 k f fd ps (spF (deckS g) (fun L => .ref L.dk) (fun _ ds z => Pre ds z) (fun _ ds z d z' => Post ds z d z')) ∧ mg x = some (.ref f) ∧ PySem.W.keepIn K (.ref f) = true ∧ L2.Binds K fd ps []
theorem calK_of {x : Str} {st : Stmt} {N ps : List Str} {k : Nat} {Pre : List D → Deck → Prop} {Post : List D → Deck → D → Deck → Prop} (h : Def P w K mg base x st ps) (sc : FnScope N ps (defScope st)) (hl : ∀ ds z, Pre ds z → ds.length + 1 = ps.length) (hN : ps.length ≤ N.length)
    (hb : ∀ (f : Addr) (cdv : Value) (A : Around) (outer : List PySem.Env) (s : Shared) (H : Hp) (E : XK) (L : DLoc) (F0 H0 : Hp) (z : Deck) (ds : List D), Room k (A.deeper (envOfC x (defScope st) s.heap.objs.size f cdv)) → Pre ds z →
      DSs (deckS g L) F0 H0 (bodyX P w K mg base N x (defScope st) f cdv A outer s H E) (defBody st) (envV N (.ref L.dk) ds) z ⟨fun _ z' => Post ds z .non z', fun d' z' => Post ds z d' z', fun _ _ => False, fun _ _ => False⟩) : CalK g P w K mg base x (k + 1) ps Pre Post := by
  obtain ⟨f, fd, Fn, h2, h3⟩ := h
  exact ⟨f, fd, fnF Fn sc (fun _ ds z => hl ds z) hN (fun cdv A outer s H E L F0 H0 z ds => hb f cdv A outer s H E L F0 H0 z ds), h2, Fn.kp, h3⟩
section
variable {X : Cx} {F0 H0 : Hp} {L : DLoc} {z : Deck} {ρ : DL.Env} {Pd : DEnds Deck} {pos p1 p2 : Pos} {x nm : Str} {e a b : Expr} {es : List Expr} {k i : Nat} {ps : List Str} {Pre : List D → Deck → Prop} {Post : List D → Deck → D → Deck → Prop} {post1 : List D → Deck → Prop}
theorem ew_dk (c : CalK g X.prog X.w X.K X.mg X.base nm k ps Pre Post) (hr : Room k X.A) (hg : Gl X nm) (h0 : ρ[i]? = some (.val (.ref L.dk))) (hN : X.N[i]? = some x) (hv : Vis X.env.scope x) (ha : AW (deckS g L) F0 H0 X es ρ z post1) (hp : ∀ ds z', post1 ds z' → Pre ds z')
    (hd : (x == ("__debug__" : Str)) = false := by decide) (hcd : (x == ("__classdict__" : Str)) = false := by decide) (hdb : (nm == ("__debug__" : Str)) = false := by decide)
    (he : starEach (.Name x p1 :: es) X.env = (false, eval (.Name x p1) X.env) :: starEach es X.env := by rfl) (hpl : (backTo pos (starEach es X.env)).any (·.1) = false := by rfl) :
    EW (deckS g L) F0 H0 X (.Call (.Name nm p2) (.Name x p1 :: es) [] pos) ρ z (fun d z2 => ∃ ds z', post1 ds z' ∧ Post ds z' d z2) := by
  obtain ⟨f, fd, Fn, hm, hk, hb⟩ := c
  refine PE.wk (pe_call Fn hr hg hm hk hb .nil pass0 (pa_cons (pe_var hN hv hd hcd) ha he) hdb he hpl) fun σ H Q ⟨F, r, q⟩ => ?_
  obtain ⟨o, hs, ho⟩ := r.e.at h0
  subst ho
  refine ⟨.ref L.dk, hs, F, r, fun ds z' vs F1 H1 h1 r1 s1 al => ?_⟩
  show spF (deckS g) (fun L => V.ref L.dk) (fun _ ds z => Pre ds z) (fun _ ds z d z' => Post ds z d z') ((V.ref L.dk :: vs) ++ []) H1 Q E0
  rw [List.append_nil]
  exact ⟨L, F1, z', ds, vs, r1.e.base, rfl, al, r1.r.wF, r1.r.zz, hp ds z' h1, fun d z2 v F' H' hq t iv => q d z2 v F' H' ⟨ds, z', h1, hq⟩ (r1.ret t) (s1.trans t.sub0) iv⟩
/-- xs[e], a list at hand -/
theorem ew_ixL {xs : List D} {post : D → Deck → Prop} (ha : DE g X a ρ (.lst xs)) (hb : EW (deckS g L) F0 H0 X b ρ z fun d z' => ∃ n d', d = .int (n : Nat) ∧ xs[n]? = some d' ∧ post d' z') (hs : PlainIx b := by intro _ _; rfl) : EW (deckS g L) F0 H0 X (.Subscript a b pos) ρ z post := by
  refine PE.wk (pe_ix ix_list ha hb hs) fun σ H Q ⟨F, r, q⟩ => ⟨F, r.e, fun v F1 H1 s1 iv => ⟨F1, r.step s1, fun d z' u F2 H2 hp r2 s2 iu => ?_⟩⟩
  obtain ⟨n, d', rfl, hn, hq⟩ := hp
  exact opd_ixL (g := g) (atI_nat hn) F2 H2 v u r2.e.base (.inl (Is.mono s2 _ _ iv)) (.inl iu) Q fun w F3 H3 s3 iw => q d' z' w F3 H3 hq (r2.step s3) ((s1.sub.trans s2).trans s3.sub) iw
end
abbrev s89 : Stmt := top 89
theorem sc89 : FnScope ["_law_deck_here", "_law_some"] ["_law_deck_here", "_law_some"] (defScope s89) := ⟨rfl, rfl, rfl, by decide +kernel, rfl, by decide +kernel, by decide +kernel⟩
def pickPre (ds : List D) (z : Deck) : Prop := ∃ xs : List D, ds = [.lst xs] ∧ 0 < xs.length ∧ xs.length ≤ 100 ∧ z.draws < 2 ^ 50 ∧ z.cells.length ≤ 100
def pickPost (ds : List D) (z : Deck) (d : D) (z' : Deck) : Prop := ∃ xs : List D, ds = [.lst xs] ∧ d ∈ xs ∧ z'.draws = z.draws + 1 ∧ z'.cells.length ≤ z.cells.length
theorem ok89 (T : Tx g K mg) (h : Def P w K mg base "_law_pick" s89 ["_law_deck_here", "_law_some"]) (c88 : CalK g P w K mg base "_law_draw" 1 ["_law_deck_here", "_law_bound"] drawPre drawPost) : CalK g P w K mg base "_law_pick" 2 ["_law_deck_here", "_law_some"] pickPre pickPost := by
  refine calK_of h sc89 (fun ds z h => by obtain ⟨b, rfl, _⟩ := h; rfl) (by decide) ?_
  rintro f cdv A outer s H E L F0 H0 z ds hr ⟨xs, rfl, h1, h2, h3, h4⟩
  refine dss_cons (ds_retW (ew_ixL (xs := xs) (by walk_at "de") ((ew_dk (i := 0) (post1 := fun ds z' => ds = [.int xs.length] ∧ z' = z) c88 (by walk_at "room") (by rfl) rfl rfl (by walk_at "vis") (aw_cons (p1 := fun d z' => d = .int xs.length ∧ z' = z) (ew_of (by walk_at "de") ⟨rfl, rfl⟩) fun d z' hp => aw_nil (by rw [hp.1]; exact ⟨rfl, hp.2⟩)) ?_).mono ?_)))
  · rintro ds z' ⟨rfl, rfl⟩
    exact ⟨xs.length, rfl, h1, by omega, h3, h4⟩
  · rintro d z2 ⟨ds, z', ⟨rfl, rfl⟩, b, n, e1, rfl, hn, k1, k2⟩
    have eb : (xs.length : Int) = b := D.int.inj (List.cons.inj e1).1
    have hn2 : n < xs.length := by omega
    exact ⟨n, xs[n], rfl, List.getElem?_eq_getElem hn2, xs, rfl, List.getElem_mem hn2, k1, k2⟩
end
section
variable {g : Gx} {P : Program} {w : World} {K : PySem.W.Frag} {mg : Str → Option Value} {base : Heap}
/-! ### formats put together -/
def fwD (m : Fm) : D := .tup [.int m.size, fmMoves m.moves, tupD (nums m.ends)]
/-- the order of moves, as the program's sorted has it -/
def mleB (a b : Nat × Nat × Nat) : Bool := leD (mvD a) (mvD b)
def behindF (n f : Fm) : Fm := ⟨n.size + f.size, (behindRaw n f).mergeSort mleB, behindEnds n f⟩
def besideF (n f : Fm) : Fm := ⟨1 + n.size + f.size, (besideRaw n f).mergeSort mleB, besideEnds n f⟩
theorem sort_moves {l : List (Nat × Nat × Nat)} (h : l.length ≤ 1000) : SortOk (l.map mvD) where
  nf := fun d hd => by obtain ⟨i, _, rfl⟩ := List.mem_map.mp hd; rfl
  al := fun d hd d' hd' => by
    obtain ⟨i, _, rfl⟩ := List.mem_map.mp hd
    obtain ⟨j, _, rfl⟩ := List.mem_map.mp hd'
    simp only [mvD, toP, toPs, PySem.W.alike, PySem.W.alikeAll, Bool.and_self]
  kind := .inl fun d hd => by
    obtain ⟨i, _, rfl⟩ := List.mem_map.mp hd
    exact ⟨_, _, rfl⟩
  dp := fun d hd => by
    obtain ⟨i, _, rfl⟩ := List.mem_map.mp hd
    simp [mvD, toP, toPs, PyData.depth, PyData.depthAll]
  len := by rw [List.length_map]; exact h
theorem sort_mv (l : List (Nat × Nat × Nat)) : (l.map mvD).mergeSort leD = (l.mergeSort mleB).map mvD := by
  rw [List.map_mergeSort (s := leD)]
  intro a _ b _
  rfl
abbrev s92 : Stmt := top 92
theorem sc92 : FnScope ["_law_w", "_law_by", "_law_state", "_law_sign", "_law_to"] ["_law_w", "_law_by"] (defScope s92) := ⟨rfl, rfl, rfl, by decide +kernel, rfl, by decide +kernel, by decide +kernel⟩
def R92 (ds : List D) (d : D) : Prop := ∃ (m : Fm) (k : Nat), ds = [fwD m, .int k] ∧ d = .lst ((m.moves.map (shiftM k)).map mvD) ∧ m.moves.length ≤ 100
theorem ok92 (T : Tx g K mg) (h : Def P w K mg base "_law_moved" s92 ["_law_w", "_law_by"]) : Cal g P w K mg base "_law_moved" 1 ["_law_w", "_law_by"] R92 := by
  refine cal_of h sc92 (fun ds d h => by obtain ⟨_, _, rfl, _⟩ := h; rfl) ?_
  rintro f cdv A outer s H E F0 H0 ds d hr ⟨m, k, rfl, rfl, hl⟩
  have nd := sc92.nd
  refine dss_cons (ds_ret (d := .lst ((m.moves.map (shiftM k)).map mvD)) ?_ rfl)
  rw [List.map_map]
  refine DN.e (dn_map3 (ts := m.moves) (f1 := fun m => .int m.1) (f2 := fun m => .str (chr m.2.1)) (f3 := fun m => .int m.2.2) (y1 := "_law_state") (y2 := "_law_sign") (y3 := "_law_to") (i := 2) (j := 3) (k := 4) rfl nd (di_tup (de_ixT (i := 1) (xs := [.int m.size, fmMoves m.moves, tupD (nums m.ends)]) rfl (by walk_at "db") (by walk_at "db"))) (blkOk_by (by rfl)) (fun s H C cl fp => by walk_at "pg") (fun s H C cl fp t ht => ?_) (by omega))
  exact de_tup (ds := [.int ((t.1 : Int) + k), .str (chr t.2.1), .int ((t.2.2 : Int) + k)]) (by walk_at "da") (by simp)
abbrev s93 : Stmt := top 93
theorem sc93 : FnScope ["_law_near", "_law_far", "_law_moves", "_law_state", "_law_ends", "_law_here", "_law_sign", "_law_to"] ["_law_near", "_law_far"] (defScope s93) := ⟨rfl, rfl, rfl, by decide +kernel, rfl, by decide +kernel, by decide +kernel⟩
def R93 (ds : List D) (d : D) : Prop := ∃ n f : Fm, ds = [fwD n, fwD f] ∧ d = fwD (behindF n f) ∧ n.moves.length ≤ 12 ∧ f.moves.length ≤ 12 ∧ n.ends.length ≤ 6 ∧ f.ends.length ≤ 6
section
variable {X : Cx} {ρ : DL.Env} {e : Expr} {m : Fm} {pos p1 : Pos} {j : Nat}
theorem fw0 (h : DE g X e ρ (fwD m)) (hs : PlainIx (.Constant (.int 0) j p1) := by intro _ _; rfl) : DE g X (.Subscript e (.Constant (.int 0) j p1) pos) ρ (.int m.size) := de_ixT (i := 0) (xs := [.int m.size, fmMoves m.moves, tupD (nums m.ends)]) rfl (DE.b h) (DE.b de_int) hs
theorem fw1 (h : DE g X e ρ (fwD m)) (hs : PlainIx (.Constant (.int 1) j p1) := by intro _ _; rfl) : DE g X (.Subscript e (.Constant (.int 1) j p1) pos) ρ (.tup (m.moves.map mvD)) := de_ixT (i := 1) (xs := [.int m.size, fmMoves m.moves, tupD (nums m.ends)]) rfl (DE.b h) (DE.b de_int) hs
theorem fw2 (h : DE g X e ρ (fwD m)) (hs : PlainIx (.Constant (.int 2) j p1) := by intro _ _; rfl) : DE g X (.Subscript e (.Constant (.int 2) j p1) pos) ρ (.tup ((nums m.ends).map D.int)) := de_ixT (i := 2) (xs := [.int m.size, fmMoves m.moves, tupD (nums m.ends)]) rfl (DE.b h) (DE.b de_int) hs
end
theorem nums_map (l : List Nat) : (nums l).map D.int = l.map fun (i : Nat) => D.int i := by rw [nums, List.map_map]; rfl
theorem flatMap_take {α β : Type} (f : α → List β) {ts : List α} {k : Nat} {t : α} (h : ts[k]? = some t) : (ts.take (k + 1)).flatMap f = (ts.take k).flatMap f ++ f t := by
  rw [List.take_succ, h, Option.toList, List.flatMap_append]
  simp
theorem flatMap_len {α β : Type} (f : α → List β) (B : Nat) (hB : ∀ a, (f a).length ≤ B) : ∀ l : List α, (l.flatMap f).length ≤ l.length * B
  | [] => by simp
  | a :: l => by
    rw [List.flatMap_cons, List.length_append, List.length_cons, Nat.succ_mul]
    have h1 := hB a
    have h2 := flatMap_len f B hB l
    omega
theorem ok93 (T : Tx g K mg) (h : Def P w K mg base "_law_behind" s93 ["_law_near", "_law_far"]) (c92 : Cal g P w K mg base "_law_moved" 1 ["_law_w", "_law_by"] R92) : Cal g P w K mg base "_law_behind" 2 ["_law_near", "_law_far"] R93 := by
  refine cal_of h sc93 (fun ds d h => by obtain ⟨_, _, rfl, _⟩ := h; rfl) ?_
  rintro f cdv A outer s H E F0 H0 ds d hr ⟨n, fa, rfl, rfl, h1, h2, h3, h4⟩
  have nd := sc93.nd
  obtain ⟨base0, eb⟩ : ∃ b0, b0 = n.moves ++ fa.moves.map (shiftM n.size) := ⟨_, rfl⟩
  have lb : base0.length ≤ 24 := by rw [eb, List.length_append, List.length_map]; omega
  obtain ⟨fl, efl⟩ : ∃ fl : Nat → List (Nat × Nat × Nat), fl = fun s => (fa.moves.filter fun m => m.1 == 0).map fun m => (s, m.2.1, m.2.2 + n.size) := ⟨_, rfl⟩
  have lfl : ∀ s, (fl s).length ≤ 12 := fun s => by rw [efl]; simp only [List.length_map]; exact Nat.le_trans (List.length_filter_le _ _) h2
  refine dss_cons (ds_new (xs := base0.map mvD) (i := 2) nd rfl (by walk_at "loc") ?_ ?_)
  · rw [eb, List.map_append]
    exact dn_cat (by simp; omega) (DE.b (DN.e (dn_listT (by rfl) T.list (fw1 (by exact va 0))))) (DE.b (de_callC (ds := [fwD fa, .int n.size]) c92 (by walk_at "room") (by rfl) (da_cons (by exact va 1) (da_cons (fw0 (by exact va 0)) da_nil)) ⟨fa, n.size, rfl, rfl, by omega⟩))
  refine dss_cons (ds_for (ts := n.ends) (mk := fun (i : Nat) => D.int i) (fun t => [(3, .int t)]) PassesOwn.never rfl (by rw [← nums_map]; exact di_tup (fw2 (by exact va 0))) (by walk_at "pg") (fun t _ => tgt_name 3 _)
    (fun k ρ _ => ∃ u, ρ = [.sh (fwD n), .sh (fwD fa), .own ((base0 ++ (n.ends.take k).flatMap fl).map mvD), u, .un, .un, .un, .un]) ⟨.un, by simp; rfl⟩ ?_ ?_)
  · rintro k t ρ' z' ht ⟨u, rfl⟩
    have lk : ((n.ends.take k).flatMap fl).length ≤ 72 := by
      have := flatMap_len fl 12 lfl (n.ends.take k)
      have h5 : (n.ends.take k).length ≤ 6 := Nat.le_trans (by rw [List.length_take]; exact Nat.min_le_right _ _) h3
      have : (n.ends.take k).length * 12 ≤ 6 * 12 := Nat.mul_le_mul_right _ h5
      omega
    refine dss_cons (ds_extend (i := 2) (ys := (fl t).map mvD) rfl rfl (by walk_at "vis") (DN.e ?_) (by simp only [List.length_map, List.length_append]; have := lfl t; omega) (dss_nil ⟨.sh (.int t), ?_⟩))
    · rw [efl]
      show DN g _ _ _ (((fa.moves.filter fun m => m.1 == 0).map fun m => (t, m.2.1, m.2.2 + n.size)).map mvD)
      rw [List.map_map]
      refine dn_map3If (ts := fa.moves) (f1 := fun m => .int m.1) (f2 := fun m => .str (chr m.2.1)) (f3 := fun m => .int m.2.2) (b := fun m => m.1 == 0) (y1 := "_law_here") (y2 := "_law_sign") (y3 := "_law_to") (i := 5) (j := 6) (k := 7) rfl nd (di_tup (fw1 (by exact va 1))) (blkOk_by (by rfl)) (fun s H C cl fp => by walk_at "pg") (fun s H C cl fp m hm => ?_) (fun s H C cl fp m hm _ => ?_) (by omega)
      · have e : (m.1 == 0) = decide ((m.1 : Int) = 0) := by
          rw [Bool.eq_iff_iff]
          simp
        rw [e]
        exact dt_eqI (by walk_at "db") (by walk_at "db")
      · exact de_tup (ds := [.int t, .str (chr m.2.1), .int ((m.2.2 : Int) + n.size)]) (da_cons (by exact va 3) (da_cons (by exact va 6) (da_cons (de_add (DE.b (by exact va 7)) (DE.b (fw0 (by exact va 0)))) da_nil))) (by simp)
    · rw [flatMap_take fl ht, ← List.append_assoc, List.map_append (l₂ := fl t)]
      rfl
  · rintro ρ' z' ⟨u, rfl⟩
    rw [List.take_length]
    have hraw : base0 ++ n.ends.flatMap fl = behindRaw n fa := by rw [eb, efl]; rfl
    rw [hraw]
    have lraw : (behindRaw n fa).length ≤ 200 := by
      rw [← hraw, List.length_append]
      have := flatMap_len fl 12 lfl n.ends
      have : n.ends.length * 12 ≤ 6 * 12 := Nat.mul_le_mul_right _ h3
      omega
    refine dss_fix (i := 2) rfl ?_
    refine dss_cons (ds_lc (own := [("_law_state", 3)]) (ts := fa.ends) (mk := fun (i : Nat) => D.int i) (e := fun i => .int ((i : Int) + n.size)) (i := 4) rfl nd rfl rfl rfl (by rw [← nums_map]; exact di_tup (fw2 (by exact va 1))) (blkOk_by (by rfl)) (Lc.of0 (fun s H C cl fp => by walk_at "pg") (fun s H C cl fp t ht => de_add (by walk_at "db") (DE.b (fw0 (by exact va 0)))) (by omega)) ?_)
    rw [filter_yes]
    refine dss_fix (i := 4) rfl ?_
    have ee : (fa.ends.map fun (i : Nat) => D.int ((i : Int) + n.size)) = (nums (fa.ends.map (· + n.size))).map D.int := by rw [nums, List.map_map, List.map_map]; rfl
    rw [ee]
    have fin : ∀ es : List Nat, es = behindEnds n fa → DSs (sy0 g) F0 H0 (bodyX P w K mg base ["_law_near", "_law_far", "_law_moves", "_law_state", "_law_ends", "_law_here", "_law_sign", "_law_to"] "_law_behind" (defScope s93) f cdv A outer s H E) ((defBody s93).drop 4)
        [.sh (fwD n), .sh (fwD fa), .sh (.lst ((behindRaw n fa).map mvD)), u, .sh (intsD (nums es)), .un, .un, .un] z' ⟨fun _ _ => fwD (behindF n fa) = .non, fun d' _ => d' = fwD (behindF n fa), fun _ _ => False, fun _ _ => False⟩ := by
      intro es hes
      refine dss_cons (ds_ret (d := fwD (behindF n fa)) ?_ rfl)
      have e9 : fwD (behindF n fa) = .tup [.int ((n.size : Int) + fa.size), .tup (((behindRaw n fa).map mvD).mergeSort leD), .tup ((nums es).map D.int)] := by
        rw [sort_mv, hes]
        rfl
      rw [e9]
      exact de_tup (da_cons (de_add (DE.b (fw0 (by exact va 0))) (DE.b (fw0 (by exact va 1)))) (da_cons (de_tupleL (by rfl) T.tuple (DE.b (DN.e (dn_sortedD (by rfl) T.sorted (by exact room100 hr) (sort_moves (by omega)) (by exact DE.b (va 2)))))) (da_cons (de_tupleL (by rfl) T.tuple (by exact DE.b (va 4))) da_nil))) (by simp)
    refine dss_cons (ds_if (b := decide ((0 : Int) ∈ nums fa.ends)) (dt_inT (by walk_at "db") (DE.b (fw2 (by exact va 1)))) (fun hq => ?_) fun hq => dss_nil (fin _ ?_))
    · have hq : 0 ∈ fa.ends := by
        have := of_decide_eq_true hq
        simp only [nums, List.mem_map] at this
        obtain ⟨i, hi, e⟩ := this
        have : i = 0 := by omega
        exact this ▸ hi
      refine dss_cons (ds_set (d := intsD (nums (n.ends ++ fa.ends.map (· + n.size)))) (i := 4) nd rfl (by walk_at "loc") ?_ (dss_nil (fin _ (by rw [behindEnds, if_pos hq]))))
      have e8 : intsD (nums (n.ends ++ fa.ends.map (· + n.size))) = .lst ((nums n.ends).map D.int ++ (nums (fa.ends.map (· + n.size))).map D.int) := by rw [intsD, nums, List.map_append, List.map_append]; rfl
      rw [e8]
      exact DN.e (dn_cat (by simp [nums]; omega) (DE.b (DN.e (dn_listT (by rfl) T.list (fw2 (by exact va 0))))) (by exact DE.b (va 4)))
    · have hq : 0 ∉ fa.ends := fun hm => by
        have := of_decide_eq_false hq
        exact this (List.mem_map.mpr ⟨0, hm, rfl⟩)
      rw [behindEnds, if_neg hq]
abbrev s94 : Stmt := top 94
theorem sc94 : FnScope ["_law_near", "_law_far", "_law_moves", "_law_ends", "_law_here", "_law_sign", "_law_to", "_law_state"] ["_law_near", "_law_far"] (defScope s94) := ⟨rfl, rfl, rfl, by decide +kernel, rfl, by decide +kernel, by decide +kernel⟩
def R94 (ds : List D) (d : D) : Prop := ∃ n f : Fm, ds = [fwD n, fwD f] ∧ d = fwD (besideF n f) ∧ n.moves.length ≤ 12 ∧ f.moves.length ≤ 12 ∧ n.ends.length ≤ 6 ∧ f.ends.length ≤ 6
theorem zero_b (m : Nat × Nat × Nat) : (m.1 == 0) = decide ((m.1 : Int) = 0) := by
  rw [Bool.eq_iff_iff]
  simp
theorem zero_in {l : List Nat} : decide ((0 : Int) ∈ nums l) = decide (0 ∈ l) := by
  congr 1
  simp only [nums, List.mem_map, eq_iff_iff]
  exact ⟨fun ⟨a, h1, h2⟩ => by have e : a = 0 := by omega
                               rw [← e]; exact h1, fun h => ⟨0, h, rfl⟩⟩
theorem ok94 (T : Tx g K mg) (h : Def P w K mg base "_law_beside" s94 ["_law_near", "_law_far"]) (c92 : Cal g P w K mg base "_law_moved" 1 ["_law_w", "_law_by"] R92) : Cal g P w K mg base "_law_beside" 2 ["_law_near", "_law_far"] R94 := by
  refine cal_of h sc94 (fun ds d h => by obtain ⟨_, _, rfl, _⟩ := h; rfl) ?_
  rintro f cdv A outer s H E F0 H0 ds d hr ⟨n, fa, rfl, rfl, h1, h2, h3, h4⟩
  have nd := sc94.nd
  obtain ⟨b1, e1⟩ : ∃ b1, b1 = (n.moves.filter fun m => m.1 == 0).map fun m => ((0 : Nat), m.2.1, m.2.2 + 1) := ⟨_, rfl⟩
  obtain ⟨b2, e2⟩ : ∃ b2, b2 = (fa.moves.filter fun m => m.1 == 0).map fun m => ((0 : Nat), m.2.1, m.2.2 + 1 + n.size) := ⟨_, rfl⟩
  have l1 : b1.length ≤ 12 := by rw [e1, List.length_map]; exact Nat.le_trans (List.length_filter_le _ _) h1
  have l2 : b2.length ≤ 12 := by rw [e2, List.length_map]; exact Nat.le_trans (List.length_filter_le _ _) h2
  refine dss_cons (ds_lc (own := [("_law_here", 4), ("_law_sign", 5), ("_law_to", 6)]) (ts := n.moves) (mk := fun m => .tup [.int m.1, .str (chr m.2.1), .int m.2.2]) (b := fun m => m.1 == 0) (e := fun m => mvD (0, m.2.1, m.2.2 + 1)) (i := 2) rfl nd rfl rfl rfl (di_tup (fw1 (by exact va 0))) (blkOk_by (by rfl))
    (Lc.tri1 (fun s H C cl fp => by walk_at "pg") (fun s H C cl fp m hm => ?_) (fun s H C cl fp m hm _ => ?_) (by omega)) ?_)
  · rw [zero_b]
    exact dt_eqI (by walk_at "db") (by walk_at "db")
  · show DE g _ _ _ (.tup [.int 0, .str (chr m.2.1), .int ((m.2.2 : Int) + 1)])
    exact de_tup (da_cons de_int (da_cons (by exact va 5) (da_cons (de_add (DE.b (by exact va 6)) (DE.b de_int)) da_nil))) (by simp)
  have q1 : (n.moves.filter fun m => m.1 == 0).map (fun m => mvD (0, m.2.1, m.2.2 + 1)) = b1.map mvD := by rw [e1, List.map_map]; rfl
  rw [q1]
  refine dss_cons (ds_extend (i := 2) (ys := b2.map mvD) rfl rfl (by walk_at "vis") (DN.e ?_) (by simp only [List.length_map]; omega) ?_)
  · rw [e2, List.map_map]
    refine dn_map3If (ts := fa.moves) (f1 := fun m => .int m.1) (f2 := fun m => .str (chr m.2.1)) (f3 := fun m => .int m.2.2) (b := fun m => m.1 == 0) (y1 := "_law_here") (y2 := "_law_sign") (y3 := "_law_to") (i := 4) (j := 5) (k := 6) rfl nd (di_tup (fw1 (by exact va 1))) (blkOk_by (by rfl)) (fun s H C cl fp => by walk_at "pg") (fun s H C cl fp m hm => ?_) (fun s H C cl fp m hm _ => ?_) (by omega)
    · rw [zero_b]
      exact dt_eqI (by walk_at "db") (by walk_at "db")
    · show DE g _ _ _ (.tup [.int 0, .str (chr m.2.1), .int ((m.2.2 : Int) + 1 + n.size)])
      exact de_tup (da_cons de_int (da_cons (by exact va 5) (da_cons (de_add (DE.b (de_add (DE.b (by exact va 6)) (DE.b de_int))) (DE.b (fw0 (by exact va 0)))) da_nil))) (by simp)
  refine dss_fix (i := 2) rfl ?_
  have ls : (b1.map mvD ++ b2.map mvD).length ≤ 24 := by rw [List.length_append, List.length_map, List.length_map]; omega
  refine dss_cons (ds_set (d := .lst ((besideRaw n fa).map mvD)) (i := 2) nd rfl (by walk_at "loc") ?_ ?_)
  · have q2 : (besideRaw n fa).map mvD = ((b1.map mvD ++ b2.map mvD) ++ (n.moves.map (shiftM 1)).map mvD) ++ (fa.moves.map (shiftM (1 + n.size))).map mvD := by
      rw [besideRaw, e1, e2, List.map_append, List.map_append, List.map_append]
    rw [q2]
    refine DN.e (dn_cat (by simp only [List.length_append, List.length_map] at ls ⊢; omega) (DE.b (DN.e (dn_cat (by simp only [List.length_append, List.length_map] at ls ⊢; omega) (by exact DE.b (va 2)) (DE.b (de_callC (ds := [fwD n, .int 1]) c92 (by walk_at "room") (by rfl) (by walk_at "da") ⟨n, 1, rfl, rfl, by omega⟩))))) (DE.b (de_callC (ds := [fwD fa, .int (1 + (n.size : Int))]) c92 (by walk_at "room") (by rfl) (da_cons (by exact va 1) (da_cons (de_add (by walk_at "db") (DE.b (fw0 (by exact va 0)))) da_nil)) ⟨fa, 1 + n.size, ?_, rfl, by omega⟩)))
    rw [Int.natCast_add]
    rfl
  have lraw : (besideRaw n fa).length ≤ 200 := by
    have : (besideRaw n fa).length = b1.length + b2.length + n.moves.length + fa.moves.length := by rw [besideRaw, e1, e2]; simp only [List.length_append, List.length_map]
    omega
  obtain ⟨en, een⟩ : ∃ en, en = n.ends.map (· + 1) ++ fa.ends.map (· + 1 + n.size) := ⟨_, rfl⟩
  refine dss_cons (ds_set (d := intsD (nums en)) (i := 3) nd rfl (by walk_at "loc") ?_ ?_)
  · have q3 : intsD (nums en) = .lst ((n.ends.map fun (i : Nat) => D.int ((i : Int) + 1)) ++ (fa.ends.map fun (i : Nat) => D.int ((i : Int) + 1 + n.size))) := by
      rw [een, intsD, nums, List.map_append, List.map_append, List.map_map, List.map_map, List.map_map, List.map_map]
      rfl
    rw [q3]
    refine DN.e (dn_cat (by simp; omega) (DE.b (DN.e ?_)) (DE.b (DN.e ?_)))
    · exact dn_map (ts := n.ends) (mk := fun (i : Nat) => D.int i) (j := 7) rfl nd (by rw [← nums_map]; exact di_tup (fw2 (by exact va 0))) (blkOk_by (by rfl)) (fun s H C cl fp => by walk_at "pg") (fun s H C cl fp t ht => de_add (by walk_at "db") (by walk_at "db")) (by omega)
    · exact dn_map (ts := fa.ends) (mk := fun (i : Nat) => D.int i) (j := 7) rfl nd (by rw [← nums_map]; exact di_tup (fw2 (by exact va 1))) (blkOk_by (by rfl)) (fun s H C cl fp => by walk_at "pg") (fun s H C cl fp t ht => de_add (DE.b (de_add (by walk_at "db") (by walk_at "db"))) (DE.b (fw0 (by exact va 0)))) (by omega)
  have fin : ∀ es : List Nat, es = besideEnds n fa → DSs (sy0 g) F0 H0 (bodyX P w K mg base ["_law_near", "_law_far", "_law_moves", "_law_ends", "_law_here", "_law_sign", "_law_to", "_law_state"] "_law_beside" (defScope s94) f cdv A outer s H E) ((defBody s94).drop 5)
      [.sh (fwD n), .sh (fwD fa), .sh (.lst ((besideRaw n fa).map mvD)), .sh (intsD (nums es)), .un, .un, .un, .un] () ⟨fun _ _ => fwD (besideF n fa) = .non, fun d' _ => d' = fwD (besideF n fa), fun _ _ => False, fun _ _ => False⟩ := by
    intro es hes
    refine dss_cons (ds_ret (d := fwD (besideF n fa)) ?_ rfl)
    have e9 : fwD (besideF n fa) = .tup [.int (1 + (n.size : Int) + fa.size), .tup (((besideRaw n fa).map mvD).mergeSort leD), .tup ((nums es).map D.int)] := by
      rw [sort_mv, hes]
      rfl
    rw [e9]
    exact de_tup (da_cons (de_add (DE.b (de_add (by walk_at "db") (DE.b (fw0 (by exact va 0))))) (DE.b (fw0 (by exact va 1)))) (da_cons (de_tupleL (by rfl) T.tuple (DE.b (DN.e (dn_sortedD (by rfl) T.sorted (by exact room100 hr) (sort_moves (by omega)) (by exact DE.b (va 2)))))) (da_cons (de_tupleL (by rfl) T.tuple (by exact DE.b (va 3))) da_nil))) (by simp)
  refine dss_cons (ds_if (b := decide ((0 : Int) ∈ nums n.ends) || decide ((0 : Int) ∈ nums fa.ends)) (DW.t (dw_or (dt_inT (by walk_at "db") (DE.b (fw2 (by exact va 0)))) fun _ => dw_or1 (dt_inT (by walk_at "db") (DE.b (fw2 (by exact va 1)))))) (fun hq => ?_) fun hq => dss_nil (fin _ ?_))
  · rw [zero_in, zero_in, Bool.or_eq_true, decide_eq_true_eq, decide_eq_true_eq] at hq
    refine dss_cons (ds_set (d := intsD (nums ([0] ++ en))) (i := 3) nd rfl (by walk_at "loc") ?_ (dss_nil (fin _ (by rw [besideEnds, if_pos hq, een]))))
    have e8 : intsD (nums ([0] ++ en)) = .lst ([.int 0] ++ (nums en).map D.int) := rfl
    rw [e8]
    exact DN.e (dn_cat (by rw [een]; simp [nums]; omega) (DE.b (DN.e (dn_lst (ds := [.int 0]) (by walk_at "da") (by simp)))) (by exact DE.b (va 3)))
  · rw [zero_in, zero_in, Bool.or_eq_false_iff, decide_eq_false_iff_not, decide_eq_false_iff_not] at hq
    rw [besideEnds, if_neg (fun k => k.elim hq.1 hq.2), een]
    rfl
end
section
variable {g : Gx} {P : Program} {w : World} {K : PySem.W.Frag} {mg : Str → Option Value} {base : Heap}
/-! ### _law_form -/
section
variable {S : Sy g} {F0 H0 F H F2 H2 : Hp} {ρ : DL.Env} {z : S.ζ} {σ : L2.St}
theorem RetS.of (r : RetS S F0 H0 F H z) (s : Step g F H F2 H2) : RetS S F H F2 H2 z := DL.RetS.step s ⟨r.base, DL.Sub.refl F, fun a o e _ _ => e, fun a e => e, fun a o e => .inl e, r.wF, r.zz⟩
end
/-- a value, with the step of what it changes -/
def tV (S : Sy g) (F0 H0 : Hp) (ρ : DL.Env) (z : S.ζ) (post : D → S.ζ → Prop) : TE := fun σ H Q => ∃ F, RepS S F0 H0 F H ρ z σ ∧ ∀ d z' v F' H', post d z' → RetS S F H F' H' z' → Is g F' d v → Q v H'
def tVT (S : Sy g) (F0 H0 : Hp) (ρ : DL.Env) (z : S.ζ) (post : Bool → S.ζ → Prop) : TT := fun σ H Q => ∃ F, RepS S F0 H0 F H ρ z σ ∧ ∀ b z' F' H', post b z' → RetS S F H F' H' z' → Q b H'
section
variable {X : Cx} {F0 H0 : Hp} {L : DLoc} {z : Deck} {ρ : DL.Env} {Pd : DEnds Deck} {pos p1 p2 p3 : Pos} {x nm : Str} {e a b : Expr} {k i j : Nat} {ps : List Str} {Pre : List D → Deck → Prop} {Post : List D → Deck → D → Deck → Prop} {d0 : D}
/-- nm(deck, e), e plain -/
theorem ev_dk (c : CalK g X.prog X.w X.K X.mg X.base nm k ps Pre Post) (hr : Room k X.A) (hg : Gl X nm) (h0 : ρ[i]? = some (.val (.ref L.dk))) (hN : X.N[i]? = some x) (hv : Vis X.env.scope x) (ha : DE g X e ρ d0) (hp : Pre [d0] z)
    (hd : (x == ("__debug__" : Str)) = false := by decide) (hcd : (x == ("__classdict__" : Str)) = false := by decide) (hdb : (nm == ("__debug__" : Str)) = false := by decide)
    (he : starEach (.Name x p1 :: [e]) X.env = (false, eval (.Name x p1) X.env) :: starEach [e] X.env := by rfl) (he2 : starEach [e] X.env = (false, eval e X.env) :: starEach [] X.env := by rfl) (hpl : (backTo pos (starEach [e] X.env)).any (·.1) = false := by rfl) :
    PE X (.Call (.Name nm p2) (.Name x p1 :: [e]) [] pos) (tV (deckS g L) F0 H0 ρ z (fun d z2 => Post [d0] z d z2)) := by
  obtain ⟨f, fd, Fn, hm, hk, hb⟩ := c
  refine PE.wk (pe_call Fn hr hg hm hk hb .nil pass0 (pa_cons (pe_var hN hv hd hcd) (pa_cons ha pa_nil he2) he) hdb he hpl) fun σ H Q ⟨F, r, q⟩ => ?_
  obtain ⟨o, hs, ho⟩ := r.e.at h0
  subst ho
  refine ⟨.ref L.dk, hs, F, r.e, fun v F1 H1 s1 iv => ?_⟩
  have r1 := r.step s1
  show spF (deckS g) (fun L => V.ref L.dk) (fun _ ds z => Pre ds z) (fun _ ds z d z' => Post ds z d z') ((V.ref L.dk :: [v]) ++ []) H1 Q E0
  rw [List.append_nil]
  exact ⟨L, F1, z, [d0], [v], r1.e.base, rfl, .cons iv .nil, r1.r.wF, r1.r.zz, hp, fun d z2 v2 F' H' hq t iv2 => q d z2 v2 F' H' hq ((RetS.of r.r s1).trans t) iv2⟩
theorem ev_w {post : D → Deck → Prop} (h : PE X e (tV (deckS g L) F0 H0 ρ z post)) : EW (deckS g L) F0 H0 X e ρ z post := PE.wk h fun σ H Q ⟨F, r, q⟩ => ⟨F, r, fun d z' v F' H' hp t iv => q d z' v F' H' hp (r.ret t) t.sub0 iv⟩
/-- i + e -/
theorem ev_add {n : Int} {p q' : D → Deck → Prop} (h : PE X e (tV (deckS g L) F0 H0 ρ z p)) (hk : ∀ d z', p d z' → ∃ m : Int, d = .int m ∧ q' (.int (n + m)) z') : PE X (.BinOp (.Constant (.int n) j p1) .Add e pos) (tV (deckS g L) F0 H0 ρ z q') := by
  refine PE.wk (pe_op op_add pe_int h) fun σ H Q ⟨F, r, q⟩ => ⟨F, r, fun d z' v F' H' hp t iv => ?_⟩
  obtain ⟨m, rfl, hq⟩ := hk d z' hp
  have ev : v = .int m := iv
  exact ⟨n, m, rfl, ev, q _ z' _ F' H' hq t rfl⟩
theorem ev_eq {n : Int} {p : D → Deck → Prop} {q' : Bool → Deck → Prop} (h : PE X e (tV (deckS g L) F0 H0 ρ z p)) (hk : ∀ d z', p d z' → ∃ m : Int, d = .int m ∧ q' (decide (m = n)) z') : PT X (.Compare e [.Eq] [.Constant (.int n) j p1] pos) (tVT (deckS g L) F0 H0 ρ z q') := by
  refine PT.wk (pt_cmpR op_eq h pe_int (nomark _)) fun σ H Q ⟨F, r, q⟩ => ⟨F, r, fun d z' v F' H' hp t iv => ?_⟩
  obtain ⟨m, rfl, hq⟩ := hk d z' hp
  unfold tC
  exact opd_eqI F' H' v (.int n) t.base (.inl iv) (.inl rfl) _ fun u F3 H3 s3 iu => ⟨_, iu, q _ z' F3 H3 hq (DL.RetS.step s3 t)⟩
/-- x, y, w = a, b, c: the middle one a new list of one's own -/
theorem ds_par3V {i1 i2 i3 : Nat} {x1 x2 x3 : Str} {q1 q2 q3 pt pt2 : Pos} {kt k2 : Nat} {c : Expr} {xs : List D} {pa : D → Deck → Prop} {pc : D → Deck → D → Deck → Prop} (hc : X.calm = true) (hN : X.N.Nodup) (hi : X.N[i1]? = some x1) (hj : X.N[i2]? = some x2) (hl : X.N[i3]? = some x3) (hij : i1 ≠ i2) (hil : i1 ≠ i3) (hjl : i2 ≠ i3)
    (hx : X.env.scope.names.lookup x1 = some .local) (hy : X.env.scope.names.lookup x2 = some .local) (hz : X.env.scope.names.lookup x3 = some .local) (hno : ∀ sl ∈ ρ, ∀ ys, sl ≠ .own ys)
    (ha : EW (deckS g L) F0 H0 X a ρ z pa) (hb : DN g X b ρ xs) (hcc : ∀ d z', pa d z' → PE X c (tV (deckS g L) F0 H0 ρ z' (pc d z'))) (hw : swappedStores [.Tuple [.Name x1 q1, .Name x2 q2, .Name x3 q3] kt pt] (.Tuple [a, b, c] k2 pt2) X.env = pure (some [x1, x2, x3]))
    (n : ∀ d z' d3 z3, pa d z' → pc d z' d3 z3 → Pd.nx (((ρ.set i1 (.sh d)).set i2 (.own xs)).set i3 (.sh d3)) z3)
    (hs : swapsWithSole [.Tuple [.Name x1 q1, .Name x2 q2, .Name x3 q3] kt pt] (.Tuple [a, b, c] k2 pt2) pos.line X.env = pure false := by rfl) (h1 : starEach [a, b, c] X.env = (false, eval a X.env) :: starEach [b, c] X.env := by rfl) (h2 : starEach [b, c] X.env = (false, eval b X.env) :: starEach [c] X.env := by rfl)
    (h3 : starEach [c] X.env = (false, eval c X.env) :: starEach [] X.env := by rfl) : DS (deckS g L) F0 H0 X (.Assign [.Tuple [.Name x1 q1, .Name x2 q2, .Name x3 q3] kt pt] (.Tuple [a, b, c] k2 pt2) pos) ρ z Pd := by
  have hcc2 : PE X c (fun σ H Q => ∃ d z', pa d z' ∧ tV (deckS g L) F0 H0 ρ z' (pc d z') σ H Q) := ⟨fun pins s σ H Q I ⟨d, z', hp, q⟩ => (hcc d z' hp).run pins s σ H Q I q⟩
  refine PS.wk (L2.ps_par3 hc hN hi hj hl hij hil hjl hx hy hz (pa_cons ha (pa_cons hb (pa_cons hcc2 pa_nil h3) h2) h1) hw hs) fun E σ H ⟨F, r, hn, _⟩ => ⟨F, r, fun d z' v F1 H1 hp r1 s1 iv => ⟨F1, r1.e, fun l vs F2 H2 s2 hl1 f2 hl2 al => ⟨d, z', hp, F2, r1.step s2, fun d3 z3 v3 F3 H3 hp3 t iv3 => ?_⟩⟩⟩
  have r2 := r1.step s2
  have lW : l ∉ (deckS g L).W := fun hm => by
    obtain ⟨o, ho, _⟩ := (deckS g L).trk z' F1 H1 r1.r.zz l hm
    rw [hl1] at ho
    cases ho
  have hl3 : H3 l = some (.lst vs) := t.extW l _ hl2 (fun ps e => by cases e) lW
  have f3 : F3 l = none := by
    cases q : F3 l with
    | none => rfl
    | some o =>
      rcases t.new0 l o q with k | k
      · rw [f2] at k; cases k
      · rw [hl2] at k; cases k
  have r3 := r2.ret t
  have iv' : Is g F3 d v := Is.mono t.sub0 _ _ (Is.mono s2.sub _ _ iv)
  have r4 := r3.sh (i := i1) iv'
  have hno2 : ∀ (j : Nat) (ys : List D), (ρ.set i1 (.sh d))[j]? = some (.own ys) → (σ.set i1 (some v))[j]? ≠ some (some (.ref l)) := fun j ys e => by
    rcases List.mem_or_eq_of_mem_set (List.mem_of_getElem? e) with h | h
    · exact absurd rfl (hno _ h ys)
    · cases h
  have r5 := r4.ow (i := i2) (a := l) f3 hl3 (All.mono t.sub0 _ _ al) (r1.r.dom0 l hl1) lW hno2
  have r6 := r5.sh (i := i3) iv3
  exact ⟨v, .ref l, v3, rfl, hn _ z3 _ F3 H3 (n d z' d3 z3 hp hp3) r6 ((s1.trans s2.sub).trans t.sub0)⟩
end
end
section
variable {g : Gx} {P : Program} {w : World} {K : PySem.W.Frag} {mg : Str → Option Value} {base : Heap}
/-! ### a comprehension whose test changes the state -/
section
variable {S : Sy g} {F0 H0 : Hp} {ρ : DL.Env} {z : S.ζ} {X : Cx} {α : Type} {elt tg iter : Expr} {ifs : List Expr} {scope : Scope} {own : List (Str × Nat)} {pos : Pos} {G : TG} {ts : List α} {mk : α → D} {J : Nat → S.ζ → Prop}
/-- what such a comprehension's parts have to show -/
structure LcW (g : Gx) (S : Sy g) (X : Cx) (ρ : DL.Env) (elt tg : Expr) (ifs : List Expr) (scope : Scope) (vs : List Nat) (G : TG) (ts : List α) (mk : α → D) (as : α → List (Nat × D)) (J : Nat → S.ζ → Prop) (e : α → D) : Prop where
  tgt : ∀ t ∈ ts, Tgt g G (mk t) (as t)
  sub : ∀ t ∈ ts, ∀ j ∈ (as t).map (·.1), j ∈ vs
  pg : ∀ (s : Shared) (H : Hp) (C : Addr) (cl : List (Str × Addr)) (fp : List Addr), PG (X.blk s H scope (compEnvC scope cl C X.env) fp) tg G
  tst : ∀ (s : Shared) (H : Hp) (C : Addr) (cl : List (Str × Addr)) (fp : List Addr), ∀ i t, ts[i]? = some t → ∀ (F0 H0 : Hp) (z : S.ζ), J i z → PTs (X.blk s H scope (compEnvC scope cl C X.env) fp) ifs (tVT S F0 H0 (putD (wipeD ρ vs) (as t)) z fun _ z' => J (i + 1) z')
  elt : ∀ (s : Shared) (H : Hp) (C : Addr) (cl : List (Str × Addr)) (fp : List Addr), ∀ t ∈ ts, DE g (X.blk s H scope (compEnvC scope cl C X.env) fp) elt (putD (wipeD ρ vs) (as t)) (e t)
  small : ts.length ≤ 1000
  free : ∀ sl ∈ ρ, ∀ xs, sl ≠ .own xs
def lwT (S : Sy g) (ρ : DL.Env) (vs : List Nat) (ts : List α) (as : α → List (Nat × D)) (J : Nat → S.ζ → Prop) : TT := fun σ H Q => ∃ i t, ts[i]? = some t ∧ ∃ (F0 H0 : Hp) (z : S.ζ), J i z ∧ tVT S F0 H0 (putD (wipeD ρ vs) (as t)) z (fun _ z' => J (i + 1) z') σ H Q
def lwE (g : Gx) (ρ : DL.Env) (vs : List Nat) (ts : List α) (as : α → List (Nat × D)) (e : α → D) : TE := fun σ H Q => ∃ t ∈ ts, tD g (putD (wipeD ρ vs) (as t)) (e t) σ H Q
def tVN (S : Sy g) (F0 H0 : Hp) (ρ : DL.Env) (z : S.ζ) (ts : List α) (J : Nat → S.ζ → Prop) (e : α → D) : TE := fun σ H Q => ∃ F, RepS S F0 H0 F H ρ z σ ∧ J 0 z ∧ ∀ (ys : List α) (z' : S.ζ) a vs F' H', ys.Sublist ts → J ts.length z' → RetS S F H F' H' z' → H a = none → F' a = none → H' a = some (.lst vs) → All g F' (ys.map e) vs → Q (.ref a) H'
theorem noown_wipe {ρ : DL.Env} (h : ∀ sl ∈ ρ, ∀ xs, sl ≠ .own xs) : ∀ vs : List Nat, ∀ sl ∈ wipeD ρ vs, ∀ xs, sl ≠ .own xs
  | [], sl, hs, xs => h sl hs xs
  | v :: vs, sl, hs, xs => by
    rcases List.mem_or_eq_of_mem_set hs with q | q
    · exact noown_wipe h vs sl q xs
    · rw [q]; intro k; cases k
theorem noown_put : ∀ (as : List (Nat × D)) {ρ : DL.Env}, (∀ sl ∈ ρ, ∀ xs, sl ≠ .own xs) → ∀ sl ∈ putD ρ as, ∀ xs, sl ≠ .own xs
  | [], ρ, h => h
  | (j, d) :: as, ρ, h => noown_put as (ρ := ρ.set j (.sh d)) fun sl hs xs => by
    rcases List.mem_or_eq_of_mem_set hs with q | q
    · exact h sl q xs
    · rw [q]; intro k; cases k
theorem lcw_sem {vs : List Nat} {as : α → List (Nat × D)} {e : α → D} (L : LcW g S X ρ elt tg ifs scope vs G ts mk as J e) {σ : L2.St} {H : Hp} {Q : VK} (h : tVN S F0 H0 ρ z ts J e σ H Q) :
    tLc (tI g ρ (ts.map mk)) G (lwT S ρ vs ts as J) (lwE g ρ vs ts as e) vs σ H Q := by
  obtain ⟨F, rp, hJ, q⟩ := h
  refine ⟨F, rp.e, fun F1 H1 Jt s1 gv D hD => ?_⟩
  have f1 : F1 D = none := frozen_free s1.base hD
  have st0 := Step.alloc0 (o := .lst []) s1.base hD
  have hn : H D = none := s1.dom D hD
  have hDW : D ∉ S.W := fun hm => by
    obtain ⟨o, ho, _⟩ := S.trk z F H rp.r.zz D hm
    rw [hn] at ho; cases ho
  refine ⟨fun i m H' => m = ts.length - i ∧ i ≤ ts.length ∧ ∃ F' acc, ∃ (ys : List α) (z' : S.ζ), ys.Sublist (ts.take i) ∧ J i z' ∧ RetS S F H F' H' z' ∧ Sub F1 F' ∧ F' D = none ∧ H' D = some (.lst acc) ∧ All g F' (ys.map e) acc,
    ⟨_, rfl, Nat.zero_le _, F1, [], [], z, List.nil_sublist _, hJ, RetS.of rp.r (s1.trans st0), Sub.refl _, f1, upd_same, rfl⟩, ?_⟩
  rintro i m H' ⟨rfl, hil, F', acc, ys, z', hsl, hJz, s', sb, f', hacc, al⟩
  obtain ⟨g1, g2⟩ := gv i F' H' s'.base sb
  have hacl : acc.length ≤ i := by
    rw [al.len, List.length_map]
    exact Nat.le_trans hsl.length_le (by rw [List.length_take]; exact Nat.min_le_left _ _)
  by_cases hlt : i < ts.length
  · have hti : ts[i]? = some ts[i] := List.getElem?_eq_getElem hlt
    have hm : ts[i] ∈ ts := List.getElem_mem hlt
    obtain ⟨ggo, gy⟩ := g1 (mk ts[i]) (by rw [List.getElem?_map, hti]; rfl)
    have htk : ts.take (i + 1) = ts.take i ++ [ts[i]] := by rw [List.take_add_one, hti]; rfl
    refine .inr ⟨ggo, fun H2 => ∃ F2 acc, ∃ (ys : List α) (z' : S.ζ), ys.Sublist (ts.take (i + 1)) ∧ J (i + 1) z' ∧ RetS S F H F2 H2 z' ∧ Sub F1 F2 ∧ F2 D = none ∧ H2 D = some (.lst acc) ∧ All g F2 (ys.map e) acc,
      fun H2 ⟨F2, acc, ys, z', k0, k00, k1, k2, k3, k4, k5⟩ => ⟨_, by omega, rfl, hlt, F2, acc, ys, z', k0, k00, k1, k2, k3, k4, k5⟩, fun x H2 hy => ?_⟩
    obtain ⟨F2, s2, ix⟩ := gy x H2 hy
    refine L.tgt _ hm F2 H2 x _ s2.base ix _ fun ws alw => ⟨wipe_put (L.sub _ hm), ?_⟩
    have t2 : RetS S F H F2 H2 z' := DL.RetS.step s2 s'
    have rp2 : RepE g F2 H2 (putD (wipeD ρ vs) (as ts[i])) (putV (wipe σ vs) ((as ts[i]).map (·.1)) ws) := (((rp.ret s').step s2).e.wipes vs).puts alw
    have e2 : H2 D = some (.lst acc) := s2.ext D _ hacc (fun ps z => by cases z)
    have f2 : F2 D = none := by
      cases hz : F2 D with
      | none => rfl
      | some o =>
        rcases s2.new D o hz with z | z
        · rw [f'] at z; cases z
        · rw [hacc] at z; cases z
    refine ⟨i, ts[i], hti, F2, H2, z', hJz, F2, RepS.start s2.base rp2 (noown_put _ (noown_wipe L.free vs)) t2.wF t2.zz, fun b z3 F3 H3 hJ3 t3 => ?_⟩
    have t23 : RetS S F H F3 H3 z3 := RetS.trans t2 t3
    have e3 : H3 D = some (.lst acc) := t3.extW D _ e2 (fun ps z => by cases z) hDW
    have f3 : F3 D = none := by
      cases hz : F3 D with
      | none => rfl
      | some o =>
        rcases t3.new0 D o hz with z | z
        · rw [f2] at z; cases z
        · rw [e2] at z; cases z
    have r3 : RepE g F3 H3 (putD (wipeD ρ vs) (as ts[i])) (putV (wipe σ vs) ((as ts[i]).map (·.1)) ws) := ((RepS.start (S := S) s2.base rp2 (noown_put _ (noown_wipe L.free vs)) t2.wF t2.zz).ret t3).e
    cases b with
    | true =>
      refine (if_pos rfl).mpr ⟨ts[i], hm, F3, r3, fun y F4 H4 s4 iy => ?_⟩
      have k1 : F4 D = none := by
        cases hz : F4 D with
        | none => rfl
        | some o =>
          rcases s4.new D o hz with z | z
          · rw [f3] at z; cases z
          · rw [e3] at z; cases z
      have k2 : H4 D = some (.lst acc) := s4.ext D _ e3 (fun ps z => by cases z)
      have st : RetS S F H F4 H4 z3 := DL.RetS.step s4 t23
      refine ⟨acc, k2, small1000 (by have := L.small; omega), F4, acc ++ [y], ys ++ [ts[i]], z3, ?_, hJ3, ?_, (sb.trans s2.sub).trans (t3.sub0.trans s4.sub), k1, upd_same, ?_⟩
      · rw [htk]; exact hsl.append (List.Sublist.refl _)
      · refine ⟨⟨fun c o z => (upd_ne fun w => ?_).trans (st.base.sub c o z), st.base.noT, ?_⟩, st.sub0, fun c o z n hw => (upd_ne fun w => ?_).trans (st.extW c o z n hw), fun c z => ?_, st.new0, st.wF, S.stab z3 F4 H4 F4 _ (Sub.refl _) (fun a ha => upd_ne fun w => hDW (w ▸ ha)) st.zz⟩
        · rw [w, k1] at z; cases z
        · exact fun p hp => by
            obtain ⟨ps, t1, t2, t3⟩ := st.base.tabs p hp
            refine ⟨ps, (upd_ne fun w => ?_).trans t1, t2, fun pos cv hc => ?_⟩
            · rw [w, k2] at t1; cases t1
            · obtain ⟨c, c1, c2⟩ := t3 pos cv hc
              refine ⟨c, c1, (upd_ne fun w => ?_).trans c2⟩
              rw [w, k2] at c2; cases c2
        · rw [w, hn] at z; cases z
        · by_cases w : c = D
          · rw [w]; exact hn
          · rw [upd_ne w] at z; exact st.dom0 c z
      · rw [List.map_append]
        exact (All.mono ((s2.sub.trans t3.sub0).trans s4.sub) _ _ al).app (.cons iy .nil)
    | false =>
      refine (if_neg Bool.false_ne_true).mpr ⟨F3, acc, ys, z3, ?_, hJ3, t23, (sb.trans s2.sub).trans t3.sub0, f3, e3, All.mono (s2.sub.trans t3.sub0) _ _ al⟩
      rw [htk]; exact hsl.trans (List.sublist_append_left _ _)
  · have ei : i = ts.length := by omega
    subst ei
    rw [List.take_length] at hsl
    exact .inl ⟨g2 (by rw [List.length_map]), q ys z' D acc F' H' hsl hJz s' hn f' hacc al⟩
theorem LcW.pts {vs : List Nat} {as : α → List (Nat × D)} {e : α → D} (L : LcW g S X ρ elt tg ifs scope vs G ts mk as J e) (s : Shared) (H : Hp) (C : Addr) (cl : List (Str × Addr)) (fp : List Addr) :
    PTs (X.blk s H scope (compEnvC scope cl C X.env) fp) ifs (lwT S ρ vs ts as J) := ⟨fun pins s1 σ H1 Q I ⟨i, t, ht, F0, H0, z, hz, q⟩ => (L.tst s H C cl fp i t ht F0 H0 z hz).run pins s1 σ H1 Q I q⟩
theorem LcW.pe {vs : List Nat} {as : α → List (Nat × D)} {e : α → D} (L : LcW g S X ρ elt tg ifs scope vs G ts mk as J e) (s : Shared) (H : Hp) (C : Addr) (cl : List (Str × Addr)) (fp : List Addr) :
    PE (X.blk s H scope (compEnvC scope cl C X.env) fp) elt (lwE g ρ vs ts as e) := ⟨fun pins s1 σ H1 Q I ⟨t, ht, q⟩ => (L.elt s H C cl fp t ht).run pins s1 σ H1 Q I q⟩
/-- such a comprehension as a value -/
theorem vn_lc {as : α → List (Nat × D)} {e : α → D} (hc : X.calm = true) (hN : X.N.Nodup) (hi : DI g X tg iter ρ (ts.map mk)) (ok : BlkOk X.N X.env.scope scope own) (L : LcW g S X ρ elt tg ifs scope (own.map (·.2)) G ts mk as J e)
    (hf : ∀ x, foldedSetIterable iter X.env x = pure x := by intro _; rfl) : PE X (.ListComp elt [⟨tg, iter, ifs, 0⟩] scope pos) (tVN S F0 H0 ρ z ts J e) :=
  PE.wk (pe_lc hc hN hi ok L.pg L.pts L.pe hf) fun σ H Q h => lcw_sem L h
theorem RetS.freeze {F1 H1 F H : Hp} {p : Addr} {o : HO} (t : RetS S F1 H1 F H z) (hn : H1 p = none) (hp : H p = some o) (ho : ∀ ps, o ≠ .tbl ps) (fp : F p = none) (hw : p ∉ S.W) : RetS S F1 H1 (upd F p o) H z := by
  refine ⟨⟨fun a u e => ?_, fun a ps e => ?_, t.base.tabs⟩, fun a u e => (upd_ne (ne_of_none (t.sub0 a u e) fp)).trans (t.sub0 a u e), t.extW, t.dom0, fun a u e => ?_, fun a ha => (upd_ne fun (w : a = p) => hw (by rw [← w]; exact ha)).trans (t.wF a ha), S.stab z F H _ H (fun a u e => (upd_ne (ne_of_none e fp)).trans e) (fun _ _ => rfl) t.zz⟩
  · by_cases q : a = p
    · subst q; rw [upd_same] at e; cases e; exact hp
    · rw [upd_ne q] at e; exact t.base.sub a u e
  · by_cases q : a = p
    · subst q; rw [upd_same] at e; exact ho ps (Option.some.inj e)
    · rw [upd_ne q] at e; exact t.base.noT a ps e
  · by_cases q : a = p
    · subst q; exact .inr hn
    · rw [upd_ne q] at e; exact t.new0 a u e
/-- and frozen -/
theorem ev_lc {el : Expr} {e : α → D} (h : PE X el (tVN S F0 H0 ρ z ts J e)) (hz : J 0 z) : PE X el (tV S F0 H0 ρ z fun d z' => J ts.length z' ∧ ∃ ys : List α, ys.Sublist ts ∧ d = .lst (ys.map e)) := by
  refine PE.wk h fun σ H Q ⟨F, r, q⟩ => ⟨F, r, hz, fun ys z' a vs F' H' hs hJ t hn f2 h2 al => ?_⟩
  have hDW : a ∉ S.W := fun hm => by
    obtain ⟨o, ho, _⟩ := S.trk z F H r.r.zz a hm
    rw [hn] at ho; cases ho
  exact q (.lst (ys.map e)) z' (.ref a) _ H' ⟨hJ, ys, hs, rfl⟩ (RetS.freeze t hn h2 (fun ps z => by cases z) f2 hDW) ⟨a, vs, rfl, upd_same, All.mono (fun b u e => (upd_ne (ne_of_none e f2)).trans e) _ _ al⟩
/-- tuple(e) -/
theorem ev_tupL {e : Expr} {p : Pos} {p1 q' : D → S.ζ → Prop} (hg : Gl X "tuple") (hm : X.mg "tuple" = none) (h : PE X e (tV S F0 H0 ρ z p1)) (hk : ∀ d z', p1 d z' → ∃ xs, d = .lst xs ∧ q' (.tup xs) z') (h1 : starEach [e] X.env = (false, eval e X.env) :: starEach [] X.env := by rfl) :
    PE X (.Call (.Name "tuple" p) [e] [] pos) (tV S F0 H0 ρ z q') := by
  refine PE.wk (pe_callTy call_tuple_of hg hm (by decide +kernel) (pa_cons h pa_nil h1) (by decide) (by decide) h1 (by rfl)) fun σ H Q ⟨F, r, q⟩ => ⟨F, r, fun d z' v F' H' hp t iv => ?_⟩
  obtain ⟨xs, rfl, hq⟩ := hk d z' hp
  obtain ⟨a, ws, rfl, hw, al⟩ := iv
  refine ⟨a, ws, rfl, .inl ⟨SqL.of (t.base.sub _ _ hw), fun l hl => ?_⟩⟩
  have st := Step.alloc (o := .tup ws) t.base hl (fun ps z => by cases z)
  exact q (.tup xs) z' _ _ _ hq (DL.RetS.step st t) ⟨l, ws, rfl, upd_same, st.all al⟩
end
end
section
variable {g : Gx} {P : Program} {w : World} {K : PySem.W.Frag} {mg : Str → Option Value} {base : Heap}
abbrev s90 : Stmt := top 90
theorem sc90 : FnScope ["_law_deck_here", "_law_signs", "_law_top", "_law_size", "_law_moves", "_law_often", "_law_state", "_law_sign"] ["_law_deck_here", "_law_signs", "_law_top"] (defScope s90) := ⟨rfl, rfl, rfl, by decide +kernel, rfl, by decide +kernel, by decide +kernel⟩
/-- the deck after at most n draws -/
def Aft (z : Deck) (n : Nat) (z' : Deck) : Prop := z'.draws ≤ z.draws + n ∧ z'.cells.length ≤ z.cells.length
theorem MOk.skip {n k j : Nat} {cs : List Nat} {M : List (Nat × Nat × Nat)} (h : MOk n cs k j M) : MOk n cs k (j + 1) M :=
  ⟨fun x hx => (h.at_ x hx).imp id fun ⟨a, b⟩ => ⟨a, (List.take_sublist_take_left (Nat.le_succ j)).subset b⟩, h.to_, h.up, Nat.le_succ_of_le h.len⟩
theorem MOk.add {n k j c t : Nat} {cs : List Nat} {M : List (Nat × Nat × Nat)} (h : MOk n cs k j M) (hc : cs[j]? = some c) (hp : cs.Pairwise (· < ·)) (ht : t < n) : MOk n cs k (j + 1) (M ++ [(k, c, t)]) := by
  have tk : cs.take (j + 1) = cs.take j ++ [c] := by rw [List.take_add_one, hc]; rfl
  have hp2 : (cs.take j ++ [c]).Pairwise (· < ·) := tk ▸ hp.sublist (List.take_sublist _ _)
  refine ⟨fun x hx => ?_, fun x hx => ?_, ?_, ?_⟩
  · rcases List.mem_append.mp hx with q | q
    · exact h.skip.at_ x q
    · rw [List.mem_singleton] at q
      subst q
      exact .inr ⟨rfl, by rw [tk]; simp⟩
  · rcases List.mem_append.mp hx with q | q
    · exact h.to_ x q
    · rw [List.mem_singleton] at q
      subst q
      exact ht
  · rw [List.pairwise_append]
    refine ⟨h.up, List.pairwise_singleton _ _, fun x hx y hy => ?_⟩
    rw [List.mem_singleton] at hy
    subst hy
    rcases h.at_ x hx with ⟨q, _⟩ | ⟨q, q2⟩
    · exact .inl q
    · exact .inr ⟨q, (List.pairwise_append.mp hp2).2.2 _ q2 c (by simp)⟩
  · rw [List.length_append]
    have := h.len
    simp only [List.length_singleton]
    omega
theorem MOk.next {n k : Nat} {cs : List Nat} {M : List (Nat × Nat × Nat)} (h : MOk n cs k cs.length M) (hl : cs.length ≤ 2) : MOk n cs (k + 1) 0 M :=
  ⟨fun x hx => .inl (by
    rcases h.at_ x hx with ⟨a, b⟩ | ⟨a, b⟩
    · exact ⟨by omega, b⟩
    · exact ⟨by omega, (List.take_sublist _ _).subset b⟩), h.to_, h.up, by have := h.len; omega⟩
def formPre (ds : List D) (z : Deck) : Prop := ∃ (cs : List Nat) (top : Nat), ds = [.str ⟨cs.toArray⟩, .int top] ∧ cs.length ≤ 2 ∧ cs.Pairwise (· < ·) ∧ 0 < top ∧ top ≤ 3 ∧ z.draws + 100 < 2 ^ 50 ∧ z.cells.length ≤ 100
def formPost (ds : List D) (z : Deck) (d : D) (z' : Deck) : Prop := ∃ (cs : List Nat) (top : Nat) (m : Fm), ds = [.str ⟨cs.toArray⟩, .int top] ∧ d = fwD m ∧ 0 < m.size ∧ m.size ≤ top ∧ MOk m.size cs m.size 0 m.moves ∧ m.ends.Sublist (List.range m.size) ∧ Aft z 50 z'
theorem ok90 (T : Tx g K mg) (h : Def P w K mg base "_law_form" s90 ["_law_deck_here", "_law_signs", "_law_top"]) (c88 : CalK g P w K mg base "_law_draw" 1 ["_law_deck_here", "_law_bound"] drawPre drawPost) : CalK g P w K mg base "_law_form" 2 ["_law_deck_here", "_law_signs", "_law_top"] formPre formPost := by
  refine calK_of h sc90 (fun ds z h => by obtain ⟨cs, top, rfl, _⟩ := h; rfl) (by decide) ?_
  rintro f cdv A outer s H E L F0 H0 z ds hr ⟨cs, tp, rfl, hc2, hcp, ht0, ht3, hzd, hzc⟩
  have nd := sc90.nd
  refine dss_cons (ds_par3V (i1 := 3) (i2 := 4) (i3 := 5) (xs := []) (pa := fun d z' => ∃ n : Nat, d = .int n ∧ 0 < n ∧ n ≤ tp ∧ Aft z 1 z') (pc := fun d z' d3 z3 => ∃ n : Nat, d3 = .int n ∧ Aft z 2 z3) rfl nd rfl rfl rfl (by decide) (by decide) (by decide) rfl rfl rfl (by intro sl hsl ys e; subst e; simp [envV] at hsl)
    (ev_w (ev_add (p := fun d z' => drawPost [.int tp] z d z') (ev_dk (i := 0) c88 (by walk_at "room") (by rfl) rfl rfl (by walk_at "vis") (by walk_at "de") ⟨tp, rfl, ht0, by omega, by omega, by omega⟩) ?_))
    (dn_lst (ds := []) da_nil (by simp))
    (fun d z' ⟨n, e, h1, h2, h3⟩ => ev_add (p := fun d z3 => drawPost [.int 3] z' d z3) (ev_dk (i := 0) c88 (by walk_at "room") (by rfl) rfl rfl (by walk_at "vis") (by walk_at "de") ⟨3, rfl, by decide, by decide, by have := h3.1; omega, by have := h3.2; omega⟩) ?_)
    rfl ?_)
  · rintro d z' ⟨b, n, e, rfl, hn, k1, k2⟩
    have eb : (tp : Int) = b := D.int.inj (List.cons.inj e).1
    exact ⟨n, rfl, n + 1, by rw [show (1 : Int) + n = ((n + 1 : Nat) : Int) by omega], by omega, by omega, by omega, k2⟩
  · rintro d z' ⟨b, n2, e, rfl, hn, k1, k2⟩
    exact ⟨n2, rfl, n2 + 1, by rw [show (1 : Int) + n2 = ((n2 + 1 : Nat) : Int) by omega], by have := h3.1; omega, Nat.le_trans k2 h3.2⟩
  · rintro _ z1 _ z2 ⟨n, rfl, hn0, hnt, _⟩ ⟨ot, rfl, ha2⟩
    show DSs (deckS g L) F0 H0 _ _ [.val (.ref L.dk), .sh (.str ⟨cs.toArray⟩), .sh (.int tp), .sh (.int n), .own [], .sh (.int ot), .un, .un] z2 _
    refine dss_cons (ds_for (ts := List.range n) (mk := fun (i : Nat) => D.int i) (fun t => [(6, .int t)]) PassesOwn.never rfl (di_range1 (by rfl) T.range (by omega) (by walk_at "de")) (by walk_at "pg") (fun t _ => tgt_name 6 _)
      (fun k ρ z' => ∃ M u v, ρ = [.val (.ref L.dk), .sh (.str ⟨cs.toArray⟩), .sh (.int tp), .sh (.int n), .own (M.map mvD), .sh (.int ot), u, v] ∧ MOk n cs k 0 M ∧ Aft z (2 + 4 * k) z') ⟨[], _, _, rfl, ⟨by simp, by simp, .nil, by simp⟩, ha2⟩ ?_ ?_)
    · rintro k t _ z3 ht ⟨M, u, v, rfl, hM, ha⟩
      obtain ⟨hkn, rfl⟩ := List.getElem?_eq_some_iff.mp ht
      rw [List.getElem_range]
      rw [List.length_range] at hkn
      refine dss_cons (ds_for (ts := cs) (mk := fun c => D.str (chr c)) (fun c => [(7, .str (chr c))]) PassesOwn.never rfl ?_ (by walk_at "pg") (fun t _ => tgt_name 7 _)
        (fun j ρ z' => ∃ M v, ρ = [.val (.ref L.dk), .sh (.str ⟨cs.toArray⟩), .sh (.int tp), .sh (.int n), .own (M.map mvD), .sh (.int ot), .sh (.int k), v] ∧ MOk n cs k j M ∧ Aft z (2 + 4 * k + 2 * j) z') ⟨M, _, rfl, hM, ha⟩ ?_ ?_)
      · exact di_str (x := ⟨cs.toArray⟩) (by exact va 1)
      · rintro j c _ z4 hc ⟨M, v, rfl, hM, ha⟩
        have hj : j < cs.length := (List.getElem?_eq_some_iff.mp hc).1
        have hMl := hM.len
        refine dss_cons (ds_ifW (post := fun _ z' => Aft z (2 + 4 * k + 2 * j + 1) z') (tw_le (p1 := fun d z' => drawPost [.int 4] z4 d z') (p2 := fun d z' => d = .int ot ∧ Aft z (2 + 4 * k + 2 * j + 1) z') (ev_w (ev_dk (i := 0) c88 (by walk_at "room") (by rfl) rfl rfl (by walk_at "vis") (by walk_at "de") ⟨4, rfl, by decide, by decide, by have := ha.1; omega, by have := ha.2; omega⟩))
          (fun d z' ⟨b, m, e, hd, hm, k1, k2⟩ => ew_of (by walk_at "de") ⟨rfl, by have := ha.1; omega, Nat.le_trans k2 ha.2⟩) ?_) ?_ ?_)
        · rintro _ z5 _ z6 ⟨b, m, e, rfl, hm, k1, k2⟩ ⟨rfl, h6⟩
          exact ⟨m, ot, rfl, rfl, h6⟩
        · intro z5 ha5
          refine dss_cons (ds_appendW (i := 4) (xs := M.map mvD) (post := fun d z' => ∃ t : Nat, d = mvD (k, c, t) ∧ t < n ∧ Aft z (2 + 4 * k + 2 * j + 2) z') rfl rfl (by walk_at "vis") (ew_tup (aw_cons (p1 := fun d z' => d = .int k ∧ z' = z5) (ew_of (by walk_at "de") ⟨rfl, rfl⟩) fun d z' hp => aw_cons (p1 := fun d z' => d = .str (chr c) ∧ z' = z5) (ew_of (by walk_at "de") ⟨rfl, hp.2⟩) fun d2 z' hp2 => aw_cons (p1 := fun d z' => drawPost [.int n] z5 d z') (by
              rw [hp2.2]
              exact ev_w (ev_dk (i := 0) c88 (by walk_at "room") (by rfl) rfl rfl (by walk_at "vis") (by walk_at "de") ⟨n, rfl, by omega, by omega, by have := ha5.1; omega, by have := ha5.2; omega⟩)) fun d3 z' hp3 => aw_nil ?_)) (by rw [List.length_map]; omega) ?_)
          · obtain ⟨rfl, _⟩ := hp
            obtain ⟨rfl, _⟩ := hp2
            obtain ⟨b, m, e, rfl, hm, k1, k2⟩ := hp3
            have eb : (n : Int) = b := D.int.inj (List.cons.inj e).1
            exact ⟨by simp, m, rfl, by omega, by have := ha5.1; omega, Nat.le_trans k2 ha5.2⟩
          · rintro _ z6 ⟨t, rfl, htn, ha6⟩
            exact dss_nil (dss_nil ⟨M ++ [(k, c, t)], _, by rw [List.map_append]; rfl, hM.add hc hcp htn, by have := ha6.1; omega, ha6.2⟩)
        · intro z5 ha5
          exact dss_nil (dss_nil ⟨M, _, rfl, hM.skip, by have := ha5.1; omega, ha5.2⟩)
      · rintro _ z4 ⟨M, v, rfl, hM, ha⟩
        exact dss_nil ⟨M, _, _, rfl, hM.next hc2, by have := ha.1; omega, ha.2⟩
    · rintro _ z3 ⟨M, u, v, rfl, hM, ha⟩
      rw [List.length_range] at hM ha
      have hMl := hM.len
      refine dss_fix (i := 4) rfl ?_
      refine dss_forget 6 (dss_forget 7 ?_)
      show DSs (deckS g L) F0 H0 _ _ [.val (.ref L.dk), .sh (.str ⟨cs.toArray⟩), .sh (.int tp), .sh (.int n), .sh (.lst (M.map mvD)), .sh (.int ot), .un, .un] z3 _
      refine dss_cons (ds_retW (ew_tup (aw_cons (p1 := fun d z' => d = .int n ∧ z' = z3) (ew_of (by walk_at "de") ⟨rfl, rfl⟩) fun d1 z4 h1 => aw_cons (p1 := fun d z' => d = fmMoves M ∧ z' = z3) (ew_of (de_tupleL (by rfl) T.tuple (by exact DE.b (va 4))) ⟨rfl, h1.2⟩) fun d2 z5 h2 =>
        aw_cons (p1 := fun d z' => ∃ ys, ys.Sublist (List.range n) ∧ d = tupD (nums ys) ∧ Aft z 50 z') (by
          rw [h2.2]
          refine ev_w (ev_tupL (by rfl) T.tuple (ev_lc (ts := List.range n) (J := fun i z' => Aft z (14 + i) z') (e := fun i : Nat => D.int i) (vn_lc (mk := fun (i : Nat) => D.int i) (own := [("_law_state", 6)]) (as := fun i => [(6, .int i)]) rfl nd (di_range1 (by rfl) T.range (by omega) (by walk_at "de")) (blkOk_by (by rfl)) ⟨fun t _ => tgt_name 6 _, fun t _ i hi => hi, fun s H C cl fp => by walk_at "pg", fun s H C cl fp i t ht F0 H0 z' hz => pts_one ?_, fun s H C cl fp t ht => by walk_at "de", by simp; omega, by intro sl hsl ys e; subst e; simp at hsl⟩) ?_) ?_)
          · have hi : i < n := by have := (List.getElem?_eq_some_iff.mp ht).1; rwa [List.length_range] at this
            exact ev_eq (p := fun d z2 => drawPost [.int 2] z' d z2) (ev_dk (i := 0) c88 (by walk_at "room") (by rfl) rfl rfl (by walk_at "vis") (by walk_at "de") ⟨2, rfl, by decide, by decide, by have := hz.1; omega, by have := hz.2; omega⟩) fun d z2 ⟨b, m, e, hd, hm, k1, k2⟩ => ⟨m, hd, by have := hz.1; omega, Nat.le_trans k2 hz.2⟩
          · exact ⟨by have := ha.1; omega, ha.2⟩
          · rintro d z' ⟨hJ, ys, hs, rfl⟩
            exact ⟨_, rfl, ys, hs, by unfold tupD; rw [nums_map], by have := hJ.1; rw [List.length_range] at this; omega, hJ.2⟩) fun d3 z' h3 => aw_nil ?_)))
      · obtain ⟨rfl, _⟩ := h1
        obtain ⟨rfl, _⟩ := h2
        obtain ⟨ys, hs, rfl, hA⟩ := h3
        exact ⟨by simp, cs, tp, ⟨n, M, ys⟩, rfl, rfl, hn0, hnt, hM, hs, hA⟩
end
section
variable {g : Gx} {P : Program} {w : World} {K : PySem.W.Frag} {mg : Str → Option Value} {base : Heap}
/-! ### letters_of -/
theorem calP_of {x : Str} {st : Stmt} {N ps : List Str} {k : Nat} {Pre : List D → Prop} {Post : List D → D → Prop} (h : Def P w K mg base x st ps) (sc : FnScope N ps (defScope st)) (hl : ∀ ds, Pre ds → ds.length = ps.length)
    (hb : ∀ (f : Addr) (cdv : Value) (A : Around) (outer : List PySem.Env) (s : Shared) (H : Hp) (E : XK) (F0 H0 : Hp) (ds : List D), Room k (A.deeper (envOfC x (defScope st) s.heap.objs.size f cdv)) → Pre ds →
      DSs (sy0 g) F0 H0 (bodyX P w K mg base N x (defScope st) f cdv A outer s H E) (defBody st) (envOf N ds) () ⟨fun _ _ => Post ds .non, fun d' _ => Post ds d', fun _ _ => False, fun _ _ => False⟩) :
    CalP g P w K mg base x (k + 1) ps Pre Post := by
  obtain ⟨f, fd, Fn, h2, h3⟩ := h
  exact ⟨f, fd, fnP Fn sc hl (fun cdv A outer s H E F0 H0 ds => hb f cdv A outer s H E F0 H0 ds), h2, Fn.kp, h3⟩
abbrev s64 : Stmt := top 64
theorem sc64 : FnScope ["moves", "move"] ["moves"] (defScope s64) := ⟨rfl, rfl, rfl, by decide +kernel, rfl, by decide +kernel, by decide +kernel⟩
def pre64 (ds : List D) : Prop := ∃ ms : List (Nat × Nat × Nat), ds = [fmMoves ms] ∧ ms.length ≤ 60
def post64 (_ : List D) (d : D) : Prop := ∃ x : Str, d = .str x
theorem chr_sum (ys : List Str) (h : ∀ y ∈ ys, y.length = 1) : (ys.map (·.length)).sum = ys.length := by
  induction ys with
  | nil => rfl
  | cons y ys ih =>
    rw [List.map_cons, List.sum_cons, ih fun z hz => h z (List.mem_cons_of_mem _ hz), h y List.mem_cons_self, List.length_cons]
    omega
theorem ok64 (T : Tx g K mg) (h : Def P w K mg base "letters_of" s64 ["moves"]) : CalP g P w K mg base "letters_of" 1 ["moves"] pre64 post64 := by
  refine calP_of h sc64 (fun ds h => by obtain ⟨_, rfl, _⟩ := h; rfl) ?_
  rintro f cdv A outer s H E F0 H0 ds hr ⟨ms, rfl, hl⟩
  have nd := sc64.nd
  refine dss_cons (ds_retW (PE.wk (pe_join pe_str (SX.pe_sortSet rfl (by rfl) T.sorted (by rfl) T.set (dn_map (g := g) (ρ := [.sh (fmMoves ms), .un]) (ts := ms) (mk := mvD) (e := fun m => .str (chr m.2.1)) (j := 1) rfl nd (di_tup (by walk_at "de")) (blkOk_by (by rfl)) (fun s H C cl fp => by walk_at "pg") (fun s H C cl fp t ht => ?_) (by omega)))) fun σ H Q ⟨F, r, q⟩ => ?_))
  · exact de_ixT (i := 1) (xs := [.int t.1, .str (chr t.2.1), .int t.2.2]) rfl (by walk_at "db") (by walk_at "db")
  · refine ⟨⟨_, rfl⟩, F, r.e, fun a vs F2 H2 s2 hn f2 h2 al => ?_⟩
    have ev : vs = (ms.map fun m => chr m.2.1).map V.str := by
      have := All.strs (ns := ms.map fun m => chr m.2.1) (by rw [List.map_map]; exact al)
      exact this
    subst ev
    refine ⟨a, _, rfl, SqL.of h2, by rw [List.length_map]; omega, fun ys p hys hyl hp => ?_⟩
    rw [List.length_map] at hyl
    have one : ∀ y ∈ ys, y.length = 1 := fun y hy => by
      obtain ⟨m, _, rfl⟩ := List.mem_map.mp (hys y hy)
      rfl
    refine ⟨_, p, ys, rfl, rfl, .inl (SqL.of upd_same), by rw [chr_sum ys one]; show ys.length + ys.length * 0 ≤ _; omega, ?_⟩
    have st := Step.alloc0 (o := .lst (ys.map V.str)) s2.base hp
    exact q _ () _ F2 _ ⟨_, rfl⟩ ((r.step s2).step st) s2.sub rfl
end
section
variable {g : Gx} {P : Program} {w : World} {K : PySem.W.Frag} {mg : Str → Option Value} {base : Heap}
/-! ### the order of moves -/
theorem chr_lt (c d : Nat) : ((chr c).cps.toList < (chr d).cps.toList) ↔ c < d := by
  show ([c] : List Nat) < [d] ↔ c < d
  rw [List.cons_lt_cons_iff]
  simp
theorem mv_lt (a b : Nat × Nat × Nat) : PySem.W.dataLt (toP (mvD a)) (toP (mvD b)) = decide (a.1 < b.1 ∨ (a.1 = b.1 ∧ (a.2.1 < b.2.1 ∨ (a.2.1 = b.2.1 ∧ a.2.2 < b.2.2)))) := by
  simp only [mvD, toP, toPs]
  rw [PySem.W.dataLt_tuple, PySem.W.dataLt_cons (by simp [PySem.W.alike]), PySem.W.dataLt_cons (by simp [PySem.W.alike]), PySem.W.dataLt_cons (by simp [PySem.W.alike]), PySem.W.dataLt_int, PySem.W.dataLt_int, PySem.W.dataLt_str]
  have e : PyProof.Rows.lexLt itemOrd (PySem.W.keyToksAll []) (PySem.W.keyToksAll []) = false := lex_irrefl _
  rw [e]
  have e2 : PyData.eqv (.str (chr a.2.1)) (.str (chr b.2.1)) = decide (a.2.1 = b.2.1) := by
    by_cases h : a.2.1 = b.2.1
    · rw [h]; simp [PyData.eqv]
    · have : chr a.2.1 ≠ chr b.2.1 := fun z => h (chr_inj z)
      simp [PyData.eqv, h, this]
  rw [e2]
  simp only [PyData.eqv, chr_lt, Bool.if_false_left]
  by_cases h1 : a.1 = b.1
  · by_cases h2 : a.2.1 = b.2.1
    · by_cases h3 : a.2.2 = b.2.2 <;> simp [h1, h2, h3] <;> omega
    · simp [h1, h2]
  · have : ¬ ((a.1 : Int) = b.1) := by omega
    simp [h1, this]
/-- upwards by state and sign -/
def Up (ms : List (Nat × Nat × Nat)) : Prop := ms.Pairwise fun a b => a.1 < b.1 ∨ (a.1 = b.1 ∧ a.2.1 < b.2.1)
theorem sides_pw {α : Type} {R : α → α → Prop} : ∀ {xs : List α}, xs.Pairwise R → ∀ q ∈ sides xs, R q.1 q.2
  | [], _, q, hq => by simp [sides] at hq
  | [x], _, q, hq => by simp [sides] at hq
  | x :: y :: r, h, q, hq => by
    rw [List.pairwise_cons] at h
    have hq : q = (x, y) ∨ q ∈ sides (y :: r) := by
      simp only [sides, List.drop_succ_cons, List.drop_zero, List.zip_cons_cons, List.mem_cons] at hq ⊢
      exact hq
    rcases hq with rfl | hq
    · exact h.1 y List.mem_cons_self
    · exact sides_pw h.2 q hq
theorem sides_mem {α : Type} {xs : List α} {q : α × α} (h : q ∈ sides xs) : q.1 ∈ xs ∧ q.2 ∈ xs := by
  have := List.of_mem_zip h
  exact ⟨this.1, List.mem_of_mem_drop this.2⟩
theorem mv_LtOk {a b : Nat × Nat × Nat} (h : a.1 < b.1 ∨ (a.1 = b.1 ∧ a.2.1 < b.2.1)) : LtOk (mvD a) (mvD b) true where
  n1 := rfl
  n2 := rfl
  al := by simp [mvD, toP, toPs, PySem.W.alike, PySem.W.alikeAll]
  nn := by simp [mvD, toP]
  dp := by simp [mvD, toP, toPs, PyData.depth, PyData.depthAll]
  lt := by rw [mv_lt, decide_eq_true_iff]; omega
theorem up_sides {ms : List (Nat × Nat × Nat)} (h : Up ms) : ∀ q ∈ sides (ms.map mvD), LtOk q.1 q.2 true := fun q hq => by
  rw [sides_map] at hq
  obtain ⟨p, hp, rfl⟩ := List.mem_map.mp hq
  exact mv_LtOk (sides_pw h p hp)
theorem ints_sides {es : List Nat} (h : es.Pairwise (· < ·)) : ∀ q ∈ sides ((nums es).map D.int), LtOk q.1 q.2 true := fun q hq => by
  rw [nums, List.map_map, sides_map] at hq
  obtain ⟨p, hp, rfl⟩ := List.mem_map.mp hq
  have := sides_pw h p hp
  exact ⟨rfl, rfl, by simp [toP, PySem.W.alike], by simp [toP], by simp [toP, PyData.depth], by
    simp only [toP, Function.comp]
    rw [PySem.W.dataLt_int, decide_eq_true_iff]
    omega⟩
/-- what Format wants of its parts -/
structure FmtOk (m : Fm) : Prop where
  pos : 0 < m.size
  big : m.size ≤ 100
  mv : ∀ x ∈ m.moves, MvOk m.size x
  up : Up m.moves
  few : m.moves.length ≤ 60
  en : ∀ e ∈ m.ends, e < m.size
  upE : m.ends.Pairwise (· < ·)
  fewE : m.ends.length ≤ 60
theorem room1 {k : Nat} {A : Around} (r : Room k A) : A.units + 1 < cLine := by
  have := r.un
  omega
/-! ### Sheet.__init__ -/
abbrev s73i : Stmt := mth 73 0
theorem sc73i : FnScope ["self", "size", "moves", "ends", "near", "letter", "far"] ["self", "size", "moves", "ends"] (defScope s73i) := ⟨rfl, rfl, rfl, by decide +kernel, rfl, by decide +kernel, by decide +kernel⟩
structure ShK (K : PySem.W.Frag) (C : Addr) : Prop where
  cl : Cls K C
  n1 : NoAttr K C "size"
  n2 : NoAttr K C "moves"
  n3 : NoAttr K C "ends"
  n4 : NoAttr K C "letters"
  n5 : NoAttr K C "goals_by_key"
def shPre (C : Addr) (L : OLoc) (ds : List D) (z : Nat × List (Str × D)) : Prop := L.C = C ∧ z = (0, []) ∧ ∃ m : Fm, ds = [.int m.size, fmMoves m.moves, tupD (nums m.ends)] ∧ FmtOk m
theorem ok73i {C f : Addr} {fd : FuncData} (T : Tx g K mg) (kc : ShK K C) (Fn : Fun K "__init__" "Sheet.__init__" s73i f fd) (c57 : Cal g P w K mg base "is_size" 1 ["thing"] R57) (c61 : Cal g P w K mg base "are_moves" 3 ["size", "thing"] R61)
    (c62 : Cal g P w K mg base "are_ends" 3 ["size", "thing"] R62) (c64 : CalP g P w K mg base "letters_of" 1 ["moves"] pre64 post64) :
    FnOk P w K mg base CX0 4 f fd ["self", "size", "moves", "ends"] (spF (obS g) (fun L => .ref L.obj) (fun L ds z => shPre C L ds z) (fun _ _ _ d _ => d = .non)) := by
  refine fnF Fn sc73i (fun L ds z h => by obtain ⟨_, _, _, rfl, _⟩ := h; rfl) (by decide) ?_
  rintro cdv A outer s H E L F0 H0 z ds hr ⟨hC, rfl, m, rfl, hm⟩
  have nd := sc73i.nd
  have kc' : ShK K L.C := hC ▸ kc
  have hmv := hm.few
  have hme := hm.fewE
  refine dss_cons (ds_if (b := !true) (dt_not (dt_e (de_callC c57 (by walk_at "room") (by rfl) (by walk_at "da") ⟨m.size, rfl, rfl, hm.pos⟩))) (fun e => absurd e (by decide)) fun _ => dss_nil ?_)
  refine dss_cons (ds_if (b := !true) (dt_not (dt_e (de_callC c61 (by walk_at "room") (by rfl) (by walk_at "da") ⟨m.size, m.moves, rfl, rfl, hm.mv, by omega, up_sides hm.up⟩))) (fun e => absurd e (by decide)) fun _ => dss_nil ?_)
  refine dss_cons (ds_if (b := !true) (dt_not (dt_e (de_callC c62 (by walk_at "room") (by rfl) (by walk_at "da") ⟨m.size, m.ends, rfl, rfl, hm.en, by omega, ints_sides hm.upE⟩))) (fun e => absurd e (by decide)) fun _ => dss_nil ?_)
  refine dss_cons (ds_fd (d := .int m.size) (ns := []) kc'.cl kc'.n1 rfl rfl (by walk_at "vis") (by walk_at "de") rfl ?_)
  refine dss_cons (ds_fd (d := fmMoves m.moves) (ns := ["size"]) kc'.cl kc'.n2 rfl rfl (by walk_at "vis") (by walk_at "de") rfl ?_)
  refine dss_cons (ds_fd (d := tupD (nums m.ends)) (ns := ["moves", "size"]) kc'.cl kc'.n3 rfl rfl (by walk_at "vis") (by walk_at "de") rfl ?_)
  refine dss_cons (ds_fy (ns := ["ends", "moves", "size"]) kc'.cl kc'.n4 rfl rfl (by walk_at "vis") (ex_ew (ew_callP c64 (by walk_at "room") (by rfl) (by walk_at "da") ⟨m.moves, rfl, hm.few⟩) fun d z' h => h.2) rfl ?_)
  refine dss_gb (L := L) (ts := m.moves) (mk := mvD) (key := fun t => (t.1, chr t.2.1)) (e := fun t => .int t.2.2) (as := fun t => [(4, .int t.1), (5, .str (chr t.2.1)), (6, .int t.2.2)])
    (I := fun ρ => ∃ a b c, (∀ sl ∈ [a, b, c], ∀ xs, sl ≠ Slot.own xs) ∧ ρ = [.val (.ref L.obj), .sh (.int m.size), .sh (fmMoves m.moves), .sh (tupD (nums m.ends)), a, b, c])
    PassesOwn.never rfl kc'.cl kc'.n5 (by exact room1 hr) rfl (by walk_at "vis") (di_tup (by walk_at "de")) (by walk_at "pg") (fun t _ => tgt_tup3 4 5 6 _ _ _) (by show 4 < 100; decide) (fun q hq => ?_) (by omega) rfl ⟨.un, .un, .un, fun sl hsl xs e => ?_, rfl⟩ (fun ρ' t _ h => ?_) (fun ρ' t ht h => ?_) (fun ρ' z' _ => rfl)
    (gb_turn (L := L) (ts := m.moves) (f := "goals_by_key") (key := fun t => (t.1, chr t.2.1)) (e := fun t => .int t.2.2) (as := fun t => [(4, .int t.1), (5, .str (chr t.2.1)), (6, .int t.2.2)]) (I := fun ρ => ∃ a b c, (∀ sl ∈ [a, b, c], ∀ xs, sl ≠ Slot.own xs) ∧ ρ = [.val (.ref L.obj), .sh (.int m.size), .sh (fmMoves m.moves), .sh (tupD (nums m.ends)), a, b, c]) kc'.cl kc'.n5 (by exact room1 hr) rfl (by walk_at "vis") (fun ρ' t ht h => ?_))
  · have hm' : q.1 ∈ [("ends" : Str), "moves", "size"] := List.mem_map.mpr ⟨q, hq, rfl⟩
    exact fun e => absurd (e ▸ hm') (by decide)
  · subst e
    simp at hsl
  · obtain ⟨a, b, c, _, rfl⟩ := h
    exact ⟨.sh (.int t.1), .sh (.str (chr t.2.1)), .sh (.int t.2.2), fun sl hsl xs e => by subst e; simp at hsl, rfl⟩
  · obtain ⟨a, b, c, _, rfl⟩ := h
    refine ⟨rfl, fun sl hsl xs e => by subst e; simp [putD] at hsl, ?_, ?_⟩
    · exact de_tup (ds := [.int t.1, .str (chr t.2.1)]) (da_cons (by exact va 4) (da_cons (by exact va 5) da_nil)) (by simp)
    · exact va 6
  · obtain ⟨a, b, c, _, rfl⟩ := h
    refine ⟨rfl, fun sl hsl xs e => by subst e; simp [putD] at hsl, ?_, ?_⟩
    · exact de_tup (ds := [.int t.1, .str (chr t.2.1)]) (da_cons (by exact va 4) (da_cons (by exact va 5) da_nil)) (by simp)
    · exact va 6
end
section
variable {g : Gx} {P : Program} {w : World} {K : PySem.W.Frag} {mg : Str → Option Value} {base : Heap}
/-! ### Format.__init__ -/
abbrev s78i : Stmt := mth 78 0
theorem sc78i : FnScope ["self", "size", "moves", "ends", "near", "letter", "far"] ["self", "size", "moves", "ends"] (defScope s78i) := ⟨rfl, rfl, rfl, by decide +kernel, rfl, by decide +kernel, by decide +kernel⟩
structure FmK (K : PySem.W.Frag) (C : Addr) : Prop where
  cl : Cls K C
  n1 : NoAttr K C "size"
  n2 : NoAttr K C "moves"
  n3 : NoAttr K C "ends"
  n4 : NoAttr K C "letters"
  n5 : NoAttr K C "useful"
  n6 : NoAttr K C "sheet"
  n7 : NoAttr K C "step_by_key"
  n8 : NoAttr K C "known_by_word"
def fmPost (ds : List D) (d : D) (z' : Nat × List (Str × D)) : Prop := d = .non ∧ ∃ n ms es, ds = [n, ms, es] ∧ z'.2 = [(("ends" : Str), es), (("moves" : Str), ms), (("size" : Str), n)]
/-- the class of sheets as its callers know it -/
def ShC (g : Gx) (P : Program) (w : World) (K : PySem.W.Frag) (mg : Str → Option Value) (base : Heap) : Prop :=
  ∃ C f fd, Mk K C f ∧ mg "Sheet" = some (.ref C) ∧ FnOk P w K mg base CX0 4 f fd ["self", "size", "moves", "ends"] (spF (obS g) (fun L => .ref L.obj) (fun L ds z => shPre C L ds z) (fun _ _ _ d _ => d = .non)) ∧ L2.Binds K fd ["self", "size", "moves", "ends"] []
theorem ok78i {C f : Addr} {fd : FuncData} (T : Tx g K mg) (kc : FmK K C) (Fn : Fun K "__init__" "Format.__init__" s78i f fd) (c57 : Cal g P w K mg base "is_size" 1 ["thing"] R57) (c61 : Cal g P w K mg base "are_moves" 3 ["size", "thing"] R61)
    (c62 : Cal g P w K mg base "are_ends" 3 ["size", "thing"] R62) (c63 : Cal g P w K mg base "are_single" 1 ["moves"] R63) (c64 : CalP g P w K mg base "letters_of" 1 ["moves"] pre64 post64) (c77 : Cal g P w K mg base "useful_states" 2 ["moves", "ends"] R77) (cs : ShC g P w K mg base) :
    FnOk P w K mg base CX0 6 f fd ["self", "size", "moves", "ends"] (spF (obS g) (fun L => .ref L.obj) (fun L ds z => shPre C L ds z) (fun _ ds _ d z' => fmPost ds d z')) := by
  refine fnF Fn sc78i (fun L ds z h => by obtain ⟨_, _, _, rfl, _⟩ := h; rfl) (by decide) ?_
  rintro cdv A outer s H E L F0 H0 z ds hr ⟨hC, rfl, m, rfl, hm⟩
  have nd := sc78i.nd
  have kc' : FmK K L.C := hC ▸ kc
  have hmv := hm.few
  have hme := hm.fewE
  have hmb := hm.big
  refine dss_cons (ds_if (b := !true) (dt_not (dt_e (de_callC c57 (by walk_at "room") (by rfl) (by walk_at "da") ⟨m.size, rfl, rfl, hm.pos⟩))) (fun e => absurd e (by decide)) fun _ => dss_nil ?_)
  refine dss_cons (ds_if (b := (!true || !true)) (DW.t (dw_or (dt_not (dt_e (de_callC c61 (by walk_at "room") (by rfl) (by walk_at "da") ⟨m.size, m.moves, rfl, rfl, hm.mv, by omega, up_sides hm.up⟩))) fun _ => dw_or1 (dt_not (dt_e (de_callC c63 (by walk_at "room") (by rfl) (by walk_at "da") ⟨m.moves, rfl, rfl, by omega, fun q hq => ?_⟩))))) (fun e => absurd e (by decide)) fun _ => dss_nil ?_)
  · have h1 := sides_pw hm.up q hq
    have h2 := sides_mem hq
    exact ⟨fun e => by omega, (hm.mv _ h2.1).2.1, (hm.mv _ h2.2).2.1⟩
  refine dss_cons (ds_if (b := !true) (dt_not (dt_e (de_callC c62 (by walk_at "room") (by rfl) (by walk_at "da") ⟨m.size, m.ends, rfl, rfl, hm.en, by omega, ints_sides hm.upE⟩))) (fun e => absurd e (by decide)) fun _ => dss_nil ?_)
  refine dss_cons (ds_fd (d := .int m.size) (ns := []) kc'.cl kc'.n1 rfl rfl (by walk_at "vis") (by walk_at "de") rfl ?_)
  refine dss_cons (ds_fd (d := fmMoves m.moves) (ns := ["size"]) kc'.cl kc'.n2 rfl rfl (by walk_at "vis") (by walk_at "de") rfl ?_)
  refine dss_cons (ds_fd (d := tupD (nums m.ends)) (ns := ["moves", "size"]) kc'.cl kc'.n3 rfl rfl (by walk_at "vis") (by walk_at "de") rfl ?_)
  refine dss_cons (ds_fy (ns := ["ends", "moves", "size"]) kc'.cl kc'.n4 rfl rfl (by walk_at "vis") (ex_ew (ew_callP c64 (by walk_at "room") (by rfl) (by walk_at "da") ⟨m.moves, rfl, hm.few⟩) fun d z' h => h.2) rfl ?_)
  refine dss_cons (ds_fy (ns := ["ends", "moves", "size"]) kc'.cl kc'.n5 rfl rfl (by walk_at "vis") (ex_ew (post := fun d z' => d = usefulD m.size m.moves m.ends ∧ z' = _) (ew_of (de_callC c77 (by walk_at "room") (by rfl) (by walk_at "da") ⟨m.size, m.moves, m.ends, rfl, rfl, fun x hx => ⟨(hm.mv x hx).1, (hm.mv x hx).2.2⟩, hm.en, hm.pos, by omega, by omega, by omega⟩) ⟨rfl, rfl⟩) fun d z' h => h.2) rfl ?_)
  obtain ⟨C2, f2, fd2, hM, hmg, hF2, hb2⟩ := cs
  refine dss_cons (ds_fy (ns := ["ends", "moves", "size"]) kc'.cl kc'.n6 rfl rfl (by walk_at "vis") (ex_u (pu_ob (post := fun _ => True) (pe_ob hM hF2 (by walk_at "room") (by rfl) hmg hb2 (by walk_at "da") (fun L2 e => ⟨e, rfl, m, rfl, hm⟩) fun L2 z' d h => ⟨h, trivial⟩))) rfl ?_)
  refine dss_cons (ds_fy (ns := ["ends", "moves", "size"]) kc'.cl kc'.n7 rfl rfl (by walk_at "vis") (ex_u (pu_dcT (ρ := [.val (.ref L.obj), .sh (.int m.size), .sh (fmMoves m.moves), .sh (tupD (nums m.ends)), .un, .un, .un]) (ts := m.moves) (mk := mvD) (own := [("near", 4), ("letter", 5), ("far", 6)]) (key := fun t => (t.1, chr t.2.1)) (e := fun t => .int t.2.2) (as := fun t => [(4, .int t.1), (5, .str (chr t.2.1)), (6, .int t.2.2)])
    (Nat.lt_of_succ_lt (by exact room1 hr)) rfl nd (di_tup (by walk_at "de")) (blkOk_by (by rfl)) (fun t _ => tgt_tup3 4 5 6 _ _ _) (fun t _ j hj => hj) (fun s H C cl fp => by walk_at "pg") (fun s H C cl fp t ht => ?_) (fun s H C cl fp t ht => ?_) (by omega))) rfl ?_)
  · exact de_tup (ds := [.int t.1, .str (chr t.2.1)]) (da_cons (by exact va 4) (da_cons (by exact va 5) da_nil)) (by simp)
  · exact va 6
  refine dss_cons (ds_fy (ns := ["ends", "moves", "size"]) kc'.cl kc'.n8 rfl rfl (by walk_at "vis") (ex_u pu_dnewK) rfl ?_)
  exact dss_nil ⟨rfl, _, _, _, rfl, rfl⟩
/-- the class of formats as its callers know it -/
def FmC (g : Gx) (P : Program) (w : World) (K : PySem.W.Frag) (mg : Str → Option Value) (base : Heap) : Prop :=
  ∃ f fd, Mk K g.C f ∧ mg "Format" = some (.ref g.C) ∧ FnOk P w K mg base CX0 6 f fd ["self", "size", "moves", "ends"] (spF (obS g) (fun L => .ref L.obj) (fun L ds z => shPre g.C L ds z) (fun _ ds _ d z' => fmPost ds d z')) ∧ L2.Binds K fd ["self", "size", "moves", "ends"] []
/-! ### _law_code -/
abbrev s91 : Stmt := top 91
theorem sc91 : FnScope ["_law_w"] ["_law_w"] (defScope s91) := ⟨rfl, rfl, rfl, by decide +kernel, rfl, by decide +kernel, by decide +kernel⟩
def R91 (ds : List D) (d : D) : Prop := ∃ m : Fm, ds = [fwD m] ∧ d = fmD m ∧ FmtOk m
theorem ok91 (T : Tx g K mg) (h : Def P w K mg base "_law_code" s91 ["_law_w"]) (cf : FmC g P w K mg base) : Cal g P w K mg base "_law_code" 8 ["_law_w"] R91 := by
  refine cal_of h sc91 (fun ds d h => by obtain ⟨_, rfl, _⟩ := h; rfl) ?_
  rintro f cdv A outer s H E F0 H0 ds d hr ⟨m, rfl, rfl, hm⟩
  obtain ⟨f2, fd2, hM, hmg, hF2, hb2⟩ := cf
  refine dss_cons (ds_ret (d := fmD m) ?_ rfl)
  refine de_fm (post := fun z' => z'.2 = [(("ends" : Str), tupD (nums m.ends)), (("moves" : Str), fmMoves m.moves), (("size" : Str), .int m.size)]) (pe_ob (ds := [.int m.size, fmMoves m.moves, tupD (nums m.ends)]) hM hF2 (by walk_at "room") (by rfl) hmg hb2 (da_cons (fw0 (by walk_at "de")) (da_cons (fw1 (by walk_at "de")) (da_cons (fw2 (by walk_at "de")) da_nil))) (fun L2 e => ⟨e, rfl, m, rfl, hm⟩) fun L2 z' d h => ?_) fun z' h => ?_
  · obtain ⟨h1, n, ms, es, e1, e2⟩ := h
    cases e1
    exact ⟨h1, e2⟩
  · rw [h]
    simp [fmMoves, tupD]
end
section
variable {g : Gx} {P : Program} {w : World} {K : PySem.W.Frag} {mg : Str → Option Value} {base : Heap}
/-! ### _law_deck -/
theorem sqL_sub {K : PySem.W.Frag} {F H : Hp} {a : Addr} {xs : List V} (s : Sub F H) (h : SqL K F a xs) : SqL K H a xs := by
  rcases h with (h | ⟨o, h⟩) | h
  · exact .inl (.inl (s _ _ h))
  · exact .inl (.inr ⟨o, s _ _ h⟩)
  · exact .inr h
section
variable {X : Cx} {ρ : DL.Env} {i : Nat} {x : Str} {p1 p2 pos : Pos} {hi : Expr} {a : Addr} {Fb : Hp} {ns : List Int} {m : Nat}
/-- x[:m] of a list of ints that stands from ahead -/
theorem dn_slP (h : ρ[i]? = some (.pt (.ref a) Fb)) (hq : SqL X.K Fb a (ns.map V.int)) (hN : X.N[i]? = some x) (hv : Vis X.env.scope x) (h2 : DO g X (some hi) ρ (some (m : Int))) (hd : (x == ("__debug__" : Str)) = false := by decide) (hcd : (x == ("__classdict__" : Str)) = false := by decide) :
    DN g X (.Subscript (.Name x p1) (.Slice none (some hi) none p2) pos) ρ ((ns.take m).map D.int) :=
  PE.wk (pe_slice sl_list (pe_var hN hv hd hcd) (do_none (g := g) (ρ := ρ)) h2) fun σ H Q ⟨F, rp, q⟩ => by
    obtain ⟨o, hs, ho, hsub⟩ := rp.at h
    subst ho
    refine ⟨.ref a, hs, F, rp, fun F2 H2 s2 => ⟨F2, rp.step s2, fun F3 H3 s3 => ?_⟩⟩
    refine ⟨a, ns.map V.int, rfl, sqL_sub ((hsub.trans (s2.trans s3).sub).trans s3.base.sub) hq, fun p hp => ?_⟩
    have st := Step.alloc0 (o := .lst (cutV (ns.map V.int) none (some (m : Int)))) s3.base hp
    refine q p _ _ _ ((s2.trans s3).trans st) (s2.dom p (s3.dom p hp)) (frozen_free s3.base hp) upd_same ?_
    have e : cutV (ns.map V.int) none (some (m : Int)) = (ns.take m).map V.int := by
      show DL.cutD (ns.map V.int) none (some (m : Int)) = _
      rw [cutD_to, List.map_take]
    rw [e]
    exact All.of_ints _
end
def spDeck (g : Gx) (K : PySem.W.Frag) : Sp := fun vs H Q _ => ∃ (F : Hp) (a : Addr) (ns : List Int), Base g F H ∧ vs = [.ref a] ∧ SqL K F a (ns.map V.int) ∧ ns.length ≤ 63 ∧
  ∀ (L : DLoc) (z : Deck) F' H', Step g F H F' H' → H L.dk = none → H L.cl = none → F' L.dk = none → F' L.cl = none → deckZ L z H' → z.draws = 0 → z.cells.length ≤ 63 → Q (.ref L.dk) H'
abbrev s87 : Stmt := top 87
theorem sc87 : FnScope ["_law_script", "_law_cells", "_law_mixed", "_law_cell"] ["_law_script"] (defScope s87) := ⟨rfl, rfl, rfl, by decide +kernel, rfl, by decide +kernel, by decide +kernel⟩
theorem deck_merge (l : Addr) (m n : Int) : mergeK [] [((.inr "cells" : L2.Key), V.ref l), (.inr "mixed", .int m), (.inr "draws", .int n)] = [((.inr "cells" : L2.Key), V.ref l), (.inr "mixed", .int m), (.inr "draws", .int n)] := by
  have h1 : ¬ ((.inr "cells" : L2.Key) = .inr "mixed") := by decide
  have h2 : ¬ ((.inr "cells" : L2.Key) = .inr "draws") := by decide
  have h3 : ¬ ((.inr "mixed" : L2.Key) = .inr "draws") := by decide
  simp only [mergeK, List.foldl_cons, List.foldl_nil, putK, List.any_nil, Bool.false_eq_true, if_false, List.nil_append, List.any_cons, decide_eq_false h1, decide_eq_false h2, decide_eq_false h3, Bool.or_false, List.cons_append]
theorem ok87 {f : Addr} {fd : FuncData} (T : Tx g K mg) (Fn : Fun K "_law_deck" "_law_deck" s87 f fd) : FnOk P w K mg base CX0 1 f fd ["_law_script"] (spDeck g K) := by
  refine Fn.ok sc87 (fun vs H Q E h => ?_) (fun cdv A outer s H vs Q E hr h => ?_)
  · obtain ⟨F, a, ns, _, rfl, _⟩ := h
    rfl
  obtain ⟨F0, a, ns, b0, rfl, hsq, hns, hQ⟩ := h
  have nd := sc87.nd
  obtain ⟨cs, ecs⟩ : ∃ cs, cs = ns.take 63 := ⟨_, rfl⟩
  have hcs : cs.length ≤ 63 := by rw [ecs, List.length_take]; omega
  have h1 : DS (sy0 g) F0 H (bodyX P w K mg base ["_law_script", "_law_cells", "_law_mixed", "_law_cell"] "_law_deck" (defScope s87) f cdv A outer s H E) ((defBody s87).getD 0 (.Pass ⟨0, 0, 0, 0⟩)) [.pt (.ref a) F0, .un, .un, .un] ()
      ⟨fun ρ' _ => ρ' = [.pt (.ref a) F0, .own (cs.map D.int), .sh (.int 10865019), .un], fun _ _ => False, fun _ _ => False, fun _ _ => False⟩ := by
    refine ds_parN (i := 1) (j := 2) (xs := cs.map D.int) (d2 := .int 10865019) rfl nd rfl rfl (by decide) rfl rfl ?_ (by walk_at "de") rfl rfl
    rw [ecs]
    exact dn_listL (by rfl) T.list (DE.b (DN.e (dn_slP (i := 0) (m := 63) rfl hsq rfl (by walk_at "vis") (do_some (by walk_at "db")))))
  have h2 : DS (sy0 g) F0 H (bodyX P w K mg base ["_law_script", "_law_cells", "_law_mixed", "_law_cell"] "_law_deck" (defScope s87) f cdv A outer s H E) ((defBody s87).getD 1 (.Pass ⟨0, 0, 0, 0⟩)) [.pt (.ref a) F0, .sh (intsD cs), .sh (.int 10865019), .un] ()
      ⟨fun ρ' _ => ∃ (m : Int) (w : Slot), ρ' = [.pt (.ref a) F0, .sh (intsD cs), .sh (.int m), w], fun _ _ => False, fun _ _ => False, fun _ _ => False⟩ := by
    refine ds_for (ts := cs) (mk := D.int) (fun t => [(3, .int t)]) PassesOwn.never rfl (di_list (by walk_at "de")) (by walk_at "pg") (fun t _ => tgt_name 3 _) (fun k ρ _ => ∃ (m : Int) (w : Slot), ρ = [.pt (.ref a) F0, .sh (intsD cs), .sh (.int m), w]) ⟨_, .un, rfl⟩ ?_ ?_
    · rintro k t ρ' z' ht ⟨m, w, rfl⟩
      refine dss_cons (ds_set (d := .int ((m * 48271 + t % 2147483629 + 193) % 2147483587)) (i := 2) nd rfl (by walk_at "loc") ?_ (dss_nil ⟨_, _, rfl⟩))
      exact de_mod (by decide) (DE.b (de_intI (by rfl) T.int (DE.b (de_add (DE.b (de_add (DE.b (de_mul (.inr (by decide)) (by walk_at "db") (by walk_at "db"))) (DE.b (de_mod (by decide) (DE.b (de_intI (by rfl) T.int (by walk_at "db"))) (by walk_at "db"))))) (by walk_at "db"))))) (by walk_at "db")
    · rintro ρ' z' ⟨m, w, rfl⟩
      exact ⟨m, w, rfl⟩
  have h2' : PS (bodyX P w K mg base ["_law_script", "_law_cells", "_law_mixed", "_law_cell"] "_law_deck" (defScope s87) f cdv A outer s H E) ((defBody s87).getD 1 (.Pass ⟨0, 0, 0, 0⟩)) _ := h2
  have hrev : DN g (bodyX P w K mg base ["_law_script", "_law_cells", "_law_mixed", "_law_cell"] "_law_deck" (defScope s87) f cdv A outer s H E) (match (defBody s87).getD 2 (.Pass ⟨0, 0, 0, 0⟩) with | .Return (some (.Dict _ (e :: _) _)) _ => e | _ => .Constant .none 0 ⟨0, 0, 0, 0⟩) [.pt (.ref a) F0, .sh (intsD cs), .un, .un] (cs.reverse.map D.int) := by
    rw [List.map_reverse]
    exact dn_rev (by exact DE.b (va 1))
  refine ⟨_, pss_cons h1 (pss_cons h2' (pss_cons (ps_ret (pe_disp (pps_cons pe_str hrev (pps_cons pe_str (pe_var (i := 2) rfl (by walk_at "vis")) (pps_cons pe_str pe_int pps_nil))) (by rfl) (by rfl) (fun z => by cases z) (by decide))) pss_nil)), ?_⟩
  refine ⟨F0, RepS.start b0 ⟨b0, rfl, fun i sl o e1 e2 => ?_⟩ (fun sl hsl xs e => ?_) (fun x hx => absurd hx List.not_mem_nil) trivial, fun ρ1 z1 σ1 F1 H1 e1 r1 s1 => ?_, fun _ _ _ _ _ h => h.elim, fun _ _ _ _ _ h => h.elim, fun _ _ _ _ _ h => h.elim⟩
  · match i, e1, e2 with
    | 0, e1, e2 =>
      cases e1
      cases e2
      exact ⟨rfl, Sub.refl F0⟩
    | 1, e1, _ => cases e1; trivial
    | 2, e1, _ => cases e1; trivial
    | 3, e1, _ => cases e1; trivial
    | i + 4, e1, _ => simp at e1
  · subst e
    simp at hsl
  subst e1
  obtain ⟨F1', sF1, r1'⟩ := r1.fix (i := 1) rfl
  refine ⟨F1', r1', fun ρ2 z2 σ2 F2 H2 e2 r2 s2 => ?_, fun _ _ _ _ _ h => h.elim, fun _ _ _ _ _ h => h.elim, fun _ _ _ _ _ h => h.elim⟩
  obtain ⟨m, w', rfl⟩ := e2
  intro p hp
  have st := Step.alloc0 (o := .dK []) r2.e.base hp
  have r3 := r2.step st
  refine ⟨F2, ⟨r3.e.base, r3.e.len, fun i sl o e1 e2 => ?_⟩, fun l vs F4 H4 s4 hn f4 h4 al => ?_⟩
  · match i, e1, e2 with
    | 0, e1, e2 => exact r3.e.slot 0 sl o e1 e2
    | 1, e1, e2 => exact r3.e.slot 1 sl o e1 e2
    | 2, e1, _ => cases e1; trivial
    | 3, e1, _ => cases e1; trivial
    | i + 4, e1, _ => simp at e1
  obtain ⟨o, eo, v, rfl, iv⟩ := r2.e.at (i := 2) (sl := .sh (.int m)) rfl
  have ev : v = .int m := iv
  subst ev
  have hp2 : F2 p = none := frozen_free r2.e.base hp
  obtain ⟨k1, k2⟩ := step_keep s4 hp2 upd_same (fun ps e => by cases e)
  have lp : l ≠ p := fun e => by rw [e, upd_same] at hn; cases hn
  have hl2 : H2 l = none := by rw [upd_ne lp] at hn; exact hn
  have evs : vs = cs.reverse.map V.int := All.ints al
  subst evs
  refine ⟨_, eo, k2, [(.inr "cells", .ref l), (.inr "mixed", .int m), (.inr "draws", .int 0)], rfl, by simp, ?_⟩
  rw [deck_merge]
  have sfin := Step.new_mut (o' := .dK [((.inr "cells" : L2.Key), V.ref l), (.inr "mixed", .int m), (.inr "draws", .int 0)]) (st.trans s4) hp k1 k2 (fun ps e => by cases e) (fun b q e => by cases e)
  have s02 : Step g F0 H F2 H2 := r2.r.plain
  exact hQ ⟨p, l⟩ ⟨cs.reverse, m, 0⟩ F4 _ (s02.trans sfin) (s02.dom p hp) (s02.dom l hl2) k1 f4 ⟨upd_same, (upd_ne lp).trans h4⟩ rfl (by rw [List.length_reverse]; exact hcs)
end
section
variable {g : Gx} {P : Program} {w : World} {K : PySem.W.Frag} {mg : Str → Option Value} {base : Heap}
/-! ### _law_states_right -/
abbrev s95 : Stmt := top 95
abbrev N95 : List Str := ["_law_deck_here", "_law_w", "_law_code_here", "_law_state", "_law_total", "_law_here", "_law_sign", "_law_to", "_law_mine", "_law_later", "_law_cut", "_law_length", "_law_ways", "_law_turn", "_law_fresh", "_law_rest", "_law_at", "_law_many"]
theorem sc95 : FnScope N95 ["_law_deck_here", "_law_w"] (defScope s95) := ⟨rfl, rfl, rfl, by decide +kernel, rfl, by decide +kernel, by decide +kernel⟩
/-- a drawn format and what its use wants -/
structure WOk (m : Fm) (c : Nat) : Prop where
  fr : KM.Frm m c
  c2 : c ≤ 2
  s3 : m.size ≤ 3
  fo : FmtOk m
theorem WOk.ok {m : Fm} {c : Nat} (h : WOk m c) : m.Ok := h.fr.ok (by have := h.c2; omega) (by have := h.s3; omega)
theorem WOk.bd {m : Fm} {c : Nat} (h : WOk m c) {t i : Nat} (ht : t < m.size) (hi : i < 13) : (cnt m t i).natAbs < 2 ^ 60 := by
  have := KM.cnt_small h.ok ht hi
  omega
theorem WOk.ann {m : Fm} {c : Nat} (h : WOk m c) {t : Nat} (ht : t < m.size) : Ann (cnt m t) m.size := KM.ann_cnt h.ok h.s3 ht
theorem WOk.rule {m : Fm} {c : Nat} (h : WOk m c) {t : Nat} (ht : t < m.size) : ∃ r, Least r (cnt m t) ∧ r.2.length ≤ 3 := by
  obtain ⟨r, h1, h2⟩ := KM.exists_least (h.ann ht)
  exact ⟨r, h1, by have := h.s3; omega⟩
theorem WOk.rok {m : Fm} {c : Nat} (h : WOk m c) {t : Nat} (ht : t < m.size) {r : Rule} (hr : Least r (cnt m t)) (hl : r.2.length ≤ 3) : Rok r (cnt m t) := ⟨hr.gen, by omega, fun i hi => by have := h.bd ht hi; omega⟩
def srPre (ds : List D) (z : Deck) : Prop := ∃ (m : Fm) (c : Nat), ds = [fwD m] ∧ WOk m c ∧ z.draws + 100 < 2 ^ 50 ∧ z.cells.length ≤ 100
def srPost (_ : List D) (z : Deck) (d : D) (z' : Deck) : Prop := d = .bl true ∧ Aft z 10 z'
theorem Aft.draw {z z1 z2 : Deck} {n : Nat} {ds : List D} {d : D} (h : Aft z n z1) (p : drawPost ds z1 d z2) : Aft z (n + 1) z2 := by
  obtain ⟨b, m, _, _, _, k1, k2⟩ := p
  exact ⟨by have := h.1; omega, Nat.le_trans k2 h.2⟩
theorem mem_nums {t : Nat} {l : List Nat} : ((t : Int) ∈ nums l) ↔ t ∈ l := by
  simp only [nums, List.mem_map]
  exact ⟨fun ⟨a, h1, h2⟩ => by
    have e : a = t := by omega
    rw [← e]; exact h1, fun h => ⟨t, h, rfl⟩⟩
theorem end_bit {m : Fm} {st : Nat} (h : st < m.size) : (if decide ((st : Int) ∈ nums m.ends) = true then (1 : Int) else 0) = cnt m st 0 := by
  rw [KM.cnt_zero h]
  by_cases e : st ∈ m.ends
  · rw [if_pos e, if_pos (decide_eq_true (mem_nums.mpr e))]
  · rw [if_neg e, if_neg (by rw [decide_eq_false fun z => e (mem_nums.mp z)]; exact Bool.false_ne_true)]
theorem drop1 (a : Nat → Int) (n : Nat) : DL.cutD ((seqUp a (n + 1)).map D.int) (some 1) none = (seqUp (fun i => a (i + 1)) n).map D.int := by
  show DL.cutD ((seqUp a (n + 1)).map D.int) (some ((1 : Nat) : Int)) none = _
  rw [cutD_lo, ← List.map_drop, KM.seqUp_drop]
theorem way_len {m : Fm} {c : Nat} (h : KM.Frm m c) (ws : List Int) (k : Nat) : ((m.moves.take k).foldl (KM.wayStep ws) (List.replicate m.size 0)).length = m.size :=
  (KM.way_fold ws (fun _ => 0) m.size (m.moves.take k) _ (by simp) fun x hx => ⟨h.far x (List.mem_of_mem_take hx), h.near x (List.mem_of_mem_take hx)⟩).1
theorem ok95 (T : Tx g K mg) (h : Def P w K mg base "_law_states_right" s95 ["_law_deck_here", "_law_w"]) (c91 : Cal g P w K mg base "_law_code" 8 ["_law_w"] R91) (c88 : CalK g P w K mg base "_law_draw" 1 ["_law_deck_here", "_law_bound"] drawPre drawPost)
    (c27 : Cal g P w K mg base "added" 11 ["one", "other"] R27) (c25 : Cal g P w K mg base "least_rule_from" 11 ["form", "state"] R25) (c21 : Cal g P w K mg base "terms" 2 ["rule", "many"] R21) (c22 : Cal g P w K mg base "term" 3 ["rule", "index"] R22) (c28 : Cal g P w K mg base "lessened" 11 ["one", "other"] R28)
    (c34 : Cal g P w K mg base "part" 11 ["rule", "step", "rest"] R34) (c11 : Cal g P w K mg base "counts_by_state" 3 ["form", "length"] R11) (c13 : Cal g P w K mg base "count" 5 ["form", "length"] R13) (c32 : Cal g P w K mg base "summed" 11 ["rule"] R32) (c24 : Cal g P w K mg base "least_rule" 12 ["form"] R24) (c14 : Cal g P w K mg base "counts" 3 ["form", "many"] R14) :
    CalK g P w K mg base "_law_states_right" 13 ["_law_deck_here", "_law_w"] srPre srPost := by
  refine calK_of h sc95 (fun ds z h => by obtain ⟨m, c, rfl, _⟩ := h; rfl) (by decide) ?_
  rintro f cdv A outer s H E L F0 H0 z ds hr ⟨m, c, rfl, hw, hd, hcl⟩
  have nd := sc95.nd
  have hok := hw.ok
  have hs3 := hw.s3
  have hpos := hok.pos
  have hc2 := hw.c2
  have hmv := hw.fo.few
  refine dss_cons (ds_par3W (i := 2) (j := 3) (l := 4) (p := fun ds z' => ∃ st : Nat, ds = [fmD m, .int st, rl ([], [])] ∧ st < m.size ∧ Aft z 1 z') rfl nd rfl rfl rfl (by decide) (by decide) (by decide) rfl rfl rfl
    (aw_cons (p1 := fun d z' => d = fmD m ∧ z' = z) (ew_of (de_callC c91 (by walk_at "room") (by rfl) (by walk_at "da") ⟨m, rfl, rfl, hw.fo⟩) ⟨rfl, rfl⟩) fun d1 z1 h1 => aw_cons (p1 := fun d z' => drawPost [.int m.size] z d z') (by
      rw [h1.2]
      exact ev_w (ev_dk (i := 0) c88 (by walk_at "room") (by rfl) rfl rfl (by walk_at "vis") (fw0 (by walk_at "de")) ⟨m.size, rfl, hpos, by omega, by omega, by omega⟩)) fun d2 z2 h2 => aw_cons (p1 := fun d z' => d = rl ([], []) ∧ z' = z2) (ew_of (by show DE g _ _ _ (.tup [.tup [], .tup []]); walk_at "de") ⟨rfl, rfl⟩) fun d3 z3 h3 => aw_nil ?_) rfl fun ds z' hp => ?_)
  · obtain ⟨rfl, rfl⟩ := h1
    obtain ⟨rfl, rfl⟩ := h3
    have ha : Aft z1 0 z1 := ⟨Nat.le_refl _, Nat.le_refl _⟩
    have ha2 := ha.draw h2
    obtain ⟨b, n, e, rfl, hn, _⟩ := h2
    have eb : (m.size : Int) = b := D.int.inj (List.cons.inj e).1
    exact ⟨n, rfl, by omega, ha2⟩
  obtain ⟨st, rfl, hst, ha1⟩ := hp
  refine ⟨_, _, _, rfl, ?_⟩
  show DSs (deckS g L) F0 H0 _ _ [.val (.ref L.dk), .sh (fwD m), .sh (fmD m), .sh (.int st), .sh (rl ([], [])), .un, .un, .un, .un, .un, .un, .un, .un, .un, .un, .un, .un, .un] z' _
  refine dss_cons (ds_for (ts := m.moves) (mk := mvD) (fun t => [(5, .int t.1), (6, .str (chr t.2.1)), (7, .int t.2.2)]) PassesOwn.never rfl (di_tup (fw1 (by walk_at "de"))) (by walk_at "pg") (fun t _ => tgt_tup3 5 6 7 _ _ _)
    (fun k ρ z2 => z2 = z' ∧ ∃ q a b c', ρ = [.val (.ref L.dk), .sh (fwD m), .sh (fmD m), .sh (.int st), .sh (rl q), a, b, c', .un, .un, .un, .un, .un, .un, .un, .un, .un, .un] ∧ Least q (KM.tot m st k) ∧ q.2.length ≤ 3 * KM.hits m st k) ⟨rfl, _, _, _, _, rfl, KM.least_nil, Nat.zero_le _⟩ ?_ ?_)
  · rintro k t ρ' z2 ht ⟨rfl, q, a, b, c', rfl, hq, hql⟩
    have htm := List.mem_of_getElem? ht
    have hto := hw.fr.far t htm
    refine dss_cons (ds_if (b := decide ((t.1 : Int) = st)) (by walk_at "dt") (fun hb => ?_) fun hb => dss_nil (dss_nil ⟨rfl, q, _, _, _, rfl, ?_, ?_⟩))
    · have e : t.1 = st := by have := of_decide_eq_true hb; omega
      obtain ⟨r, hL, hrl⟩ := hw.rule hto
      have hh := KM.hits_hit ht e
      have hle := KM.hits_le hw.fr st (k + 1)
      have hqk : q.2.length ≤ 3 := by omega
      have hA := KM.ann_add (KM.gen_ann hq.gen) (KM.gen_ann hL.gen)
      obtain ⟨q', hL', hql'⟩ := KM.exists_least hA
      refine dss_cons (ds_set (d := rl q') (i := 4) nd rfl (by walk_at "loc") (de_callC (ds := [rl q, rl r]) c27 (by walk_at "room") (by rfl) (da_cons (by walk_at "de") (da_cons (de_callC (ds := [fmD m, .int t.2.2]) c25 (by walk_at "room") (by rfl) (by walk_at "da") ⟨m, t.2.2, r, rfl, rfl, hL, hw.ann hto, hok, hto, fun i hi => hw.bd hto (by omega)⟩) da_nil))
        ⟨q, r, q', KM.tot m st k, cnt m t.2.2, rfl, rfl, ⟨hq.gen, by omega, fun i hi => ?_⟩, hw.rok hto hL hrl, by omega, hL', hA, fun i hi => ?_⟩) (dss_nil (dss_nil ⟨rfl, q', _, _, _, rfl, KM.least_congr hL' fun n => (KM.tot_hit ht e n).symm, by omega⟩)))
      · have := KM.tot_bd hw.fr hok st k i hc2 hi; omega
      · have h1 := KM.tot_bd hw.fr hok st k i hc2 (by omega)
        have h2 := KM.cnt_small hok hto (show i < 13 by omega)
        show (KM.tot m st k i + cnt m t.2.2 i).natAbs < 2 ^ 60
        omega
    · have e : t.1 ≠ st := by have := of_decide_eq_false hb; omega
      exact KM.least_congr hq fun n => (KM.tot_miss ht e n).symm
    · have e : t.1 ≠ st := by have := of_decide_eq_false hb; omega
      rw [KM.hits_miss ht e]
      exact hql
  rintro ρ' z2 ⟨rfl, q, a, b, c', rfl, hq, hql⟩
  have hq := KM.least_congr hq (KM.tot_all hw.fr st)
  have hql : q.2.length ≤ 6 := by have := KM.hits_le hw.fr st m.moves.length; omega
  have hbT : ∀ i, i < 12 → 0 ≤ cnt m st (i + 1) ∧ cnt m st (i + 1) ≤ 531441 := fun i hi => KM.cnt_small hok hst (by omega)
  obtain ⟨r0, hL0, hrl0⟩ := hw.rule hst
  obtain ⟨T', eT'⟩ : ∃ T' : Nat → Int, T' = fun n => cnt m st (n + 1) := ⟨_, rfl⟩
  rw [← eT'] at hq
  have hbT' : ∀ i, i < 12 → (T' i).natAbs < 2 ^ 63 := fun i hi => by have := hbT i hi; rw [eT']; show (cnt m st (i + 1)).natAbs < _; omega
  refine dss_cons (ds_set (d := rl r0) (i := 8) nd rfl (by walk_at "loc") (de_callC (ds := [fmD m, .int st]) c25 (by walk_at "room") (by rfl) (by walk_at "da") ⟨m, st, r0, rfl, rfl, hL0, hw.ann hst, hok, hst, fun i hi => hw.bd hst (by omega)⟩) ?_)
  have e1 : DL.cutD ((seqUp (cnt m st) 12).map D.int) (some 1) none = (seqUp T' 11).map D.int := by rw [eT']; exact drop1 _ 11
  refine dss_cons (ds_if (b := (!decide (seqUp T' 11 = seqUp T' 11) || !decide (cnt m st 0 = cnt m st 0))) (DW.t (dw_or (dt_neD (by exact hr.units) eqok_lst (DE.b ?_) (DE.b ?_)) fun _ => dw_or1 (dt_neI (DE.b ?_) (DE.b ?_)))) (fun hb => by simp at hb) fun _ => dss_nil ?_)
  · rw [← e1]
    exact DN.e (dn_slL (DE.b (DN.e (dn_listT (by rfl) T.list (de_callC (ds := [rl r0, .int (12 : Nat)]) c21 (by walk_at "room") (by rfl) (by walk_at "da") ⟨r0, _, 12, rfl, rfl, hL0.gen, by omega, by omega, fun i hi => by have := hw.bd hst (show i < 13 by omega); omega⟩)))) (do_some (by walk_at "db")) do_none)
  · exact DN.e (dn_listT (by rfl) T.list (de_callC (ds := [rl q, .int (11 : Nat)]) c21 (by walk_at "room") (by rfl) (by walk_at "da") ⟨q, T', 11, rfl, rfl, hq.gen, by omega, by omega, fun i hi => hbT' i (by omega)⟩))
  · exact de_callC (ds := [rl r0, .int (0 : Nat)]) c22 (by walk_at "room") (by rfl) (by walk_at "da") ⟨r0, _, 0, rfl, rfl, hL0.gen, by omega, by omega, fun i hi => by have := hw.bd hst (show i < 13 by omega); omega⟩
  · rw [← end_bit hst]
    exact de_intB (by rfl) T.int (DE.b (de_inT (by walk_at "db") (DE.b (fw2 (by walk_at "de")))))
  obtain ⟨e0, ee0⟩ : ∃ e0, e0 = cnt m st 0 := ⟨_, rfl⟩
  obtain ⟨S, eS⟩ : ∃ S, S = subS (cnt m st) (fun n => if n = 0 then e0 else 0) := ⟨_, rfl⟩
  have hS0 : S 0 = 0 := by rw [eS, ee0]; show cnt m st 0 - cnt m st 0 = 0; omega
  have hSs : ∀ n, S (n + 1) = T' n := fun n => by rw [eS, eT']; show cnt m st (n + 1) - (if n + 1 = 0 then e0 else 0) = cnt m st (n + 1); rw [if_neg (by omega)]; omega
  have hbS : ∀ i, i < 13 → (S i).natAbs < 2 ^ 60 := fun i hi => by
    cases i with
    | zero => rw [hS0]; decide
    | succ i => rw [hSs]; have := hbT i (by omega); rw [eT']; show (cnt m st (i + 1)).natAbs < _; omega
  have hAS : Ann S (r0.2.length + 1) := by rw [eS]; exact KM.ann_sub (KM.gen_ann hL0.gen) (KM.gen_ann (KM.gen_first e0))
  obtain ⟨r1, hL1, hrl1⟩ := KM.exists_least hAS
  refine dss_cons (ds_set (d := rl r1) (i := 9) nd rfl (by walk_at "loc") (de_callC (ds := [rl r0, rl ([e0], [0])]) c28 (by walk_at "room") (by rfl) (da_cons (by walk_at "de") (da_cons ?_ da_nil)) ⟨r0, ([e0], [0]), r1, cnt m st, fun n => if n = 0 then e0 else 0, rfl, rfl, hw.rok hst hL0 hrl0, ⟨KM.gen_first e0, by show 1 ≤ 6; decide, fun i hi => ?_⟩, by show r0.2.length + 1 ≤ 6; omega, eS ▸ hL1, eS ▸ hAS, fun i hi => eS ▸ hbS i (by omega)⟩) ?_)
  · show DE g _ _ _ (.tup [.tup [.int e0], .tup [.int 0]])
    refine de_tup (da_cons (de_tup (da_cons ?_ da_nil) (by simp)) (by walk_at "da")) (by simp)
    rw [ee0, ← end_bit hst]
    exact de_intB (by rfl) T.int (DE.b (de_inT (by walk_at "db") (DE.b (fw2 (by walk_at "de")))))
  · show (if i = 0 then e0 else 0).natAbs < _
    have := hw.bd hst (show 0 < 13 by omega)
    rw [ee0]
    split
    · omega
    · decide
  have e2 : [D.int 0] ++ (seqUp T' 11).map D.int = (seqUp S 12).map D.int := by
    rw [KM.seqUp_cons S 11, hS0, List.map_cons]
    have : seqUp (fun i => S (i + 1)) 11 = seqUp T' 11 := KM.seqUp_congr fun i _ => hSs i
    rw [this]
    rfl
  refine dss_cons (ds_if (b := (!decide (r1 = r1) || !decide (seqUp S 12 = seqUp S 12))) (DW.t (dw_or (dt_neD (by exact hr.units) eqok_rl (DE.b ?_) (by walk_at "db")) fun _ => dw_or1 (dt_neD (by exact hr.units) eqok_lst (DE.b ?_) (DE.b ?_)))) (fun hb => by simp at hb) fun _ => dss_nil ?_)
  · exact de_callC (ds := [rl r1, .int 1, .int 0]) c34 (by walk_at "room") (by rfl) (by walk_at "da") ⟨r1, r1, S, rfl, rfl, ⟨hL1.gen, by omega, fun i hi => by have := hbS i hi; omega⟩, hL1, KM.gen_ann hL1.gen, fun i hi => hbS i (by omega)⟩
  · exact DN.e (dn_listT (by rfl) T.list (de_callC (ds := [rl r1, .int (12 : Nat)]) c21 (by walk_at "room") (by rfl) (by walk_at "da") ⟨r1, S, 12, rfl, rfl, hL1.gen, by omega, by omega, fun i hi => by have := hbS i (by omega); omega⟩))
  · rw [← e2]
    exact DN.e (dn_cat (by simp [seqUp]) (by walk_at "db") (DE.b (DN.e (dn_listT (by rfl) T.list (de_callC (ds := [rl q, .int (11 : Nat)]) c21 (by walk_at "room") (by rfl) (by walk_at "da") ⟨q, T', 11, rfl, rfl, hq.gen, by omega, by omega, fun i hi => hbT' i (by omega)⟩)))))
  refine dss_cons (ds_parW (p1 := fun d z3 => ∃ n : Nat, d = .int n ∧ n < 6 ∧ Aft z 2 z3) (p2 := fun _ _ d2 z4 => ∃ k : Nat, d2 = .int ((6 + k : Nat) : Int) ∧ k < 6 ∧ Aft z 3 z4) (i := 10) (j := 11) rfl nd rfl rfl (by decide) rfl rfl ((ev_w (ev_dk (i := 0) c88 (by walk_at "room") (by rfl) rfl rfl (by walk_at "vis") (by walk_at "de") ⟨6, rfl, by decide, by decide, by have := ha1.1; omega, by have := ha1.2; omega⟩)).mono ?_) (fun d z3 hp => ?_) rfl ?_)
  · rintro d z3 hp
    have ha2 := ha1.draw hp
    obtain ⟨b, n, e, rfl, hn, _⟩ := hp
    have eb : (6 : Int) = b := D.int.inj (List.cons.inj e).1
    exact ⟨n, rfl, by omega, ha2⟩
  · obtain ⟨_, _, _, ha2⟩ := hp
    refine ev_w (ev_add (p := fun d z4 => drawPost [.int 6] z3 d z4) (ev_dk (i := 0) c88 (by walk_at "room") (by rfl) rfl rfl (by walk_at "vis") (by walk_at "de") ⟨6, rfl, by decide, by decide, by have := ha2.1; omega, by have := ha2.2; omega⟩) ?_)
    rintro d z4 hp4
    have ha3 := ha2.draw hp4
    obtain ⟨b, n, e, rfl, hn, _⟩ := hp4
    have eb : (6 : Int) = b := D.int.inj (List.cons.inj e).1
    exact ⟨n, rfl, n, by rw [Int.natCast_add]; rfl, by omega, ha3⟩
  rintro _ z3 _ z4 ⟨n, rfl, hn, _⟩ ⟨k, rfl, hk, ha4⟩
  refine dss_cons (ds_set (d := intsD (KM.waysAt m 0)) (i := 12) nd rfl (by walk_at "loc") ?_ ?_)
  · have e3 : intsD (KM.waysAt m 0) = .lst ([D.int 1] ++ (List.replicate ((m.size : Int) - 1).toNat [D.int 0]).flatten) := by
      rw [intsD, KM.waysAt, List.map_cons, map_rep, rep_one, show ((m.size : Int) - 1).toNat = m.size - 1 by omega]
      rfl
    rw [e3]
    exact DN.e (dn_cat (by rw [rep_one]; simp; omega) (by walk_at "db") (DE.b (DN.e (dn_rep (xs := [.int 0]) (by omega) (by omega) (by simp; omega) (by walk_at "db") (DE.b (de_sub (DE.b (fw0 (by walk_at "de"))) (by walk_at "db")))))))
  refine dss_cons (ds_for (ts := List.range n) (mk := fun (i : Nat) => D.int i) (fun t => [(13, .int t)]) PassesOwn.never rfl (di_range1 (by rfl) T.range (by omega) (by walk_at "de")) (by walk_at "pg") (fun t _ => tgt_name 13 _)
    (fun j ρ z5 => z5 = z4 ∧ ∃ a b c' t fr, ρ = [.val (.ref L.dk), .sh (fwD m), .sh (fmD m), .sh (.int st), .sh (rl q), a, b, c', .sh (rl r0), .sh (rl r1), .sh (.int n), .sh (.int ((6 + k : Nat) : Int)), .sh (intsD (KM.waysAt m j)), t, fr, .un, .un, .un]) ⟨rfl, _, _, _, _, _, rfl⟩ ?_ ?_)
  · rintro j t ρ' z5 ht ⟨rfl, a, b, c', t', fr, rfl⟩
    have hkt : t = j := by
      have h1 := (List.getElem?_eq_some_iff.mp ht).1
      rw [List.length_range] at h1
      rw [List.getElem?_range h1] at ht
      cases ht; rfl
    subst hkt
    obtain ⟨W, eW⟩ : ∃ W, W = KM.waysAt m t := ⟨_, rfl⟩
    have hWl : W.length = m.size := by rw [eW]; exact KM.ways_len hw.fr t
    rw [← eW]
    refine dss_cons (ds_new (xs := (List.replicate m.size (0 : Int)).map D.int) (i := 14) nd rfl (by walk_at "loc") ?_ ?_)
    · have e4 : (List.replicate m.size (0 : Int)).map D.int = (List.replicate (m.size : Int).toNat [D.int 0]).flatten := by rw [map_rep, rep_one, Int.toNat_natCast]
      rw [e4]
      exact dn_rep (xs := [.int 0]) (by omega) (by omega) (by simp; omega) (by walk_at "db") (DE.b (fw0 (by walk_at "de")))
    refine dss_cons (ds_for (ts := m.moves) (mk := mvD) (fun t => [(5, .int t.1), (6, .str (chr t.2.1)), (7, .int t.2.2)]) PassesOwn.never rfl (di_tup (fw1 (by walk_at "de"))) (by walk_at "pg") (fun t _ => tgt_tup3 5 6 7 _ _ _)
      (fun i ρ z6 => z6 = z5 ∧ ∃ a b c', ρ = [.val (.ref L.dk), .sh (fwD m), .sh (fmD m), .sh (.int st), .sh (rl q), a, b, c', .sh (rl r0), .sh (rl r1), .sh (.int n), .sh (.int ((6 + k : Nat) : Int)), .sh (intsD W), .sh (.int t), .own (((m.moves.take i).foldl (KM.wayStep W) (List.replicate m.size 0)).map D.int), .un, .un, .un]) ⟨rfl, _, _, _, rfl⟩ ?_ ?_)
    · rintro i v ρ' z6 hv ⟨rfl, a, b, c', rfl⟩
      have hvm := List.mem_of_getElem? hv
      have hto := hw.fr.far v hvm
      have hfr := hw.fr.near v hvm
      obtain ⟨G, eG⟩ : ∃ G, G = (m.moves.take i).foldl (KM.wayStep W) (List.replicate m.size 0) := ⟨_, rfl⟩
      have hGl : G.length = m.size := by rw [eG]; exact way_len hw.fr W i
      rw [← eG]
      refine dss_cons (ds_setix (i := 14) (j := v.2.2) (k := (v.2.2 : Int)) (d := .int (G.getD v.2.2 0 + W.getD v.1 0)) rfl rfl (by walk_at "vis") ?_ (by walk_at "de") (ixN_nat (by rw [List.length_map, hGl]; exact hto)) (dss_nil ⟨rfl, .sh (.int v.1), .sh (.str (chr v.2.1)), .sh (.int v.2.2), ?_⟩))
      · refine de_add (DE.b ?_) (DE.b ?_)
        · exact de_ixL (i := (v.2.2 : Int)) (xs := G.map D.int) (atI_nat (by rw [List.getElem?_map, getD_at (d := 0) (by omega)]; rfl)) (by walk_at "db") (by walk_at "db")
        · exact de_ixL (i := (v.1 : Int)) (xs := W.map D.int) (atI_nat (by rw [List.getElem?_map, getD_at (d := 0) (by omega)]; rfl)) (by walk_at "db") (by walk_at "db")
      · rw [foldl_take _ _ hv, ← eG]
        show [_, _, _, _, _, _, _, _, _, _, _, _, _, _, Slot.own _, _, _, _] = [_, _, _, _, _, _, _, _, _, _, _, _, _, _, Slot.own _, _, _, _]
        rw [set_map]
        rfl
    · rintro ρ' z6 ⟨rfl, a, b, c', rfl⟩
      rw [List.take_length]
      refine dss_fix (i := 14) rfl ?_
      refine dss_cons (ds_set (d := intsD (m.moves.foldl (KM.wayStep W) (List.replicate m.size 0))) (i := 12) nd rfl (by walk_at "loc") (by exact va 14) (dss_nil ⟨rfl, a, b, c', .sh (.int t), .sh (intsD (m.moves.foldl (KM.wayStep W) (List.replicate m.size 0))), ?_⟩))
      rw [KM.waysAt, ← eW]
      rfl
  rintro ρ' z5 ⟨rfl, a, b, c', t', fr, rfl⟩
  rw [List.length_range]
  obtain ⟨W, eW⟩ : ∃ W, W = KM.waysAt m n := ⟨_, rfl⟩
  have hWl : W.length = m.size := by rw [eW]; exact KM.ways_len hw.fr n
  have hcut := KM.ways_cut hw.fr n (6 + k - n)
  rw [← eW] at hcut ⊢
  rw [show 6 + k - n + n = 6 + k by omega] at hcut
  obtain ⟨ly, ely⟩ : ∃ ly, ly = layerAt m (6 + k - n) := ⟨_, rfl⟩
  have hlyl : ly.length = m.size := by rw [ely]; exact KM.layer_len hok.near _
  refine dss_cons (ds_set (d := tupD ly) (i := 15) nd rfl (by walk_at "loc") (de_callC (ds := [fmD m, .int (((6 + k : Nat) : Int) - (n : Int))]) c11 (by walk_at "room") (by rfl) (by walk_at "da") ⟨m, 6 + k - n, by rw [show ((6 + k : Nat) : Int) - (n : Int) = ((6 + k - n : Nat) : Int) by omega], by rw [ely], hok, by omega⟩) ?_)
  have hsum : (W.zipIdx.map fun q => q.1 * ly.getD q.2 0).sum = cnt m 0 (6 + k) := by
    rw [KM.enum_sum, hWl, ely]
    exact hcut
  refine dss_cons (ds_if (b := !decide ((W.zipIdx.map fun q => q.1 * ly.getD q.2 0).sum = cnt m 0 (6 + k))) (dt_neI (DE.b ?_) (DE.b ?_)) (fun hb => by rw [hsum] at hb; simp at hb) fun _ => dss_nil ?_)
  · refine de_sum rfl (by rfl) T.sum (DE.b (DN.e ?_))
    rw [List.map_map]
    refine dn_map2 (ts := W.zipIdx) (f1 := fun q => .int (q.2 : Nat)) (f2 := fun q => .int q.1) (y1 := "_law_at") (y2 := "_law_many") (i := 16) (j := 17) rfl nd ?_ (blkOk_by (by rfl)) (fun s H C cl fp => pg_tup rfl (pgs_cons (pg_name (i := 16) nd (by rfl) (by walk_at "loc")) (pgs_cons (pg_name (i := 17) nd (by rfl) (by walk_at "loc")) pgs_nil))) (fun s H C cl fp t ht => ?_) (by rw [List.length_zipIdx, hWl]; omega)
    · have e5 : (W.zipIdx.map fun q => D.tup [.int (q.2 : Nat), .int q.1]) = (W.map D.int).zipIdx.map fun q => D.tup [.int (q.2 : Nat), q.1] := by
        rw [List.zipIdx_map, List.map_map]
        rfl
      rw [e5]
      exact di_n (l := true) (by rfl) T.enum (by show DE _ _ _ _ (.lst _); exact va 12)
    · have hi : t.2 < m.size := by
        obtain ⟨i, hi⟩ := List.mem_iff_getElem?.mp ht
        obtain ⟨h1, h2⟩ := zip_at hi
        have := (List.getElem?_eq_some_iff.mp h2).1
        omega
      have hb := KM.cnt_small hok hi (show 6 + k - n < 13 by omega)
      have hb2 : ly.getD t.2 0 = cnt m t.2 (6 + k - n) := by rw [ely]; rfl
      refine de_mul (.inr (by rw [hb2]; omega)) (by exact DE.b (va 17)) (DE.b ?_)
      exact de_ixT (i := (t.2 : Int)) (xs := ly.map D.int) (atI_nat (by rw [List.getElem?_map, getD_at (d := 0) (by omega)]; rfl)) (by walk_at "db") (by exact DE.b (va 16))
  · exact de_callC (ds := [fmD m, .int ((6 + k : Nat) : Int)]) c13 (by walk_at "room") (by rfl) (by walk_at "da") ⟨m, 6 + k, rfl, rfl, hok, by omega⟩
  obtain ⟨r2, hL2, hrl2⟩ := hw.rule hpos
  have hAc := KM.ann_acc (KM.gen_ann hL2.gen)
  obtain ⟨r3, hL3, hrl3⟩ := KM.exists_least hAc
  have hbc : ∀ i, i < 12 → (accS (cnt m 0) i).natAbs < 2 ^ 60 := fun i hi => by
    have := KM.sumN_bd (f := cnt m 0) (n := i + 1) (B := 531441) fun j hj => KM.cnt_small hok hpos (by omega)
    show (sumN (cnt m 0) (i + 1)).natAbs < _
    omega
  refine dss_cons (ds_ret (d := .bl (decide (accS (cnt m 0) 7 = (seqUp (cnt m 0) 8).sum))) (de_eqI (DE.b ?_) (DE.b ?_)) ⟨?_, by have := ha4.1; omega, ha4.2⟩)
  · refine de_ixL (i := ((7 : Nat) : Int)) (xs := (seqUp (accS (cnt m 0)) 8).map D.int) (atI_nat (by rw [List.getElem?_map, seqUp_at (by omega)]; rfl)) (DE.b (DN.e (dn_listT (by rfl) T.list (de_callC (ds := [rl r3, .int (8 : Nat)]) c21 (by walk_at "room") (by rfl) (da_cons ?_ (by walk_at "da")) ⟨r3, _, 8, rfl, rfl, hL3.gen, by omega, by omega, fun i hi => by have := hbc i (by omega); omega⟩)))) (by walk_at "db")
    exact de_callC (ds := [rl r2]) c32 (by walk_at "room") (by rfl) (da_cons (de_callC (ds := [fmD m]) c24 (by walk_at "room") (by rfl) (by walk_at "da") ⟨m, r2, rfl, rfl, hL2, hw.ann hpos, hok, fun i hi => hw.bd hpos (by omega)⟩) da_nil) ⟨r2, r3, cnt m 0, rfl, rfl, hw.rok hpos hL2 hrl2, by omega, hL3, hAc, hbc⟩
  · exact de_sum rfl (by rfl) T.sum (DE.b (DN.e (dn_listT (by rfl) T.list (de_callC (ds := [fmD m, .int (8 : Nat)]) c14 (by walk_at "room") (by rfl) (by walk_at "da") ⟨m, 8, rfl, rfl, hok, by omega⟩))))
  · have : (seqUp (cnt m 0) 8).sum = sumN (cnt m 0) 8 := sum_range _ _
    rw [this]
    show D.bl (decide (sumN (cnt m 0) (7 + 1) = _)) = _
    simp
end
section
variable {g : Gx} {P : Program} {w : World} {K : PySem.W.Frag} {mg : Str → Option Value} {base : Heap}
/-! ### formats put together are formats -/
theorem mle_eq (a b : Nat × Nat × Nat) : mleB a b = decide (¬ (b.1 < a.1 ∨ (b.1 = a.1 ∧ (b.2.1 < a.2.1 ∨ (b.2.1 = a.2.1 ∧ b.2.2 < a.2.2))))) := by
  rw [mleB, leD, mv_lt, decide_not]
theorem sort_up {l : List (Nat × Nat × Nat)} (h : l.Pairwise KM.KeyNe) : Up (l.mergeSort mleB) := by
  have h1 : (l.mergeSort mleB).Pairwise (fun a b => mleB a b = true) := by
    refine List.pairwise_mergeSort (fun a b c h1 h2 => ?_) (fun a b => ?_) l
    · rw [mle_eq, decide_eq_true_iff] at h1 h2 ⊢
      omega
    · rw [mle_eq, mle_eq, ← Bool.decide_or, decide_eq_true_iff]
      omega
  have h2 : (l.mergeSort mleB).Pairwise KM.KeyNe := ((List.mergeSort_perm l mleB).pairwise_iff KM.key_symm).mpr h
  refine List.Pairwise.imp₂ ?_ h1 h2
  intro a b q1 q2
  rw [mle_eq, decide_eq_true_iff] at q1
  unfold KM.KeyNe at q2
  omega
theorem beh_of (n f : Fm) : KM.Beh n f (behindF n f) := ⟨rfl, List.mergeSort_perm _ _, rfl⟩
theorem bes_of (n f : Fm) : KM.Bes n f (besideF n f) := ⟨rfl, List.mergeSort_perm _ _, rfl⟩
def Apart (n f : Fm) : Prop := ∀ x ∈ n.moves, ∀ y ∈ f.moves, x.2.1 ≠ y.2.1
section
variable {n f : Fm} {c d : Nat}
theorem behind_fmt (hn : WOk n c) (hf : WOk f d) (hcd : c + d ≤ 3) (ap : Apart n f) : FmtOk (behindF n f) := by
  have ok := KM.beh_ok hn.fr hf.fr (beh_of n f) hcd hn.s3 hf.s3
  refine ⟨ok.pos, by have := ok.big; omega, fun x hx => ?_, sort_up (KM.behind_ne hn.fr hn.fo.up hf.fo.up ap), by have := ok.few; omega, ok.ends, KM.behind_up hn.fr hn.fo.upE hf.fo.upE, by have := ok.fewE; omega⟩
  refine ⟨ok.near x hx, ?_, ok.far x hx⟩
  rcases KM.beh_mem (beh_of n f) hx with q | ⟨y, hy, rfl⟩ | ⟨s, hs, y, hy, _, rfl⟩
  · exact (hn.fo.mv x q).2.1
  · exact (hf.fo.mv y hy).2.1
  · exact (hf.fo.mv y hy).2.1
theorem beside_fmt (hn : WOk n c) (hf : WOk f d) (hc : c ≤ 2) (hd : d ≤ 1) (h2 : f.size ≤ 2) (ap : Apart n f) : FmtOk (besideF n f) := by
  have ok := KM.bes_ok hn.fr hf.fr (bes_of n f) hc hd hn.s3 h2
  refine ⟨ok.pos, by have := ok.big; omega, fun x hx => ?_, sort_up (KM.beside_ne hn.fr hn.fo.up hf.fo.up ap), by have := ok.few; omega, ok.ends, KM.beside_up hn.fr hn.fo.upE hf.fo.upE, by have := ok.fewE; omega⟩
  refine ⟨ok.near x hx, ?_, ok.far x hx⟩
  rcases KM.bes_mem (bes_of n f) hx with ⟨y, hy, _, rfl⟩ | ⟨y, hy, _, rfl⟩ | ⟨y, hy, rfl⟩ | ⟨y, hy, rfl⟩
  · exact (hn.fo.mv y hy).2.1
  · exact (hf.fo.mv y hy).2.1
  · exact (hn.fo.mv y hy).2.1
  · exact (hf.fo.mv y hy).2.1
end
theorem opd_notBl {X : Cx} {i j : Bool} : OpD g (rNotB) (.bl i) (.bl j) (.bl (!decide (i = j))) := fun F H x y b h1 h2 Q q => ⟨i, j, h1.bl, h2.bl, q _ F H (Step.refl b) rfl⟩
theorem dt_notBl {X : Cx} {ρ : DL.Env} {a b : Expr} {pos : Pos} {i j : Bool} (ha : DB g X a ρ (.bl i)) (hb : DB g X b ρ (.bl j)) : DT g X (.Compare a [.IsNot] [b] pos) ρ (!decide (i = j)) := dt_cmp op_notBl ha hb (opd_notBl (X := X)) (nomark _)
end
section
variable {g : Gx} {P : Program} {w : World} {K : PySem.W.Frag} {mg : Str → Option Value} {base : Heap}
/-! ### _law_both_right -/
abbrev s96 : Stmt := top 96
abbrev N96 : List Str := ["_law_deck_here", "_law_near", "_law_far", "_law_one", "_law_other", "_law_rules", "_law_both", "_law_side", "_law_total", "_law_is_same", "_law_swapped", "_law_index", "_law_under", "_law_told", "_law_due", "_law_w"]
theorem sc96 : FnScope N96 ["_law_deck_here", "_law_near", "_law_far"] (defScope s96) := ⟨rfl, rfl, rfl, by decide +kernel, rfl, by decide +kernel, by decide +kernel⟩
def brPre (ds : List D) (z : Deck) : Prop := ∃ n f : Fm, ds = [fwD n, fwD f] ∧ WOk n 2 ∧ WOk f 1 ∧ f.size ≤ 2 ∧ Apart n f ∧ z.draws + 100 < 2 ^ 50 ∧ z.cells.length ≤ 100
def brPost (_ : List D) (_ : Deck) (d : D) (_ : Deck) : Prop := d = .bl true
theorem WOk.ends6 {m : Fm} {c : Nat} (h : WOk m c) : m.ends.length ≤ 6 := by have := h.fr.fewE; have := h.s3; omega
theorem WOk.mv12 {m : Fm} {c : Nat} (h : WOk m c) : m.moves.length ≤ 12 := by have := h.fr.few; have := h.s3; omega
theorem judge_at (o : Option Nat) (r : Rule) : ∃ x, judgeD o r = .tup [.str (if o.isNone then ("same" : Str) else "unlike"), x] := by
  cases o with
  | none => exact ⟨_, rfl⟩
  | some k => exact ⟨_, rfl⟩
section
variable {X : Cx} {ρ : DL.Env} {e : Expr} {x y : D} {xs : List D} {pos p1 : Pos} {j : Nat}
theorem ix0 (h : DE g X e ρ (.lst [x, y])) (hs : PlainIx (.Constant (.int 0) j p1) := by intro _ _; rfl) : DE g X (.Subscript e (.Constant (.int 0) j p1) pos) ρ x := de_ixL (i := 0) (xs := [x, y]) rfl (DE.b h) (DE.b de_int) hs
theorem ix1 (h : DE g X e ρ (.lst [x, y])) (hs : PlainIx (.Constant (.int 1) j p1) := by intro _ _; rfl) : DE g X (.Subscript e (.Constant (.int 1) j p1) pos) ρ y := de_ixL (i := 1) (xs := [x, y]) rfl (DE.b h) (DE.b de_int) hs
theorem it0 (h : DE g X e ρ (.tup (x :: xs))) (hs : PlainIx (.Constant (.int 0) j p1) := by intro _ _; rfl) : DE g X (.Subscript e (.Constant (.int 0) j p1) pos) ρ x := de_ixT (i := 0) (xs := x :: xs) (by rw [show (0 : Int) = ((0 : Nat) : Int) from rfl]; exact atI_nat rfl) (DE.b h) (DE.b de_int) hs
end
theorem ok96 (T : Tx g K mg) (h : Def P w K mg base "_law_both_right" s96 ["_law_deck_here", "_law_near", "_law_far"]) (c91 : Cal g P w K mg base "_law_code" 8 ["_law_w"] R91) (c88 : CalK g P w K mg base "_law_draw" 1 ["_law_deck_here", "_law_bound"] drawPre drawPost)
    (c93 : Cal g P w K mg base "_law_behind" 2 ["_law_near", "_law_far"] R93) (c94 : Cal g P w K mg base "_law_beside" 2 ["_law_near", "_law_far"] R94) (c24 : Cal g P w K mg base "least_rule" 12 ["form"] R24) (c30 : Cal g P w K mg base "met" 11 ["one", "other"] R30) (c26 : Cal g P w K mg base "obeys" 4 ["form", "thing"] R26)
    (c27 : Cal g P w K mg base "added" 11 ["one", "other"] R27) (c21 : Cal g P w K mg base "terms" 2 ["rule", "many"] R21) (c14 : Cal g P w K mg base "counts" 3 ["form", "many"] R14) (c12 : Cal g P w K mg base "count_from" 4 ["form", "state", "length"] R12) (c13 : Cal g P w K mg base "count" 5 ["form", "length"] R13)
    (c83 : Cal g P w K mg base "have_same_rows" 5 ["one", "other"] R83) (c84 : Cal g P w K mg base "judge_rows" 13 ["one", "other"] R84) (c85 : Cal g P w K mg base "rows_hold" 5 ["one", "other", "thing"] R85) (c40 : Cal g P w K mg base "count_left" 13 ["form", "length", "under"] R40) (c39 : Cal g P w K mg base "term_left" 2 ["rule", "index", "under"] R39) :
    CalK g P w K mg base "_law_both_right" 14 ["_law_deck_here", "_law_near", "_law_far"] brPre brPost := by
  refine calK_of h sc96 (fun ds z h => by obtain ⟨n, f, rfl, _⟩ := h; rfl) (by decide) ?_
  rintro fa cdv A outer s H E L F0 H0 z ds hr ⟨n, f, rfl, hn, hf, hf2, ap, hd, hcl⟩
  have nd := sc96.nd
  have apS : Apart f n := fun x hx y hy e => ap y hy x hx e.symm
  -- the two, their rules
  have hn0 := hn.fr.pos
  have hf0 := hf.fr.pos
  obtain ⟨r1, hL1, hl1⟩ := hn.rule hn0
  obtain ⟨r2, hL2, hl2⟩ := hf.rule hf0
  have hf3 : r2.2.length ≤ 2 := by have := hL2.le (hf.ann hf0); omega
  -- one behind the other
  obtain ⟨B, eB⟩ : ∃ B, B = behindF n f := ⟨_, rfl⟩
  have bB : KM.Beh n f B := eB ▸ beh_of n f
  have fB : FmtOk B := eB ▸ behind_fmt hn hf (by decide) ap
  have okB : B.Ok := KM.beh_ok hn.fr hf.fr bB (by decide) hn.s3 hf.s3
  have cB : ∀ k, cnt B 0 k = metS (cnt n 0) (cnt f 0) k := fun k => KM.beh_cnt hn.fr hf.fr bB k 0 hn0
  have aB : Ann (cnt B 0) B.size := KM.beh_ann hn.fr hf.fr bB (by decide) (by decide) hn.s3 hf.s3
  obtain ⟨W, eW⟩ : ∃ W, W = behindF f n := ⟨_, rfl⟩
  have bW : KM.Beh f n W := eW ▸ beh_of f n
  have fW : FmtOk W := eW ▸ behind_fmt hf hn (by decide) apS
  have okW : W.Ok := KM.beh_ok hf.fr hn.fr bW (by decide) hf.s3 hn.s3
  have cW : ∀ k, cnt W 0 k = cnt B 0 k := fun k => by rw [KM.beh_cnt hf.fr hn.fr bW k 0 hf0, cB, KM.met_comm]
  have aW : Ann (cnt W 0) W.size := KM.beh_ann hf.fr hn.fr bW (by decide) (by decide) hf.s3 hn.s3
  obtain ⟨S, eS⟩ : ∃ S, S = besideF n f := ⟨_, rfl⟩
  have bS : KM.Bes n f S := eS ▸ bes_of n f
  have fS : FmtOk S := eS ▸ beside_fmt hn hf (by decide) (by decide) hf2 ap
  have okS : S.Ok := KM.bes_ok hn.fr hf.fr bS (by decide) (by decide) hn.s3 hf2
  have cS : ∀ k, cnt S 0 (k + 1) = addS (cnt n 0) (cnt f 0) (k + 1) := fun k => KM.bes_cnt hn.fr hf.fr bS k
  have aS : Ann (cnt S 0) S.size := KM.bes_ann hn.fr hf.fr bS (by decide) (by decide) hn.s3 hf.s3
  have bd : ∀ {m : Fm}, m.Ok → ∀ i, i < 13 → (cnt m 0 i).natAbs < 2 ^ 60 := fun {m} ok i hi => by
    have := KM.cnt_small ok ok.pos hi
    omega
  have hA12 := KM.ann_met (KM.gen_ann hL1.gen) (KM.gen_ann hL2.gen)
  obtain ⟨m1, hM, hm1⟩ := KM.exists_least hA12
  have hMB : Least m1 (cnt B 0) := KM.least_congr hM fun k => (cB k).symm
  have hMW : Least m1 (cnt W 0) := KM.least_congr hMB fun k => (cW k).symm
  have hm5 : m1.2.length ≤ 5 := by omega
  have hbm : ∀ i, i < 12 → (metS (cnt n 0) (cnt f 0) i).natAbs < 2 ^ 60 := fun i hi => by rw [← cB]; exact bd okB i (by omega)
  have hM' : Least m1 (metS (cnt f 0) (cnt n 0)) := by rw [KM.met_comm]; exact hM
  have hbm' : ∀ i, i < 12 → (metS (cnt f 0) (cnt n 0) i).natAbs < 2 ^ 60 := fun i hi => by rw [KM.met_comm]; exact hbm i hi
  have hA21 : Ann (metS (cnt f 0) (cnt n 0)) (r2.2.length + r1.2.length) := KM.ann_met (KM.gen_ann hL2.gen) (KM.gen_ann hL1.gen)
  have hAs := KM.ann_add (KM.gen_ann hL1.gen) (KM.gen_ann hL2.gen)
  obtain ⟨t1, hT, ht1⟩ := KM.exists_least hAs
  have hbs : ∀ i, i < 13 → (addS (cnt n 0) (cnt f 0) i).natAbs < 2 ^ 60 := fun i hi => by
    have h1 := KM.cnt_small hn.ok hn0 hi
    have h2 := KM.cnt_small hf.ok hf0 hi
    show (cnt n 0 i + cnt f 0 i).natAbs < _
    omega
  obtain ⟨s1, hS, hs1⟩ := KM.exists_least aS
  have hs6 : s1.2.length ≤ 6 := by have := okS.big; omega
  have rk1 := hn.rok hn0 hL1 hl1
  have rk2 := hf.rok hf0 hL2 hl2
  -- are they the same
  obtain ⟨sm, esm⟩ : ∃ sm : Bool, sm = decide (r1 = r2) := ⟨_, rfl⟩
  have hsm : sm = true ↔ ∀ k, cnt n 0 k = cnt f 0 k := by rw [esm, decide_eq_true_iff]; exact KM.least_iff hL1 hL2
  have hun : (unlike n f).isNone = sm := by
    have h1 := KM.unlike_iff (hn.ann hn0) (hf.ann hf0)
    cases hx : (unlike n f).isNone with
    | true => exact (hsm.mpr (h1.mp hx)).symm
    | false =>
      cases hy : sm with
      | false => rfl
      | true => rw [h1.mpr (hsm.mp hy)] at hx; cases hx
  have hob : obeysB n r2 = sm := by
    have h1 := KM.obeys_iff (r := r2) (hn.ann hn0)
    cases hx : obeysB n r2 with
    | true => exact (hsm.mpr (KM.gen_eq (h1.mp hx) hL2.gen)).symm
    | false =>
      cases hy : sm with
      | false => rfl
      | true => rw [h1.mpr (KM.gen_congr hL2.gen fun k => (hsm.mp hy k).symm)] at hx; cases hx
  have hof : obeysB f r2 = true := (KM.obeys_iff (hf.ann hf0)).mpr hL2.gen
  have hoB : obeysB B m1 = true := (KM.obeys_iff aB).mpr hMB.gen
  have huB : (unlike B W).isNone = true := (KM.unlike_iff aB aW).mpr fun k => (cW k).symm
  -- one, other, rules
  refine dss_cons (ds_par3 (i := 3) (j := 4) (l := 5) (d1 := fmD n) (d2 := fmD f) (d3 := .lst [rl r1, rl r2]) rfl nd rfl rfl rfl (by decide) (by decide) (by decide) rfl rfl rfl
    (de_callC (ds := [fwD n]) c91 (by walk_at "room") (by rfl) (by walk_at "da") ⟨n, rfl, rfl, hn.fo⟩) (de_callC (ds := [fwD f]) c91 (by walk_at "room") (by rfl) (by walk_at "da") ⟨f, rfl, rfl, hf.fo⟩) (DN.e ?_) rfl ?_)
  · refine dn_map (ts := [(n, r1), (f, r2)]) (mk := fun q => fwD q.1) (e := fun q => rl q.2) (j := 15) rfl nd (di_tup ?_) (blkOk_by (by rfl)) (fun s H C cl fp => by walk_at "pg") (fun s H C cl fp t ht => ?_) (by simp)
    · exact de_tup (da_cons (by exact va 1) (da_cons (by exact va 2) da_nil)) (by simp)
    · have ht : t = (n, r1) ∨ t = (f, r2) := by simpa using ht
      rcases ht with rfl | rfl
      · exact de_callC (ds := [fmD n]) c24 (by walk_at "room") (by rfl) (da_cons (de_callC (ds := [fwD n]) c91 (by walk_at "room") (by rfl) (da_cons (by exact va 15) da_nil) ⟨n, rfl, rfl, hn.fo⟩) da_nil) ⟨n, r1, rfl, rfl, hL1, hn.ann hn0, hn.ok, fun i hi => bd hn.ok i (by omega)⟩
      · exact de_callC (ds := [fmD f]) c24 (by walk_at "room") (by rfl) (da_cons (de_callC (ds := [fwD f]) c91 (by walk_at "room") (by rfl) (da_cons (by exact va 15) da_nil) ⟨f, rfl, rfl, hf.fo⟩) da_nil) ⟨f, r2, rfl, rfl, hL2, hf.ann hf0, hf.ok, fun i hi => bd hf.ok i (by omega)⟩
  refine dss_cons (ds_par (i := 6) (j := 7) (d1 := fmD B) (d2 := fmD S) rfl nd rfl rfl (by decide) rfl rfl
    (de_callC (ds := [fwD B]) c91 (by walk_at "room") (by rfl) (da_cons (de_callC (ds := [fwD n, fwD f]) c93 (by walk_at "room") (by rfl) (by walk_at "da") ⟨n, f, rfl, by rw [eB], hn.mv12, hf.mv12, hn.ends6, hf.ends6⟩) da_nil) ⟨B, rfl, rfl, fB⟩)
    (de_callC (ds := [fwD S]) c91 (by walk_at "room") (by rfl) (da_cons (de_callC (ds := [fwD n, fwD f]) c94 (by walk_at "room") (by rfl) (by walk_at "da") ⟨n, f, rfl, by rw [eS], hn.mv12, hf.mv12, hn.ends6, hf.ends6⟩) da_nil) ⟨S, rfl, rfl, fS⟩) rfl ?_)
  show DSs (deckS g L) F0 H0 _ _ [.val (.ref L.dk), .sh (fwD n), .sh (fwD f), .sh (fmD n), .sh (fmD f), .sh (.lst [rl r1, rl r2]), .sh (fmD B), .sh (fmD S), .un, .un, .un, .un, .un, .un, .un, .un] z _
  -- the met row
  refine dss_cons (ds_if (b := (!decide (m1 = m1) || !true)) (DW.t (dw_or (dt_neD (by exact hr.units) eqok_rl (DE.b ?_) (DE.b ?_)) fun _ => dw_or1 (dt_not (dt_e ?_)))) (fun hb => by simp at hb) fun _ => dss_nil ?_)
  · exact de_callC (ds := [fmD B]) c24 (by walk_at "room") (by rfl) (by walk_at "da") ⟨B, m1, rfl, rfl, hMB, aB, okB, fun i hi => bd okB i (by omega)⟩
  · exact de_callC (ds := [rl r1, rl r2]) c30 (by walk_at "room") (by rfl) (da_cons (ix0 (by exact va 5)) (da_cons (ix1 (by exact va 5)) da_nil)) ⟨r1, r2, m1, cnt n 0, cnt f 0, rfl, rfl, rk1, rk2, by omega, hM, hA12, hbm⟩
  · exact de_callC (ds := [fmD B, rl m1]) c26 (by walk_at "room") (by rfl) (da_cons (by walk_at "de") (da_cons (de_callC (ds := [rl r2, rl r1]) c30 (by walk_at "room") (by rfl) (da_cons (ix1 (by exact va 5)) (da_cons (ix0 (by exact va 5)) da_nil)) ⟨r2, r1, m1, cnt f 0, cnt n 0, rfl, rfl, rk2, rk1, by omega, hM', hA21, hbm'⟩) da_nil)) ⟨B, m1, rfl, by rw [hoB], okB, hM.gen.len, by omega, fun i hi => by have := bd okB i hi; omega⟩
  -- the added row
  refine dss_cons (ds_set (d := rl t1) (i := 8) nd rfl (by walk_at "loc") (de_callC (ds := [rl r1, rl r2]) c27 (by walk_at "room") (by rfl) (da_cons (ix0 (by exact va 5)) (da_cons (ix1 (by exact va 5)) da_nil)) ⟨r1, r2, t1, cnt n 0, cnt f 0, rfl, rfl, rk1, rk2, by omega, hT, hAs, fun i hi => hbs i (by omega)⟩) ?_)
  obtain ⟨Z, eZ⟩ : ∃ Z, Z = seqUp (fun i => addS (cnt n 0) (cnt f 0) (i + 1)) 11 := ⟨_, rfl⟩
  have e1 : DL.cutD ((seqUp (cnt S 0) 12).map D.int) (some 1) none = Z.map D.int := by
    rw [drop1 _ 11, eZ]
    congr 1
    exact KM.seqUp_congr fun i _ => cS i
  have e2 : DL.cutD ((seqUp (addS (cnt n 0) (cnt f 0)) 12).map D.int) (some 1) none = Z.map D.int := by rw [drop1 _ 11, eZ]
  have h1S : (1 : Nat) < S.size := by have := bS.size; omega
  have c9 : cnt S 1 9 = cnt n 0 9 := KM.bes_one hn.fr hf.fr bS 9 0 hn0
  refine dss_cons (ds_if (b := (!decide (Z = Z) || !decide (cnt S 1 9 = cnt n 0 9))) (DW.t (dw_or (dt_neD (by exact hr.units) eqok_lst (DE.b ?_) (DE.b ?_)) fun _ => dw_or1 (dt_neI (DE.b ?_) (DE.b ?_)))) (fun hb => by rw [c9] at hb; simp at hb) fun _ => dss_nil ?_)
  · rw [← e1]
    exact DN.e (dn_slL (DE.b (DN.e (dn_listT (by rfl) T.list (de_callC (ds := [fmD S, .int (12 : Nat)]) c14 (by walk_at "room") (by rfl) (by walk_at "da") ⟨S, 12, rfl, rfl, okS, by omega⟩)))) (do_some (by walk_at "db")) do_none)
  · rw [← e2]
    exact DN.e (dn_slL (DE.b (DN.e (dn_listT (by rfl) T.list (de_callC (ds := [rl t1, .int (12 : Nat)]) c21 (by walk_at "room") (by rfl) (by walk_at "da") ⟨t1, _, 12, rfl, rfl, hT.gen, by omega, by omega, fun i hi => by have := hbs i (by omega); omega⟩)))) (do_some (by walk_at "db")) do_none)
  · exact de_callC (ds := [fmD S, .int (1 : Nat), .int (9 : Nat)]) c12 (by walk_at "room") (by rfl) (by walk_at "da") ⟨S, 1, 9, rfl, rfl, okS, h1S, by omega⟩
  · exact de_callC (ds := [fmD n, .int (9 : Nat)]) c13 (by walk_at "room") (by rfl) (by walk_at "da") ⟨n, 9, rfl, rfl, hn.ok, by omega⟩
  -- the same or not
  refine dss_cons (ds_set (d := .bl sm) (i := 9) nd rfl (by walk_at "loc") (by rw [esm]; exact de_eqD (by exact hr.units) eqok_rl (DE.b (ix0 (by exact va 5))) (DE.b (ix1 (by exact va 5)))) ?_)
  obtain ⟨w1, ew1⟩ := judge_at (unlike n f) r1
  rw [hun] at ew1
  obtain ⟨nm, enm⟩ : ∃ nm : Str, nm = (if sm then ("same" : Str) else "unlike") := ⟨_, rfl⟩
  refine dss_cons (ds_if (b := (!decide (sm = sm) || !decide (nm = nm))) (DW.t (dw_or (dt_neB (DE.b ?_) (by walk_at "db")) fun _ => dw_or1 (dt_neS (DE.b ?_) (DE.b ?_)))) (fun hb => by simp at hb) fun _ => dss_nil ?_)
  · exact de_callC (ds := [fmD n, fmD f]) c83 (by walk_at "room") (by rfl) (by walk_at "da") ⟨n, f, rfl, by rw [hun], hn.ok, hf.ok⟩
  · exact it0 (xs := [w1]) (de_callC (ds := [fmD n, fmD f]) c84 (by walk_at "room") (by rfl) (by walk_at "da") ⟨n, f, r1, rfl, by rw [ew1, enm], hn.ok, hf.ok, hL1, hn.ann hn0, fun i hi => bd hn.ok i (by omega)⟩)
  · refine de_ixL (i := if sm = true then 1 else 0) (xs := [.str "unlike", .str "same"]) ?_ (DE.b (DN.e (by walk_at "dn"))) (DE.b (de_intB (by rfl) T.int (by walk_at "db")))
    rw [enm]
    cases sm <;> rfl
  refine dss_cons (ds_if (b := (!decide (sm = sm) || !decide (sm = sm))) (DW.t (dw_or (dt_neB (DE.b ?_) (by walk_at "db")) fun _ => dw_or1 (dt_neB (DE.b ?_) (by walk_at "db")))) (fun hb => by simp at hb) fun _ => dss_nil ?_)
  · exact de_callC (ds := [fmD n, fmD f, .tup [.str "same", rl r2]]) c85 (by walk_at "room") (by rfl) (da_cons (by walk_at "de") (da_cons (by walk_at "de") (da_cons (de_tup (da_cons (by walk_at "de") (da_cons (ix1 (by exact va 5)) da_nil)) (by simp)) da_nil))) ⟨n, f, r2, rfl, by rw [hob, hof, Bool.and_true], hn.ok, hf.ok, hL2.gen.len, by omega, fun i hi => by have := bd hn.ok i hi; omega, fun i hi => by have := bd hf.ok i hi; omega⟩
  · exact de_callC (ds := [fmD n, rl r2]) c26 (by walk_at "room") (by rfl) (da_cons (by walk_at "de") (da_cons (ix1 (by exact va 5)) da_nil)) ⟨n, r2, rfl, by rw [hob], hn.ok, hL2.gen.len, by omega, fun i hi => by have := bd hn.ok i hi; omega⟩
  -- swapped
  refine dss_cons (ds_set (d := fmD W) (i := 10) nd rfl (by walk_at "loc") (de_callC (ds := [fwD W]) c91 (by walk_at "room") (by rfl) (da_cons (de_callC (ds := [fwD f, fwD n]) c93 (by walk_at "room") (by rfl) (by walk_at "da") ⟨f, n, rfl, by rw [eW], hf.mv12, hn.mv12, hf.ends6, hn.ends6⟩) da_nil) ⟨W, rfl, rfl, fW⟩) ?_)
  obtain ⟨w2, ew2⟩ := judge_at (unlike B W) m1
  rw [huB] at ew2
  refine dss_cons (ds_if (b := (!decide (true = true) || !decide (("same" : Str) = "same"))) (DW.t (dw_or (dt_notBl (DE.b ?_) (DE.b de_bl)) fun _ => dw_or1 (dt_neS (DE.b ?_) (by walk_at "db")))) (fun hb => by simp at hb) fun _ => dss_nil ?_)
  · exact de_callC (ds := [fmD B, fmD W]) c83 (by walk_at "room") (by rfl) (by walk_at "da") ⟨B, W, rfl, by rw [huB], okB, okW⟩
  · exact it0 (xs := [w2]) (de_callC (ds := [fmD B, fmD W]) c84 (by walk_at "room") (by rfl) (by walk_at "da") ⟨B, W, m1, rfl, by rw [ew2]; rfl, okB, okW, hMB, aB, fun i hi => bd okB i (by omega)⟩)
  -- far terms
  refine dss_cons (ds_parW (p1 := fun d z3 => ∃ k : Nat, d = .int ((10 ^ 20 + k : Nat) : Int) ∧ k < 1000 ∧ Aft z 1 z3) (p2 := fun _ _ d2 z4 => ∃ k : Nat, d2 = .int ((2 + k : Nat) : Int) ∧ k < 98 ∧ Aft z 2 z4) (i := 11) (j := 12) rfl nd rfl rfl (by decide) rfl rfl
    (ew_add (p1 := fun d z3 => d = .int ((10 : Int) ^ (20 : Int).toNat) ∧ z3 = z) (p2 := fun d z3 => drawPost [.int 1000] z d z3) (ew_of (de_pow ⟨by decide, by decide, by decide⟩ (by walk_at "db") (by walk_at "db")) ⟨rfl, rfl⟩) (fun d z3 hp => by
      rw [hp.2]
      exact ev_w (ev_dk (i := 0) c88 (by walk_at "room") (by rfl) rfl rfl (by walk_at "vis") (by walk_at "de") ⟨1000, rfl, by decide, by decide, by omega, by omega⟩)) ?_) (fun d z3 hp => ?_) rfl ?_)
  · rintro d z3 d2 z4 ⟨rfl, rfl⟩ hp
    have ha := Aft.draw (z := z3) (n := 0) ⟨Nat.le_refl _, Nat.le_refl _⟩ hp
    obtain ⟨b, k, e, rfl, hk, _⟩ := hp
    have eb : (1000 : Int) = b := D.int.inj (List.cons.inj e).1
    exact ⟨_, _, rfl, rfl, k, by rw [Int.natCast_add]; rfl, by omega, ha⟩
  · obtain ⟨_, _, _, ha2⟩ := hp
    refine ev_w (ev_add (p := fun d z4 => drawPost [.int 98] z3 d z4) (ev_dk (i := 0) c88 (by walk_at "room") (by rfl) rfl rfl (by walk_at "vis") (by walk_at "de") ⟨98, rfl, by decide, by decide, by have := ha2.1; omega, by have := ha2.2; omega⟩) ?_)
    rintro d z4 hp4
    have ha3 := ha2.draw hp4
    obtain ⟨b, k, e, rfl, hk, _⟩ := hp4
    have eb : (98 : Int) = b := D.int.inj (List.cons.inj e).1
    exact ⟨k, rfl, k, by rw [Int.natCast_add]; rfl, by omega, ha3⟩
  rintro _ z3 _ z4 ⟨ki, rfl, hki, _⟩ ⟨ku, rfl, hku, _⟩
  obtain ⟨ix, eix⟩ : ∃ ix, ix = 10 ^ 20 + ki := ⟨_, rfl⟩
  obtain ⟨un, eun⟩ : ∃ un : Nat, un = 2 + ku := ⟨_, rfl⟩
  rw [← eix, ← eun]
  have hix : ix < 2 ^ 900 := by
    have h1 : ix < 2 ^ 67 := by omega
    exact Nat.lt_trans h1 (Nat.pow_lt_pow_right (by decide) (by decide))
  have hix0 : 0 < ix := by omega
  have hu0 : (0 : Int) < (un : Int) := by omega
  have hu1 : (un : Int) < 2 ^ 60 := by omega
  obtain ⟨xm, exm⟩ : ∃ xm, xm = termL m1 ix un := ⟨_, rfl⟩
  have cl : ∀ {m : Fm} {r : Rule}, m.Ok → Least r (cnt m 0) → Ann (cnt m 0) m.size → r.2.length ≤ 100 → R40 [fmD m, .int ix, .int un] (.int (termL r ix un)) := fun {m r} ok hl ha h100 => ⟨m, r, ix, un, rfl, rfl, hl, ha, ok, fun i hi => bd ok i (by omega), h100, hix, hu0, hu1⟩
  refine dss_cons (ds_set (d := intsD [xm, xm]) (i := 13) nd rfl (by walk_at "loc") (DN.e (dn_lst (ds := [.int xm, .int xm]) (da_cons ?_ (da_cons ?_ da_nil)) (by simp))) ?_)
  · rw [exm]
    exact de_callC (ds := [fmD B, .int ix, .int un]) c40 (by walk_at "room") (by rfl) (by walk_at "da") (cl okB hMB aB (by omega))
  · rw [exm]
    exact de_callC (ds := [fmD W, .int ix, .int un]) c40 (by walk_at "room") (by rfl) (by walk_at "da") (cl okW hMW aW (by omega))
  refine dss_cons (ds_if (b := !decide ([xm, xm] = [xm, xm])) (dt_neD (by exact hr.units) eqok_lst (by exact DE.b (va 13)) (DE.b ?_)) (fun hb => by simp at hb) fun _ => dss_nil ?_)
  · show DE g _ _ _ (.lst (List.replicate (2 : Int).toNat [D.int xm]).flatten)
    refine DN.e (dn_rep (k := 2) (xs := [.int xm]) (by decide) (by decide) (by simp) (DE.b (DN.e (dn_lst (da_cons ?_ da_nil) (by simp)))) (by walk_at "db"))
    rw [exm]
    exact de_callC (ds := [rl m1, .int ix, .int un]) c39 (by walk_at "room") (by rfl) (da_cons (de_callC (ds := [fmD B]) c24 (by walk_at "room") (by rfl) (by walk_at "da") ⟨B, m1, rfl, rfl, hMB, aB, okB, fun i hi => bd okB i (by omega)⟩) (by walk_at "da")) ⟨m1, ix, un, rfl, rfl, hM.gen.len, by omega, hix, hu0, hu1⟩
  refine dss_cons (ds_set (d := .int ((termL r1 ix un + termL r2 ix un) % (un : Int))) (i := 14) nd rfl (by walk_at "loc") (de_mod hu0 (DE.b (de_add (DE.b ?_) (DE.b ?_))) (by walk_at "db")) ?_)
  · exact de_callC (ds := [fmD n, .int ix, .int un]) c40 (by walk_at "room") (by rfl) (by walk_at "da") (cl hn.ok hL1 (hn.ann hn0) (by omega))
  · exact de_callC (ds := [fmD f, .int ix, .int un]) c40 (by walk_at "room") (by rfl) (by walk_at "da") (cl hf.ok hL2 (hf.ann hf0) (by omega))
  refine dss_cons (ds_ret (d := .bl (decide (termL s1 ix un = (termL r1 ix un + termL r2 ix un) % (un : Int)))) (de_eqI (DE.b ?_) (by exact DE.b (va 14))) ?_)
  · exact de_callC (ds := [fmD S, .int ix, .int un]) c40 (by walk_at "room") (by rfl) (by walk_at "da") (cl okS hS aS (by omega))
  · show D.bl _ = .bl true
    rw [decide_eq_true]
    rw [KM.term_left hS.gen, KM.term_left hL1.gen, KM.term_left hL2.gen]
    obtain ⟨k, ek⟩ : ∃ k, ix = k + 1 := ⟨ix - 1, by omega⟩
    rw [ek, cS k]
    exact Int.add_emod _ _ _
end
section
variable {g : Gx} {P : Program} {w : World} {K : PySem.W.Frag} {mg : Str → Option Value} {base : Heap}
/-! ### law -/
section
variable {S : Sy g} {F0 H0 : Hp} {X : Cx} {ρ : DL.Env} {z : S.ζ} {a b : Expr} {pos : Pos} {p1 post : Bool → S.ζ → Prop}
theorem tw_or2 (ha : TW S F0 H0 X a ρ z p1) (hb : ∀ z', p1 false z' → TW S F0 H0 X b ρ z' post) (ht : ∀ z', p1 true z' → post true z') : TW S F0 H0 X (.BoolOp .Or [a, b] pos) ρ z post := by
  have hb2 : PT X b (fun σ H Q => ∃ z', p1 false z' ∧ tWT S F0 H0 ρ z' post σ H Q) := ⟨fun pins s σ H Q I ⟨z', hp, q⟩ => (hb z' hp).run pins s σ H Q I q⟩
  refine PT.wk (PW.pt (pw_or ha (pw_or1 hb2))) fun σ H Q ⟨F, r, q⟩ => ⟨F, r, fun c z' F1 H1 hp r1 s1 => ?_⟩
  cases c with
  | true => exact (if_pos rfl).mpr (q true z' F1 H1 (ht z' hp) r1 s1)
  | false => exact (if_neg Bool.false_ne_true).mpr ⟨z', hp, F1, r1, fun c2 z2 F2 H2 hp2 r2 s2 => q c2 z2 F2 H2 hp2 r2 (s1.trans s2)⟩
end
abbrev s97 : Stmt := top 97
theorem sc97 : FnScope ["_law_script", "_law_deck_here", "_law_near", "_law_far"] ["_law_script"] (defScope s97) := ⟨rfl, rfl, rfl, by decide +kernel, rfl, by decide +kernel, by decide +kernel⟩
def spLaw (g : Gx) (K : PySem.W.Frag) : Sp := fun vs H Q _ => ∃ (F : Hp) (a : Addr) (ns : List Int), Base g F H ∧ vs = [.ref a] ∧ SqL K F a (ns.map V.int) ∧ ns.length ≤ 63 ∧ ∀ H', Q (.bl true) H'
theorem low_of {c : Nat} (h : 97 ≤ c ∧ c ≤ 122) : Low c := by
  obtain ⟨k, rfl⟩ : ∃ k, c = 97 + k := ⟨c - 97, by omega⟩
  have hk : k < 26 := by omega
  have : ∀ k, k < 26 → (97 + k) ∈ ("abcdefghijklmnopqrstuvwxyz" : Str).cps.toList := by decide +kernel
  exact this k hk
theorem wok_of {m : Fm} {cs : List Nat} {c : Nat} (h0 : 0 < m.size) (hM : MOk m.size cs m.size 0 m.moves) (he : m.ends.Sublist (List.range m.size)) (h3 : m.size ≤ 3) (hl : cs.length ≤ c) (hc : c ≤ 2) (hlow : ∀ x ∈ cs, 97 ≤ x ∧ x ≤ 122) : WOk m c := by
  have fr := KM.frm_of h0 hM he
  have hin : ∀ x ∈ m.moves, x.2.1 ∈ cs := fun x hx => by
    rcases hM.at_ x hx with q | q
    · exact q.2
    · have := q.2
      simp at this
  have hml := hM.len
  have hel := fr.fewE
  exact ⟨⟨fr.pos, fr.near, fr.far, fr.ends, fr.nd, fr.fewE, fr.few, fun s => Nat.le_trans (fr.deg s) hl⟩, hc, h3,
    ⟨h0, by omega, fun x hx => ⟨fr.near x hx, low_of (hlow _ (hin x hx)), fr.far x hx⟩, hM.up, by omega, fr.ends, List.Pairwise.sublist he List.pairwise_lt_range, by omega⟩⟩
theorem mok_in {n : Nat} {cs : List Nat} {M : List (Nat × Nat × Nat)} (hM : MOk n cs n 0 M) : ∀ x ∈ M, x.2.1 ∈ cs := fun x hx => by
  rcases hM.at_ x hx with q | q
  · exact q.2
  · have := q.2
    simp at this
theorem str_inj {xs ys : List Nat} (h : D.str ⟨xs.toArray⟩ = D.str ⟨ys.toArray⟩) : xs = ys := by
  have := D.str.inj h
  have := congrArg (fun s : Str => s.cps.toList) this
  simpa using this
def nearOk (z : Deck) (d : D) (z' : Deck) : Prop := ∃ m : Fm, d = fwD m ∧ WOk m 2 ∧ (∀ x ∈ m.moves, x.2.1 ≠ 122) ∧ Aft z 60 z'
def farOk (z : Deck) (d : D) (z' : Deck) : Prop := ∃ m : Fm, d = fwD m ∧ WOk m 1 ∧ m.size ≤ 2 ∧ (∀ x ∈ m.moves, x.2.1 = 122) ∧ Aft z 120 z'
theorem ok97 {f f7 : Addr} {fd fd7 : FuncData} (T : Tx g K mg) (Fn : Fun K "law" "law" s97 f fd) (F7 : FnOk P w K mg base CX0 1 f7 fd7 ["_law_script"] (spDeck g K)) (g7 : mg "_law_deck" = some (.ref f7)) (k7 : PySem.W.keepIn K (.ref f7) = true) (b7 : L2.Binds K fd7 ["_law_script"] [])
    (c89 : CalK g P w K mg base "_law_pick" 2 ["_law_deck_here", "_law_some"] pickPre pickPost) (c90 : CalK g P w K mg base "_law_form" 2 ["_law_deck_here", "_law_signs", "_law_top"] formPre formPost)
    (c95 : CalK g P w K mg base "_law_states_right" 13 ["_law_deck_here", "_law_w"] srPre srPost) (c96 : CalK g P w K mg base "_law_both_right" 14 ["_law_deck_here", "_law_near", "_law_far"] brPre brPost) : FnOk P w K mg base CX0 15 f fd ["_law_script"] (spLaw g K) := by
  refine Fn.ok sc97 (fun vs H Q E h => ?_) (fun cdv A outer s H vs Q E hr h => ?_)
  · obtain ⟨F, a, ns, _, rfl, _⟩ := h
    rfl
  obtain ⟨F0, a, ns, b0, rfl, hsq, hns, hQ⟩ := h
  have nd := sc97.nd
  have hrest : ∀ (L : DLoc) (F1 H1 : Hp) (z : Deck), z.draws = 0 → z.cells.length ≤ 63 → DSs (deckS g L) F1 H1 (bodyX P w K mg base ["_law_script", "_law_deck_here", "_law_near", "_law_far"] "law" (defScope s97) f cdv A outer s H E) ((defBody s97).drop 1) [.un, .val (.ref L.dk), .un, .un] z
      ⟨fun _ _ => False, fun d' _ => d' = .bl true, fun _ _ => False, fun _ _ => False⟩ := by
    intro L F1 H1 z hz0 hzc
    refine dss_cons (ds_parW (p1 := nearOk z) (p2 := fun _ _ d z' => farOk z d z') (i := 2) (j := 3) rfl nd rfl rfl (by decide) rfl rfl ((ew_dk (i := 1) (post1 := fun ds z' => ∃ cs : List Nat, ds = [.str ⟨cs.toArray⟩, .int 3] ∧ cs.length ≤ 2 ∧ cs.Pairwise (· < ·) ∧ (∀ x ∈ cs, 97 ≤ x ∧ x ≤ 121) ∧ Aft z 1 z') c90 (by walk_at "room") (by rfl) rfl rfl (by walk_at "vis")
      (aw_cons (p1 := fun d z' => ∃ cs : List Nat, d = .str ⟨cs.toArray⟩ ∧ cs.length ≤ 2 ∧ cs.Pairwise (· < ·) ∧ (∀ x ∈ cs, 97 ≤ x ∧ x ≤ 121) ∧ Aft z 1 z') ((ew_dk (i := 1) (post1 := fun ds z' => ds = [.lst [.str "a", .str "ab", .str "by"]] ∧ z' = z) c89 (by walk_at "room") (by rfl) rfl rfl (by walk_at "vis") (aw_cons (p1 := fun d z' => d = .lst [.str "a", .str "ab", .str "by"] ∧ z' = z) (ew_of (by walk_at "de") ⟨rfl, rfl⟩) fun d z' hp => aw_nil (by rw [hp.1]; exact ⟨rfl, hp.2⟩)) ?_).mono ?_) fun d z' hp => aw_cons (p1 := fun d2 z2 => d2 = .int (3 : Nat) ∧ z2 = z') (ew_of (by walk_at "de") ⟨rfl, rfl⟩) fun d2 z2 hp2 => aw_nil ?_) ?_).mono ?_) (fun d z' hp => ?_) rfl ?_)
    · rintro ds z' ⟨rfl, rfl⟩
      exact ⟨_, rfl, by decide, by decide, by omega, by omega⟩
    · rintro d z2 ⟨ds, z', ⟨rfl, rfl⟩, xs, e, hm, k1, k2⟩
      have exs : xs = [.str "a", .str "ab", .str "by"] := (D.lst.inj (List.cons.inj e).1).symm
      subst exs
      have ha : Aft z' 1 z2 := ⟨by omega, k2⟩
      have hm : d = .str "a" ∨ d = .str "ab" ∨ d = .str "by" := by simpa using hm
      rcases hm with rfl | rfl | rfl
      · exact ⟨[97], rfl, by decide, by decide, by decide, ha⟩
      · exact ⟨[97, 98], rfl, by decide, by decide, by decide, ha⟩
      · exact ⟨[98, 121], rfl, by decide, by decide, by decide, ha⟩
    · obtain ⟨cs, rfl, h1, h2, h3, h4⟩ := hp
      obtain ⟨rfl, rfl⟩ := hp2
      exact ⟨cs, rfl, h1, h2, h3, h4⟩
    · rintro ds z' ⟨cs, rfl, h1, h2, h3, h4⟩
      exact ⟨cs, 3, rfl, h1, h2, by decide, by decide, by have := h4.1; omega, by have := h4.2; omega⟩
    · rintro d z2 ⟨ds, z', ⟨cs, rfl, h1, h2, h3, h4⟩, cs', tp, m, e, rfl, m0, m1, hM, hE, hA⟩
      have ecs : cs = cs' := str_inj (List.cons.inj e).1
      subst ecs
      have etp : ((3 : Nat) : Int) = (tp : Int) := D.int.inj (List.cons.inj (List.cons.inj e).2).1
      refine ⟨m, rfl, wok_of m0 hM hE (by omega) h1 (by decide) fun x hx => ⟨(h3 x hx).1, by have := (h3 x hx).2; omega⟩, fun x hx e => ?_, by have := h4.1; have := hA.1; omega, Nat.le_trans hA.2 h4.2⟩
      have := (h3 _ (mok_in hM x hx)).2
      omega
    · obtain ⟨m, _, _, _, hA⟩ := hp
      refine (ew_dk (i := 1) (post1 := fun ds z2 => ds = [.str ⟨[122].toArray⟩, .int (2 : Nat)] ∧ z2 = z') c90 (by walk_at "room") (by rfl) rfl rfl (by walk_at "vis") (aw_cons (p1 := fun d2 z2 => d2 = .str ⟨[122].toArray⟩ ∧ z2 = z') (ew_of (d := .str "z") (by walk_at "de") ⟨rfl, rfl⟩) fun d z2 hp => aw_cons (p1 := fun d2 z2 => d2 = .int (2 : Nat) ∧ z2 = z') (by rw [hp.2]; exact ew_of (by walk_at "de") ⟨rfl, rfl⟩) fun d2 z3 hp2 => aw_nil (by rw [hp.1, hp2.1]; exact ⟨rfl, hp2.2⟩)) ?_).mono ?_
      · rintro ds z2 ⟨rfl, rfl⟩
        exact ⟨[122], 2, rfl, by decide, by decide, by decide, by decide, by have := hA.1; omega, by have := hA.2; omega⟩
      · rintro d2 z2 ⟨ds, z3, ⟨rfl, rfl⟩, cs', tp, m2, e, rfl, m0, m1, hM, hE, hA2⟩
        have ecs : [122] = cs' := str_inj (List.cons.inj e).1
        subst ecs
        have etp : ((2 : Nat) : Int) = (tp : Int) := D.int.inj (List.cons.inj (List.cons.inj e).2).1
        exact ⟨m2, rfl, wok_of m0 hM hE (by omega) (by decide) (by decide) (by decide), by omega, fun x hx => List.mem_singleton.mp (mok_in hM x hx), by have := hA.1; have := hA2.1; omega, Nat.le_trans hA2.2 hA.2⟩
    rintro _ z1 _ z2 ⟨n, rfl, hn, hnl, _⟩ ⟨m, rfl, hm, hm2, hml, hA2⟩
    show DSs (deckS g L) F1 H1 _ _ [.un, .val (.ref L.dk), .sh (fwD n), .sh (fwD m)] z2 _
    refine dss_cons (ds_ifW (post := fun b z' => b = false ∧ Aft z 140 z') (tw_or2 (p1 := fun b z' => b = false ∧ Aft z 130 z') (tw_not (tw_e ((ew_dk (i := 1) (post1 := fun ds z' => ds = [fwD n] ∧ z' = z2) c95 (by walk_at "room") (by rfl) rfl rfl (by walk_at "vis") (aw_cons (p1 := fun d z' => d = fwD n ∧ z' = z2) (ew_of (by walk_at "de") ⟨rfl, rfl⟩) fun d z' hp => aw_nil (by rw [hp.1]; exact ⟨rfl, hp.2⟩)) ?_).mono ?_)))
      (fun z3 h3 => tw_not (tw_e ((ew_dk (i := 1) (post1 := fun ds z' => ds = [fwD m] ∧ z' = z3) c95 (by walk_at "room") (by rfl) rfl rfl (by walk_at "vis") (aw_cons (p1 := fun d z' => d = fwD m ∧ z' = z3) (ew_of (by walk_at "de") ⟨rfl, rfl⟩) fun d z' hp => aw_nil (by rw [hp.1]; exact ⟨rfl, hp.2⟩)) ?_).mono ?_))) (fun z' hp => by cases hp.1)) (fun z' hp => by cases hp.1) fun z3 h3 => dss_nil ?_)
    · rintro ds z' ⟨rfl, rfl⟩
      exact ⟨n, 2, rfl, hn, by have := hA2.1; omega, by have := hA2.2; omega⟩
    · rintro d z' ⟨ds, z3, ⟨rfl, rfl⟩, rfl, hA⟩
      exact ⟨true, rfl, rfl, by have := hA2.1; have := hA.1; omega, Nat.le_trans hA.2 hA2.2⟩
    · rintro ds z' ⟨rfl, rfl⟩
      exact ⟨m, 1, rfl, hm, by have := h3.2.1; omega, by have := h3.2.2; omega⟩
    · rintro d z' ⟨ds, z4, ⟨rfl, rfl⟩, rfl, hA⟩
      exact ⟨true, rfl, rfl, by have := h3.2.1; have := hA.1; omega, Nat.le_trans hA.2 h3.2.2⟩
    refine dss_cons (ds_retW ((ew_dk (i := 1) (post1 := fun ds z' => ds = [fwD n, fwD m] ∧ z' = z3) c96 (by walk_at "room") (by rfl) rfl rfl (by walk_at "vis") (aw_cons (p1 := fun d z' => d = fwD n ∧ z' = z3) (ew_of (by walk_at "de") ⟨rfl, rfl⟩) fun d z' hp => aw_cons (p1 := fun d2 z2 => d2 = fwD m ∧ z2 = z3) (by rw [hp.2]; exact ew_of (by walk_at "de") ⟨rfl, rfl⟩) fun d2 z4 hp2 => aw_nil (by rw [hp.1, hp2.1]; exact ⟨rfl, hp2.2⟩)) ?_).mono ?_))
    · rintro ds z' ⟨rfl, rfl⟩
      exact ⟨n, m, rfl, hn, hm, hm2, fun x hx y hy => by rw [hml y hy]; exact hnl x hx, by have := h3.2.1; omega, by have := h3.2.2; omega⟩
    · rintro d z' ⟨ds, z4, _, hd⟩
      exact hd
  have h2 : PSs (bodyX P w K mg base ["_law_script", "_law_deck_here", "_law_near", "_law_far"] "law" (defScope s97) f cdv A outer s H E) ((defBody s97).drop 1) (fun D σ H1 => ∃ (L : DLoc) (F1 : Hp) (z : Deck), z.draws = 0 ∧ z.cells.length ≤ 63 ∧
      tS (deckS g L) F1 H1 [.un, .val (.ref L.dk), .un, .un] z ⟨fun _ _ => False, fun d' _ => d' = .bl true, fun _ _ => False, fun _ _ => False⟩ D σ H1) :=
    ⟨fun pins s σ H D I ⟨L, F1, z, h0, hc, q⟩ => (hrest L F1 _ z h0 hc).run pins s σ H D I q⟩
  refine ⟨_, pss_cons (ps_set (i := 1) nd rfl (by walk_at "loc") (pe_call F7 (hr.mono (by decide)) (by rfl) g7 k7 b7 .nil pass0 (pa_cons (pe_var (i := 0) rfl (by walk_at "vis")) pa_nil))) h2, ?_⟩
  refine ⟨.ref a, rfl, ?_⟩
  refine ⟨F0, a, ns, b0, rfl, hsq, hns, fun L z F' H' st hdk hcl fdk fcl zz hz0 hzc => ?_⟩
  refine ⟨L, F', z, hz0, hzc, F', RepS.start st.base ⟨st.base, rfl, fun i sl o e1 e2 => ?_⟩ (fun sl hsl xs e => ?_) (fun x hx => ?_) zz, fun _ _ _ _ _ h => h.elim, fun d' z' v F'' H'' e t iv => ?_, fun _ _ _ _ _ h => h.elim, fun _ _ _ _ _ h => h.elim⟩
  · match i, e1, e2 with
    | 0, e1, _ => cases e1; trivial
    | 1, e1, e2 =>
      cases e1
      cases e2
      rfl
    | 2, e1, _ => cases e1; trivial
    | 3, e1, _ => cases e1; trivial
    | i + 4, e1, _ => simp at e1
  · subst e
    simp at hsl
  · rcases List.mem_cons.mp hx with rfl | hx
    · exact fdk
    · rw [List.mem_singleton.mp hx]; exact fcl
  · have e : d' = .bl true := e
    subst e
    have ev : v = .bl true := iv
    subst ev
    exact hQ H''
end
end K19
/-! The end: all joined. -/
namespace K19
open PySem PySem.Spec PyProof.Rows L2 DL
theorem fun_of {K : PySem.W.Frag} {x qual : Str} {st : Stmt} {f : Addr} {fd : FuncData} (F : FunD K x qual (defArgs st) (defBody st) (defScope st) [] [] f fd) : Fun K x qual st f fd := by
  obtain ⟨oc, od, dV, kV, doc, pm, an, cdv, ct, osl, e, lk, hcd, hD, _⟩ := F.ex
  rcases hD with ⟨_, rfl⟩ | ⟨e2, _⟩
  · exact ⟨⟨oc, od, kV, doc, pm, an, cdv, ct, osl, e, lk, hcd⟩, F.kp⟩
  · exact absurd rfl e2
def tabsOf (K : PySem.W.Frag) : List (Addr × Str) := [((He.cT K ("least_rule_from", none)).2, lamQ "least_rule_from" s25), ((He.cT K ("added", none)).2, lamQ "added" s27), ((He.cT K ("lessened", none)).2, lamQ "lessened" s28), ((He.cT K ("met", none)).2, lamQ "met" s30), ((He.cT K ("summed", none)).2, lamQ "summed" s32), ((He.cT K ("part", none)).2, lamQ "part" s34)]
def gx (K : PySem.W.Frag) : Gx := ⟨He.ga K "Format", tabsOf K⟩
theorem key_one {α β : Type} : ∀ {l : List (α × β)}, (l.map Prod.fst).Nodup → ∀ {a : α} {b : β}, (a, b) ∈ l → ∀ y ∈ l, y.1 = a → y.2 = b
  | [], _, _, _, h, _, _, _ => by cases h
  | (p, q) :: r, nd, a, b, h, y, hy, e => by
    obtain ⟨n1, n2⟩ := List.nodup_cons.mp nd
    rcases List.mem_cons.mp h with h | h <;> rcases List.mem_cons.mp hy with hy | hy
    · rw [hy]
      exact (congrArg Prod.snd h).symm
    · exact absurd (List.mem_map.mpr ⟨y, hy, by rw [e]; exact congrArg Prod.fst h⟩) n1
    · refine absurd (List.mem_map.mpr ⟨(a, b), h, ?_⟩) n1
      rw [hy] at e
      exact e.symm
    · exact key_one n2 h y hy e
theorem tab_in {K : PySem.W.Frag} : ∀ p ∈ tabsOf K, ∃ q ∈ tfL.map (He.cT K), q.2 = p.1 := by
  intro p hp
  have h : p.1 ∈ (tfL.map (He.cT K)).map Prod.snd := by
    have h2 : p.1 ∈ (tabsOf K).map Prod.fst := List.mem_map.mpr ⟨p, hp, rfl⟩
    exact h2
  obtain ⟨q, hq, e⟩ := List.mem_map.mp h
  exact ⟨q, hq, e⟩
theorem law_start {K : PySem.W.Frag} {H : Hp} {a : Addr} {ns : List Int} (hl : ns.length ≤ 63) (hH : ∀ p ∈ tfL.map (He.cT K), H p.2 = some (.tbl #[])) (hS : SqL K H a (ns.map V.int)) : spLaw (gx K) K [.ref a] H (fun v _ => v = .bl true) fun _ _ _ => False := by
  have ht : LamX.Tabs (gx K).T H := fun p hp => by
    obtain ⟨q, hq, e⟩ := tab_in p hp
    exact LamX.TabS.nil (e ▸ hH q hq)
  rcases hS with h | h
  · have hn : ∀ ps, H a ≠ some (.tbl ps) := fun ps e => by
      rcases h with h | ⟨o, h⟩ <;> rw [h] at e <;> cases e
    have hF : (fun b => if b = a then H a else none : Hp) a = H a := if_pos rfl
    refine ⟨fun b => if b = a then H a else none, a, ns, ⟨fun b o e => ?_, fun b ps e => ?_, ht⟩, rfl, .inl ?_, hl, fun _ => rfl⟩
    · by_cases q : b = a
      · rw [q] at e ⊢
        exact hF.symm.trans e
      · have e2 := (if_neg q).symm.trans e
        cases e2
    · by_cases q : b = a
      · rw [q] at e
        exact hn ps (hF.symm.trans e)
      · have e2 := (if_neg q).symm.trans e
        cases e2
    · rcases h with h | ⟨o, h⟩
      · exact .inl (hF.trans h)
      · exact .inr ⟨o, hF.trans h⟩
  · exact ⟨fun _ => none, a, ns, ⟨fun b o e => (by cases e), fun b ps e => (by cases e), ht⟩, rfl, .inr h, hl, fun _ => rfl⟩
section
variable {g : Gx} {P : Program} {w : World} {K : PySem.W.Frag} {mg : Str → Option Value} {base : Heap}
theorem defT_of {x : Str} {st : Stmt} {ps : List Str} {fd : FuncData} (F : FunD K x x (defArgs st) (defBody st) (defScope st) [] [] (He.fAd K (x, none)) fd) (hm : mg x = some (.ref (He.ga K x))) (hb : L2.Binds K fd ps []) (tb : LamX.TabB base mg (He.cT K (x, none)).1 (He.cT K (x, none)).2)
    (hq : ((He.cT K (x, none)).2, lamQ x st) ∈ g.T) (nd : (g.T.map Prod.fst).Nodup) : DefT g P w K mg base x st ps (lamQ x st) := by
  obtain ⟨oc, od, dV, kV, doc, pm, an, cdv, ct, osl, e, lk, hcd, hD, _⟩ := F.ex
  rcases hD with ⟨_, rfl⟩ | ⟨e2, _⟩
  · obtain ⟨c, rfl⟩ := He.codeIn_ref hcd
    have hc : He.codeOf K (x, none) = c := He.codeOf_eq lk (by rw [e])
    refine ⟨He.fAd K (x, none), fd, c, (He.cT K (x, none)).2, ⟨oc, od, kV, doc, pm, an, ct, osl, e, lk, hcd⟩, F.kp, hm, hb, ?_, hq, key_one nd hq⟩
    rw [← hc]
    exact tb
  · exact absurd rfl e2
variable (c : He.SaysD faL fnL K) (X : K.In base) (G : base.Ns mainGlobals mg)
include c X G
theorem tx : Tx (gx K) K mg where
  cl := He.cls_ok (c.fact 86 (f := .cls "Format") rfl)
  nS := He.noat_ok (c.fact 96 (f := .noat "Format" "size") rfl)
  nM := He.noat_ok (c.fact 97 (f := .noat "Format" "moves") rfl)
  nE := He.noat_ok (c.fact 98 (f := .noat "Format" "ends") rfl)
  list := He.free_ok X G (c.fact 63 (f := .free "list") rfl)
  range := He.free_ok X G (c.fact 64 (f := .free "range") rfl)
  int := He.free_ok X G (c.fact 65 (f := .free "int") rfl)
  abs := He.free_ok X G (c.fact 66 (f := .free "abs") rfl)
  len := He.free_ok X G (c.fact 67 (f := .free "len") rfl)
  tuple := He.free_ok X G (c.fact 68 (f := .free "tuple") rfl)
  sum := He.free_ok X G (c.fact 69 (f := .free "sum") rfl)
  all := He.free_ok X G (c.fact 70 (f := .free "all") rfl)
  enum := He.free_ok X G (c.fact 71 (f := .free "enumerate") rfl)
  zip := He.free_ok X G (c.fact 72 (f := .free "zip") rfl)
  inst := He.free_ok X G (c.fact 73 (f := .free "isinstance") rfl)
  sorted := He.free_ok X G (c.fact 74 (f := .free "sorted") rfl)
  set := He.free_ok X G (c.fact 75 (f := .free "set") rfl)
  kbool := He.free_ok X G (c.fact 76 (f := .free "bool") rfl)
  kstr := He.free_ok X G (c.fact 77 (f := .free "str") rfl)
  two := He.int_ok X G (c.fact 78 (f := .int "RULE_PARTS" 2) rfl)
  paper := He.int_ok X G (c.fact 79 (f := .int "PAPER_PARTS" 2) rfl)
  triple := He.int_ok X G (c.fact 80 (f := .int "TRIPLE" 3) rfl)
  lets := He.str_ok X G (c.fact 81 (f := .str "LETTERS" "abcdefghijklmnopqrstuvwxyz") rfl)
omit c X G
theorem f2 (c : He.SaysD faL fnL K) : ∃ fd, Fun K "common_part" "common_part" s2 (He.ga K "common_part") fd ∧ L2.Binds K fd ["one", "other"] [] := by
  obtain ⟨fd, F⟩ := c.def_ 0 (d := d2) rfl
  have q : Fun K "common_part" "common_part" s2 (He.ga K "common_part") fd := fun_of F
  exact ⟨fd, q, q.binds fun _ _ _ _ _ _ us hl => match us, hl with | [_, _], _ => rfl⟩
theorem D2 (c : He.SaysD faL fnL K) (X : K.In base) (G : base.Ns mainGlobals mg) : Def P w K mg base "common_part" s2 ["one", "other"] := by
  obtain ⟨fd, q, b⟩ := f2 c
  exact ⟨_, fd, q, He.glo_ok X G (c.fact 0 (f := .glo "common_part") rfl), b⟩
theorem f3 (c : He.SaysD faL fnL K) : ∃ fd, Fun K "lightened" "lightened" s3 (He.ga K "lightened") fd ∧ L2.Binds K fd ["column", "parts"] [] := by
  obtain ⟨fd, F⟩ := c.def_ 1 (d := d3) rfl
  have q : Fun K "lightened" "lightened" s3 (He.ga K "lightened") fd := fun_of F
  exact ⟨fd, q, q.binds fun _ _ _ _ _ _ us hl => match us, hl with | [_, _], _ => rfl⟩
theorem D3 (c : He.SaysD faL fnL K) (X : K.In base) (G : base.Ns mainGlobals mg) : Def P w K mg base "lightened" s3 ["column", "parts"] := by
  obtain ⟨fd, q, b⟩ := f3 c
  exact ⟨_, fd, q, He.glo_ok X G (c.fact 1 (f := .glo "lightened") rfl), b⟩
theorem f4 (c : He.SaysD faL fnL K) : ∃ fd, Fun K "place_of" "place_of" s4 (He.ga K "place_of") fd ∧ L2.Binds K fd ["column"] [] := by
  obtain ⟨fd, F⟩ := c.def_ 2 (d := d4) rfl
  have q : Fun K "place_of" "place_of" s4 (He.ga K "place_of") fd := fun_of F
  exact ⟨fd, q, q.binds fun _ _ _ _ _ _ us hl => match us, hl with | [_], _ => rfl⟩
theorem D4 (c : He.SaysD faL fnL K) (X : K.In base) (G : base.Ns mainGlobals mg) : Def P w K mg base "place_of" s4 ["column"] := by
  obtain ⟨fd, q, b⟩ := f4 c
  exact ⟨_, fd, q, He.glo_ok X G (c.fact 2 (f := .glo "place_of") rfl), b⟩
theorem f6 (c : He.SaysD faL fnL K) : ∃ fd, Fun K "least_of_terms" "least_of_terms" s6 (He.ga K "least_of_terms") fd ∧ L2.Binds K fd ["terms", "most"] [] := by
  obtain ⟨fd, F⟩ := c.def_ 3 (d := d6) rfl
  have q : Fun K "least_of_terms" "least_of_terms" s6 (He.ga K "least_of_terms") fd := fun_of F
  exact ⟨fd, q, q.binds fun _ _ _ _ _ _ us hl => match us, hl with | [_, _], _ => rfl⟩
theorem D6 (c : He.SaysD faL fnL K) (X : K.In base) (G : base.Ns mainGlobals mg) : Def P w K mg base "least_of_terms" s6 ["terms", "most"] := by
  obtain ⟨fd, q, b⟩ := f6 c
  exact ⟨_, fd, q, He.glo_ok X G (c.fact 3 (f := .glo "least_of_terms") rfl), b⟩
theorem f8 (c : He.SaysD faL fnL K) : ∃ fd, Fun K "first_layer" "first_layer" s8 (He.ga K "first_layer") fd ∧ L2.Binds K fd ["form"] [] := by
  obtain ⟨fd, F⟩ := c.def_ 4 (d := d8) rfl
  have q : Fun K "first_layer" "first_layer" s8 (He.ga K "first_layer") fd := fun_of F
  exact ⟨fd, q, q.binds fun _ _ _ _ _ _ us hl => match us, hl with | [_], _ => rfl⟩
theorem D8 (c : He.SaysD faL fnL K) (X : K.In base) (G : base.Ns mainGlobals mg) : Def P w K mg base "first_layer" s8 ["form"] := by
  obtain ⟨fd, q, b⟩ := f8 c
  exact ⟨_, fd, q, He.glo_ok X G (c.fact 4 (f := .glo "first_layer") rfl), b⟩
theorem f9 (c : He.SaysD faL fnL K) : ∃ fd, Fun K "next_layer" "next_layer" s9 (He.ga K "next_layer") fd ∧ L2.Binds K fd ["form", "layer"] [] := by
  obtain ⟨fd, F⟩ := c.def_ 5 (d := d9) rfl
  have q : Fun K "next_layer" "next_layer" s9 (He.ga K "next_layer") fd := fun_of F
  exact ⟨fd, q, q.binds fun _ _ _ _ _ _ us hl => match us, hl with | [_, _], _ => rfl⟩
theorem D9 (c : He.SaysD faL fnL K) (X : K.In base) (G : base.Ns mainGlobals mg) : Def P w K mg base "next_layer" s9 ["form", "layer"] := by
  obtain ⟨fd, q, b⟩ := f9 c
  exact ⟨_, fd, q, He.glo_ok X G (c.fact 5 (f := .glo "next_layer") rfl), b⟩
theorem f10 (c : He.SaysD faL fnL K) : ∃ fd, Fun K "layers" "layers" s10 (He.ga K "layers") fd ∧ L2.Binds K fd ["form", "many"] [] := by
  obtain ⟨fd, F⟩ := c.def_ 6 (d := d10) rfl
  have q : Fun K "layers" "layers" s10 (He.ga K "layers") fd := fun_of F
  exact ⟨fd, q, q.binds fun _ _ _ _ _ _ us hl => match us, hl with | [_, _], _ => rfl⟩
theorem D10 (c : He.SaysD faL fnL K) (X : K.In base) (G : base.Ns mainGlobals mg) : Def P w K mg base "layers" s10 ["form", "many"] := by
  obtain ⟨fd, q, b⟩ := f10 c
  exact ⟨_, fd, q, He.glo_ok X G (c.fact 6 (f := .glo "layers") rfl), b⟩
theorem f11 (c : He.SaysD faL fnL K) : ∃ fd, Fun K "counts_by_state" "counts_by_state" s11 (He.ga K "counts_by_state") fd ∧ L2.Binds K fd ["form", "length"] [] := by
  obtain ⟨fd, F⟩ := c.def_ 7 (d := d11) rfl
  have q : Fun K "counts_by_state" "counts_by_state" s11 (He.ga K "counts_by_state") fd := fun_of F
  exact ⟨fd, q, q.binds fun _ _ _ _ _ _ us hl => match us, hl with | [_, _], _ => rfl⟩
theorem D11 (c : He.SaysD faL fnL K) (X : K.In base) (G : base.Ns mainGlobals mg) : Def P w K mg base "counts_by_state" s11 ["form", "length"] := by
  obtain ⟨fd, q, b⟩ := f11 c
  exact ⟨_, fd, q, He.glo_ok X G (c.fact 7 (f := .glo "counts_by_state") rfl), b⟩
theorem f12 (c : He.SaysD faL fnL K) : ∃ fd, Fun K "count_from" "count_from" s12 (He.ga K "count_from") fd ∧ L2.Binds K fd ["form", "state", "length"] [] := by
  obtain ⟨fd, F⟩ := c.def_ 8 (d := d12) rfl
  have q : Fun K "count_from" "count_from" s12 (He.ga K "count_from") fd := fun_of F
  exact ⟨fd, q, q.binds fun _ _ _ _ _ _ us hl => match us, hl with | [_, _, _], _ => rfl⟩
theorem D12 (c : He.SaysD faL fnL K) (X : K.In base) (G : base.Ns mainGlobals mg) : Def P w K mg base "count_from" s12 ["form", "state", "length"] := by
  obtain ⟨fd, q, b⟩ := f12 c
  exact ⟨_, fd, q, He.glo_ok X G (c.fact 8 (f := .glo "count_from") rfl), b⟩
theorem f13 (c : He.SaysD faL fnL K) : ∃ fd, Fun K "count" "count" s13 (He.ga K "count") fd ∧ L2.Binds K fd ["form", "length"] [] := by
  obtain ⟨fd, F⟩ := c.def_ 9 (d := d13) rfl
  have q : Fun K "count" "count" s13 (He.ga K "count") fd := fun_of F
  exact ⟨fd, q, q.binds fun _ _ _ _ _ _ us hl => match us, hl with | [_, _], _ => rfl⟩
theorem D13 (c : He.SaysD faL fnL K) (X : K.In base) (G : base.Ns mainGlobals mg) : Def P w K mg base "count" s13 ["form", "length"] := by
  obtain ⟨fd, q, b⟩ := f13 c
  exact ⟨_, fd, q, He.glo_ok X G (c.fact 9 (f := .glo "count") rfl), b⟩
theorem f14 (c : He.SaysD faL fnL K) : ∃ fd, Fun K "counts" "counts" s14 (He.ga K "counts") fd ∧ L2.Binds K fd ["form", "many"] [] := by
  obtain ⟨fd, F⟩ := c.def_ 10 (d := d14) rfl
  have q : Fun K "counts" "counts" s14 (He.ga K "counts") fd := fun_of F
  exact ⟨fd, q, q.binds fun _ _ _ _ _ _ us hl => match us, hl with | [_, _], _ => rfl⟩
theorem D14 (c : He.SaysD faL fnL K) (X : K.In base) (G : base.Ns mainGlobals mg) : Def P w K mg base "counts" s14 ["form", "many"] := by
  obtain ⟨fd, q, b⟩ := f14 c
  exact ⟨_, fd, q, He.glo_ok X G (c.fact 10 (f := .glo "counts") rfl), b⟩
theorem f17 (c : He.SaysD faL fnL K) : ∃ fd, Fun K "is_integer" "is_integer" s17 (He.ga K "is_integer") fd ∧ L2.Binds K fd ["thing"] [] := by
  obtain ⟨fd, F⟩ := c.def_ 11 (d := d17) rfl
  have q : Fun K "is_integer" "is_integer" s17 (He.ga K "is_integer") fd := fun_of F
  exact ⟨fd, q, q.binds fun _ _ _ _ _ _ us hl => match us, hl with | [_], _ => rfl⟩
theorem D17 (c : He.SaysD faL fnL K) (X : K.In base) (G : base.Ns mainGlobals mg) : Def P w K mg base "is_integer" s17 ["thing"] := by
  obtain ⟨fd, q, b⟩ := f17 c
  exact ⟨_, fd, q, He.glo_ok X G (c.fact 11 (f := .glo "is_integer") rfl), b⟩
theorem f18 (c : He.SaysD faL fnL K) : ∃ fd, Fun K "are_integers" "are_integers" s18 (He.ga K "are_integers") fd ∧ L2.Binds K fd ["thing"] [] := by
  obtain ⟨fd, F⟩ := c.def_ 12 (d := d18) rfl
  have q : Fun K "are_integers" "are_integers" s18 (He.ga K "are_integers") fd := fun_of F
  exact ⟨fd, q, q.binds fun _ _ _ _ _ _ us hl => match us, hl with | [_], _ => rfl⟩
theorem D18 (c : He.SaysD faL fnL K) (X : K.In base) (G : base.Ns mainGlobals mg) : Def P w K mg base "are_integers" s18 ["thing"] := by
  obtain ⟨fd, q, b⟩ := f18 c
  exact ⟨_, fd, q, He.glo_ok X G (c.fact 12 (f := .glo "are_integers") rfl), b⟩
theorem f19 (c : He.SaysD faL fnL K) : ∃ fd, Fun K "is_rule" "is_rule" s19 (He.ga K "is_rule") fd ∧ L2.Binds K fd ["thing"] [] := by
  obtain ⟨fd, F⟩ := c.def_ 13 (d := d19) rfl
  have q : Fun K "is_rule" "is_rule" s19 (He.ga K "is_rule") fd := fun_of F
  exact ⟨fd, q, q.binds fun _ _ _ _ _ _ us hl => match us, hl with | [_], _ => rfl⟩
theorem D19 (c : He.SaysD faL fnL K) (X : K.In base) (G : base.Ns mainGlobals mg) : Def P w K mg base "is_rule" s19 ["thing"] := by
  obtain ⟨fd, q, b⟩ := f19 c
  exact ⟨_, fd, q, He.glo_ok X G (c.fact 13 (f := .glo "is_rule") rfl), b⟩
theorem f20 (c : He.SaysD faL fnL K) : ∃ fd, Fun K "next_term" "next_term" s20 (He.ga K "next_term") fd ∧ L2.Binds K fd ["known", "factors"] [] := by
  obtain ⟨fd, F⟩ := c.def_ 14 (d := d20) rfl
  have q : Fun K "next_term" "next_term" s20 (He.ga K "next_term") fd := fun_of F
  exact ⟨fd, q, q.binds fun _ _ _ _ _ _ us hl => match us, hl with | [_, _], _ => rfl⟩
theorem D20 (c : He.SaysD faL fnL K) (X : K.In base) (G : base.Ns mainGlobals mg) : Def P w K mg base "next_term" s20 ["known", "factors"] := by
  obtain ⟨fd, q, b⟩ := f20 c
  exact ⟨_, fd, q, He.glo_ok X G (c.fact 14 (f := .glo "next_term") rfl), b⟩
theorem f21 (c : He.SaysD faL fnL K) : ∃ fd, Fun K "terms" "terms" s21 (He.ga K "terms") fd ∧ L2.Binds K fd ["rule", "many"] [] := by
  obtain ⟨fd, F⟩ := c.def_ 15 (d := d21) rfl
  have q : Fun K "terms" "terms" s21 (He.ga K "terms") fd := fun_of F
  exact ⟨fd, q, q.binds fun _ _ _ _ _ _ us hl => match us, hl with | [_, _], _ => rfl⟩
theorem D21 (c : He.SaysD faL fnL K) (X : K.In base) (G : base.Ns mainGlobals mg) : Def P w K mg base "terms" s21 ["rule", "many"] := by
  obtain ⟨fd, q, b⟩ := f21 c
  exact ⟨_, fd, q, He.glo_ok X G (c.fact 15 (f := .glo "terms") rfl), b⟩
theorem f22 (c : He.SaysD faL fnL K) : ∃ fd, Fun K "term" "term" s22 (He.ga K "term") fd ∧ L2.Binds K fd ["rule", "index"] [] := by
  obtain ⟨fd, F⟩ := c.def_ 16 (d := d22) rfl
  have q : Fun K "term" "term" s22 (He.ga K "term") fd := fun_of F
  exact ⟨fd, q, q.binds fun _ _ _ _ _ _ us hl => match us, hl with | [_, _], _ => rfl⟩
theorem D22 (c : He.SaysD faL fnL K) (X : K.In base) (G : base.Ns mainGlobals mg) : Def P w K mg base "term" s22 ["rule", "index"] := by
  obtain ⟨fd, q, b⟩ := f22 c
  exact ⟨_, fd, q, He.glo_ok X G (c.fact 16 (f := .glo "term") rfl), b⟩
theorem f23 (c : He.SaysD faL fnL K) : ∃ fd, Fun K "least_by" "least_by" s23 (He.ga K "least_by") fd ∧ L2.Binds K fd ["row", "most"] [] := by
  obtain ⟨fd, F⟩ := c.def_ 17 (d := d23) rfl
  have q : Fun K "least_by" "least_by" s23 (He.ga K "least_by") fd := fun_of F
  exact ⟨fd, q, q.binds fun _ _ _ _ _ _ us hl => match us, hl with | [_, _], _ => rfl⟩
theorem D23 (c : He.SaysD faL fnL K) (X : K.In base) (G : base.Ns mainGlobals mg) : Def P w K mg base "least_by" s23 ["row", "most"] := by
  obtain ⟨fd, q, b⟩ := f23 c
  exact ⟨_, fd, q, He.glo_ok X G (c.fact 17 (f := .glo "least_by") rfl), b⟩
theorem f24 (c : He.SaysD faL fnL K) : ∃ fd, Fun K "least_rule" "least_rule" s24 (He.ga K "least_rule") fd ∧ L2.Binds K fd ["form"] [] := by
  obtain ⟨fd, F⟩ := c.def_ 18 (d := d24) rfl
  have q : Fun K "least_rule" "least_rule" s24 (He.ga K "least_rule") fd := fun_of F
  exact ⟨fd, q, q.binds fun _ _ _ _ _ _ us hl => match us, hl with | [_], _ => rfl⟩
theorem D24 (c : He.SaysD faL fnL K) (X : K.In base) (G : base.Ns mainGlobals mg) : Def P w K mg base "least_rule" s24 ["form"] := by
  obtain ⟨fd, q, b⟩ := f24 c
  exact ⟨_, fd, q, He.glo_ok X G (c.fact 18 (f := .glo "least_rule") rfl), b⟩
theorem f25 (c : He.SaysD faL fnL K) : ∃ fd, Fun K "least_rule_from" "least_rule_from" s25 (He.ga K "least_rule_from") fd ∧ L2.Binds K fd ["form", "state"] [] := by
  obtain ⟨fd, F⟩ := c.def_ 19 (d := d25) rfl
  have q : Fun K "least_rule_from" "least_rule_from" s25 (He.ga K "least_rule_from") fd := fun_of F
  exact ⟨fd, q, q.binds fun _ _ _ _ _ _ us hl => match us, hl with | [_, _], _ => rfl⟩
theorem D25 (hT : ∀ p ∈ tfL.map (He.cT K), LamX.TabB base mg p.1 p.2) (nd : ((tabsOf K).map Prod.fst).Nodup) (c : He.SaysD faL fnL K) (X : K.In base) (G : base.Ns mainGlobals mg) : DefT (gx K) P w K mg base "least_rule_from" s25 ["form", "state"] (lamQ "least_rule_from" s25) := by
  obtain ⟨fd, F⟩ := c.def_ 19 (d := d25) rfl
  have q : Fun K "least_rule_from" "least_rule_from" s25 (He.ga K "least_rule_from") fd := fun_of F
  exact defT_of F (He.glo_ok X G (c.fact 19 (f := .glo "least_rule_from") rfl)) (q.binds fun _ _ _ _ _ _ us hl => match us, hl with | [_, _], _ => rfl) (hT (He.cT K ("least_rule_from", none)) (.head _)) (.head _) nd
theorem f26 (c : He.SaysD faL fnL K) : ∃ fd, Fun K "obeys" "obeys" s26 (He.ga K "obeys") fd ∧ L2.Binds K fd ["form", "thing"] [] := by
  obtain ⟨fd, F⟩ := c.def_ 20 (d := d26) rfl
  have q : Fun K "obeys" "obeys" s26 (He.ga K "obeys") fd := fun_of F
  exact ⟨fd, q, q.binds fun _ _ _ _ _ _ us hl => match us, hl with | [_, _], _ => rfl⟩
theorem D26 (c : He.SaysD faL fnL K) (X : K.In base) (G : base.Ns mainGlobals mg) : Def P w K mg base "obeys" s26 ["form", "thing"] := by
  obtain ⟨fd, q, b⟩ := f26 c
  exact ⟨_, fd, q, He.glo_ok X G (c.fact 20 (f := .glo "obeys") rfl), b⟩
theorem f27 (c : He.SaysD faL fnL K) : ∃ fd, Fun K "added" "added" s27 (He.ga K "added") fd ∧ L2.Binds K fd ["one", "other"] [] := by
  obtain ⟨fd, F⟩ := c.def_ 21 (d := d27) rfl
  have q : Fun K "added" "added" s27 (He.ga K "added") fd := fun_of F
  exact ⟨fd, q, q.binds fun _ _ _ _ _ _ us hl => match us, hl with | [_, _], _ => rfl⟩
theorem D27 (hT : ∀ p ∈ tfL.map (He.cT K), LamX.TabB base mg p.1 p.2) (nd : ((tabsOf K).map Prod.fst).Nodup) (c : He.SaysD faL fnL K) (X : K.In base) (G : base.Ns mainGlobals mg) : DefT (gx K) P w K mg base "added" s27 ["one", "other"] (lamQ "added" s27) := by
  obtain ⟨fd, F⟩ := c.def_ 21 (d := d27) rfl
  have q : Fun K "added" "added" s27 (He.ga K "added") fd := fun_of F
  exact defT_of F (He.glo_ok X G (c.fact 21 (f := .glo "added") rfl)) (q.binds fun _ _ _ _ _ _ us hl => match us, hl with | [_, _], _ => rfl) (hT (He.cT K ("added", none)) (.tail _ (.head _))) (.tail _ (.head _)) nd
theorem f28 (c : He.SaysD faL fnL K) : ∃ fd, Fun K "lessened" "lessened" s28 (He.ga K "lessened") fd ∧ L2.Binds K fd ["one", "other"] [] := by
  obtain ⟨fd, F⟩ := c.def_ 22 (d := d28) rfl
  have q : Fun K "lessened" "lessened" s28 (He.ga K "lessened") fd := fun_of F
  exact ⟨fd, q, q.binds fun _ _ _ _ _ _ us hl => match us, hl with | [_, _], _ => rfl⟩
theorem D28 (hT : ∀ p ∈ tfL.map (He.cT K), LamX.TabB base mg p.1 p.2) (nd : ((tabsOf K).map Prod.fst).Nodup) (c : He.SaysD faL fnL K) (X : K.In base) (G : base.Ns mainGlobals mg) : DefT (gx K) P w K mg base "lessened" s28 ["one", "other"] (lamQ "lessened" s28) := by
  obtain ⟨fd, F⟩ := c.def_ 22 (d := d28) rfl
  have q : Fun K "lessened" "lessened" s28 (He.ga K "lessened") fd := fun_of F
  exact defT_of F (He.glo_ok X G (c.fact 22 (f := .glo "lessened") rfl)) (q.binds fun _ _ _ _ _ _ us hl => match us, hl with | [_, _], _ => rfl) (hT (He.cT K ("lessened", none)) (.tail _ (.tail _ (.head _)))) (.tail _ (.tail _ (.head _))) nd
theorem f29 (c : He.SaysD faL fnL K) : ∃ fd, Fun K "pairs" "pairs" s29 (He.ga K "pairs") fd ∧ L2.Binds K fd ["one", "other", "many"] [] := by
  obtain ⟨fd, F⟩ := c.def_ 23 (d := d29) rfl
  have q : Fun K "pairs" "pairs" s29 (He.ga K "pairs") fd := fun_of F
  exact ⟨fd, q, q.binds fun _ _ _ _ _ _ us hl => match us, hl with | [_, _, _], _ => rfl⟩
theorem D29 (c : He.SaysD faL fnL K) (X : K.In base) (G : base.Ns mainGlobals mg) : Def P w K mg base "pairs" s29 ["one", "other", "many"] := by
  obtain ⟨fd, q, b⟩ := f29 c
  exact ⟨_, fd, q, He.glo_ok X G (c.fact 23 (f := .glo "pairs") rfl), b⟩
theorem f30 (c : He.SaysD faL fnL K) : ∃ fd, Fun K "met" "met" s30 (He.ga K "met") fd ∧ L2.Binds K fd ["one", "other"] [] := by
  obtain ⟨fd, F⟩ := c.def_ 24 (d := d30) rfl
  have q : Fun K "met" "met" s30 (He.ga K "met") fd := fun_of F
  exact ⟨fd, q, q.binds fun _ _ _ _ _ _ us hl => match us, hl with | [_, _], _ => rfl⟩
theorem D30 (hT : ∀ p ∈ tfL.map (He.cT K), LamX.TabB base mg p.1 p.2) (nd : ((tabsOf K).map Prod.fst).Nodup) (c : He.SaysD faL fnL K) (X : K.In base) (G : base.Ns mainGlobals mg) : DefT (gx K) P w K mg base "met" s30 ["one", "other"] (lamQ "met" s30) := by
  obtain ⟨fd, F⟩ := c.def_ 24 (d := d30) rfl
  have q : Fun K "met" "met" s30 (He.ga K "met") fd := fun_of F
  exact defT_of F (He.glo_ok X G (c.fact 24 (f := .glo "met") rfl)) (q.binds fun _ _ _ _ _ _ us hl => match us, hl with | [_, _], _ => rfl) (hT (He.cT K ("met", none)) (.tail _ (.tail _ (.tail _ (.head _))))) (.tail _ (.tail _ (.tail _ (.head _)))) nd
theorem f31 (c : He.SaysD faL fnL K) : ∃ fd, Fun K "met_terms" "met_terms" s31 (He.ga K "met_terms") fd ∧ L2.Binds K fd ["row", "mate"] [] := by
  obtain ⟨fd, F⟩ := c.def_ 25 (d := d31) rfl
  have q : Fun K "met_terms" "met_terms" s31 (He.ga K "met_terms") fd := fun_of F
  exact ⟨fd, q, q.binds fun _ _ _ _ _ _ us hl => match us, hl with | [_, _], _ => rfl⟩
theorem D31 (c : He.SaysD faL fnL K) (X : K.In base) (G : base.Ns mainGlobals mg) : Def P w K mg base "met_terms" s31 ["row", "mate"] := by
  obtain ⟨fd, q, b⟩ := f31 c
  exact ⟨_, fd, q, He.glo_ok X G (c.fact 25 (f := .glo "met_terms") rfl), b⟩
theorem f32 (c : He.SaysD faL fnL K) : ∃ fd, Fun K "summed" "summed" s32 (He.ga K "summed") fd ∧ L2.Binds K fd ["rule"] [] := by
  obtain ⟨fd, F⟩ := c.def_ 26 (d := d32) rfl
  have q : Fun K "summed" "summed" s32 (He.ga K "summed") fd := fun_of F
  exact ⟨fd, q, q.binds fun _ _ _ _ _ _ us hl => match us, hl with | [_], _ => rfl⟩
theorem D32 (hT : ∀ p ∈ tfL.map (He.cT K), LamX.TabB base mg p.1 p.2) (nd : ((tabsOf K).map Prod.fst).Nodup) (c : He.SaysD faL fnL K) (X : K.In base) (G : base.Ns mainGlobals mg) : DefT (gx K) P w K mg base "summed" s32 ["rule"] (lamQ "summed" s32) := by
  obtain ⟨fd, F⟩ := c.def_ 26 (d := d32) rfl
  have q : Fun K "summed" "summed" s32 (He.ga K "summed") fd := fun_of F
  exact defT_of F (He.glo_ok X G (c.fact 26 (f := .glo "summed") rfl)) (q.binds fun _ _ _ _ _ _ us hl => match us, hl with | [_], _ => rfl) (hT (He.cT K ("summed", none)) (.tail _ (.tail _ (.tail _ (.tail _ (.head _)))))) (.tail _ (.tail _ (.tail _ (.tail _ (.head _))))) nd
theorem f33 (c : He.SaysD faL fnL K) : ∃ fd, Fun K "sums_of" "sums_of" s33 (He.ga K "sums_of") fd ∧ L2.Binds K fd ["row"] [] := by
  obtain ⟨fd, F⟩ := c.def_ 27 (d := d33) rfl
  have q : Fun K "sums_of" "sums_of" s33 (He.ga K "sums_of") fd := fun_of F
  exact ⟨fd, q, q.binds fun _ _ _ _ _ _ us hl => match us, hl with | [_], _ => rfl⟩
theorem D33 (c : He.SaysD faL fnL K) (X : K.In base) (G : base.Ns mainGlobals mg) : Def P w K mg base "sums_of" s33 ["row"] := by
  obtain ⟨fd, q, b⟩ := f33 c
  exact ⟨_, fd, q, He.glo_ok X G (c.fact 27 (f := .glo "sums_of") rfl), b⟩
theorem f34 (c : He.SaysD faL fnL K) : ∃ fd, Fun K "part" "part" s34 (He.ga K "part") fd ∧ L2.Binds K fd ["rule", "step", "rest"] [] := by
  obtain ⟨fd, F⟩ := c.def_ 28 (d := d34) rfl
  have q : Fun K "part" "part" s34 (He.ga K "part") fd := fun_of F
  exact ⟨fd, q, q.binds fun _ _ _ _ _ _ us hl => match us, hl with | [_, _, _], _ => rfl⟩
theorem D34 (hT : ∀ p ∈ tfL.map (He.cT K), LamX.TabB base mg p.1 p.2) (nd : ((tabsOf K).map Prod.fst).Nodup) (c : He.SaysD faL fnL K) (X : K.In base) (G : base.Ns mainGlobals mg) : DefT (gx K) P w K mg base "part" s34 ["rule", "step", "rest"] (lamQ "part" s34) := by
  obtain ⟨fd, F⟩ := c.def_ 28 (d := d34) rfl
  have q : Fun K "part" "part" s34 (He.ga K "part") fd := fun_of F
  exact defT_of F (He.glo_ok X G (c.fact 28 (f := .glo "part") rfl)) (q.binds fun _ _ _ _ _ _ us hl => match us, hl with | [_, _, _], _ => rfl) (hT (He.cT K ("part", none)) (.tail _ (.tail _ (.tail _ (.tail _ (.tail _ (.head _))))))) (.tail _ (.tail _ (.tail _ (.tail _ (.tail _ (.head _)))))) nd
theorem f36 (c : He.SaysD faL fnL K) : ∃ fd, Fun K "times_left" "times_left" s36 (He.ga K "times_left") fd ∧ L2.Binds K fd ["one", "other", "factors", "under"] [] := by
  obtain ⟨fd, F⟩ := c.def_ 29 (d := d36) rfl
  have q : Fun K "times_left" "times_left" s36 (He.ga K "times_left") fd := fun_of F
  exact ⟨fd, q, q.binds fun _ _ _ _ _ _ us hl => match us, hl with | [_, _, _, _], _ => rfl⟩
theorem D36 (c : He.SaysD faL fnL K) (X : K.In base) (G : base.Ns mainGlobals mg) : Def P w K mg base "times_left" s36 ["one", "other", "factors", "under"] := by
  obtain ⟨fd, q, b⟩ := f36 c
  exact ⟨_, fd, q, He.glo_ok X G (c.fact 29 (f := .glo "times_left") rfl), b⟩
theorem f37 (c : He.SaysD faL fnL K) : ∃ fd, Fun K "stepped" "stepped" s37 (He.ga K "stepped") fd ∧ L2.Binds K fd ["rest", "factors", "under"] [] := by
  obtain ⟨fd, F⟩ := c.def_ 30 (d := d37) rfl
  have q : Fun K "stepped" "stepped" s37 (He.ga K "stepped") fd := fun_of F
  exact ⟨fd, q, q.binds fun _ _ _ _ _ _ us hl => match us, hl with | [_, _, _], _ => rfl⟩
theorem D37 (c : He.SaysD faL fnL K) (X : K.In base) (G : base.Ns mainGlobals mg) : Def P w K mg base "stepped" s37 ["rest", "factors", "under"] := by
  obtain ⟨fd, q, b⟩ := f37 c
  exact ⟨_, fd, q, He.glo_ok X G (c.fact 30 (f := .glo "stepped") rfl), b⟩
theorem f38 (c : He.SaysD faL fnL K) : ∃ fd, Fun K "figures_of" "figures_of" s38 (He.ga K "figures_of") fd ∧ L2.Binds K fd ["number"] [] := by
  obtain ⟨fd, F⟩ := c.def_ 31 (d := d38) rfl
  have q : Fun K "figures_of" "figures_of" s38 (He.ga K "figures_of") fd := fun_of F
  exact ⟨fd, q, q.binds fun _ _ _ _ _ _ us hl => match us, hl with | [_], _ => rfl⟩
theorem D38 (c : He.SaysD faL fnL K) (X : K.In base) (G : base.Ns mainGlobals mg) : Def P w K mg base "figures_of" s38 ["number"] := by
  obtain ⟨fd, q, b⟩ := f38 c
  exact ⟨_, fd, q, He.glo_ok X G (c.fact 31 (f := .glo "figures_of") rfl), b⟩
theorem f39 (c : He.SaysD faL fnL K) : ∃ fd, Fun K "term_left" "term_left" s39 (He.ga K "term_left") fd ∧ L2.Binds K fd ["rule", "index", "under"] [] := by
  obtain ⟨fd, F⟩ := c.def_ 32 (d := d39) rfl
  have q : Fun K "term_left" "term_left" s39 (He.ga K "term_left") fd := fun_of F
  exact ⟨fd, q, q.binds fun _ _ _ _ _ _ us hl => match us, hl with | [_, _, _], _ => rfl⟩
theorem D39 (c : He.SaysD faL fnL K) (X : K.In base) (G : base.Ns mainGlobals mg) : Def P w K mg base "term_left" s39 ["rule", "index", "under"] := by
  obtain ⟨fd, q, b⟩ := f39 c
  exact ⟨_, fd, q, He.glo_ok X G (c.fact 32 (f := .glo "term_left") rfl), b⟩
theorem f40 (c : He.SaysD faL fnL K) : ∃ fd, Fun K "count_left" "count_left" s40 (He.ga K "count_left") fd ∧ L2.Binds K fd ["form", "length", "under"] [] := by
  obtain ⟨fd, F⟩ := c.def_ 33 (d := d40) rfl
  have q : Fun K "count_left" "count_left" s40 (He.ga K "count_left") fd := fun_of F
  exact ⟨fd, q, q.binds fun _ _ _ _ _ _ us hl => match us, hl with | [_, _, _], _ => rfl⟩
theorem D40 (c : He.SaysD faL fnL K) (X : K.In base) (G : base.Ns mainGlobals mg) : Def P w K mg base "count_left" s40 ["form", "length", "under"] := by
  obtain ⟨fd, q, b⟩ := f40 c
  exact ⟨_, fd, q, He.glo_ok X G (c.fact 33 (f := .glo "count_left") rfl), b⟩
theorem f48 (c : He.SaysD faL fnL K) : ∃ fd, Fun K "is_letter" "is_letter" s48 (He.ga K "is_letter") fd ∧ L2.Binds K fd ["thing"] [] := by
  obtain ⟨fd, F⟩ := c.def_ 34 (d := d48) rfl
  have q : Fun K "is_letter" "is_letter" s48 (He.ga K "is_letter") fd := fun_of F
  exact ⟨fd, q, q.binds fun _ _ _ _ _ _ us hl => match us, hl with | [_], _ => rfl⟩
theorem D48 (c : He.SaysD faL fnL K) (X : K.In base) (G : base.Ns mainGlobals mg) : Def P w K mg base "is_letter" s48 ["thing"] := by
  obtain ⟨fd, q, b⟩ := f48 c
  exact ⟨_, fd, q, He.glo_ok X G (c.fact 34 (f := .glo "is_letter") rfl), b⟩
theorem f57 (c : He.SaysD faL fnL K) : ∃ fd, Fun K "is_size" "is_size" s57 (He.ga K "is_size") fd ∧ L2.Binds K fd ["thing"] [] := by
  obtain ⟨fd, F⟩ := c.def_ 35 (d := d57) rfl
  have q : Fun K "is_size" "is_size" s57 (He.ga K "is_size") fd := fun_of F
  exact ⟨fd, q, q.binds fun _ _ _ _ _ _ us hl => match us, hl with | [_], _ => rfl⟩
theorem D57 (c : He.SaysD faL fnL K) (X : K.In base) (G : base.Ns mainGlobals mg) : Def P w K mg base "is_size" s57 ["thing"] := by
  obtain ⟨fd, q, b⟩ := f57 c
  exact ⟨_, fd, q, He.glo_ok X G (c.fact 35 (f := .glo "is_size") rfl), b⟩
theorem f58 (c : He.SaysD faL fnL K) : ∃ fd, Fun K "is_state" "is_state" s58 (He.ga K "is_state") fd ∧ L2.Binds K fd ["size", "thing"] [] := by
  obtain ⟨fd, F⟩ := c.def_ 36 (d := d58) rfl
  have q : Fun K "is_state" "is_state" s58 (He.ga K "is_state") fd := fun_of F
  exact ⟨fd, q, q.binds fun _ _ _ _ _ _ us hl => match us, hl with | [_, _], _ => rfl⟩
theorem D58 (c : He.SaysD faL fnL K) (X : K.In base) (G : base.Ns mainGlobals mg) : Def P w K mg base "is_state" s58 ["size", "thing"] := by
  obtain ⟨fd, q, b⟩ := f58 c
  exact ⟨_, fd, q, He.glo_ok X G (c.fact 36 (f := .glo "is_state") rfl), b⟩
theorem f59 (c : He.SaysD faL fnL K) : ∃ fd, Fun K "is_move" "is_move" s59 (He.ga K "is_move") fd ∧ L2.Binds K fd ["size", "thing"] [] := by
  obtain ⟨fd, F⟩ := c.def_ 37 (d := d59) rfl
  have q : Fun K "is_move" "is_move" s59 (He.ga K "is_move") fd := fun_of F
  exact ⟨fd, q, q.binds fun _ _ _ _ _ _ us hl => match us, hl with | [_, _], _ => rfl⟩
theorem D59 (c : He.SaysD faL fnL K) (X : K.In base) (G : base.Ns mainGlobals mg) : Def P w K mg base "is_move" s59 ["size", "thing"] := by
  obtain ⟨fd, q, b⟩ := f59 c
  exact ⟨_, fd, q, He.glo_ok X G (c.fact 37 (f := .glo "is_move") rfl), b⟩
theorem f60 (c : He.SaysD faL fnL K) : ∃ fd, Fun K "are_ascending" "are_ascending" s60 (He.ga K "are_ascending") fd ∧ L2.Binds K fd ["items"] [] := by
  obtain ⟨fd, F⟩ := c.def_ 38 (d := d60) rfl
  have q : Fun K "are_ascending" "are_ascending" s60 (He.ga K "are_ascending") fd := fun_of F
  exact ⟨fd, q, q.binds fun _ _ _ _ _ _ us hl => match us, hl with | [_], _ => rfl⟩
theorem D60 (c : He.SaysD faL fnL K) (X : K.In base) (G : base.Ns mainGlobals mg) : Def P w K mg base "are_ascending" s60 ["items"] := by
  obtain ⟨fd, q, b⟩ := f60 c
  exact ⟨_, fd, q, He.glo_ok X G (c.fact 38 (f := .glo "are_ascending") rfl), b⟩
theorem f61 (c : He.SaysD faL fnL K) : ∃ fd, Fun K "are_moves" "are_moves" s61 (He.ga K "are_moves") fd ∧ L2.Binds K fd ["size", "thing"] [] := by
  obtain ⟨fd, F⟩ := c.def_ 39 (d := d61) rfl
  have q : Fun K "are_moves" "are_moves" s61 (He.ga K "are_moves") fd := fun_of F
  exact ⟨fd, q, q.binds fun _ _ _ _ _ _ us hl => match us, hl with | [_, _], _ => rfl⟩
theorem D61 (c : He.SaysD faL fnL K) (X : K.In base) (G : base.Ns mainGlobals mg) : Def P w K mg base "are_moves" s61 ["size", "thing"] := by
  obtain ⟨fd, q, b⟩ := f61 c
  exact ⟨_, fd, q, He.glo_ok X G (c.fact 39 (f := .glo "are_moves") rfl), b⟩
theorem f62 (c : He.SaysD faL fnL K) : ∃ fd, Fun K "are_ends" "are_ends" s62 (He.ga K "are_ends") fd ∧ L2.Binds K fd ["size", "thing"] [] := by
  obtain ⟨fd, F⟩ := c.def_ 40 (d := d62) rfl
  have q : Fun K "are_ends" "are_ends" s62 (He.ga K "are_ends") fd := fun_of F
  exact ⟨fd, q, q.binds fun _ _ _ _ _ _ us hl => match us, hl with | [_, _], _ => rfl⟩
theorem D62 (c : He.SaysD faL fnL K) (X : K.In base) (G : base.Ns mainGlobals mg) : Def P w K mg base "are_ends" s62 ["size", "thing"] := by
  obtain ⟨fd, q, b⟩ := f62 c
  exact ⟨_, fd, q, He.glo_ok X G (c.fact 40 (f := .glo "are_ends") rfl), b⟩
theorem f63 (c : He.SaysD faL fnL K) : ∃ fd, Fun K "are_single" "are_single" s63 (He.ga K "are_single") fd ∧ L2.Binds K fd ["moves"] [] := by
  obtain ⟨fd, F⟩ := c.def_ 41 (d := d63) rfl
  have q : Fun K "are_single" "are_single" s63 (He.ga K "are_single") fd := fun_of F
  exact ⟨fd, q, q.binds fun _ _ _ _ _ _ us hl => match us, hl with | [_], _ => rfl⟩
theorem D63 (c : He.SaysD faL fnL K) (X : K.In base) (G : base.Ns mainGlobals mg) : Def P w K mg base "are_single" s63 ["moves"] := by
  obtain ⟨fd, q, b⟩ := f63 c
  exact ⟨_, fd, q, He.glo_ok X G (c.fact 41 (f := .glo "are_single") rfl), b⟩
theorem f64 (c : He.SaysD faL fnL K) : ∃ fd, Fun K "letters_of" "letters_of" s64 (He.ga K "letters_of") fd ∧ L2.Binds K fd ["moves"] [] := by
  obtain ⟨fd, F⟩ := c.def_ 42 (d := d64) rfl
  have q : Fun K "letters_of" "letters_of" s64 (He.ga K "letters_of") fd := fun_of F
  exact ⟨fd, q, q.binds fun _ _ _ _ _ _ us hl => match us, hl with | [_], _ => rfl⟩
theorem D64 (c : He.SaysD faL fnL K) (X : K.In base) (G : base.Ns mainGlobals mg) : Def P w K mg base "letters_of" s64 ["moves"] := by
  obtain ⟨fd, q, b⟩ := f64 c
  exact ⟨_, fd, q, He.glo_ok X G (c.fact 42 (f := .glo "letters_of") rfl), b⟩
theorem f76 (c : He.SaysD faL fnL K) : ∃ fd, Fun K "reached" "reached" s76 (He.ga K "reached") fd ∧ L2.Binds K fd ["firsts", "moves"] [] := by
  obtain ⟨fd, F⟩ := c.def_ 43 (d := d76) rfl
  have q : Fun K "reached" "reached" s76 (He.ga K "reached") fd := fun_of F
  exact ⟨fd, q, q.binds fun _ _ _ _ _ _ us hl => match us, hl with | [_, _], _ => rfl⟩
theorem D76 (c : He.SaysD faL fnL K) (X : K.In base) (G : base.Ns mainGlobals mg) : Def P w K mg base "reached" s76 ["firsts", "moves"] := by
  obtain ⟨fd, q, b⟩ := f76 c
  exact ⟨_, fd, q, He.glo_ok X G (c.fact 43 (f := .glo "reached") rfl), b⟩
theorem f77 (c : He.SaysD faL fnL K) : ∃ fd, Fun K "useful_states" "useful_states" s77 (He.ga K "useful_states") fd ∧ L2.Binds K fd ["moves", "ends"] [] := by
  obtain ⟨fd, F⟩ := c.def_ 44 (d := d77) rfl
  have q : Fun K "useful_states" "useful_states" s77 (He.ga K "useful_states") fd := fun_of F
  exact ⟨fd, q, q.binds fun _ _ _ _ _ _ us hl => match us, hl with | [_, _], _ => rfl⟩
theorem D77 (c : He.SaysD faL fnL K) (X : K.In base) (G : base.Ns mainGlobals mg) : Def P w K mg base "useful_states" s77 ["moves", "ends"] := by
  obtain ⟨fd, q, b⟩ := f77 c
  exact ⟨_, fd, q, He.glo_ok X G (c.fact 44 (f := .glo "useful_states") rfl), b⟩
theorem f82 (c : He.SaysD faL fnL K) : ∃ fd, Fun K "first_unlike" "first_unlike" s82 (He.ga K "first_unlike") fd ∧ L2.Binds K fd ["one", "other"] [] := by
  obtain ⟨fd, F⟩ := c.def_ 45 (d := d82) rfl
  have q : Fun K "first_unlike" "first_unlike" s82 (He.ga K "first_unlike") fd := fun_of F
  exact ⟨fd, q, q.binds fun _ _ _ _ _ _ us hl => match us, hl with | [_, _], _ => rfl⟩
theorem D82 (c : He.SaysD faL fnL K) (X : K.In base) (G : base.Ns mainGlobals mg) : Def P w K mg base "first_unlike" s82 ["one", "other"] := by
  obtain ⟨fd, q, b⟩ := f82 c
  exact ⟨_, fd, q, He.glo_ok X G (c.fact 45 (f := .glo "first_unlike") rfl), b⟩
theorem f83 (c : He.SaysD faL fnL K) : ∃ fd, Fun K "have_same_rows" "have_same_rows" s83 (He.ga K "have_same_rows") fd ∧ L2.Binds K fd ["one", "other"] [] := by
  obtain ⟨fd, F⟩ := c.def_ 46 (d := d83) rfl
  have q : Fun K "have_same_rows" "have_same_rows" s83 (He.ga K "have_same_rows") fd := fun_of F
  exact ⟨fd, q, q.binds fun _ _ _ _ _ _ us hl => match us, hl with | [_, _], _ => rfl⟩
theorem D83 (c : He.SaysD faL fnL K) (X : K.In base) (G : base.Ns mainGlobals mg) : Def P w K mg base "have_same_rows" s83 ["one", "other"] := by
  obtain ⟨fd, q, b⟩ := f83 c
  exact ⟨_, fd, q, He.glo_ok X G (c.fact 46 (f := .glo "have_same_rows") rfl), b⟩
theorem f84 (c : He.SaysD faL fnL K) : ∃ fd, Fun K "judge_rows" "judge_rows" s84 (He.ga K "judge_rows") fd ∧ L2.Binds K fd ["one", "other"] [] := by
  obtain ⟨fd, F⟩ := c.def_ 47 (d := d84) rfl
  have q : Fun K "judge_rows" "judge_rows" s84 (He.ga K "judge_rows") fd := fun_of F
  exact ⟨fd, q, q.binds fun _ _ _ _ _ _ us hl => match us, hl with | [_, _], _ => rfl⟩
theorem D84 (c : He.SaysD faL fnL K) (X : K.In base) (G : base.Ns mainGlobals mg) : Def P w K mg base "judge_rows" s84 ["one", "other"] := by
  obtain ⟨fd, q, b⟩ := f84 c
  exact ⟨_, fd, q, He.glo_ok X G (c.fact 47 (f := .glo "judge_rows") rfl), b⟩
theorem f85 (c : He.SaysD faL fnL K) : ∃ fd, Fun K "rows_hold" "rows_hold" s85 (He.ga K "rows_hold") fd ∧ L2.Binds K fd ["one", "other", "thing"] [] := by
  obtain ⟨fd, F⟩ := c.def_ 48 (d := d85) rfl
  have q : Fun K "rows_hold" "rows_hold" s85 (He.ga K "rows_hold") fd := fun_of F
  exact ⟨fd, q, q.binds fun _ _ _ _ _ _ us hl => match us, hl with | [_, _, _], _ => rfl⟩
theorem D85 (c : He.SaysD faL fnL K) (X : K.In base) (G : base.Ns mainGlobals mg) : Def P w K mg base "rows_hold" s85 ["one", "other", "thing"] := by
  obtain ⟨fd, q, b⟩ := f85 c
  exact ⟨_, fd, q, He.glo_ok X G (c.fact 48 (f := .glo "rows_hold") rfl), b⟩
theorem f87 (c : He.SaysD faL fnL K) : ∃ fd, Fun K "_law_deck" "_law_deck" s87 (He.ga K "_law_deck") fd ∧ L2.Binds K fd ["_law_script"] [] := by
  obtain ⟨fd, F⟩ := c.def_ 49 (d := d87) rfl
  have q : Fun K "_law_deck" "_law_deck" s87 (He.ga K "_law_deck") fd := fun_of F
  exact ⟨fd, q, q.binds fun _ _ _ _ _ _ us hl => match us, hl with | [_], _ => rfl⟩
theorem D87 (c : He.SaysD faL fnL K) (X : K.In base) (G : base.Ns mainGlobals mg) : Def P w K mg base "_law_deck" s87 ["_law_script"] := by
  obtain ⟨fd, q, b⟩ := f87 c
  exact ⟨_, fd, q, He.glo_ok X G (c.fact 49 (f := .glo "_law_deck") rfl), b⟩
theorem f88 (c : He.SaysD faL fnL K) : ∃ fd, Fun K "_law_draw" "_law_draw" s88 (He.ga K "_law_draw") fd ∧ L2.Binds K fd ["_law_deck_here", "_law_bound"] [] := by
  obtain ⟨fd, F⟩ := c.def_ 50 (d := d88) rfl
  have q : Fun K "_law_draw" "_law_draw" s88 (He.ga K "_law_draw") fd := fun_of F
  exact ⟨fd, q, q.binds fun _ _ _ _ _ _ us hl => match us, hl with | [_, _], _ => rfl⟩
theorem D88 (c : He.SaysD faL fnL K) (X : K.In base) (G : base.Ns mainGlobals mg) : Def P w K mg base "_law_draw" s88 ["_law_deck_here", "_law_bound"] := by
  obtain ⟨fd, q, b⟩ := f88 c
  exact ⟨_, fd, q, He.glo_ok X G (c.fact 50 (f := .glo "_law_draw") rfl), b⟩
theorem f89 (c : He.SaysD faL fnL K) : ∃ fd, Fun K "_law_pick" "_law_pick" s89 (He.ga K "_law_pick") fd ∧ L2.Binds K fd ["_law_deck_here", "_law_some"] [] := by
  obtain ⟨fd, F⟩ := c.def_ 51 (d := d89) rfl
  have q : Fun K "_law_pick" "_law_pick" s89 (He.ga K "_law_pick") fd := fun_of F
  exact ⟨fd, q, q.binds fun _ _ _ _ _ _ us hl => match us, hl with | [_, _], _ => rfl⟩
theorem D89 (c : He.SaysD faL fnL K) (X : K.In base) (G : base.Ns mainGlobals mg) : Def P w K mg base "_law_pick" s89 ["_law_deck_here", "_law_some"] := by
  obtain ⟨fd, q, b⟩ := f89 c
  exact ⟨_, fd, q, He.glo_ok X G (c.fact 51 (f := .glo "_law_pick") rfl), b⟩
theorem f90 (c : He.SaysD faL fnL K) : ∃ fd, Fun K "_law_form" "_law_form" s90 (He.ga K "_law_form") fd ∧ L2.Binds K fd ["_law_deck_here", "_law_signs", "_law_top"] [] := by
  obtain ⟨fd, F⟩ := c.def_ 52 (d := d90) rfl
  have q : Fun K "_law_form" "_law_form" s90 (He.ga K "_law_form") fd := fun_of F
  exact ⟨fd, q, q.binds fun _ _ _ _ _ _ us hl => match us, hl with | [_, _, _], _ => rfl⟩
theorem D90 (c : He.SaysD faL fnL K) (X : K.In base) (G : base.Ns mainGlobals mg) : Def P w K mg base "_law_form" s90 ["_law_deck_here", "_law_signs", "_law_top"] := by
  obtain ⟨fd, q, b⟩ := f90 c
  exact ⟨_, fd, q, He.glo_ok X G (c.fact 52 (f := .glo "_law_form") rfl), b⟩
theorem f91 (c : He.SaysD faL fnL K) : ∃ fd, Fun K "_law_code" "_law_code" s91 (He.ga K "_law_code") fd ∧ L2.Binds K fd ["_law_w"] [] := by
  obtain ⟨fd, F⟩ := c.def_ 53 (d := d91) rfl
  have q : Fun K "_law_code" "_law_code" s91 (He.ga K "_law_code") fd := fun_of F
  exact ⟨fd, q, q.binds fun _ _ _ _ _ _ us hl => match us, hl with | [_], _ => rfl⟩
theorem D91 (c : He.SaysD faL fnL K) (X : K.In base) (G : base.Ns mainGlobals mg) : Def P w K mg base "_law_code" s91 ["_law_w"] := by
  obtain ⟨fd, q, b⟩ := f91 c
  exact ⟨_, fd, q, He.glo_ok X G (c.fact 53 (f := .glo "_law_code") rfl), b⟩
theorem f92 (c : He.SaysD faL fnL K) : ∃ fd, Fun K "_law_moved" "_law_moved" s92 (He.ga K "_law_moved") fd ∧ L2.Binds K fd ["_law_w", "_law_by"] [] := by
  obtain ⟨fd, F⟩ := c.def_ 54 (d := d92) rfl
  have q : Fun K "_law_moved" "_law_moved" s92 (He.ga K "_law_moved") fd := fun_of F
  exact ⟨fd, q, q.binds fun _ _ _ _ _ _ us hl => match us, hl with | [_, _], _ => rfl⟩
theorem D92 (c : He.SaysD faL fnL K) (X : K.In base) (G : base.Ns mainGlobals mg) : Def P w K mg base "_law_moved" s92 ["_law_w", "_law_by"] := by
  obtain ⟨fd, q, b⟩ := f92 c
  exact ⟨_, fd, q, He.glo_ok X G (c.fact 54 (f := .glo "_law_moved") rfl), b⟩
theorem f93 (c : He.SaysD faL fnL K) : ∃ fd, Fun K "_law_behind" "_law_behind" s93 (He.ga K "_law_behind") fd ∧ L2.Binds K fd ["_law_near", "_law_far"] [] := by
  obtain ⟨fd, F⟩ := c.def_ 55 (d := d93) rfl
  have q : Fun K "_law_behind" "_law_behind" s93 (He.ga K "_law_behind") fd := fun_of F
  exact ⟨fd, q, q.binds fun _ _ _ _ _ _ us hl => match us, hl with | [_, _], _ => rfl⟩
theorem D93 (c : He.SaysD faL fnL K) (X : K.In base) (G : base.Ns mainGlobals mg) : Def P w K mg base "_law_behind" s93 ["_law_near", "_law_far"] := by
  obtain ⟨fd, q, b⟩ := f93 c
  exact ⟨_, fd, q, He.glo_ok X G (c.fact 55 (f := .glo "_law_behind") rfl), b⟩
theorem f94 (c : He.SaysD faL fnL K) : ∃ fd, Fun K "_law_beside" "_law_beside" s94 (He.ga K "_law_beside") fd ∧ L2.Binds K fd ["_law_near", "_law_far"] [] := by
  obtain ⟨fd, F⟩ := c.def_ 56 (d := d94) rfl
  have q : Fun K "_law_beside" "_law_beside" s94 (He.ga K "_law_beside") fd := fun_of F
  exact ⟨fd, q, q.binds fun _ _ _ _ _ _ us hl => match us, hl with | [_, _], _ => rfl⟩
theorem D94 (c : He.SaysD faL fnL K) (X : K.In base) (G : base.Ns mainGlobals mg) : Def P w K mg base "_law_beside" s94 ["_law_near", "_law_far"] := by
  obtain ⟨fd, q, b⟩ := f94 c
  exact ⟨_, fd, q, He.glo_ok X G (c.fact 56 (f := .glo "_law_beside") rfl), b⟩
theorem f95 (c : He.SaysD faL fnL K) : ∃ fd, Fun K "_law_states_right" "_law_states_right" s95 (He.ga K "_law_states_right") fd ∧ L2.Binds K fd ["_law_deck_here", "_law_w"] [] := by
  obtain ⟨fd, F⟩ := c.def_ 57 (d := d95) rfl
  have q : Fun K "_law_states_right" "_law_states_right" s95 (He.ga K "_law_states_right") fd := fun_of F
  exact ⟨fd, q, q.binds fun _ _ _ _ _ _ us hl => match us, hl with | [_, _], _ => rfl⟩
theorem D95 (c : He.SaysD faL fnL K) (X : K.In base) (G : base.Ns mainGlobals mg) : Def P w K mg base "_law_states_right" s95 ["_law_deck_here", "_law_w"] := by
  obtain ⟨fd, q, b⟩ := f95 c
  exact ⟨_, fd, q, He.glo_ok X G (c.fact 57 (f := .glo "_law_states_right") rfl), b⟩
theorem f96 (c : He.SaysD faL fnL K) : ∃ fd, Fun K "_law_both_right" "_law_both_right" s96 (He.ga K "_law_both_right") fd ∧ L2.Binds K fd ["_law_deck_here", "_law_near", "_law_far"] [] := by
  obtain ⟨fd, F⟩ := c.def_ 58 (d := d96) rfl
  have q : Fun K "_law_both_right" "_law_both_right" s96 (He.ga K "_law_both_right") fd := fun_of F
  exact ⟨fd, q, q.binds fun _ _ _ _ _ _ us hl => match us, hl with | [_, _, _], _ => rfl⟩
theorem D96 (c : He.SaysD faL fnL K) (X : K.In base) (G : base.Ns mainGlobals mg) : Def P w K mg base "_law_both_right" s96 ["_law_deck_here", "_law_near", "_law_far"] := by
  obtain ⟨fd, q, b⟩ := f96 c
  exact ⟨_, fd, q, He.glo_ok X G (c.fact 58 (f := .glo "_law_both_right") rfl), b⟩
theorem f5i (c : He.SaysD faL fnL K) : ∃ fd, Fun K "__init__" "Columns.__init__" s5i (He.ma K (He.ga K "Columns") "__init__") fd ∧ L2.Binds K fd ["self"] [] := by
  obtain ⟨fd, F⟩ := c.def_ 60 (d := dm5_0) rfl
  have q : Fun K "__init__" "Columns.__init__" s5i (He.ma K (He.ga K "Columns") "__init__") fd := fun_of F
  exact ⟨fd, q, q.binds fun _ _ _ _ _ _ us hl => match us, hl with | [_], _ => rfl⟩
theorem f5p (c : He.SaysD faL fnL K) : ∃ fd, Fun K "put" "Columns.put" s5p (He.ma K (He.ga K "Columns") "put") fd ∧ L2.Binds K fd ["self", "numbers"] [] := by
  obtain ⟨fd, F⟩ := c.def_ 61 (d := dm5_1) rfl
  have q : Fun K "put" "Columns.put" s5p (He.ma K (He.ga K "Columns") "put") fd := fun_of F
  exact ⟨fd, q, q.binds fun _ _ _ _ _ _ us hl => match us, hl with | [_, _], _ => rfl⟩
theorem f73i (c : He.SaysD faL fnL K) : ∃ fd, Fun K "__init__" "Sheet.__init__" s73i (He.ma K (He.ga K "Sheet") "__init__") fd ∧ L2.Binds K fd ["self", "size", "moves", "ends"] [] := by
  obtain ⟨fd, F⟩ := c.def_ 62 (d := dm73_0) rfl
  have q : Fun K "__init__" "Sheet.__init__" s73i (He.ma K (He.ga K "Sheet") "__init__") fd := fun_of F
  exact ⟨fd, q, q.binds fun _ _ _ _ _ _ us hl => match us, hl with | [_, _, _, _], _ => rfl⟩
theorem f78i (c : He.SaysD faL fnL K) : ∃ fd, Fun K "__init__" "Format.__init__" s78i (He.ma K (He.ga K "Format") "__init__") fd ∧ L2.Binds K fd ["self", "size", "moves", "ends"] [] := by
  obtain ⟨fd, F⟩ := c.def_ 63 (d := dm78_0) rfl
  have q : Fun K "__init__" "Format.__init__" s78i (He.ma K (He.ga K "Format") "__init__") fd := fun_of F
  exact ⟨fd, q, q.binds fun _ _ _ _ _ _ us hl => match us, hl with | [_, _, _, _], _ => rfl⟩
theorem colK (c : He.SaysD faL fnL K) : ColK K (He.ga K "Columns") := ⟨He.cls_ok (c.fact 82 (f := .cls "Columns") rfl), He.noat_ok (c.fact 89 (f := .noat "Columns" "free") rfl), He.noat_ok (c.fact 90 (f := .noat "Columns" "many") rfl)⟩
theorem shK (c : He.SaysD faL fnL K) : ShK K (He.ga K "Sheet") := ⟨He.cls_ok (c.fact 84 (f := .cls "Sheet") rfl), He.noat_ok (c.fact 91 (f := .noat "Sheet" "size") rfl), He.noat_ok (c.fact 92 (f := .noat "Sheet" "moves") rfl), He.noat_ok (c.fact 93 (f := .noat "Sheet" "ends") rfl), He.noat_ok (c.fact 94 (f := .noat "Sheet" "letters") rfl), He.noat_ok (c.fact 95 (f := .noat "Sheet" "goals_by_key") rfl)⟩
theorem fmK (c : He.SaysD faL fnL K) : FmK K (gx K).C := ⟨He.cls_ok (c.fact 86 (f := .cls "Format") rfl), He.noat_ok (c.fact 96 (f := .noat "Format" "size") rfl), He.noat_ok (c.fact 97 (f := .noat "Format" "moves") rfl), He.noat_ok (c.fact 98 (f := .noat "Format" "ends") rfl), He.noat_ok (c.fact 99 (f := .noat "Format" "letters") rfl), He.noat_ok (c.fact 100 (f := .noat "Format" "useful") rfl), He.noat_ok (c.fact 101 (f := .noat "Format" "sheet") rfl), He.noat_ok (c.fact 102 (f := .noat "Format" "step_by_key") rfl), He.noat_ok (c.fact 103 (f := .noat "Format" "known_by_word") rfl)⟩
theorem law_ok {fd : FuncData} (F : Fun K "law" "law" s97 (He.ga K "law") fd) (ex : exL K = true) (c : He.SaysD faL fnL K) (X : K.In base) (G : base.Ns mainGlobals mg) (hT : ∀ p ∈ tfL.map (He.cT K), LamX.TabB base mg p.1 p.2) :
    FnOk P w K mg base CX0 15 (He.ga K "law") fd ["_law_script"] (spLaw (gx K) K) := by
  have nd : ((tabsOf K).map Prod.fst).Nodup := of_decide_eq_true ex
  have T := tx c X G
  have c2 : Cal (gx K) P w K mg base "common_part" 1 ["one", "other"] Rcp := ok2 T (D2 c X G)
  have c3 : Cal (gx K) P w K mg base "lightened" 2 ["column", "parts"] Rlt := ok3 T (D3 c X G) c2
  have c4 : Cal (gx K) P w K mg base "place_of" 1 ["column"] Rpl := ok4 T (D4 c X G)
  have c88 : CalK (gx K) P w K mg base "_law_draw" 1 ["_law_deck_here", "_law_bound"] drawPre drawPost := by
    obtain ⟨fd1, q, b⟩ := f88 c
    exact ⟨_, fd1, ok88 T q, He.glo_ok X G (c.fact 50 (f := .glo "_law_draw") rfl), q.kp, b⟩
  have c89 : CalK (gx K) P w K mg base "_law_pick" 2 ["_law_deck_here", "_law_some"] pickPre pickPost := ok89 T (D89 c X G) c88
  have c90 : CalK (gx K) P w K mg base "_law_form" 2 ["_law_deck_here", "_law_signs", "_law_top"] formPre formPost := ok90 T (D90 c X G) c88
  have c57 : Cal (gx K) P w K mg base "is_size" 1 ["thing"] R57 := ok57 T (D57 c X G)
  have c58 : Cal (gx K) P w K mg base "is_state" 1 ["size", "thing"] R58 := ok58 T (D58 c X G)
  have c48 : Cal (gx K) P w K mg base "is_letter" 1 ["thing"] R48 := ok48 T (D48 c X G)
  have c59 : Cal (gx K) P w K mg base "is_move" 2 ["size", "thing"] R59 := ok59 T (D59 c X G) c58 c48
  have c60 : Cal (gx K) P w K mg base "are_ascending" 1 ["items"] R60 := ok60 T (D60 c X G)
  have c61 : Cal (gx K) P w K mg base "are_moves" 3 ["size", "thing"] R61 := ok61 T (D61 c X G) c59 c60
  have c62 : Cal (gx K) P w K mg base "are_ends" 3 ["size", "thing"] R62 := ok62 T (D62 c X G) c58 c60
  have c63 : Cal (gx K) P w K mg base "are_single" 1 ["moves"] R63 := ok63 T (D63 c X G)
  have c64 : CalP (gx K) P w K mg base "letters_of" 1 ["moves"] pre64 post64 := ok64 T (D64 c X G)
  have c76 : Cal (gx K) P w K mg base "reached" 1 ["firsts", "moves"] R76 := ok76 T (D76 c X G)
  have c77 : Cal (gx K) P w K mg base "useful_states" 2 ["moves", "ends"] R77 := ok77 T (D77 c X G) c76
  have cs : ShC (gx K) P w K mg base := by
    obtain ⟨f1, q1, b1⟩ := f73i c
    exact ⟨He.ga K "Sheet", _, f1, He.mkr_ok (c.fact 85 (f := .mkr "Sheet") rfl), He.glo_ok X G (c.fact 61 (f := .glo "Sheet") rfl), ok73i T (shK c) q1 c57 c61 c62 c64, b1⟩
  have cf : FmC (gx K) P w K mg base := by
    obtain ⟨f1, q1, b1⟩ := f78i c
    exact ⟨_, f1, He.mkr_ok (c.fact 87 (f := .mkr "Format") rfl), He.glo_ok X G (c.fact 62 (f := .glo "Format") rfl), ok78i T (fmK c) q1 c57 c61 c62 c63 c64 c77 cs, b1⟩
  have c91 : Cal (gx K) P w K mg base "_law_code" 8 ["_law_w"] R91 := ok91 T (D91 c X G) cf
  have cc : ColC (gx K) P w K mg base (He.ga K "Columns") := by
    obtain ⟨f1, q1, b1⟩ := f5i c
    obtain ⟨f2, q2, b2⟩ := f5p c
    exact ⟨colK c, He.glo_ok X G (c.fact 60 (f := .glo "Columns") rfl), ⟨_, f1, He.mkr_ok (c.fact 83 (f := .mkr "Columns") rfl), ok5i (colK c) q1, b1⟩, _, f2, He.meth_ok (c.fact 88 (f := .meth "Columns" "put") rfl), ok5p T (colK c) q2 c3 c4, b2⟩
  have c6 : Cal (gx K) P w K mg base "least_of_terms" 5 ["terms", "most"] R6 := ok6 T (D6 c X G) cc KM.elim_ok
  have c20 : Cal (gx K) P w K mg base "next_term" 1 ["known", "factors"] R20 := ok20 T (D20 c X G)
  have c21 : Cal (gx K) P w K mg base "terms" 2 ["rule", "many"] R21 := ok21 T (D21 c X G) c20
  have c29 : Cal (gx K) P w K mg base "pairs" 3 ["one", "other", "many"] R29 := ok29 T (D29 c X G) c21
  have c27 : Cal (gx K) P w K mg base "added" 11 ["one", "other"] R27 := ok27 T (D27 hT nd c X G) (D23 c X G) c6 c29
  have c8 : Cal (gx K) P w K mg base "first_layer" 1 ["form"] R8 := ok8 T (D8 c X G)
  have c9 : Cal (gx K) P w K mg base "next_layer" 1 ["form", "layer"] R9 := ok9 T (D9 c X G)
  have c10 : Cal (gx K) P w K mg base "layers" 2 ["form", "many"] R10 := ok10 T (D10 c X G) c8 c9
  have c25 : Cal (gx K) P w K mg base "least_rule_from" 11 ["form", "state"] R25 := ok25 T (D25 hT nd c X G) (D23 c X G) c6 c10
  have c22 : Cal (gx K) P w K mg base "term" 3 ["rule", "index"] R22 := ok22 T (D22 c X G) c21
  have c28 : Cal (gx K) P w K mg base "lessened" 11 ["one", "other"] R28 := ok28 T (D28 hT nd c X G) (D23 c X G) c6 c29
  have c34 : Cal (gx K) P w K mg base "part" 11 ["rule", "step", "rest"] R34 := ok34 T (D34 hT nd c X G) (D23 c X G) c6 c21
  have c11 : Cal (gx K) P w K mg base "counts_by_state" 3 ["form", "length"] R11 := ok11 T (D11 c X G) c10
  have c12 : Cal (gx K) P w K mg base "count_from" 4 ["form", "state", "length"] R12 := ok12 T (D12 c X G) c11
  have c13 : Cal (gx K) P w K mg base "count" 5 ["form", "length"] R13 := ok13 T (D13 c X G) c12
  have c33 : Cal (gx K) P w K mg base "sums_of" 1 ["row"] R33 := ok33 T (D33 c X G)
  have c32 : Cal (gx K) P w K mg base "summed" 11 ["rule"] R32 := ok32 T (D32 hT nd c X G) (D23 c X G) c6 c21 c33
  have c24 : Cal (gx K) P w K mg base "least_rule" 12 ["form"] R24 := ok24 T (D24 c X G) c25
  have c14 : Cal (gx K) P w K mg base "counts" 3 ["form", "many"] R14 := ok14 T (D14 c X G) c10
  have c95 : CalK (gx K) P w K mg base "_law_states_right" 13 ["_law_deck_here", "_law_w"] srPre srPost := ok95 T (D95 c X G) c91 c88 c27 c25 c21 c22 c28 c34 c11 c13 c32 c24 c14
  have c92 : Cal (gx K) P w K mg base "_law_moved" 1 ["_law_w", "_law_by"] R92 := ok92 T (D92 c X G)
  have c93 : Cal (gx K) P w K mg base "_law_behind" 2 ["_law_near", "_law_far"] R93 := ok93 T (D93 c X G) c92
  have c94 : Cal (gx K) P w K mg base "_law_beside" 2 ["_law_near", "_law_far"] R94 := ok94 T (D94 c X G) c92
  have c31 : Cal (gx K) P w K mg base "met_terms" 1 ["row", "mate"] R31 := ok31 T (D31 c X G)
  have c30 : Cal (gx K) P w K mg base "met" 11 ["one", "other"] R30 := ok30 T (D30 hT nd c X G) (D23 c X G) c6 c21 c31
  have c17 : Cal (gx K) P w K mg base "is_integer" 1 ["thing"] R17 := ok17 T (D17 c X G)
  have c18 : Cal (gx K) P w K mg base "are_integers" 2 ["thing"] R18 := ok18 T (D18 c X G) c17
  have c19 : Cal (gx K) P w K mg base "is_rule" 3 ["thing"] R19 := ok19 T (D19 c X G) c18
  have c26 : Cal (gx K) P w K mg base "obeys" 4 ["form", "thing"] R26 := ok26 T (D26 c X G) c19 c14 c20
  have c82 : Cal (gx K) P w K mg base "first_unlike" 4 ["one", "other"] R82 := ok82 T (D82 c X G) c14
  have c83 : Cal (gx K) P w K mg base "have_same_rows" 5 ["one", "other"] R83 := ok83 T (D83 c X G) c82
  have c84 : Cal (gx K) P w K mg base "judge_rows" 13 ["one", "other"] R84 := ok84 T (D84 c X G) c82 c24
  have c85 : Cal (gx K) P w K mg base "rows_hold" 5 ["one", "other", "thing"] R85 := ok85 T (D85 c X G) c26
  have c38 : Cal (gx K) P w K mg base "figures_of" 1 ["number"] R38 := ok38 T (D38 c X G)
  have c36 : Cal (gx K) P w K mg base "times_left" 1 ["one", "other", "factors", "under"] R36 := ok36 T (D36 c X G)
  have c37 : Cal (gx K) P w K mg base "stepped" 1 ["rest", "factors", "under"] R37 := ok37 T (D37 c X G)
  have c39 : Cal (gx K) P w K mg base "term_left" 2 ["rule", "index", "under"] R39 := ok39 T (D39 c X G) c38 c36 c37
  have c40 : Cal (gx K) P w K mg base "count_left" 13 ["form", "length", "under"] R40 := ok40 T (D40 c X G) c24 c39
  have c96 : CalK (gx K) P w K mg base "_law_both_right" 14 ["_law_deck_here", "_law_near", "_law_far"] brPre brPost := ok96 T (D96 c X G) c91 c88 c93 c94 c24 c30 c26 c27 c21 c14 c12 c13 c83 c84 c85 c40 c39
  obtain ⟨f7, q7, b7⟩ := f87 c
  exact ok97 T F (ok87 T q7) (He.glo_ok X G (c.fact 49 (f := .glo "_law_deck") rfl)) q7.kp b7 c89 c90 c95 c96
end
end K19
open PySem PySem.W PySem.Calls PyProof.Rows
theorem PySem.Challenge.cw_serialhouse_k19_whole_rows_of_formats_pu_holds : PySem.Challenge.rw_serialhouse_k19_whole_rows_of_formats_pu.Holds := by
  w_on; o_law
  refine HandSHeadRun.head_any (r := K19.hR) (q := K19.hV) (H := K19.hk) (ob := K19.hob) (M := 6000) (loose := K19.nmL) (d := HandSHeadRun.topDef K19.hR.prog 97) (kwd := []) K19.hob_eq
    (by kernel_rfl) (fun s => by kernel_rfl) K19.hrun (by kernel_rfl) (by kernel_rfl) (by kernel_rfl) (by rfl) (by first | assumption | decide +kernel) (by decide +kernel) ⟨rfl, rfl, rfl, rfl, rfl, by decide +kernel⟩ ?hw ?hc
  case hw => w_witness2
  case hc =>
    refine LamX.walk_ofTsE (l := PySem.Challenge.rw_serialhouse_k19_whole_rows_of_formats_pu) (n := 63) (k := 15) (x := "_law_script") (CX := fun _ => L2.CX0) rfl (by decide) (by kernel_rfl) ⟨rfl, by decide, by decide⟩ ?F (fun _ _ _ _ _ z => z)
    intro w mg fa h Y G hmg0
    obtain ⟨K, KX, c⟩ := Y
    have hmg : mg ("law" : PySem.Str) = some (.ref fa) := by
      have e : (HandSHeadRun.topDef K19.hR.prog 97).name = ("law" : PySem.Str) := by kernel_rfl
      rw [← e]
      exact hmg0
    have e := hmg.symm.trans (He.glo_ok KX G (c.d.fact 59 (f := .glo "law") rfl))
    cases e
    obtain ⟨fd, F⟩ := c.d.def_ 59 (d := K19.d97) rfl
    have b := L2.FunD.bindsA (ps := ["_law_script"]) F fun _ _ _ _ _ _ us hl => match us, hl with | [_], _ => rfl
    refine ⟨K, KX, fd, K19.tfL.map (He.cT K), K19.spLaw (K19.gx K) K, fun p hp => ?_, fun p hp => ?_, fun p hp => ?_, fun s u => b s [u] rfl, fun H a ns hl _ hH hS => K19.law_start hl hH hS, fun base X2 G2 hT => K19.law_ok (K19.fun_of F) c.more c.d X2 G2 hT⟩
    · obtain ⟨q, hq, e⟩ := List.mem_map.mp hp
      rw [← e]
      exact c.empty q hq
    · obtain ⟨q, hq, e⟩ := List.mem_map.mp hp
      rw [← e]
      exact c.out q hq
    · obtain ⟨q, hq, e⟩ := List.mem_map.mp hp
      rw [← e]
      exact PySem.W.codeHd_of_K KX (c.hd q hq)
