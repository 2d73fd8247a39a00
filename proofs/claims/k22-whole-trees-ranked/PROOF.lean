import PyProof.Rows.All
import Wide.All
import OpenK.AllK
import Wide.FinOn
import KE.KStateDown
import Lean
import HandS.Base
import HandS.Call
import HandS.Ends
import HandS.More
import HandS.Words
import HandS.WordsExc
import HandS.Defaults
import HandS.Head0
import HandS.Head1
import HandS.Head2
import HandS.Head3
import HandS.HeadEnd
import HandS.HeadHook1
import HandS.HeadHook2
import PySem.Challenge.RW_knownends_k22_whole_trees_ranked
import HandS.ForMost
import HandS.IsInst
import HandS.CallLocal
import HandS.Codes
import HandS.SortInts
import HandS.Zip
import HandS.Walk
import HandS.TupAny
import HandS.Style
import HandS.Gcd
import HandS.Wide
import HandS.Steps
import HandS.Evl
set_option Elab.async false
set_option linter.all false
set_option maxRecDepth 100000
set_option maxHeartbeats 0
namespace K22
open PySem PySem.Spec PyProof.Rows L2
/-! ### the text's places -/
def top (i : Nat) : Stmt := PySem.Challenge.pw_knownends_k22_whole_trees_ranked.main.body.getD i (.Pass ⟨0, 0, 0, 0⟩)
abbrev s_is_integer : Stmt := top 9
abbrev s_is_between : Stmt := top 10
abbrev s_is_count : Stmt := top 11
abbrev s_is_tuple_of : Stmt := top 12
abbrev s_check_number : Stmt := top 13
abbrev s_is_fraction : Stmt := top 15
abbrev s_is_less : Stmt := top 16
abbrev s_laid_together : Stmt := top 17
abbrev s_ascending : Stmt := top 18
abbrev s_is_pour : Stmt := top 23
abbrev s_is_leaf : Stmt := top 24
abbrev s_are_steps : Stmt := top 25
abbrev s_check_room : Stmt := top 28
abbrev s_is_mark : Stmt := top 33
abbrev s_are_marks : Stmt := top 34
abbrev s_is_ranks : Stmt := top 35
abbrev s_check_ranks : Stmt := top 36
abbrev s_is_place : Stmt := top 37
abbrev s_check_place : Stmt := top 38
abbrev s_marks_around : Stmt := top 39
abbrev s_ends_among : Stmt := top 40
abbrev s_ends_at : Stmt := top 41
abbrev s_gaps : Stmt := top 42
abbrev s_openness : Stmt := top 43
abbrev s_marks_within : Stmt := top 44
abbrev s_raw_thinned : Stmt := top 45
abbrev s_exact_marks : Stmt := top 46
abbrev s_is_number_stream : Stmt := top 47
abbrev s_raw_ranks_of : Stmt := top 48
abbrev s_added_marks : Stmt := top 49
abbrev s_raw_poured_ranks : Stmt := top 50
abbrev s_is_number_tree : Stmt := top 51
abbrev s_check_number_tree : Stmt := top 52
abbrev s_ranks_tree : Stmt := top 53
abbrev s_item_ends : Stmt := top 54
abbrev s_rank_at : Stmt := top 55
abbrev s_law_hat : Stmt := top 57
abbrev s_law_draw : Stmt := top 58
abbrev s_law_same : Stmt := top 59
abbrev s_law_any : Stmt := top 60
abbrev s_law_gcd : Stmt := top 61
abbrev s_law_value : Stmt := top 62
abbrev s_law_number : Stmt := top 63
abbrev s_law_ends : Stmt := top 64
abbrev s_law_exact : Stmt := top 65
abbrev s_law_steps : Stmt := top 66
abbrev s_law_thinned : Stmt := top 67
abbrev s_law_added : Stmt := top 68
abbrev s_law_as_told : Stmt := top 69
abbrev s_law_tree : Stmt := top 70
abbrev s_law_handed : Stmt := top 71
abbrev s_law_led : Stmt := top 72
abbrev s_law_bound : Stmt := top 73
abbrev s_law_place_right : Stmt := top 74
abbrev s_law_held : Stmt := top 75
abbrev s_law_one : Stmt := top 76
abbrev s_law : Stmt := top 77
def d_is_integer : He.DefD := ⟨("is_integer", none), "is_integer", "is_integer", defArgs s_is_integer, defBody s_is_integer, defScope s_is_integer, [], []⟩
def d_is_between : He.DefD := ⟨("is_between", none), "is_between", "is_between", defArgs s_is_between, defBody s_is_between, defScope s_is_between, [], []⟩
def d_is_count : He.DefD := ⟨("is_count", none), "is_count", "is_count", defArgs s_is_count, defBody s_is_count, defScope s_is_count, [], []⟩
def d_is_tuple_of : He.DefD := ⟨("is_tuple_of", none), "is_tuple_of", "is_tuple_of", defArgs s_is_tuple_of, defBody s_is_tuple_of, defScope s_is_tuple_of, [], []⟩
def d_check_number : He.DefD := ⟨("check_number", none), "check_number", "check_number", defArgs s_check_number, defBody s_check_number, defScope s_check_number, [], []⟩
def d_is_fraction : He.DefD := ⟨("is_fraction", none), "is_fraction", "is_fraction", defArgs s_is_fraction, defBody s_is_fraction, defScope s_is_fraction, [], []⟩
def d_is_less : He.DefD := ⟨("is_less", none), "is_less", "is_less", defArgs s_is_less, defBody s_is_less, defScope s_is_less, [], []⟩
def d_laid_together : He.DefD := ⟨("laid_together", none), "laid_together", "laid_together", defArgs s_laid_together, defBody s_laid_together, defScope s_laid_together, [], []⟩
def d_ascending : He.DefD := ⟨("ascending", none), "ascending", "ascending", defArgs s_ascending, defBody s_ascending, defScope s_ascending, [], []⟩
def d_is_pour : He.DefD := ⟨("is_pour", none), "is_pour", "is_pour", defArgs s_is_pour, defBody s_is_pour, defScope s_is_pour, [], []⟩
def d_is_leaf : He.DefD := ⟨("is_leaf", none), "is_leaf", "is_leaf", defArgs s_is_leaf, defBody s_is_leaf, defScope s_is_leaf, [], []⟩
def d_are_steps : He.DefD := ⟨("are_steps", none), "are_steps", "are_steps", defArgs s_are_steps, defBody s_are_steps, defScope s_are_steps, [], []⟩
def d_check_room : He.DefD := ⟨("check_room", none), "check_room", "check_room", defArgs s_check_room, defBody s_check_room, defScope s_check_room, [], []⟩
def d_is_mark : He.DefD := ⟨("is_mark", none), "is_mark", "is_mark", defArgs s_is_mark, defBody s_is_mark, defScope s_is_mark, [], []⟩
def d_are_marks : He.DefD := ⟨("are_marks", none), "are_marks", "are_marks", defArgs s_are_marks, defBody s_are_marks, defScope s_are_marks, [], []⟩
def d_is_ranks : He.DefD := ⟨("is_ranks", none), "is_ranks", "is_ranks", defArgs s_is_ranks, defBody s_is_ranks, defScope s_is_ranks, [], []⟩
def d_check_ranks : He.DefD := ⟨("check_ranks", none), "check_ranks", "check_ranks", defArgs s_check_ranks, defBody s_check_ranks, defScope s_check_ranks, [], []⟩
def d_is_place : He.DefD := ⟨("is_place", none), "is_place", "is_place", defArgs s_is_place, defBody s_is_place, defScope s_is_place, [], []⟩
def d_check_place : He.DefD := ⟨("check_place", none), "check_place", "check_place", defArgs s_check_place, defBody s_check_place, defScope s_check_place, [], []⟩
def d_marks_around : He.DefD := ⟨("marks_around", none), "marks_around", "marks_around", defArgs s_marks_around, defBody s_marks_around, defScope s_marks_around, [], []⟩
def d_ends_among : He.DefD := ⟨("ends_among", none), "ends_among", "ends_among", defArgs s_ends_among, defBody s_ends_among, defScope s_ends_among, [], []⟩
def d_ends_at : He.DefD := ⟨("ends_at", none), "ends_at", "ends_at", defArgs s_ends_at, defBody s_ends_at, defScope s_ends_at, [], []⟩
def d_gaps : He.DefD := ⟨("gaps", none), "gaps", "gaps", defArgs s_gaps, defBody s_gaps, defScope s_gaps, [], []⟩
def d_openness : He.DefD := ⟨("openness", none), "openness", "openness", defArgs s_openness, defBody s_openness, defScope s_openness, [], []⟩
def d_marks_within : He.DefD := ⟨("marks_within", none), "marks_within", "marks_within", defArgs s_marks_within, defBody s_marks_within, defScope s_marks_within, [], []⟩
def d_raw_thinned : He.DefD := ⟨("raw_thinned", none), "raw_thinned", "raw_thinned", defArgs s_raw_thinned, defBody s_raw_thinned, defScope s_raw_thinned, [], []⟩
def d_exact_marks : He.DefD := ⟨("exact_marks", none), "exact_marks", "exact_marks", defArgs s_exact_marks, defBody s_exact_marks, defScope s_exact_marks, [], []⟩
def d_is_number_stream : He.DefD := ⟨("is_number_stream", none), "is_number_stream", "is_number_stream", defArgs s_is_number_stream, defBody s_is_number_stream, defScope s_is_number_stream, [], []⟩
def d_raw_ranks_of : He.DefD := ⟨("raw_ranks_of", none), "raw_ranks_of", "raw_ranks_of", defArgs s_raw_ranks_of, defBody s_raw_ranks_of, defScope s_raw_ranks_of, [], []⟩
def d_added_marks : He.DefD := ⟨("added_marks", none), "added_marks", "added_marks", defArgs s_added_marks, defBody s_added_marks, defScope s_added_marks, [], []⟩
def d_raw_poured_ranks : He.DefD := ⟨("raw_poured_ranks", none), "raw_poured_ranks", "raw_poured_ranks", defArgs s_raw_poured_ranks, defBody s_raw_poured_ranks, defScope s_raw_poured_ranks, [], []⟩
def d_is_number_tree : He.DefD := ⟨("is_number_tree", none), "is_number_tree", "is_number_tree", defArgs s_is_number_tree, defBody s_is_number_tree, defScope s_is_number_tree, [], []⟩
def d_check_number_tree : He.DefD := ⟨("check_number_tree", none), "check_number_tree", "check_number_tree", defArgs s_check_number_tree, defBody s_check_number_tree, defScope s_check_number_tree, [], []⟩
def d_ranks_tree : He.DefD := ⟨("ranks_tree", none), "ranks_tree", "ranks_tree", defArgs s_ranks_tree, defBody s_ranks_tree, defScope s_ranks_tree, [], []⟩
def d_item_ends : He.DefD := ⟨("item_ends", none), "item_ends", "item_ends", defArgs s_item_ends, defBody s_item_ends, defScope s_item_ends, [], []⟩
def d_rank_at : He.DefD := ⟨("rank_at", none), "rank_at", "rank_at", defArgs s_rank_at, defBody s_rank_at, defScope s_rank_at, [], []⟩
def d_law_hat : He.DefD := ⟨("_law_hat", none), "_law_hat", "_law_hat", defArgs s_law_hat, defBody s_law_hat, defScope s_law_hat, [], []⟩
def d_law_draw : He.DefD := ⟨("_law_draw", none), "_law_draw", "_law_draw", defArgs s_law_draw, defBody s_law_draw, defScope s_law_draw, [], []⟩
def d_law_same : He.DefD := ⟨("_law_same", none), "_law_same", "_law_same", defArgs s_law_same, defBody s_law_same, defScope s_law_same, [], []⟩
def d_law_any : He.DefD := ⟨("_law_any", none), "_law_any", "_law_any", defArgs s_law_any, defBody s_law_any, defScope s_law_any, [], []⟩
def d_law_gcd : He.DefD := ⟨("_law_gcd", none), "_law_gcd", "_law_gcd", defArgs s_law_gcd, defBody s_law_gcd, defScope s_law_gcd, [], []⟩
def d_law_value : He.DefD := ⟨("_law_value", none), "_law_value", "_law_value", defArgs s_law_value, defBody s_law_value, defScope s_law_value, [], []⟩
def d_law_number : He.DefD := ⟨("_law_number", none), "_law_number", "_law_number", defArgs s_law_number, defBody s_law_number, defScope s_law_number, [], []⟩
def d_law_ends : He.DefD := ⟨("_law_ends", none), "_law_ends", "_law_ends", defArgs s_law_ends, defBody s_law_ends, defScope s_law_ends, [], []⟩
def d_law_exact : He.DefD := ⟨("_law_exact", none), "_law_exact", "_law_exact", defArgs s_law_exact, defBody s_law_exact, defScope s_law_exact, [], []⟩
def d_law_steps : He.DefD := ⟨("_law_steps", none), "_law_steps", "_law_steps", defArgs s_law_steps, defBody s_law_steps, defScope s_law_steps, [], []⟩
def d_law_thinned : He.DefD := ⟨("_law_thinned", none), "_law_thinned", "_law_thinned", defArgs s_law_thinned, defBody s_law_thinned, defScope s_law_thinned, [], []⟩
def d_law_added : He.DefD := ⟨("_law_added", none), "_law_added", "_law_added", defArgs s_law_added, defBody s_law_added, defScope s_law_added, [], []⟩
def d_law_as_told : He.DefD := ⟨("_law_as_told", none), "_law_as_told", "_law_as_told", defArgs s_law_as_told, defBody s_law_as_told, defScope s_law_as_told, [], []⟩
def d_law_tree : He.DefD := ⟨("_law_tree", none), "_law_tree", "_law_tree", defArgs s_law_tree, defBody s_law_tree, defScope s_law_tree, [], []⟩
def d_law_handed : He.DefD := ⟨("_law_handed", none), "_law_handed", "_law_handed", defArgs s_law_handed, defBody s_law_handed, defScope s_law_handed, [], []⟩
def d_law_led : He.DefD := ⟨("_law_led", none), "_law_led", "_law_led", defArgs s_law_led, defBody s_law_led, defScope s_law_led, [], []⟩
def d_law_bound : He.DefD := ⟨("_law_bound", none), "_law_bound", "_law_bound", defArgs s_law_bound, defBody s_law_bound, defScope s_law_bound, [], []⟩
def d_law_place_right : He.DefD := ⟨("_law_place_right", none), "_law_place_right", "_law_place_right", defArgs s_law_place_right, defBody s_law_place_right, defScope s_law_place_right, [], []⟩
def d_law_held : He.DefD := ⟨("_law_held", none), "_law_held", "_law_held", defArgs s_law_held, defBody s_law_held, defScope s_law_held, [], []⟩
def d_law_one : He.DefD := ⟨("_law_one", none), "_law_one", "_law_one", defArgs s_law_one, defBody s_law_one, defScope s_law_one, [], []⟩
def d_law : He.DefD := ⟨("law", none), "law", "law", defArgs s_law, defBody s_law, defScope s_law, [], []⟩
def fnA : List He.DefD := [d_is_integer, d_is_between, d_is_count, d_is_tuple_of, d_check_number, d_is_fraction, d_is_less, d_laid_together, d_ascending, d_is_pour, d_is_leaf, d_are_steps, d_check_room, d_is_mark, d_are_marks, d_is_ranks, d_check_ranks, d_is_place, d_check_place, d_marks_around, d_ends_among, d_ends_at, d_gaps, d_openness, d_marks_within, d_raw_thinned, d_exact_marks, d_is_number_stream, d_raw_ranks_of, d_added_marks]
def fnB : List He.DefD := [d_raw_poured_ranks, d_is_number_tree, d_check_number_tree, d_ranks_tree, d_item_ends, d_rank_at, d_law_hat, d_law_draw, d_law_same, d_law_any, d_law_gcd, d_law_value, d_law_number, d_law_ends, d_law_exact, d_law_steps, d_law_thinned, d_law_added, d_law_as_told, d_law_tree, d_law_handed, d_law_led, d_law_bound, d_law_place_right, d_law_held, d_law_one, d_law]
def fn : List He.DefD := fnA ++ fnB
def faA : List He.Fa := [.glo "is_integer", .glo "is_between", .glo "is_count", .glo "is_tuple_of", .glo "check_number", .glo "is_fraction", .glo "is_less", .glo "laid_together", .glo "ascending", .glo "is_pour", .glo "is_leaf", .glo "are_steps", .glo "check_room", .glo "is_mark", .glo "are_marks", .glo "is_ranks", .glo "check_ranks", .glo "is_place", .glo "check_place", .glo "marks_around", .glo "ends_among", .glo "ends_at", .glo "gaps", .glo "openness", .glo "marks_within", .glo "raw_thinned", .glo "exact_marks", .glo "is_number_stream", .glo "raw_ranks_of", .glo "added_marks"]
def faB : List He.Fa := [.glo "raw_poured_ranks", .glo "is_number_tree", .glo "check_number_tree", .glo "ranks_tree", .glo "item_ends", .glo "rank_at", .glo "_law_hat", .glo "_law_draw", .glo "_law_same", .glo "_law_any", .glo "_law_gcd", .glo "_law_value", .glo "_law_number", .glo "_law_ends", .glo "_law_exact", .glo "_law_steps", .glo "_law_thinned", .glo "_law_added", .glo "_law_as_told", .glo "_law_tree", .glo "_law_handed", .glo "_law_led", .glo "_law_bound", .glo "_law_place_right", .glo "_law_held", .glo "_law_one", .glo "law"]
def faC : List He.Fa := [.int "MOST_STEPS" 5000, .int "MOST_ITEMS" 50000, .str "POUR" "pour", .int "MOST_ROOM" 64, .str "NUMBERS" "numbers", .int "BELOW" 0, .int "UP_TO" 1, .free "isinstance", .free "int", .free "bool", .free "str", .free "tuple", .free "len", .free "all", .free "range", .free "zip", .free "enumerate", .free "max", .free "list", .free "abs", .free "sorted", .free "dict"]
def fa : List He.Fa := faA ++ (faB ++ faC)
def loose : List PySem.Str := ([("KnownError" : PySem.Str), ("NoTree" : PySem.Str), ("NoRoom" : PySem.Str), ("NoNumber" : PySem.Str), ("NoRanks" : PySem.Str), ("NoPlace" : PySem.Str), ("MOST_STEPS" : PySem.Str), ("MOST_ITEMS" : PySem.Str), ("POUR" : PySem.Str), ("MOST_ROOM" : PySem.Str)] : List PySem.Str) ++ (([("NUMBERS" : PySem.Str), ("BELOW" : PySem.Str), ("UP_TO" : PySem.Str), ("is_integer" : PySem.Str), ("is_between" : PySem.Str), ("is_count" : PySem.Str), ("is_tuple_of" : PySem.Str), ("check_number" : PySem.Str), ("is_fraction" : PySem.Str), ("is_less" : PySem.Str)] : List PySem.Str) ++ (([("laid_together" : PySem.Str), ("ascending" : PySem.Str), ("is_pour" : PySem.Str), ("is_leaf" : PySem.Str), ("are_steps" : PySem.Str), ("check_room" : PySem.Str), ("is_mark" : PySem.Str), ("are_marks" : PySem.Str), ("is_ranks" : PySem.Str), ("check_ranks" : PySem.Str)] : List PySem.Str) ++ (([("is_place" : PySem.Str), ("check_place" : PySem.Str), ("marks_around" : PySem.Str), ("ends_among" : PySem.Str), ("ends_at" : PySem.Str), ("gaps" : PySem.Str), ("openness" : PySem.Str), ("marks_within" : PySem.Str), ("raw_thinned" : PySem.Str), ("exact_marks" : PySem.Str)] : List PySem.Str) ++ (([("is_number_stream" : PySem.Str), ("raw_ranks_of" : PySem.Str), ("added_marks" : PySem.Str), ("raw_poured_ranks" : PySem.Str), ("is_number_tree" : PySem.Str), ("check_number_tree" : PySem.Str), ("ranks_tree" : PySem.Str), ("item_ends" : PySem.Str), ("rank_at" : PySem.Str), ("_law_hat" : PySem.Str)] : List PySem.Str) ++ (([("_law_draw" : PySem.Str), ("_law_same" : PySem.Str), ("_law_any" : PySem.Str), ("_law_gcd" : PySem.Str), ("_law_value" : PySem.Str), ("_law_number" : PySem.Str), ("_law_ends" : PySem.Str), ("_law_exact" : PySem.Str), ("_law_steps" : PySem.Str), ("_law_thinned" : PySem.Str)] : List PySem.Str) ++ (([("_law_added" : PySem.Str), ("_law_as_told" : PySem.Str), ("_law_tree" : PySem.Str), ("_law_handed" : PySem.Str), ("_law_led" : PySem.Str), ("_law_bound" : PySem.Str), ("_law_place_right" : PySem.Str), ("_law_held" : PySem.Str), ("_law_one" : PySem.Str)] : List PySem.Str)))))))

/-! ### the hook: the facts, and that gcd is math's -/
def gcdB (K : PySem.W.Frag) : Bool := He.eqO (PySem.W.nsIn K mainGlobals "gcd") (some (some (.builtin "math.gcd")))
def obG (n : Nat) (fa : List He.Fa) (fn : List He.DefD) (g : Addr → Option Obj) : He.AlD × Bool := (He.obsDG n fa fn g, gcdB (He.frG g (He.asD g n)))
def hookG (n : Nat) (fa : List He.Fa) (fn : List He.DefD) : PySem.W.Hook where
  α := He.AlD × Bool
  obs := fun s => obG n fa fn s.heap.get?
  val := fun _ => (He.valD fn, true)
  says := fun _ h => ∃ K : PySem.W.Frag, K.In h ∧ He.SaysD fa fn K ∧ gcdB K = true
  of := fun _ _ e => ⟨_, He.frG_in, congrArg (fun z : He.AlD × Bool => z.1) e, congrArg (fun z : He.AlD × Bool => z.2) e⟩
  keeps := fun _ _ _ said kept => said.elim fun K y => ⟨K, PySem.W.Frag.In.keeps y.1 kept, y.2⟩
theorem obG_eq {n : Nat} {fa : List He.Fa} {fn : List He.DefD} {g : Addr → Option Obj} {s : Shared} (h : ∀ a, g a = s.heap.get? a) : obG n fa fn g = (hookG n fa fn).obs s := by
  obtain rfl := funext h
  rfl
abbrev R : PySem.W.OpenRow := PySem.W.OpenLaw.row PySem.Challenge.rw_knownends_k22_whole_trees_ranked
abbrev hk : PySem.W.Hook := hookG 4 fa fn
def ob (s : PySem.W.SharedT) : He.AlD × Bool := obG 4 fa fn (HandSHeadRun.getT s)
theorem ob_eq (s : PySem.W.SharedT) : ob s = hk.obs s.abs := obG_eq (HandSHeadRun.getT_eq s)
theorem run (w : World) : HandSHeadRun.RunEqI R (PySem.W.view R.prog [0, 77]) hk ob 4000 loose w := by
  unfold HandSHeadRun.RunEqI
  kernel_rfl
end K22
namespace K22
/-! ### sorted lists of ints -/
theorem perm_sorted_eq : ∀ {l1 l2 : List Int}, l1.Perm l2 → l1.Pairwise (· ≤ ·) → l2.Pairwise (· ≤ ·) → l1 = l2
  | [], l2, p, _, _ => (List.nil_perm.mp p).symm
  | x :: r, l2, p, h1, h2 => by
    cases l2 with
    | nil => exact absurd (List.perm_nil.mp p) (List.cons_ne_nil _ _)
    | cons y s =>
      have hx : x ∈ y :: s := p.mem_iff.mp List.mem_cons_self
      have hy : y ∈ x :: r := p.mem_iff.mpr List.mem_cons_self
      have a1 := (List.pairwise_cons.mp h1).1
      have a2 := (List.pairwise_cons.mp h2).1
      have e : x = y := by
        rcases List.mem_cons.mp hx with e | m
        · exact e
        · rcases List.mem_cons.mp hy with e | m'
          · exact e.symm
          · have b1 := a1 y m'
            have b2 := a2 x m
            omega
      subst e
      rw [perm_sorted_eq (List.perm_cons x |>.mp p) (List.pairwise_cons.mp h1).2 (List.pairwise_cons.mp h2).2]
theorem strict_ext : ∀ {l1 l2 : List Int}, l1.Pairwise (· < ·) → l2.Pairwise (· < ·) → (∀ x, x ∈ l1 ↔ x ∈ l2) → l1 = l2
  | [], [], _, _, _ => rfl
  | [], y :: s, _, _, h => absurd ((h y).mpr List.mem_cons_self) (by simp)
  | x :: r, [], _, _, h => absurd ((h x).mp List.mem_cons_self) (by simp)
  | x :: r, y :: s, h1, h2, h => by
    have a1 := (List.pairwise_cons.mp h1).1
    have a2 := (List.pairwise_cons.mp h2).1
    have e : x = y := by
      rcases List.mem_cons.mp ((h x).mp List.mem_cons_self) with e | m
      · exact e
      · rcases List.mem_cons.mp ((h y).mpr List.mem_cons_self) with e | m'
        · exact e.symm
        · have b1 := a1 y m'
          have b2 := a2 x m
          omega
    subst e
    refine congrArg (x :: ·) (strict_ext (List.pairwise_cons.mp h1).2 (List.pairwise_cons.mp h2).2 fun z => ⟨fun m => ?_, fun m => ?_⟩)
    · have b := a1 z m
      rcases List.mem_cons.mp ((h z).mp (List.mem_cons_of_mem _ m)) with e | m'
      · omega
      · exact m'
    · have b := a2 z m
      rcases List.mem_cons.mp ((h z).mpr (List.mem_cons_of_mem _ m)) with e | m'
      · omega
      · exact m'
theorem strict_of : ∀ {l : List Int}, l.Pairwise (· ≤ ·) → l.Nodup → l.Pairwise (· < ·)
  | [], _, _ => .nil
  | x :: r, h, n => by
    obtain ⟨a, b⟩ := List.pairwise_cons.mp h
    obtain ⟨c, d⟩ := List.nodup_cons.mp n
    refine List.pairwise_cons.mpr ⟨fun y m => ?_, strict_of b d⟩
    have e1 := a y m
    have e2 : x ≠ y := fun e => c (e ▸ m)
    omega
/-- the sorted list -/
def srt (l : List Int) : List Int := l.mergeSort fun a b => decide (a ≤ b)
theorem srt_perm (l : List Int) : (srt l).Perm l := List.mergeSort_perm l _
theorem srt_sorted (l : List Int) : (srt l).Pairwise (· ≤ ·) := by
  have h := List.pairwise_mergeSort (le := fun a b : Int => decide (a ≤ b)) (fun a b c h1 h2 => by
    have a1 := of_decide_eq_true h1
    have a2 := of_decide_eq_true h2
    exact decide_eq_true (by omega)) (fun a b => by
    rcases Int.le_total a b with h | h
    · rw [decide_eq_true h] <;> rfl
    · rw [decide_eq_true h, Bool.or_true]) l
  exact h.imp fun {a b} h => of_decide_eq_true h
theorem srt_eq {l m : List Int} (p : m.Perm l) (h : m.Pairwise (· ≤ ·)) : m = srt l := perm_sorted_eq (p.trans (srt_perm l).symm) h (srt_sorted l)
theorem srt_length (l : List Int) : (srt l).length = l.length := (srt_perm l).length_eq
theorem mem_srt {l : List Int} {x : Int} : x ∈ srt l ↔ x ∈ l := (srt_perm l).mem_iff

/-! ### counts -/
def cLt (l : List Int) (k : Int) : Int := ((l.filter fun x => decide (x < k)).length : Nat)
def cLe (l : List Int) (k : Int) : Int := ((l.filter fun x => decide (x ≤ k)).length : Nat)
theorem cLt_perm {l m : List Int} (p : l.Perm m) (k : Int) : cLt l k = cLt m k := by
  unfold cLt
  rw [(p.filter _).length_eq]
theorem cLe_perm {l m : List Int} (p : l.Perm m) (k : Int) : cLe l k = cLe m k := by
  unfold cLe
  rw [(p.filter _).length_eq]
theorem cLt_nil (k : Int) : cLt [] k = 0 := rfl
theorem cLe_nil (k : Int) : cLe [] k = 0 := rfl
theorem cLt_cons (x : Int) (l : List Int) (k : Int) : cLt (x :: l) k = (if x < k then 1 else 0) + cLt l k := by
  unfold cLt
  rw [List.filter_cons]
  by_cases h : x < k
  · rw [if_pos h, if_pos (decide_eq_true h), List.length_cons]
    omega
  · rw [if_neg h, if_neg (by simpa using h)]
    omega
theorem cLe_cons (x : Int) (l : List Int) (k : Int) : cLe (x :: l) k = (if x ≤ k then 1 else 0) + cLe l k := by
  unfold cLe
  rw [List.filter_cons]
  by_cases h : x ≤ k
  · rw [if_pos h, if_pos (decide_eq_true h), List.length_cons]
    omega
  · rw [if_neg h, if_neg (by simpa using h)]
    omega
theorem cLt_app (l m : List Int) (k : Int) : cLt (l ++ m) k = cLt l k + cLt m k := by
  unfold cLt
  rw [List.filter_append, List.length_append]
  omega
theorem cLe_app (l m : List Int) (k : Int) : cLe (l ++ m) k = cLe l k + cLe m k := by
  unfold cLe
  rw [List.filter_append, List.length_append]
  omega
theorem cLt_nn (l : List Int) (k : Int) : 0 ≤ cLt l k := Int.natCast_nonneg _
theorem cLe_nn (l : List Int) (k : Int) : 0 ≤ cLe l k := Int.natCast_nonneg _
theorem cLe_len (l : List Int) (k : Int) : cLe l k ≤ (l.length : Int) := by
  have h := List.length_filter_le (fun x => decide (x ≤ k)) l
  unfold cLe
  omega
theorem cLt_le_cLe (l : List Int) {k j : Int} (h : k ≤ j) : cLt l k ≤ cLe l j := by
  induction l with
  | nil => exact Int.le_refl _
  | cons x r ih =>
    rw [cLt_cons, cLe_cons]
    split <;> split <;> omega
theorem cLe_le_cLt (l : List Int) {k j : Int} (h : k < j) : cLe l k ≤ cLt l j := by
  induction l with
  | nil => exact Int.le_refl _
  | cons x r ih =>
    rw [cLt_cons, cLe_cons]
    split <;> split <;> omega
theorem cLt_lt_cLe {l : List Int} {k : Int} (h : k ∈ l) : cLt l k < cLe l k := by
  induction l with
  | nil => cases h
  | cons x r ih =>
    rw [cLt_cons, cLe_cons]
    rcases List.mem_cons.mp h with e | m
    · subst e
      have := cLt_le_cLe r (Int.le_refl k)
      rw [if_neg (by omega), if_pos (by omega)]
      omega
    · have := ih m
      split <;> split <;> omega
/-- nothing lies between -/
theorem cLe_eq_cLt {l : List Int} {k j : Int} (h : k < j) (hn : ∀ x ∈ l, ¬ (k < x ∧ x < j)) : cLe l k = cLt l j := by
  induction l with
  | nil => rfl
  | cons x r ih =>
    have h1 := hn x List.mem_cons_self
    rw [cLt_cons, cLe_cons, ih fun y m => hn y (List.mem_cons_of_mem _ m)]
    split <;> split <;> omega
theorem cLt_zero {l : List Int} {k : Int} (h : ∀ x ∈ l, k ≤ x) : cLt l k = 0 := by
  induction l with
  | nil => rfl
  | cons x r ih =>
    have h1 := h x List.mem_cons_self
    rw [cLt_cons, ih fun y m => h y (List.mem_cons_of_mem _ m), if_neg (by omega)]
    rfl
theorem cLe_all {l : List Int} {k : Int} (h : ∀ x ∈ l, x ≤ k) : cLe l k = (l.length : Int) := by
  induction l with
  | nil => rfl
  | cons x r ih =>
    have h1 := h x List.mem_cons_self
    rw [cLe_cons, ih fun y m => h y (List.mem_cons_of_mem _ m), if_pos h1, List.length_cons]
    omega
/-- the item of an index -/
theorem srt_ge {l : List Int} {i : Nat} {x k : Int} (hs : l.Pairwise (· ≤ ·)) (hx : l[i]? = some x) (h : cLt l k ≤ (i : Int)) : k ≤ x := by
  induction l generalizing i with
  | nil => simp at hx
  | cons y r ih =>
    obtain ⟨a, b⟩ := List.pairwise_cons.mp hs
    rw [cLt_cons] at h
    cases i with
    | zero =>
      have e : y = x := Option.some.inj hx
      subst e
      have := cLt_nn r k
      by_cases hh : y < k
      · rw [if_pos hh] at h
        omega
      · omega
    | succ i =>
      have hx' : r[i]? = some x := by simpa using hx
      by_cases hh : y < k
      · rw [if_pos hh] at h
        exact ih b hx' (by omega)
      · have m := a x (List.mem_of_getElem? hx')
        omega
theorem srt_le {l : List Int} {i : Nat} {x k : Int} (hs : l.Pairwise (· ≤ ·)) (hx : l[i]? = some x) (h : (i : Int) < cLe l k) : x ≤ k := by
  induction l generalizing i with
  | nil => simp at hx
  | cons y r ih =>
    obtain ⟨a, b⟩ := List.pairwise_cons.mp hs
    rw [cLe_cons] at h
    cases i with
    | zero =>
      have e : y = x := Option.some.inj hx
      subst e
      by_cases hh : y ≤ k
      · exact hh
      · rw [if_neg hh] at h
        have z : cLe r k = 0 := by
          have hz : ∀ z ∈ r, y ≤ z := a
          clear ih hs h hx b a
          induction r with
          | nil => rfl
          | cons w s ih =>
            have h1 := hz w List.mem_cons_self
            rw [cLe_cons, ih fun z m => hz z (List.mem_cons_of_mem _ m), if_neg (by omega)]
            rfl
        omega
    | succ i =>
      have hx' : r[i]? = some x := by simpa using hx
      by_cases hh : y ≤ k
      · rw [if_pos hh] at h
        exact ih b hx' (by omega)
      · rw [if_neg hh] at h
        have z : cLe r k = 0 := by
          have hz : ∀ z ∈ r, y ≤ z := a
          clear ih hs h hx b a hx'
          induction r with
          | nil => rfl
          | cons w s ih =>
            have h1 := hz w List.mem_cons_self
            rw [cLe_cons, ih fun z m => hz z (List.mem_cons_of_mem _ m), if_neg (by omega)]
            rfl
        omega
end K22
namespace K22
/-! ### marks -/
structure Mk where
  k : Int
  a : Int
  b : Int
  c : Int
  d : Int
/-- one behind another: keys rise, ends do not cross -/
def Mk.lt (m n : Mk) : Prop := m.k < n.k ∧ m.c ≤ n.a ∧ m.d ≤ n.b
/-- a mark of so many -/
structure Mk.ok (many : Int) (m : Mk) : Prop where
  a0 : 0 ≤ m.a
  ac : m.a < m.c
  ab : m.a ≤ m.b
  bd : m.b < m.d
  cd : m.c ≤ m.d
  dm : m.d ≤ many
/-- a mark holds the truth of the items -/
structure Mk.tr (ks : List Int) (m : Mk) : Prop where
  a : m.a ≤ cLt ks m.k
  b : cLt ks m.k ≤ m.b
  c : m.c ≤ cLe ks m.k
  d : cLe ks m.k ≤ m.d
/-- marks of a sketch -/
structure Good (ks : List Int) (ms : List Mk) : Prop where
  lt : ms.Pairwise Mk.lt
  ok : ∀ m ∈ ms, m.ok (ks.length : Int)
  tr : ∀ m ∈ ms, m.tr ks
  mem : ∀ m ∈ ms, m.k ∈ ks
theorem Good.sub {ks : List Int} {ms ns : List Mk} (g : Good ks ms) (s : ns.Sublist ms) : Good ks ns :=
  ⟨g.lt.sublist s, fun m h => g.ok m (s.subset h), fun m h => g.tr m (s.subset h), fun m h => g.mem m (s.subset h)⟩

/-! ### the gaps -/
def gapsFrom (last many : Int) : List Mk → List Int
  | [] => [many - last]
  | m :: r => (m.b - last) :: gapsFrom m.c many r
def GapOk (many B : Int) : Int → List Mk → Prop
  | last, [] => many - last ≤ B
  | last, m :: r => m.b - last ≤ B ∧ GapOk many B m.c r
theorem GapOk.all {many B : Int} : ∀ {ms : List Mk} {last : Int}, GapOk many B last ms → ∀ g ∈ gapsFrom last many ms, g ≤ B
  | [], last, h, g, m => by
    have e : g = many - last := by simpa [gapsFrom] using m
    rw [e]
    exact h
  | x :: r, last, h, g, m => by
    rcases List.mem_cons.mp (show g ∈ (x.b - last) :: gapsFrom x.c many r from m) with e | m
    · rw [e]
      exact h.1
    · exact GapOk.all h.2 g m
theorem GapOk.mono {many B B' : Int} (hB : B ≤ B') : ∀ {ms : List Mk} {last : Int}, GapOk many B last ms → GapOk many B' last ms
  | [], last, h => by
    have h1 : many - last ≤ B := h
    show many - last ≤ B'
    omega
  | x :: r, last, h => by
    have h1 : x.b - last ≤ B := h.1
    exact ⟨by omega, GapOk.mono hB h.2⟩

/-! ### the farthest steps: held is the mark that would be kept -/
def steps (many most : Int) : Int → Option Mk → List Mk → Option (List Mk)
  | last, held, [] => if many - last ≤ most then some [] else match held with
    | none => none
    | some h => if many - h.c ≤ most then some [h] else none
  | last, held, m :: r => if many - last ≤ most then some [] else match held with
    | none => if m.b - last ≤ most then steps many most last (some m) r else none
    | some h => if m.b - last ≤ most then steps many most last (some m) r else
        if many - h.c ≤ most then some [h] else if m.b - h.c ≤ most then (steps many most h.c (some m) r).map (h :: ·) else none
theorem steps_sub {many most : Int} : ∀ {ms : List Mk} {last : Int} {held : Option Mk} {l : List Mk}, steps many most last held ms = some l → l.Sublist (held.toList ++ ms)
  | [], last, held, l, h => by
    unfold steps at h
    split at h
    · cases h
      exact List.nil_sublist _
    · cases held with
      | none => cases h
      | some x =>
        simp only at h
        split at h
        · cases h
          simp
        · cases h
  | m :: r, last, held, l, h => by
    unfold steps at h
    split at h
    · cases h
      exact List.nil_sublist _
    · cases held with
      | none =>
        simp only at h
        split at h
        · have := steps_sub h
          simpa using this
        · cases h
      | some x =>
        simp only at h
        split at h
        · have q := steps_sub h
          exact q.trans (by simp)
        · split at h
          · cases h
            simp
          · split at h
            · cases e : steps many most x.c (some m) r with
              | none =>
                rw [e] at h
                cases h
              | some t =>
                rw [e] at h
                cases h
                have q := steps_sub e
                simpa using q
            · cases h
/-- each gap that is left is at most so much -/
theorem steps_gap {many most : Int} : ∀ {ms : List Mk} {last : Int} {held : Option Mk} {l : List Mk}, (∀ x, held = some x → x.b - last ≤ most) → steps many most last held ms = some l → GapOk many most last l
  | [], last, held, l, hh, h => by
    unfold steps at h
    split at h
    · cases h
      assumption
    · cases held with
      | none => cases h
      | some x =>
        simp only at h
        split at h
        · cases h
          exact ⟨hh x rfl, by assumption⟩
        · cases h
  | m :: r, last, held, l, hh, h => by
    unfold steps at h
    split at h
    · cases h
      assumption
    · cases held with
      | none =>
        simp only at h
        split at h
        · exact steps_gap (fun x e => by cases e; assumption) h
        · cases h
      | some x =>
        simp only at h
        split at h
        · exact steps_gap (fun y e => by cases e; assumption) h
        · split at h
          · cases h
            exact ⟨hh x rfl, by assumption⟩
          · split at h
            · cases e : steps many most x.c (some m) r with
              | none =>
                rw [e] at h
                cases h
              | some t =>
                rw [e] at h
                cases h
                exact ⟨hh x rfl, steps_gap (fun y e => by cases e; assumption) e⟩
            · cases h
/-- with a room of q for each step few are kept -/
theorem steps_few {many most O q : Int} (hO : 0 ≤ O) (hq : 1 ≤ q) (hm : O + q - 1 ≤ most) : ∀ {ms : List Mk} {last : Int} {held : Option Mk}, (match held with | none => GapOk many O last ms | some h => GapOk many O h.c ms) →
    ∃ l, steps many most last held ms = some l ∧ (l = [] ∨ (l.length : Int) * q ≤ many - last)
  | [], last, none, g => by
    have g1 : many - last ≤ O := g
    refine ⟨[], ?_, .inl rfl⟩
    unfold steps
    rw [if_pos (by omega)]
  | [], last, some h, g => by
    have g1 : many - h.c ≤ O := g
    unfold steps
    by_cases c : many - last ≤ most
    · exact ⟨[], by rw [if_pos c], .inl rfl⟩
    · refine ⟨[h], by rw [if_neg c]; simp only; rw [if_pos (by omega)], .inr ?_⟩
      show ((1 : Nat) : Int) * q ≤ many - last
      omega
  | m :: r, last, none, g => by
    have g1 : m.b - last ≤ O := g.1
    unfold steps
    by_cases c : many - last ≤ most
    · exact ⟨[], by rw [if_pos c], .inl rfl⟩
    · obtain ⟨l, e, p⟩ := steps_few hO hq hm (ms := r) (last := last) (held := some m) g.2
      exact ⟨l, by rw [if_neg c]; simp only; rw [if_pos (by omega)]; exact e, p⟩
  | m :: r, last, some h, g => by
    have g1 : m.b - h.c ≤ O := g.1
    unfold steps
    by_cases c : many - last ≤ most
    · exact ⟨[], by rw [if_pos c], .inl rfl⟩
    · by_cases c2 : m.b - last ≤ most
      · obtain ⟨l, e, p⟩ := steps_few hO hq hm (ms := r) (last := last) (held := some m) g.2
        exact ⟨l, by rw [if_neg c]; simp only; rw [if_pos c2]; exact e, p⟩
      · by_cases c3 : many - h.c ≤ most
        · refine ⟨[h], by rw [if_neg c]; simp only; rw [if_neg c2, if_pos c3], .inr ?_⟩
          show ((1 : Nat) : Int) * q ≤ many - last
          omega
        · obtain ⟨l, e, p⟩ := steps_few hO hq hm (ms := r) (last := h.c) (held := some m) g.2
          refine ⟨h :: l, by rw [if_neg c]; simp only; rw [if_neg c2, if_neg c3, if_pos (by omega), e]; rfl, .inr ?_⟩
          rcases p with p | p
          · subst p
            show ((1 : Nat) : Int) * q ≤ many - last
            omega
          · rw [List.length_cons]
            have e2 : ((l.length + 1 : Nat) : Int) * q = (l.length : Int) * q + q := by
              rw [Int.natCast_add, Int.add_mul]
              omega
            rw [e2]
            omega

/-! ### the search -/
def bs (fit : Int → Bool) (lo hi : Int) : Int :=
  if h : hi - lo > 1 then (if fit ((lo + hi) / 2) then bs fit lo ((lo + hi) / 2) else bs fit ((lo + hi) / 2) hi) else hi
termination_by (hi - lo).toNat
decreasing_by
  · omega
  · omega
theorem bs_done {fit : Int → Bool} {lo hi : Int} (h : ¬ hi - lo > 1) : bs fit lo hi = hi := by
  rw [bs, dif_neg h]
theorem bs_go {fit : Int → Bool} {lo hi : Int} (h : hi - lo > 1) : bs fit lo hi = if fit ((lo + hi) / 2) then bs fit lo ((lo + hi) / 2) else bs fit ((lo + hi) / 2) hi := by
  rw [bs, dif_pos h]
theorem bs_fit {fit : Int → Bool} : ∀ (n : Nat) {lo hi : Int}, (hi - lo).toNat ≤ n → fit hi = true → fit (bs fit lo hi) = true
  | 0, lo, hi, hn, h => by
    rw [bs_done (by omega)]
    exact h
  | n + 1, lo, hi, hn, h => by
    by_cases c : hi - lo > 1
    · rw [bs_go c]
      cases e : fit ((lo + hi) / 2) with
      | true =>
        rw [if_pos rfl]
        exact bs_fit n (by omega) e
      | false =>
        rw [if_neg Bool.false_ne_true]
        exact bs_fit n (by omega) h
    · rw [bs_done c]
      exact h
theorem bs_le {fit : Int → Bool} {g : Int} (hg : ∀ z, g ≤ z → fit z = true) : ∀ (n : Nat) {lo hi : Int}, (hi - lo).toNat ≤ n → lo < g → bs fit lo hi ≤ max g (lo + 1) ∨ bs fit lo hi ≤ g
  | 0, lo, hi, hn, h => by
    rw [bs_done (by omega)]
    left
    omega
  | n + 1, lo, hi, hn, h => by
    by_cases c : hi - lo > 1
    · rw [bs_go c]
      cases e : fit ((lo + hi) / 2) with
      | true =>
        rw [if_pos rfl]
        rcases bs_le hg n (lo := lo) (hi := (lo + hi) / 2) (by omega) h with p | p <;> omega
      | false =>
        rw [if_neg Bool.false_ne_true]
        have h2 : (lo + hi) / 2 < g := by
          rcases Int.lt_or_le ((lo + hi) / 2) g with q | q
          · exact q
          · rw [hg _ q] at e
            cases e
        rcases bs_le hg n (lo := (lo + hi) / 2) (hi := hi) (by omega) h2 with p | p <;> omega
    · rw [bs_done c]
      left
      omega
/-- whether so much does -/
def fits (room many : Int) (ms : List Mk) (g : Int) : Bool := match steps many g 0 none ms with
  | some l => decide ((l.length : Int) ≤ room)
  | none => false
def thinL (room many : Int) (ms : List Mk) : List Mk := (steps many (bs (fits room many ms) (-1) many) 0 none ms).getD []
def thin (room many : Int) (ms : List Mk) : List Mk := if (ms.length : Int) ≤ room then ms else thinL room many ms
theorem fits_many {room many : Int} (hr : 0 ≤ room) (ms : List Mk) : fits room many ms many = true := by
  have e : steps many many 0 none ms = some [] := by
    cases ms with
    | nil =>
      unfold steps
      rw [if_pos (by omega)]
    | cons m r =>
      unfold steps
      rw [if_pos (by omega)]
  unfold fits
  rw [e]
  exact decide_eq_true hr
theorem thinL_some {room many : Int} (hr : 0 ≤ room) (ms : List Mk) : steps many (bs (fits room many ms) (-1) many) 0 none ms = some (thinL room many ms) ∧ ((thinL room many ms).length : Int) ≤ room := by
  have h := bs_fit (fit := fits room many ms) _ (lo := -1) (hi := many) (Nat.le_refl _) (fits_many hr ms)
  unfold thinL
  unfold fits at h
  cases e : steps many (bs (fits room many ms) (-1) many) 0 none ms with
  | none =>
    have e' := e
    unfold fits at e'
    rw [e'] at h
    cases h
  | some l =>
    have e' := e
    unfold fits at e'
    rw [e'] at h
    exact ⟨rfl, of_decide_eq_true h⟩
theorem thin_len {room many : Int} (hr : 0 ≤ room) (ms : List Mk) : ((thin room many ms).length : Int) ≤ room := by
  unfold thin
  by_cases h : (ms.length : Int) ≤ room
  · rw [if_pos h]
    exact h
  · rw [if_neg h]
    exact (thinL_some hr ms).2
theorem thin_sub {room many : Int} (hr : 0 ≤ room) (ms : List Mk) : (thin room many ms).Sublist ms := by
  unfold thin
  by_cases h : (ms.length : Int) ≤ room
  · rw [if_pos h]
    exact List.Sublist.refl _
  · rw [if_neg h]
    have q := steps_sub (thinL_some (many := many) hr ms).1
    simpa using q
theorem thin_gap {room many O q : Int} (hr : 1 ≤ room) (hO : 0 ≤ O) (hq : 1 ≤ q) (hm : many ≤ room * q) {ms : List Mk} (g : GapOk many O 0 ms) : GapOk many (O + q - 1) 0 (thin room many ms) := by
  unfold thin
  by_cases h : (ms.length : Int) ≤ room
  · rw [if_pos h]
    exact g.mono (by omega)
  · rw [if_neg h]
    have hall : ∀ z, O + q - 1 ≤ z → fits room many ms z = true := fun z hz => by
      obtain ⟨l, e, p⟩ := steps_few hO hq hz (ms := ms) (last := 0) (held := none) g
      unfold fits
      rw [e]
      refine decide_eq_true ?_
      rcases p with p | p
      · subst p
        show ((0 : Nat) : Int) ≤ room
        omega
      · rcases Int.lt_or_le room (l.length : Int) with c | c
        · have c1 : (room + 1) * q ≤ (l.length : Int) * q := Int.mul_le_mul_of_nonneg_right (by omega) (by omega)
          rw [Int.add_mul] at c1
          omega
        · exact c
    have hle := bs_le hall _ (lo := -1) (hi := many) (Nat.le_refl _) (by omega)
    have hb : bs (fits room many ms) (-1) many ≤ O + q - 1 := by omega
    exact (steps_gap (fun x e => by cases e) (thinL_some (by omega) ms).1).mono hb
end K22
namespace K22
/-! ### merging -/
def laid : List Int → List Int → List Int
  | [], ys => ys
  | x :: r, [] => x :: laid r []
  | x :: r, y :: t => if y < x then y :: laid (x :: r) t else x :: laid r (y :: t)
termination_by xs ys => xs.length + ys.length
theorem laid_nil (ys : List Int) : laid [] ys = ys := by
  unfold laid
  rfl
theorem laid_nil2 (x : Int) (r : List Int) : laid (x :: r) [] = x :: laid r [] := by
  rw [laid]
theorem laid_lt {x y : Int} {r t : List Int} (h : y < x) : laid (x :: r) (y :: t) = y :: laid (x :: r) t := by
  rw [laid, if_pos h]
theorem laid_ge {x y : Int} {r t : List Int} (h : ¬ y < x) : laid (x :: r) (y :: t) = x :: laid r (y :: t) := by
  rw [laid, if_neg h]
theorem laid_perm : ∀ (n : Nat) (xs ys : List Int), xs.length + ys.length ≤ n → (laid xs ys).Perm (xs ++ ys)
  | _, [], ys, _ => by
    rw [laid_nil]
    exact .refl _
  | 0, x :: r, ys, h => by simp at h
  | n + 1, x :: r, [], h => by
    rw [laid_nil2]
    exact (laid_perm n r [] (by simpa using h)).cons x
  | n + 1, x :: r, y :: t, h => by
    simp only [List.length_cons] at h
    by_cases c : y < x
    · rw [laid_lt c]
      have ih := laid_perm n (x :: r) t (by simp only [List.length_cons]; omega)
      exact (ih.cons y).trans (List.perm_middle (l₁ := x :: r) (l₂ := t) (a := y)).symm
    · rw [laid_ge c]
      exact (laid_perm n r (y :: t) (by simp only [List.length_cons]; omega)).cons x
theorem laid_sorted : ∀ (n : Nat) (xs ys : List Int), xs.length + ys.length ≤ n → xs.Pairwise (· ≤ ·) → ys.Pairwise (· ≤ ·) → (laid xs ys).Pairwise (· ≤ ·)
  | _, [], ys, _, _, h2 => by
    rw [laid_nil]
    exact h2
  | 0, x :: r, ys, h, _, _ => by simp at h
  | n + 1, x :: r, [], h, h1, h2 => by
    rw [laid_nil2]
    obtain ⟨a, b⟩ := List.pairwise_cons.mp h1
    refine List.pairwise_cons.mpr ⟨fun z m => ?_, laid_sorted n r [] (by simpa using h) b h2⟩
    have m2 := (laid_perm _ r [] (Nat.le_refl _)).mem_iff.mp m
    rw [List.append_nil] at m2
    exact a z m2
  | n + 1, x :: r, y :: t, h, h1, h2 => by
    simp only [List.length_cons] at h
    obtain ⟨a, b⟩ := List.pairwise_cons.mp h1
    obtain ⟨a2, b2⟩ := List.pairwise_cons.mp h2
    by_cases c : y < x
    · rw [laid_lt c]
      refine List.pairwise_cons.mpr ⟨fun z m => ?_, laid_sorted n (x :: r) t (by simp only [List.length_cons]; omega) h1 b2⟩
      have m2 := (laid_perm _ (x :: r) t (Nat.le_refl _)).mem_iff.mp m
      rcases List.mem_append.mp m2 with m3 | m3
      · rcases List.mem_cons.mp m3 with e | m3
        · omega
        · have := a z m3
          omega
      · exact a2 z m3
    · rw [laid_ge c]
      refine List.pairwise_cons.mpr ⟨fun z m => ?_, laid_sorted n r (y :: t) (by simp only [List.length_cons]; omega) b h2⟩
      have m2 := (laid_perm _ r (y :: t) (Nat.le_refl _)).mem_iff.mp m
      rcases List.mem_append.mp m2 with m3 | m3
      · exact a z m3
      · rcases List.mem_cons.mp m3 with e | m3
        · omega
        · have := a2 z m3
          omega
theorem laid_len (xs ys : List Int) : (laid xs ys).length = xs.length + ys.length := by
  rw [(laid_perm _ xs ys (Nat.le_refl _)).length_eq, List.length_append]
def pairs : List (List Int) → List (List Int)
  | a :: b :: r => laid a b :: pairs r
  | _ => []
def oddOne : List (List Int) → List (List Int)
  | _ :: _ :: r => oddOne r
  | l => l
theorem pairs_len : ∀ l : List (List Int), (pairs l).length = l.length / 2
  | [] => rfl
  | [_] => by simp [pairs]
  | a :: b :: r => by
    show (pairs r).length + 1 = (r.length + 1 + 1) / 2
    rw [pairs_len r]
    omega
theorem oddOne_len : ∀ l : List (List Int), (oddOne l).length = l.length % 2
  | [] => rfl
  | [_] => rfl
  | a :: b :: r => by
    show (oddOne r).length = (r.length + 1 + 1) % 2
    rw [oddOne_len r]
    omega
theorem oddOne_last : ∀ (l : List (List Int)) (z : List Int), l.length % 2 = 1 → l[l.length - 1]? = some z → oddOne l = [z]
  | [], _, h, _ => by simp at h
  | [a], z, _, h => by
    have e : a = z := Option.some.inj h
    rw [e]
    rfl
  | a :: b :: r, z, h, h2 => by
    show oddOne r = [z]
    have h' : r.length % 2 = 1 := by
      simp only [List.length_cons] at h
      omega
    refine oddOne_last r z h' ?_
    have e : (a :: b :: r).length - 1 = (r.length - 1) + 2 := by
      simp only [List.length_cons]
      omega
    rw [e] at h2
    simpa using h2
theorem pairs_get : ∀ (l : List (List Int)) (i : Nat) (a b : List Int), l[2 * i]? = some a → l[2 * i + 1]? = some b → (pairs l)[i]? = some (laid a b)
  | [], _, _, _, h, _ => by simp at h
  | [x], i, _, _, h, h2 => by
    rw [List.getElem?_eq_none (by simp)] at h2
    cases h2
  | x :: y :: r, 0, a, b, h, h2 => by
    have e1 : x = a := Option.some.inj h
    have e2 : y = b := Option.some.inj h2
    rw [e1, e2]
    rfl
  | x :: y :: r, i + 1, a, b, h, h2 => by
    show (laid x y :: pairs r)[i + 1]? = _
    rw [List.getElem?_cons_succ]
    refine pairs_get r i a b ?_ ?_
    · rw [show 2 * (i + 1) = 2 * i + 1 + 1 by omega] at h
      simpa using h
    · rw [show 2 * (i + 1) + 1 = 2 * i + 1 + 1 + 1 by omega] at h2
      simpa using h2
theorem pairs_perm : ∀ l : List (List Int), ((pairs l).flatten ++ (oddOne l).flatten).Perm l.flatten
  | [] => .refl _
  | [a] => .refl _
  | a :: b :: r => by
    show (laid a b ++ (pairs r).flatten ++ (oddOne r).flatten).Perm (a ++ (b ++ r.flatten))
    rw [List.append_assoc, ← List.append_assoc a b]
    exact (laid_perm _ a b (Nat.le_refl _)).append (pairs_perm r)
theorem pairs_sorted : ∀ (l : List (List Int)), (∀ a ∈ l, a.Pairwise (· ≤ ·)) → ∀ a ∈ pairs l ++ oddOne l, a.Pairwise (· ≤ ·)
  | [], _, a, m => by cases m
  | [x], h, a, m => h a m
  | x :: y :: r, h, a, m => by
    rcases List.mem_cons.mp (show a ∈ laid x y :: (pairs r ++ oddOne r) from m) with e | m
    · rw [e]
      exact laid_sorted _ x y (Nat.le_refl _) (h x (by simp)) (h y (by simp))
    · exact pairs_sorted r (fun z hz => h z (by simp [hz])) a m
/-- so it goes on until there is one -/
structure Merge (ks : List Int) (l : List (List Int)) : Prop where
  perm : l.flatten.Perm ks
  sorted : ∀ a ∈ l, a.Pairwise (· ≤ ·)
theorem merge_start (ks : List Int) : Merge ks (ks.map fun k => [k]) := by
  refine ⟨?_, fun a m => ?_⟩
  · induction ks with
    | nil => exact .refl _
    | cons k r ih => exact ih.cons k
  · obtain ⟨k, _, rfl⟩ := List.mem_map.mp m
    exact List.pairwise_singleton _ _
theorem merge_next {ks : List Int} {l : List (List Int)} (h : Merge ks l) : Merge ks (pairs l ++ oddOne l) := by
  refine ⟨?_, pairs_sorted l h.sorted⟩
  rw [List.flatten_append]
  exact (pairs_perm l).trans h.perm
theorem merge_end0 {ks : List Int} (h : Merge ks []) : srt ks = [] := by
  have e : ks = [] := List.nil_perm.mp h.perm
  subst e
  exact (srt_eq (.refl []) .nil).symm
theorem merge_end1 {ks a : List Int} (h : Merge ks [a]) : srt ks = a := by
  have p : a.Perm ks := by
    have := h.perm
    simpa using this
  exact (srt_eq p (h.sorted a (by simp))).symm
theorem merge_len {ks : List Int} {l : List (List Int)} (h : Merge ks l) : ∀ a ∈ l, a.length ≤ ks.length := fun a m => by
  rw [← h.perm.length_eq]
  exact (List.sublist_flatten_of_mem m).length_le

/-! ### exact marks -/
def exM (ks : List Int) (k : Int) : Mk := ⟨k, cLt ks k, cLt ks k, cLe ks k, cLe ks k⟩
/-- each key once, ascending -/
def uniq : List Int → List Int
  | [] => []
  | [x] => [x]
  | x :: y :: r => if y = x then uniq (y :: r) else x :: uniq (y :: r)
theorem mem_uniq : ∀ {l : List Int} {x : Int}, x ∈ uniq l ↔ x ∈ l
  | [], x => Iff.rfl
  | [y], x => Iff.rfl
  | y :: z :: r, x => by
    unfold uniq
    by_cases c : z = y
    · rw [if_pos c, mem_uniq, c]
      simp
    · rw [if_neg c, List.mem_cons, mem_uniq, List.mem_cons (a := x) (b := y)]
theorem uniq_strict : ∀ {l : List Int}, l.Pairwise (· ≤ ·) → (uniq l).Pairwise (· < ·)
  | [], _ => .nil
  | [y], _ => List.pairwise_singleton _ _
  | y :: z :: r, h => by
    obtain ⟨a, b⟩ := List.pairwise_cons.mp h
    unfold uniq
    by_cases c : z = y
    · rw [if_pos c]
      exact uniq_strict b
    · rw [if_neg c]
      refine List.pairwise_cons.mpr ⟨fun w m => ?_, uniq_strict b⟩
      have m2 := mem_uniq.mp m
      have h1 := a z (by simp)
      rcases List.mem_cons.mp m2 with e | m3
      · omega
      · have := (List.pairwise_cons.mp b).1 w m3
        omega
theorem uniq_len : ∀ l : List Int, (uniq l).length ≤ l.length
  | [] => Nat.le_refl _
  | [y] => Nat.le_refl _
  | y :: z :: r => by
    unfold uniq
    have := uniq_len (z :: r)
    split
    · simp only [List.length_cons] at *
      omega
    · simp only [List.length_cons] at *
      omega
def exact_ (ks : List Int) : List Mk := (uniq (srt ks)).map (exM ks)
theorem exact_len (ks : List Int) : (exact_ ks).length ≤ ks.length := by
  unfold exact_
  rw [List.length_map, ← srt_length ks]
  exact uniq_len _
/-- the program's road: by places in the sorted list -/
def exGo (i seen : Int) : List Int → List Mk
  | [] => []
  | [x] => [⟨x, seen, seen, i + 1, i + 1⟩]
  | x :: y :: r => if y = x then exGo (i + 1) seen (y :: r) else ⟨x, seen, seen, i + 1, i + 1⟩ :: exGo (i + 1) (i + 1) (y :: r)
theorem cLe_zero {l : List Int} {k : Int} (h : ∀ x ∈ l, k < x) : cLe l k = 0 := by
  induction l with
  | nil => rfl
  | cons x r ih =>
    have h1 := h x List.mem_cons_self
    rw [cLe_cons, ih fun y m => h y (List.mem_cons_of_mem _ m), if_neg (by omega)]
    rfl
theorem cLt_all {l : List Int} {k : Int} (h : ∀ x ∈ l, x < k) : cLt l k = (l.length : Int) := by
  induction l with
  | nil => rfl
  | cons x r ih =>
    have h1 := h x List.mem_cons_self
    rw [cLt_cons, ih fun y m => h y (List.mem_cons_of_mem _ m), if_pos h1, List.length_cons]
    omega
theorem exGo_eq (ks : List Int) : ∀ (l p : List Int) (seen : Int), (p ++ l).Pairwise (· ≤ ·) → (p ++ l).Perm ks → (∀ x r, l = x :: r → seen = cLt ks x) → exGo (p.length : Int) seen l = (uniq l).map (exM ks)
  | [], _, _, _, _, _ => rfl
  | [x], p, seen, hs, hp, h => by
    have e1 := h x [] rfl
    have e2 : cLe ks x = (p.length : Int) + 1 := by
      rw [← cLe_perm hp, cLe_all fun z m => ?_, List.length_append]
      · rfl
      · rcases List.mem_append.mp m with m | m
        · exact (List.pairwise_append.mp hs).2.2 z m x (by simp)
        · have : z = x := by simpa using m
          omega
    show [(⟨x, seen, seen, (p.length : Int) + 1, (p.length : Int) + 1⟩ : Mk)] = [exM ks x]
    unfold exM
    rw [e1, e2]
  | x :: y :: r, p, seen, hs, hp, h => by
    have e1 := h x (y :: r) rfl
    have hs' : ((p ++ [x]) ++ (y :: r)).Pairwise (· ≤ ·) := by simpa using hs
    have hp' : ((p ++ [x]) ++ (y :: r)).Perm ks := by simpa using hp
    have hl : ((p ++ [x]).length : Int) = (p.length : Int) + 1 := by
      rw [List.length_append]
      rfl
    have hxy : x ≤ y := (List.pairwise_cons.mp (List.pairwise_append.mp hs).2.1).1 y (by simp)
    unfold exGo uniq
    by_cases c : y = x
    · rw [if_pos c, if_pos c]
      have ih := exGo_eq ks (y :: r) (p ++ [x]) seen hs' hp' fun x' r' e => by
        cases e
        rw [e1, c]
      rw [hl] at ih
      exact ih
    · rw [if_neg c, if_neg c]
      have e2 : cLe ks x = (p.length : Int) + 1 := by
        rw [← cLe_perm hp', cLe_app, cLe_all fun z m => ?_, hl, cLe_zero fun z m => ?_, Int.add_zero]
        · have := (List.pairwise_append.mp hs').2.1
          rcases List.mem_cons.mp m with e | m
          · omega
          · have := (List.pairwise_cons.mp this).1 z m
            omega
        · rcases List.mem_append.mp m with m | m
          · exact (List.pairwise_append.mp hs).2.2 z m x (by simp)
          · have : z = x := by simpa using m
            omega
      have e3 : cLt ks y = (p.length : Int) + 1 := by
        rw [← cLt_perm hp', cLt_app, cLt_all fun z m => ?_, hl, cLt_zero fun z m => ?_, Int.add_zero]
        · have := (List.pairwise_append.mp hs').2.1
          rcases List.mem_cons.mp m with e | m
          · omega
          · have := (List.pairwise_cons.mp this).1 z m
            omega
        · rcases List.mem_append.mp m with m | m
          · have := (List.pairwise_append.mp hs).2.2 z m x (by simp)
            omega
          · have : z = x := by simpa using m
            omega
      have ih := exGo_eq ks (y :: r) (p ++ [x]) ((p.length : Int) + 1) hs' hp' fun x' r' e => by
        cases e
        exact e3.symm
      rw [hl] at ih
      rw [ih, List.map_cons]
      unfold exM
      rw [e1, e2]
theorem exGo_exact (ks : List Int) : exGo 0 0 (srt ks) = exact_ ks := by
  have h := exGo_eq ks (srt ks) [] 0 (srt_sorted ks) (srt_perm ks) fun x r e => by
    rw [← cLt_perm (srt_perm ks), e, cLt_zero]
    intro z m
    have h := srt_sorted ks
    rw [e] at h
    rcases List.mem_cons.mp m with q | m
    · omega
    · exact (List.pairwise_cons.mp h).1 z m
  exact h
theorem exact_good (ks : List Int) : Good ks (exact_ ks) := by
  have hs := uniq_strict (srt_sorted ks)
  unfold exact_
  refine ⟨List.pairwise_map.mpr (hs.imp fun {x y} h => ⟨h, cLe_le_cLt ks h, cLe_le_cLt ks h⟩), fun m hm => ?_, fun m hm => ?_, fun m hm => ?_⟩
  · obtain ⟨k, hk, rfl⟩ := List.mem_map.mp hm
    have hk' : k ∈ ks := mem_srt.mp (mem_uniq.mp hk)
    have h1 := cLt_nn ks k
    have h2 := cLt_lt_cLe hk'
    have h3 := cLe_len ks k
    exact ⟨h1, h2, Int.le_refl _, h2, Int.le_refl _, h3⟩
  · obtain ⟨k, hk, rfl⟩ := List.mem_map.mp hm
    exact ⟨Int.le_refl _, Int.le_refl _, Int.le_refl _, Int.le_refl _⟩
  · obtain ⟨k, hk, rfl⟩ := List.mem_map.mp hm
    exact mem_srt.mp (mem_uniq.mp hk)
theorem exact_gap (ks : List Int) : GapOk (ks.length : Int) 0 0 (exact_ ks) := by
  have main : ∀ (l : List Int) (last : Int), l.Pairwise (· < ·) → (∀ x ∈ ks, (∀ z ∈ l, x < z) → True) → (∀ k r, l = k :: r → cLt ks k = last) → (l = [] → (ks.length : Int) = last) →
      (∀ x ∈ ks, x ∈ l ∨ ∀ z ∈ l, x < z) → GapOk (ks.length : Int) 0 last (l.map (exM ks)) := by
    intro l
    induction l with
    | nil =>
      intro last _ _ _ h _
      have := h rfl
      show (ks.length : Int) - last ≤ 0
      omega
    | cons k r ih =>
      intro last hs _ h1 _ hm
      obtain ⟨a, b⟩ := List.pairwise_cons.mp hs
      have e1 := h1 k r rfl
      refine ⟨by show cLt ks k - last ≤ 0; omega, ih (cLe ks k) b (fun _ _ _ => trivial) (fun k' r' e => ?_) (fun e => ?_) fun x hx => ?_⟩
      · have hk : k < k' := a k' (by rw [e]; simp)
        refine (cLe_eq_cLt hk fun x hx hc => ?_).symm
        rcases hm x hx with m | m
        · rcases List.mem_cons.mp m with q | m
          · omega
          · rw [e] at m b
            rcases List.mem_cons.mp m with q | m
            · omega
            · have := (List.pairwise_cons.mp b).1 x m
              omega
        · have := m k (by simp)
          omega
      · refine (cLe_all fun x hx => ?_).symm
        rcases hm x hx with m | m
        · rw [e] at m
          have : x = k := by simpa using m
          omega
        · have := m k (by simp)
          omega
      · rcases hm x hx with m | m
        · rcases List.mem_cons.mp m with q | m
          · subst q
            exact .inr a
          · exact .inl m
        · exact .inr fun z hz => m z (by simp [hz])
  unfold exact_
  refine main _ 0 (uniq_strict (srt_sorted ks)) (fun _ _ _ => trivial) (fun k r e => ?_) (fun e => ?_) fun x hx => .inl (mem_uniq.mpr (mem_srt.mpr hx))
  · refine cLt_zero fun x hx => ?_
    have m : x ∈ uniq (srt ks) := mem_uniq.mpr (mem_srt.mpr hx)
    have hs := uniq_strict (srt_sorted ks)
    rw [e] at m hs
    rcases List.mem_cons.mp m with q | m
    · omega
    · have := (List.pairwise_cons.mp hs).1 x m
      omega
  · cases hk : ks with
    | nil => rfl
    | cons x r =>
      have m : x ∈ uniq (srt ks) := mem_uniq.mpr (mem_srt.mpr (by rw [hk]; simp))
      rw [e] at m
      cases m
/-- the law's road: keys once, ascending, and how often each stands -/
def exL (ks : List Int) (below : Int) : List Int → List Mk
  | [] => []
  | k :: r => ⟨k, below, below, below + (ks.count k : Int), below + (ks.count k : Int)⟩ :: exL ks (below + (ks.count k : Int)) r
theorem cLe_count (ks : List Int) (k : Int) : cLe ks k = cLt ks k + (ks.count k : Int) := by
  induction ks with
  | nil => rfl
  | cons x r ih =>
    rw [cLe_cons, cLt_cons, ih, List.count_cons]
    by_cases c : x = k
    · subst c
      simp
      omega
    · have c2 : (x == k) = false := by simpa using c
      rw [c2]
      simp
      split <;> split <;> omega
theorem exL_eq (ks : List Int) : ∀ (l : List Int) (below : Int), l.Pairwise (· < ·) → (∀ k r, l = k :: r → cLt ks k = below) → (∀ x ∈ ks, x ∈ l ∨ ∀ z ∈ l, x < z) → exL ks below l = l.map (exM ks)
  | [], _, _, _, _ => rfl
  | k :: r, below, hs, h1, hm => by
    obtain ⟨a, b⟩ := List.pairwise_cons.mp hs
    have e1 := h1 k r rfl
    have e2 := cLe_count ks k
    unfold exL
    rw [exL_eq ks r (below + (ks.count k : Int)) b (fun k' r' e => ?_) fun x hx => ?_, List.map_cons]
    · unfold exM
      rw [e2, e1]
    · have hk : k < k' := a k' (by rw [e]; simp)
      rw [← e1, ← e2]
      refine (cLe_eq_cLt hk fun x hx hc => ?_).symm
      rcases hm x hx with m | m
      · rcases List.mem_cons.mp m with q | m
        · omega
        · rw [e] at m b
          rcases List.mem_cons.mp m with q | m
          · omega
          · have := (List.pairwise_cons.mp b).1 x m
            omega
      · have := m k (by simp)
        omega
    · rcases hm x hx with m | m
      · rcases List.mem_cons.mp m with q | m
        · subst q
          exact .inr a
        · exact .inl m
      · exact .inr fun z hz => m z (by simp [hz])
theorem exL_exact (ks l : List Int) (hs : l.Pairwise (· ≤ ·)) (hn : l.Nodup) (hm : ∀ x, x ∈ l ↔ x ∈ ks) : exL ks 0 l = exact_ ks := by
  have hs' := strict_of hs hn
  have e : l = uniq (srt ks) := strict_ext hs' (uniq_strict (srt_sorted ks)) fun x => by
    rw [hm, mem_uniq, mem_srt]
  rw [exL_eq ks l 0 hs' (fun k r q => ?_) fun x hx => .inl ((hm x).mpr hx), e]
  · rfl
  · refine cLt_zero fun x hx => ?_
    have m := (hm x).mpr hx
    rw [q] at m hs'
    rcases List.mem_cons.mp m with z | m
    · omega
    · have := (List.pairwise_cons.mp hs').1 x m
      omega
end K22
namespace K22
/-! ### the ends of a place -/
def Mk.at_ (m : Mk) (up : Bool) : Int × Int := if up then (m.c, m.d) else (m.a, m.b)
def endsL (many key : Int) (up : Bool) : Int → List Mk → Int × Int
  | low, [] => (low, many)
  | low, m :: r => if m.k = key then m.at_ up else if key < m.k then (low, m.b) else endsL many key up m.c r
theorem endsL_at {many key low : Int} {up : Bool} {m : Mk} {r : List Mk} (h : m.k = key) : endsL many key up low (m :: r) = m.at_ up := if_pos h
theorem endsL_gt {many key low : Int} {up : Bool} {m : Mk} {r : List Mk} (h : key < m.k) : endsL many key up low (m :: r) = (low, m.b) := by
  show (if m.k = key then m.at_ up else if key < m.k then (low, m.b) else endsL many key up m.c r) = _
  rw [if_neg (by omega), if_pos h]
theorem endsL_lt {many key low : Int} {up : Bool} {m : Mk} {r : List Mk} (h : m.k < key) : endsL many key up low (m :: r) = endsL many key up m.c r := by
  show (if m.k = key then m.at_ up else if key < m.k then (low, m.b) else endsL many key up m.c r) = _
  rw [if_neg (by omega), if_neg (by omega)]
/-- the program's road -/
def ahead (key : Int) (ms : List Mk) : Option Mk := (ms.filter fun m => decide (m.k < key)).getLast?
def there (key : Int) (ms : List Mk) : Option Mk := (ms.filter fun m => decide (m.k = key)).getLast?
def behind (key : Int) (ms : List Mk) : Option Mk := (ms.filter fun m => decide (key < m.k)).head?
def endsP (many key : Int) (up : Bool) (ms : List Mk) : Int × Int := match there key ms with
  | some m => m.at_ up
  | none => (match ahead key ms with | some m => m.c | none => 0, match behind key ms with | some m => m.b | none => many)
theorem endsP_gen {many key : Int} {up : Bool} : ∀ {ms : List Mk} {low : Int}, ms.Pairwise Mk.lt → (match there key ms with
  | some m => m.at_ up
  | none => (match ahead key ms with | some m => m.c | none => low, match behind key ms with | some m => m.b | none => many)) = endsL many key up low ms
  | [], low, _ => rfl
  | m :: r, low, h => by
    obtain ⟨a, b⟩ := List.pairwise_cons.mp h
    have ih := endsP_gen (many := many) (key := key) (up := up) (ms := r) (low := m.c) b
    rcases Int.lt_trichotomy m.k key with c | c | c
    · rw [endsL_lt c, ← ih]
      have e1 : there key (m :: r) = there key r := by
        unfold there
        rw [List.filter_cons, if_neg (by simp; omega)]
      have e2 : behind key (m :: r) = behind key r := by
        unfold behind
        rw [List.filter_cons, if_neg (by simp; omega)]
      have e3 : ahead key (m :: r) = some ((ahead key r).getD m) := by
        unfold ahead
        rw [List.filter_cons, if_pos (by simpa using c), List.getLast?_cons]
      rw [e1, e2, e3]
      cases there key r with
      | some x => rfl
      | none =>
        cases ahead key r with
        | some x => rfl
        | none => rfl
    · rw [endsL_at c]
      have e1 : there key (m :: r) = some m := by
        unfold there
        rw [List.filter_cons, if_pos (by simpa using c)]
        have e : r.filter (fun m => decide (m.k = key)) = [] := List.filter_eq_nil_iff.mpr fun x hx => by
          have := (a x hx).1
          simp
          omega
        rw [e]
        rfl
      rw [e1]
    · rw [endsL_gt c]
      have gt : ∀ x ∈ m :: r, key < x.k := fun x hx => by
        rcases List.mem_cons.mp hx with e | hx
        · rw [e]
          exact c
        · have := (a x hx).1
          omega
      have e1 : there key (m :: r) = none := by
        unfold there
        rw [List.filter_eq_nil_iff.mpr fun x hx => by have := gt x hx; simp; omega]
        rfl
      have e2 : behind key (m :: r) = some m := by
        unfold behind
        rw [List.filter_cons, if_pos (by simpa using c)]
        rfl
      have e3 : ahead key (m :: r) = none := by
        unfold ahead
        rw [List.filter_eq_nil_iff.mpr fun x hx => by have := gt x hx; simp; omega]
        rfl
      rw [e1, e2, e3]
theorem endsP_eq {many key : Int} {up : Bool} {ms : List Mk} (h : ms.Pairwise Mk.lt) : endsP many key up ms = endsL many key up 0 ms := endsP_gen h
/-! what holds of the ends -/
theorem ends_rng {many key : Int} : ∀ {ms : List Mk} {low : Int}, ms.Pairwise Mk.lt → (∀ m ∈ ms, m.ok many) → (∀ m ∈ ms, low ≤ m.a) → low ≤ many →
    low ≤ (endsL many key false low ms).1 ∧ (endsL many key false low ms).1 ≤ (endsL many key true low ms).1 ∧ (endsL many key false low ms).1 ≤ (endsL many key false low ms).2 ∧ (endsL many key false low ms).2 ≤ (endsL many key true low ms).2 ∧
      (endsL many key true low ms).1 ≤ (endsL many key true low ms).2 ∧ (endsL many key true low ms).2 ≤ many
  | [], low, _, _, _, h => ⟨Int.le_refl _, Int.le_refl _, h, Int.le_refl _, h, Int.le_refl _⟩
  | m :: r, low, hp, ho, hl, hm => by
    obtain ⟨p1, p2⟩ := List.pairwise_cons.mp hp
    have o := ho m (by simp)
    have l := hl m (by simp)
    have o1 := o.ac
    have o2 := o.ab
    have o3 := o.bd
    have o4 := o.cd
    have o5 := o.dm
    rcases Int.lt_trichotomy m.k key with c | c | c
    · rw [endsL_lt c, endsL_lt c]
      have ih := ends_rng (key := key) (low := m.c) p2 (fun x hx => ho x (by simp [hx])) (fun x hx => (p1 x hx).2.1) (by omega)
      omega
    · rw [endsL_at c, endsL_at c]
      show low ≤ m.a ∧ m.a ≤ m.c ∧ m.a ≤ m.b ∧ m.b ≤ m.d ∧ m.c ≤ m.d ∧ m.d ≤ many
      omega
    · rw [endsL_gt c, endsL_gt c]
      show low ≤ low ∧ low ≤ low ∧ low ≤ m.b ∧ m.b ≤ m.b ∧ low ≤ m.b ∧ m.b ≤ many
      omega
theorem ends_strict {many key : Int} : ∀ {ms : List Mk} {low : Int}, ms.Pairwise Mk.lt → (∀ m ∈ ms, m.ok many) → (∃ m ∈ ms, m.k = key) →
    (endsL many key false low ms).1 < (endsL many key true low ms).1 ∧ (endsL many key false low ms).2 < (endsL many key true low ms).2
  | [], _, _, _, h => by
    obtain ⟨m, hm, _⟩ := h
    cases hm
  | m :: r, low, hp, ho, h => by
    obtain ⟨p1, p2⟩ := List.pairwise_cons.mp hp
    have o := ho m (by simp)
    obtain ⟨x, hx, e⟩ := h
    rcases List.mem_cons.mp hx with q | hx
    · subst q
      rw [endsL_at e, endsL_at e]
      exact ⟨o.ac, o.bd⟩
    · have c : m.k < key := by
        have := (p1 x hx).1
        omega
      rw [endsL_lt c, endsL_lt c]
      exact ends_strict p2 (fun y hy => ho y (by simp [hy])) ⟨x, hx, e⟩
theorem ends_over {many key x : Int} : ∀ {ms : List Mk} {low : Int}, (∀ m ∈ ms, x ≤ m.b) → x ≤ many → x ≤ (endsL many key false low ms).2
  | [], _, _, h => h
  | m :: r, low, h, hm => by
    rcases Int.lt_trichotomy m.k key with c | c | c
    · rw [endsL_lt c]
      exact ends_over (fun y hy => h y (by simp [hy])) hm
    · rw [endsL_at c]
      exact h m (by simp)
    · rw [endsL_gt c]
      exact h m (by simp)
theorem ends_cross {many k j : Int} (hkj : k < j) : ∀ {ms : List Mk} {low : Int}, ms.Pairwise Mk.lt → (∀ m ∈ ms, m.ok many) → (∀ m ∈ ms, low ≤ m.a) → low ≤ many →
    (endsL many k true low ms).1 ≤ (endsL many j false low ms).1 ∧ (endsL many k true low ms).2 ≤ (endsL many j false low ms).2
  | [], low, _, _, _, _ => ⟨Int.le_refl _, Int.le_refl _⟩
  | m :: r, low, hp, ho, hl, hm => by
    obtain ⟨p1, p2⟩ := List.pairwise_cons.mp hp
    have o := ho m (by simp)
    have l := hl m (by simp)
    have o1 := o.ac
    have o2 := o.ab
    have o3 := o.bd
    have o4 := o.cd
    have o5 := o.dm
    have rg := ends_rng (key := j) (low := m.c) p2 (fun x hx => ho x (by simp [hx])) (fun x hx => (p1 x hx).2.1) (by omega)
    have ov := ends_over (key := j) (low := m.c) (x := m.d) (ms := r) (fun x hx => (p1 x hx).2.2) o5
    rcases Int.lt_trichotomy m.k k with c | c | c
    · rw [endsL_lt c, endsL_lt (show m.k < j by omega)]
      exact ends_cross hkj p2 (fun x hx => ho x (by simp [hx])) (fun x hx => (p1 x hx).2.1) (by omega)
    · rw [endsL_at c, endsL_lt (show m.k < j by omega)]
      show m.c ≤ _ ∧ m.d ≤ _
      omega
    · rw [endsL_gt c]
      rcases Int.lt_trichotomy m.k j with c2 | c2 | c2
      · rw [endsL_lt c2]
        show low ≤ _ ∧ m.b ≤ _
        omega
      · rw [endsL_at c2]
        show low ≤ m.a ∧ m.b ≤ m.b
        omega
      · rw [endsL_gt c2]
        show low ≤ low ∧ m.b ≤ m.b
        omega
def cnt (up : Bool) (ks : List Int) (key : Int) : Int := if up then cLe ks key else cLt ks key
theorem cnt_le (up : Bool) (ks : List Int) (key : Int) : cLt ks key ≤ cnt up ks key ∧ cnt up ks key ≤ cLe ks key := by
  have := cLt_le_cLe ks (Int.le_refl key)
  unfold cnt
  split <;> omega
theorem ends_true {ks : List Int} {key : Int} {up : Bool} : ∀ {ms : List Mk} {low : Int}, (∀ m ∈ ms, m.tr ks) → low ≤ cLt ks key →
    (endsL (ks.length : Int) key up low ms).1 ≤ cnt up ks key ∧ cnt up ks key ≤ (endsL (ks.length : Int) key up low ms).2
  | [], low, _, h => by
    have h1 := cnt_le up ks key
    have h2 := cLe_len ks key
    show low ≤ _ ∧ _ ≤ (ks.length : Int)
    omega
  | m :: r, low, ht, h => by
    have t := ht m (by simp)
    have t1 := t.a
    have t2 := t.b
    have t3 := t.c
    have t4 := t.d
    have h1 := cnt_le up ks key
    rcases Int.lt_trichotomy m.k key with c | c | c
    · rw [endsL_lt c]
      have := cLe_le_cLt ks c
      exact ends_true (fun x hx => ht x (by simp [hx])) (by omega)
    · rw [endsL_at c]
      rw [c] at t1 t2 t3 t4
      unfold Mk.at_ cnt
      cases up with
      | true => exact ⟨t3, t4⟩
      | false => exact ⟨t1, t2⟩
    · rw [endsL_gt c]
      have := cLe_le_cLt ks c
      show low ≤ _ ∧ _ ≤ m.b
      omega
theorem gap_start {many O v : Int} : ∀ {ms : List Mk} {low : Int}, GapOk many O low ms → (∀ m ∈ ms, v ≤ m.k) → (endsL many v false low ms).2 - low ≤ O
  | [], low, h, _ => h
  | m :: r, low, h, hv => by
    have h1 := hv m (by simp)
    rcases Int.lt_trichotomy m.k v with c | c | c
    · omega
    · rw [endsL_at c]
      exact h.1
    · rw [endsL_gt c]
      exact h.1
theorem gap_mid {many O u v : Int} (huv : u < v) : ∀ {ms : List Mk} {low : Int}, ms.Pairwise Mk.lt → GapOk many O low ms → (∀ m ∈ ms, ¬ (u < m.k ∧ m.k < v)) → (endsL many v false low ms).2 - (endsL many u true low ms).1 ≤ O
  | [], low, _, h, _ => h
  | m :: r, low, hp, h, hn => by
    obtain ⟨p1, p2⟩ := List.pairwise_cons.mp hp
    have n1 := hn m (by simp)
    rcases Int.lt_trichotomy m.k u with c | c | c
    · rw [endsL_lt c, endsL_lt (show m.k < v by omega)]
      exact gap_mid huv p2 h.2 fun x hx => hn x (by simp [hx])
    · rw [endsL_at c, endsL_lt (show m.k < v by omega)]
      show _ - m.c ≤ O
      refine gap_start h.2 fun x hx => ?_
      have q1 := (p1 x hx).1
      have q2 := hn x (by simp [hx])
      omega
    · rw [endsL_gt c]
      show _ - low ≤ O
      rcases Int.lt_trichotomy m.k v with c2 | c2 | c2
      · omega
      · rw [endsL_at c2]
        exact h.1
      · rw [endsL_gt c2]
        exact h.1
theorem gap_end {many O u : Int} : ∀ {ms : List Mk} {low : Int}, ms.Pairwise Mk.lt → GapOk many O low ms → (∀ m ∈ ms, m.k ≤ u) → many - (endsL many u true low ms).1 ≤ O
  | [], low, _, h, _ => h
  | m :: r, low, hp, h, hn => by
    obtain ⟨p1, p2⟩ := List.pairwise_cons.mp hp
    have n1 := hn m (by simp)
    rcases Int.lt_trichotomy m.k u with c | c | c
    · rw [endsL_lt c]
      exact gap_end p2 h.2 fun x hx => hn x (by simp [hx])
    · rw [endsL_at c]
      cases r with
      | nil => exact h.2
      | cons x r =>
        have q1 := (p1 x (by simp)).1
        have q2 := hn x (by simp)
        omega
    · omega

/-! ### two sketches together -/
def addM (m1 : Int) (s1 : List Mk) (m2 : Int) (s2 : List Mk) (k : Int) : Mk :=
  ⟨k, (endsL m1 k false 0 s1).1 + (endsL m2 k false 0 s2).1, (endsL m1 k false 0 s1).2 + (endsL m2 k false 0 s2).2, (endsL m1 k true 0 s1).1 + (endsL m2 k true 0 s2).1, (endsL m1 k true 0 s1).2 + (endsL m2 k true 0 s2).2⟩
def keysOf (s1 s2 : List Mk) : List Int := s1.map (·.k) ++ s2.map (·.k)
def added (m1 : Int) (s1 : List Mk) (m2 : Int) (s2 : List Mk) : List Mk := (uniq (srt (keysOf s1 s2))).map (addM m1 s1 m2 s2)
theorem added_len (m1 : Int) (s1 : List Mk) (m2 : Int) (s2 : List Mk) : (added m1 s1 m2 s2).length ≤ s1.length + s2.length := by
  unfold added
  rw [List.length_map]
  have h := uniq_len (srt (keysOf s1 s2))
  rw [srt_length] at h
  unfold keysOf at h
  rw [List.length_append, List.length_map, List.length_map] at h
  exact h
theorem mem_keys {s1 s2 : List Mk} {k : Int} : k ∈ uniq (srt (keysOf s1 s2)) ↔ (∃ m ∈ s1, m.k = k) ∨ ∃ m ∈ s2, m.k = k := by
  rw [mem_uniq, mem_srt]
  unfold keysOf
  rw [List.mem_append, List.mem_map, List.mem_map]
theorem added_good {k1 k2 : List Int} {s1 s2 : List Mk} (g1 : Good k1 s1) (g2 : Good k2 s2) : Good (k1 ++ k2) (added (k1.length : Int) s1 (k2.length : Int) s2) := by
  have hs := uniq_strict (srt_sorted (keysOf s1 s2))
  have a1 : ∀ m ∈ s1, (0 : Int) ≤ m.a := fun m hm => (g1.ok m hm).a0
  have a2 : ∀ m ∈ s2, (0 : Int) ≤ m.a := fun m hm => (g2.ok m hm).a0
  have n1 : (0 : Int) ≤ (k1.length : Int) := Int.natCast_nonneg _
  have n2 : (0 : Int) ≤ (k2.length : Int) := Int.natCast_nonneg _
  unfold added
  refine ⟨List.pairwise_map.mpr (hs.imp fun {x y} h => ?_), fun m hm => ?_, fun m hm => ?_, fun m hm => ?_⟩
  · have c1 := ends_cross h g1.lt g1.ok a1 n1
    have c2 := ends_cross h g2.lt g2.ok a2 n2
    refine ⟨h, ?_, ?_⟩
    · show (endsL _ x true 0 s1).1 + (endsL _ x true 0 s2).1 ≤ (endsL _ y false 0 s1).1 + (endsL _ y false 0 s2).1
      omega
    · show (endsL _ x true 0 s1).2 + (endsL _ x true 0 s2).2 ≤ (endsL _ y false 0 s1).2 + (endsL _ y false 0 s2).2
      omega
  · obtain ⟨k, hk, rfl⟩ := List.mem_map.mp hm
    have r1 := ends_rng (key := k) g1.lt g1.ok a1 n1
    have r2 := ends_rng (key := k) g2.lt g2.ok a2 n2
    have st : ((endsL (k1.length : Int) k false 0 s1).1 < (endsL (k1.length : Int) k true 0 s1).1 ∧ (endsL (k1.length : Int) k false 0 s1).2 < (endsL (k1.length : Int) k true 0 s1).2) ∨
        ((endsL (k2.length : Int) k false 0 s2).1 < (endsL (k2.length : Int) k true 0 s2).1 ∧ (endsL (k2.length : Int) k false 0 s2).2 < (endsL (k2.length : Int) k true 0 s2).2) := by
      rcases mem_keys.mp hk with h | h
      · exact .inl (ends_strict g1.lt g1.ok h)
      · exact .inr (ends_strict g2.lt g2.ok h)
    rw [List.length_append]
    refine ⟨?_, ?_, ?_, ?_, ?_, ?_⟩ <;> simp only [addM] <;> omega
  · obtain ⟨k, hk, rfl⟩ := List.mem_map.mp hm
    have f1 := ends_true (key := k) (up := false) (low := 0) g1.tr (cLt_nn _ _)
    have f2 := ends_true (key := k) (up := false) (low := 0) g2.tr (cLt_nn _ _)
    have u1 := ends_true (key := k) (up := true) (low := 0) g1.tr (cLt_nn _ _)
    have u2 := ends_true (key := k) (up := true) (low := 0) g2.tr (cLt_nn _ _)
    simp only [cnt, Bool.false_eq_true, if_false, if_true] at f1 f2 u1 u2
    refine ⟨?_, ?_, ?_, ?_⟩ <;> simp only [addM, cLt_app, cLe_app] <;> omega
  · obtain ⟨k, hk, rfl⟩ := List.mem_map.mp hm
    show k ∈ k1 ++ k2
    rcases mem_keys.mp hk with ⟨x, hx, e⟩ | ⟨x, hx, e⟩
    · exact List.mem_append_left _ (e ▸ g1.mem x hx)
    · exact List.mem_append_right _ (e ▸ g2.mem x hx)
theorem added_gap {m1 m2 O1 O2 : Int} {s1 s2 : List Mk} (p1 : s1.Pairwise Mk.lt) (p2 : s2.Pairwise Mk.lt) (h1 : GapOk m1 O1 0 s1) (h2 : GapOk m2 O2 0 s2) : GapOk (m1 + m2) (O1 + O2) 0 (added m1 s1 m2 s2) := by
  have main : ∀ (l : List Int) (u : Int), (u :: l).Pairwise (· < ·) → (∀ m ∈ s1, u < m.k → m.k ∈ l) → (∀ m ∈ s2, u < m.k → m.k ∈ l) → GapOk (m1 + m2) (O1 + O2) (addM m1 s1 m2 s2 u).c (l.map (addM m1 s1 m2 s2)) := by
    intro l
    induction l with
    | nil =>
      intro u _ q1 q2
      have e1 := gap_end p1 h1 fun m hm => Int.not_lt.mp fun c => by cases q1 m hm c
      have e2 := gap_end p2 h2 fun m hm => Int.not_lt.mp fun c => by cases q2 m hm c
      show m1 + m2 - ((endsL m1 u true 0 s1).1 + (endsL m2 u true 0 s2).1) ≤ O1 + O2
      omega
    | cons v r ih =>
      intro u hs q1 q2
      obtain ⟨a, b⟩ := List.pairwise_cons.mp hs
      obtain ⟨a', b'⟩ := List.pairwise_cons.mp b
      have huv := a v (by simp)
      have no : ∀ (s : List Mk), (∀ m ∈ s, u < m.k → m.k ∈ v :: r) → ∀ m ∈ s, ¬ (u < m.k ∧ m.k < v) := fun s q m hm c => by
        rcases List.mem_cons.mp (q m hm c.1) with e | hr
        · omega
        · have := a' m.k hr
          omega
      have e1 := gap_mid huv p1 h1 (no s1 q1)
      have e2 := gap_mid huv p2 h2 (no s2 q2)
      refine ⟨?_, ih v b (fun m hm c => ?_) (fun m hm c => ?_)⟩
      · show (endsL m1 v false 0 s1).2 + (endsL m2 v false 0 s2).2 - ((endsL m1 u true 0 s1).1 + (endsL m2 u true 0 s2).1) ≤ O1 + O2
        omega
      · rcases List.mem_cons.mp (q1 m hm (by omega)) with e | hr
        · omega
        · exact hr
      · rcases List.mem_cons.mp (q2 m hm (by omega)) with e | hr
        · omega
        · exact hr
  have hs := uniq_strict (srt_sorted (keysOf s1 s2))
  have k1 : ∀ m ∈ s1, m.k ∈ uniq (srt (keysOf s1 s2)) := fun m hm => mem_keys.mpr (.inl ⟨m, hm, rfl⟩)
  have k2 : ∀ m ∈ s2, m.k ∈ uniq (srt (keysOf s1 s2)) := fun m hm => mem_keys.mpr (.inr ⟨m, hm, rfl⟩)
  unfold added
  cases e : uniq (srt (keysOf s1 s2)) with
  | nil =>
    rw [e] at k1 k2
    have z1 : s1 = [] := List.eq_nil_iff_forall_not_mem.mpr fun m hm => by cases k1 m hm
    have z2 : s2 = [] := List.eq_nil_iff_forall_not_mem.mpr fun m hm => by cases k2 m hm
    rw [z1] at h1
    rw [z2] at h2
    have h1' : m1 - 0 ≤ O1 := h1
    have h2' : m2 - 0 ≤ O2 := h2
    show m1 + m2 - 0 ≤ O1 + O2
    omega
  | cons v r =>
    rw [e] at k1 k2 hs
    obtain ⟨a, b⟩ := List.pairwise_cons.mp hs
    have ge : ∀ (s : List Mk), (∀ m ∈ s, m.k ∈ v :: r) → ∀ m ∈ s, v ≤ m.k := fun s q m hm => by
      rcases List.mem_cons.mp (q m hm) with e | hr
      · omega
      · have := a m.k hr
        omega
    have e1 := gap_start h1 (ge s1 k1)
    have e2 := gap_start h2 (ge s2 k2)
    refine ⟨?_, main r v hs (fun m hm c => ?_) (fun m hm c => ?_)⟩
    · show (endsL m1 v false 0 s1).2 + (endsL m2 v false 0 s2).2 - 0 ≤ O1 + O2
      omega
    · rcases List.mem_cons.mp (k1 m hm) with e | hr
      · omega
      · exact hr
    · rcases List.mem_cons.mp (k2 m hm) with e | hr
      · omega
      · exact hr
end K22
namespace K22
/-! ### names once -/
def insK (l : List Int) (k : Int) : List Int := if k ∈ l then l else l ++ [k]
theorem mem_insK {l : List Int} {k x : Int} : x ∈ insK l k ↔ x ∈ l ∨ x = k := by
  unfold insK
  by_cases h : k ∈ l
  · rw [if_pos h]
    constructor
    · exact .inl
    · rintro (m | e)
      · exact m
      · exact e ▸ h
  · rw [if_neg h, List.mem_append, List.mem_singleton]
theorem nd_insK {l : List Int} {k : Int} (h : l.Nodup) : (insK l k).Nodup := by
  unfold insK
  by_cases c : k ∈ l
  · rw [if_pos c]
    exact h
  · rw [if_neg c]
    refine List.nodup_append.mpr ⟨h, by simp, fun a ha b hb e => ?_⟩
    have q : b = k := by simpa using hb
    rw [← q, ← e] at c
    exact c ha
theorem len_insK (l : List Int) (k : Int) : (insK l k).length ≤ l.length + 1 := by
  unfold insK
  split
  · omega
  · rw [List.length_append, List.length_singleton]
    omega
theorem mem_ins {x : Int} : ∀ {ks l : List Int}, x ∈ ks.foldl insK l ↔ x ∈ l ∨ x ∈ ks
  | [], l => by simp
  | k :: r, l => by
    rw [List.foldl_cons, mem_ins, mem_insK, List.mem_cons]
    constructor
    · rintro ((a | a) | a)
      · exact .inl a
      · exact .inr (.inl a)
      · exact .inr (.inr a)
    · rintro (a | a | a)
      · exact .inl (.inl a)
      · exact .inl (.inr a)
      · exact .inr a
theorem nd_ins : ∀ {ks l : List Int}, l.Nodup → (ks.foldl insK l).Nodup
  | [], _, h => h
  | k :: r, l, h => nd_ins (ks := r) (nd_insK h)
theorem len_ins : ∀ (ks l : List Int), (ks.foldl insK l).length ≤ l.length + ks.length
  | [], l => Nat.le_refl _
  | k :: r, l => by
    rw [List.foldl_cons]
    have h1 := len_ins r (insK l k)
    have h2 := len_insK l k
    rw [List.length_cons]
    omega
theorem sub_len : ∀ {l m : List Int}, l.Nodup → (∀ x ∈ l, x ∈ m) → l.length ≤ m.length
  | [], _, _, _ => Nat.zero_le _
  | a :: r, m, hn, hs => by
    obtain ⟨h1, h2⟩ := List.nodup_cons.mp hn
    have ha : a ∈ m := hs a (by simp)
    have h3 : r.length ≤ (m.erase a).length := sub_len h2 fun x hx => by
      have e : x ≠ a := fun e => h1 (e ▸ hx)
      exact (List.mem_erase_of_ne e).mpr (hs x (by simp [hx]))
    rw [List.length_erase_of_mem ha] at h3
    have h4 := List.length_pos_of_mem ha
    rw [List.length_cons]
    omega
theorem strict_nodup : ∀ {l : List Int}, l.Pairwise (· < ·) → l.Nodup
  | [], _ => .nil
  | a :: r, h => by
    obtain ⟨p, q⟩ := List.pairwise_cons.mp h
    exact List.nodup_cons.mpr ⟨fun m => by have := p a m; omega, strict_nodup q⟩

/-! ### a sketch with what is known of it -/
structure Nd where
  many : Int
  ms : List Mk
  bd : Int
  ks : List Int
  nm : List Int
def addB (room many : Int) (nm : List Int) : Int := if (nm.length : Int) ≤ room then 0 else if (many + room - 1) / room - 1 > 0 then (many + room - 1) / room - 1 else 0
def leafN (room : Int) (ks : List Int) : Nd := ⟨ks.length, thin room ks.length (exact_ ks), addB room ks.length (ks.foldl insK []), ks, ks.foldl insK []⟩
def pourN (room : Int) (x y : Nd) : Nd := ⟨x.many + y.many, thin room (x.many + y.many) (added x.many x.ms y.many y.ms), x.bd + y.bd + addB room (x.many + y.many) (y.nm.foldl insK x.nm), x.ks ++ y.ks, y.nm.foldl insK x.nm⟩
structure NdOk (room : Int) (n : Nd) : Prop where
  many : n.many = (n.ks.length : Int)
  good : Good n.ks n.ms
  len : (n.ms.length : Int) ≤ room
  gap : GapOk n.many n.bd 0 n.ms
  bd0 : 0 ≤ n.bd
  nd : n.nm.Nodup
  mem : ∀ x, x ∈ n.nm ↔ x ∈ n.ks
theorem bounded {room many O : Int} {ks nm : List Int} {ms : List Mk} (hr : 1 ≤ room) (hO : 0 ≤ O) (hm : many = (ks.length : Int)) (hs : (ms.map (·.k)).Pairwise (· < ·)) (hk : ∀ m ∈ ms, m.k ∈ ks) (hn : nm.Nodup) (hmem : ∀ x, x ∈ nm ↔ x ∈ ks) (g : GapOk many O 0 ms) :
    GapOk many (O + addB room many nm) 0 (thin room many ms) ∧ 0 ≤ addB room many nm := by
  unfold addB
  by_cases c : (nm.length : Int) ≤ room
  · rw [if_pos c]
    have h1 : (ms.map (·.k)).length ≤ nm.length := sub_len (strict_nodup hs) fun x hx => by
      obtain ⟨m, hm, rfl⟩ := List.mem_map.mp hx
      exact (hmem _).mpr (hk m hm)
    rw [List.length_map] at h1
    unfold thin
    rw [if_pos (by omega)]
    exact ⟨g.mono (by omega), Int.le_refl _⟩
  · rw [if_neg c]
    have h1 : nm.length ≤ ks.length := sub_len hn fun x hx => (hmem x).mp hx
    have hq : 1 ≤ (many + room - 1) / room := (Int.le_ediv_iff_mul_le (by omega)).mpr (by omega)
    have hmq : many ≤ room * ((many + room - 1) / room) := by
      have e := Int.mul_ediv_add_emod (many + room - 1) room
      have h2 := Int.emod_lt_of_pos (many + room - 1) (show 0 < room by omega)
      omega
    have t := thin_gap hr hO hq hmq g
    refine ⟨t.mono ?_, ?_⟩
    · split <;> omega
    · split <;> omega
theorem good_keys {ks : List Int} {ms : List Mk} (g : Good ks ms) : (ms.map (·.k)).Pairwise (· < ·) := List.pairwise_map.mpr (g.lt.imp fun h => h.1)
theorem leaf_ok {room : Int} (hr : 1 ≤ room) (ks : List Int) : NdOk room (leafN room ks) := by
  have g := exact_good ks
  have hm : ∀ x, x ∈ ks.foldl insK [] ↔ x ∈ ks := fun x => by
    rw [mem_ins]
    simp
  have hn : (ks.foldl insK []).Nodup := nd_ins .nil
  have b := bounded hr (Int.le_refl 0) rfl (good_keys g) g.mem hn hm (exact_gap ks)
  refine ⟨rfl, g.sub (thin_sub (by omega) _), thin_len (by omega) _, ?_, b.2, hn, hm⟩
  have h := b.1
  rw [Int.zero_add] at h
  exact h
theorem pour_ok {room : Int} (hr : 1 ≤ room) {x y : Nd} (hx : NdOk room x) (hy : NdOk room y) : NdOk room (pourN room x y) := by
  have e1 := hx.many
  have e2 := hy.many
  have g := added_good hx.good hy.good
  rw [← e1, ← e2] at g
  have hm : ∀ z, z ∈ y.nm.foldl insK x.nm ↔ z ∈ x.ks ++ y.ks := fun z => by
    rw [mem_ins, List.mem_append, hx.mem, hy.mem]
  have hn : (y.nm.foldl insK x.nm).Nodup := nd_ins hx.nd
  have hmany : x.many + y.many = ((x.ks ++ y.ks).length : Int) := by
    rw [List.length_append]
    omega
  have gp := added_gap hx.good.lt hy.good.lt hx.gap hy.gap
  have b0 := hx.bd0
  have b1 := hy.bd0
  have b := bounded hr (show 0 ≤ x.bd + y.bd by omega) hmany (good_keys g) g.mem hn hm gp
  have b2 := b.2
  refine ⟨hmany, g.sub (thin_sub (by omega) _), thin_len (by omega) _, b.1, ?_, hn, hm⟩
  show 0 ≤ x.bd + y.bd + addB room (x.many + y.many) (y.nm.foldl insK x.nm)
  omega

/-! ### trees -/
abbrev Stp := Option (List Int)
def stepN (room : Int) (st : List Nd) : Stp → List Nd
  | some ks => leafN room ks :: st
  | none => match st with
    | y :: x :: r => pourN room x y :: r
    | r => r
/-- so many on the pile: the tree leaves one -/
def wfT : Nat → List Stp → Prop
  | p, [] => p = 1
  | p, some _ :: r => wfT (p + 1) r
  | p, none :: r => 2 ≤ p ∧ wfT (p - 1) r
def itemsOf (t : List Stp) : List Int := t.flatMap fun s => s.getD []
def stAt (room : Int) (t : List Stp) (i : Nat) : List Nd := (t.take i).foldl (stepN room) []
structure StOk (room : Int) (t : List Stp) (i : Nat) (st : List Nd) : Prop where
  wf : wfT st.length (t.drop i)
  ok : ∀ n ∈ st, NdOk room n
  items : (st.reverse.flatMap (·.ks)) = itemsOf (t.take i)
theorem stAt_zero (room : Int) (t : List Stp) : stAt room t 0 = [] := rfl
theorem stAt_succ {room : Int} {t : List Stp} {i : Nat} {s : Stp} (h : t[i]? = some s) : stAt room t (i + 1) = stepN room (stAt room t i) s := by
  unfold stAt
  rw [List.take_add_one, h, List.foldl_append]
  rfl
theorem items_succ {t : List Stp} {i : Nat} {s : Stp} (h : t[i]? = some s) : itemsOf (t.take (i + 1)) = itemsOf (t.take i) ++ s.getD [] := by
  unfold itemsOf
  rw [List.take_add_one, h, List.flatMap_append]
  simp
theorem drop_at {t : List Stp} {i : Nat} {s : Stp} (h : t[i]? = some s) : t.drop i = s :: t.drop (i + 1) := by
  obtain ⟨hi, e⟩ := List.getElem?_eq_some_iff.mp h
  rw [List.drop_eq_getElem_cons hi, e]
theorem stOk {room : Int} (hr : 1 ≤ room) {t : List Stp} (hw : wfT 0 t) : ∀ i, i ≤ t.length → StOk room t i (stAt room t i)
  | 0, _ => ⟨hw, fun _ h => (by cases h), rfl⟩
  | i + 1, hi => by
    have ih := stOk hr hw i (by omega)
    have hs : t[i]? = some t[i] := List.getElem?_eq_getElem (by omega)
    rw [stAt_succ hs]
    have w := ih.wf
    rw [drop_at hs] at w
    have it := ih.items
    cases e : t[i] with
    | some ks =>
      rw [e] at w hs
      refine ⟨w, fun n hn => ?_, ?_⟩
      · rcases List.mem_cons.mp hn with q | hn
        · rw [q]
          exact leaf_ok hr ks
        · exact ih.ok n hn
      · rw [items_succ hs, ← it]
        show ((leafN room ks :: stAt room t i).reverse.flatMap (·.ks)) = _
        rw [List.reverse_cons, List.flatMap_append]
        simp [leafN]
    | none =>
      rw [e] at w hs
      obtain ⟨w1, w2⟩ := w
      cases h1 : stAt room t i with
      | nil =>
        rw [h1] at w1
        simp at w1
      | cons y r =>
        cases r with
        | nil =>
          rw [h1] at w1
          simp at w1
        | cons x r =>
          rw [h1] at w1 w2 it
          have o := ih.ok
          rw [h1] at o
          refine ⟨?_, fun n hn => ?_, ?_⟩
          · simpa [stepN] using w2
          · rcases List.mem_cons.mp (show n ∈ pourN room x y :: r from hn) with q | hn
            · rw [q]
              exact pour_ok hr (o x (by simp)) (o y (by simp))
            · exact o n (by simp [hn])
          · rw [items_succ hs, ← it]
            show ((pourN room x y :: r).reverse.flatMap (·.ks)) = _
            simp [pourN]
theorem stEnd {room : Int} (hr : 1 ≤ room) {t : List Stp} (hw : wfT 0 t) : ∃ n, stAt room t t.length = [n] ∧ NdOk room n ∧ n.ks = itemsOf t := by
  have h := stOk hr hw t.length (Nat.le_refl _)
  have w := h.wf
  rw [List.drop_length] at w
  have w' : (stAt room t t.length).length = 1 := w
  obtain ⟨n, e⟩ := List.length_eq_one_iff.mp w'
  have it := h.items
  rw [e, List.take_length] at it
  refine ⟨n, e, h.ok n (by rw [e]; simp), ?_⟩
  rw [← it]
  simp
end K22
/-! ### rules of our own -/
namespace K22
open PySem PySem.Spec PyProof.Rows L2
section
variable {X : Cx} {a b c e : Expr} {ta tb tc td : TE} {pos : Pos}
/-- a op1 b op2 c op3 d -/
def tChain3 (r r' r2 : R2) (ta tb tc td : TE) : TE := fun σ H Q => ta σ H fun x H1 => tb σ H1 fun y H2 => r x y H2 fun z H3 => ∃ k, z = .bl k ∧
  (if k = true then tc σ H3 fun w' H4 => r' y w' H4 fun z H5 => ∃ k, z = .bl k ∧ (if k = true then td σ H5 fun w2 H6 => r2 w' w2 H6 Q else Q (.bl false) H5) else Q (.bl false) H3)
theorem pe_chain3 {op op' op2 : CmpOp} {r r' r2 : R2} (ho : OpR X (compareOp op) r) (ho' : OpR X (compareOp op') r') (ho2 : OpR X (compareOp op2) r2) (ha : PE X a ta) (hb : PE X b tb) (hc : PE X c tc) (hd : PE X e td)
    (hm : lastMarks [op, op', op2] [b, c, e] = false := by with_unfolding_all rfl) : PE X (.Compare a [op, op', op2] [b, c, e] pos) (tChain3 r r' r2 ta tb tc td) := by
  refine ⟨fun pins s0 σ H0 Q I0 need => Compare_chain (thn (ha.run pins s0 σ H0 _ I0 need) fun va s1 ⟨x, H1, I1, rx, n1⟩ => chain_link (thn (hb.run pins s1 σ H1 _ I1 n1) fun vb s2 ⟨y, H2, I2, ry, n2⟩ =>
    thn (ho pins s2 σ H2 x y va vb _ I2 rx ry n2) fun d1 s3 ⟨_, H3, I3, r3, k1, hk1, n3⟩ => ?_)) hm⟩
  subst hk1
  cases r3
  refine wpAny_truthy_bool ?_
  cases k1
  · exact ite_ff ⟨.bl false, H3, I3, rfl, n3⟩
  refine ite_tt (chain_link (thn (hc.run pins s3 σ H3 _ I3 n3) fun vc s4 ⟨z, H4, I4, rz, n4⟩ => thn (ho' pins s4 σ H4 y z vb vc _ I4 ry rz n4) fun d2 s5 ⟨_, H5, I5, r5, k2, hk2, n5⟩ => ?_))
  subst hk2
  cases r5
  refine wpAny_truthy_bool ?_
  cases k2
  · exact ite_ff ⟨.bl false, H5, I5, rfl, n5⟩
  exact ite_tt (chain_last (thn (hd.run pins s5 σ H5 _ I5 n5) fun vd s6 ⟨u, H6, I6, ru, n6⟩ => ho2 pins s6 σ H6 z u vc vd Q I6 rz ru n6))
/-- sorted(d) of a dict of int keys, any number of them -/
def rSortedDI : List V → Hp → VK → Prop := fun xs H Q => ∃ (a : Addr) (kvs : List (Key × V)) (ks : List Int), xs = [.ref a] ∧ Rd H a (.dK kvs) ∧ kvs.map (·.1) = ks.map Sum.inl ∧
    ∀ (ys : List Int) (p : Addr), ys.Perm ks → ys.Pairwise (· ≤ ·) → H p = none → Q (.ref p) (upd H p (.lst (ys.map V.int)))
theorem ints_got {vs : List (Key × Value)} {ks : List Int} {got : Array Value} (hk : vs.map (·.1) = ks.map Sum.inl) (len : vs.length = ks.length) (hn : got.size = vs.length) (hg : ∀ (j : Nat) (v : Value), got[j]? = some v → ∃ (k : Key) (x : Value), vs[j]? = some (k, x) ∧ keyIs k v = true) : IntsAre got.toList ks := by
  refine ints_each (by rw [Array.length_toList]; omega) fun j v at_ => ?_
  rw [Array.getElem?_toList] at at_
  obtain ⟨k, x, there, is⟩ := hg j v at_
  have z : (vs.map (·.1))[j]? = (ks.map Sum.inl)[j]? := by rw [hk]
  rw [List.getElem?_map, List.getElem?_map, there] at z
  cases y : ks[j]? with
  | none =>
    rw [y] at z
    cases z
  | some n =>
    rw [y] at z
    obtain rfl : k = Sum.inl n := Option.some.inj z
    rcases keyIs_shape is with ⟨i, t, ei, ev⟩ | ⟨i, t, ei, ev⟩
    · exact ⟨n, t, rfl, by rw [ev, Sum.inl.inj ei]⟩
    · cases ei
theorem cr_sortedDI (calm : X.calm = true) : CallR X (.builtin "sorted") rSortedDI := by
  rintro pins s σ H _ us Q I vals ⟨a, kvs, ks, rfl, hd, names, fin⟩
  obtain ⟨_, rfl, rfl⟩ := vals1 vals
  obtain ⟨small, low, vs, kv, here⟩ := dk_rd I.hok hd
  obtain ⟨ep, place⟩ := here.dictAt
  have named := kv.keys.symm.trans names
  have len : vs.length = ks.length := by simpa using congrArg List.length named
  have fit : ks.length ≤ sizeLine := by rw [← len, ← kv.length] <;> exact small
  refine Calls.call_function_entry PyProof.Rows.kind_sorted PyProof.Rows.plain_sorted PyProof.Rows.entry_sorted (PyProof.Rows.args_sorted1 _) (show wpAny _ _ (Builtin.«sorted» _) _ _ _ from ?_)
  unfold Builtin.«sorted»
  refine wpAny_bind (wpAny_pure ?_ : wpAny _ _ (checkCount "sorted" 1 1 _) _ _ _)
  refine wpAny_bind (PySem.W.kdu_collect (PySem.W.kdl_dict (ep := ep) low) (I.ok.hd calm) place (by omega) fun hp tt got kept told => wpAny_bind (wpAny_newList ?_ (by rw [Array.length_toList, told.1, len]; exact fit)))
  have are : IntsAre got.toList ks := ints_got named len told.1 told.2
  have laid : (hp.push (seqObj "list" got.toList.toArray 0)).get? hp.objs.size = some (seqObj "list" got.toList.toArray 0) := Heap.get?_push_size hp rfl
  have inv : Inv X pins σ H { s with heap := hp, toks := tt } := I.kept kept
  have fit2 : got.toList.length ≤ sizeLine := by rw [Array.length_toList, told.1, len]; exact fit
  show wpAny _ _ _ _ _ ({ s with heap := hp.push (seqObj "list" got.toList.toArray 0), toks := tt } : Shared)
  refine wpAny_bind (wpAny_holding (wpAny_call_entry PyProof.Rows.slot_list_sort ⟨_, laid, rfl⟩ PyProof.Rows.entry_list_sort (SrtO.list_sort_ord SrtO.swo_int laid fit2 (fun sure => SrtO.ints_sortable are sure) fun out h1 h2 => ⟨_, rfl, ?_⟩) (PyProof.Rows.args_list_sort _)))
  obtain ⟨as, perm, asc⟩ := SrtO.ints_out are h1 h2
  obtain ⟨more, at2⟩ := PyProof.Rows.sortedHeap_at (vs := got.toList) (out := out.toArray) laid
  have ok : ObjOk X.prog X.w (upd H hp.objs.size (.lst ((out.map SrtO.iv).map V.int))) (PyProof.Rows.sortedHeap (hp.push (seqObj "list" got.toList.toArray 0)) hp.objs.size got.toList out.toArray) hp.objs.size (.lst ((out.map SrtO.iv).map V.int)) :=
    ⟨by rw [List.length_map, perm.length_eq]; exact fit, out, more, vals_of_ints as, at2⟩
  exact wpAny_pure ⟨_, rfl, .ref hp.objs.size, _, inv.laid (fun b u e => (PyProof.Rows.sortedHeap_old (Nat.ne_of_lt (Heap.lt_size e)) (by rw [size_push']; exact Nat.lt_succ_of_lt (Heap.lt_size e))).trans (Heap.get?_push_of_some _ e)) (Nat.le_refl _) ok, rfl, fin _ _ perm asc (inv.hok.fresh (Nat.le_refl _))⟩
/-- d.update(e), two dicts -/
def rUpd : V → List V → Hp → VK → Prop := fun x xs H Q => ∃ (a b : Addr) (kvs more : List (Key × V)), x = .ref a ∧ xs = [.ref b] ∧ a ≠ b ∧ H a = some (.dK kvs) ∧ H b = some (.dK more) ∧ kvs.length + more.length ≤ sizeLine ∧
  Q .non (upd H a (.dK (mergeK kvs more)))
theorem mt_dupd : MtR X "dict.update" rUpd := by
  intro pins s σ H x xs v us Q I rx rv h
  obtain ⟨a, b, kvs, more, rfl, rfl, hab, ha, hb, hsz, q⟩ := h
  cases rx
  rw [Vals.ref1 rv]
  obtain ⟨_, low, vs, kv, is⟩ := dk_of I.hok ha
  obtain ⟨_, low2, ws, kw, is2⟩ := dk_of I.hok hb
  have two : vs.length + ws.length ≤ sizeLine := by
    have e1 := kv.length
    have e2 := kw.length
    omega
  refine call_meetsIn PySem.F.slot_dict_update is.typeIs PySem.F.entry_dict_update (PySem.F.args_dict_update_2 _ _) (PySem.meets_dict_update (mixKind X.prog X.w) a b hab low2) ⟨vs, ws, is, is2, two, fun hp now _ old => ⟨.non, _, ?_, rfl, q⟩⟩
  refine d_write I (by rw [ha]; trivial) old ?_ (dk_new (Nat.le_trans (length_mergeK more kvs) hsz) low (kw.merge kv) now)
  obtain ⟨o, _, _, there, _⟩ := now
  exact ⟨o, there⟩
/-! the rules over a written part that is named -/
variable {K : PySem.W.Frag}
def rLenK (K : PySem.W.Frag) : List V → Hp → VK → Prop := fun xs H Q => ∃ p ys, xs = [.ref p] ∧ (SqL K H p ys ∨ SqT K H p ys) ∧ Q (.int ys.length) H
def rListK (K : PySem.W.Frag) : List V → Hp → VK → Prop := fun xs H Q => ∃ p ys, xs = [.ref p] ∧ (SqL K H p ys ∨ SqT K H p ys) ∧ ∀ l, H l = none → Q (.ref l) (upd H l (.lst ys))
def rTupK (K : PySem.W.Frag) : List V → Hp → VK → Prop := fun xs H Q => ∃ p ys, xs = [.ref p] ∧ ((SqL K H p ys ∧ ∀ l, H l = none → Q (.ref l) (upd H l (.tup ys))) ∨ (SqT K H p ys ∧ Q (.ref p) H))
theorem kIxL (h : X.K = K) : IxR X (rIxL K) := h ▸ ix_list
theorem kIxT (h : X.K = K) : IxR X (rIxT K) := h ▸ ix_tup
theorem kSlL (h : X.K = K) : SlR X (rSlL K) := h ▸ sl_list
theorem kSlT (h : X.K = K) : SlR X (rSlA K) := h ▸ sl_tupA
theorem kCatT (h : X.K = K) : OpR X (binaryOp .Add) (rCatA K) := h ▸ op_catA
theorem kIsi (h : X.K = K) : CallR X (.builtin "isinstance") (rIsi K) := h ▸ call_isi
theorem kLen (h : X.K = K) : CallR X (.builtin "len") (rLenK K) := h ▸ call_len_seq
theorem kListOf (h : X.K = K) : CallR X (.type "list") (rListK K) := h ▸ call_list_of
theorem kTupOf (h : X.K = K) : CallR X (.type "tuple") (rTupK K) := h ▸ call_tuple_of
theorem kAll (h : X.K = K) (hc : X.calm = true) : CallR X (.builtin "all") (rAll K) := h ▸ cr_all hc
theorem kMax (h : X.K = K) (hc : X.calm = true) : CallR X (.builtin "max") (rMax K) := h ▸ cr_max hc
theorem kSorted (h : X.K = K) : CallR X (.builtin "sorted") (rSortedI K) := h ▸ cr_sortedI
theorem kEqD (h : X.K = K) (hu : X.A.units + 64 < cLine) : OpR X (compareOp .Eq) (rEqD K) := h ▸ op_eqD hu
theorem kNeD (h : X.K = K) (hu : X.A.units + 64 < cLine) : OpR X (compareOp .NotEq) (rNeD K) := h ▸ op_neD hu
theorem kpi_list {tg l : Expr} {tl : TE} (h : X.K = K) (hl : PE X l tl) : PI X tg l (iList K tl) := h ▸ pi_list hl
theorem kpi_tup {tg l : Expr} {tl : TE} (h : X.K = K) (hl : PE X l tl) : PI X tg l (iTup K tl) := h ▸ pi_tup hl
theorem kpi_enum {ta : TA} {p pos tpos : Pos} {elts : List Expr} {kk : Nat} (h : X.K = K) (hg : Gl X "enumerate") (hm : X.mg "enumerate" = none) (ha : PA X [e] ta) (hs : starEach [e] X.env = [(false, eval e X.env)] := by rfl) :
    PI X (.Tuple elts kk tpos) (.Call (.Name "enumerate" p) [e] [] pos) (iEnum K ta) := h ▸ pi_enum hg hm ha hs
theorem kpg_tup {es : List Expr} {k : Nat} {t : TGs} {n : Nat} (h : X.K = K) (hc : X.calm = true) (hp : PGs X es t)
    (hn : (assignEach es X.env).length = n := by rfl) (hst : (assignEach es X.env).findIdx? (·.1) = none := by rfl) : PG X (.Tuple es k pos) (gTup K n t) := h ▸ pg_tup hc hp hn hst
variable {to : TE} {t : TA} {T : String} {r : V → List V → Hp → VK → Prop}
theorem kBM0 (h : X.K = K) (p : PE X e (tBM0 X.K T r to)) : PE X e (tBM0 K T r to) := h ▸ p
theorem kBM (h : X.K = K) (p : PE X e (tBM X.K T r to t)) : PE X e (tBM K T r to t) := h ▸ p
end
end K22
/-! ### worlds: what never changes (G) within the abstract heap (H); data -/
namespace K22
open PySem PySem.Spec PyProof.Rows L2
abbrev Ex (H H' : Hp) : Prop := Evl.Ex H H'
theorem Ex.refl (H : Hp) : Ex H H := Evl.Ex.refl H
theorem Ex.trans {H H1 H2 : Hp} (a : Ex H H1) (b : Ex H1 H2) : Ex H H2 := Evl.Ex.trans a b
theorem Ex.back {H H' : Hp} {p : Addr} (e : Ex H H') (h : H' p = none) : H p = none := Evl.fresh_back e h
mutual
/-- the value v stands for the data d in H -/
inductive Dq (H : Hp) : V → PyData → Prop
  | non : Dq H .non .none
  | bl (b : Bool) : Dq H (.bl b) (.bool b)
  | int (i : Int) : Dq H (.int i) (.int i)
  | str (x : Str) : Dq H (.str x) (.str x)
  | lst {a : Addr} {xs : List V} {ds : List PyData} : H a = some (.lst xs) → DqAll H xs ds → Dq H (.ref a) (.list ds)
  | tup {a : Addr} {xs : List V} {ds : List PyData} : H a = some (.tup xs) → DqAll H xs ds → Dq H (.ref a) (.tuple ds)
  | dct {a : Addr} {ks : List Int} : H a = some (.dK (ks.map fun k => (Sum.inl k, V.bl true))) → Dq H (.ref a) (.dict (ks.map fun k => (.int k, .bool true)))
inductive DqAll (H : Hp) : List V → List PyData → Prop
  | nil : DqAll H [] []
  | cons {v : V} {vs : List V} {d : PyData} {ds : List PyData} : Dq H v d → DqAll H vs ds → DqAll H (v :: vs) (d :: ds)
end
mutual
theorem Dq.mono {H H' : Hp} (e : Ex H H') : ∀ {v : V} {d : PyData}, Dq H v d → Dq H' v d
  | _, _, .non => .non
  | _, _, .bl b => .bl b
  | _, _, .int i => .int i
  | _, _, .str x => .str x
  | _, _, .lst h r => .lst (e _ _ h) (DqAll.mono e r)
  | _, _, .tup h r => .tup (e _ _ h) (DqAll.mono e r)
  | _, _, .dct h => .dct (e _ _ h)
theorem DqAll.mono {H H' : Hp} (e : Ex H H') : ∀ {vs : List V} {ds : List PyData}, DqAll H vs ds → DqAll H' vs ds
  | _, _, .nil => .nil
  | _, _, .cons h r => .cons (Dq.mono e h) (DqAll.mono e r)
end
theorem DqAll.length {H : Hp} : ∀ {vs : List V} {ds : List PyData}, DqAll H vs ds → vs.length = ds.length
  | _, _, .nil => rfl
  | _, _, .cons _ r => congrArg Nat.succ (DqAll.length r)
theorem DqAll.get {H : Hp} : ∀ {vs : List V} {ds : List PyData} {i : Nat} {d : PyData}, DqAll H vs ds → ds[i]? = some d → ∃ v, vs[i]? = some v ∧ Dq H v d
  | _, _, _, _, .nil, e => by simp at e
  | _, _, 0, _, .cons h _, e => by
    simp at e
    subst e
    exact ⟨_, rfl, h⟩
  | _, _, i + 1, d, .cons _ r, e => by
    obtain ⟨v, h1, h2⟩ := DqAll.get (i := i) (d := d) r (by simpa using e)
    exact ⟨v, by simpa using h1, h2⟩
theorem DqAll.get' {H : Hp} : ∀ {vs : List V} {ds : List PyData} {i : Nat} {v : V}, DqAll H vs ds → vs[i]? = some v → ∃ d, ds[i]? = some d ∧ Dq H v d
  | _, _, _, _, .nil, e => by simp at e
  | _, _, 0, _, .cons h _, e => by
    simp at e
    subst e
    exact ⟨_, rfl, h⟩
  | _, _, i + 1, v, .cons _ r, e => by
    obtain ⟨d, h1, h2⟩ := DqAll.get' (i := i) (v := v) r (by simpa using e)
    exact ⟨d, by simpa using h1, h2⟩
theorem DqAll.append {H : Hp} : ∀ {vs ws : List V} {ds es : List PyData}, DqAll H vs ds → DqAll H ws es → DqAll H (vs ++ ws) (ds ++ es)
  | _, _, _, _, .nil, s => s
  | _, _, _, _, .cons h r, s => .cons h (DqAll.append r s)
theorem DqAll.snoc {H : Hp} {vs : List V} {v : V} {ds : List PyData} {d : PyData} (r : DqAll H vs ds) (h : Dq H v d) : DqAll H (vs ++ [v]) (ds ++ [d]) := r.append (.cons h .nil)
theorem DqAll.take {H : Hp} : ∀ {vs : List V} {ds : List PyData} (n : Nat), DqAll H vs ds → DqAll H (vs.take n) (ds.take n)
  | _, _, 0, _ => .nil
  | _, _, _ + 1, .nil => .nil
  | _, _, n + 1, .cons h r => .cons h (DqAll.take n r)
theorem DqAll.drop {H : Hp} : ∀ {vs : List V} {ds : List PyData} (n : Nat), DqAll H vs ds → DqAll H (vs.drop n) (ds.drop n)
  | _, _, 0, r => r
  | _, _, _ + 1, .nil => .nil
  | _, _, n + 1, .cons _ r => DqAll.drop n r
theorem DqAll.dropLast {H : Hp} {vs : List V} {ds : List PyData} (r : DqAll H vs ds) : DqAll H vs.dropLast ds.dropLast := by
  rw [List.dropLast_eq_take, List.dropLast_eq_take, r.length]
  exact r.take _
theorem DqAll.ints {H : Hp} : ∀ {vs : List V} {ns : List Int}, DqAll H vs (ns.map PyData.int) → vs = ns.map V.int
  | _, [], .nil => rfl
  | _, n :: ns, .cons (.int _) r => congrArg (V.int n :: ·) (DqAll.ints r)
theorem DqAll.of_ints {H : Hp} : ∀ (ns : List Int), DqAll H (ns.map V.int) (ns.map PyData.int)
  | [] => .nil
  | n :: ns => .cons (.int n) (DqAll.of_ints ns)
theorem DqAll.bls {H : Hp} : ∀ {vs : List V} {ns : List Bool}, DqAll H vs (ns.map PyData.bool) → vs = ns.map V.bl
  | _, [], .nil => rfl
  | _, n :: ns, .cons (.bl _) r => congrArg (V.bl n :: ·) (DqAll.bls r)
/-- as the library's own data -/
theorem Dq.dp {K : PySem.W.Frag} {H : Hp} {v : V} {d : PyData} (h : Dq H v d) : (∀ kvs, d ≠ .dict kvs) → (∀ ds, (d = .list ds ∨ d = .tuple ds) → ∀ vs, DqAll H vs ds → DpAll K H vs ds) → Dp K H v d := fun h0 h1 => by
  cases h with
  | non => exact .non
  | bl b => exact .bl b
  | int i => exact .int i
  | str x => exact .str x
  | lst h r => exact .lst (SqL.of h) (h1 _ (.inl rfl) _ r)
  | tup h r => exact .tup (SqT.of h) (h1 _ (.inr rfl) _ r)
  | dct h => exact absurd rfl (h0 _)
theorem dp_ints {K : PySem.W.Frag} {H : Hp} : ∀ {vs : List V} {ns : List Int}, DqAll H vs (ns.map PyData.int) → DpAll K H vs (ns.map PyData.int)
  | _, [], .nil => .nil
  | _, n :: ns, .cons (.int _) r => .cons (.int n) (dp_ints r)
/-- a pair of ints -/
theorem Dq.dp2 {K : PySem.W.Frag} {H : Hp} {v : V} {p q : Int} (h : Dq H v (.tuple [.int p, .int q])) : Dp K H v (.tuple [.int p, .int q]) :=
  h.dp (fun _ e => by cases e) fun ds e vs r => by
    rcases e with e | e
    · cases e
    · cases e
      exact dp_ints (ns := [p, q]) r

/-! ### worlds -/
structure Wd where
  G : Hp
  H : Hp
structure Wd.le (W W' : Wd) : Prop where
  g : Ex W.G W'.G
  h : Ex W.H W'.H
  s : Ex W'.G W'.H
  n : ∀ a, W.G a = none → W.H a ≠ none → W'.G a = none
theorem Wd.le.refl {W : Wd} (s : Ex W.G W.H) : W.le W := ⟨Ex.refl _, Ex.refl _, s, fun _ h _ => h⟩
theorem Wd.le.trans {W W1 W2 : Wd} (a : W.le W1) (b : W1.le W2) : W.le W2 := ⟨a.g.trans b.g, a.h.trans b.h, b.s, fun x h1 h2 => b.n x (a.n x h1 h2) fun e => by
  cases q : W.H x with
  | none => exact h2 q
  | some o =>
    rw [a.h x o q] at e
    cases e⟩
theorem Wd.le.rf {W W1 : Wd} (a : W.le W1) : W1.le W1 := .refl a.s
/-- a thing that never changes is laid -/
abbrev Wd.new (W : Wd) (p : Addr) (o : HO) : Wd := ⟨upd W.G p o, upd W.H p o⟩
/-- a thing that changes is laid, or changed -/
abbrev Wd.set (W : Wd) (p : Addr) (o : HO) : Wd := ⟨W.G, upd W.H p o⟩
/-- a thing that changed changes no more -/
abbrev Wd.frz (W : Wd) (p : Addr) (o : HO) : Wd := ⟨upd W.G p o, W.H⟩
theorem Ex.up {H H' : Hp} {p : Addr} {o : HO} (e : Ex H H') (h : H p = none) : Ex H (upd H' p o) := fun a u ha => by
  rw [upd_ne (ne_of_none ha h)]
  exact e a u ha
theorem Ex.upup {H H' : Hp} {p : Addr} {o : HO} (e : Ex H H') : Ex (upd H p o) (upd H' p o) := fun a u ha => by
  by_cases c : a = p
  · subst c
    rw [upd_same] at ha ⊢
    exact ha
  · rw [upd_ne c] at ha ⊢
    exact e a u ha
theorem le_new {W0 W : Wd} {p : Addr} {o : HO} (e : W0.le W) (h : W.H p = none) : W0.le (W.new p o) := by
  have g0 := e.s.back h
  refine ⟨e.g.up (e.g.back g0), e.h.up (e.h.back h), e.s.upup, fun a h1 h2 => ?_⟩
  have c : a ≠ p := fun c => h2 (by rw [c]; exact e.h.back h)
  show upd W.G p o a = none
  rw [upd_ne c]
  exact e.n a h1 h2
theorem le_set {W0 W : Wd} {p : Addr} {o : HO} (e : W0.le W) (h0 : W0.H p = none) (hg : W.G p = none) : W0.le (W.set p o) :=
  ⟨e.g, e.h.up h0, e.s.up hg, e.n⟩
theorem le_laid {W0 W : Wd} {p : Addr} {o : HO} (e : W0.le W) (h : W.H p = none) : W0.le (W.set p o) := le_set e (e.h.back h) (e.s.back h)
theorem le_frz {W0 W : Wd} {p : Addr} {o : HO} (e : W0.le W) (h0 : W0.H p = none) (hg : W.G p = none) (hh : W.H p = some o) : W0.le (W.frz p o) := by
  refine ⟨e.g.up (e.g.back hg), e.h, fun a u ha => ?_, fun a h1 h2 => ?_⟩
  · by_cases c : a = p
    · subst c
      have q : upd W.G a o a = some u := ha
      rw [upd_same] at q
      cases q
      exact hh
    · have q : upd W.G p o a = some u := ha
      rw [upd_ne c] at q
      exact e.s a u q
  · have c : a ≠ p := fun c => h2 (by rw [c]; exact h0)
    show upd W.G p o a = none
    rw [upd_ne c]
    exact e.n a h1 h2
/-- a thing that is no part of what never changes stays so -/
theorem Wd.le.out {W W1 : Wd} {l : Addr} {o : HO} (e : W.le W1) (hg : W.G l = none) (hh : W.H l = some o) : W1.G l = none := e.n l hg (by rw [hh]; exact fun z => nomatch z)

/-! ### what a term hands back, in all later worlds -/
def EvD (te : TE) (σ : L2.St) (W : Wd) (d : PyData) : Prop := ∀ W1, W.le W1 → ∀ Q : VK, (∀ v W2, W1.le W2 → Dq W2.G v d → Q v W2.H) → te σ W1.H Q
def EvV (te : TE) (σ : L2.St) (W : Wd) (v : V) : Prop := ∀ W1, W.le W1 → ∀ Q : VK, (∀ W2, W1.le W2 → Q v W2.H) → te σ W1.H Q
def EvB (tt : TT) (σ : L2.St) (W : Wd) (b : Bool) : Prop := ∀ W1, W.le W1 → ∀ Q : Bool → Hp → Prop, (∀ W2, W1.le W2 → Q b W2.H) → tt σ W1.H Q
def EvA (ta : TA) (σ : L2.St) (W : Wd) (ds : List PyData) : Prop := ∀ W1, W.le W1 → ∀ Q : List V → Hp → Prop, (∀ vs W2, W1.le W2 → DqAll W2.G vs ds → Q vs W2.H) → ta σ W1.H Q
/-- the first argument a known value -/
def EvA1 (ta : TA) (σ : L2.St) (W : Wd) (v : V) (ds : List PyData) : Prop := ∀ W1, W.le W1 → ∀ Q : List V → Hp → Prop, (∀ vs W2, W1.le W2 → DqAll W2.G vs ds → Q (v :: vs) W2.H) → ta σ W1.H Q
def EvO (to : TO) (σ : L2.St) (W : Wd) (o : Option Int) : Prop := ∀ W1, W.le W1 → ∀ Q : Option Int → Hp → Prop, (∀ W2, W1.le W2 → Q o W2.H) → to σ W1.H Q
section
variable {K : PySem.W.Frag} {σ : L2.St} {W W' : Wd} {ta tb tc td te : TE} {t u : TT} {tr : TA} {x y z v : V} {d d1 d2 : PyData} {ds es : List PyData} {i j k : Int} {b c : Bool}
theorem EvD.mono (e : W.le W') (h : EvD te σ W d) : EvD te σ W' d := fun W1 a Q q => h W1 (e.trans a) Q q
theorem EvB.mono (e : W.le W') (h : EvB t σ W b) : EvB t σ W' b := fun W1 a Q q => h W1 (e.trans a) Q q
theorem ev_var {n : Nat} (h : σ[n]? = some (some v)) (hv : Dq W.G v d) : EvD (tVar n) σ W d := fun W1 e _ q => ⟨v, h, q v W1 e.rf (hv.mono e.g)⟩
theorem ev_vV {n : Nat} (h : σ[n]? = some (some v)) : EvV (tVar n) σ W v := fun W1 e _ q => ⟨v, h, q W1 e.rf⟩
theorem ev_int : EvD (tC (.int i)) σ W (.int i) := fun W1 e _ q => q _ W1 e.rf (.int i)
theorem ev_bl : EvD (tC (.bl b)) σ W (.bool b) := fun W1 e _ q => q _ W1 e.rf (.bl b)
theorem ev_non : EvD (tC .non) σ W .none := fun W1 e _ q => q _ W1 e.rf .non
theorem ev_str {s : Str} : EvD (tC (.str s)) σ W (.str s) := fun W1 e _ q => q _ W1 e.rf (.str s)
theorem ev_opI {f : Int → Int → Int} (ha : EvD ta σ W (.int i)) (hb : EvD tb σ W (.int j)) : EvD (tOp (rI0 fun i j => .int (f i j)) ta tb) σ W (.int (f i j)) := fun W1 e Q q =>
  ha W1 e _ fun v1 W2 e2 h2 => hb W2 (e.trans e2) _ fun v2 W3 e3 h3 => by
    cases h2
    cases h3
    exact ⟨i, j, rfl, rfl, q _ W3 (e2.trans e3) (.int _)⟩
theorem ev_opB {f : Int → Int → Bool} (ha : EvD ta σ W (.int i)) (hb : EvD tb σ W (.int j)) : EvD (tOp (rI0 fun i j => .bl (f i j)) ta tb) σ W (.bool (f i j)) := fun W1 e Q q =>
  ha W1 e _ fun v1 W2 e2 h2 => hb W2 (e.trans e2) _ fun v2 W3 e3 h3 => by
    cases h2
    cases h3
    exact ⟨i, j, rfl, rfl, q _ W3 (e2.trans e3) (.bl _)⟩
theorem ev_opC {C : Int → Int → Prop} {f : Int → Int → Int} (hc : C i j) (ha : EvD ta σ W (.int i)) (hb : EvD tb σ W (.int j)) : EvD (tOp (rI C fun i j => .int (f i j)) ta tb) σ W (.int (f i j)) := fun W1 e Q q =>
  ha W1 e _ fun v1 W2 e2 h2 => hb W2 (e.trans e2) _ fun v2 W3 e3 h3 => by
    cases h2
    cases h3
    exact ⟨i, j, rfl, rfl, hc, q _ W3 (e2.trans e3) (.int _)⟩
theorem ev_mulL (hi : -(2 ^ 64) < i ∧ i < 2 ^ 64) (ha : EvD ta σ W (.int i)) (hb : EvD tb σ W (.int j)) : EvD (tOp (rI CMul fun i j => .int (i * j)) ta tb) σ W (.int (i * j)) := ev_opC (f := fun i j => i * j) (.inl hi) ha hb
theorem ev_mulR (hj : -(2 ^ 64) < j ∧ j < 2 ^ 64) (ha : EvD ta σ W (.int i)) (hb : EvD tb σ W (.int j)) : EvD (tOp (rI CMul fun i j => .int (i * j)) ta tb) σ W (.int (i * j)) := ev_opC (f := fun i j => i * j) (.inr hj) ha hb
theorem ev_neg (ha : EvD ta σ W (.int i)) : EvD (tUn (rU fun i => .int (-i)) ta) σ W (.int (-i)) := fun W1 e Q q =>
  ha W1 e _ fun v1 W2 e2 h2 => by
    cases h2
    exact ⟨i, rfl, q _ W2 e2 (.int _)⟩
theorem ev_eqI (ha : EvD ta σ W (.int i)) (hb : EvD tb σ W (.int j)) : EvD (tOp rEq ta tb) σ W (.bool (decide (i = j))) := fun W1 e Q q =>
  ha W1 e _ fun v1 W2 e2 h2 => hb W2 (e.trans e2) _ fun v2 W3 e3 h3 => by
    cases h2
    cases h3
    refine ⟨rfl, ?_⟩
    have q1 := q (.bl (decide (i = j))) W3 (e2.trans e3) (.bl _)
    rw [dec_int]
    rw [Bool.beq_eq_decide_eq]
    exact q1
theorem ev_neI (ha : EvD ta σ W (.int i)) (hb : EvD tb σ W (.int j)) : EvD (tOp rNe ta tb) σ W (.bool (!decide (i = j))) := fun W1 e Q q =>
  ha W1 e _ fun v1 W2 e2 h2 => hb W2 (e.trans e2) _ fun v2 W3 e3 h3 => by
    cases h2
    cases h3
    refine ⟨rfl, ?_⟩
    have q1 := q (.bl (!decide (i = j))) W3 (e2.trans e3) (.bl _)
    rw [dec_int]
    rw [Bool.beq_eq_decide_eq]
    exact q1
theorem ev_eqS {p r : Str} (ha : EvD ta σ W (.str p)) (hb : EvD tb σ W (.str r)) : EvD (tOp rEq ta tb) σ W (.bool (decide (p = r))) := fun W1 e Q q =>
  ha W1 e _ fun v1 W2 e2 h2 => hb W2 (e.trans e2) _ fun v2 W3 e3 h3 => by
    cases h2
    cases h3
    refine ⟨rfl, ?_⟩
    have q1 := q (.bl (decide (p = r))) W3 (e2.trans e3) (.bl _)
    have e : decide (V.str p = V.str r) = decide (p = r) := by
      by_cases c : p = r
      · subst c
        rw [decide_eq_true rfl, decide_eq_true rfl]
      · rw [decide_eq_false c, decide_eq_false fun z => c (V.str.inj z)]
    rw [e]
    exact q1
/-- is None, is not None -/
def isNon : PyData → Bool
  | .none => true
  | _ => false
theorem dq_isNon {H : Hp} (h : Dq H v d) : decide (v = .non) = isNon d := by
  cases h <;> rfl
theorem ev_isN (ha : EvD ta σ W d) : EvD (tOp (fun x y H Q => y = .non ∧ Q (.bl (decide (x = .non))) H) ta (tC .non)) σ W (.bool (isNon d)) := fun W1 e Q q =>
  ha W1 e _ fun v1 W2 e2 h2 => by
    refine ⟨rfl, ?_⟩
    rw [dq_isNon h2]
    exact q _ W2 e2 (.bl _)
theorem ev_notN (ha : EvD ta σ W d) : EvD (tOp (fun x y H Q => y = .non ∧ Q (.bl (!decide (x = .non))) H) ta (tC .non)) σ W (.bool (!isNon d)) := fun W1 e Q q =>
  ha W1 e _ fun v1 W2 e2 h2 => by
    refine ⟨rfl, ?_⟩
    rw [dq_isNon h2]
    exact q _ W2 e2 (.bl _)
/-- == of pairs of ints -/
theorem ev_eqP {p r p' r' : Int} (ha : EvD ta σ W (.tuple [.int p, .int r])) (hb : EvD tb σ W (.tuple [.int p', .int r'])) : EvD (tOp (rEqD K) ta tb) σ W (.bool (decide (p = p' ∧ r = r'))) := fun W1 e Q q =>
  ha W1 e _ fun v1 W2 e2 h2 => hb W2 (e.trans e2) _ fun v2 W3 e3 h3 => by
    refine ⟨_, _, ((h2.mono e3.g).mono e3.s).dp2, (h3.mono e3.s).dp2, rfl, rfl, ?_⟩
    have x : PyData.eqv (.tuple [.int p, .int r]) (.tuple [.int p', .int r']) = decide (p = p' ∧ r = r') := by
      simp [PyData.eqv, PyData.eqvAll, Bool.beq_eq_decide_eq]
    rw [x]
    exact q _ W3 (e2.trans e3) (.bl _)
theorem ev_neP {p r p' r' : Int} (ha : EvD ta σ W (.tuple [.int p, .int r])) (hb : EvD tb σ W (.tuple [.int p', .int r'])) : EvD (tOp (rNeD K) ta tb) σ W (.bool (!decide (p = p' ∧ r = r'))) := fun W1 e Q q =>
  ha W1 e _ fun v1 W2 e2 h2 => hb W2 (e.trans e2) _ fun v2 W3 e3 h3 => by
    refine ⟨_, _, ((h2.mono e3.g).mono e3.s).dp2, (h3.mono e3.s).dp2, rfl, rfl, ?_⟩
    have x : PyData.eqv (.tuple [.int p, .int r]) (.tuple [.int p', .int r']) = decide (p = p' ∧ r = r') := by
      simp [PyData.eqv, PyData.eqvAll, Bool.beq_eq_decide_eq]
    rw [x]
    exact q _ W3 (e2.trans e3) (.bl _)
/-! ### tests -/
theorem eb_test (h : EvD te σ W (.bool b)) : EvB (tTest te) σ W b := fun W1 e _ q => h W1 e _ fun v W2 e2 h2 => by
  cases h2
  exact ⟨b, rfl, q W2 e2⟩
theorem eb_B (h : EvD te σ W (.bool b)) : EvB (tB te) σ W b := fun W1 e _ q => h W1 e _ fun v W2 e2 h2 => by
  cases h2
  exact ⟨b, rfl, q W2 e2⟩
theorem eb_and (h1 : EvB t σ W b) (h2 : b = true → EvB u σ W c) : EvB (tAnd t u) σ W (b && c) := fun W1 e Q q => h1 W1 e _ fun W2 e2 => by
  cases b with
  | true =>
    show u σ W2.H Q
    exact h2 rfl W2 (e.trans e2) Q fun W3 e3 => q W3 (e2.trans e3)
  | false =>
    show Q false W2.H
    exact q W2 e2
theorem eb_or (h1 : EvB t σ W b) (h2 : b = false → EvB u σ W c) : EvB (tOr t u) σ W (b || c) := fun W1 e Q q => h1 W1 e _ fun W2 e2 => by
  cases b with
  | true =>
    show Q true W2.H
    exact q W2 e2
  | false =>
    show u σ W2.H Q
    exact h2 rfl W2 (e.trans e2) Q fun W3 e3 => q W3 (e2.trans e3)
theorem eb_not (h : EvB t σ W b) : EvB (tNot t) σ W (!b) := fun W1 e _ q => h W1 e _ fun W2 e2 => q W2 e2
theorem eb_is (h : EvB t σ W b) (e : b = c) : EvB t σ W c := e ▸ h
theorem eb_yes (s : Ex W.G W.H) : EvB tYes σ W true := fun W1 e _ q => q W1 e.rf
theorem ev_is (h : EvD te σ W d) (e : d = d1) : EvD te σ W d1 := e ▸ h
theorem ev_andV (h1 : EvD ta σ W (.bool b)) (h2 : b = true → EvD tb σ W (.bool c)) : EvD (tAndV ta tb) σ W (.bool (b && c)) := fun W1 e Q q => h1 W1 e _ fun v W2 e2 hv => by
  cases hv
  refine ⟨b, rfl, ?_⟩
  cases b with
  | true => exact h2 rfl W2 (e.trans e2) Q fun v W3 e3 => q v W3 (e2.trans e3)
  | false => exact q _ W2 e2 (.bl false)
theorem ev_orV (h1 : EvD ta σ W (.bool b)) (h2 : b = false → EvD tb σ W (.bool c)) : EvD (tOrV ta tb) σ W (.bool (b || c)) := fun W1 e Q q => h1 W1 e _ fun v W2 e2 hv => by
  cases hv
  refine ⟨b, rfl, ?_⟩
  cases b with
  | true => exact q _ W2 e2 (.bl true)
  | false => exact h2 rfl W2 (e.trans e2) Q fun v W3 e3 => q v W3 (e2.trans e3)
theorem ev_notV (h1 : EvD ta σ W (.bool b)) : EvD (tNotV ta) σ W (.bool (!b)) := fun W1 e Q q => h1 W1 e _ fun v W2 e2 hv => by
  cases hv
  exact ⟨b, rfl, q _ W2 e2 (.bl _)⟩
theorem ev_if (h : EvB t σ W b) (h1 : b = true → EvD ta σ W d) (h2 : b = false → EvD tb σ W d) : EvD (tIf t ta tb) σ W d := fun W1 e Q q => h W1 e _ fun W2 e2 => by
  cases b with
  | true =>
    show ta σ W2.H Q
    exact h1 rfl W2 (e.trans e2) Q fun v W3 e3 => q v W3 (e2.trans e3)
  | false =>
    show tb σ W2.H Q
    exact h2 rfl W2 (e.trans e2) Q fun v W3 e3 => q v W3 (e2.trans e3)
/-- a op b op' c, ints -/
theorem ev_chain {f g : Int → Int → Bool} (ha : EvD ta σ W (.int i)) (hb : EvD tb σ W (.int j)) (hc : f i j = true → EvD tc σ W (.int k)) :
    EvD (tChain (rI0 fun i j => .bl (f i j)) (rI0 fun i j => .bl (g i j)) ta tb tc) σ W (.bool (f i j && g j k)) := fun W1 e Q q =>
  ha W1 e _ fun v1 W2 e2 h2 => hb W2 (e.trans e2) _ fun v2 W3 e3 h3 => by
    cases h2
    cases h3
    refine ⟨i, j, rfl, rfl, f i j, rfl, ?_⟩
    cases hf : f i j with
    | true =>
      rw [if_pos rfl]
      refine hc hf W3 ((e.trans e2).trans e3) _ fun v4 W4 e4 h4 => ?_
      cases h4
      refine ⟨j, k, rfl, rfl, ?_⟩
      have q1 := q (.bl (g j k)) W4 ((e2.trans e3).trans e4) (by rw [hf]; exact .bl _)
      exact q1
    | false =>
      rw [if_neg Bool.false_ne_true]
      exact q _ W3 (e2.trans e3) (by rw [hf]; exact .bl _)
theorem ev_chain3 {l : Int} {f g h : Int → Int → Bool} (ha : EvD ta σ W (.int i)) (hb : EvD tb σ W (.int j)) (hc : EvD tc σ W (.int k)) (hd : EvD td σ W (.int l)) :
    EvD (tChain3 (rI0 fun i j => .bl (f i j)) (rI0 fun i j => .bl (g i j)) (rI0 fun i j => .bl (h i j)) ta tb tc td) σ W (.bool (f i j && (g j k && h k l))) := fun W1 e Q q =>
  ha W1 e _ fun v1 W2 e2 h2 => hb W2 (e.trans e2) _ fun v2 W3 e3 h3 => by
    cases h2
    cases h3
    refine ⟨i, j, rfl, rfl, f i j, rfl, ?_⟩
    cases hf : f i j with
    | true =>
      rw [if_pos rfl]
      refine hc W3 ((e.trans e2).trans e3) _ fun v4 W4 e4 h4 => ?_
      cases h4
      refine ⟨j, k, rfl, rfl, g j k, rfl, ?_⟩
      cases hg : g j k with
      | true =>
        rw [if_pos rfl]
        refine hd W4 (((e.trans e2).trans e3).trans e4) _ fun v5 W5 e5 h5 => ?_
        cases h5
        refine ⟨k, l, rfl, rfl, ?_⟩
        exact q (.bl (h k l)) W5 (((e2.trans e3).trans e4).trans e5) (by rw [hf, hg]; exact .bl _)
      | false =>
        rw [if_neg Bool.false_ne_true]
        exact q _ W4 ((e2.trans e3).trans e4) (by rw [hf, hg]; exact .bl _)
    | false =>
      rw [if_neg Bool.false_ne_true]
      exact q _ W3 (e2.trans e3) (by rw [hf]; exact .bl _)

/-! ### arguments -/
theorem ea_nil : EvA tNil σ W [] := fun W1 e _ q => q [] W1 e.rf .nil
theorem ea_cons (h : EvD te σ W d) (hr : EvA tr σ W ds) : EvA (tCons te tr) σ W (d :: ds) := fun W1 e _ q =>
  h W1 e _ fun v W2 e2 h2 => hr W2 (e.trans e2) _ fun vs W3 e3 h3 => q _ W3 (e2.trans e3) (.cons (h2.mono e3.g) h3)
theorem ea1 (h : EvV te σ W v) (hr : EvA tr σ W ds) : EvA1 (tCons te tr) σ W v ds := fun W1 e _ q =>
  h W1 e _ fun W2 e2 => hr W2 (e.trans e2) _ fun vs W3 e3 h3 => q _ W3 (e2.trans e3) h3

/-! ### tuples, lists -/
theorem szle {n : Nat} (h : n ≤ 100000) : n ≤ sizeLine := Nat.le_trans h (by decide)
theorem szlt {n : Nat} (h : n < 100000) : n < sizeLine := Nat.lt_of_lt_of_le h (by decide)
theorem ev_tup (h : EvA tr σ W ds) (hl : ds.length ≤ 100000) : EvD (tTup tr) σ W (.tuple ds) := fun W1 e _ q =>
  h W1 e _ fun vs W2 e2 h2 => ⟨szle (by rw [h2.length]; exact hl), fun p hp => q _ (W2.new p (.tup vs)) (le_new e2 hp) (.tup upd_same (h2.mono ((Ex.refl W2.G).up (e2.s.back hp))))⟩
theorem ev_lst (h : EvA tr σ W ds) (hl : ds.length ≤ 100000) : EvD (tLst tr) σ W (.list ds) := fun W1 e _ q =>
  h W1 e _ fun vs W2 e2 h2 => ⟨szle (by rw [h2.length]; exact hl), fun p hp => q _ (W2.new p (.lst vs)) (le_new e2 hp) (.lst upd_same (h2.mono ((Ex.refl W2.G).up (e2.s.back hp))))⟩
theorem atI_all {H : Hp} {vs : List V} (r : DqAll H vs ds) (h : atI ds i = some d) : ∃ v, atI vs i = some v ∧ Dq H v d := by
  unfold atI at h ⊢
  rw [← r.length] at h
  cases e : ixN vs.length i with
  | none =>
    rw [e] at h
    cases h
  | some m =>
    rw [e] at h
    exact r.get h
theorem ev_ixT (hi : atI ds i = some d) (ha : EvD ta σ W (.tuple ds)) (hb : EvD tb σ W (.int i)) : EvD (tOp (rIxT K) ta tb) σ W d := fun W1 e Q q =>
  ha W1 e _ fun v1 W2 e2 h2 => hb W2 (e.trans e2) _ fun v2 W3 e3 h3 => by
    cases h3
    cases h2.mono e3.g with
    | tup h r =>
      obtain ⟨v, hv, hd⟩ := atI_all r hi
      exact ⟨_, _, i, v, rfl, rfl, SqT.of (e3.s _ _ h), hv, q v W3 (e2.trans e3) hd⟩
theorem ev_ixL (hi : atI ds i = some d) (ha : EvD ta σ W (.list ds)) (hb : EvD tb σ W (.int i)) : EvD (tOp (rIxL K) ta tb) σ W d := fun W1 e Q q =>
  ha W1 e _ fun v1 W2 e2 h2 => hb W2 (e.trans e2) _ fun v2 W3 e3 h3 => by
    cases h3
    cases h2.mono e3.g with
    | lst h r =>
      obtain ⟨v, hv, hd⟩ := atI_all r hi
      exact ⟨_, _, i, v, rfl, rfl, SqL.of (e3.s _ _ h), hv, q v W3 (e2.trans e3) hd⟩
/-- a slice of data -/
def cutD {α : Type} (xs : List α) (lo hi : Option Int) : List α := (xs.drop (HT.sIx xs.length 0 lo)).take (HT.sIx xs.length xs.length hi - HT.sIx xs.length 0 lo)
theorem cut_all {H : Hp} {vs : List V} (r : DqAll H vs ds) (lo hi : Option Int) : DqAll H (cutV vs lo hi) (cutD ds lo hi) := by
  unfold cutV cutD
  rw [r.length]
  exact (r.drop _).take _
theorem eo_none : EvO tNoPart σ W none := fun W1 e _ q => q W1 e.rf
theorem eo_some (h : EvD te σ W (.int i)) : EvO (tPart te) σ W (some i) := fun W1 e _ q => h W1 e _ fun v W2 e2 h2 => by
  cases h2
  exact ⟨i, rfl, q W2 e2⟩
theorem ev_slL {tl th : TO} {lo hi : Option Int} (h : EvD te σ W (.list ds)) (h1 : EvO tl σ W lo) (h2 : EvO th σ W hi) : EvD (tSl (rSlL K) te tl th) σ W (.list (cutD ds lo hi)) := fun W1 e _ q =>
  h W1 e _ fun v W2 e2 hv => h1 W2 (e.trans e2) _ fun W3 e3 => h2 W3 ((e.trans e2).trans e3) _ fun W4 e4 => by
    cases hv.mono (e3.trans e4).g with
    | lst ha r =>
      exact ⟨_, _, rfl, SqL.of (e4.s _ _ ha), fun p hp => q _ (W4.new p _) (le_new ((e2.trans e3).trans e4) hp) (.lst upd_same ((cut_all r lo hi).mono ((Ex.refl W4.G).up (e4.s.back hp))))⟩
theorem take_self {α : Type} {xs : List α} {n : Nat} (h : n = xs.length) : xs.take n = xs := by
  rw [h]
  exact List.take_length
theorem ev_slT {tl th : TO} {lo hi : Option Int} (h : EvD te σ W (.tuple ds)) (h1 : EvO tl σ W lo) (h2 : EvO th σ W hi) : EvD (tSl (rSlA K) te tl th) σ W (.tuple (cutD ds lo hi)) := fun W1 e _ q =>
  h W1 e _ fun v W2 e2 hv => h1 W2 (e.trans e2) _ fun W3 e3 => h2 W3 ((e.trans e2).trans e3) _ fun W4 e4 => by
    have hv4 := hv.mono (e3.trans e4).g
    cases hv4 with
    | @tup a xs _ ha r =>
      refine ⟨a, xs, rfl, SqT.of (e4.s _ _ ha), fun c => ?_, fun _ p hp => q _ (W4.new p _) (le_new ((e2.trans e3).trans e4) hp) (.tup upd_same ((cut_all r lo hi).mono ((Ex.refl W4.G).up (e4.s.back hp))))⟩
      refine q _ W4 ((e2.trans e3).trans e4) ?_
      have z : cutD ds lo hi = ds := by
        unfold cutD
        rw [← r.length, c.1, c.2, List.drop_zero, Nat.sub_zero, r.length]
        exact List.take_length
      rw [z]
      exact .tup ha r
theorem ev_catT (ha : EvD ta σ W (.tuple ds)) (hb : EvD tb σ W (.tuple es)) (hl : ds.length + es.length ≤ 100000) : EvD (tOp (rCatA K) ta tb) σ W (.tuple (ds ++ es)) := fun W1 e Q q =>
  ha W1 e _ fun v1 W2 e2 h2 => hb W2 (e.trans e2) _ fun v2 W3 e3 h3 => by
    cases h2.mono e3.g with
    | @tup a xs _ ha r =>
      cases h3 with
      | @tup a2 ys _ ha2 r2 =>
        have l1 := r.length
        have l2 := r2.length
        refine ⟨a, a2, xs, ys, rfl, rfl, SqT.of (e3.s _ _ ha), SqT.of (e3.s _ _ ha2), szle (by omega), fun c => ?_, fun _ c => ?_, fun _ _ p hp => ?_⟩
        · subst c
          cases r
          exact q _ W3 (e2.trans e3) (.tup ha2 r2)
        · subst c
          cases r2
          rw [List.append_nil] at q
          exact q _ W3 (e2.trans e3) (.tup ha r)
        · exact q _ (W3.new p _) (le_new (e2.trans e3) hp) (.tup upd_same ((r.append r2).mono ((Ex.refl W3.G).up (e3.s.back hp))))
theorem ev_catL (ha : EvD ta σ W (.list ds)) (hb : EvD tb σ W (.list es)) (hl : ds.length + es.length ≤ 100000) : EvD (tOp rCat ta tb) σ W (.list (ds ++ es)) := fun W1 e Q q =>
  ha W1 e _ fun v1 W2 e2 h2 => hb W2 (e.trans e2) _ fun v2 W3 e3 h3 => by
    cases h2.mono e3.g with
    | @lst a xs _ ha r =>
      cases h3 with
      | @lst a2 ys _ ha2 r2 =>
        have l1 := r.length
        have l2 := r2.length
        exact ⟨a, a2, xs, ys, rfl, rfl, e3.s _ _ ha, e3.s _ _ ha2, szle (by omega), fun p hp => q _ (W3.new p _) (le_new (e2.trans e3) hp) (.lst upd_same ((r.append r2).mono ((Ex.refl W3.G).up (e3.s.back hp))))⟩

/-! ### built-ins -/
/-- a data's type -/
def tyD : PyData → String
  | .none => "NoneType"
  | .bool _ => "bool"
  | .int _ => "int"
  | .str _ => "str"
  | .list _ => "list"
  | .tuple _ => "tuple"
  | .dict _ => "dict"
theorem dq_ty {H : Hp} (h : Dq H v d) : TyX K H v (.type (tyD d)) := by
  cases h with
  | non => exact .base .non
  | bl b => exact .base (.bl b)
  | int i => exact .base (.int i)
  | str x => exact .base (.str x)
  | lst h r => exact .base (.lst h)
  | tup h r => exact .base (.tup h)
  | dct h => exact .base (.dK h)
theorem ev_isi {n : String} (h : EvD te σ W d) (hk : kitB (tyD d) n = some b) : EvD (tCB (rIsi K) (tCons te (tCons (tC (.ty n)) tNil))) σ W (.bool b) := fun W1 e _ q =>
  h W1 e _ fun v W2 e2 h2 => ⟨v, .ty n, _, _, b, rfl, .ty n, dq_ty (h2.mono e2.s), kit_ty hk, q _ W2 e2 (.bl b)⟩
theorem ev_lenT (h : EvD te σ W (.tuple ds)) : EvD (tCB (rLenK K) (tCons te tNil)) σ W (.int (ds.length : Int)) := fun W1 e _ q =>
  h W1 e _ fun v W2 e2 h2 => by
    cases h2 with
    | @tup a xs _ ha r =>
      refine ⟨a, xs, rfl, .inr (SqT.of (e2.s _ _ ha)), ?_⟩
      rw [r.length]
      exact q _ W2 e2 (.int _)
theorem ev_lenL (h : EvD te σ W (.list ds)) : EvD (tCB (rLenK K) (tCons te tNil)) σ W (.int (ds.length : Int)) := fun W1 e _ q =>
  h W1 e _ fun v W2 e2 h2 => by
    cases h2 with
    | @lst a xs _ ha r =>
      refine ⟨a, xs, rfl, .inl (SqL.of (e2.s _ _ ha)), ?_⟩
      rw [r.length]
      exact q _ W2 e2 (.int _)
theorem ev_listT (h : EvD te σ W (.tuple ds)) : EvD (tCB (rListK K) (tCons te tNil)) σ W (.list ds) := fun W1 e _ q =>
  h W1 e _ fun v W2 e2 h2 => by
    cases h2 with
    | @tup a xs _ ha r => exact ⟨a, xs, rfl, .inr (SqT.of (e2.s _ _ ha)), fun p hp => q _ (W2.new p _) (le_new e2 hp) (.lst upd_same (r.mono ((Ex.refl W2.G).up (e2.s.back hp))))⟩
theorem ev_listL (h : EvD te σ W (.list ds)) : EvD (tCB (rListK K) (tCons te tNil)) σ W (.list ds) := fun W1 e _ q =>
  h W1 e _ fun v W2 e2 h2 => by
    cases h2 with
    | @lst a xs _ ha r => exact ⟨a, xs, rfl, .inl (SqL.of (e2.s _ _ ha)), fun p hp => q _ (W2.new p _) (le_new e2 hp) (.lst upd_same (r.mono ((Ex.refl W2.G).up (e2.s.back hp))))⟩
theorem ev_tupL (h : EvD te σ W (.list ds)) : EvD (tCB (rTupK K) (tCons te tNil)) σ W (.tuple ds) := fun W1 e _ q =>
  h W1 e _ fun v W2 e2 h2 => by
    cases h2 with
    | @lst a xs _ ha r => exact ⟨a, xs, rfl, .inl ⟨SqL.of (e2.s _ _ ha), fun p hp => q _ (W2.new p _) (le_new e2 hp) (.tup upd_same (r.mono ((Ex.refl W2.G).up (e2.s.back hp))))⟩⟩
theorem ev_tupT (h : EvD te σ W (.tuple ds)) : EvD (tCB (rTupK K) (tCons te tNil)) σ W (.tuple ds) := fun W1 e _ q =>
  h W1 e _ fun v W2 e2 h2 => by
    cases h2 with
    | @tup a xs _ ha r => exact ⟨a, xs, rfl, .inr ⟨SqT.of (e2.s _ _ ha), q _ W2 e2 (.tup ha r)⟩⟩
theorem ev_int1 (h : EvD te σ W (.int i)) : EvD (tCB (fun xs H Q => (∃ i, xs = [.int i] ∧ Q (.int i) H) ∨ ∃ k, xs = [.bl k] ∧ Q (.int (if k then 1 else 0)) H) (tCons te tNil)) σ W (.int i) := fun W1 e _ q =>
  h W1 e _ fun v W2 e2 h2 => by
    cases h2
    exact .inl ⟨i, rfl, q _ W2 e2 (.int i)⟩
theorem ev_abs (h : EvD te σ W (.int i)) : EvD (tCB (fun xs H Q => ∃ i, xs = [.int i] ∧ Q (.int (if i < 0 then -i else i)) H) (tCons te tNil)) σ W (.int (if i < 0 then -i else i)) := fun W1 e _ q =>
  h W1 e _ fun v W2 e2 h2 => by
    cases h2
    exact ⟨i, rfl, q _ W2 e2 (.int _)⟩
theorem ev_max2 (ha : EvD ta σ W (.int i)) (hb : EvD tb σ W (.int j)) : EvD (tCB (fun xs H Q => ∃ i j, xs = [.int i, .int j] ∧ Q (.int (if j > i then j else i)) H) (tCons ta (tCons tb tNil))) σ W (.int (if j > i then j else i)) := fun W1 e _ q =>
  ha W1 e _ fun v1 W2 e2 h2 => hb W2 (e.trans e2) _ fun v2 W3 e3 h3 => by
    cases h2
    cases h3
    exact ⟨i, j, rfl, q _ W3 (e2.trans e3) (.int _)⟩
theorem ev_gcd (ha : EvD ta σ W (.int i)) (hb : EvD tb σ W (.int j)) : EvD (tCB rGcd (tCons ta (tCons tb tNil))) σ W (.int ((Nat.gcd i.natAbs j.natAbs : Nat) : Int)) := fun W1 e _ q =>
  ha W1 e _ fun v1 W2 e2 h2 => hb W2 (e.trans e2) _ fun v2 W3 e3 h3 => by
    cases h2
    cases h3
    exact ⟨i, j, rfl, q _ W3 (e2.trans e3) (.int _)⟩
theorem ev_all {bs : List Bool} (h : EvD te σ W (.list (bs.map .bool))) : EvD (tCB (rAll K) (tCons te tNil)) σ W (.bool (bs.all id)) := fun W1 e _ q =>
  h W1 e _ fun v W2 e2 h2 => by
    cases h2 with
    | @lst a xs _ ha r =>
      rw [DqAll.bls r] at ha
      exact ⟨a, bs, rfl, SqL.of (e2.s _ _ ha), q _ W2 e2 (.bl _)⟩
theorem ev_max {ns : List Int} {m : Int} (h0 : 0 < ns.length) (hm : m ∈ ns) (hle : ∀ y ∈ ns, y ≤ m) (h : EvD te σ W (.list (ns.map .int))) : EvD (tCB (rMax K) (tCons te tNil)) σ W (.int m) := fun W1 e _ q =>
  h W1 e _ fun v W2 e2 h2 => by
    cases h2 with
    | @lst a xs _ ha r =>
      rw [DqAll.ints r] at ha
      refine ⟨a, ns, rfl, SqL.of (e2.s _ _ ha), h0, fun m' hm' hle' => ?_⟩
      have e1 : m' = m := by
        have a1 := hle m' hm'
        have a2 := hle' m hm
        omega
      rw [e1]
      exact q _ W2 e2 (.int m)
end
end K22
/-! ### promises, calls, statements, loops -/
namespace K22
open PySem PySem.Spec PyProof.Rows L2
/-- a def that only reads: what it hands back is told by its arguments' data -/
def pureSp (Rel : List PyData → PyData → Prop) : Sp := fun vs H Q _ => ∃ (W : Wd), H = W.H ∧ Ex W.G W.H ∧ ∃ ds d, DqAll W.G vs ds ∧ Rel ds d ∧ ∀ v W', W.le W' → Dq W'.G v d → Q v W'.H
/-- a def as it may be called -/
structure Cal (P : Program) (w : World) (K : PySem.W.Frag) (mg : Str → Option Value) (base : Heap) (x : Str) (k : Nat) (ps : List Str) (sp : Sp) : Prop where
  ex : ∃ (f : Addr) (fd : FuncData), FnOk P w K mg base CX0 k f fd ps sp ∧ mg x = some (.ref f) ∧ PySem.W.keepIn K (.ref f) = true ∧ Binds K fd ps []
/-- a def as it stands behind the top -/
structure Stand (K : PySem.W.Frag) (mg : Str → Option Value) (d : He.DefD) : Prop where
  ex : ∃ (f : Addr) (fd : FuncData), FunD K d.name d.qual d.params d.body d.scope [] [] f fd ∧ mg d.name = some (.ref f)
section
variable {P : Program} {w : World} {K : PySem.W.Frag} {mg : Str → Option Value} {base : Heap}
theorem Cal.imp {x : Str} {k : Nat} {ps : List Str} {sp sp' : Sp} (C : Cal P w K mg base x k ps sp) (h : ∀ vs H Q E, sp' vs H Q E → sp vs H Q E) : Cal P w K mg base x k ps sp' := by
  obtain ⟨f, fd, h1, h2, h3, h4⟩ := C.ex
  exact ⟨f, fd, h1.imp h, h2, h3, h4⟩
theorem cal_mk {d : He.DefD} {N ps : List Str} {k : Nat} {sp : Sp} (S : Stand K mg d) (sc : FnScope N ps d.scope) (len : ∀ vs H Q E, sp vs H Q E → vs.length = ps.length)
    (bind : ∀ (kV doc pm : Value) (an : Option Addr) (cdv ct : Value) (us : List Value), us.length = ps.length → bindArgs (PySem.W.fnOf d.name d.qual d.params d.body d.scope .none kV doc pm an cdv ct) ⟨us, []⟩ = pure (ps.zip us))
    (body : ∀ (f : Addr) (cdv : Value) (A : Around) (outer : List Env) (s : Shared) (H : Hp) (vs : List V) (Q : VK) (E : XK), Room k (A.deeper (envOfC d.qual d.scope s.heap.objs.size f cdv)) → sp vs H Q E →
      ∃ t, PSs (cxOf CX0 P w K mg base N d.qual d.scope f cdv A outer s H E).nox d.body t ∧ t { nx := fun _ H' => Q .non H', rt := Q } (start N vs) H) : Cal P w K mg base d.name (k + 1) ps sp := by
  obtain ⟨f, fd, F, hm⟩ := S.ex
  refine ⟨f, fd, F.ok sc len fun cdv A outer s H vs Q E hr h => ?_, hm, F.kp, F.bindsN bind⟩
  obtain ⟨t, h1, h2⟩ := body f cdv A outer s H vs Q E hr h
  exact ⟨t, h1.nox, h2⟩
theorem pure_len {Rel : List PyData → PyData → Prop} {n : Nat} (h : ∀ ds d, Rel ds d → ds.length = n) : ∀ vs H Q E, pureSp Rel vs H Q E → vs.length = n := fun vs H Q E q => by
  obtain ⟨W, _, _, ds, d, h1, h2, _⟩ := q
  rw [h1.length]
  exact h ds d h2
end
section
variable {X : Cx}
/-- f(e, ..) -/
theorem pe_cal {x : Str} {k : Nat} {ps : List Str} {sp : Sp} {p pos : Pos} {e : Expr} {es : List Expr} {t : TA} (C : Cal X.prog X.w X.K X.mg X.base x k ps sp) (hr : Room k X.A) (hg : Gl X x) (ha : PA X (e :: es) t)
    (plain : (backTo pos (starEach es X.env)).any (·.1) = false := by rfl) (first : starEach (e :: es) X.env = (false, eval e X.env) :: starEach es X.env := by rfl) (name : (x == ("__debug__" : Str)) = false := by decide) :
    PE X (.Call (.Name x p) (e :: es) [] pos) (tCall sp [] E0 t) := by
  obtain ⟨f, fd, h1, h2, h3, h4⟩ := C.ex
  exact pe_call h1 hr hg h2 h3 h4 .nil pass0 ha name first plain
end
section
variable {K : PySem.W.Frag} {σ : L2.St} {W W' : Wd} {ta tb tc td te tl : TE} {t u : TT} {tr : TA} {x y z v : V} {d d1 d2 : PyData} {ds es : List PyData} {i j k : Int} {b c : Bool} {D : Ends} {tu tw tz : TS} {g : TG}
theorem ev_call {Rel : List PyData → PyData → Prop} {E : XK} (h : EvA tr σ W ds) (hr : Rel ds d) : EvD (tCall (pureSp Rel) [] E tr) σ W d := fun W1 e _ q =>
  h W1 e _ fun vs W2 e2 h2 => by
    refine ⟨W2, rfl, e2.s, ds, d, ?_, hr, fun v W' e3 hv => q v W' (e2.trans e3) hv⟩
    rw [List.append_nil]
    exact h2

/-! ### statements -/
theorem st_asg {n : Nat} (s : Ex W.G W.H) (h : EvD te σ W d) (q : ∀ v W', W.le W' → Dq W'.G v d → D.nx (σ.set n (some v)) W'.H) : tAsg te (gName n) D σ W.H := h W (.refl s) _ q
theorem st_asgV {n : Nat} (s : Ex W.G W.H) (h : EvV te σ W v) (q : ∀ W', W.le W' → D.nx (σ.set n (some v)) W'.H) : tAsg te (gName n) D σ W.H := h W (.refl s) _ q
/-- x = [] of a list that will change -/
theorem st_newL {n : Nat} (q : ∀ l, W.H l = none → D.nx (σ.set n (some (.ref l))) (W.set l (.lst [])).H) : tAsg (tLst tNil) (gName n) D σ W.H := ⟨Nat.zero_le _, fun l hl => q l hl⟩
theorem st_newK {n : Nat} (q : ∀ l, W.H l = none → D.nx (σ.set n (some (.ref l))) (W.set l (.dK [])).H) : tAsg tDNewK (gName n) D σ W.H := fun l hl => q l hl
theorem st_ret (s : Ex W.G W.H) (h : EvD te σ W d) (q : ∀ v W', W.le W' → Dq W'.G v d → D.rt v W'.H) : tRet te D σ W.H := h W (.refl s) _ q
theorem st_if (s : Ex W.G W.H) (h : EvB t σ W b) (q1 : b = true → ∀ W', W.le W' → tu D σ W'.H) (q2 : b = false → ∀ W', W.le W' → tw D σ W'.H) : tIfS t tu tw D σ W.H := h W (.refl s) _ fun W1 e => by
  cases b with
  | true =>
    show tu D σ W1.H
    exact q1 rfl W1 e
  | false =>
    show tw D σ W1.H
    exact q2 rfl W1 e
theorem st_dropD (s : Ex W.G W.H) (h : EvD te σ W d) (q : ∀ W', W.le W' → D.nx σ W'.H) : tDrop te D σ W.H := h W (.refl s) _ fun _ W1 e _ => q W1 e
theorem st_augI {n : Nat} {f : Int → Int → Int} (s : Ex W.G W.H) (hx : σ[n]? = some (some (.int i))) (h : EvD te σ W (.int j)) (q : ∀ W', W.le W' → D.nx (σ.set n (some (.int (f i j)))) W'.H) : tAug n te (ipI f) D σ W.H :=
  ⟨.int i, hx, h W (.refl s) _ fun v W1 e hv => by
    cases hv
    exact ⟨i, j, rfl, rfl, q W1 e⟩⟩
/-- xs.append(e) -/
theorem st_app {n : Nat} {l : Addr} {xs : List V} (s : Ex W.G W.H) (hn : σ[n]? = some (some (.ref l))) (hl : W.H l = some (.lst xs)) (hz : xs.length < 100000) (h : EvD te σ W d)
    (q : ∀ v W', W.le W' → Dq W'.G v d → D.nx σ (W'.set l (.lst (xs ++ [v]))).H) : tDrop (tBM K "list" rAppend (tVar n) (tCons te tNil)) D σ W.H :=
  ⟨.ref l, hn, .inl ⟨rfl, xs, SqL.of hl⟩, h W (.refl s) _ fun v W1 e hv => ⟨l, xs, v, rfl, rfl, e.h _ _ hl, szlt hz, q v W1 e hv⟩⟩
/-- a, b = e, f -/
theorem st_par {m n : Nat} (s : Ex W.G W.H) (h : EvA tr σ W [d1, d2]) (q : ∀ v w W', W.le W' → Dq W'.G v d1 → Dq W'.G w d2 → D.nx ((σ.set m (some v)).set n (some w)) W'.H) : tPar m n tr D σ W.H :=
  h W (.refl s) _ fun vs W1 e hv => by
    cases hv with
    | cons h1 r =>
      cases r with
      | cons h2 r =>
        cases r
        exact ⟨_, _, rfl, q _ _ W1 e h1 h2⟩
/-- a, b = a pair -/
theorem st_un2 {m n : Nat} (s : Ex W.G W.H) (h : EvD te σ W (.tuple [d1, d2])) (q : ∀ v w W', W.le W' → Dq W'.G v d1 → Dq W'.G w d2 → D.nx ((σ.set m (some v)).set n (some w)) W'.H) :
    tAsg te (gTup K 2 (gCons (gName m) (gCons (gName n) gNil))) D σ W.H := h W (.refl s) _ fun x W1 e hx => by
  cases hx with
  | tup ha r =>
    cases r with
    | cons h1 r =>
      cases r with
      | cons h2 r =>
        cases r
        exact ⟨_, _, rfl, SqT.of (e.s _ _ ha), rfl, _, _, rfl, _, _, rfl, rfl, q _ _ W1 e h1 h2⟩
theorem st_un3 {m n o : Nat} {d3 : PyData} (s : Ex W.G W.H) (h : EvD te σ W (.tuple [d1, d2, d3])) (q : ∀ v w x W', W.le W' → Dq W'.G v d1 → Dq W'.G w d2 → Dq W'.G x d3 → D.nx (((σ.set m (some v)).set n (some w)).set o (some x)) W'.H) :
    tAsg te (gTup K 3 (gCons (gName m) (gCons (gName n) (gCons (gName o) gNil)))) D σ W.H := h W (.refl s) _ fun x W1 e hx => by
  cases hx with
  | tup ha r =>
    cases r with
    | cons h1 r =>
      cases r with
      | cons h2 r =>
        cases r with
        | cons h3 r =>
          cases r
          exact ⟨_, _, rfl, SqT.of (e.s _ _ ha), rfl, _, _, rfl, _, _, rfl, _, _, rfl, rfl, q _ _ _ W1 e h1 h2 h3⟩

/-! ### loops -/
/-- what a turn is to reach -/
abbrev Nxt (W1 : Wd) (Pv : L2.St → Wd → Prop) : L2.St → Hp → Prop := fun σ2 H2 => ∃ W2 : Wd, H2 = W2.H ∧ Ex W1.G W2.G ∧ Ex W2.G W2.H ∧ Pv σ2 W2
theorem st_forT {n : Nat} (s : Ex W.G W.H) (h : EvD tl σ W (.tuple ds)) (q : ∀ W1, W.le W1 → ∃ Pv : Nat → L2.St → Wd → Prop, Pv 0 σ W1 ∧
      (∀ (i : Nat) σ' W' x d, ds[i]? = some d → Ex W1.G W'.G → Ex W'.G W'.H → Dq W'.G x d → Pv i σ' W' → tu { D with nx := Nxt W1 (Pv (i + 1)), ct := Nxt W1 (Pv (i + 1)), bk := D.nx } (σ'.set n (some x)) W'.H) ∧
      (∀ σ' W', Ex W1.G W'.G → Ex W'.G W'.H → Pv ds.length σ' W' → D.nx σ' W'.H)) : tFor (iTup K tl) (gName n) tu D σ W.H := h W (.refl s) _ fun x W1 e hx => by
  cases hx with
  | @tup a xs _ ha r =>
    obtain ⟨Pv, p0, ps, pd⟩ := q W1 e
    refine ⟨a, rfl, ⟨xs, SqT.of (e.s _ _ ha)⟩, for_tup (xs := xs) (fun i => Nxt W1 (Pv i)) ⟨W1, rfl, Ex.refl _, e.s, p0⟩ (fun i σ' H' _ p => ?_) (fun i x σ' H' hx p => ?_) (fun σ' H' p => ?_)⟩
    · obtain ⟨W', rfl, g, s', _⟩ := p
      exact SqT.of (s' _ _ (g _ _ ha))
    · obtain ⟨W', rfl, g, s', p⟩ := p
      obtain ⟨d, hd, hv⟩ := r.get' hx
      exact ps i σ' W' x d hd g s' (hv.mono g) p
    · obtain ⟨W', rfl, g, s', p⟩ := p
      rw [r.length] at p
      exact pd σ' W' g s' p
theorem st_forL {n : Nat} (s : Ex W.G W.H) (h : EvD tl σ W (.list ds)) (q : ∀ W1, W.le W1 → ∃ Pv : Nat → L2.St → Wd → Prop, Pv 0 σ W1 ∧
      (∀ (i : Nat) σ' W' x d, ds[i]? = some d → Ex W1.G W'.G → Ex W'.G W'.H → Dq W'.G x d → Pv i σ' W' → tu { D with nx := Nxt W1 (Pv (i + 1)), ct := Nxt W1 (Pv (i + 1)), bk := D.nx } (σ'.set n (some x)) W'.H) ∧
      (∀ σ' W', Ex W1.G W'.G → Ex W'.G W'.H → Pv ds.length σ' W' → D.nx σ' W'.H)) : tFor (iList K tl) (gName n) tu D σ W.H := h W (.refl s) _ fun x W1 e hx => by
  cases hx with
  | @lst a xs _ ha r =>
    obtain ⟨Pv, p0, ps, pd⟩ := q W1 e
    refine ⟨a, rfl, ⟨xs, SqL.of (e.s _ _ ha)⟩, for_list (xs := xs) (fun i => Nxt W1 (Pv i)) ⟨W1, rfl, Ex.refl _, e.s, p0⟩ (fun i σ' H' _ p => ?_) (fun i x σ' H' hx p => ?_) (fun σ' H' p => ?_)⟩
    · obtain ⟨W', rfl, g, s', _⟩ := p
      exact SqL.of (s' _ _ (g _ _ ha))
    · obtain ⟨W', rfl, g, s', p⟩ := p
      obtain ⟨d, hd, hv⟩ := r.get' hx
      exact ps i σ' W' x d hd g s' (hv.mono g) p
    · obtain ⟨W', rfl, g, s', p⟩ := p
      rw [r.length] at p
      exact pd σ' W' g s' p
theorem st_forR {n m : Nat} (s : Ex W.G W.H) (hm : m ≤ 100000) (h : EvD te σ W (.int (m : Int))) (q : ∀ W1, W.le W1 → ∃ Pv : Nat → L2.St → Wd → Prop, Pv 0 σ W1 ∧
      (∀ (i : Nat) σ' W', i < m → Ex W1.G W'.G → Ex W'.G W'.H → Pv i σ' W' → tu { D with nx := Nxt W1 (Pv (i + 1)), ct := Nxt W1 (Pv (i + 1)), bk := D.nx } (σ'.set n (some (.int (i : Int)))) W'.H) ∧
      (∀ σ' W', Ex W1.G W'.G → Ex W'.G W'.H → Pv m σ' W' → D.nx σ' W'.H)) : tFor (iRng1 (tCons te tNil)) (gName n) tu D σ W.H := h W (.refl s) _ fun x W1 e hx => by
  cases hx
  obtain ⟨Pv, p0, ps, pd⟩ := q W1 e
  refine ⟨(m : Int), rfl, by omega, by omega, for_range (lo := 0) (n := (m : Int).toNat) (fun i => Nxt W1 (Pv i)) ⟨W1, rfl, Ex.refl _, e.s, p0⟩ (fun i σ' H' hx p => ?_) (fun σ' H' p => ?_)⟩
  · obtain ⟨W', rfl, g, s', p⟩ := p
    have e0 : (0 : Int) + (i : Int) = (i : Int) := Int.zero_add _
    show tu { D with nx := Nxt W1 (Pv (i + 1)), ct := Nxt W1 (Pv (i + 1)), bk := D.nx } (σ'.set n (some (.int ((0 : Int) + (i : Int))))) W'.H
    rw [e0]
    exact ps i σ' W' (by omega) g s' p
  · obtain ⟨W', rfl, g, s', p⟩ := p
    exact pd σ' W' g s' p
/-- for i, x in enumerate(xs) -/
theorem st_forE {m n : Nat} (s : Ex W.G W.H) (h : EvD tl σ W (.list ds)) (q : ∀ W1, W.le W1 → ∃ Pv : Nat → L2.St → Wd → Prop, Pv 0 σ W1 ∧
      (∀ (i : Nat) σ' W' x d, ds[i]? = some d → Ex W1.G W'.G → Ex W'.G W'.H → Dq W'.G x d → Pv i σ' W' →
        ∀ W2, W'.le W2 → tu { D with nx := Nxt W1 (Pv (i + 1)), ct := Nxt W1 (Pv (i + 1)), bk := D.nx } ((σ'.set m (some (.int (i : Int)))).set n (some x)) W2.H) ∧
      (∀ σ' W', Ex W1.G W'.G → Ex W'.G W'.H → Pv ds.length σ' W' → D.nx σ' W'.H)) : tFor (iEnum K (tCons tl tNil)) (gTup K 2 (gCons (gName m) (gCons (gName n) gNil))) tu D σ W.H := h W (.refl s) _ fun x W1 e hx => by
  cases hx with
  | @lst a xs _ ha r =>
    obtain ⟨Pv, p0, ps, pd⟩ := q W1 e
    refine ⟨a, xs, rfl, SqL.of (e.s _ _ ha), for_it (walk_enum (xs := xs)) (fun i => Nxt W1 (Pv i)) ⟨W1, rfl, Ex.refl _, e.s, p0⟩ (fun i σ' H' _ p => ?_) (fun i x σ' H1 H' hi p hy => ?_) (fun σ' H' p => ?_)⟩
    · obtain ⟨W', rfl, g, s', _⟩ := p
      exact SqL.of (s' _ _ (g _ _ ha))
    · obtain ⟨W', rfl, g, s', p⟩ := p
      obtain ⟨T, x1, x2, rfl, nT, rfl, h1, h2⟩ := hy
      cases h1
      obtain ⟨d, hd, hv⟩ := r.get' h2
      have q1 := ps i σ' W' x2 d hd g s' (hv.mono g) p (W'.new T (.tup [.int (i : Int), x2])) (le_new (.refl s') nT)
      exact ⟨T, [.int (i : Int), x2], rfl, SqT.of upd_same, rfl, _, _, rfl, _, _, rfl, rfl, q1⟩
    · obtain ⟨W', rfl, g, s', p⟩ := p
      rw [r.length] at p
      exact pd σ' W' g s' p
/-- for x, y in zip(t, u), tuples -/
theorem walk_zipT {K : PySem.W.Frag} {a b : Addr} {xs ys : List V} {n : Nat} (hn : n = min xs.length ys.length) : Walk (RZ.ItzT K a b) n (fun H => SqT K H a xs ∧ SqT K H b ys) (YPair (fun i => xs[i]?) (fun i => ys[i]?)) where
  goes i _ hi q := ⟨xs, ys, xs[i]'(by omega), ys[i]'(by omega), q.1, q.2, List.getElem?_eq_getElem _, List.getElem?_eq_getElem _⟩
  stops _ q := ⟨xs, ys, q.1, q.2, by omega⟩
  yields _ _ _ _ _ q := fun ⟨T, x, z, e1, free, e2, f, g⟩ => ⟨T, x, z, e1, free, e2, f xs q.1, g ys q.2⟩
theorem st_forZT {m n : Nat} (s : Ex W.G W.H) (h : EvD ta σ W (.tuple ds)) (h' : EvD tb σ W (.tuple es)) (q : ∀ W1, W.le W1 → ∃ Pv : Nat → L2.St → Wd → Prop, Pv 0 σ W1 ∧
      (∀ (i : Nat) σ' W' x y d e, ds[i]? = some d → es[i]? = some e → Ex W1.G W'.G → Ex W'.G W'.H → Dq W'.G x d → Dq W'.G y e → Pv i σ' W' →
        ∀ W2, W'.le W2 → tu { D with nx := Nxt W1 (Pv (i + 1)), ct := Nxt W1 (Pv (i + 1)), bk := D.nx } ((σ'.set m (some x)).set n (some y)) W2.H) ∧
      (∀ σ' W', Ex W1.G W'.G → Ex W'.G W'.H → Pv (min ds.length es.length) σ' W' → D.nx σ' W'.H)) : tFor (RZ.iZipA K (tCons ta (tCons tb tNil))) (gTup K 2 (gCons (gName m) (gCons (gName n) gNil))) tu D σ W.H := h W (.refl s) _ fun x W1 e hx => h' W1 e _ fun y W2 e2 hy => by
  cases hx.mono e2.g with
  | @tup a xs _ ha r =>
    cases hy with
    | @tup b ys _ hb r2 =>
      obtain ⟨Pv, p0, ps, pd⟩ := q W2 (e.trans e2)
      refine ⟨a, b, xs, ys, rfl, .inr ⟨SqT.of (e2.s _ _ ha), SqT.of (e2.s _ _ hb), for_it (walk_zipT (xs := xs) (ys := ys) rfl) (fun i => Nxt W2 (Pv i)) ⟨W2, rfl, Ex.refl _, e2.s, p0⟩ (fun i σ' H' _ p => ?_) (fun i x σ' H1 H' hi p hy => ?_) (fun σ' H' p => ?_)⟩⟩
      · obtain ⟨W', rfl, g, s', _⟩ := p
        exact ⟨SqT.of (s' _ _ (g _ _ ha)), SqT.of (s' _ _ (g _ _ hb))⟩
      · obtain ⟨W', rfl, g, s', p⟩ := p
        obtain ⟨T, x1, x2, rfl, nT, rfl, h1, h2⟩ := hy
        obtain ⟨d, hd, hv⟩ := r.get' h1
        obtain ⟨d', hd', hv'⟩ := r2.get' h2
        have q1 := ps i σ' W' x1 x2 d d' hd hd' g s' (hv.mono g) (hv'.mono g) p (W'.new T (.tup [x1, x2])) (le_new (.refl s') nT)
        exact ⟨T, [x1, x2], rfl, SqT.of upd_same, rfl, _, _, rfl, _, _, rfl, rfl, q1⟩
      · obtain ⟨W', rfl, g, s', p⟩ := p
        rw [r.length, r2.length] at p
        exact pd σ' W' g s' p
/-- while, by a word and a measure -/
theorem st_while (s : Ex W.G W.H) (Pv : Nat → L2.St → Wd → Prop) (m0 : Nat) (h0 : Pv m0 σ W)
    (hs : ∀ m σ' W', Ex W'.G W'.H → Pv m σ' W' → ∃ b, EvB t σ' W' b ∧
      (b = true → ∀ W2, W'.le W2 → tu { D with nx := fun σ2 H2 => ∃ (W3 : Wd) (m' : Nat), H2 = W3.H ∧ Ex W3.G W3.H ∧ m' < m ∧ Pv m' σ2 W3, ct := fun σ2 H2 => ∃ (W3 : Wd) (m' : Nat), H2 = W3.H ∧ Ex W3.G W3.H ∧ m' < m ∧ Pv m' σ2 W3, bk := D.nx } σ' W2.H) ∧
      (b = false → ∀ W2, W'.le W2 → D.nx σ' W2.H)) : tWhile t tu D σ W.H := by
  refine ⟨fun m σ' H' => ∃ W' : Wd, H' = W'.H ∧ Ex W'.G W'.H ∧ Pv m σ' W', ⟨m0, W, rfl, s, h0⟩, ?_⟩
  rintro m σ' H' ⟨W', rfl, s', p⟩
  obtain ⟨b, hb, q1, q2⟩ := hs m σ' W' s' p
  refine hb W' (.refl s') _ fun W2 e2 => ?_
  cases b with
  | true =>
    rw [if_pos rfl]
    refine ⟨_, ?_, q1 rfl W2 e2⟩
    rintro σ2 H2 ⟨W3, m', rfl, s3, hm, p3⟩
    exact ⟨m', hm, W3, rfl, s3, p3⟩
  | false =>
    rw [if_neg Bool.false_ne_true]
    exact q2 rfl W2 e2

/-! ### comprehensions -/
/-- the new list at D within the heap, behind so many turns -/
def Lcw (W1 : Wd) (Dl : Addr) (acc : Nat → List PyData) (i : Nat) : Hp → Prop := fun H => ∃ (W' : Wd) (xs : List V), H = W'.H ∧ W1.le W' ∧ W'.H Dl = some (.lst xs) ∧ W'.G Dl = none ∧ DqAll W'.G xs (acc i)
theorem lc_turn {W1 W2 : Wd} {Dl : Addr} {acc : Nat → List PyData} {i : Nat} {xs : List V} {f : Bool} {σ2 : L2.St} (hD : W1.H Dl = none) (e : W1.le W2) (hl : W2.H Dl = some (.lst xs)) (hg : W2.G Dl = none) (r : DqAll W2.G xs (acc i))
    (hz : (acc i).length < 100000) (ht : EvB t σ2 W2 f) (he : f = true → ∃ d, EvD te σ2 W2 d ∧ acc (i + 1) = acc i ++ [d]) (hn : f = false → acc (i + 1) = acc i) :
    t σ2 W2.H fun b H3 => if b = true then te σ2 H3 fun y H4 => ∃ ac, H4 Dl = some (.lst ac) ∧ ac.length < sizeLine ∧ Lcw W1 Dl acc (i + 1) (upd H4 Dl (.lst (ac ++ [y]))) else Lcw W1 Dl acc (i + 1) H3 := by
  refine ht W2 e.rf _ fun W3 e3 => ?_
  have g3 := e3.out hg hl
  cases f with
  | true =>
    rw [if_pos rfl]
    obtain ⟨d, hd, ha⟩ := he rfl
    refine hd W3 e3 _ fun v W4 e4 hv => ⟨xs, (e3.trans e4).h _ _ hl, szlt (by rw [r.length]; exact hz), W4.set Dl _, xs ++ [v], rfl, le_set ((e.trans e3).trans e4) hD (e4.out g3 (e3.h _ _ hl)), upd_same, e4.out g3 (e3.h _ _ hl), ?_⟩
    rw [ha]
    exact (r.mono (e3.trans e4).g).snoc hv
  | false =>
    rw [if_neg Bool.false_ne_true]
    refine ⟨W3, xs, rfl, e.trans e3, e3.h _ _ hl, g3, ?_⟩
    rw [hn rfl]
    exact r.mono e3.g
theorem lc_end {W1 : Wd} {Dl : Addr} {acc : Nat → List PyData} {n : Nat} {H : Hp} {Q : VK} (hD : W1.H Dl = none) (p : Lcw W1 Dl acc n H) (q : ∀ v W2, W1.le W2 → Dq W2.G v (.list (acc n)) → Q v W2.H) : Q (.ref Dl) H := by
  obtain ⟨W', xs, rfl, e, hl, hg, r⟩ := p
  exact q _ (W'.frz Dl (.lst xs)) (le_frz e hD hg hl) (.lst upd_same (r.mono ((Ex.refl W'.G).up hg)))
theorem lcw0 {W1 : Wd} {Dl : Addr} {acc : Nat → List PyData} (s : Ex W1.G W1.H) (hD : W1.H Dl = none) (h0 : acc 0 = []) : Lcw W1 Dl acc 0 (upd W1.H Dl (.lst [])) :=
  ⟨W1.set Dl (.lst []), [], rfl, le_laid (.refl s) hD, upd_same, s.back hD, by rw [h0]; exact .nil⟩
/-- the list so far -/
def sel (ds : List PyData) (f : PyData → Bool) (g : PyData → PyData) (i : Nat) : List PyData := ((ds.take i).filter f).map g
theorem sel_all (f : PyData → Bool) (g : PyData → PyData) : sel ds f g ds.length = (ds.filter f).map g := by
  unfold sel
  rw [List.take_length]
theorem sel_yes {f : PyData → Bool} {g : PyData → PyData} {i : Nat} (h : ds[i]? = some d) (hf : f d = true) : sel ds f g (i + 1) = sel ds f g i ++ [g d] := by
  unfold sel
  rw [List.take_add_one, h, List.filter_append, List.map_append]
  show _ ++ (List.filter f [d]).map g = _
  rw [List.filter_cons, if_pos hf]
  rfl
theorem sel_no {f : PyData → Bool} {g : PyData → PyData} {i : Nat} (h : ds[i]? = some d) (hf : f d = false) : sel ds f g (i + 1) = sel ds f g i := by
  unfold sel
  rw [List.take_add_one, h, List.filter_append, List.map_append]
  show _ ++ (List.filter f [d]).map g = _
  rw [List.filter_cons, if_neg (by rw [hf]; exact Bool.false_ne_true)]
  simp
theorem sel_len (f : PyData → Bool) (g : PyData → PyData) (i : Nat) : (sel ds f g i).length ≤ ds.length := by
  unfold sel
  rw [List.length_map]
  refine Nat.le_trans (List.length_filter_le _ _) ?_
  rw [List.length_take]
  exact Nat.min_le_right _ _
theorem ev_lcT {n : Nat} {vs : List Nat} (f : PyData → Bool) (g : PyData → PyData) (h : EvD tl σ W (.tuple ds)) (hz : ds.length < 100000) (hw : ∀ x, wipe ((wipe σ vs).set n (some x)) vs = wipe σ vs)
    (hs : ∀ W1 x d, W.le W1 → d ∈ ds → Dq W1.G x d → EvB t ((wipe σ vs).set n (some x)) W1 (f d) ∧ (f d = true → EvD te ((wipe σ vs).set n (some x)) W1 (g d))) : EvD (tLc (iTup K tl) (gName n) t te vs) σ W (.list ((ds.filter f).map g)) := fun W0 e0 Q q =>
  h W0 e0 _ fun v W1 e1 hv => by
    cases hv with
    | @tup a xs _ ha r =>
      refine ⟨a, rfl, ⟨xs, SqT.of (e1.s _ _ ha)⟩, fun Dl hD => lc_tup (xs := xs) (Lcw W1 Dl (sel ds f g)) (lcw0 e1.s hD rfl) (fun i H' _ p => ?_) (fun i x H' hx p => ⟨hw x, ?_⟩) (fun H' p => ?_)⟩
      · obtain ⟨W', ys, rfl, e, _⟩ := p
        exact SqT.of (e.s _ _ (e.g _ _ ha))
      · obtain ⟨W', ys, rfl, e, hl, hg, rr⟩ := p
        obtain ⟨d, hd, hv⟩ := r.get' hx
        obtain ⟨h1, h2⟩ := hs W' x d ((e0.trans e1).trans e) (List.mem_of_getElem? hd) (hv.mono e.g)
        exact lc_turn hD e hl hg rr (Nat.lt_of_le_of_lt (sel_len f g i) hz) h1 (fun hf => ⟨_, h2 hf, sel_yes hd hf⟩) (fun hf => sel_no hd hf)
      · rw [r.length] at p
        rw [← sel_all] at q
        exact lc_end hD p fun v W2 e2 hv => q v W2 (e1.trans e2) hv
theorem ev_lcL {n : Nat} {vs : List Nat} (f : PyData → Bool) (g : PyData → PyData) (h : EvD tl σ W (.list ds)) (hz : ds.length < 100000) (hw : ∀ x, wipe ((wipe σ vs).set n (some x)) vs = wipe σ vs)
    (hs : ∀ W1 x d, W.le W1 → d ∈ ds → Dq W1.G x d → EvB t ((wipe σ vs).set n (some x)) W1 (f d) ∧ (f d = true → EvD te ((wipe σ vs).set n (some x)) W1 (g d))) : EvD (tLc (iList K tl) (gName n) t te vs) σ W (.list ((ds.filter f).map g)) := fun W0 e0 Q q =>
  h W0 e0 _ fun v W1 e1 hv => by
    cases hv with
    | @lst a xs _ ha r =>
      refine ⟨a, rfl, ⟨xs, SqL.of (e1.s _ _ ha)⟩, fun Dl hD => lc_list (xs := xs) (Lcw W1 Dl (sel ds f g)) (lcw0 e1.s hD rfl) (fun i H' _ p => ?_) (fun i x H' hx p => ⟨hw x, ?_⟩) (fun H' p => ?_)⟩
      · obtain ⟨W', ys, rfl, e, _⟩ := p
        exact SqL.of (e.s _ _ (e.g _ _ ha))
      · obtain ⟨W', ys, rfl, e, hl, hg, rr⟩ := p
        obtain ⟨d, hd, hv⟩ := r.get' hx
        obtain ⟨h1, h2⟩ := hs W' x d ((e0.trans e1).trans e) (List.mem_of_getElem? hd) (hv.mono e.g)
        exact lc_turn hD e hl hg rr (Nat.lt_of_le_of_lt (sel_len f g i) hz) h1 (fun hf => ⟨_, h2 hf, sel_yes hd hf⟩) (fun hf => sel_no hd hf)
      · rw [r.length] at p
        rw [← sel_all] at q
        exact lc_end hD p fun v W2 e2 hv => q v W2 (e1.trans e2) hv
/-- [e for i, x in enumerate(xs) if t], the list so far told by acc -/
theorem ev_lcE {m n : Nat} {vs : List Nat} (acc : Nat → List PyData) (a0 : acc 0 = []) (hz : ∀ i, (acc i).length ≤ i) (h : EvD tl σ W (.list ds)) (hl : ds.length < 100000) (hw : ∀ x y, wipe (((wipe σ vs).set m (some x)).set n (some y)) vs = wipe σ vs)
    (hs : ∀ W1 (i : Nat) x d, W.le W1 → ds[i]? = some d → Dq W1.G x d → ∃ f, EvB t (((wipe σ vs).set m (some (.int (i : Int)))).set n (some x)) W1 f ∧
      (f = true → ∃ e, EvD te (((wipe σ vs).set m (some (.int (i : Int)))).set n (some x)) W1 e ∧ acc (i + 1) = acc i ++ [e]) ∧ (f = false → acc (i + 1) = acc i)) :
    EvD (tLc (iEnum K (tCons tl tNil)) (gTup K 2 (gCons (gName m) (gCons (gName n) gNil))) t te vs) σ W (.list (acc ds.length)) := fun W0 e0 Q q =>
  h W0 e0 _ fun v W1 e1 hv => by
    cases hv with
    | @lst a xs _ ha r =>
      refine ⟨a, xs, rfl, SqL.of (e1.s _ _ ha), fun Dl hD => lc_it (walk_enum (xs := xs)) (Lcw W1 Dl acc) (lcw0 e1.s hD a0) (fun i H' _ p => ?_) (fun i x H1 H' hi p hy => ?_) (fun H' p => ?_)⟩
      · obtain ⟨W', ys, rfl, e, _⟩ := p
        exact SqL.of (e.s _ _ (e.g _ _ ha))
      · obtain ⟨W', ys, rfl, e, hl', hg, rr⟩ := p
        obtain ⟨T, x1, x2, rfl, nT, rfl, h1, h2⟩ := hy
        cases h1
        obtain ⟨d, hd, hv⟩ := r.get' h2
        have eT : W'.le (W'.new T (.tup [.int (i : Int), x2])) := le_new e.rf nT
        obtain ⟨f, k1, k2, k3⟩ := hs (W'.new T (.tup [.int (i : Int), x2])) i x2 d (((e0.trans e1).trans e).trans eT) hd ((hv.mono e.g).mono eT.g)
        refine ⟨T, [.int (i : Int), x2], rfl, SqT.of upd_same, rfl, _, _, rfl, _, _, rfl, rfl, hw _ _, ?_⟩
        have hi' : i < ds.length := by rw [← r.length]; exact hi
        exact lc_turn (W2 := W'.new T (.tup [.int (i : Int), x2])) hD (e.trans eT) (eT.h _ _ hl') (eT.out hg hl') (rr.mono eT.g) (Nat.lt_of_le_of_lt (hz i) (by omega)) k1 k2 k3
      · rw [r.length] at p
        exact lc_end hD p fun v W2 e2 hv => q v W2 (e1.trans e2) hv
/-- [e for x, y in zip(xs, ys)], lists of one length -/
theorem ev_lcZ {m n : Nat} {vs : List Nat} (acc : Nat → List PyData) (a0 : acc 0 = []) (hz : ∀ i, (acc i).length ≤ i) (h : EvD ta σ W (.list ds)) (h' : EvD tb σ W (.list es)) (hl : ds.length < 100000) (hw : ∀ x y, wipe (((wipe σ vs).set m (some x)).set n (some y)) vs = wipe σ vs)
    (hs : ∀ W1 (i : Nat) x y d e, W.le W1 → ds[i]? = some d → es[i]? = some e → Dq W1.G x d → Dq W1.G y e → ∃ e, EvD te (((wipe σ vs).set m (some x)).set n (some y)) W1 e ∧ acc (i + 1) = acc i ++ [e]) :
    EvD (tLc (iZip K (tCons ta (tCons tb tNil))) (gTup K 2 (gCons (gName m) (gCons (gName n) gNil))) tYes te vs) σ W (.list (acc (min ds.length es.length))) := fun W0 e0 Q q =>
  h W0 e0 _ fun v W1 e1 hv => h' W1 (e0.trans e1) _ fun v2 W2 e2 hv2 => by
    cases hv.mono e2.g with
    | @lst a xs _ ha r =>
      cases hv2 with
      | @lst b ys _ hb r2 =>
        refine ⟨a, b, xs, ys, rfl, SqL.of (e2.s _ _ ha), SqL.of (e2.s _ _ hb), fun Dl hD => lc_it (walk_zip (xs := xs) (ys := ys) rfl) (Lcw W2 Dl acc) (lcw0 e2.s hD a0) (fun i H' _ p => ?_) (fun i x H1 H' hi p hy => ?_) (fun H' p => ?_)⟩
        · obtain ⟨W', ys, rfl, e, _⟩ := p
          exact ⟨SqL.of (e.s _ _ (e.g _ _ ha)), SqL.of (e.s _ _ (e.g _ _ hb))⟩
        · obtain ⟨W', zs, rfl, e, hl', hg, rr⟩ := p
          obtain ⟨T, x1, x2, rfl, nT, rfl, h1, h2⟩ := hy
          obtain ⟨d, hd, hv⟩ := r.get' h1
          obtain ⟨d', hd', hv'⟩ := r2.get' h2
          have eT : W'.le (W'.new T (.tup [x1, x2])) := le_new e.rf nT
          have kk := hs (W'.new T (.tup [x1, x2])) i x1 x2 d d' (((e0.trans e1).trans (e2.trans e)).trans eT) hd hd' ((hv.mono e.g).mono eT.g) ((hv'.mono e.g).mono eT.g)
          refine ⟨T, [x1, x2], rfl, SqT.of upd_same, rfl, _, _, rfl, _, _, rfl, rfl, hw _ _, ?_⟩
          have hi' : i < ds.length := by rw [← r.length]; omega
          exact lc_turn (W2 := W'.new T (.tup [x1, x2])) hD (e.trans eT) (eT.h _ _ hl') (eT.out hg hl') (rr.mono eT.g) (Nat.lt_of_le_of_lt (hz i) (by omega)) (eb_yes eT.s) (fun _ => kk) (fun z => nomatch z)
        · rw [r.length, r2.length] at p
          exact lc_end hD p fun v W3 e3 hv => q v W3 ((e1.trans e2).trans e3) hv
theorem ev_sorted {ns : List Int} (h : EvD te σ W (.list (ns.map .int))) : EvD (tCB (rSortedI K) (tCons te tNil)) σ W (.list ((srt ns).map .int)) := fun W1 e _ q =>
  h W1 e _ fun v W2 e2 h2 => by
    cases h2 with
    | @lst a xs _ ha r =>
      rw [DqAll.ints r] at ha
      refine ⟨a, ns, rfl, SqL.of (e2.s _ _ ha), fun ns' p h1 h3 hp => ?_⟩
      rw [srt_eq h1 h3]
      exact q _ (W2.new p _) (le_new e2 hp) (.lst upd_same (.of_ints _))
end

/-! ### a list that grows -/
structure Acc (W0 W : Wd) (l : Addr) (ds : List PyData) : Prop where
  le : W0.le W
  ex : ∃ fs, W.H l = some (.lst fs) ∧ DqAll W.G fs ds
  out : W.G l = none
  new : W0.H l = none
section
variable {K : PySem.W.Frag} {σ : L2.St} {W W' W0 W1 : Wd} {ta tb tc td te tl : TE} {t u : TT} {tr : TA} {x y z v : V} {d d1 d2 : PyData} {ds es : List PyData} {i j k : Int} {b c : Bool} {D : Ends} {tu tw tz : TS} {g : TG} {l m : Addr}
theorem Acc.start (e : W0.le W1) (h : W1.H l = none) : Acc W0 (W1.set l (.lst [])) l [] := ⟨le_laid e h, ⟨[], upd_same, .nil⟩, e.s.back h, e.h.back h⟩
theorem Acc.mono (a : Acc W0 W l ds) (e : W.le W') : Acc W0 W' l ds := by
  obtain ⟨fs, h1, h2⟩ := a.ex
  exact ⟨a.le.trans e, ⟨fs, e.h _ _ h1, h2.mono e.g⟩, e.out a.out h1, a.new⟩
/-- the same list over a later beginning, if it is younger than that -/
theorem Acc.set {fs : List V} (a : Acc W0 W l ds) (r : DqAll W.G fs es) : Acc W0 (W.set l (.lst fs)) l es := ⟨le_set a.le a.new a.out, ⟨fs, upd_same, r⟩, a.out, a.new⟩
theorem Acc.other {o : HO} (a : Acc W0 W l ds) (hm : W0.H m = none) (hg : W.G m = none) (ne : l ≠ m) : Acc W0 (W.set m o) l ds := by
  obtain ⟨fs, h1, h2⟩ := a.ex
  exact ⟨le_set a.le hm hg, ⟨fs, by rw [show (W.set m o).H l = W.H l from upd_ne ne]; exact h1, h2⟩, a.out, a.new⟩
/-- it grows no more -/
theorem Acc.frz (a : Acc W0 W l ds) : ∃ o, W0.le (W.frz l o) ∧ Dq (W.frz l o).G (.ref l) (.list ds) ∧ Ex W.G (W.frz l o).G ∧ W.H l = some o := by
  obtain ⟨fs, h1, h2⟩ := a.ex
  have e : Ex W.G (W.frz l (.lst fs)).G := (Ex.refl W.G).up a.out
  exact ⟨.lst fs, le_frz a.le a.new a.out h1, .lst upd_same (h2.mono e), e, h1⟩
/-- xs.append(e) -/
theorem st_appA {n : Nat} (a : Acc W0 W l ds) (hn : σ[n]? = some (some (.ref l))) (hz : ds.length < 100000) (h : EvD te σ W d)
    (q : ∀ W' o, W.le W' → Acc W0 (W'.set l o) l (ds ++ [d]) → D.nx σ (W'.set l o).H) : tDrop (tBM K "list" rAppend (tVar n) (tCons te tNil)) D σ W.H := by
  obtain ⟨fs, h1, h2⟩ := a.ex
  exact st_app a.le.s hn h1 (by rw [h2.length]; exact hz) h fun v W' e hv => q W' _ e ((a.mono e).set ((h2.mono e.g).snoc hv))
theorem Nxt.of {Pv : L2.St → Wd → Prop} (W2 : Wd) (g : Ex W1.G W2.G) (s : Ex W2.G W2.H) (p : Pv σ W2) : Nxt W1 Pv σ W2.H := ⟨W2, rfl, g, s, p⟩
/-- xs.pop() -/
theorem st_popA {n i : Nat} (a : Acc W0 W l (ds ++ [d])) (hn : σ[n]? = some (some (.ref l))) (q : ∀ v o, Dq W.G v d → Acc W0 (W.set l o) l ds → D.nx (σ.set i (some v)) (W.set l o).H) :
    tAsg (tBM0 K "list" rPop (tVar n)) (gName i) D σ W.H := by
  obtain ⟨fs, h1, h2⟩ := a.ex
  have hl := h2.length
  rw [List.length_append, List.length_singleton] at hl
  obtain ⟨v, hv, hd⟩ := h2.get (i := ds.length) (d := d) (by simp)
  have r := h2.dropLast
  rw [List.dropLast_concat] at r
  exact ⟨.ref l, hn, .inl ⟨rfl, fs, SqL.of h1⟩, l, fs, v, rfl, rfl, h1, by rw [show fs.length - 1 = ds.length by omega]; exact hv, q v _ hd (a.set r)⟩
/-- x = [..] of a comprehension over range(0, n, 2), the list still to grow -/
theorem st_lcR2 {n j m : Nat} {vs : List Nat} {mi : Int} (acc : Nat → List PyData) (a0 : acc 0 = []) (hz : ∀ i, (acc i).length ≤ i) (s : Ex W.G W.H) (h : EvA tr σ W [.int 0, .int mi, .int 2]) (hm : -1 ≤ mi ∧ mi ≤ 100000) (hmm : m = ((mi + 1) / 2).toNat)
    (hw : ∀ x, wipe ((wipe σ vs).set j (some x)) vs = wipe σ vs)
    (hs : ∀ W1 (i : Nat), W.le W1 → i < m → ∃ e, EvD te ((wipe σ vs).set j (some (.int (2 * (i : Int))))) W1 e ∧ acc (i + 1) = acc i ++ [e])
    (q : ∀ l W', Acc W W' l (acc m) → D.nx (σ.set n (some (.ref l))) W'.H) : tAsg (tLc (iRng3 tr) (gName j) tYes te vs) (gName n) D σ W.H := h W (.refl s) _ fun ws W1 e1 hv => by
  obtain ⟨w0, w1, w2, rfl, h0, h1, h2⟩ : ∃ v w x, ws = [v, w, x] ∧ Dq W1.G v (.int 0) ∧ Dq W1.G w (.int mi) ∧ Dq W1.G x (.int 2) := by
    cases hv with
    | cons a r =>
      cases r with
      | cons b r =>
        cases r with
        | cons c r =>
          cases r
          exact ⟨_, _, _, rfl, a, b, c⟩
  cases h0
  cases h1
  cases h2
  have hsz : Builtin.Range.rangeSize 0 mi 2 = (m : Int) := by
    unfold Builtin.Range.rangeSize
    rw [if_pos (by decide)]
    split <;> omega
  have hsm : Builtin.Range.small 0 mi 2 = true := by
    unfold Builtin.Range.small
    rw [hsz]
    simp only [Builtin.Range.rangeFitsLong, Bool.and_eq_true, Bool.or_eq_true, decide_eq_true_eq, beq_iff_eq, show (2 : Int) > 0 by decide, if_true]
    omega
  refine ⟨0, mi, 2, m, rfl, ⟨by decide, by decide, hsm, hsz⟩, fun Dl hD => lc_it walk_rangeC (Lcw W1 Dl acc) (lcw0 e1.s hD a0) (fun _ _ _ _ => trivial) (fun i x H1 H' hi p hy => ?_) (fun H' p => ?_)⟩
  · obtain ⟨W', ys, rfl, e, hl', hg, rr⟩ := p
    obtain ⟨rfl, ex⟩ := hy
    have e0 : x = V.int (2 * (i : Int)) := ex.trans (congrArg V.int (show (0 : Int) + (i : Int) * 2 = 2 * (i : Int) by omega))
    subst e0
    have kk := hs W' i (e1.trans e) hi
    refine ⟨hw _, ?_⟩
    exact lc_turn (W2 := W') hD e hl' hg rr (Nat.lt_of_le_of_lt (hz i) (by omega)) (eb_yes e.s) (fun _ => kk) (fun z => nomatch z)
  · obtain ⟨W', xs, rfl, e, hl, hg, r⟩ := p
    exact q Dl W' ⟨e1.trans e, ⟨xs, hl, r⟩, hg, e1.h.back hD⟩
end
/-! ### the same with something behind -/
section
variable {K : PySem.W.Frag} {σ : L2.St} {W W' W0 W1 : Wd} {ta tb tc td te tl : TE} {t u : TT} {tr : TA} {x y z v : V} {d d1 d2 : PyData} {ds es : List PyData} {i j k : Int} {b c : Bool} {D : Ends} {tu tw tz : TS} {g : TG} {l : Addr}
theorem q_asg {n : Nat} (s : Ex W.G W.H) (h : EvD te σ W d) (q : ∀ v W', W.le W' → Dq W'.G v d → tz D (σ.set n (some v)) W'.H) : tSeq (tAsg te (gName n)) tz D σ W.H := st_asg (D := { D with nx := tz D }) s h q
theorem q_asgV {n : Nat} (s : Ex W.G W.H) (h : EvV te σ W v) (q : ∀ W', W.le W' → tz D (σ.set n (some v)) W'.H) : tSeq (tAsg te (gName n)) tz D σ W.H := st_asgV (D := { D with nx := tz D }) s h q
theorem q_newL {n : Nat} (q : ∀ l, W.H l = none → tz D (σ.set n (some (.ref l))) (W.set l (.lst [])).H) : tSeq (tAsg (tLst tNil) (gName n)) tz D σ W.H := st_newL (D := { D with nx := tz D }) q
theorem q_newK {n : Nat} (q : ∀ l, W.H l = none → tz D (σ.set n (some (.ref l))) (W.set l (.dK [])).H) : tSeq (tAsg tDNewK (gName n)) tz D σ W.H := st_newK (D := { D with nx := tz D }) q
theorem q_if (s : Ex W.G W.H) (h : EvB t σ W b) (q1 : b = true → ∀ W', W.le W' → tu { D with nx := tz D } σ W'.H) (q2 : b = false → ∀ W', W.le W' → tw { D with nx := tz D } σ W'.H) : tSeq (tIfS t tu tw) tz D σ W.H := st_if (D := { D with nx := tz D }) s h q1 q2
theorem q_dropD (s : Ex W.G W.H) (h : EvD te σ W d) (q : ∀ W', W.le W' → tz D σ W'.H) : tSeq (tDrop te) tz D σ W.H := st_dropD (D := { D with nx := tz D }) s h q
theorem q_augI {n : Nat} {f : Int → Int → Int} (s : Ex W.G W.H) (hx : σ[n]? = some (some (.int i))) (h : EvD te σ W (.int j)) (q : ∀ W', W.le W' → tz D (σ.set n (some (.int (f i j)))) W'.H) : tSeq (tAug n te (ipI f)) tz D σ W.H := st_augI (D := { D with nx := tz D }) s hx h q
theorem q_app {n : Nat} {l : Addr} {xs : List V} (s : Ex W.G W.H) (hn : σ[n]? = some (some (.ref l))) (hl : W.H l = some (.lst xs)) (hz : xs.length < 100000) (h : EvD te σ W d)
    (q : ∀ v W', W.le W' → Dq W'.G v d → tz D σ (W'.set l (.lst (xs ++ [v]))).H) : tSeq (tDrop (tBM K "list" rAppend (tVar n) (tCons te tNil))) tz D σ W.H := st_app (D := { D with nx := tz D }) s hn hl hz h q
theorem q_par {m n : Nat} (s : Ex W.G W.H) (h : EvA tr σ W [d1, d2]) (q : ∀ v w W', W.le W' → Dq W'.G v d1 → Dq W'.G w d2 → tz D ((σ.set m (some v)).set n (some w)) W'.H) : tSeq (tPar m n tr) tz D σ W.H := st_par (D := { D with nx := tz D }) s h q
theorem q_un2 {m n : Nat} (s : Ex W.G W.H) (h : EvD te σ W (.tuple [d1, d2])) (q : ∀ v w W', W.le W' → Dq W'.G v d1 → Dq W'.G w d2 → tz D ((σ.set m (some v)).set n (some w)) W'.H) : tSeq (tAsg te (gTup K 2 (gCons (gName m) (gCons (gName n) gNil)))) tz D σ W.H := st_un2 (D := { D with nx := tz D }) s h q
theorem q_un3 {m n o : Nat} {d3 : PyData} (s : Ex W.G W.H) (h : EvD te σ W (.tuple [d1, d2, d3])) (q : ∀ v w x W', W.le W' → Dq W'.G v d1 → Dq W'.G w d2 → Dq W'.G x d3 → tz D (((σ.set m (some v)).set n (some w)).set o (some x)) W'.H) : tSeq (tAsg te (gTup K 3 (gCons (gName m) (gCons (gName n) (gCons (gName o) gNil))))) tz D σ W.H := st_un3 (D := { D with nx := tz D }) s h q
theorem q_forT {n : Nat} (s : Ex W.G W.H) (h : EvD tl σ W (.tuple ds)) (q : ∀ W1, W.le W1 → ∃ Pv : Nat → L2.St → Wd → Prop, Pv 0 σ W1 ∧
      (∀ (i : Nat) σ' W' x d, ds[i]? = some d → Ex W1.G W'.G → Ex W'.G W'.H → Dq W'.G x d → Pv i σ' W' → tu { D with nx := Nxt W1 (Pv (i + 1)), ct := Nxt W1 (Pv (i + 1)), bk := tz D } (σ'.set n (some x)) W'.H) ∧
      (∀ σ' W', Ex W1.G W'.G → Ex W'.G W'.H → Pv ds.length σ' W' → tz D σ' W'.H)) : tSeq (tFor (iTup K tl) (gName n) tu) tz D σ W.H := st_forT (D := { D with nx := tz D }) s h q
theorem q_forL {n : Nat} (s : Ex W.G W.H) (h : EvD tl σ W (.list ds)) (q : ∀ W1, W.le W1 → ∃ Pv : Nat → L2.St → Wd → Prop, Pv 0 σ W1 ∧
      (∀ (i : Nat) σ' W' x d, ds[i]? = some d → Ex W1.G W'.G → Ex W'.G W'.H → Dq W'.G x d → Pv i σ' W' → tu { D with nx := Nxt W1 (Pv (i + 1)), ct := Nxt W1 (Pv (i + 1)), bk := tz D } (σ'.set n (some x)) W'.H) ∧
      (∀ σ' W', Ex W1.G W'.G → Ex W'.G W'.H → Pv ds.length σ' W' → tz D σ' W'.H)) : tSeq (tFor (iList K tl) (gName n) tu) tz D σ W.H := st_forL (D := { D with nx := tz D }) s h q
theorem q_forR {n m : Nat} (s : Ex W.G W.H) (hm : m ≤ 100000) (h : EvD te σ W (.int (m : Int))) (q : ∀ W1, W.le W1 → ∃ Pv : Nat → L2.St → Wd → Prop, Pv 0 σ W1 ∧
      (∀ (i : Nat) σ' W', i < m → Ex W1.G W'.G → Ex W'.G W'.H → Pv i σ' W' → tu { D with nx := Nxt W1 (Pv (i + 1)), ct := Nxt W1 (Pv (i + 1)), bk := tz D } (σ'.set n (some (.int (i : Int)))) W'.H) ∧
      (∀ σ' W', Ex W1.G W'.G → Ex W'.G W'.H → Pv m σ' W' → tz D σ' W'.H)) : tSeq (tFor (iRng1 (tCons te tNil)) (gName n) tu) tz D σ W.H := st_forR (D := { D with nx := tz D }) s hm h q
theorem q_forE {m n : Nat} (s : Ex W.G W.H) (h : EvD tl σ W (.list ds)) (q : ∀ W1, W.le W1 → ∃ Pv : Nat → L2.St → Wd → Prop, Pv 0 σ W1 ∧
      (∀ (i : Nat) σ' W' x d, ds[i]? = some d → Ex W1.G W'.G → Ex W'.G W'.H → Dq W'.G x d → Pv i σ' W' →
        ∀ W2, W'.le W2 → tu { D with nx := Nxt W1 (Pv (i + 1)), ct := Nxt W1 (Pv (i + 1)), bk := tz D } ((σ'.set m (some (.int (i : Int)))).set n (some x)) W2.H) ∧
      (∀ σ' W', Ex W1.G W'.G → Ex W'.G W'.H → Pv ds.length σ' W' → tz D σ' W'.H)) : tSeq (tFor (iEnum K (tCons tl tNil)) (gTup K 2 (gCons (gName m) (gCons (gName n) gNil))) tu) tz D σ W.H := st_forE (D := { D with nx := tz D }) s h q
theorem q_forZT {m n : Nat} (s : Ex W.G W.H) (h : EvD ta σ W (.tuple ds)) (h' : EvD tb σ W (.tuple es)) (q : ∀ W1, W.le W1 → ∃ Pv : Nat → L2.St → Wd → Prop, Pv 0 σ W1 ∧
      (∀ (i : Nat) σ' W' x y d e, ds[i]? = some d → es[i]? = some e → Ex W1.G W'.G → Ex W'.G W'.H → Dq W'.G x d → Dq W'.G y e → Pv i σ' W' →
        ∀ W2, W'.le W2 → tu { D with nx := Nxt W1 (Pv (i + 1)), ct := Nxt W1 (Pv (i + 1)), bk := tz D } ((σ'.set m (some x)).set n (some y)) W2.H) ∧
      (∀ σ' W', Ex W1.G W'.G → Ex W'.G W'.H → Pv (min ds.length es.length) σ' W' → tz D σ' W'.H)) : tSeq (tFor (RZ.iZipA K (tCons ta (tCons tb tNil))) (gTup K 2 (gCons (gName m) (gCons (gName n) gNil))) tu) tz D σ W.H := st_forZT (D := { D with nx := tz D }) s h h' q
theorem q_while (s : Ex W.G W.H) (Pv : Nat → L2.St → Wd → Prop) (m0 : Nat) (h0 : Pv m0 σ W)
    (hs : ∀ m σ' W', Ex W'.G W'.H → Pv m σ' W' → ∃ b, EvB t σ' W' b ∧
      (b = true → ∀ W2, W'.le W2 → tu { D with nx := fun σ2 H2 => ∃ (W3 : Wd) (m' : Nat), H2 = W3.H ∧ Ex W3.G W3.H ∧ m' < m ∧ Pv m' σ2 W3, ct := fun σ2 H2 => ∃ (W3 : Wd) (m' : Nat), H2 = W3.H ∧ Ex W3.G W3.H ∧ m' < m ∧ Pv m' σ2 W3, bk := tz D } σ' W2.H) ∧
      (b = false → ∀ W2, W'.le W2 → tz D σ' W2.H)) : tSeq (tWhile t tu) tz D σ W.H := st_while (D := { D with nx := tz D }) s Pv m0 h0 hs
theorem q_appA {n : Nat} (a : Acc W0 W l ds) (hn : σ[n]? = some (some (.ref l))) (hz : ds.length < 100000) (h : EvD te σ W d)
    (q : ∀ W' o, W.le W' → Acc W0 (W'.set l o) l (ds ++ [d]) → tz D σ (W'.set l o).H) : tSeq (tDrop (tBM K "list" rAppend (tVar n) (tCons te tNil))) tz D σ W.H := st_appA (D := { D with nx := tz D }) a hn hz h q
theorem q_popA {n i : Nat} (a : Acc W0 W l (ds ++ [d])) (hn : σ[n]? = some (some (.ref l))) (q : ∀ v o, Dq W.G v d → Acc W0 (W.set l o) l ds → tz D (σ.set i (some v)) (W.set l o).H) : tSeq (tAsg (tBM0 K "list" rPop (tVar n)) (gName i)) tz D σ W.H := st_popA (D := { D with nx := tz D }) a hn q
theorem q_lcR2 {n j m : Nat} {vs : List Nat} {mi : Int} (acc : Nat → List PyData) (a0 : acc 0 = []) (hz : ∀ i, (acc i).length ≤ i) (s : Ex W.G W.H) (h : EvA tr σ W [.int 0, .int mi, .int 2]) (hm : -1 ≤ mi ∧ mi ≤ 100000) (hmm : m = ((mi + 1) / 2).toNat)
    (hw : ∀ x, wipe ((wipe σ vs).set j (some x)) vs = wipe σ vs)
    (hs : ∀ W1 (i : Nat), W.le W1 → i < m → ∃ e, EvD te ((wipe σ vs).set j (some (.int (2 * (i : Int))))) W1 e ∧ acc (i + 1) = acc i ++ [e])
    (q : ∀ l W', Acc W W' l (acc m) → tz D (σ.set n (some (.ref l))) W'.H) : tSeq (tAsg (tLc (iRng3 tr) (gName j) tYes te vs) (gName n)) tz D σ W.H := st_lcR2 (D := { D with nx := tz D }) acc a0 hz s h hm hmm hw hs q
end
end K22
/-! ### fractions as pairs; the data of marks, sketches, trees -/
namespace K22
open PySem PySem.Spec PyProof.Rows L2
def gk (k : Int) : Nat := Nat.gcd k.natAbs 2688840
def ft (k : Int) : Int := k / (gk k : Int)
def fb (k : Int) : Int := 2688840 / (gk k : Int)
theorem gk_pos (k : Int) : 0 < gk k := Nat.gcd_pos_of_pos_right _ (by decide)
theorem ft_mul (k : Int) : ft k * (gk k : Int) = k := Int.ediv_mul_cancel (Int.ofNat_dvd_left.mpr (Nat.gcd_dvd_left _ _))
theorem fb_mul (k : Int) : fb k * (gk k : Int) = 2688840 := Int.ediv_mul_cancel (Int.ofNat_dvd_left.mpr (Nat.gcd_dvd_right _ _))
theorem gk_posI (k : Int) : 0 < (gk k : Int) := by
  have := gk_pos k
  omega
theorem fb_pos (k : Int) : 1 ≤ fb k := by
  have h := fb_mul k
  rcases Int.lt_or_le (fb k) 1 with c | c
  · have h2 : fb k * (gk k : Int) ≤ 0 * (gk k : Int) := Int.mul_le_mul_of_nonneg_right (by omega) (by have := gk_posI k; omega)
    rw [h, Int.zero_mul] at h2
    omega
  · exact c
theorem fb_le (k : Int) : fb k ≤ 2688840 := by
  have h := fb_mul k
  have h0 := fb_pos k
  have h1 : fb k * 1 ≤ fb k * (gk k : Int) := Int.mul_le_mul_of_nonneg_left (by have := gk_posI k; omega) (by omega)
  rw [h, Int.mul_one] at h1
  exact h1
theorem fb_small (k : Int) : -(2 ^ 64) < fb k ∧ fb k < 2 ^ 64 := by
  have h1 := fb_pos k
  have h2 := fb_le k
  omega
theorem cross (k j : Int) : (ft k * fb j) * ((gk k : Int) * (gk j : Int)) = k * 2688840 := by
  have h : (ft k * fb j) * ((gk k : Int) * (gk j : Int)) = (ft k * (gk k : Int)) * (fb j * (gk j : Int)) := by
    rw [Int.mul_assoc, Int.mul_assoc]
    congr 1
    rw [← Int.mul_assoc, Int.mul_comm (fb j), Int.mul_assoc]
  rw [h, ft_mul, fb_mul]
theorem frac_lt (k j : Int) : ft k * fb j < ft j * fb k ↔ k < j := by
  have hg : 0 < (gk k : Int) * (gk j : Int) := Int.mul_pos (gk_posI k) (gk_posI j)
  have h1 := cross k j
  have h2 := cross j k
  rw [Int.mul_comm (gk j : Int)] at h2
  constructor
  · intro h
    have h3 := Int.mul_lt_mul_of_pos_right h hg
    rw [h1, h2] at h3
    omega
  · intro h
    refine Int.lt_of_mul_lt_mul_right (a := (gk k : Int) * (gk j : Int)) ?_ (by omega)
    rw [h1, h2]
    omega
theorem frac_le (k j : Int) : ft k * fb j ≤ ft j * fb k ↔ k ≤ j := by
  have h := frac_lt j k
  constructor
  · intro h1
    rcases Int.lt_or_le j k with c | c
    · have := h.mpr c
      omega
    · exact c
  · intro h1
    rcases Int.lt_or_le (ft j * fb k) (ft k * fb j) with c | c
    · have := h.mp c
      omega
    · exact c
theorem frac_eq (k j : Int) : (ft k = ft j ∧ fb k = fb j) ↔ k = j := by
  constructor
  · rintro ⟨h1, h2⟩
    have e1 := frac_lt k j
    have e2 := frac_lt j k
    rw [h1, h2] at e1 e2
    rcases Int.lt_trichotomy k j with c | c | c
    · have := e1.mpr c
      omega
    · exact c
    · have := e2.mpr c
      omega
  · rintro rfl
    exact ⟨rfl, rfl⟩
theorem frac_gcd (k : Int) : Nat.gcd (ft k).natAbs (fb k).natAbs = 1 := by
  have h1 : (ft k).natAbs * gk k = k.natAbs := by
    have h := congrArg Int.natAbs (ft_mul k)
    rw [Int.natAbs_mul] at h
    exact h
  have h2 : (fb k).natAbs * gk k = 2688840 := by
    have h := congrArg Int.natAbs (fb_mul k)
    rw [Int.natAbs_mul] at h
    exact h
  have h3 : Nat.gcd (ft k).natAbs (fb k).natAbs * gk k = 1 * gk k := by
    rw [← Nat.gcd_mul_right, h1, h2, Nat.one_mul]
    rfl
  exact Nat.eq_of_mul_eq_mul_right (gk_pos k) h3
/-- Euclid's steps, so many at most -/
def euc : Nat → Nat → Nat → Nat
  | 0, a, _ => a
  | n + 1, a, b => if b = 0 then a else euc n b (a % b)
theorem euc_zero (n a : Nat) : euc n a 0 = a := by
  cases n with
  | zero => rfl
  | succ n => rfl
theorem euc_gcd : ∀ (j a b n : Nat), b < 2 ^ j → 2 * j ≤ n → euc n a b = Nat.gcd a b
  | 0, a, b, n, hb, hn => by
    have e : b = 0 := by omega
    subst e
    rw [euc_zero, Nat.gcd_zero_right]
  | j + 1, a, b, n, hb, hn => by
    obtain ⟨m, rfl⟩ : ∃ m, n = m + 2 := ⟨n - 2, by omega⟩
    by_cases c : b = 0
    · subst c
      rw [euc_zero, Nat.gcd_zero_right]
    · have e1 : euc (m + 2) a b = euc (m + 1) b (a % b) := by
        show (if b = 0 then a else euc (m + 1) b (a % b)) = _
        rw [if_neg c]
      have g1 : Nat.gcd a b = Nat.gcd b (a % b) := by
        rw [Nat.gcd_comm a b, Nat.gcd_rec b a, Nat.gcd_comm]
      rw [e1, g1]
      have hlt : a % b < b := Nat.mod_lt _ (by omega)
      generalize a % b = r at hlt
      by_cases c2 : r = 0
      · subst c2
        rw [euc_zero, Nat.gcd_zero_right]
      · have e2 : euc (m + 1) b r = euc m r (b % r) := by
          show (if r = 0 then b else euc m r (b % r)) = _
          rw [if_neg c2]
        have g2 : Nat.gcd b r = Nat.gcd r (b % r) := by
          rw [Nat.gcd_comm b r, Nat.gcd_rec r b, Nat.gcd_comm]
        rw [e2, g2]
        have h3 : b % r < r := Nat.mod_lt _ (by omega)
        have h4 := Nat.div_add_mod b r
        have h5 : 1 ≤ b / r := Nat.div_pos (by omega) (by omega)
        have h6 : r * 1 ≤ r * (b / r) := Nat.mul_le_mul_left r h5
        exact euc_gcd j r (b % r) m (by rw [Nat.pow_succ] at hb; omega) (by omega)
theorem euc400 (a : Nat) : euc 400 a 2688840 = Nat.gcd a 2688840 := euc_gcd 22 a 2688840 400 (by decide) (by decide)

/-! ### data -/
def frac (k : Int) : PyData := .tuple [.int (ft k), .int (fb k)]
def fracs (ks : List Int) : List PyData := ks.map frac
/-- a mark, in the program and in the law -/
def mkD (m : Mk) : PyData := .tuple [frac m.k, .int m.a, .int m.b, .int m.c, .int m.d]
def lmD (m : Mk) : PyData := .tuple [.int m.k, .int m.a, .int m.b, .int m.c, .int m.d]
def optD (f : α → PyData) : Option α → PyData
  | none => .none
  | some x => f x
def rkD (room many : Int) (ms : List Mk) : PyData := .tuple [.int room, .int many, .tuple (ms.map mkD)]
def placeD (k side : Int) : PyData := .tuple [frac k, .int side]
def stepD : Stp → PyData
  | none => .tuple [.str "pour"]
  | some ks => .tuple [.str "numbers", .tuple (fracs ks)]
def lstepD : Stp → PyData
  | none => .none
  | some ks => .list (ks.map .int)
def treeD (t : List Stp) : PyData := .tuple (t.map stepD)
theorem isNon_optD {f : α → PyData} (hf : ∀ x, isNon (f x) = false) (o : Option α) : isNon (optD f o) = o.isNone := by
  cases o with
  | none => rfl
  | some x => exact hf x
/-- what the module's names hold -/
structure Bl (mg : Str → Option Value) : Prop where
  z_isinstance : mg "isinstance" = none
  z_int : mg "int" = none
  z_bool : mg "bool" = none
  z_str : mg "str" = none
  z_tuple : mg "tuple" = none
  z_len : mg "len" = none
  z_all : mg "all" = none
  z_range : mg "range" = none
  z_zip : mg "zip" = none
  z_enumerate : mg "enumerate" = none
  z_max : mg "max" = none
  z_list : mg "list" = none
  z_abs : mg "abs" = none
  z_sorted : mg "sorted" = none
  z_dict : mg "dict" = none
  c_MOST_STEPS : ∃ t, mg "MOST_STEPS" = some (.int 5000 t)
  c_MOST_ITEMS : ∃ t, mg "MOST_ITEMS" = some (.int 50000 t)
  c_POUR : ∃ t, mg "POUR" = some (.str "pour" t)
  c_MOST_ROOM : ∃ t, mg "MOST_ROOM" = some (.int 64 t)
  c_NUMBERS : ∃ t, mg "NUMBERS" = some (.str "numbers" t)
  c_BELOW : ∃ t, mg "BELOW" = some (.int 0 t)
  c_UP_TO : ∃ t, mg "UP_TO" = some (.int 1 t)
  gcd : mg "gcd" = some (.builtin "math.gcd")
section
variable {X : Cx} {x : Str} {pos : Pos}
theorem pe_cint {i : Int} (hg : Gl X x) (h : ∃ t, X.mg x = some (.int i t)) (hd : (x == ("__debug__" : Str)) = false := by decide) : PE X (.Name x pos) (tC (.int i)) := by
  obtain ⟨t, h⟩ := h
  exact pe_glob hg h ⟨t, rfl⟩ hd
theorem pe_cstr {z : Str} (hg : Gl X x) (h : ∃ t, X.mg x = some (.str z t)) (hd : (x == ("__debug__" : Str)) = false := by decide) : PE X (.Name x pos) (tC (.str z)) := by
  obtain ⟨t, h⟩ := h
  exact pe_glob hg h ⟨t, rfl⟩ hd
end
end K22
namespace K22
open PySem PySem.Spec PyProof.Rows L2
theorem DqAll.inv1 {H : Hp} {vs : List V} {a : PyData} (h : DqAll H vs [a]) : ∃ v, vs = [v] ∧ Dq H v a := by
  cases h with
  | cons h r => cases r; exact ⟨_, rfl, h⟩
theorem DqAll.inv2 {H : Hp} {vs : List V} {a b : PyData} (h : DqAll H vs [a, b]) : ∃ v w, vs = [v, w] ∧ Dq H v a ∧ Dq H w b := by
  cases h with
  | cons h r =>
    obtain ⟨w, rfl, h2⟩ := r.inv1
    exact ⟨_, _, rfl, h, h2⟩
theorem DqAll.inv3 {H : Hp} {vs : List V} {a b c : PyData} (h : DqAll H vs [a, b, c]) : ∃ v w x, vs = [v, w, x] ∧ Dq H v a ∧ Dq H w b ∧ Dq H x c := by
  cases h with
  | cons h r =>
    obtain ⟨w, x, rfl, h2, h3⟩ := r.inv2
    exact ⟨_, _, _, rfl, h, h2, h3⟩
theorem DqAll.inv4 {H : Hp} {vs : List V} {a b c d : PyData} (h : DqAll H vs [a, b, c, d]) : ∃ v w x y, vs = [v, w, x, y] ∧ Dq H v a ∧ Dq H w b ∧ Dq H x c ∧ Dq H y d := by
  cases h with
  | cons h r =>
    obtain ⟨w, x, y, rfl, h2, h3, h4⟩ := r.inv3
    exact ⟨_, _, _, _, rfl, h, h2, h3, h4⟩
theorem kit_int_int : kitB "int" "int" = some true := by decide +kernel
theorem kit_int_bool : kitB "int" "bool" = some false := by decide +kernel
theorem kit_int_tuple : kitB "int" "tuple" = some false := by decide +kernel
theorem kit_int_str : kitB "int" "str" = some false := by decide +kernel
theorem kit_tuple_tuple : kitB "tuple" "tuple" = some true := by decide +kernel
theorem kit_str_str : kitB "str" "str" = some true := by decide +kernel
end K22
namespace K22
open PySem PySem.Spec PyProof.Rows L2
theorem fracs_snoc (l : List Int) (k : Int) : fracs (l ++ [k]) = fracs l ++ [frac k] := by
  unfold fracs
  rw [List.map_append]
  rfl
theorem fracs_len (l : List Int) : (fracs l).length = l.length := List.length_map _
theorem fracs_at {l : List Int} {i : Nat} {d : PyData} (h : (fracs l)[i]? = some d) : ∃ k, l[i]? = some k ∧ d = frac k := by
  unfold fracs at h
  rw [List.getElem?_map] at h
  cases e : l[i]? with
  | none =>
    rw [e] at h
    cases h
  | some k =>
    rw [e] at h
    exact ⟨k, rfl, (Option.some.inj h).symm⟩
theorem at_fracs {l : List Int} {i : Nat} {k : Int} (h : l[i]? = some k) : (fracs l)[i]? = some (frac k) := by
  unfold fracs
  rw [List.getElem?_map, h]
  rfl
theorem drop_cons {α : Type} {l : List α} {i : Nat} {x : α} (h : l[i]? = some x) : l.drop i = x :: l.drop (i + 1) := by
  obtain ⟨hi, e⟩ := List.getElem?_eq_some_iff.mp h
  rw [List.drop_eq_getElem_cons hi, e]
theorem drop_head {α : Type} {l t : List α} {i : Nat} {x : α} (h : l.drop i = x :: t) : l[i]? = some x ∧ l.drop (i + 1) = t := by
  have e : (l.drop i)[0]? = some x := by
    rw [h]
    rfl
  rw [List.getElem?_drop] at e
  have e1 : l[i]? = some x := e
  refine ⟨e1, ?_⟩
  rw [drop_cons e1] at h
  exact (List.cons.inj h).2
def headLt (k : Int) : List Int → Bool
  | [] => false
  | y :: _ => decide (y < k)
theorem laid_stop {k : Int} {r l : List Int} (h : headLt k l = false) : laid (k :: r) l = k :: laid r l := by
  cases l with
  | nil => exact laid_nil2 k r
  | cons y t => exact laid_ge (of_decide_eq_false h)
theorem headLt_true {k : Int} {l : List Int} (h : headLt k l = true) : ∃ y t, l = y :: t ∧ y < k := by
  cases l with
  | nil => cases h
  | cons y t => exact ⟨y, t, rfl, of_decide_eq_true h⟩
def listsD (L : List (List Int)) : List PyData := L.map fun a => .list (fracs a)
theorem cutD_from {α : Type} (l : List α) (n : Nat) : cutD l (some (n : Int)) none = l.drop n := by
  unfold cutD
  rw [HT.sIx_nat, HT.sIx_none]
  rcases Nat.le_total n l.length with h | h
  · rw [Nat.min_eq_left h]
    exact List.take_of_length_le (by rw [List.length_drop]; exact Nat.le_refl _)
  · rw [Nat.min_eq_right h, List.drop_of_length_le h, List.drop_length, List.take_nil]
end K22
namespace K22
open PySem PySem.Spec PyProof.Rows L2
theorem DqAll.inv5 {H : Hp} {vs : List V} {a b c d e : PyData} (h : DqAll H vs [a, b, c, d, e]) : ∃ v w x y z, vs = [v, w, x, y, z] ∧ Dq H v a ∧ Dq H w b ∧ Dq H x c ∧ Dq H y d ∧ Dq H z e := by
  cases h with
  | cons h r =>
    obtain ⟨w, x, y, z, rfl, h2, h3, h4, h5⟩ := r.inv4
    exact ⟨_, _, _, _, _, rfl, h, h2, h3, h4, h5⟩
section
variable {K : PySem.W.Frag} {σ : L2.St} {W : Wd} {te : TE} {D : Ends} {tz : TS}
theorem q_un5 {m n o p r : Nat} {d1 d2 d3 d4 d5 : PyData} (s : Ex W.G W.H) (h : EvD te σ W (.tuple [d1, d2, d3, d4, d5])) (q : ∀ v w x y z W', W.le W' → Dq W'.G v d1 → Dq W'.G w d2 → Dq W'.G x d3 → Dq W'.G y d4 → Dq W'.G z d5 →
    tz D (((((σ.set m (some v)).set n (some w)).set o (some x)).set p (some y)).set r (some z)) W'.H) :
    tSeq (tAsg te (gTup K 5 (gCons (gName m) (gCons (gName n) (gCons (gName o) (gCons (gName p) (gCons (gName r) gNil))))))) tz D σ W.H := h W (.refl s) _ fun x W1 e hx => by
  cases hx with
  | tup ha r =>
    obtain ⟨v, w, x, y, z, rfl, h1, h2, h3, h4, h5⟩ := r.inv5
    exact ⟨_, _, rfl, SqT.of (e.s _ _ ha), rfl, _, _, rfl, _, _, rfl, _, _, rfl, _, _, rfl, _, _, rfl, rfl, q _ _ _ _ _ W1 e h1 h2 h3 h4 h5⟩
end
/-- what a tree must keep to -/
structure TreeOk (t : List Stp) : Prop where
  wf : wfT 0 t
  len : t.length ≤ 1000
  few : ∀ ks, some ks ∈ t → ks.length ≤ 9
structure RkOk (room many : Int) (ms : List Mk) : Prop where
  r1 : 1 ≤ room
  r64 : room ≤ 64
  m0 : 0 ≤ many
  lt : ms.Pairwise Mk.lt
  ok : ∀ m ∈ ms, m.ok many
  len : (ms.length : Int) ≤ room
theorem map_at {α β : Type} {f : α → β} {l : List α} {i : Nat} {d : β} (h : (l.map f)[i]? = some d) : ∃ x, l[i]? = some x ∧ d = f x := by
  rw [List.getElem?_map] at h
  cases e : l[i]? with
  | none =>
    rw [e] at h
    cases h
  | some x =>
    rw [e] at h
    exact ⟨x, rfl, (Option.some.inj h).symm⟩
theorem at_map {α β : Type} {f : α → β} {l : List α} {i : Nat} {x : α} (h : l[i]? = some x) : (l.map f)[i]? = some (f x) := by
  rw [List.getElem?_map, h]
  rfl
/-- a side -/
def sideI (up : Bool) : Int := if up then 1 else 0
def pairD (p : Int × Int) : PyData := .tuple [.int p.1, .int p.2]
/-- a check of each item: all hold -/
theorem all_true {α : Type} (f : α → PyData) (l : List α) : ((l.map f).filter fun _ => true).map (fun _ => PyData.bool true) = (l.map fun _ => true).map PyData.bool := by
  rw [List.filter_eq_self.mpr fun _ _ => rfl, List.map_map, List.map_map]
  rfl
theorem all_id {α : Type} (l : List α) : (l.map fun _ => true).all id = true := by
  rw [List.all_eq_true]
  intro x hx
  obtain ⟨_, _, rfl⟩ := List.mem_map.mp hx
  rfl
end K22
namespace K22
open PySem PySem.Spec PyProof.Rows L2
theorem ahead_snoc (key : Int) (l : List Mk) (m : Mk) : ahead key (l ++ [m]) = if m.k < key then some m else ahead key l := by
  unfold ahead
  rw [List.filter_append, List.filter_cons]
  by_cases c : m.k < key
  · rw [if_pos (decide_eq_true c), if_pos c]
    simp
  · rw [if_neg (by simpa using c), if_neg c]
    simp
theorem there_snoc (key : Int) (l : List Mk) (m : Mk) : there key (l ++ [m]) = if m.k = key then some m else there key l := by
  unfold there
  rw [List.filter_append, List.filter_cons]
  by_cases c : m.k = key
  · rw [if_pos (decide_eq_true c), if_pos c]
    simp
  · rw [if_neg (by simpa using c), if_neg c]
    simp
theorem behind_snoc (key : Int) (l : List Mk) (m : Mk) : behind key (l ++ [m]) = match behind key l with | some x => some x | none => if key < m.k then some m else none := by
  unfold behind
  rw [List.filter_append, List.filter_cons, List.head?_append]
  by_cases c : key < m.k
  · rw [if_pos (decide_eq_true c), if_pos c]
    cases (l.filter fun m => decide (key < m.k)).head? <;> rfl
  · rw [if_neg (by simpa using c), if_neg c]
    cases (l.filter fun m => decide (key < m.k)).head? <;> rfl
theorem take_snoc {α : Type} {l : List α} {i : Nat} {x : α} (h : l[i]? = some x) : l.take (i + 1) = l.take i ++ [x] := by
  rw [List.take_add_one, h]
  rfl
theorem isNon_mk (o : Option Mk) : isNon (optD mkD o) = o.isNone := isNon_optD (fun _ => rfl) o
def keptD (o : Option (List Mk)) : PyData := optD (fun l => .tuple (l.map mkD)) o
def lkeptD (o : Option (List Mk)) : PyData := optD (fun l => .list (l.map lmD)) o
/-- the gaps, by places -/
theorem gaps_len (many : Int) : ∀ (ms : List Mk) (last : Int), (gapsFrom last many ms).length = ms.length + 1
  | [], _ => rfl
  | m :: r, _ => congrArg Nat.succ (gaps_len many r m.c)
theorem gaps_at (many : Int) : ∀ (ms : List Mk) (last : Int) (i : Nat) (lo hi : Int), (last :: ms.map (·.c))[i]? = some lo → (ms.map (·.b) ++ [many])[i]? = some hi → (gapsFrom last many ms)[i]? = some (hi - lo)
  | [], last, 0, lo, hi, h1, h2 => by
    have e1 : last = lo := Option.some.inj h1
    have e2 : many = hi := Option.some.inj h2
    rw [e1, e2]
    rfl
  | [], last, i + 1, lo, hi, h1, _ => by simp at h1
  | m :: r, last, 0, lo, hi, h1, h2 => by
    have e1 : last = lo := Option.some.inj h1
    have e2 : m.b = hi := Option.some.inj h2
    rw [← e1, ← e2]
    rfl
  | m :: r, last, i + 1, lo, hi, h1, h2 => by
    show (gapsFrom m.c many r)[i]? = _
    exact gaps_at many r m.c i lo hi (by simpa using h1) (by simpa using h2)
theorem has_max : ∀ (l : List Int), 0 < l.length → ∃ m, m ∈ l ∧ ∀ y ∈ l, y ≤ m
  | [], h => by simp at h
  | [x], _ => ⟨x, by simp, fun y hy => by
    have : y = x := by simpa using hy
    omega⟩
  | x :: y :: r, _ => by
    obtain ⟨m, h1, h2⟩ := has_max (y :: r) (by simp)
    rcases Int.le_total x m with c | c
    · refine ⟨m, by simp [h1], fun z hz => ?_⟩
      rcases List.mem_cons.mp hz with e | hz
      · omega
      · exact h2 z hz
    · refine ⟨x, by simp, fun z hz => ?_⟩
      rcases List.mem_cons.mp hz with e | hz
      · omega
      · have := h2 z hz
        omega
/-- the mark that would be kept, of those from at on below far -/
def heldAt (ms : List Mk) (at_ far : Nat) : Option Mk := if at_ < far then ms[far - 1]? else none
theorem steps_done {many most last : Int} {held : Option Mk} {l : List Mk} (h : many - last ≤ most) : steps many most last held l = some [] := by
  cases l <;> (unfold steps; rw [if_pos h])
theorem steps_go {many most last : Int} {held : Option Mk} {m : Mk} {r : List Mk} (h : ¬ many - last ≤ most) (hm : m.b - last ≤ most) : steps many most last held (m :: r) = steps many most last (some m) r := by
  conv => lhs; unfold steps
  rw [if_neg h]
  cases held with
  | none =>
    simp only
    rw [if_pos hm]
  | some x =>
    simp only
    rw [if_pos hm]
/-- where no mark goes on: nothing, or the held one is kept -/
theorem steps_none {many most last : Int} {l : List Mk} (h : ¬ many - last ≤ most) (hl : ∀ m r, l = m :: r → ¬ m.b - last ≤ most) : steps many most last none l = none := by
  cases l with
  | nil =>
    unfold steps
    rw [if_neg h]
  | cons m r =>
    unfold steps
    rw [if_neg h]
    simp only
    rw [if_neg (hl m r rfl)]
theorem steps_keep {many most last : Int} {x : Mk} {l : List Mk} (h : ¬ many - last ≤ most) (hl : ∀ m r, l = m :: r → ¬ m.b - last ≤ most) : steps many most last (some x) l = (steps many most x.c none l).map (x :: ·) := by
  cases l with
  | nil =>
    unfold steps
    rw [if_neg h]
    simp only
    by_cases c : many - x.c ≤ most
    · rw [if_pos c, if_pos c]
      rfl
    · rw [if_neg c, if_neg c]
      rfl
  | cons m r =>
    conv => lhs; unfold steps
    rw [if_neg h]
    simp only
    rw [if_neg (hl m r rfl)]
    by_cases c : many - x.c ≤ most
    · rw [if_pos c, steps_done c]
      rfl
    · rw [if_neg c]
      by_cases c2 : m.b - x.c ≤ most
      · rw [if_pos c2, steps_go c c2]
      · rw [if_neg c2, steps_none c fun m' r' e => by
          cases e
          exact c2]
        rfl
end K22
namespace K22
open PySem PySem.Spec PyProof.Rows L2
def endB (x : Int) : List Int → Bool
  | [] => true
  | y :: _ => !decide (y = x)
theorem exGo_hit {i s x : Int} {r : List Int} (h : endB x r = true) : exGo i s (x :: r) = ⟨x, s, s, i + 1, i + 1⟩ :: exGo (i + 1) (i + 1) r := by
  cases r with
  | nil => rfl
  | cons y t =>
    have c : ¬ y = x := fun c => by
      simp [endB, c] at h
    conv => lhs; unfold exGo
    rw [if_neg c]
theorem exGo_miss {i s x : Int} {r : List Int} (h : endB x r = false) : exGo i s (x :: r) = exGo (i + 1) s r := by
  cases r with
  | nil => cases h
  | cons y t =>
    have c : y = x := by
      simpa [endB] using h
    conv => lhs; unfold exGo
    rw [if_pos c]
/-- the first of each run -/
def firsts : Option Int → List Int → List Int
  | _, [] => []
  | p, x :: r => if p = some x then firsts (some x) r else x :: firsts (some x) r
theorem firsts_some : ∀ (r : List Int) (x : Int), uniq (x :: r) = x :: firsts (some x) r
  | [], x => rfl
  | y :: t, x => by
    show (if y = x then uniq (y :: t) else x :: uniq (y :: t)) = x :: (if some x = some y then firsts (some y) t else y :: firsts (some y) t)
    by_cases c : y = x
    · subst c
      rw [if_pos rfl, if_pos rfl, firsts_some t y]
    · rw [if_neg c, if_neg (fun e => c (Option.some.inj e).symm), firsts_some t y]
theorem firsts_none (l : List Int) : firsts none l = uniq l := by
  cases l with
  | nil => rfl
  | cons x r =>
    rw [firsts_some]
    rfl
def optK (o : Option Mk) : PyData := optD (fun m => frac m.k) o
/-- an item at a place -/
def hitD (key : Int) (up : Bool) : PyData → Bool
  | .tuple [.int p, .int q] => decide (p * fb key < ft key * q) || (up && decide (p = ft key ∧ q = fb key))
  | _ => false
theorem hitD_frac (key k : Int) (up : Bool) : hitD key up (frac k) = (decide (k < key) || (up && decide (k = key))) := by
  show (decide (ft k * fb key < ft key * fb k) || (up && decide (ft k = ft key ∧ fb k = fb key))) = _
  rw [decide_eq_decide.mpr (frac_lt k key), decide_eq_decide.mpr (frac_eq k key)]
theorem hit_cnt (key : Int) (up : Bool) (ks : List Int) : (((fracs ks).filter (hitD key up)).length : Int) = cnt up ks key := by
  induction ks with
  | nil => cases up <;> rfl
  | cons k r ih =>
    have e : fracs (k :: r) = frac k :: fracs r := rfl
    rw [e, List.filter_cons, hitD_frac]
    have e2 : cnt up (k :: r) key = (if (decide (k < key) || (up && decide (k = key))) = true then 1 else 0) + cnt up r key := by
      unfold cnt
      cases up with
      | true =>
        simp only [if_true, cLe_cons, Bool.true_and, Bool.or_eq_true, decide_eq_true_eq]
        split <;> split <;> omega
      | false =>
        simp only [Bool.false_eq_true, if_false, cLt_cons, Bool.false_and, Bool.or_false, decide_eq_true_eq]
    rw [e2, ← ih]
    split
    · rw [List.length_cons]
      omega
    · omega
theorem cnt_app (up : Bool) (a b : List Int) (key : Int) : cnt up (a ++ b) key = cnt up a key + cnt up b key := by
  unfold cnt
  cases up <;> simp [cLt_app, cLe_app]
def ndD (room : Int) (n : Nd) : PyData := rkD room n.many n.ms
def ndMs (ns : List Nd) (room : Int) : List PyData := ns.reverse.map (ndD room)
theorem ndMs_cons (n : Nd) (r : List Nd) (room : Int) : ndMs (n :: r) room = ndMs r room ++ [ndD room n] := by
  unfold ndMs
  rw [List.reverse_cons, List.map_append]
  rfl
section
variable {K : PySem.W.Frag} {σ : L2.St} {W W0 : Wd} {te : TE} {D : Ends} {tz : TS} {ds es : List PyData} {d d1 d2 : PyData} {v : V} {l : Addr} {E : XK}
/-- another list grows no more -/
theorem Acc.frzO {m : Addr} {fs : List V} (a : Acc W0 W l ds) (hm : W0.H m = none) (hg : W.G m = none) (hh : W.H m = some (.lst fs)) (ne : l ≠ m) : Acc W0 (W.frz m (.lst fs)) l ds := by
  obtain ⟨xs, h1, h2⟩ := a.ex
  exact ⟨le_frz a.le hm hg hh, ⟨xs, h1, h2.mono ((Ex.refl W.G).up hg)⟩, (upd_ne ne).trans a.out, a.new⟩
theorem Acc.frz' (a : Acc W0 W l ds) : ∃ fs, W0.le (W.frz l (.lst fs)) ∧ Dq (W.frz l (.lst fs)).G (.ref l) (.list ds) ∧ Ex W.G (W.frz l (.lst fs)).G ∧ W.H l = some (.lst fs) := by
  obtain ⟨fs, h1, h2⟩ := a.ex
  have e : Ex W.G (W.frz l (.lst fs)).G := (Ex.refl W.G).up a.out
  exact ⟨fs, le_frz a.le a.new a.out h1, .lst upd_same (h2.mono e), e, h1⟩
theorem Acc.at_ (a : Acc W0 W l ds) : W.H l ≠ none := by
  obtain ⟨fs, h1, _⟩ := a.ex
  rw [h1]
  exact fun z => nomatch z
/-- xs.extend([..]) -/
theorem st_extA {n : Nat} (a : Acc W0 W l ds) (hn : σ[n]? = some (some (.ref l))) (hz : ds.length + es.length < 100000) (h : EvD te σ W (.list es))
    (q : ∀ W' o, W.le W' → Acc W0 (W'.set l o) l (ds ++ es) → D.nx σ (W'.set l o).H) : tDrop (tBM K "list" rExtend (tVar n) (tCons te tNil)) D σ W.H := by
  obtain ⟨fs, h1, h2⟩ := a.ex
  refine ⟨.ref l, hn, .inl ⟨rfl, fs, SqL.of h1⟩, h W (.refl a.le.s) _ fun v W1 e hv => ?_⟩
  cases hv with
  | @lst b zs _ hb r => exact ⟨l, b, fs, zs, rfl, rfl, e.h _ _ h1, e.s _ _ hb, szle (by rw [h2.length, r.length]; omega), q W1 _ e ((a.mono e).set ((h2.mono e.g).append r))⟩
/-- xs.append(f(xs.pop(), x)) -/
theorem st_popcall {Rel : List PyData → PyData → Prop} {m n : Nat} (a : Acc W0 W l (ds ++ [d1])) (hn : σ[n]? = some (some (.ref l))) (hm : σ[m]? = some (some v)) (hv : Dq W.G v d2) (hz : ds.length < 100000) (hr : Rel [d1, d2] d)
    (q : ∀ (W' : Wd) o, Ex W.G W'.G → Acc W0 (W'.set l o) l (ds ++ [d]) → D.nx σ (W'.set l o).H) :
    tDrop (tBM K "list" rAppend (tVar n) (tCons (tCall (pureSp Rel) [] E (tCons (tBM0 K "list" rPop (tVar n)) (tCons (tVar m) tNil))) tNil)) D σ W.H := by
  obtain ⟨fs, h1, h2⟩ := a.ex
  have hl := h2.length
  rw [List.length_append, List.length_singleton] at hl
  obtain ⟨x, hx, hd⟩ := h2.get (i := ds.length) (d := d1) (by simp)
  have r := h2.dropLast
  rw [List.dropLast_concat] at r
  have a2 : Acc W0 (W.set l (.lst fs.dropLast)) l ds := a.set r
  refine ⟨.ref l, hn, .inl ⟨rfl, fs, SqL.of h1⟩, .ref l, hn, .inl ⟨rfl, fs, SqL.of h1⟩, l, fs, x, rfl, rfl, h1, by rw [show fs.length - 1 = ds.length by omega]; exact hx, v, hm, ?_⟩
  refine ⟨W.set l (.lst fs.dropLast), rfl, a2.le.s, [d1, d2], d, .cons hd (.cons hv .nil), hr, fun y W1 e1 hy => ?_⟩
  have r1 := r.length
  exact ⟨l, fs.dropLast, y, rfl, rfl, e1.h _ _ upd_same, szlt (by omega), q W1 _ e1.g ((a2.mono e1).set ((r.mono e1.g).snoc hy))⟩
theorem q_extA {n : Nat} (a : Acc W0 W l ds) (hn : σ[n]? = some (some (.ref l))) (hz : ds.length + es.length < 100000) (h : EvD te σ W (.list es))
    (q : ∀ W' o, W.le W' → Acc W0 (W'.set l o) l (ds ++ es) → tz D σ (W'.set l o).H) : tSeq (tDrop (tBM K "list" rExtend (tVar n) (tCons te tNil))) tz D σ W.H := st_extA (D := { D with nx := tz D }) a hn hz h q
theorem q_popcall {Rel : List PyData → PyData → Prop} {m n : Nat} (a : Acc W0 W l (ds ++ [d1])) (hn : σ[n]? = some (some (.ref l))) (hm : σ[m]? = some (some v)) (hv : Dq W.G v d2) (hz : ds.length < 100000) (hr : Rel [d1, d2] d)
    (q : ∀ (W' : Wd) o, Ex W.G W'.G → Acc W0 (W'.set l o) l (ds ++ [d]) → tz D σ (W'.set l o).H) : tSeq (tDrop (tBM K "list" rAppend (tVar n) (tCons (tCall (pureSp Rel) [] E (tCons (tBM0 K "list" rPop (tVar n)) (tCons (tVar m) tNil))) tNil))) tz D σ W.H := st_popcall (D := { D with nx := tz D }) a hn hm hv hz hr q
end
end K22
namespace K22
open PySem PySem.Spec PyProof.Rows L2
section
variable {P : Program} {w : World} {K : PySem.W.Frag} {mg : Str → Option Value} {base : Heap}
/-! ### is_integer -/
abbrev sc_N_is_integer : List Str := ["thing"]
theorem sc_is_integer : FnScope ["thing"] ["thing"] (defScope s_is_integer) := ⟨rfl, rfl, rfl, by decide +kernel, rfl, by decide +kernel, by decide +kernel⟩
def rl_is_integer : List PyData → PyData → Prop := fun ds d => ∃ i : Int, ds = [.int i] ∧ d = .bool true
theorem ok_is_integer (B : Bl mg) (S : Stand K mg d_is_integer) : Cal P w K mg base "is_integer" 1 ["thing"] (pureSp rl_is_integer) := by
  refine cal_mk S sc_is_integer (pure_len (fun ds d h => by obtain ⟨_, rfl, _⟩ := h <;> rfl)) (fun _ _ _ _ _ _ us hl => match us, hl with | [_], _ => rfl) (fun f cdv A outer sh H vs Q E hr h => ?_)
  obtain ⟨W, rfl, s, ds, dd, hv, hR, q⟩ := h
  obtain ⟨i, rfl, rfl⟩ := hR
  obtain ⟨v0, rfl, h0⟩ := hv.inv1
  refine ⟨_, (pss_one (ps_ret (pe_and (pe_callB (kIsi (K := K) rfl) (by rfl) B.z_isinstance (by decide +kernel) (pa_cons (pv 0) (pa_cons (pe_bltn (v := .ty "int") (by rfl) B.z_int (by decide +kernel) rfl) pa_nil))) (pe_one (pe_not (pe_callB (kIsi (K := K) rfl) (by rfl) B.z_isinstance (by decide +kernel) (pa_cons (pv 0) (pa_cons (pe_bltn (v := .ty "bool") (by rfl) B.z_bool (by decide +kernel) rfl) pa_nil)))))))), ?_⟩
  exact st_ret s (ev_andV (ev_isi (ev_var rfl h0) kit_int_int) fun _ => ev_notV (ev_isi (ev_var rfl h0) kit_int_bool)) q
/-! ### is_between -/
abbrev sc_N_is_between : List Str := ["thing", "least", "most"]
theorem sc_is_between : FnScope ["thing", "least", "most"] ["thing", "least", "most"] (defScope s_is_between) := ⟨rfl, rfl, rfl, by decide +kernel, rfl, by decide +kernel, by decide +kernel⟩
def rl_is_between : List PyData → PyData → Prop := fun ds d => ∃ i a b : Int, ds = [.int i, .int a, .int b] ∧ d = .bool (decide (a ≤ i) && decide (i ≤ b))
theorem ok_is_between (B : Bl mg) (S : Stand K mg d_is_between) (c_is_integer : Cal P w K mg base "is_integer" 1 ["thing"] (pureSp rl_is_integer)) : Cal P w K mg base "is_between" 2 ["thing", "least", "most"] (pureSp rl_is_between) := by
  refine cal_mk S sc_is_between (pure_len (fun ds d h => by obtain ⟨_, _, _, rfl, _⟩ := h <;> rfl)) (fun _ _ _ _ _ _ us hl => match us, hl with | [_, _, _], _ => rfl) (fun f cdv A outer sh H vs Q E hr h => ?_)
  obtain ⟨W, rfl, s, ds, dd, hv, hR, q⟩ := h
  obtain ⟨i, a, b, rfl, rfl⟩ := hR
  obtain ⟨v0, v1, v2, rfl, h0, h1, h2⟩ := hv.inv3
  refine ⟨_, (pss_one (ps_ret (pe_and (pe_cal c_is_integer (hr.mono (by decide)) (by rfl) (pa_cons (pv 0) pa_nil)) (pe_one (pe_chain op_le op_le (pv 1) (pv 0) (pv 2)))))), ?_⟩
  exact st_ret s (ev_andV (ev_call (ea_cons (ev_var rfl h0) ea_nil) ⟨i, rfl, rfl⟩) fun _ => ev_chain (ev_var rfl h1) (ev_var rfl h0) fun _ => ev_var rfl h2) q
/-! ### is_count -/
abbrev sc_N_is_count : List Str := ["thing"]
theorem sc_is_count : FnScope ["thing"] ["thing"] (defScope s_is_count) := ⟨rfl, rfl, rfl, by decide +kernel, rfl, by decide +kernel, by decide +kernel⟩
def rl_is_count : List PyData → PyData → Prop := fun ds d => ∃ i : Int, ds = [.int i] ∧ d = .bool (decide (0 ≤ i))
theorem ok_is_count (B : Bl mg) (S : Stand K mg d_is_count) (c_is_integer : Cal P w K mg base "is_integer" 1 ["thing"] (pureSp rl_is_integer)) : Cal P w K mg base "is_count" 2 ["thing"] (pureSp rl_is_count) := by
  refine cal_mk S sc_is_count (pure_len (fun ds d h => by obtain ⟨_, rfl, _⟩ := h <;> rfl)) (fun _ _ _ _ _ _ us hl => match us, hl with | [_], _ => rfl) (fun f cdv A outer sh H vs Q E hr h => ?_)
  obtain ⟨W, rfl, s, ds, dd, hv, hR, q⟩ := h
  obtain ⟨i, rfl, rfl⟩ := hR
  obtain ⟨v0, rfl, h0⟩ := hv.inv1
  refine ⟨_, (pss_one (ps_ret (pe_and (pe_cal c_is_integer (hr.mono (by decide)) (by rfl) (pa_cons (pv 0) pa_nil)) (pe_one (pe_cmpR op_ge (pv 0) pe_int (nomark _)))))), ?_⟩
  exact st_ret s (ev_andV (ev_call (ea_cons (ev_var rfl h0) ea_nil) ⟨i, rfl, rfl⟩) fun _ => ev_opB (ev_var rfl h0) ev_int) q
/-! ### is_tuple_of -/
abbrev sc_N_is_tuple_of : List Str := ["thing", "many"]
theorem sc_is_tuple_of : FnScope ["thing", "many"] ["thing", "many"] (defScope s_is_tuple_of) := ⟨rfl, rfl, rfl, by decide +kernel, rfl, by decide +kernel, by decide +kernel⟩
def rl_is_tuple_of : List PyData → PyData → Prop := fun ds d => ∃ (l : List PyData) (n : Int), ds = [.tuple l, .int n] ∧ d = .bool (decide ((l.length : Int) = n))
theorem ok_is_tuple_of (B : Bl mg) (S : Stand K mg d_is_tuple_of) : Cal P w K mg base "is_tuple_of" 1 ["thing", "many"] (pureSp rl_is_tuple_of) := by
  refine cal_mk S sc_is_tuple_of (pure_len (fun ds d h => by obtain ⟨_, _, rfl, _⟩ := h <;> rfl)) (fun _ _ _ _ _ _ us hl => match us, hl with | [_, _], _ => rfl) (fun f cdv A outer sh H vs Q E hr h => ?_)
  obtain ⟨W, rfl, s, ds, dd, hv, hR, q⟩ := h
  obtain ⟨l, n, rfl, rfl⟩ := hR
  obtain ⟨v0, v1, rfl, h0, h1⟩ := hv.inv2
  refine ⟨_, (pss_one (ps_ret (pe_and (pe_callB (kIsi (K := K) rfl) (by rfl) B.z_isinstance (by decide +kernel) (pa_cons (pv 0) (pa_cons (pe_bltn (v := .ty "tuple") (by rfl) B.z_tuple (by decide +kernel) rfl) pa_nil))) (pe_one (pe_cmpR op_eq (pe_callB (kLen (K := K) rfl) (by rfl) B.z_len (by decide +kernel) (pa_cons (pv 0) pa_nil)) (pv 1) (nomark _)))))), ?_⟩
  exact st_ret s (ev_andV (ev_isi (ev_var rfl h0) kit_tuple_tuple) fun _ => ev_eqI (ev_lenT (ev_var rfl h0)) (ev_var rfl h1)) q
/-! ### check_number -/
abbrev sc_N_check_number : List Str := ["thing", "least", "most"]
theorem sc_check_number : FnScope ["thing", "least", "most"] ["thing", "least", "most"] (defScope s_check_number) := ⟨rfl, rfl, rfl, by decide +kernel, rfl, by decide +kernel, by decide +kernel⟩
def rl_check_number : List PyData → PyData → Prop := fun ds d => ∃ i a b : Int, ds = [.int i, .int a, .int b] ∧ a ≤ i ∧ i ≤ b ∧ d = .none
theorem ok_check_number (B : Bl mg) (S : Stand K mg d_check_number) (c_is_between : Cal P w K mg base "is_between" 2 ["thing", "least", "most"] (pureSp rl_is_between)) : Cal P w K mg base "check_number" 3 ["thing", "least", "most"] (pureSp rl_check_number) := by
  refine cal_mk S sc_check_number (pure_len (fun ds d h => by obtain ⟨_, _, _, rfl, _⟩ := h <;> rfl)) (fun _ _ _ _ _ _ us hl => match us, hl with | [_, _, _], _ => rfl) (fun f cdv A outer sh H vs Q E hr h => ?_)
  obtain ⟨W, rfl, s, ds, dd, hv, hR, q⟩ := h
  obtain ⟨i, a, b, rfl, ha, hb, rfl⟩ := hR
  obtain ⟨v0, v1, v2, rfl, h0, h1, h2⟩ := hv.inv3
  refine ⟨_, (pss_one (ps_if (pt_not (pt_val (pe_cal c_is_between (hr.mono (by decide)) (by rfl) (pa_cons (pv 0) (pa_cons (pv 1) (pa_cons (pv 2) pa_nil))))))
      (pss_one ps_never)
      pss_nil)), ?_⟩
  have e : (!(decide (a ≤ i) && decide (i ≤ b))) = false := by rw [decide_eq_true ha, decide_eq_true hb] <;> rfl
  exact st_if s (eb_is (eb_not (eb_B (ev_call (ea_cons (ev_var rfl h0) (ea_cons (ev_var rfl h1) (ea_cons (ev_var rfl h2) ea_nil))) ⟨i, a, b, rfl, rfl⟩))) e) (fun z => nomatch z) (fun _ W' e => q .non W' e .non)
/-! ### is_fraction -/
abbrev sc_N_is_fraction : List Str := ["thing"]
theorem sc_is_fraction : FnScope ["thing"] ["thing"] (defScope s_is_fraction) := ⟨rfl, rfl, rfl, by decide +kernel, rfl, by decide +kernel, by decide +kernel⟩
def rl_is_fraction : List PyData → PyData → Prop := fun ds d => ∃ k : Int, ds = [frac k] ∧ d = .bool true
theorem ok_is_fraction (B : Bl mg) (S : Stand K mg d_is_fraction) (c_is_integer : Cal P w K mg base "is_integer" 1 ["thing"] (pureSp rl_is_integer)) (c_is_tuple_of : Cal P w K mg base "is_tuple_of" 1 ["thing", "many"] (pureSp rl_is_tuple_of)) : Cal P w K mg base "is_fraction" 2 ["thing"] (pureSp rl_is_fraction) := by
  refine cal_mk S sc_is_fraction (pure_len (fun ds d h => by obtain ⟨_, rfl, _⟩ := h <;> rfl)) (fun _ _ _ _ _ _ us hl => match us, hl with | [_], _ => rfl) (fun f cdv A outer sh H vs Q E hr h => ?_)
  obtain ⟨W, rfl, s, ds, dd, hv, hR, q⟩ := h
  obtain ⟨k, rfl, rfl⟩ := hR
  obtain ⟨v0, rfl, h0⟩ := hv.inv1
  refine ⟨_, (pss_cons (ps_if (PW.pt (pw_or (pt_not (pt_val (pe_cal c_is_tuple_of (hr.mono (by decide)) (by rfl) (pa_cons (pv 0) (pa_cons pe_int pa_nil))))) (pw_or (pt_not (pt_val (pe_cal c_is_integer (hr.mono (by decide)) (by rfl) (pa_cons (pe_ix (kIxT (K := K) rfl) (pv 0) pe_int (fun _ _ => rfl)) pa_nil)))) (pw_or (pt_not (pt_val (pe_cal c_is_integer (hr.mono (by decide)) (by rfl) (pa_cons (pe_ix (kIxT (K := K) rfl) (pv 0) pe_int (fun _ _ => rfl)) pa_nil)))) (pw_or1 (pt_cmpR op_lt (pe_ix (kIxT (K := K) rfl) (pv 0) pe_int (fun _ _ => rfl)) pe_int (nomark _)))))))
      (pss_one (ps_ret pe_bl))
      pss_nil)
      (pss_one (ps_ret (pe_cmpR op_eq (pe_callBfun cr_gcd (by rfl) B.gcd (pa_cons (pe_ix (kIxT (K := K) rfl) (pv 0) pe_int (fun _ _ => rfl)) (pa_cons (pe_ix (kIxT (K := K) rfl) (pv 0) pe_int (fun _ _ => rfl)) pa_nil))) pe_int (nomark _))))), ?_⟩
  have i0 : EvD (tOp (rIxT K) (tVar 0) (tC (.int 0))) [some v0] W (.int (ft k)) := ev_ixT rfl (ev_var rfl h0) ev_int
  have i1 : EvD (tOp (rIxT K) (tVar 0) (tC (.int 1))) [some v0] W (.int (fb k)) := ev_ixT rfl (ev_var rfl h0) ev_int
  refine st_seq (st_if s (b := false) (eb_is (eb_or (eb_not (eb_B (ev_call (ea_cons (ev_var rfl h0) (ea_cons ev_int ea_nil)) ⟨_, _, rfl, rfl⟩))) fun _ =>
    eb_or (eb_not (eb_B (ev_call (ea_cons i0 ea_nil) ⟨_, rfl, rfl⟩))) fun _ => eb_or (eb_not (eb_B (ev_call (ea_cons i1 ea_nil) ⟨_, rfl, rfl⟩))) fun _ => eb_test (ev_opB i1 ev_int)) ?_) (fun z => nomatch z) (fun _ W' e => ?_))
  · show decide (fb k < 1) = false
    exact decide_eq_false (by have := fb_pos k; omega)
  · refine st_ret e.s (ev_is (ev_eqI (ev_gcd (i0.mono e) (i1.mono e)) ev_int) ?_) (fun v W2 e2 hd => q v W2 (e.trans e2) hd)
    rw [frac_gcd]
    rfl
/-! ### is_less -/
abbrev sc_N_is_less : List Str := ["one", "other"]
theorem sc_is_less : FnScope ["one", "other"] ["one", "other"] (defScope s_is_less) := ⟨rfl, rfl, rfl, by decide +kernel, rfl, by decide +kernel, by decide +kernel⟩
def rl_is_less : List PyData → PyData → Prop := fun ds d => ∃ k j : Int, ds = [frac k, frac j] ∧ d = .bool (decide (k < j))
theorem ok_is_less (B : Bl mg) (S : Stand K mg d_is_less) : Cal P w K mg base "is_less" 1 ["one", "other"] (pureSp rl_is_less) := by
  refine cal_mk S sc_is_less (pure_len (fun ds d h => by obtain ⟨_, _, rfl, _⟩ := h <;> rfl)) (fun _ _ _ _ _ _ us hl => match us, hl with | [_, _], _ => rfl) (fun f cdv A outer sh H vs Q E hr h => ?_)
  obtain ⟨W, rfl, s, ds, dd, hv, hR, q⟩ := h
  obtain ⟨k, j, rfl, rfl⟩ := hR
  obtain ⟨v0, v1, rfl, h0, h1⟩ := hv.inv2
  refine ⟨_, (pss_one (ps_ret (pe_cmpR op_lt (pe_op op_mul (pe_ix (kIxT (K := K) rfl) (pv 0) pe_int (fun _ _ => rfl)) (pe_ix (kIxT (K := K) rfl) (pv 1) pe_int (fun _ _ => rfl))) (pe_op op_mul (pe_ix (kIxT (K := K) rfl) (pv 1) pe_int (fun _ _ => rfl)) (pe_ix (kIxT (K := K) rfl) (pv 0) pe_int (fun _ _ => rfl))) (nomark _)))), ?_⟩
  refine st_ret s (ev_is (ev_opB (ev_mulR (fb_small j) (ev_ixT rfl (ev_var rfl h0) ev_int) (ev_ixT rfl (ev_var rfl h1) ev_int)) (ev_mulR (fb_small k) (ev_ixT rfl (ev_var rfl h1) ev_int) (ev_ixT rfl (ev_var rfl h0) ev_int))) ?_) q
  exact congrArg PyData.bool (decide_eq_decide.mpr (frac_lt k j))
end
end K22
namespace K22
open PySem PySem.Spec PyProof.Rows L2
section
variable {P : Program} {w : World} {K : PySem.W.Frag} {mg : Str → Option Value} {base : Heap}
/-! ### laid_together -/
abbrev sc_N_laid_together : List Str := ["one", "other", "found", "at", "value"]
theorem sc_laid_together : FnScope ["one", "other", "found", "at", "value"] ["one", "other"] (defScope s_laid_together) := ⟨rfl, rfl, rfl, by decide +kernel, rfl, by decide +kernel, by decide +kernel⟩
def rl_laid_together : List PyData → PyData → Prop := fun ds d => ∃ xs ys : List Int, ds = [.list (fracs xs), .list (fracs ys)] ∧ xs.length + ys.length ≤ 50000 ∧ d = .list (fracs (laid xs ys))
theorem ok_laid_together (B : Bl mg) (S : Stand K mg d_laid_together) (c_is_less : Cal P w K mg base "is_less" 1 ["one", "other"] (pureSp rl_is_less)) : Cal P w K mg base "laid_together" 2 ["one", "other"] (pureSp rl_laid_together) := by
  refine cal_mk S sc_laid_together (pure_len (fun ds d h => by obtain ⟨_, _, rfl, _⟩ := h <;> rfl)) (fun _ _ _ _ _ _ us hl => match us, hl with | [_, _], _ => rfl) (fun f cdv A outer sh H vs Q E hr h => ?_)
  obtain ⟨W, rfl, s, ds, dd, hv, hR, q⟩ := h
  obtain ⟨xs, ys, rfl, hz, rfl⟩ := hR
  obtain ⟨v0, v1, rfl, h0, h1⟩ := hv.inv2
  refine ⟨_, (pss_cons (ps_set (i := 2) sc_laid_together.nd rfl (.inl rfl) (pe_lst pa_nil))
      (pss_cons (ps_set (i := 3) sc_laid_together.nd rfl (.inl rfl) pe_int)
      (pss_cons (ps_for PassesOwn.never rfl (kpi_list (K := K) rfl (pv 0)) (pg_name (i := 4) sc_laid_together.nd rfl (.inl rfl))
      (pss_cons (ps_while PassesOwn.never (PW.pt (pw_and (pt_cmpR op_lt (pv 3) (pe_callB (kLen (K := K) rfl) (by rfl) B.z_len (by decide +kernel) (pa_cons (pv 1) pa_nil)) (nomark _)) (pw_and1 (pt_val (pe_cal c_is_less (hr.mono (by decide)) (by rfl) (pa_cons (pe_ix (kIxL (K := K) rfl) (pv 1) (pv 3) (fun _ _ => rfl)) (pa_cons (pv 4) pa_nil)))))))
      (pss_cons (ps_expr (kBM (K := K) rfl (pe_bm PySem.F.plainAttrs_list PySem.F.slot_list_append PySem.F.type_list_append mt_append (pv 2) (pa_cons (pe_ix (kIxL (K := K) rfl) (pv 1) (pv 3) (fun _ _ => rfl)) pa_nil))))
      (pss_one (ps_aug (i := 3) sc_laid_together.nd rfl (.inl rfl) pe_int ip_add))))
      (pss_one (ps_expr (kBM (K := K) rfl (pe_bm PySem.F.plainAttrs_list PySem.F.slot_list_append PySem.F.type_list_append mt_append (pv 2) (pa_cons (pv 4) pa_nil)))))))
      (pss_one (ps_ret (pe_op op_cat (pv 2) (pe_slice (kSlL (K := K) rfl) (pv 1) (po_some (pv 3)) po_none))))))), ?_⟩
  refine q_newL fun l hl => ?_
  have a0 : Acc W (W.set l (.lst [])) l [] := Acc.start (.refl s) hl
  refine q_asg a0.le.s ev_int fun v3 W1 e1 hv3 => ?_
  cases hv3
  have a1 := a0.mono e1
  refine q_forL a1.le.s (ev_var rfl (h0.mono a1.le.g)) fun W2 e2 => ⟨fun i σ' W' => ∃ (at_ : Nat) (F : List Int) (y : Option V), σ' = [some v0, some v1, some (.ref l), some (.int (at_ : Int)), y] ∧ Acc W W' l (fracs F) ∧ at_ ≤ ys.length ∧ F ++ laid (xs.drop i) (ys.drop at_) = laid xs ys,
    ⟨0, [], none, rfl, a1.mono e2, Nat.zero_le _, rfl⟩, ?_, ?_⟩
  · rintro i σ' W' x d hd g s' hx ⟨at_, F, y, rfl, a, hat, hF⟩
    obtain ⟨k, hk, rfl⟩ := fracs_at hd
    rw [drop_cons hk] at hF
    refine q_while s' (fun m σ2 W2 => ∃ (at_ : Nat) (F : List Int), σ2 = [some v0, some v1, some (.ref l), some (.int (at_ : Int)), some x] ∧ Acc W W2 l (fracs F) ∧ Ex W'.G W2.G ∧ at_ ≤ ys.length ∧ m = ys.length - at_ ∧ F ++ laid (k :: xs.drop (i + 1)) (ys.drop at_) = laid xs ys)
      (ys.length - at_) ⟨at_, F, rfl, a, Ex.refl _, hat, rfl, hF⟩ ?_
    rintro m σ2 W2 s2 ⟨at2, F2, rfl, a2, g2, hat2, rfl, hF2⟩
    have hlen : (fracs F2).length < 100000 := by
      have q := congrArg List.length hF2
      rw [List.length_append, laid_len, laid_len] at q
      rw [fracs_len]
      omega
    refine ⟨headLt k (ys.drop at2), ?_, fun hb W3 e3 => ?_, fun hb W3 e3 => ?_⟩
    · cases e : ys.drop at2 with
      | nil =>
        have hn : ¬ ((at2 : Int) < ((fracs ys).length : Int)) := by
          have := List.drop_eq_nil_iff.mp e
          rw [fracs_len]
          omega
        exact eb_and (b := false) (c := false) (eb_is (eb_test (ev_opB (ev_var rfl (.int _)) (ev_lenL (ev_var rfl (h1.mono a2.le.g))))) (decide_eq_false hn)) fun z => nomatch z
      | cons y0 t =>
        obtain ⟨hy, _⟩ := drop_head e
        have hn : ((at2 : Int) < ((fracs ys).length : Int)) := by
          have := (List.getElem?_eq_some_iff.mp hy).1
          rw [fracs_len]
          omega
        exact eb_and (b := true) (eb_is (eb_test (ev_opB (ev_var rfl (.int _)) (ev_lenL (ev_var rfl (h1.mono a2.le.g))))) (decide_eq_true hn)) fun _ =>
          eb_B (ev_call (ea_cons (ev_ixL (atI_nat (at_fracs hy)) (ev_var rfl (h1.mono a2.le.g)) (ev_var rfl (.int _))) (ea_cons (ev_var rfl (hx.mono g2)) ea_nil)) ⟨y0, k, rfl, rfl⟩)
    · obtain ⟨y0, t, ht, hlt⟩ := headLt_true hb
      obtain ⟨hy, ht'⟩ := drop_head ht
      refine q_appA (a2.mono e3) rfl hlen (ev_ixL (atI_nat (at_fracs hy)) (ev_var rfl (h1.mono (a2.mono e3).le.g)) (ev_var rfl (.int _))) fun W4 o e4 a4 => ?_
      refine st_augI a4.le.s rfl ev_int fun W5 e5 => ⟨W5, ys.length - (at2 + 1), rfl, e5.s, ?_, at2 + 1, F2 ++ [y0], rfl, ?_, ((g2.trans e3.g).trans e4.g).trans e5.g, ?_, rfl, ?_⟩
      · have := (List.getElem?_eq_some_iff.mp hy).1
        omega
      · rw [fracs_snoc]
        exact a4.mono e5
      · have := (List.getElem?_eq_some_iff.mp hy).1
        omega
      · rw [ht'] 
        rw [ht, laid_lt hlt] at hF2
        rw [← hF2]
        simp
    · rw [laid_stop hb] at hF2
      refine st_appA (a2.mono e3) rfl hlen (ev_var rfl ((hx.mono g2).mono e3.g)) fun W4 o e4 a4 => ⟨W4.set l o, rfl, (((g.trans g2).trans e3.g).trans e4.g), a4.le.s, at2, F2 ++ [k], some x, rfl, ?_, hat2, ?_⟩
      · rw [fracs_snoc]
        exact a4
      · rw [← hF2]
        simp
  · rintro σ' W' g s' ⟨at_, F, y, rfl, a, hat, hF⟩
    rw [fracs_len, List.drop_length, laid_nil] at hF
    obtain ⟨o, e3, hd, hg, _⟩ := a.frz
    refine st_ret (W := W'.frz l o) e3.s (ev_is (ev_catL (ev_var rfl hd) (ev_slL (ev_var rfl ((h1.mono a.le.g).mono hg)) (eo_some (ev_var rfl (.int _))) eo_none) ?_) ?_) fun v W5 e5 hv => q v W5 (e3.trans e5) hv
    · rw [cutD_from, fracs_len, List.length_drop, fracs_len]
      have q := congrArg List.length hF
      rw [List.length_append, laid_len, List.length_drop] at q
      omega
    · rw [cutD_from, ← hF]
      unfold fracs
      rw [List.map_append, List.map_drop]
/-! ### ascending -/
abbrev sc_N_ascending : List Str := ["values", "lists", "later", "value", "at"]
theorem sc_ascending : FnScope ["values", "lists", "later", "value", "at"] ["values"] (defScope s_ascending) := ⟨rfl, rfl, rfl, by decide +kernel, rfl, by decide +kernel, by decide +kernel⟩
def rl_ascending : List PyData → PyData → Prop := fun ds d => ∃ ks : List Int, ds = [.list (fracs ks)] ∧ ks.length ≤ 1000 ∧ d = .list (fracs (srt ks))
theorem ok_ascending (B : Bl mg) (S : Stand K mg d_ascending) (c_laid_together : Cal P w K mg base "laid_together" 2 ["one", "other"] (pureSp rl_laid_together)) : Cal P w K mg base "ascending" 3 ["values"] (pureSp rl_ascending) := by
  refine cal_mk S sc_ascending (pure_len (fun ds d h => by obtain ⟨_, rfl, _⟩ := h <;> rfl)) (fun _ _ _ _ _ _ us hl => match us, hl with | [_], _ => rfl) (fun f cdv A outer sh H vs Q E hr h => ?_)
  obtain ⟨W, rfl, s, ds, dd, hv, hR, q⟩ := h
  obtain ⟨ks, rfl, hz, rfl⟩ := hR
  obtain ⟨v0, rfl, h0⟩ := hv.inv1
  refine ⟨_, (pss_cons (ps_set (i := 1) sc_ascending.nd rfl (.inr rfl) (pe_lc (own := [("value", 3)]) rfl sc_ascending.nd (kpi_list (K := K) rfl (pv 0)) (blkOk_by (N := sc_N_ascending) (sc := defScope s_ascending) (by decide +kernel)) (fun _ _ _ _ _ => (pg_name (i := 3) sc_ascending.nd rfl (.inl rfl))) (fun _ _ _ _ _ => pts_nil) (fun _ _ _ _ _ => (pe_lst (pa_cons (pv 3) pa_nil)))))
      (pss_cons (ps_while PassesOwn.never (pt_cmpR op_gt (pe_callB (kLen (K := K) rfl) (by rfl) B.z_len (by decide +kernel) (pa_cons (pv 1) pa_nil)) pe_int (nomark _))
      (pss_cons (ps_setLc (i := 2) (own := [("at", 4)]) rfl sc_ascending.nd rfl rfl (sw_true rfl rfl rfl (by decide +kernel)) (pi_range3 (by rfl) B.z_range (pa_cons pe_int (pa_cons (pe_op op_sub (pe_callB (kLen (K := K) rfl) (by rfl) B.z_len (by decide +kernel) (pa_cons (pv 1) pa_nil)) pe_int) (pa_cons pe_int pa_nil)))) (blkOk_by (N := sc_N_ascending) (sc := defScope s_ascending) (by decide +kernel)) (fun _ _ _ _ _ => (pg_name (i := 4) sc_ascending.nd rfl (.inl rfl))) (fun _ _ _ _ _ => pts_nil) (fun _ _ _ _ _ => (pe_cal c_laid_together (hr.mono (by decide)) (by rfl) (pa_cons (pe_ix (kIxL (K := K) rfl) (pv 1) (pv 4) (fun _ _ => rfl)) (pa_cons (pe_ix (kIxL (K := K) rfl) (pv 1) (pe_op op_add (pv 4) pe_int) (fun _ _ => rfl)) pa_nil)))))
      (Evl.pss_cut (ps_if (pt_cmpR op_eq (pe_op op_mod (pe_callB (kLen (K := K) rfl) (by rfl) B.z_len (by decide +kernel) (pa_cons (pv 1) pa_nil)) pe_int) pe_int (nomark _))
      (pss_one (ps_expr (kBM (K := K) rfl (pe_bm PySem.F.plainAttrs_list PySem.F.slot_list_append PySem.F.type_list_append mt_append (pv 2) (pa_cons (pe_ix (kIxL (K := K) rfl) (pv 1) (pe_un un_neg pe_int) (fun _ _ => rfl)) pa_nil)))))
      pss_nil)
      (pss_one (ps_set (i := 1) sc_ascending.nd rfl (.inr rfl) (pv 2))))))
      (pss_one (ps_ret (pe_ifExp (pt_cmpR op_gt (pe_callB (kLen (K := K) rfl) (by rfl) B.z_len (by decide +kernel) (pa_cons (pv 1) pa_nil)) pe_int (nomark _)) (pe_ix (kIxL (K := K) rfl) (pv 1) pe_int (fun _ _ => rfl)) (pe_lst pa_nil)))))), ?_⟩
  refine q_asg s (d := .list (listsD (ks.map fun k => [k]))) ?_ fun vl W1 e1 hl => ?_
  · refine ev_is (ev_lcL (fun _ => true) (fun d => .list [d]) (ev_var rfl h0) (by rw [fracs_len]; omega) (fun x => rfl) fun W1 x d e1 hd hx => ⟨eb_yes e1.s, fun _ => ev_lst (ea_cons (ev_var rfl hx) ea_nil) (by show 1 ≤ 100000; decide)⟩) ?_
    unfold listsD fracs
    rw [List.filter_eq_self.mpr fun _ _ => rfl, List.map_map, List.map_map]
    rfl
  refine q_while e1.s (fun m σ' W' => ∃ (L : List (List Int)) (vl : V) (y : Option V), σ' = [some v0, some vl, y, none, none] ∧ W.le W' ∧ Dq W'.G vl (.list (listsD L)) ∧ Merge ks L ∧ L.length ≤ 1000 ∧ m = L.length)
    ks.length ⟨_, vl, none, rfl, e1, hl, merge_start ks, by rw [List.length_map]; exact hz, (List.length_map _).symm⟩ ?_
  rintro m σ' W' s' ⟨L, vl, y, rfl, e, hl, hM, hL, rfl⟩
  have hln : (listsD L).length = L.length := List.length_map _
  refine ⟨decide ((1 : Int) < ((listsD L).length : Int)), eb_test (ev_opB (ev_lenL (ev_var rfl hl)) ev_int), fun hb W2 e2 => ?_, fun hb W2 e2 => ?_⟩
  · have hlt := of_decide_eq_true hb
    rw [hln] at hlt
    have hl2 := hl.mono e2.g
    have hlen : ∀ a ∈ L, a.length ≤ 1000 := fun a ha => Nat.le_trans (merge_len hM a ha) hz
    refine q_lcR2 (fun i => listsD ((pairs L).take i)) rfl (fun i => by unfold listsD; rw [List.length_map, List.length_take]; omega) e2.s (mi := (L.length : Int) - 1) (m := L.length / 2)
      (ea_cons ev_int (ea_cons (ev_opI (by rw [← hln]; exact ev_lenL (ev_var rfl hl2)) ev_int) (ea_cons ev_int ea_nil))) (by omega) (by omega) (fun x => rfl) (fun W3 i e3 hi => ?_) fun l W3 a3 => ?_
    · obtain ⟨a, ha⟩ : ∃ a, L[2 * i]? = some a := ⟨_, List.getElem?_eq_getElem (by omega)⟩
      obtain ⟨b, hb⟩ : ∃ b, L[2 * i + 1]? = some b := ⟨_, List.getElem?_eq_getElem (by omega)⟩
      have hp := pairs_get L i a b ha hb
      have hl3 := hl2.mono e3.g
      have da : (listsD L)[2 * i]? = some (.list (fracs a)) := by unfold listsD; rw [List.getElem?_map, ha]; rfl
      have db : (listsD L)[2 * i + 1]? = some (.list (fracs b)) := by unfold listsD; rw [List.getElem?_map, hb]; rfl
      refine ⟨.list (fracs (laid a b)), ev_call (ea_cons (ev_ixL (i := 2 * (i : Int)) (atI_nat (j := 2 * i) da) (ev_var rfl hl3) (ev_var rfl (.int _))) (ea_cons (ev_ixL (i := 2 * (i : Int) + 1) (atI_nat (j := 2 * i + 1) db) (ev_var rfl hl3) (ev_opI (ev_var rfl (.int _)) ev_int)) ea_nil)) ⟨a, b, rfl, ?_, rfl⟩, ?_⟩
      · have q1 := hlen a (List.mem_of_getElem? ha)
        have q2 := hlen b (List.mem_of_getElem? hb)
        omega
      · unfold listsD
        rw [List.take_add_one, hp, List.map_append]
        rfl
    have hl3 := hl2.mono a3.le.g
    have hpl : (pairs L).take (L.length / 2) = pairs L := List.take_of_length_le (by rw [pairs_len]; exact Nat.le_refl _)
    have a3' : Acc W2 W3 l (listsD (pairs L)) := by
      have q := a3
      simp only [hpl] at q
      exact q
    have hpn : (listsD (pairs L)).length < 100000 := by
      unfold listsD
      rw [List.length_map, pairs_len]
      omega
    have hodd : EvB (tTest (tOp rEq (tOp (rI (fun _ j => 0 < j) fun i j => .int (i % j)) (tCB (rLenK K) (tCons (tVar 1) tNil)) (tC (.int 2))) (tC (.int 1)))) [some v0, some vl, some (.ref l), none, none] W3 (decide (((listsD L).length : Int) % 2 = 1)) :=
      eb_test (ev_eqI (ev_opC (f := fun i j => i % j) (by decide) (ev_lenL (ev_var rfl hl3)) ev_int) ev_int)
    refine ⟨fun σ2 H2 => ∃ W5 : Wd, H2 = W5.H ∧ σ2 = [some v0, some vl, some (.ref l), none, none] ∧ Acc W2 W5 l (listsD (pairs L ++ oddOne L)), ?_, ?_⟩
    · refine st_if a3.le.s hodd (fun ho W4 e4 => ?_) (fun ho W4 e4 => ?_)
      · have ho' := of_decide_eq_true ho
        rw [hln] at ho'
        obtain ⟨z, hz'⟩ : ∃ z, L[L.length - 1]? = some z := ⟨_, List.getElem?_eq_getElem (by omega)⟩
        have dz : atI (listsD L) (-1) = some (.list (fracs z)) := by
          have e1 : (listsD L)[L.length - 1]? = some (.list (fracs z)) := by unfold listsD; rw [List.getElem?_map, hz']; rfl
          unfold atI ixN
          rw [if_neg (by omega), if_pos (by omega)]
          show (listsD L)[((-1 : Int) + ((listsD L).length : Int)).toNat]? = _
          rw [show ((-1 : Int) + ((listsD L).length : Int)).toNat = L.length - 1 by omega]
          exact e1
        refine st_appA (a3'.mono e4) rfl hpn (ev_ixL dz (ev_var rfl (hl3.mono e4.g)) (ev_neg ev_int)) fun W5 o e5 a5 => ⟨_, rfl, rfl, ?_⟩
        rw [oddOne_last L z (by omega) hz']
        unfold listsD at a5 ⊢
        rw [List.map_append]
        exact a5
      · have ho' := of_decide_eq_false ho
        rw [hln] at ho'
        have e0 : oddOne L = [] := List.length_eq_zero_iff.mp (by rw [oddOne_len]; omega)
        refine ⟨W4, rfl, rfl, ?_⟩
        rw [e0, List.append_nil]
        exact a3'.mono e4
    · rintro σ2 H2 ⟨W4, rfl, rfl, a4⟩
      obtain ⟨o, e5, hd, hg, _⟩ := a4.frz
      refine st_asg (W := W4.frz l o) e5.s (ev_var rfl hd) fun v W6 e6 hv => ⟨W6, (pairs L ++ oddOne L).length, rfl, e6.s, ?_, _, v, _, rfl, (e.trans e2).trans (e5.trans e6), hv, merge_next hM, ?_, rfl⟩
      · rw [List.length_append, pairs_len, oddOne_len]
        omega
      · rw [List.length_append, pairs_len, oddOne_len]
        omega
  · have hlt := of_decide_eq_false hb
    rw [hln] at hlt
    have hl2 := hl.mono e2.g
    refine st_ret e2.s (d := .list (fracs (srt ks))) (ev_if (b := decide ((0 : Int) < ((listsD L).length : Int))) (eb_test (ev_opB (ev_lenL (ev_var rfl hl2)) ev_int)) (fun c => ?_) (fun c => ?_)) fun v W3 e3 hv => q v W3 ((e.trans e2).trans e3) hv
    · have c' := of_decide_eq_true c
      rw [hln] at c'
      obtain ⟨a, ea⟩ := List.length_eq_one_iff.mp (show L.length = 1 by omega)
      subst ea
      rw [merge_end1 hM]
      exact ev_ixL rfl (ev_var rfl hl2) ev_int
    · have c' := of_decide_eq_false c
      rw [hln] at c'
      have ea : L = [] := List.length_eq_zero_iff.mp (by omega)
      subst ea
      rw [merge_end0 hM]
      exact ev_lst ea_nil (by show 0 ≤ 100000; decide)
end
end K22
namespace K22
open PySem PySem.Spec PyProof.Rows L2
section
variable {P : Program} {w : World} {K : PySem.W.Frag} {mg : Str → Option Value} {base : Heap}
/-! ### is_pour -/
abbrev sc_N_is_pour : List Str := ["step"]
theorem sc_is_pour : FnScope ["step"] ["step"] (defScope s_is_pour) := ⟨rfl, rfl, rfl, by decide +kernel, rfl, by decide +kernel, by decide +kernel⟩
def rl_is_pour : List PyData → PyData → Prop := fun ds d => ∃ t : Stp, ds = [stepD t] ∧ d = .bool t.isNone
theorem ok_is_pour (B : Bl mg) (S : Stand K mg d_is_pour) (c_is_tuple_of : Cal P w K mg base "is_tuple_of" 1 ["thing", "many"] (pureSp rl_is_tuple_of)) : Cal P w K mg base "is_pour" 2 ["step"] (pureSp rl_is_pour) := by
  refine cal_mk S sc_is_pour (pure_len (fun ds d h => by obtain ⟨_, rfl, _⟩ := h <;> rfl)) (fun _ _ _ _ _ _ us hl => match us, hl with | [_], _ => rfl) (fun f cdv A outer sh H vs Q E hr h => ?_)
  obtain ⟨W, rfl, s, ds, dd, hv, hR, q⟩ := h
  obtain ⟨t, rfl, rfl⟩ := hR
  obtain ⟨v0, rfl, h0⟩ := hv.inv1
  refine ⟨_, (pss_one (ps_ret (pe_and (pe_cal c_is_tuple_of (hr.mono (by decide)) (by rfl) (pa_cons (pv 0) (pa_cons pe_int pa_nil))) (pe_and (pe_callB (kIsi (K := K) rfl) (by rfl) B.z_isinstance (by decide +kernel) (pa_cons (pe_ix (kIxT (K := K) rfl) (pv 0) pe_int (fun _ _ => rfl)) (pa_cons (pe_bltn (v := .ty "str") (by rfl) B.z_str (by decide +kernel) rfl) pa_nil))) (pe_one (pe_cmpR op_eq (pe_ix (kIxT (K := K) rfl) (pv 0) pe_int (fun _ _ => rfl)) (pe_cstr (by rfl) B.c_POUR) (nomark _))))))), ?_⟩
  cases t with
  | none => exact st_ret s (ev_is (ev_andV (ev_call (ea_cons (ev_var rfl h0) (ea_cons ev_int ea_nil)) ⟨_, 1, rfl, rfl⟩) fun _ => ev_andV (ev_isi (ev_ixT (d := .str "pour") rfl (ev_var rfl h0) ev_int) kit_str_str) fun _ => ev_eqS (ev_ixT rfl (ev_var rfl h0) ev_int) ev_str) (congrArg PyData.bool (by decide +kernel))) q
  | some ks => exact st_ret s (ev_is (ev_andV (b := false) (c := false) (ev_is (ev_call (ea_cons (ev_var rfl h0) (ea_cons ev_int ea_nil)) ⟨_, 1, rfl, rfl⟩) (congrArg PyData.bool (decide_eq_false (by show ¬ ((2 : Nat) : Int) = 1; omega)))) fun z => nomatch z) rfl) q
/-! ### is_number_stream -/
abbrev sc_N_is_number_stream : List Str := ["thing", "one"]
theorem sc_is_number_stream : FnScope ["thing", "one"] ["thing"] (defScope s_is_number_stream) := ⟨rfl, rfl, rfl, by decide +kernel, rfl, by decide +kernel, by decide +kernel⟩
def rl_is_number_stream : List PyData → PyData → Prop := fun ds d => ∃ ks : List Int, ds = [.tuple (fracs ks)] ∧ ks.length ≤ 1000 ∧ d = .bool true
theorem ok_is_number_stream (B : Bl mg) (S : Stand K mg d_is_number_stream) (c_is_fraction : Cal P w K mg base "is_fraction" 2 ["thing"] (pureSp rl_is_fraction)) : Cal P w K mg base "is_number_stream" 3 ["thing"] (pureSp rl_is_number_stream) := by
  refine cal_mk S sc_is_number_stream (pure_len (fun ds d h => by obtain ⟨_, rfl, _⟩ := h <;> rfl)) (fun _ _ _ _ _ _ us hl => match us, hl with | [_], _ => rfl) (fun f cdv A outer sh H vs Q E hr h => ?_)
  obtain ⟨W, rfl, s, ds, dd, hv, hR, q⟩ := h
  obtain ⟨ks, rfl, hz, rfl⟩ := hR
  obtain ⟨v0, rfl, h0⟩ := hv.inv1
  refine ⟨_, (pss_one (ps_ret (pe_and (pe_callB (kIsi (K := K) rfl) (by rfl) B.z_isinstance (by decide +kernel) (pa_cons (pv 0) (pa_cons (pe_bltn (v := .ty "tuple") (by rfl) B.z_tuple (by decide +kernel) rfl) pa_nil))) (pe_one (pe_callB (kAll (K := K) rfl rfl) (by rfl) B.z_all (by decide +kernel) (pa_cons (pe_lc (own := [("one", 1)]) rfl sc_is_number_stream.nd (kpi_tup (K := K) rfl (pv 0)) (blkOk_by (N := sc_N_is_number_stream) (sc := defScope s_is_number_stream) (by decide +kernel)) (fun _ _ _ _ _ => (pg_name (i := 1) sc_is_number_stream.nd rfl (.inl rfl))) (fun _ _ _ _ _ => pts_nil) (fun _ _ _ _ _ => (pe_cal c_is_fraction (hr.mono (by decide)) (by rfl) (pa_cons (pv 1) pa_nil)))) pa_nil)))))), ?_⟩
  refine st_ret s (ev_is (ev_andV (ev_isi (ev_var rfl h0) kit_tuple_tuple) fun _ => ev_all (bs := ks.map fun _ => true) (ev_is (ev_lcT (fun _ => true) (fun _ => .bool true) (ev_var rfl h0) (by rw [fracs_len]; omega) (fun x => rfl) fun W1 x d e1 hd hx => ⟨eb_yes e1.s, fun _ => ?_⟩) (congrArg PyData.list (all_true frac ks)))) (congrArg PyData.bool (by rw [all_id] <;> rfl))) q
  obtain ⟨k, _, rfl⟩ := List.mem_map.mp hd
  exact ev_call (ea_cons (ev_var rfl hx) ea_nil) ⟨k, rfl, rfl⟩
/-! ### is_leaf -/
abbrev sc_N_is_leaf : List Str := ["step", "word", "is_items"]
theorem sc_is_leaf : FnScope ["step", "word", "is_items"] ["step", "word", "is_items"] (defScope s_is_leaf) := ⟨rfl, rfl, rfl, by decide +kernel, rfl, by decide +kernel, by decide +kernel⟩
def sp_is_leaf (mg : Str → Option Value) : Sp := fun vs H Q _ => ∃ (W : Wd), H = W.H ∧ Ex W.G W.H ∧ ∃ (v0 v1 : V) (fa : Addr) (ks : List Int), vs = [v0, v1, .ref fa] ∧ mg "is_number_stream" = some (.ref fa) ∧ Dq W.G v0 (stepD (some ks)) ∧ Dq W.G v1 (.str "numbers") ∧ ks.length ≤ 1000 ∧
  ∀ v W', W.le W' → Dq W'.G v (.bool true) → Q v W'.H
theorem ok_is_leaf (c_is_number_stream : Cal P w K mg base "is_number_stream" 3 ["thing"] (pureSp rl_is_number_stream)) (B : Bl mg) (S : Stand K mg d_is_leaf) (c_is_tuple_of : Cal P w K mg base "is_tuple_of" 1 ["thing", "many"] (pureSp rl_is_tuple_of)) : Cal P w K mg base "is_leaf" 4 ["step", "word", "is_items"] (sp_is_leaf mg) := by
  refine cal_mk S sc_is_leaf (fun vs H Q E h => by obtain ⟨_, _, _, _, _, _, _, rfl, _⟩ := h <;> rfl) (fun _ _ _ _ _ _ us hl => match us, hl with | [_, _, _], _ => rfl) (fun f cdv A outer sh H vs Q E hr h => ?_)
  obtain ⟨W, rfl, s, v0, v1, fa, ks, rfl, hm, h0, h1, hz, q⟩ := h
  obtain ⟨f1, fd1, F1, F2, F3, F4⟩ := c_is_number_stream.ex
  rw [F2] at hm
  cases hm
  refine ⟨_, (pss_one (ps_ret (pe_and (pe_cal c_is_tuple_of (hr.mono (by decide)) (by rfl) (pa_cons (pv 0) (pa_cons pe_int pa_nil))) (pe_and (pe_callB (kIsi (K := K) rfl) (by rfl) B.z_isinstance (by decide +kernel) (pa_cons (pe_ix (kIxT (K := K) rfl) (pv 0) pe_int (fun _ _ => rfl)) (pa_cons (pe_bltn (v := .ty "str") (by rfl) B.z_str (by decide +kernel) rfl) pa_nil))) (pe_and (pe_cmpR op_eq (pe_ix (kIxT (K := K) rfl) (pv 0) pe_int (fun _ _ => rfl)) (pv 1) (nomark _)) (pe_one (pe_callL (i := 2) F1 (hr.mono (by decide)) rfl (.inl rfl) F3 F4 .nil pass0 (pa_cons (pe_ix (kIxT (K := K) rfl) (pv 0) pe_int (fun _ _ => rfl)) pa_nil)))))))), ?_⟩
  refine st_ret s (ev_is (ev_andV (ev_call (ea_cons (ev_var rfl h0) (ea_cons ev_int ea_nil)) ⟨_, 2, rfl, rfl⟩) fun _ => ev_andV (ev_isi (ev_ixT (d := .str "numbers") rfl (ev_var rfl h0) ev_int) kit_str_str) fun _ => ev_andV (ev_eqS (ev_ixT rfl (ev_var rfl h0) ev_int) (ev_var rfl h1)) fun _ =>
    (fun W1 e1 Q1 q1 => ⟨rfl, ev_call (E := E0) (Rel := rl_is_number_stream) (ea_cons (ev_ixT (ds := [.str "numbers", .tuple (fracs ks)]) rfl (ev_var rfl h0) ev_int) ea_nil) ⟨ks, rfl, hz, rfl⟩ W1 e1 Q1 q1⟩)) (congrArg PyData.bool (show (decide (((2 : Nat) : Int) = 2) && (true && (decide (("numbers" : Str) = "numbers") && true))) = true by decide +kernel))) q
/-! ### are_steps -/
abbrev sc_N_are_steps : List Str := ["thing", "word", "is_items", "pile", "items", "step"]
theorem sc_are_steps : FnScope ["thing", "word", "is_items", "pile", "items", "step"] ["thing", "word", "is_items"] (defScope s_are_steps) := ⟨rfl, rfl, rfl, by decide +kernel, rfl, by decide +kernel, by decide +kernel⟩
def sp_are_steps (mg : Str → Option Value) : Sp := fun vs H Q _ => ∃ (W : Wd), H = W.H ∧ Ex W.G W.H ∧ ∃ (v0 v1 : V) (fa : Addr) (t : List Stp), vs = [v0, v1, .ref fa] ∧ mg "is_number_stream" = some (.ref fa) ∧ Dq W.G v0 (treeD t) ∧ Dq W.G v1 (.str "numbers") ∧ TreeOk t ∧
  ∀ v W', W.le W' → Dq W'.G v (.bool true) → Q v W'.H
theorem ok_are_steps (B : Bl mg) (S : Stand K mg d_are_steps) (c_is_pour : Cal P w K mg base "is_pour" 2 ["step"] (pureSp rl_is_pour)) (c_is_leaf : Cal P w K mg base "is_leaf" 4 ["step", "word", "is_items"] (sp_is_leaf mg)) : Cal P w K mg base "are_steps" 5 ["thing", "word", "is_items"] (sp_are_steps mg) := by
  refine cal_mk S sc_are_steps (fun vs H Q E h => by obtain ⟨_, _, _, _, _, _, _, rfl, _⟩ := h <;> rfl) (fun _ _ _ _ _ _ us hl => match us, hl with | [_, _, _], _ => rfl) (fun f cdv A outer sh H vs Q E hr h => ?_)
  obtain ⟨W, rfl, s, v0, v1, fa, t, rfl, hm, h0, h1, hT, q⟩ := h
  refine ⟨_, (pss_cons (ps_if (PW.pt (pw_or (pt_not (pt_val (pe_callB (kIsi (K := K) rfl) (by rfl) B.z_isinstance (by decide +kernel) (pa_cons (pv 0) (pa_cons (pe_bltn (v := .ty "tuple") (by rfl) B.z_tuple (by decide +kernel) rfl) pa_nil))))) (pw_or1 (pt_cmpR op_gt (pe_callB (kLen (K := K) rfl) (by rfl) B.z_len (by decide +kernel) (pa_cons (pv 0) pa_nil)) (pe_cint (by rfl) B.c_MOST_STEPS) (nomark _)))))
      (pss_one (ps_ret pe_bl))
      pss_nil)
      (pss_cons (ps_asg (pe_tup (pa_cons pe_int (pa_cons pe_int pa_nil))) (kpg_tup (K := K) (n := 2) rfl rfl (pgs_cons (pg_name (i := 3) sc_are_steps.nd rfl (.inl rfl)) (pgs_cons (pg_name (i := 4) sc_are_steps.nd rfl (.inl rfl)) pgs_nil))))
      (pss_cons (ps_for PassesOwn.never rfl (kpi_tup (K := K) rfl (pv 0)) (pg_name (i := 5) sc_are_steps.nd rfl (.inl rfl))
      (pss_one (ps_if (pt_val (pe_cal c_is_pour (hr.mono (by decide)) (by rfl) (pa_cons (pv 5) pa_nil)))
      (pss_cons (ps_if (pt_cmpR op_lt (pv 3) pe_int (nomark _))
      (pss_one (ps_ret pe_bl))
      pss_nil)
      (pss_one (ps_aug (i := 3) sc_are_steps.nd rfl (.inl rfl) pe_int ip_sub)))
      (pss_one (ps_if (pt_val (pe_cal c_is_leaf (hr.mono (by decide)) (by rfl) (pa_cons (pv 5) (pa_cons (pv 1) (pa_cons (pv 2) pa_nil)))))
      (pss_cons (ps_aug (i := 3) sc_are_steps.nd rfl (.inl rfl) pe_int ip_add)
      (pss_one (ps_aug (i := 4) sc_are_steps.nd rfl (.inl rfl) (pe_callB (kLen (K := K) rfl) (by rfl) B.z_len (by decide +kernel) (pa_cons (pe_ix (kIxT (K := K) rfl) (pv 5) pe_int (fun _ _ => rfl)) pa_nil)) ip_add)))
      (pss_one (ps_ret pe_bl)))))))
      (pss_one (ps_ret (pe_and (pe_cmpR op_eq (pv 3) pe_int (nomark _)) (pe_one (pe_cmpR op_le (pv 4) (pe_cint (by rfl) B.c_MOST_ITEMS) (nomark _))))))))), ?_⟩
  have htl : (t.map stepD).length = t.length := List.length_map _
  refine q_if s (b := false) (eb_or (b := false) (c := false) (eb_not (b := true) (eb_B (ev_isi (ev_var rfl h0) kit_tuple_tuple))) fun _ => eb_is (eb_test (ev_opB (ev_lenT (ev_var rfl h0)) ev_int)) (decide_eq_false (by have := hT.len; omega))) (fun z => nomatch z) fun _ W1 e1 => ?_
  refine q_un2 e1.s (ev_tup (ea_cons ev_int (ea_cons ev_int ea_nil)) (by show 2 ≤ 100000; decide)) fun v3 v4 W2 e2 h3 h4 => ?_
  cases h3
  cases h4
  refine q_forT e2.s (ev_var rfl (h0.mono (e1.trans e2).g)) fun W3 e3 => ⟨fun i σ' W' => ∃ (p n : Nat) (y : Option V), σ' = [some v0, some v1, some (.ref fa), some (.int (p : Int)), some (.int (n : Int)), y] ∧ W.le W' ∧ wfT p (t.drop i) ∧ n ≤ 9 * i,
    ⟨0, 0, none, rfl, (e1.trans e2).trans e3, hT.wf, Nat.zero_le _⟩, ?_, ?_⟩
  · rintro i σ' W' x d hd g s' hx ⟨p, n, y, rfl, e, hw, hn⟩
    obtain ⟨st, hst, rfl⟩ := map_at hd
    rw [drop_cons hst] at hw
    refine st_if s' (eb_B (ev_call (ea_cons (ev_var rfl hx) ea_nil) ⟨st, rfl, rfl⟩)) (fun hb W4 e4 => ?_) (fun hb W4 e4 => ?_)
    · cases st with
      | some ks => cases hb
      | none =>
        obtain ⟨hp, hw⟩ := hw
        refine q_if e4.s (b := false) (eb_is (eb_test (ev_opB (ev_var rfl (.int _)) ev_int)) (decide_eq_false (by omega))) (fun z => nomatch z) fun _ W5 e5 => ?_
        refine st_augI e5.s rfl ev_int fun W6 e6 => ⟨W6, rfl, ((g.trans e4.g).trans e5.g).trans e6.g, e6.s, p - 1, n, some x, ?_, ((e.trans e4).trans e5).trans e6, hw, by omega⟩
        have z : (p : Int) - 1 = ((p - 1 : Nat) : Int) := by omega
        show [some v0, some v1, some (V.ref fa), some (V.int ((p : Int) - 1)), some (V.int (n : Int)), some x] = _
        rw [z]
    · cases st with
      | none => cases hb
      | some ks =>
        have hks := hT.few ks (List.mem_of_getElem? hst)
        have hx4 := hx.mono e4.g
        have hleaf : EvB (tB (tCall (sp_is_leaf mg) [] E0 (tCons (tVar 5) (tCons (tVar 1) (tCons (tVar 2) tNil))))) [some v0, some v1, some (.ref fa), some (.int (p : Int)), some (.int (n : Int)), some x] W4 true :=
          fun W5 e5 Q1 q1 => ⟨x, rfl, v1, rfl, .ref fa, rfl, W5, rfl, e5.s, x, v1, fa, ks, rfl, hm, hx4.mono e5.g, h1.mono ((e.trans e4).trans e5).g, by omega, fun v W6 e6 hv => by
            cases hv
            exact ⟨true, rfl, q1 W6 e6⟩⟩
        refine st_if e4.s hleaf (fun _ W5 e5 => ?_) (fun z => nomatch z)
        refine q_augI e5.s rfl ev_int fun W6 e6 => ?_
        refine st_augI (j := (ks.length : Int)) e6.s rfl (ev_is (ev_lenT (ev_ixT (ds := [.str "numbers", .tuple (fracs ks)]) rfl (ev_var rfl ((hx4.mono e5.g).mono e6.g)) ev_int)) (by rw [fracs_len])) fun W7 e7 =>
          ⟨W7, rfl, (((g.trans e4.g).trans e5.g).trans e6.g).trans e7.g, e7.s, p + 1, n + ks.length, some x, ?_, (((e.trans e4).trans e5).trans e6).trans e7, hw, by omega⟩
        show [some v0, some v1, some (V.ref fa), some (V.int ((p : Int) + 1)), some (V.int ((n : Int) + (ks.length : Int))), some x] = _
        rw [Int.natCast_add n ks.length]
        rfl
  · rintro σ' W' g s' ⟨p, n, y, rfl, e, hw, hn⟩
    rw [htl] at hw hn
    rw [List.drop_length] at hw
    have hp : p = 1 := hw
    subst hp
    have hl := hT.len
    refine st_ret s' (ev_is (ev_andV (ev_eqI (ev_var rfl (.int _)) ev_int) fun _ => ev_opB (ev_var rfl (.int _)) ev_int) (congrArg PyData.bool ?_)) fun v W5 e5 hv => q v W5 (e.trans e5) hv
    have z : decide ((n : Int) ≤ 50000) = true := decide_eq_true (by omega)
    show (decide (((1 : Nat) : Int) = 1) && decide ((n : Int) ≤ 50000)) = true
    rw [z]
    rfl
/-! ### check_room -/
abbrev sc_N_check_room : List Str := ["thing", "least", "most"]
theorem sc_check_room : FnScope ["thing", "least", "most"] ["thing", "least", "most"] (defScope s_check_room) := ⟨rfl, rfl, rfl, by decide +kernel, rfl, by decide +kernel, by decide +kernel⟩
def rl_check_room : List PyData → PyData → Prop := fun ds d => ∃ i a b : Int, ds = [.int i, .int a, .int b] ∧ a ≤ i ∧ i ≤ b ∧ d = .none
theorem ok_check_room (B : Bl mg) (S : Stand K mg d_check_room) (c_is_between : Cal P w K mg base "is_between" 2 ["thing", "least", "most"] (pureSp rl_is_between)) : Cal P w K mg base "check_room" 3 ["thing", "least", "most"] (pureSp rl_check_room) := by
  refine cal_mk S sc_check_room (pure_len (fun ds d h => by obtain ⟨_, _, _, rfl, _⟩ := h <;> rfl)) (fun _ _ _ _ _ _ us hl => match us, hl with | [_, _, _], _ => rfl) (fun f cdv A outer sh H vs Q E hr h => ?_)
  obtain ⟨W, rfl, s, ds, dd, hv, hR, q⟩ := h
  obtain ⟨i, a, b, rfl, ha, hb, rfl⟩ := hR
  obtain ⟨v0, v1, v2, rfl, h0, h1, h2⟩ := hv.inv3
  refine ⟨_, (pss_one (ps_if (pt_not (pt_val (pe_cal c_is_between (hr.mono (by decide)) (by rfl) (pa_cons (pv 0) (pa_cons (pv 1) (pa_cons (pv 2) pa_nil))))))
      (pss_one ps_never)
      pss_nil)), ?_⟩
  have e : (!(decide (a ≤ i) && decide (i ≤ b))) = false := by rw [decide_eq_true ha, decide_eq_true hb] <;> rfl
  exact st_if s (eb_is (eb_not (eb_B (ev_call (ea_cons (ev_var rfl h0) (ea_cons (ev_var rfl h1) (ea_cons (ev_var rfl h2) ea_nil))) ⟨i, a, b, rfl, rfl⟩))) e) (fun z => nomatch z) (fun _ W' e => q .non W' e .non)
/-! ### is_mark -/
abbrev sc_N_is_mark : List Str := ["thing", "many", "_", "a", "b", "c", "d", "one"]
theorem sc_is_mark : FnScope ["thing", "many", "_", "a", "b", "c", "d", "one"] ["thing", "many"] (defScope s_is_mark) := ⟨rfl, rfl, rfl, by decide +kernel, rfl, by decide +kernel, by decide +kernel⟩
def rl_is_mark : List PyData → PyData → Prop := fun ds d => ∃ (m : Mk) (many : Int), ds = [mkD m, .int many] ∧ m.ok many ∧ d = .bool true
theorem ok_is_mark (B : Bl mg) (S : Stand K mg d_is_mark) (c_is_count : Cal P w K mg base "is_count" 2 ["thing"] (pureSp rl_is_count)) (c_is_fraction : Cal P w K mg base "is_fraction" 2 ["thing"] (pureSp rl_is_fraction)) (c_is_tuple_of : Cal P w K mg base "is_tuple_of" 1 ["thing", "many"] (pureSp rl_is_tuple_of)) : Cal P w K mg base "is_mark" 3 ["thing", "many"] (pureSp rl_is_mark) := by
  refine cal_mk S sc_is_mark (pure_len (fun ds d h => by obtain ⟨_, _, rfl, _⟩ := h <;> rfl)) (fun _ _ _ _ _ _ us hl => match us, hl with | [_, _], _ => rfl) (fun f cdv A outer sh H vs Q E hr h => ?_)
  obtain ⟨W, rfl, s, ds, dd, hv, hR, q⟩ := h
  obtain ⟨m, many, rfl, ho, rfl⟩ := hR
  obtain ⟨v0, v1, rfl, h0, h1⟩ := hv.inv2
  refine ⟨_, (pss_cons (ps_if (PW.pt (pw_or (pt_not (pt_val (pe_cal c_is_tuple_of (hr.mono (by decide)) (by rfl) (pa_cons (pv 0) (pa_cons pe_int pa_nil))))) (pw_or (pt_not (pt_val (pe_cal c_is_fraction (hr.mono (by decide)) (by rfl) (pa_cons (pe_ix (kIxT (K := K) rfl) (pv 0) pe_int (fun _ _ => rfl)) pa_nil)))) (pw_or1 (pt_not (pt_val (pe_callB (kAll (K := K) rfl rfl) (by rfl) B.z_all (by decide +kernel) (pa_cons (pe_lc (own := [("one", 7)]) rfl sc_is_mark.nd (kpi_tup (K := K) rfl (pe_slice (kSlT (K := K) rfl) (pv 0) (po_some pe_int) po_none)) (blkOk_by (N := sc_N_is_mark) (sc := defScope s_is_mark) (by decide +kernel)) (fun _ _ _ _ _ => (pg_name (i := 7) sc_is_mark.nd rfl (.inl rfl))) (fun _ _ _ _ _ => pts_nil) (fun _ _ _ _ _ => (pe_cal c_is_count (hr.mono (by decide)) (by rfl) (pa_cons (pv 7) pa_nil)))) pa_nil))))))))
      (pss_one (ps_ret pe_bl))
      pss_nil)
      (pss_cons (ps_asg (pv 0) (kpg_tup (K := K) (n := 5) rfl rfl (pgs_cons (pg_name (i := 2) sc_is_mark.nd rfl (.inl rfl)) (pgs_cons (pg_name (i := 3) sc_is_mark.nd rfl (.inl rfl)) (pgs_cons (pg_name (i := 4) sc_is_mark.nd rfl (.inl rfl)) (pgs_cons (pg_name (i := 5) sc_is_mark.nd rfl (.inl rfl)) (pgs_cons (pg_name (i := 6) sc_is_mark.nd rfl (.inl rfl)) pgs_nil)))))))
      (pss_one (ps_ret (pe_and (pe_chain3 op_lt op_le op_le (pv 3) (pv 5) (pv 6) (pv 1)) (pe_one (pe_chain op_le op_lt (pv 3) (pv 4) (pv 6)))))))), ?_⟩
  have o0 := ho.a0
  have o1 := ho.ac
  have o2 := ho.ab
  have o3 := ho.bd
  have o4 := ho.cd
  have o5 := ho.dm
  have hcut : cutD [frac m.k, .int m.a, .int m.b, .int m.c, .int m.d] (some 1) none = [m.a, m.b, m.c, m.d].map PyData.int := rfl
  have hall : EvD (tCB (rAll K) (tCons (tLc (iTup K (tSl (rSlA K) (tVar 0) (tPart (tC (.int 1))) tNoPart)) (gName 7) tYes (tCall (pureSp rl_is_count) [] E0 (tCons (tVar 7) tNil)) [7]) tNil)) [some v0, some v1, none, none, none, none, none, none] W (.bool true) := by
    refine ev_all (bs := [m.a, m.b, m.c, m.d].map fun _ => true) (ev_is (ev_lcT (fun _ => true) (fun _ => .bool true) (ev_is (ev_slT (ev_var rfl h0) (eo_some ev_int) eo_none) (congrArg PyData.tuple hcut)) (by show 4 < 100000; decide) (fun x => rfl) fun W1 x d e1 hd hx => ⟨eb_yes e1.s, fun _ => ?_⟩) (congrArg PyData.list (all_true PyData.int _)))
    obtain ⟨i, hi, rfl⟩ := List.mem_map.mp hd
    refine ev_is (ev_call (ea_cons (ev_var rfl hx) ea_nil) ⟨i, rfl, rfl⟩) (congrArg PyData.bool (decide_eq_true ?_))
    simp only [List.mem_cons, List.not_mem_nil, or_false] at hi
    omega
  refine q_if s (b := false) (eb_or (b := false) (c := false) (eb_not (b := true) (eb_B (ev_call (ea_cons (ev_var rfl h0) (ea_cons ev_int ea_nil)) ⟨_, 5, rfl, rfl⟩))) fun _ => eb_or (b := false) (c := false) (eb_not (b := true) (eb_B (ev_call (ea_cons (ev_ixT rfl (ev_var rfl h0) ev_int) ea_nil) ⟨m.k, rfl, rfl⟩))) fun _ => eb_not (b := true) (eb_B hall))
    (fun z => nomatch z) fun _ W1 e1 => ?_
  refine q_un5 e1.s (ev_var rfl (h0.mono e1.g)) fun x0 x1 x2 x3 x4 W2 e2 k0 k1 k2 k3 k4 => ?_
  refine st_ret e2.s (ev_is (ev_andV (ev_chain3 (ev_var rfl k1) (ev_var rfl k3) (ev_var rfl k4) (ev_var rfl (h1.mono (e1.trans e2).g))) fun _ => ev_chain (ev_var rfl k1) (ev_var rfl k2) fun _ => ev_var rfl k4) (congrArg PyData.bool ?_)) fun v W5 e5 hv => q v W5 ((e1.trans e2).trans e5) hv
  rw [decide_eq_true o1, decide_eq_true o4, decide_eq_true o5, decide_eq_true o2, decide_eq_true o3]
  rfl
/-! ### are_marks -/
abbrev sc_N_are_marks : List Str := ["thing", "many", "one", "other", "mark"]
theorem sc_are_marks : FnScope ["thing", "many", "one", "other", "mark"] ["thing", "many"] (defScope s_are_marks) := ⟨rfl, rfl, rfl, by decide +kernel, rfl, by decide +kernel, by decide +kernel⟩
def rl_are_marks : List PyData → PyData → Prop := fun ds d => ∃ (ms : List Mk) (many : Int), ds = [.tuple (ms.map mkD), .int many] ∧ ms.Pairwise Mk.lt ∧ (∀ m ∈ ms, m.ok many) ∧ ms.length ≤ 1000 ∧ d = .bool true
theorem ok_are_marks (B : Bl mg) (S : Stand K mg d_are_marks) (c_is_mark : Cal P w K mg base "is_mark" 3 ["thing", "many"] (pureSp rl_is_mark)) (c_is_less : Cal P w K mg base "is_less" 1 ["one", "other"] (pureSp rl_is_less)) : Cal P w K mg base "are_marks" 4 ["thing", "many"] (pureSp rl_are_marks) := by
  refine cal_mk S sc_are_marks (pure_len (fun ds d h => by obtain ⟨_, _, rfl, _⟩ := h <;> rfl)) (fun _ _ _ _ _ _ us hl => match us, hl with | [_, _], _ => rfl) (fun f cdv A outer sh H vs Q E hr h => ?_)
  obtain ⟨W, rfl, s, ds, dd, hv, hR, q⟩ := h
  obtain ⟨ms, many, rfl, hp, ho, hz, rfl⟩ := hR
  obtain ⟨v0, v1, rfl, h0, h1⟩ := hv.inv2
  refine ⟨_, (pss_cons (ps_if (PW.pt (pw_or (pt_not (pt_val (pe_callB (kIsi (K := K) rfl) (by rfl) B.z_isinstance (by decide +kernel) (pa_cons (pv 0) (pa_cons (pe_bltn (v := .ty "tuple") (by rfl) B.z_tuple (by decide +kernel) rfl) pa_nil))))) (pw_or1 (pt_not (pt_val (pe_callB (kAll (K := K) rfl rfl) (by rfl) B.z_all (by decide +kernel) (pa_cons (pe_lc (own := [("mark", 4)]) rfl sc_are_marks.nd (kpi_tup (K := K) rfl (pv 0)) (blkOk_by (N := sc_N_are_marks) (sc := defScope s_are_marks) (by decide +kernel)) (fun _ _ _ _ _ => (pg_name (i := 4) sc_are_marks.nd rfl (.inl rfl))) (fun _ _ _ _ _ => pts_nil) (fun _ _ _ _ _ => (pe_cal c_is_mark (hr.mono (by decide)) (by rfl) (pa_cons (pv 4) (pa_cons (pv 1) pa_nil))))) pa_nil)))))))
      (pss_one (ps_ret pe_bl))
      pss_nil)
      (pss_cons (ps_for PassesOwn.never rfl (RZ.pi_zipA (by rfl) B.z_zip (pa_cons (pv 0) (pa_cons (pe_slice (kSlT (K := K) rfl) (pv 0) (po_some pe_int) po_none) pa_nil))) (kpg_tup (K := K) (n := 2) rfl rfl (pgs_cons (pg_name (i := 2) sc_are_marks.nd rfl (.inl rfl)) (pgs_cons (pg_name (i := 3) sc_are_marks.nd rfl (.inl rfl)) pgs_nil)))
      (pss_one (ps_if (PW.pt (pw_or (pt_not (pt_val (pe_cal c_is_less (hr.mono (by decide)) (by rfl) (pa_cons (pe_ix (kIxT (K := K) rfl) (pv 2) pe_int (fun _ _ => rfl)) (pa_cons (pe_ix (kIxT (K := K) rfl) (pv 3) pe_int (fun _ _ => rfl)) pa_nil))))) (pw_or (pt_cmpR op_gt (pe_ix (kIxT (K := K) rfl) (pv 2) pe_int (fun _ _ => rfl)) (pe_ix (kIxT (K := K) rfl) (pv 3) pe_int (fun _ _ => rfl)) (nomark _)) (pw_or1 (pt_cmpR op_gt (pe_ix (kIxT (K := K) rfl) (pv 2) pe_int (fun _ _ => rfl)) (pe_ix (kIxT (K := K) rfl) (pv 3) pe_int (fun _ _ => rfl)) (nomark _))))))
      (pss_one (ps_ret pe_bl))
      pss_nil)))
      (pss_one (ps_ret pe_bl)))), ?_⟩
  have hl : (ms.map mkD).length = ms.length := List.length_map _
  refine q_if s (b := false) (eb_or (b := false) (c := false) (eb_not (b := true) (eb_B (ev_isi (ev_var rfl h0) kit_tuple_tuple))) fun _ => eb_not (b := true) (eb_B (ev_is (ev_all (bs := ms.map fun _ => true) (ev_is (ev_lcT (fun _ => true) (fun _ => .bool true) (ev_var rfl h0) (by omega) (fun x => rfl) fun W1 x d e1 hd hx => ⟨eb_yes e1.s, fun _ => ?_⟩) (congrArg PyData.list (all_true mkD ms)))) (congrArg PyData.bool (all_id ms)))))
    (fun z => nomatch z) fun _ W1 e1 => ?_
  · obtain ⟨m, hm, rfl⟩ := List.mem_map.mp hd
    exact ev_call (ea_cons (ev_var rfl hx) (ea_cons (ev_var rfl (h1.mono e1.g)) ea_nil)) ⟨m, many, rfl, ho m hm, rfl⟩
  refine q_forZT e1.s (ev_var rfl (h0.mono e1.g)) (ev_is (ev_slT (ev_var rfl (h0.mono e1.g)) (eo_some ev_int) eo_none) (congrArg PyData.tuple (cutD_from _ 1))) fun W2 e2 => ⟨fun i σ' W' => ∃ y z : Option V, σ' = [some v0, some v1, y, z, none] ∧ W.le W', ⟨none, none, rfl, e1.trans e2⟩, ?_, ?_⟩
  · rintro i σ' W' x y d d' hd hd' g s' hx hy ⟨y0, z0, rfl, e⟩ W3 e3
    obtain ⟨m, hm, rfl⟩ := map_at hd
    rw [List.getElem?_drop] at hd'
    obtain ⟨m', hm', rfl⟩ := map_at hd'
    have lt : m.lt m' := by
      obtain ⟨i1, q1⟩ := List.getElem?_eq_some_iff.mp hm
      obtain ⟨i2, q2⟩ := List.getElem?_eq_some_iff.mp hm'
      rw [← q1, ← q2]
      exact List.pairwise_iff_getElem.mp hp _ _ i1 i2 (by omega)
    have x3 := hx.mono e3.g
    have y3 := hy.mono e3.g
    refine st_if e3.s (b := false) (eb_or (b := false) (c := false) (eb_not (b := true) (eb_B (ev_is (ev_call (ea_cons (ev_ixT rfl (ev_var rfl x3) ev_int) (ea_cons (ev_ixT rfl (ev_var rfl y3) ev_int) ea_nil)) ⟨m.k, m'.k, rfl, rfl⟩) (congrArg PyData.bool (decide_eq_true lt.1))))) fun _ =>
      eb_or (b := false) (c := false) (eb_is (eb_test (ev_opB (ev_ixT rfl (ev_var rfl x3) ev_int) (ev_ixT rfl (ev_var rfl y3) ev_int))) (decide_eq_false (by have := lt.2.1; omega))) fun _ => eb_is (eb_test (ev_opB (ev_ixT rfl (ev_var rfl x3) ev_int) (ev_ixT rfl (ev_var rfl y3) ev_int))) (decide_eq_false (by have := lt.2.2; omega)))
      (fun z => nomatch z) fun _ W4 e4 => ⟨W4, rfl, (g.trans e3.g).trans e4.g, e4.s, some x, some y, rfl, (e.trans e3).trans e4⟩
  · rintro σ' W' g s' ⟨y0, z0, rfl, e⟩
    exact st_ret s' ev_bl fun v W5 e5 hv => q v W5 (e.trans e5) hv
/-! ### is_ranks -/
abbrev sc_N_is_ranks : List Str := ["thing"]
theorem sc_is_ranks : FnScope ["thing"] ["thing"] (defScope s_is_ranks) := ⟨rfl, rfl, rfl, by decide +kernel, rfl, by decide +kernel, by decide +kernel⟩
def rl_is_ranks : List PyData → PyData → Prop := fun ds d => ∃ (room many : Int) (ms : List Mk), ds = [rkD room many ms] ∧ RkOk room many ms ∧ d = .bool true
theorem ok_is_ranks (B : Bl mg) (S : Stand K mg d_is_ranks) (c_is_count : Cal P w K mg base "is_count" 2 ["thing"] (pureSp rl_is_count)) (c_is_between : Cal P w K mg base "is_between" 2 ["thing", "least", "most"] (pureSp rl_is_between)) (c_is_tuple_of : Cal P w K mg base "is_tuple_of" 1 ["thing", "many"] (pureSp rl_is_tuple_of)) (c_are_marks : Cal P w K mg base "are_marks" 4 ["thing", "many"] (pureSp rl_are_marks)) : Cal P w K mg base "is_ranks" 5 ["thing"] (pureSp rl_is_ranks) := by
  refine cal_mk S sc_is_ranks (pure_len (fun ds d h => by obtain ⟨_, _, _, rfl, _⟩ := h <;> rfl)) (fun _ _ _ _ _ _ us hl => match us, hl with | [_], _ => rfl) (fun f cdv A outer sh H vs Q E hr h => ?_)
  obtain ⟨W, rfl, s, ds, dd, hv, hR, q⟩ := h
  obtain ⟨room, many, ms, rfl, hk, rfl⟩ := hR
  obtain ⟨v0, rfl, h0⟩ := hv.inv1
  refine ⟨_, (pss_cons (ps_if (PW.pt (pw_or (pt_not (pt_val (pe_cal c_is_tuple_of (hr.mono (by decide)) (by rfl) (pa_cons (pv 0) (pa_cons pe_int pa_nil))))) (pw_or (pt_not (pt_val (pe_cal c_is_between (hr.mono (by decide)) (by rfl) (pa_cons (pe_ix (kIxT (K := K) rfl) (pv 0) pe_int (fun _ _ => rfl)) (pa_cons pe_int (pa_cons (pe_cint (by rfl) B.c_MOST_ROOM) pa_nil)))))) (pw_or1 (pt_not (pt_val (pe_cal c_is_count (hr.mono (by decide)) (by rfl) (pa_cons (pe_ix (kIxT (K := K) rfl) (pv 0) pe_int (fun _ _ => rfl)) pa_nil))))))))
      (pss_one (ps_ret pe_bl))
      pss_nil)
      (pss_one (ps_ret (pe_and (pe_cal c_are_marks (hr.mono (by decide)) (by rfl) (pa_cons (pe_ix (kIxT (K := K) rfl) (pv 0) pe_int (fun _ _ => rfl)) (pa_cons (pe_ix (kIxT (K := K) rfl) (pv 0) pe_int (fun _ _ => rfl)) pa_nil))) (pe_one (pe_cmpR op_le (pe_callB (kLen (K := K) rfl) (by rfl) B.z_len (by decide +kernel) (pa_cons (pe_ix (kIxT (K := K) rfl) (pv 0) pe_int (fun _ _ => rfl)) pa_nil)) (pe_ix (kIxT (K := K) rfl) (pv 0) pe_int (fun _ _ => rfl)) (nomark _))))))), ?_⟩
  have hl : (ms.map mkD).length = ms.length := List.length_map _
  have k1 := hk.r1
  have k2 := hk.r64
  have k3 := hk.len
  refine q_if s (b := false) (eb_or (b := false) (c := false) (eb_not (b := true) (eb_B (ev_call (ea_cons (ev_var rfl h0) (ea_cons ev_int ea_nil)) ⟨_, 3, rfl, rfl⟩))) fun _ => eb_or (b := false) (c := false) (eb_not (b := true) (eb_B (ev_is (ev_call (ea_cons (ev_ixT rfl (ev_var rfl h0) ev_int) (ea_cons ev_int (ea_cons ev_int ea_nil))) ⟨room, 1, 64, rfl, rfl⟩)
      (congrArg PyData.bool (by rw [decide_eq_true k1, decide_eq_true k2] <;> rfl))))) fun _ => eb_not (b := true) (eb_B (ev_is (ev_call (ea_cons (ev_ixT rfl (ev_var rfl h0) ev_int) ea_nil) ⟨many, rfl, rfl⟩) (congrArg PyData.bool (decide_eq_true hk.m0)))))
    (fun z => nomatch z) fun _ W1 e1 => ?_
  have h0' := h0.mono e1.g
  refine st_ret e1.s (ev_is (ev_andV (ev_call (ea_cons (ev_ixT rfl (ev_var rfl h0') ev_int) (ea_cons (ev_ixT rfl (ev_var rfl h0') ev_int) ea_nil)) ⟨ms, many, rfl, hk.lt, hk.ok, by omega, rfl⟩) fun _ => ev_opB (ev_lenT (ev_ixT (ds := [.int room, .int many, .tuple (ms.map mkD)]) rfl (ev_var rfl h0') ev_int)) (ev_ixT rfl (ev_var rfl h0') ev_int)) (congrArg PyData.bool ?_)) fun v W5 e5 hv => q v W5 (e1.trans e5) hv
  rw [hl, decide_eq_true k3]
  rfl
/-! ### check_ranks -/
abbrev sc_N_check_ranks : List Str := ["thing"]
theorem sc_check_ranks : FnScope ["thing"] ["thing"] (defScope s_check_ranks) := ⟨rfl, rfl, rfl, by decide +kernel, rfl, by decide +kernel, by decide +kernel⟩
def rl_check_ranks : List PyData → PyData → Prop := fun ds d => ∃ (room many : Int) (ms : List Mk), ds = [rkD room many ms] ∧ RkOk room many ms ∧ d = .none
theorem ok_check_ranks (B : Bl mg) (S : Stand K mg d_check_ranks) (c_is_ranks : Cal P w K mg base "is_ranks" 5 ["thing"] (pureSp rl_is_ranks)) : Cal P w K mg base "check_ranks" 6 ["thing"] (pureSp rl_check_ranks) := by
  refine cal_mk S sc_check_ranks (pure_len (fun ds d h => by obtain ⟨_, _, _, rfl, _⟩ := h <;> rfl)) (fun _ _ _ _ _ _ us hl => match us, hl with | [_], _ => rfl) (fun f cdv A outer sh H vs Q E hr h => ?_)
  obtain ⟨W, rfl, s, ds, dd, hv, hR, q⟩ := h
  obtain ⟨room, many, ms, rfl, hk, rfl⟩ := hR
  obtain ⟨v0, rfl, h0⟩ := hv.inv1
  refine ⟨_, (pss_one (ps_if (pt_not (pt_val (pe_cal c_is_ranks (hr.mono (by decide)) (by rfl) (pa_cons (pv 0) pa_nil))))
      (pss_one ps_never)
      pss_nil)), ?_⟩
  exact st_if s (eb_not (b := true) (eb_B (ev_call (ea_cons (ev_var rfl h0) ea_nil) ⟨room, many, ms, rfl, hk, rfl⟩))) (fun z => nomatch z) (fun _ W' e => q .non W' e .non)
/-! ### is_place -/
abbrev sc_N_is_place : List Str := ["thing"]
theorem sc_is_place : FnScope ["thing"] ["thing"] (defScope s_is_place) := ⟨rfl, rfl, rfl, by decide +kernel, rfl, by decide +kernel, by decide +kernel⟩
def rl_is_place : List PyData → PyData → Prop := fun ds d => ∃ (k : Int) (up : Bool), ds = [placeD k (sideI up)] ∧ d = .bool true
theorem ok_is_place (B : Bl mg) (S : Stand K mg d_is_place) (c_is_between : Cal P w K mg base "is_between" 2 ["thing", "least", "most"] (pureSp rl_is_between)) (c_is_fraction : Cal P w K mg base "is_fraction" 2 ["thing"] (pureSp rl_is_fraction)) (c_is_tuple_of : Cal P w K mg base "is_tuple_of" 1 ["thing", "many"] (pureSp rl_is_tuple_of)) : Cal P w K mg base "is_place" 3 ["thing"] (pureSp rl_is_place) := by
  refine cal_mk S sc_is_place (pure_len (fun ds d h => by obtain ⟨_, _, rfl, _⟩ := h <;> rfl)) (fun _ _ _ _ _ _ us hl => match us, hl with | [_], _ => rfl) (fun f cdv A outer sh H vs Q E hr h => ?_)
  obtain ⟨W, rfl, s, ds, dd, hv, hR, q⟩ := h
  obtain ⟨k, up, rfl, rfl⟩ := hR
  obtain ⟨v0, rfl, h0⟩ := hv.inv1
  refine ⟨_, (pss_one (ps_ret (pe_and (pe_cal c_is_tuple_of (hr.mono (by decide)) (by rfl) (pa_cons (pv 0) (pa_cons pe_int pa_nil))) (pe_and (pe_cal c_is_fraction (hr.mono (by decide)) (by rfl) (pa_cons (pe_ix (kIxT (K := K) rfl) (pv 0) pe_int (fun _ _ => rfl)) pa_nil)) (pe_one (pe_cal c_is_between (hr.mono (by decide)) (by rfl) (pa_cons (pe_ix (kIxT (K := K) rfl) (pv 0) pe_int (fun _ _ => rfl)) (pa_cons (pe_cint (by rfl) B.c_BELOW) (pa_cons (pe_cint (by rfl) B.c_UP_TO) pa_nil))))))))), ?_⟩
  refine st_ret s (ev_is (ev_andV (ev_call (ea_cons (ev_var rfl h0) (ea_cons ev_int ea_nil)) ⟨_, 2, rfl, rfl⟩) fun _ => ev_andV (ev_call (ea_cons (ev_ixT rfl (ev_var rfl h0) ev_int) ea_nil) ⟨k, rfl, rfl⟩) fun _ => ev_call (ea_cons (ev_ixT rfl (ev_var rfl h0) ev_int) (ea_cons ev_int (ea_cons ev_int ea_nil))) ⟨sideI up, 0, 1, rfl, rfl⟩) (congrArg PyData.bool ?_)) q
  cases up <;> rfl
/-! ### check_place -/
abbrev sc_N_check_place : List Str := ["thing"]
theorem sc_check_place : FnScope ["thing"] ["thing"] (defScope s_check_place) := ⟨rfl, rfl, rfl, by decide +kernel, rfl, by decide +kernel, by decide +kernel⟩
def rl_check_place : List PyData → PyData → Prop := fun ds d => ∃ (k : Int) (up : Bool), ds = [placeD k (sideI up)] ∧ d = .none
theorem ok_check_place (B : Bl mg) (S : Stand K mg d_check_place) (c_is_place : Cal P w K mg base "is_place" 3 ["thing"] (pureSp rl_is_place)) : Cal P w K mg base "check_place" 4 ["thing"] (pureSp rl_check_place) := by
  refine cal_mk S sc_check_place (pure_len (fun ds d h => by obtain ⟨_, _, rfl, _⟩ := h <;> rfl)) (fun _ _ _ _ _ _ us hl => match us, hl with | [_], _ => rfl) (fun f cdv A outer sh H vs Q E hr h => ?_)
  obtain ⟨W, rfl, s, ds, dd, hv, hR, q⟩ := h
  obtain ⟨k, up, rfl, rfl⟩ := hR
  obtain ⟨v0, rfl, h0⟩ := hv.inv1
  refine ⟨_, (pss_one (ps_if (pt_not (pt_val (pe_cal c_is_place (hr.mono (by decide)) (by rfl) (pa_cons (pv 0) pa_nil))))
      (pss_one ps_never)
      pss_nil)), ?_⟩
  exact st_if s (eb_not (b := true) (eb_B (ev_call (ea_cons (ev_var rfl h0) ea_nil) ⟨k, up, rfl, rfl⟩))) (fun z => nomatch z) (fun _ W' e => q .non W' e .non)
end
end K22
namespace K22
open PySem PySem.Spec PyProof.Rows L2
section
variable {P : Program} {w : World} {K : PySem.W.Frag} {mg : Str → Option Value} {base : Heap}
/-! ### marks_around -/
abbrev sc_N_marks_around : List Str := ["marks", "value", "ahead", "there", "behind", "mark"]
theorem sc_marks_around : FnScope ["marks", "value", "ahead", "there", "behind", "mark"] ["marks", "value"] (defScope s_marks_around) := ⟨rfl, rfl, rfl, by decide +kernel, rfl, by decide +kernel, by decide +kernel⟩
def rl_marks_around : List PyData → PyData → Prop := fun ds d => ∃ (ms : List Mk) (key : Int), ds = [.tuple (ms.map mkD), frac key] ∧ ms.length ≤ 1000 ∧ d = .tuple [optD mkD (ahead key ms), optD mkD (there key ms), optD mkD (behind key ms)]
theorem ok_marks_around (B : Bl mg) (S : Stand K mg d_marks_around) (c_is_less : Cal P w K mg base "is_less" 1 ["one", "other"] (pureSp rl_is_less)) : Cal P w K mg base "marks_around" 2 ["marks", "value"] (pureSp rl_marks_around) := by
  refine cal_mk S sc_marks_around (pure_len (fun ds d h => by obtain ⟨_, _, rfl, _⟩ := h <;> rfl)) (fun _ _ _ _ _ _ us hl => match us, hl with | [_, _], _ => rfl) (fun f cdv A outer sh H vs Q E hr h => ?_)
  obtain ⟨W, rfl, s, ds, dd, hv, hR, q⟩ := h
  obtain ⟨ms, key, rfl, hz, rfl⟩ := hR
  obtain ⟨v0, v1, rfl, h0, h1⟩ := hv.inv2
  refine ⟨_, (pss_cons (ps_asg (pe_tup (pa_cons pe_non (pa_cons pe_non (pa_cons pe_non pa_nil)))) (kpg_tup (K := K) (n := 3) rfl rfl (pgs_cons (pg_name (i := 2) sc_marks_around.nd rfl (.inl rfl)) (pgs_cons (pg_name (i := 3) sc_marks_around.nd rfl (.inl rfl)) (pgs_cons (pg_name (i := 4) sc_marks_around.nd rfl (.inl rfl)) pgs_nil)))))
      (pss_cons (ps_for PassesOwn.never rfl (kpi_tup (K := K) rfl (pv 0)) (pg_name (i := 5) sc_marks_around.nd rfl (.inl rfl))
      (pss_one (ps_if (pt_val (pe_cal c_is_less (hr.mono (by decide)) (by rfl) (pa_cons (pe_ix (kIxT (K := K) rfl) (pv 5) pe_int (fun _ _ => rfl)) (pa_cons (pv 1) pa_nil))))
      (pss_one (ps_set (i := 2) sc_marks_around.nd rfl (.inl rfl) (pv 5)))
      (pss_one (ps_if (pt_cmpR (kEqD (K := K) rfl hr.units) (pe_ix (kIxT (K := K) rfl) (pv 5) pe_int (fun _ _ => rfl)) (pv 1) (nomark _))
      (pss_one (ps_set (i := 3) sc_marks_around.nd rfl (.inl rfl) (pv 5)))
      (pss_one (ps_if (pt_cmpR op_isN (pv 4) pe_non (nomark _))
      (pss_one (ps_set (i := 4) sc_marks_around.nd rfl (.inl rfl) (pv 5)))
      pss_nil)))))))
      (pss_one (ps_ret (pe_tup (pa_cons (pv 2) (pa_cons (pv 3) (pa_cons (pv 4) pa_nil)))))))), ?_⟩
  have hl : (ms.map mkD).length = ms.length := List.length_map _
  refine q_un3 s (ev_tup (ea_cons ev_non (ea_cons ev_non (ea_cons ev_non ea_nil))) (by show 3 ≤ 100000; decide)) fun a0 t0 b0 W1 e1 k0 k1 k2 => ?_
  refine q_forT e1.s (ev_var rfl (h0.mono e1.g)) fun W2 e2 => ⟨fun i σ' W' => ∃ (a t b : V) (y : Option V), σ' = [some v0, some v1, some a, some t, some b, y] ∧ W.le W' ∧ Dq W'.G a (optD mkD (ahead key (ms.take i))) ∧ Dq W'.G t (optD mkD (there key (ms.take i))) ∧ Dq W'.G b (optD mkD (behind key (ms.take i))),
    ⟨a0, t0, b0, none, rfl, e1.trans e2, k0.mono e2.g, k1.mono e2.g, k2.mono e2.g⟩, ?_, ?_⟩
  · rintro i σ' W' x d hd g s' hx ⟨a, t, b, y, rfl, e, ka, kt, kb⟩
    obtain ⟨m, hm, rfl⟩ := map_at hd
    have hv := h1.mono e.g
    rw [show Nxt W2 _ = Nxt W2 (fun σ' W' => ∃ (a t b : V) (y : Option V), σ' = [some v0, some v1, some a, some t, some b, y] ∧ W.le W' ∧ Dq W'.G a (optD mkD (if m.k < key then some m else ahead key (ms.take i))) ∧ Dq W'.G t (optD mkD (if m.k = key then some m else there key (ms.take i))) ∧
      Dq W'.G b (optD mkD (match behind key (ms.take i) with | some x => some x | none => if key < m.k then some m else none))) by simp only [take_snoc hm, ahead_snoc, there_snoc, behind_snoc] <;> rfl]
    refine st_if s' (eb_B (ev_call (ea_cons (ev_ixT rfl (ev_var rfl hx) ev_int) (ea_cons (ev_var rfl hv) ea_nil)) ⟨m.k, key, rfl, rfl⟩)) (fun hb W3 e3 => ?_) (fun hb W3 e3 => ?_)
    · have c := of_decide_eq_true hb
      refine st_asg e3.s (ev_var rfl (hx.mono e3.g)) fun v W4 e4 hv' => ⟨W4, rfl, (g.trans e3.g).trans e4.g, e4.s, v, t, b, some x, rfl, (e.trans e3).trans e4, ?_, ?_, ?_⟩
      · rw [if_pos c]
        exact hv'
      · rw [if_neg (by omega)]
        exact (kt.mono e3.g).mono e4.g
      · rw [if_neg (by omega)]
        have z : (match behind key (ms.take i) with | some x => some x | none => none) = behind key (ms.take i) := by cases behind key (ms.take i) <;> rfl
        rw [z]
        exact (kb.mono e3.g).mono e4.g
    · have c := of_decide_eq_false hb
      have hx3 := hx.mono e3.g
      refine st_if e3.s (eb_test (ev_eqP (ev_ixT rfl (ev_var rfl hx3) ev_int) (ev_var rfl (hv.mono e3.g)))) (fun hb W4 e4 => ?_) (fun hb W4 e4 => ?_)
      · have c2 := (frac_eq m.k key).mp (of_decide_eq_true hb)
        refine st_asg e4.s (ev_var rfl (hx3.mono e4.g)) fun v W5 e5 hv' => ⟨W5, rfl, ((g.trans e3.g).trans e4.g).trans e5.g, e5.s, a, v, b, some x, rfl, ((e.trans e3).trans e4).trans e5, ?_, ?_, ?_⟩
        · rw [if_neg c]
          exact ((ka.mono e3.g).mono e4.g).mono e5.g
        · rw [if_pos c2]
          exact hv'
        · rw [if_neg (by omega)]
          have z : (match behind key (ms.take i) with | some x => some x | none => none) = behind key (ms.take i) := by cases behind key (ms.take i) <;> rfl
          rw [z]
          exact ((kb.mono e3.g).mono e4.g).mono e5.g
      · have c2 : ¬ m.k = key := fun h => of_decide_eq_false hb ((frac_eq m.k key).mpr h)
        have kb4 := (kb.mono e3.g).mono e4.g
        have c3 : key < m.k := by omega
        refine st_if e4.s (eb_test (ev_isN (ev_var rfl kb4))) (fun hb W5 e5 => ?_) (fun hb W5 e5 => ?_)
        · rw [isNon_mk] at hb
          have hbn : behind key (ms.take i) = none := Option.isNone_iff_eq_none.mp hb
          refine st_asg e5.s (ev_var rfl ((hx3.mono e4.g).mono e5.g)) fun v W6 e6 hv' => ⟨W6, rfl, (((g.trans e3.g).trans e4.g).trans e5.g).trans e6.g, e6.s, a, t, v, some x, rfl, (((e.trans e3).trans e4).trans e5).trans e6, ?_, ?_, ?_⟩
          · rw [if_neg c]
            exact (((ka.mono e3.g).mono e4.g).mono e5.g).mono e6.g
          · rw [if_neg c2]
            exact (((kt.mono e3.g).mono e4.g).mono e5.g).mono e6.g
          · rw [hbn, if_pos c3]
            exact hv'
        · rw [isNon_mk] at hb
          obtain ⟨z, hz⟩ : ∃ z, behind key (ms.take i) = some z := by
            cases h : behind key (ms.take i) with
            | none =>
              rw [h] at hb
              cases hb
            | some z => exact ⟨z, rfl⟩
          refine ⟨W5, rfl, ((g.trans e3.g).trans e4.g).trans e5.g, e5.s, a, t, b, some x, rfl, ((e.trans e3).trans e4).trans e5, ?_, ?_, ?_⟩
          · rw [if_neg c]
            exact ((ka.mono e3.g).mono e4.g).mono e5.g
          · rw [if_neg c2]
            exact ((kt.mono e3.g).mono e4.g).mono e5.g
          · rw [hz] at kb4 ⊢
            exact kb4.mono e5.g
  · rintro σ' W' g s' ⟨a, t, b, y, rfl, e, ka, kt, kb⟩
    rw [hl, List.take_length] at ka kt kb
    exact st_ret s' (ev_tup (ea_cons (ev_var rfl ka) (ea_cons (ev_var rfl kt) (ea_cons (ev_var rfl kb) ea_nil))) (by show 3 ≤ 100000; decide)) fun v W5 e5 hv => q v W5 (e.trans e5) hv
/-! ### ends_among -/
abbrev sc_N_ends_among : List Str := ["marks", "many", "place", "ahead", "there", "behind"]
theorem sc_ends_among : FnScope ["marks", "many", "place", "ahead", "there", "behind"] ["marks", "many", "place"] (defScope s_ends_among) := ⟨rfl, rfl, rfl, by decide +kernel, rfl, by decide +kernel, by decide +kernel⟩
def rl_ends_among : List PyData → PyData → Prop := fun ds d => ∃ (ms : List Mk) (many key : Int) (up : Bool), ds = [.tuple (ms.map mkD), .int many, placeD key (sideI up)] ∧ ms.length ≤ 1000 ∧ d = pairD (endsP many key up ms)
theorem ok_ends_among (B : Bl mg) (S : Stand K mg d_ends_among) (c_marks_around : Cal P w K mg base "marks_around" 2 ["marks", "value"] (pureSp rl_marks_around)) : Cal P w K mg base "ends_among" 3 ["marks", "many", "place"] (pureSp rl_ends_among) := by
  refine cal_mk S sc_ends_among (pure_len (fun ds d h => by obtain ⟨_, _, _, _, rfl, _⟩ := h <;> rfl)) (fun _ _ _ _ _ _ us hl => match us, hl with | [_, _, _], _ => rfl) (fun f cdv A outer sh H vs Q E hr h => ?_)
  obtain ⟨W, rfl, s, ds, dd, hv, hR, q⟩ := h
  obtain ⟨ms, many, key, up, rfl, hz, rfl⟩ := hR
  obtain ⟨v0, v1, v2, rfl, h0, h1, h2⟩ := hv.inv3
  refine ⟨_, (pss_cons (ps_asg (pe_cal c_marks_around (hr.mono (by decide)) (by rfl) (pa_cons (pv 0) (pa_cons (pe_ix (kIxT (K := K) rfl) (pv 2) pe_int (fun _ _ => rfl)) pa_nil))) (kpg_tup (K := K) (n := 3) rfl rfl (pgs_cons (pg_name (i := 3) sc_ends_among.nd rfl (.inl rfl)) (pgs_cons (pg_name (i := 4) sc_ends_among.nd rfl (.inl rfl)) (pgs_cons (pg_name (i := 5) sc_ends_among.nd rfl (.inl rfl)) pgs_nil)))))
      (pss_cons (ps_if (pt_cmpR op_notN (pv 4) pe_non (nomark _))
      (pss_one (ps_ret (pe_ifExp (pt_cmpR op_eq (pe_ix (kIxT (K := K) rfl) (pv 2) pe_int (fun _ _ => rfl)) (pe_cint (by rfl) B.c_BELOW) (nomark _)) (pe_slice (kSlT (K := K) rfl) (pv 4) (po_some pe_int) (po_some pe_int)) (pe_slice (kSlT (K := K) rfl) (pv 4) (po_some pe_int) (po_some pe_int)))))
      pss_nil)
      (pss_one (ps_ret (pe_tup (pa_cons (pe_ifExp (pt_cmpR op_isN (pv 3) pe_non (nomark _)) pe_int (pe_ix (kIxT (K := K) rfl) (pv 3) pe_int (fun _ _ => rfl))) (pa_cons (pe_ifExp (pt_cmpR op_isN (pv 5) pe_non (nomark _)) (pv 1) (pe_ix (kIxT (K := K) rfl) (pv 5) pe_int (fun _ _ => rfl))) pa_nil))))))), ?_⟩
  refine q_un3 s (ev_call (ea_cons (ev_var rfl h0) (ea_cons (ev_ixT rfl (ev_var rfl h2) ev_int) ea_nil)) ⟨ms, key, rfl, hz, rfl⟩) fun a t b W1 e1 ka kt kb => ?_
  unfold endsP at q
  refine q_if e1.s (eb_test (ev_notN (ev_var rfl kt))) (fun hb W2 e2 => ?_) (fun hb W2 e2 => ?_)
  · rw [isNon_mk] at hb
    obtain ⟨m, hm⟩ : ∃ m, there key ms = some m := by
      cases h : there key ms with
      | none =>
        rw [h] at hb
        cases hb
      | some z => exact ⟨z, rfl⟩
    rw [hm] at q kt
    have kt2 := kt.mono e2.g
    refine st_ret e2.s (d := pairD (m.at_ up)) (ev_if (b := !up) (eb_is (eb_test (ev_eqI (ev_ixT rfl (ev_var rfl (h2.mono (e1.trans e2).g)) ev_int) ev_int)) (by cases up <;> rfl)) (fun c => ?_) (fun c => ?_)) fun v W5 e5 hv => q v W5 ((e1.trans e2).trans e5) hv
    · cases up with
      | true => cases c
      | false => exact ev_is (ev_slT (ev_var rfl kt2) (eo_some ev_int) (eo_some ev_int)) rfl
    · cases up with
      | true => exact ev_is (ev_slT (ev_var rfl kt2) (eo_some ev_int) (eo_some ev_int)) rfl
      | false => cases c
  · rw [isNon_mk] at hb
    have hm : there key ms = none := by
      cases h : there key ms with
      | none => rfl
      | some z =>
        rw [h] at hb
        cases hb
    rw [hm] at q
    have ka2 := ka.mono e2.g
    have kb2 := kb.mono e2.g
    refine st_ret e2.s (ev_tup (ea_cons (d := .int (match ahead key ms with | some m => m.c | none => 0)) (ev_if (b := (ahead key ms).isNone) (eb_is (eb_test (ev_isN (ev_var rfl ka2))) (isNon_mk _)) (fun c => ?_) (fun c => ?_))
      (ea_cons (d := .int (match behind key ms with | some m => m.b | none => many)) (ev_if (b := (behind key ms).isNone) (eb_is (eb_test (ev_isN (ev_var rfl kb2))) (isNon_mk _)) (fun c => ?_) (fun c => ?_)) ea_nil)) (by show 2 ≤ 100000; decide)) fun v W5 e5 hv => q v W5 ((e1.trans e2).trans e5) hv
    · rw [Option.isNone_iff_eq_none.mp c]
      exact ev_int
    · cases h : ahead key ms with
      | none =>
        rw [h] at c
        cases c
      | some m =>
        rw [h] at ka2
        exact ev_ixT (ds := [frac m.k, .int m.a, .int m.b, .int m.c, .int m.d]) rfl (ev_var rfl ka2) ev_int
    · rw [Option.isNone_iff_eq_none.mp c]
      exact ev_var rfl (h1.mono (e1.trans e2).g)
    · cases h : behind key ms with
      | none =>
        rw [h] at c
        cases c
      | some m =>
        rw [h] at kb2
        exact ev_ixT (ds := [frac m.k, .int m.a, .int m.b, .int m.c, .int m.d]) rfl (ev_var rfl kb2) ev_int
/-! ### ends_at -/
abbrev sc_N_ends_at : List Str := ["ranks", "place"]
theorem sc_ends_at : FnScope ["ranks", "place"] ["ranks", "place"] (defScope s_ends_at) := ⟨rfl, rfl, rfl, by decide +kernel, rfl, by decide +kernel, by decide +kernel⟩
def rl_ends_at : List PyData → PyData → Prop := fun ds d => ∃ (room many : Int) (ms : List Mk) (key : Int) (up : Bool), ds = [rkD room many ms, placeD key (sideI up)] ∧ RkOk room many ms ∧ d = pairD (endsP many key up ms)
theorem ok_ends_at (B : Bl mg) (S : Stand K mg d_ends_at) (c_check_ranks : Cal P w K mg base "check_ranks" 6 ["thing"] (pureSp rl_check_ranks)) (c_check_place : Cal P w K mg base "check_place" 4 ["thing"] (pureSp rl_check_place)) (c_ends_among : Cal P w K mg base "ends_among" 3 ["marks", "many", "place"] (pureSp rl_ends_among)) : Cal P w K mg base "ends_at" 7 ["ranks", "place"] (pureSp rl_ends_at) := by
  refine cal_mk S sc_ends_at (pure_len (fun ds d h => by obtain ⟨_, _, _, _, _, rfl, _⟩ := h <;> rfl)) (fun _ _ _ _ _ _ us hl => match us, hl with | [_, _], _ => rfl) (fun f cdv A outer sh H vs Q E hr h => ?_)
  obtain ⟨W, rfl, s, ds, dd, hv, hR, q⟩ := h
  obtain ⟨room, many, ms, key, up, rfl, hk, rfl⟩ := hR
  obtain ⟨v0, v1, rfl, h0, h1⟩ := hv.inv2
  refine ⟨_, (pss_cons (ps_expr (pe_cal c_check_ranks (hr.mono (by decide)) (by rfl) (pa_cons (pv 0) pa_nil)))
      (pss_cons (ps_expr (pe_cal c_check_place (hr.mono (by decide)) (by rfl) (pa_cons (pv 1) pa_nil)))
      (pss_one (ps_ret (pe_cal c_ends_among (hr.mono (by decide)) (by rfl) (pa_cons (pe_ix (kIxT (K := K) rfl) (pv 0) pe_int (fun _ _ => rfl)) (pa_cons (pe_ix (kIxT (K := K) rfl) (pv 0) pe_int (fun _ _ => rfl)) (pa_cons (pv 1) pa_nil)))))))), ?_⟩
  have k2 := hk.r64
  have k3 := hk.len
  refine q_dropD s (ev_call (ea_cons (ev_var rfl h0) ea_nil) ⟨room, many, ms, rfl, hk, rfl⟩) fun W1 e1 => ?_
  refine q_dropD e1.s (ev_call (ea_cons (ev_var rfl (h1.mono e1.g)) ea_nil) ⟨key, up, rfl, rfl⟩) fun W2 e2 => ?_
  have h0' := h0.mono (e1.trans e2).g
  exact st_ret e2.s (ev_call (ea_cons (ev_ixT rfl (ev_var rfl h0') ev_int) (ea_cons (ev_ixT rfl (ev_var rfl h0') ev_int) (ea_cons (ev_var rfl (h1.mono (e1.trans e2).g)) ea_nil))) ⟨ms, many, key, up, rfl, by omega, rfl⟩) fun v W5 e5 hv => q v W5 ((e1.trans e2).trans e5) hv
/-! ### gaps -/
abbrev sc_N_gaps : List Str := ["marks", "many", "least", "greatest", "low", "high", "mark"]
theorem sc_gaps : FnScope ["marks", "many", "least", "greatest", "low", "high", "mark"] ["marks", "many"] (defScope s_gaps) := ⟨rfl, rfl, rfl, by decide +kernel, rfl, by decide +kernel, by decide +kernel⟩
def rl_gaps : List PyData → PyData → Prop := fun ds d => ∃ (ms : List Mk) (many : Int), ds = [.tuple (ms.map mkD), .int many] ∧ ms.length ≤ 1000 ∧ d = .list ((gapsFrom 0 many ms).map .int)
theorem ok_gaps (B : Bl mg) (S : Stand K mg d_gaps) : Cal P w K mg base "gaps" 1 ["marks", "many"] (pureSp rl_gaps) := by
  refine cal_mk S sc_gaps (pure_len (fun ds d h => by obtain ⟨_, _, rfl, _⟩ := h <;> rfl)) (fun _ _ _ _ _ _ us hl => match us, hl with | [_, _], _ => rfl) (fun f cdv A outer sh H vs Q E hr h => ?_)
  obtain ⟨W, rfl, s, ds, dd, hv, hR, q⟩ := h
  obtain ⟨ms, many, rfl, hz, rfl⟩ := hR
  obtain ⟨v0, v1, rfl, h0, h1⟩ := hv.inv2
  refine ⟨_, (pss_cons (ps_set (i := 2) sc_gaps.nd rfl (.inl rfl) (pe_op op_cat (pe_lst (pa_cons pe_int pa_nil)) (pe_lc (own := [("mark", 6)]) rfl sc_gaps.nd (kpi_tup (K := K) rfl (pv 0)) (blkOk_by (N := sc_N_gaps) (sc := defScope s_gaps) (by decide +kernel)) (fun _ _ _ _ _ => (pg_name (i := 6) sc_gaps.nd rfl (.inl rfl))) (fun _ _ _ _ _ => pts_nil) (fun _ _ _ _ _ => (pe_ix (kIxT (K := K) rfl) (pv 6) pe_int (fun _ _ => rfl))))))
      (pss_cons (ps_set (i := 3) sc_gaps.nd rfl (.inl rfl) (pe_op op_cat (pe_lc (own := [("mark", 6)]) rfl sc_gaps.nd (kpi_tup (K := K) rfl (pv 0)) (blkOk_by (N := sc_N_gaps) (sc := defScope s_gaps) (by decide +kernel)) (fun _ _ _ _ _ => (pg_name (i := 6) sc_gaps.nd rfl (.inl rfl))) (fun _ _ _ _ _ => pts_nil) (fun _ _ _ _ _ => (pe_ix (kIxT (K := K) rfl) (pv 6) pe_int (fun _ _ => rfl)))) (pe_lst (pa_cons (pv 1) pa_nil))))
      (pss_one (ps_ret (pe_lc (own := [("low", 4), ("high", 5)]) rfl sc_gaps.nd (pi_zip (by rfl) B.z_zip (pa_cons (pv 2) (pa_cons (pv 3) pa_nil))) (blkOk_by (N := sc_N_gaps) (sc := defScope s_gaps) (by decide +kernel)) (fun _ _ _ _ _ => (kpg_tup (K := K) (n := 2) rfl rfl (pgs_cons (pg_name (i := 4) sc_gaps.nd rfl (.inl rfl)) (pgs_cons (pg_name (i := 5) sc_gaps.nd rfl (.inl rfl)) pgs_nil)))) (fun _ _ _ _ _ => pts_nil) (fun _ _ _ _ _ => (pe_op op_sub (pv 5) (pv 4)))))))), ?_⟩
  have hl : (ms.map mkD).length = ms.length := List.length_map _
  let gc : PyData → PyData := fun d => match d with | .tuple [_, _, _, c, _] => c | _ => .none
  let gb : PyData → PyData := fun d => match d with | .tuple [_, _, b, _, _] => b | _ => .none
  have zc : ((ms.map mkD).filter fun _ => true).map gc = (ms.map (·.c)).map PyData.int := by
    rw [List.filter_eq_self.mpr fun _ _ => rfl, List.map_map, List.map_map]
    rfl
  have zb : ((ms.map mkD).filter fun _ => true).map gb = (ms.map (·.b)).map PyData.int := by
    rw [List.filter_eq_self.mpr fun _ _ => rfl, List.map_map, List.map_map]
    rfl
  refine q_asg s (d := .list ((0 :: ms.map (·.c)).map .int)) (ev_catL (ds := [.int 0]) (ev_lst (ea_cons ev_int ea_nil) (by show 1 ≤ 100000; decide)) (ev_is (ev_lcT (fun _ => true) gc (ev_var rfl h0) (by omega) (fun x => rfl) fun W1 x d e1 hd hx => ⟨eb_yes e1.s, fun _ => ?_⟩) (congrArg PyData.list zc)) ?_) fun vl W1 e1 kl => ?_
  · obtain ⟨m, _, rfl⟩ := List.mem_map.mp hd
    exact ev_ixT (ds := [frac m.k, .int m.a, .int m.b, .int m.c, .int m.d]) rfl (ev_var rfl hx) ev_int
  · rw [List.length_map, List.length_map]
    show 1 + ms.length ≤ 100000
    omega
  refine q_asg e1.s (d := .list ((ms.map (·.b) ++ [many]).map .int)) (ev_is (ev_catL (es := [.int many]) (ev_is (ev_lcT (fun _ => true) gb (ev_var rfl (h0.mono e1.g)) (by omega) (fun x => rfl) fun W2 x d e2 hd hx => ⟨eb_yes e2.s, fun _ => ?_⟩) (congrArg PyData.list zb)) (ev_lst (ea_cons (ev_var rfl (h1.mono e1.g)) ea_nil) (by show 1 ≤ 100000; decide)) ?_) (by rw [List.map_append] <;> rfl)) fun vg W2 e2 kg => ?_
  · obtain ⟨m, _, rfl⟩ := List.mem_map.mp hd
    exact ev_ixT (ds := [frac m.k, .int m.a, .int m.b, .int m.c, .int m.d]) rfl (ev_var rfl hx) ev_int
  · rw [List.length_map, List.length_map]
    show ms.length + 1 ≤ 100000
    omega
  have n1 : ((0 :: ms.map (·.c)).map PyData.int).length = ms.length + 1 := by
    rw [List.length_map, List.length_cons, List.length_map]
  have n2 : ((ms.map (·.b) ++ [many]).map PyData.int).length = ms.length + 1 := by
    rw [List.length_map, List.length_append, List.length_map]
    rfl
  refine st_ret e2.s (ev_is (ev_lcZ (fun i => ((gapsFrom 0 many ms).take i).map PyData.int) rfl (fun i => by rw [List.length_map, List.length_take]; omega) (ev_var rfl (kl.mono e2.g)) (ev_var rfl kg) (by omega) (fun x y => rfl) fun W3 i x y d e e3 hd he hx hy => ?_) ?_) fun v W5 e5 hv => q v W5 ((e1.trans e2).trans e5) hv
  · obtain ⟨lo, hlo, rfl⟩ := map_at hd
    obtain ⟨hi, hhi, rfl⟩ := map_at he
    have hg := gaps_at many ms 0 i lo hi hlo hhi
    refine ⟨.int (hi - lo), ev_opI (ev_var rfl hy) (ev_var rfl hx), ?_⟩
    rw [take_snoc hg, List.map_append]
    rfl
  · rw [n1, n2, Nat.min_self, List.take_of_length_le (by rw [gaps_len]; exact Nat.le_refl _)]
/-! ### openness -/
abbrev sc_N_openness : List Str := ["ranks"]
theorem sc_openness : FnScope ["ranks"] ["ranks"] (defScope s_openness) := ⟨rfl, rfl, rfl, by decide +kernel, rfl, by decide +kernel, by decide +kernel⟩
def rl_openness : List PyData → PyData → Prop := fun ds d => ∃ (room many : Int) (ms : List Mk) (m : Int), ds = [rkD room many ms] ∧ RkOk room many ms ∧ m ∈ gapsFrom 0 many ms ∧ (∀ y ∈ gapsFrom 0 many ms, y ≤ m) ∧ d = .int m
theorem ok_openness (B : Bl mg) (S : Stand K mg d_openness) (c_check_ranks : Cal P w K mg base "check_ranks" 6 ["thing"] (pureSp rl_check_ranks)) (c_gaps : Cal P w K mg base "gaps" 1 ["marks", "many"] (pureSp rl_gaps)) : Cal P w K mg base "openness" 7 ["ranks"] (pureSp rl_openness) := by
  refine cal_mk S sc_openness (pure_len (fun ds d h => by obtain ⟨_, _, _, _, rfl, _⟩ := h <;> rfl)) (fun _ _ _ _ _ _ us hl => match us, hl with | [_], _ => rfl) (fun f cdv A outer sh H vs Q E hr h => ?_)
  obtain ⟨W, rfl, s, ds, dd, hv, hR, q⟩ := h
  obtain ⟨room, many, ms, m, rfl, hk, hm, hle, rfl⟩ := hR
  obtain ⟨v0, rfl, h0⟩ := hv.inv1
  refine ⟨_, (pss_cons (ps_expr (pe_cal c_check_ranks (hr.mono (by decide)) (by rfl) (pa_cons (pv 0) pa_nil)))
      (pss_one (ps_ret (pe_callB (kMax (K := K) rfl rfl) (by rfl) B.z_max (by decide +kernel) (pa_cons (pe_cal c_gaps (hr.mono (by decide)) (by rfl) (pa_cons (pe_ix (kIxT (K := K) rfl) (pv 0) pe_int (fun _ _ => rfl)) (pa_cons (pe_ix (kIxT (K := K) rfl) (pv 0) pe_int (fun _ _ => rfl)) pa_nil))) pa_nil))))), ?_⟩
  have k2 := hk.r64
  have k3 := hk.len
  refine q_dropD s (ev_call (ea_cons (ev_var rfl h0) ea_nil) ⟨room, many, ms, rfl, hk, rfl⟩) fun W1 e1 => ?_
  have h0' := h0.mono e1.g
  exact st_ret e1.s (ev_max (by rw [gaps_len]; omega) hm hle (ev_call (ea_cons (ev_ixT rfl (ev_var rfl h0') ev_int) (ea_cons (ev_ixT rfl (ev_var rfl h0') ev_int) ea_nil)) ⟨ms, many, rfl, by omega, rfl⟩)) fun v W5 e5 hv => q v W5 (e1.trans e5) hv
/-! ### marks_within -/
abbrev sc_N_marks_within : List Str := ["marks", "many", "most", "kept", "last", "at", "far"]
theorem sc_marks_within : FnScope ["marks", "many", "most", "kept", "last", "at", "far"] ["marks", "many", "most"] (defScope s_marks_within) := ⟨rfl, rfl, rfl, by decide +kernel, rfl, by decide +kernel, by decide +kernel⟩
def rl_marks_within : List PyData → PyData → Prop := fun ds d => ∃ (ms : List Mk) (many most : Int), ds = [.tuple (ms.map mkD), .int many, .int most] ∧ ms.length ≤ 1000 ∧ d = keptD (steps many most 0 none ms)
theorem ok_marks_within (B : Bl mg) (S : Stand K mg d_marks_within) : Cal P w K mg base "marks_within" 1 ["marks", "many", "most"] (pureSp rl_marks_within) := by
  refine cal_mk S sc_marks_within (pure_len (fun ds d h => by obtain ⟨_, _, _, rfl, _⟩ := h <;> rfl)) (fun _ _ _ _ _ _ us hl => match us, hl with | [_, _, _], _ => rfl) (fun f cdv A outer sh H vs Q E hr h => ?_)
  obtain ⟨W, rfl, s, ds, dd, hv, hR, q⟩ := h
  obtain ⟨ms, many, most, rfl, hz, rfl⟩ := hR
  obtain ⟨v0, v1, v2, rfl, h0, h1, h2⟩ := hv.inv3
  refine ⟨_, (pss_cons (ps_set (i := 3) sc_marks_within.nd rfl (.inl rfl) (pe_lst pa_nil))
      (pss_cons (ps_set (i := 4) sc_marks_within.nd rfl (.inl rfl) pe_int)
      (pss_cons (ps_set (i := 5) sc_marks_within.nd rfl (.inl rfl) pe_int)
      (pss_cons (ps_while PassesOwn.never (pt_cmpR op_gt (pe_op op_sub (pv 1) (pv 4)) (pv 2) (nomark _))
      (pss_cons (ps_set (i := 6) sc_marks_within.nd rfl (.inl rfl) (pv 5))
      (pss_cons (ps_while PassesOwn.never (PW.pt (pw_and (pt_cmpR op_lt (pv 6) (pe_callB (kLen (K := K) rfl) (by rfl) B.z_len (by decide +kernel) (pa_cons (pv 0) pa_nil)) (nomark _)) (pw_and1 (pt_cmpR op_le (pe_op op_sub (pe_ix (kIxT (K := K) rfl) (pe_ix (kIxT (K := K) rfl) (pv 0) (pv 6) (fun _ _ => rfl)) pe_int (fun _ _ => rfl)) (pv 4)) (pv 2) (nomark _)))))
      (pss_one (ps_aug (i := 6) sc_marks_within.nd rfl (.inl rfl) pe_int ip_add)))
      (pss_cons (ps_if (pt_cmpR op_eq (pv 6) (pv 5) (nomark _))
      (pss_one (ps_ret pe_non))
      pss_nil)
      (pss_cons (ps_expr (kBM (K := K) rfl (pe_bm PySem.F.plainAttrs_list PySem.F.slot_list_append PySem.F.type_list_append mt_append (pv 3) (pa_cons (pe_ix (kIxT (K := K) rfl) (pv 0) (pe_op op_sub (pv 6) pe_int) (fun _ _ => rfl)) pa_nil))))
      (pss_cons (ps_set (i := 4) sc_marks_within.nd rfl (.inl rfl) (pe_ix (kIxT (K := K) rfl) (pe_ix (kIxT (K := K) rfl) (pv 0) (pe_op op_sub (pv 6) pe_int) (fun _ _ => rfl)) pe_int (fun _ _ => rfl)))
      (pss_one (ps_set (i := 5) sc_marks_within.nd rfl (.inl rfl) (pv 6)))))))))
      (pss_one (ps_ret (pe_callTy (kTupOf (K := K) rfl) (by rfl) B.z_tuple (by decide +kernel) (pa_cons (pv 3) pa_nil)))))))), ?_⟩
  have hl : (ms.map mkD).length = ms.length := List.length_map _
  refine q_newL fun l hl' => ?_
  have a0 : Acc W (W.set l (.lst [])) l [] := Acc.start (.refl s) hl'
  refine q_asg a0.le.s ev_int fun v4 W1 e1 k4 => ?_
  cases k4
  refine q_asg e1.s ev_int fun v5 W2 e2 k5 => ?_
  cases k5
  have a2 := (a0.mono e1).mono e2
  refine q_while e2.s (fun m σ' W' => ∃ (F : List Mk) (last : Int) (at_ : Nat) (y : Option V), σ' = [some v0, some v1, some v2, some (.ref l), some (.int last), some (.int (at_ : Int)), y] ∧ Acc W W' l (F.map mkD) ∧ F.length ≤ at_ ∧ at_ ≤ ms.length ∧ m = ms.length - at_ ∧
    (steps many most last none (ms.drop at_)).map (F ++ ·) = steps many most 0 none ms) ms.length ⟨[], 0, 0, none, rfl, a2, Nat.le_refl _, Nat.zero_le _, rfl, by rw [List.drop_zero]; cases steps many most 0 none ms <;> rfl⟩ ?_
  rintro m σ' W' s' ⟨F, last, at_, y, rfl, a, hF, hat, rfl, hS⟩
  have h0' := h0.mono a.le.g
  refine ⟨decide (most < many - last), eb_test (ev_opB (ev_opI (ev_var rfl (h1.mono a.le.g)) (ev_var rfl (.int _))) (ev_var rfl (h2.mono a.le.g))), fun hb W3 e3 => ?_, fun hb W3 e3 => ?_⟩
  · have c := of_decide_eq_true hb
    have a3 := a.mono e3
    refine q_asg e3.s (ev_var rfl (.int (at_ : Int))) fun v6 W4 e4 k6 => ?_
    cases k6
    have a4 := a3.mono e4
    refine q_while e4.s (fun m σ' W' => ∃ far : Nat, σ' = [some v0, some v1, some v2, some (.ref l), some (.int last), some (.int (at_ : Int)), some (.int (far : Int))] ∧ Acc W W' l (F.map mkD) ∧ at_ ≤ far ∧ far ≤ ms.length ∧ m = ms.length - far ∧
      (steps many most last (heldAt ms at_ far) (ms.drop far)).map (F ++ ·) = steps many most 0 none ms) (ms.length - at_) ⟨at_, rfl, a4, Nat.le_refl _, hat, rfl, by unfold heldAt; rw [if_neg (by omega)]; exact hS⟩ ?_
    rintro m σ2 W5 s5 ⟨far, rfl, a5, hfa, hfl, rfl, hS5⟩
    have h05 := h0.mono a5.le.g
    refine ⟨decide (∃ mk, ms[far]? = some mk ∧ mk.b - last ≤ most), ?_, fun hb W6 e6 => ?_, fun hb W6 e6 => ?_⟩
    · cases e : ms[far]? with
      | none =>
        have hn : ¬ far < ms.length := by
          have := List.getElem?_eq_none_iff.mp e
          omega
        refine eb_is (eb_and (b := false) (c := false) (eb_is (eb_test (ev_opB (ev_var rfl (.int _)) (ev_lenT (ev_var rfl h05)))) (decide_eq_false (by omega))) fun z => nomatch z) ?_
        simp
      | some mk =>
        have hn : far < ms.length := (List.getElem?_eq_some_iff.mp e).1
        refine eb_is (eb_and (b := true) (eb_is (eb_test (ev_opB (ev_var rfl (.int _)) (ev_lenT (ev_var rfl h05)))) (decide_eq_true (by omega))) fun _ => eb_test (ev_opB (ev_opI (ev_ixT rfl (ev_ixT (atI_nat (at_map (f := mkD) e)) (ev_var rfl h05) (ev_var rfl (.int _))) ev_int) (ev_var rfl (.int _))) (ev_var rfl (h2.mono a5.le.g)))) ?_
        simp
    · obtain ⟨mk, hmk, hle⟩ := of_decide_eq_true hb
      have hn : far < ms.length := (List.getElem?_eq_some_iff.mp hmk).1
      refine st_augI e6.s rfl ev_int fun W7 e7 => ⟨W7, ms.length - (far + 1), rfl, e7.s, by omega, far + 1, rfl, (a5.mono e6).mono e7, by omega, hn, rfl, ?_⟩
      rw [drop_cons hmk, steps_go (by omega) hle] at hS5
      unfold heldAt
      rw [if_pos (by omega), Nat.add_sub_cancel, hmk]
      exact hS5
    · have hno : ∀ m r, ms.drop far = m :: r → ¬ m.b - last ≤ most := fun m r e h => of_decide_eq_false hb ⟨m, (drop_head e).1, h⟩
      have a6 := a5.mono e6
      refine q_if e6.s (eb_test (ev_eqI (ev_var rfl (.int _)) (ev_var rfl (.int _)))) (fun hb W7 e7 => ?_) (fun hb W7 e7 => ?_)
      · have he := of_decide_eq_true hb
        unfold heldAt at hS5
        rw [if_neg (by omega), steps_none (by omega) hno] at hS5
        rw [← hS5] at q
        exact st_ret e7.s ev_non fun v W8 e8 hv => q v W8 ((a6.mono e7).le.trans e8) hv
      · have he := of_decide_eq_false hb
        have hlt : at_ < far := by omega
        obtain ⟨mk, hmk⟩ : ∃ mk, ms[far - 1]? = some mk := ⟨_, List.getElem?_eq_getElem (by omega)⟩
        unfold heldAt at hS5
        rw [if_pos hlt, hmk, steps_keep (by omega) hno] at hS5
        have i1 : atI (ms.map mkD) ((far : Int) - 1) = some (mkD mk) := by
          rw [show (far : Int) - 1 = ((far - 1 : Nat) : Int) by omega]
          exact atI_nat (at_map hmk)
        have a7 := a6.mono e7
        refine q_appA a7 rfl (by rw [List.length_map]; omega) (ev_ixT i1 (ev_var rfl (h0.mono a7.le.g)) (ev_opI (ev_var rfl (.int _)) ev_int)) fun W8 o e8 a8 => ?_
        refine q_asg a8.le.s (d := .int mk.c) (ev_ixT rfl (ev_ixT i1 (ev_var rfl (h0.mono a8.le.g)) (ev_opI (ev_var rfl (.int _)) ev_int)) ev_int) fun v9 W9 e9 k9 => ?_
        cases k9
        refine st_asg e9.s (ev_var rfl (.int (far : Int))) fun v10 W10 e10 k10 => ?_
        cases k10
        refine ⟨W10, ms.length - far, rfl, e10.s, by omega, F ++ [mk], mk.c, far, _, rfl, ?_, ?_, hfl, rfl, ?_⟩
        · rw [List.map_append]
          exact (a8.mono e9).mono e10
        · rw [List.length_append, List.length_singleton]
          omega
        · rw [← hS5]
          cases steps many most mk.c none (ms.drop far) with
          | none => rfl
          | some t =>
            show some (F ++ [mk] ++ t) = some (F ++ mk :: t)
            rw [List.append_assoc]
            rfl
  · have c := of_decide_eq_false hb
    rw [steps_done (by omega)] at hS
    rw [← hS] at q
    obtain ⟨o, e4, hd, hg, _⟩ := (a.mono e3).frz
    refine st_ret (W := W3.frz l o) e4.s (d := .tuple (F.map mkD)) (ev_tupL (ev_var rfl hd)) fun v W5 e5 hv => q v W5 (e4.trans e5) ?_
    show Dq W5.G v (.tuple ((F ++ []).map mkD))
    rw [List.append_nil]
    exact hv
end
end K22
namespace K22
open PySem PySem.Spec PyProof.Rows L2
section
variable {P : Program} {w : World} {K : PySem.W.Frag} {mg : Str → Option Value} {base : Heap}
/-! ### raw_thinned -/
abbrev sc_N_raw_thinned : List Str := ["room", "many", "marks", "low", "high", "middle", "kept"]
theorem sc_raw_thinned : FnScope ["room", "many", "marks", "low", "high", "middle", "kept"] ["room", "many", "marks"] (defScope s_raw_thinned) := ⟨rfl, rfl, rfl, by decide +kernel, rfl, by decide +kernel, by decide +kernel⟩
def rl_raw_thinned : List PyData → PyData → Prop := fun ds d => ∃ (room many : Int) (ms : List Mk), ds = [.int room, .int many, .tuple (ms.map mkD)] ∧ 0 ≤ room ∧ ms.length ≤ 1000 ∧ d = rkD room many (thin room many ms)
theorem ok_raw_thinned (B : Bl mg) (S : Stand K mg d_raw_thinned) (c_marks_within : Cal P w K mg base "marks_within" 1 ["marks", "many", "most"] (pureSp rl_marks_within)) : Cal P w K mg base "raw_thinned" 2 ["room", "many", "marks"] (pureSp rl_raw_thinned) := by
  refine cal_mk S sc_raw_thinned (pure_len (fun ds d h => by obtain ⟨_, _, _, rfl, _⟩ := h <;> rfl)) (fun _ _ _ _ _ _ us hl => match us, hl with | [_, _, _], _ => rfl) (fun f cdv A outer sh H vs Q E hr h => ?_)
  obtain ⟨W, rfl, s, ds, dd, hv, hR, q⟩ := h
  obtain ⟨room, many, ms, rfl, hr0, hz, rfl⟩ := hR
  obtain ⟨v0, v1, v2, rfl, h0, h1, h2⟩ := hv.inv3
  refine ⟨_, (pss_cons (ps_if (pt_cmpR op_le (pe_callB (kLen (K := K) rfl) (by rfl) B.z_len (by decide +kernel) (pa_cons (pv 2) pa_nil)) (pv 0) (nomark _))
      (pss_one (ps_ret (pe_tup (pa_cons (pv 0) (pa_cons (pv 1) (pa_cons (pv 2) pa_nil))))))
      pss_nil)
      (pss_cons (ps_par rfl sc_raw_thinned.nd (i := 3) (j := 4) rfl rfl (by decide) rfl rfl (pa_cons (pe_un un_neg pe_int) (pa_cons (pv 1) pa_nil)) (by rfl))
      (pss_cons (ps_while PassesOwn.never (pt_cmpR op_gt (pe_op op_sub (pv 4) (pv 3)) pe_int (nomark _))
      (pss_cons (ps_set (i := 5) sc_raw_thinned.nd rfl (.inl rfl) (pe_op op_fdiv (pe_op op_add (pv 3) (pv 4)) pe_int))
      (pss_cons (ps_set (i := 6) sc_raw_thinned.nd rfl (.inl rfl) (pe_cal c_marks_within (hr.mono (by decide)) (by rfl) (pa_cons (pv 2) (pa_cons (pv 1) (pa_cons (pv 5) pa_nil)))))
      (pss_one (ps_if (PW.pt (pw_and (pt_cmpR op_notN (pv 6) pe_non (nomark _)) (pw_and1 (pt_cmpR op_le (pe_callB (kLen (K := K) rfl) (by rfl) B.z_len (by decide +kernel) (pa_cons (pv 6) pa_nil)) (pv 0) (nomark _)))))
      (pss_one (ps_set (i := 4) sc_raw_thinned.nd rfl (.inl rfl) (pv 5)))
      (pss_one (ps_set (i := 3) sc_raw_thinned.nd rfl (.inl rfl) (pv 5))))))))
      (pss_one (ps_ret (pe_tup (pa_cons (pv 0) (pa_cons (pv 1) (pa_cons (pe_cal c_marks_within (hr.mono (by decide)) (by rfl) (pa_cons (pv 2) (pa_cons (pv 1) (pa_cons (pv 4) pa_nil)))) pa_nil))))))))), ?_⟩
  have hl : (ms.map mkD).length = ms.length := List.length_map _
  unfold thin at q
  refine q_if s (eb_is (eb_test (ev_opB (ev_lenT (ev_var rfl h2)) (ev_var rfl h0))) (by rw [hl])) (fun hb W1 e1 => ?_) (fun hb W1 e1 => ?_)
  · rw [if_pos (of_decide_eq_true hb)] at q
    exact st_ret e1.s (ev_tup (ea_cons (ev_var rfl (h0.mono e1.g)) (ea_cons (ev_var rfl (h1.mono e1.g)) (ea_cons (ev_var rfl (h2.mono e1.g)) ea_nil))) (by show 3 ≤ 100000; decide)) fun v W5 e5 hv => q v W5 (e1.trans e5) hv
  · rw [if_neg (of_decide_eq_false hb)] at q
    refine q_par e1.s (ea_cons (ev_neg ev_int) (ea_cons (ev_var rfl (h1.mono e1.g)) ea_nil)) fun a b W2 e2 ka kb => ?_
    cases ka
    cases kb
    refine q_while e2.s (fun m σ' W' => ∃ (lo hi : Int) (y z : Option V), σ' = [some v0, some v1, some v2, some (.int lo), some (.int hi), y, z] ∧ W.le W' ∧ m = (hi - lo).toNat ∧ bs (fits room many ms) lo hi = bs (fits room many ms) (-1) many) _ ⟨-1, many, none, none, rfl, e1.trans e2, rfl, rfl⟩ ?_
    rintro m σ' W' s' ⟨lo, hi, y, z, rfl, e, rfl, hB⟩
    refine ⟨decide (1 < hi - lo), eb_test (ev_opB (ev_opI (ev_var rfl (.int _)) (ev_var rfl (.int _))) ev_int), fun hb W3 e3 => ?_, fun hb W3 e3 => ?_⟩
    · have c := of_decide_eq_true hb
      rw [bs_go (by omega)] at hB
      refine q_asg e3.s (ev_opC (f := fun i j => i / j) ⟨by decide, by decide⟩ (ev_opI (ev_var rfl (.int _)) (ev_var rfl (.int _))) ev_int) fun v W4 e4 k4 => ?_
      cases k4
      have e34 := e.trans (e3.trans e4)
      refine q_asg e4.s (ev_call (ea_cons (ev_var rfl (h2.mono e34.g)) (ea_cons (ev_var rfl (h1.mono e34.g)) (ea_cons (ev_var rfl (.int _)) ea_nil))) ⟨ms, many, (lo + hi) / 2, rfl, hz, rfl⟩) fun v6 W5 e5 k6 => ?_
      have hf : EvB (tAnd (tTest (tOp (fun x y H Q => y = .non ∧ Q (.bl (!decide (x = .non))) H) (tVar 6) (tC .non))) (tTest (tOp (rI0 fun i j => .bl (decide (i ≤ j))) (tCB (rLenK K) (tCons (tVar 6) tNil)) (tVar 0)))) [some v0, some v1, some v2, some (.int lo), some (.int hi), some (.int ((lo + hi) / 2)), some v6] W5 (fits room many ms ((lo + hi) / 2)) := by
        unfold fits
        cases h : steps many ((lo + hi) / 2) 0 none ms with
        | none =>
          rw [h] at k6
          exact eb_is (eb_and (b := false) (c := false) (eb_test (ev_notN (ev_var rfl k6))) fun z => nomatch z) rfl
        | some l =>
          rw [h] at k6
          have k6' : Dq W5.G v6 (.tuple (l.map mkD)) := k6
          refine eb_is (eb_and (b := true) (eb_test (ev_notN (ev_var rfl k6))) fun _ => eb_test (ev_opB (ev_lenT (ev_var rfl k6')) (ev_var rfl (h0.mono (e34.trans e5).g)))) ?_
          rw [List.length_map]
          rfl
      refine st_if e5.s hf (fun hb W6 e6 => ?_) (fun hb W6 e6 => ?_)
      · rw [if_pos hb] at hB
        refine st_asg e6.s (ev_var rfl (.int _)) fun v W7 e7 k7 => ?_
        cases k7
        exact ⟨W7, _, rfl, e7.s, by omega, lo, (lo + hi) / 2, _, _, rfl, (e34.trans e5).trans (e6.trans e7), rfl, hB⟩
      · rw [hb, if_neg Bool.false_ne_true] at hB
        refine st_asg e6.s (ev_var rfl (.int _)) fun v W7 e7 k7 => ?_
        cases k7
        exact ⟨W7, _, rfl, e7.s, by omega, (lo + hi) / 2, hi, _, _, rfl, (e34.trans e5).trans (e6.trans e7), rfl, hB⟩
    · have c := of_decide_eq_false hb
      rw [bs_done (by omega)] at hB
      have e3' := e.trans e3
      refine st_ret e3.s (ev_tup (ea_cons (ev_var rfl (h0.mono e3'.g)) (ea_cons (ev_var rfl (h1.mono e3'.g)) (ea_cons (ev_is (ev_call (ea_cons (ev_var rfl (h2.mono e3'.g)) (ea_cons (ev_var rfl (h1.mono e3'.g)) (ea_cons (ev_var rfl (.int hi)) ea_nil))) ⟨ms, many, hi, rfl, hz, rfl⟩) ?_) ea_nil))) (by show 3 ≤ 100000; decide)) fun v W5 e5 hv => q v W5 (e3'.trans e5) hv
      rw [hB, (thinL_some hr0 ms).1]
      rfl
/-! ### exact_marks -/
abbrev sc_N_exact_marks : List Str := ["numbers", "found", "seen", "values", "at", "value"]
theorem sc_exact_marks : FnScope ["numbers", "found", "seen", "values", "at", "value"] ["numbers"] (defScope s_exact_marks) := ⟨rfl, rfl, rfl, by decide +kernel, rfl, by decide +kernel, by decide +kernel⟩
def rl_exact_marks : List PyData → PyData → Prop := fun ds d => ∃ ks : List Int, ds = [.tuple (fracs ks)] ∧ ks.length ≤ 1000 ∧ d = .tuple ((exact_ ks).map mkD)
theorem ok_exact_marks (B : Bl mg) (S : Stand K mg d_exact_marks) (c_ascending : Cal P w K mg base "ascending" 3 ["values"] (pureSp rl_ascending)) : Cal P w K mg base "exact_marks" 4 ["numbers"] (pureSp rl_exact_marks) := by
  refine cal_mk S sc_exact_marks (pure_len (fun ds d h => by obtain ⟨_, rfl, _⟩ := h <;> rfl)) (fun _ _ _ _ _ _ us hl => match us, hl with | [_], _ => rfl) (fun f cdv A outer sh H vs Q E hr h => ?_)
  obtain ⟨W, rfl, s, ds, dd, hv, hR, q⟩ := h
  obtain ⟨ks, rfl, hz, rfl⟩ := hR
  obtain ⟨v0, rfl, h0⟩ := hv.inv1
  refine ⟨_, (pss_cons (ps_set (i := 1) sc_exact_marks.nd rfl (.inl rfl) (pe_lst pa_nil))
      (pss_cons (ps_set (i := 2) sc_exact_marks.nd rfl (.inl rfl) pe_int)
      (pss_cons (ps_set (i := 3) sc_exact_marks.nd rfl (.inl rfl) (pe_cal c_ascending (hr.mono (by decide)) (by rfl) (pa_cons (pe_callTy (kListOf (K := K) rfl) (by rfl) B.z_list (by decide +kernel) (pa_cons (pv 0) pa_nil)) pa_nil)))
      (pss_cons (ps_for PassesOwn.never rfl (kpi_enum (K := K) rfl (by rfl) B.z_enumerate (pa_cons (pv 3) pa_nil)) (kpg_tup (K := K) (n := 2) rfl rfl (pgs_cons (pg_name (i := 4) sc_exact_marks.nd rfl (.inl rfl)) (pgs_cons (pg_name (i := 5) sc_exact_marks.nd rfl (.inl rfl)) pgs_nil)))
      (pss_one (ps_if (PW.pt (pw_or (pt_cmpR op_eq (pe_op op_add (pv 4) pe_int) (pe_callB (kLen (K := K) rfl) (by rfl) B.z_len (by decide +kernel) (pa_cons (pv 3) pa_nil)) (nomark _)) (pw_or1 (pt_cmpR (kNeD (K := K) rfl hr.units) (pe_ix (kIxL (K := K) rfl) (pv 3) (pe_op op_add (pv 4) pe_int) (fun _ _ => rfl)) (pv 5) (nomark _)))))
      (pss_cons (ps_expr (kBM (K := K) rfl (pe_bm PySem.F.plainAttrs_list PySem.F.slot_list_append PySem.F.type_list_append mt_append (pv 1) (pa_cons (pe_tup (pa_cons (pv 5) (pa_cons (pv 2) (pa_cons (pv 2) (pa_cons (pe_op op_add (pv 4) pe_int) (pa_cons (pe_op op_add (pv 4) pe_int) pa_nil)))))) pa_nil))))
      (pss_one (ps_set (i := 2) sc_exact_marks.nd rfl (.inl rfl) (pe_op op_add (pv 4) pe_int))))
      pss_nil)))
      (pss_one (ps_ret (pe_callTy (kTupOf (K := K) rfl) (by rfl) B.z_tuple (by decide +kernel) (pa_cons (pv 1) pa_nil)))))))), ?_⟩
  refine q_newL fun l hl => ?_
  have a0 : Acc W (W.set l (.lst [])) l [] := Acc.start (.refl s) hl
  refine q_asg a0.le.s ev_int fun v2 W1 e1 k2 => ?_
  cases k2
  have a1 := a0.mono e1
  refine q_asg e1.s (ev_call (ea_cons (ev_listT (ev_var rfl (h0.mono a1.le.g))) ea_nil) ⟨ks, rfl, hz, rfl⟩) fun v3 W2 e2 k3 => ?_
  have a2 := a1.mono e2
  refine q_forE e2.s (ev_var rfl k3) fun W3 e3 => ⟨fun i σ' W' => ∃ (F : List Mk) (seen : Int) (y z : Option V), σ' = [some v0, some (.ref l), some (.int seen), some v3, y, z] ∧ Acc W W' l (F.map mkD) ∧ F.length ≤ i ∧ F ++ exGo (i : Int) seen ((srt ks).drop i) = exact_ ks,
    ⟨[], 0, none, none, rfl, a2.mono e3, Nat.zero_le _, exGo_exact ks⟩, ?_, ?_⟩
  · rintro i σ' W' x d hd g s' hx ⟨F, seen, y, z, rfl, a, hF, hE⟩ W4 e4
    obtain ⟨k, hk, rfl⟩ := fracs_at hd
    rw [drop_cons hk] at hE
    have hi : i < ks.length := by
      have := (List.getElem?_eq_some_iff.mp hk).1
      rwa [srt_length] at this
    have k4 := ((k3.mono e3.g).mono g).mono e4.g
    have hx4 := hx.mono e4.g
    have a4 := a.mono e4
    have hb : EvB (tOr (tTest (tOp rEq (tOp (rI0 fun i j => .int (i + j)) (tVar 4) (tC (.int 1))) (tCB (rLenK K) (tCons (tVar 3) tNil)))) (tTest (tOp (rNeD K) (tOp (rIxL K) (tVar 3) (tOp (rI0 fun i j => .int (i + j)) (tVar 4) (tC (.int 1)))) (tVar 5)))) [some v0, some (.ref l), some (.int seen), some v3, some (.int (i : Int)), some x] W4 (endB k ((srt ks).drop (i + 1))) := by
      cases h : (srt ks).drop (i + 1) with
      | nil =>
        have hn := List.drop_eq_nil_iff.mp h
        rw [srt_length] at hn
        refine eb_is (eb_or (b := true) (c := false) (eb_is (eb_test (ev_eqI (ev_opI (f := fun i j => i + j) (ev_var rfl (.int _)) ev_int) (ev_lenL (ev_var rfl k4)))) (decide_eq_true ?_)) fun z => nomatch z) rfl
        show (i : Int) + 1 = ((fracs (srt ks)).length : Int)
        rw [fracs_len, srt_length]
        omega
      | cons y0 t =>
        obtain ⟨hy, _⟩ := drop_head h
        have hn := (List.getElem?_eq_some_iff.mp hy).1
        refine eb_is (eb_or (b := false) (eb_is (eb_test (ev_eqI (ev_opI (f := fun i j => i + j) (ev_var rfl (.int _)) ev_int) (ev_lenL (ev_var rfl k4)))) (decide_eq_false ?_)) fun _ => eb_test (ev_neP (ev_ixL (i := (i : Int) + 1) (atI_nat (j := i + 1) (at_fracs hy)) (ev_var rfl k4) (ev_opI (f := fun i j => i + j) (ev_var rfl (.int _)) ev_int)) (ev_var rfl hx4))) ?_
        · show ¬ (i : Int) + 1 = ((fracs (srt ks)).length : Int)
          rw [fracs_len]
          omega
        · show (false || !decide (ft y0 = ft k ∧ fb y0 = fb k)) = !decide (y0 = k)
          rw [Bool.false_or, decide_eq_decide.mpr (frac_eq y0 k)]
    refine st_if e4.s hb (fun hb W5 e5 => ?_) (fun hb W5 e5 => ?_)
    · rw [exGo_hit hb] at hE
      refine q_appA (d := mkD ⟨k, seen, seen, (i : Int) + 1, (i : Int) + 1⟩) (a4.mono e5) rfl (by rw [List.length_map]; omega) (ev_tup (ea_cons (ev_var rfl (hx4.mono e5.g)) (ea_cons (ev_var rfl (.int _)) (ea_cons (ev_var rfl (.int _)) (ea_cons (ev_opI (f := fun i j => i + j) (ev_var rfl (.int _)) ev_int) (ea_cons (ev_opI (f := fun i j => i + j) (ev_var rfl (.int _)) ev_int) ea_nil))))) (by show 5 ≤ 100000; decide)) fun W6 o e6 a6 => ?_
      refine st_asg a6.le.s (ev_opI (f := fun i j => i + j) (ev_var rfl (.int _)) ev_int) fun v W7 e7 k7 => ?_
      cases k7
      refine ⟨W7, rfl, (((g.trans e4.g).trans e5.g).trans e6.g).trans e7.g, e7.s, F ++ [⟨k, seen, seen, (i : Int) + 1, (i : Int) + 1⟩], (i : Int) + 1, some (.int (i : Int)), some x, rfl, ?_, ?_, ?_⟩
      · rw [List.map_append]
        exact a6.mono e7
      · rw [List.length_append, List.length_singleton]
        omega
      · rw [← hE, List.append_assoc]
        rfl
    · rw [exGo_miss hb] at hE
      exact ⟨W5, rfl, (g.trans e4.g).trans e5.g, e5.s, F, seen, some (.int (i : Int)), some x, rfl, a4.mono e5, by omega, hE⟩
  · rintro σ' W' g s' ⟨F, seen, y, z, rfl, a, hF, hE⟩
    rw [fracs_len, List.drop_length] at hE
    have hE' : F = exact_ ks := by rw [← hE]; exact (List.append_nil F).symm
    obtain ⟨o, e4, hd, hg, _⟩ := a.frz
    rw [hE'] at hd
    exact st_ret (W := W'.frz l o) e4.s (ev_tupL (ev_var rfl hd)) fun v W5 e5 hv => q v W5 (e4.trans e5) hv
/-! ### raw_ranks_of -/
abbrev sc_N_raw_ranks_of : List Str := ["room", "numbers"]
theorem sc_raw_ranks_of : FnScope ["room", "numbers"] ["room", "numbers"] (defScope s_raw_ranks_of) := ⟨rfl, rfl, rfl, by decide +kernel, rfl, by decide +kernel, by decide +kernel⟩
def rl_raw_ranks_of : List PyData → PyData → Prop := fun ds d => ∃ (room : Int) (ks : List Int), ds = [.int room, .tuple (fracs ks)] ∧ 0 ≤ room ∧ ks.length ≤ 1000 ∧ d = rkD room ks.length (thin room ks.length (exact_ ks))
theorem ok_raw_ranks_of (B : Bl mg) (S : Stand K mg d_raw_ranks_of) (c_raw_thinned : Cal P w K mg base "raw_thinned" 2 ["room", "many", "marks"] (pureSp rl_raw_thinned)) (c_exact_marks : Cal P w K mg base "exact_marks" 4 ["numbers"] (pureSp rl_exact_marks)) : Cal P w K mg base "raw_ranks_of" 5 ["room", "numbers"] (pureSp rl_raw_ranks_of) := by
  refine cal_mk S sc_raw_ranks_of (pure_len (fun ds d h => by obtain ⟨_, _, rfl, _⟩ := h <;> rfl)) (fun _ _ _ _ _ _ us hl => match us, hl with | [_, _], _ => rfl) (fun f cdv A outer sh H vs Q E hr h => ?_)
  obtain ⟨W, rfl, s, ds, dd, hv, hR, q⟩ := h
  obtain ⟨room, ks, rfl, hr0, hz, rfl⟩ := hR
  obtain ⟨v0, v1, rfl, h0, h1⟩ := hv.inv2
  refine ⟨_, (pss_one (ps_ret (pe_cal c_raw_thinned (hr.mono (by decide)) (by rfl) (pa_cons (pv 0) (pa_cons (pe_callB (kLen (K := K) rfl) (by rfl) B.z_len (by decide +kernel) (pa_cons (pv 1) pa_nil)) (pa_cons (pe_cal c_exact_marks (hr.mono (by decide)) (by rfl) (pa_cons (pv 1) pa_nil)) pa_nil)))))), ?_⟩
  exact st_ret s (ev_call (ea_cons (ev_var rfl h0) (ea_cons (ev_is (ev_lenT (ev_var rfl h1)) (by rw [fracs_len])) (ea_cons (ev_call (ea_cons (ev_var rfl h1) ea_nil) ⟨ks, rfl, hz, rfl⟩) ea_nil))) ⟨room, (ks.length : Int), exact_ ks, rfl, hr0, by have := exact_len ks; omega, rfl⟩) q
/-! ### added_marks -/
abbrev sc_N_added_marks : List Str := ["one", "other", "values", "found", "at", "value", "ends", "side", "first", "second", "mark"]
theorem sc_added_marks : FnScope ["one", "other", "values", "found", "at", "value", "ends", "side", "first", "second", "mark"] ["one", "other"] (defScope s_added_marks) := ⟨rfl, rfl, rfl, by decide +kernel, rfl, by decide +kernel, by decide +kernel⟩
def rl_added_marks : List PyData → PyData → Prop := fun ds d => ∃ (r1 m1 : Int) (s1 : List Mk) (r2 m2 : Int) (s2 : List Mk), ds = [rkD r1 m1 s1, rkD r2 m2 s2] ∧ s1.length ≤ 100 ∧ s2.length ≤ 100 ∧ s1.Pairwise Mk.lt ∧ s2.Pairwise Mk.lt ∧ d = .tuple ((added m1 s1 m2 s2).map mkD)
theorem ok_added_marks (B : Bl mg) (S : Stand K mg d_added_marks) (c_ascending : Cal P w K mg base "ascending" 3 ["values"] (pureSp rl_ascending)) (c_ends_among : Cal P w K mg base "ends_among" 3 ["marks", "many", "place"] (pureSp rl_ends_among)) : Cal P w K mg base "added_marks" 4 ["one", "other"] (pureSp rl_added_marks) := by
  refine cal_mk S sc_added_marks (pure_len (fun ds d h => by obtain ⟨_, _, _, _, _, _, rfl, _⟩ := h <;> rfl)) (fun _ _ _ _ _ _ us hl => match us, hl with | [_, _], _ => rfl) (fun f cdv A outer sh H vs Q E hr h => ?_)
  obtain ⟨W, rfl, s, ds, dd, hv, hR, q⟩ := h
  obtain ⟨r1, m1, s1, r2, m2, s2, rfl, hz1, hz2, hp1, hp2, rfl⟩ := hR
  obtain ⟨v0, v1, rfl, h0, h1⟩ := hv.inv2
  refine ⟨_, (pss_cons (ps_set (i := 2) sc_added_marks.nd rfl (.inl rfl) (pe_cal c_ascending (hr.mono (by decide)) (by rfl) (pa_cons (pe_op op_cat (pe_lc (own := [("mark", 10)]) rfl sc_added_marks.nd (kpi_tup (K := K) rfl (pe_ix (kIxT (K := K) rfl) (pv 0) pe_int (fun _ _ => rfl))) (blkOk_by (N := sc_N_added_marks) (sc := defScope s_added_marks) (by decide +kernel)) (fun _ _ _ _ _ => (pg_name (i := 10) sc_added_marks.nd rfl (.inl rfl))) (fun _ _ _ _ _ => pts_nil) (fun _ _ _ _ _ => (pe_ix (kIxT (K := K) rfl) (pv 10) pe_int (fun _ _ => rfl)))) (pe_lc (own := [("mark", 10)]) rfl sc_added_marks.nd (kpi_tup (K := K) rfl (pe_ix (kIxT (K := K) rfl) (pv 1) pe_int (fun _ _ => rfl))) (blkOk_by (N := sc_N_added_marks) (sc := defScope s_added_marks) (by decide +kernel)) (fun _ _ _ _ _ => (pg_name (i := 10) sc_added_marks.nd rfl (.inl rfl))) (fun _ _ _ _ _ => pts_nil) (fun _ _ _ _ _ => (pe_ix (kIxT (K := K) rfl) (pv 10) pe_int (fun _ _ => rfl))))) pa_nil)))
      (pss_cons (ps_set (i := 3) sc_added_marks.nd rfl (.inl rfl) (pe_lst pa_nil))
      (pss_cons (ps_for PassesOwn.never rfl (kpi_enum (K := K) rfl (by rfl) B.z_enumerate (pa_cons (pv 2) pa_nil)) (kpg_tup (K := K) (n := 2) rfl rfl (pgs_cons (pg_name (i := 4) sc_added_marks.nd rfl (.inl rfl)) (pgs_cons (pg_name (i := 5) sc_added_marks.nd rfl (.inl rfl)) pgs_nil)))
      (pss_one (ps_if (PW.pt (pw_or (pt_cmpR op_eq (pv 4) pe_int (nomark _)) (pw_or1 (pt_cmpR (kNeD (K := K) rfl hr.units) (pe_ix (kIxL (K := K) rfl) (pv 2) (pe_op op_sub (pv 4) pe_int) (fun _ _ => rfl)) (pv 5) (nomark _)))))
      (pss_cons (ps_set (i := 6) sc_added_marks.nd rfl (.inl rfl) (pe_lst pa_nil))
      (pss_cons (ps_for PassesOwn.never rfl (kpi_tup (K := K) rfl (pe_tup (pa_cons (pe_cint (by rfl) B.c_BELOW) (pa_cons (pe_cint (by rfl) B.c_UP_TO) pa_nil)))) (pg_name (i := 7) sc_added_marks.nd rfl (.inl rfl))
      (pss_cons (ps_set (i := 8) sc_added_marks.nd rfl (.inl rfl) (pe_cal c_ends_among (hr.mono (by decide)) (by rfl) (pa_cons (pe_ix (kIxT (K := K) rfl) (pv 0) pe_int (fun _ _ => rfl)) (pa_cons (pe_ix (kIxT (K := K) rfl) (pv 0) pe_int (fun _ _ => rfl)) (pa_cons (pe_tup (pa_cons (pv 5) (pa_cons (pv 7) pa_nil))) pa_nil)))))
      (pss_cons (ps_set (i := 9) sc_added_marks.nd rfl (.inl rfl) (pe_cal c_ends_among (hr.mono (by decide)) (by rfl) (pa_cons (pe_ix (kIxT (K := K) rfl) (pv 1) pe_int (fun _ _ => rfl)) (pa_cons (pe_ix (kIxT (K := K) rfl) (pv 1) pe_int (fun _ _ => rfl)) (pa_cons (pe_tup (pa_cons (pv 5) (pa_cons (pv 7) pa_nil))) pa_nil)))))
      (pss_one (ps_expr (kBM (K := K) rfl (pe_bm PySem.F.plainAttrs_list PySem.F.slot_list_extend PySem.F.type_list_extend mt_extend (pv 6) (pa_cons (pe_lst (pa_cons (pe_op op_add (pe_ix (kIxT (K := K) rfl) (pv 8) pe_int (fun _ _ => rfl)) (pe_ix (kIxT (K := K) rfl) (pv 9) pe_int (fun _ _ => rfl))) (pa_cons (pe_op op_add (pe_ix (kIxT (K := K) rfl) (pv 8) pe_int (fun _ _ => rfl)) (pe_ix (kIxT (K := K) rfl) (pv 9) pe_int (fun _ _ => rfl))) pa_nil))) pa_nil))))))))
      (pss_one (ps_expr (kBM (K := K) rfl (pe_bm PySem.F.plainAttrs_list PySem.F.slot_list_append PySem.F.type_list_append mt_append (pv 3) (pa_cons (pe_op (kCatT (K := K) rfl) (pe_tup (pa_cons (pv 5) pa_nil)) (pe_callTy (kTupOf (K := K) rfl) (by rfl) B.z_tuple (by decide +kernel) (pa_cons (pv 6) pa_nil))) pa_nil)))))))
      pss_nil)))
      (pss_one (ps_ret (pe_callTy (kTupOf (K := K) rfl) (by rfl) B.z_tuple (by decide +kernel) (pa_cons (pv 3) pa_nil))))))), ?_⟩
  let gk0 : PyData → PyData := fun d => match d with | .tuple [k, _, _, _, _] => k | _ => .none
  have zk : ∀ ms : List Mk, ((ms.map mkD).filter fun _ => true).map gk0 = fracs (ms.map (·.k)) := fun ms => by
    unfold fracs
    rw [List.filter_eq_self.mpr fun _ _ => rfl, List.map_map, List.map_map]
    rfl
  have lcx : ∀ (n : Nat) (v : V) (r m : Int) (ms : List Mk), [some v0, some v1, none, none, none, none, none, none, none, none, none][n]? = some (some v) → Dq W.G v (rkD r m ms) → ms.length ≤ 100 →
      EvD (tLc (iTup K (tOp (rIxT K) (tVar n) (tC (.int 2)))) (gName 10) tYes (tOp (rIxT K) (tVar 10) (tC (.int 0))) [10]) [some v0, some v1, none, none, none, none, none, none, none, none, none] W (.list (fracs (ms.map (·.k)))) := fun n v r m ms hn hv hz => by
    refine ev_is (ev_lcT (fun _ => true) gk0 (ds := ms.map mkD) (ev_ixT rfl (ev_var hn hv) ev_int) (by rw [List.length_map]; omega) (fun x => rfl) fun W1 x d e1 hd hx => ⟨eb_yes e1.s, fun _ => ?_⟩) (congrArg PyData.list (zk ms))
    obtain ⟨m, _, rfl⟩ := List.mem_map.mp hd
    exact ev_ixT (ds := [frac m.k, .int m.a, .int m.b, .int m.c, .int m.d]) rfl (ev_var rfl hx) ev_int
  have hcat : fracs (s1.map (·.k)) ++ fracs (s2.map (·.k)) = fracs (keysOf s1 s2) := by
    unfold fracs keysOf
    rw [List.map_append]
  have hkl : (keysOf s1 s2).length = s1.length + s2.length := by
    unfold keysOf
    rw [List.length_append, List.length_map, List.length_map]
  refine q_asg s (ev_call (ea_cons (ev_is (ev_catL (lcx 0 v0 r1 m1 s1 rfl h0 hz1) (lcx 1 v1 r2 m2 s2 rfl h1 hz2) (by rw [fracs_len, fracs_len, List.length_map, List.length_map]; omega)) (congrArg PyData.list hcat)) ea_nil) ⟨keysOf s1 s2, rfl, by omega, rfl⟩) fun vl W1 e1 kl => ?_
  refine q_newL fun l hl => ?_
  have a1 : Acc W (W1.set l (.lst [])) l [] := Acc.start e1 hl
  have kl1 : Dq (W1.set l (.lst [])).G vl (.list (fracs (srt (keysOf s1 s2)))) := kl
  refine q_forE a1.le.s (ev_var rfl kl1) fun W3 e3 => ⟨fun i σ' W' => ∃ (F : List Mk) (y z y6 y7 y8 y9 : Option V), σ' = [some v0, some v1, some vl, some (.ref l), y, z, y6, y7, y8, y9, none] ∧ Acc W W' l (F.map mkD) ∧ F.length ≤ i ∧ F ++ (firsts (if i = 0 then none else (srt (keysOf s1 s2))[i - 1]?) ((srt (keysOf s1 s2)).drop i)).map (addM m1 s1 m2 s2) = added m1 s1 m2 s2,
    ⟨[], none, none, none, none, none, none, rfl, a1.mono e3, Nat.zero_le _, ?_⟩, ?_, ?_⟩
  · rw [if_pos rfl, List.drop_zero, firsts_none]
    rfl
  · rintro i σ' W' x d hd g s' hx ⟨F, y, z, y6, y7, y8, y9, rfl, a, hF, hE⟩ W4 e4
    obtain ⟨k, hk, rfl⟩ := fracs_at hd
    have hi : i < s1.length + s2.length := by
      have := (List.getElem?_eq_some_iff.mp hk).1
      rwa [srt_length, hkl] at this
    rw [drop_cons hk] at hE
    have k4 := ((kl1.mono e3.g).mono g).mono e4.g
    have hx4 := hx.mono e4.g
    have a4 := a.mono e4
    have g4 := g.trans e4.g
    have hb : EvB (tOr (tTest (tOp rEq (tVar 4) (tC (.int 0)))) (tTest (tOp (rNeD K) (tOp (rIxL K) (tVar 2) (tOp (rI0 fun i j => .int (i - j)) (tVar 4) (tC (.int 1)))) (tVar 5)))) [some v0, some v1, some vl, some (.ref l), some (.int (i : Int)), some x, y6, y7, y8, y9, none] W4 (!decide ((if i = 0 then none else (srt (keysOf s1 s2))[i - 1]?) = some k)) := by
      cases i with
      | zero => exact eb_is (eb_or (b := true) (c := false) (eb_is (eb_test (ev_eqI (ev_var rfl (.int _)) ev_int)) (decide_eq_true rfl)) fun z => nomatch z) rfl
      | succ j =>
        obtain ⟨y0, hy⟩ : ∃ y0, (srt (keysOf s1 s2))[j]? = some y0 := ⟨_, List.getElem?_eq_getElem (by have := (List.getElem?_eq_some_iff.mp hk).1; omega)⟩
        have hat : atI (fracs (srt (keysOf s1 s2))) (((j + 1 : Nat) : Int) - 1) = some (frac y0) := by
          rw [show ((j + 1 : Nat) : Int) - 1 = (j : Int) by omega]
          exact atI_nat (at_fracs hy)
        refine eb_is (eb_or (b := false) (eb_is (eb_test (ev_eqI (ev_var rfl (.int _)) ev_int)) (decide_eq_false (by omega))) fun _ => eb_test (ev_neP (ev_ixL (i := ((j + 1 : Nat) : Int) - 1) hat (ev_var rfl k4) (ev_opI (f := fun i j => i - j) (ev_var rfl (.int _)) ev_int)) (ev_var rfl hx4))) ?_
        · rw [if_neg (by omega), Nat.add_sub_cancel, hy, Bool.false_or, decide_eq_decide.mpr (frac_eq y0 k)]
          by_cases c : y0 = k
          · rw [decide_eq_true c, decide_eq_true (congrArg some c)]
          · rw [decide_eq_false c, decide_eq_false fun z => c (Option.some.inj z)]
    have hst : firsts (if i = 0 then none else (srt (keysOf s1 s2))[i - 1]?) (k :: (srt (keysOf s1 s2)).drop (i + 1)) = if (if i = 0 then none else (srt (keysOf s1 s2))[i - 1]?) = some k then firsts (some k) ((srt (keysOf s1 s2)).drop (i + 1)) else k :: firsts (some k) ((srt (keysOf s1 s2)).drop (i + 1)) := rfl
    have hnx : (if i + 1 = 0 then none else (srt (keysOf s1 s2))[i + 1 - 1]?) = some k := by
      rw [if_neg (by omega), Nat.add_sub_cancel, hk]
    rw [hst] at hE
    refine st_if e4.s hb (fun hb W5 e5 => ?_) (fun hb W5 e5 => ?_)
    · rw [if_neg (of_decide_eq_false (by rw [Bool.not_eq_true'] at hb; exact hb))] at hE
      have a5 := a4.mono e5
      have hx5 := hx4.mono e5.g
      have h05 := h0.mono a5.le.g
      have h15 := h1.mono a5.le.g
      refine q_newL fun n hn => ?_
      have ne : l ≠ n := fun c => a5.at_ (c ▸ hn)
      have b5 : Acc W5 (W5.set n (.lst [])) n [] := Acc.start (.refl e5.s) hn
      have hnW : W.H n = none := a5.le.h.back hn
      have a6 : Acc W (W5.set n (.lst [])) l (F.map mkD) := a5.other hnW b5.out ne
      let P : Bool → Int × Int := fun up => ((endsP m1 k up s1).1 + (endsP m2 k up s2).1, (endsP m1 k up s1).2 + (endsP m2 k up s2).2)
      let E : List PyData := [.int (P false).1, .int (P false).2, .int (P true).1, .int (P true).2]
      refine q_forT (ds := [.int 0, .int 1]) a6.le.s (ev_tup (ea_cons ev_int (ea_cons ev_int ea_nil)) (by show 2 ≤ 100000; decide)) fun W7 e7 => ⟨fun j σ' W' => ∃ (y7 y8 y9 : Option V), σ' = [some v0, some v1, some vl, some (.ref l), some (.int (i : Int)), some x, some (.ref n), y7, y8, y9, none] ∧ Acc W W' l (F.map mkD) ∧ Acc W5 W' n (E.take (2 * j)),
        ⟨y7, y8, y9, rfl, a6.mono e7, b5.mono e7⟩, ?_, ?_⟩
      · rintro j σ' W8 xs d hd g8 s8 hxs ⟨y7, y8, y9, rfl, a8, b8⟩
        have hup : ∃ up : Bool, d = .int (sideI up) ∧ j < 2 ∧ E.take (2 * (j + 1)) = E.take (2 * j) ++ [.int (P up).1, .int (P up).2] := by
          match j, hd with
          | 0, hd => exact ⟨false, (Option.some.inj hd).symm, by omega, rfl⟩
          | 1, hd => exact ⟨true, (Option.some.inj hd).symm, by omega, rfl⟩
          | j + 2, hd => simp at hd
        obtain ⟨up, rfl, hj, hup⟩ := hup
        have q1 : ∀ (m : Nat) (v : V) (r mm : Int) (ms : List Mk) (σ : L2.St), σ[m]? = some (some v) → σ[5]? = some (some x) → σ[7]? = some (some xs) → ∀ W9 : Wd, Ex W8.G W9.G → Dq W9.G v (rkD r mm ms) → ms.length ≤ 100 →
            EvD (tCall (pureSp rl_ends_among) [] E0 (tCons (tOp (rIxT K) (tVar m) (tC (.int 2))) (tCons (tOp (rIxT K) (tVar m) (tC (.int 1))) (tCons (tTup (tCons (tVar 5) (tCons (tVar 7) tNil))) tNil)))) σ W9 (pairD (endsP mm k up ms)) := fun m v r mm ms σ hm h5 h7 W9 g9 hv hz =>
          ev_call (ea_cons (ev_ixT (ds := [.int r, .int mm, .tuple (ms.map mkD)]) rfl (ev_var hm hv) ev_int) (ea_cons (ev_ixT (ds := [.int r, .int mm, .tuple (ms.map mkD)]) rfl (ev_var hm hv) ev_int) (ea_cons (ev_tup (ea_cons (ev_var h5 (((hx5.mono e7.g).mono g8).mono g9)) (ea_cons (ev_var h7 (hxs.mono g9)) ea_nil)) (by show 2 ≤ 100000; decide)) ea_nil))) ⟨ms, mm, k, up, rfl, by omega, rfl⟩
        refine q_asg s8 (q1 0 v0 r1 m1 s1 _ rfl rfl rfl W8 (Ex.refl _) ((h05.mono e7.g).mono g8) hz1) fun f1 W9 e9 kf1 => ?_
        refine q_asg e9.s (q1 1 v1 r2 m2 s2 _ rfl rfl rfl W9 e9.g (((h15.mono e7.g).mono g8).mono e9.g) hz2) fun f2 W10 e10 kf2 => ?_
        have kf1' := kf1.mono e10.g
        have a10 := (a8.mono e9).mono e10
        have b10 := (b8.mono e9).mono e10
        refine st_extA b10 rfl (es := [.int (P up).1, .int (P up).2]) (by rw [List.length_take]; show min _ 4 + 2 < 100000; omega) (ev_lst (ea_cons (ev_opI (f := fun i j => i + j) (ev_ixT rfl (ev_var rfl kf1') ev_int) (ev_ixT rfl (ev_var rfl kf2) ev_int)) (ea_cons (ev_opI (f := fun i j => i + j) (ev_ixT rfl (ev_var rfl kf1') ev_int) (ev_ixT rfl (ev_var rfl kf2) ev_int)) ea_nil)) (by show 2 ≤ 100000; decide)) fun W11 o e11 b11 => ?_
        refine ⟨W11.set n o, rfl, ((g8.trans e9.g).trans e10.g).trans e11.g, b11.le.s, some xs, some f1, some f2, rfl, (a10.mono e11).other hnW b11.out ne, ?_⟩
        rw [hup]
        exact b11
      · rintro σ' W8 g8 s8 ⟨y7, y8, y9, rfl, a8, b8⟩
        obtain ⟨fs, e9, hd9, hg9, hh9⟩ := b8.frz'
        have a9 : Acc W (W8.frz n (.lst fs)) l (F.map mkD) := a8.frzO hnW b8.out hh9 ne
        have hx9 : Dq (W8.frz n (.lst fs)).G x (frac k) := ((hx5.mono e7.g).mono g8).mono hg9
        have hmk : ([frac k] : List PyData) ++ E = [frac k, .int (addM m1 s1 m2 s2 k).a, .int (addM m1 s1 m2 s2 k).b, .int (addM m1 s1 m2 s2 k).c, .int (addM m1 s1 m2 s2 k).d] := by
          simp only [E, P, endsP_eq hp1, endsP_eq hp2]
          rfl
        refine st_appA (W := W8.frz n (.lst fs)) (d := mkD (addM m1 s1 m2 s2 k)) a9 rfl (by rw [List.length_map]; omega) (ev_is (ev_catT (ds := [frac k]) (es := E) (ev_tup (ea_cons (ev_var rfl hx9) ea_nil) (by show 1 ≤ 100000; decide)) (ev_tupL (ev_var rfl hd9)) (by show 1 + 4 ≤ 100000; decide)) (congrArg PyData.tuple hmk)) fun W10 o e10 a10 => ?_
        refine ⟨W10.set l o, rfl, (((((g4.trans e5.g).trans e7.g).trans g8).trans hg9).trans e10.g), a10.le.s, F ++ [addM m1 s1 m2 s2 k], some (.int (i : Int)), some x, some (.ref n), y7, y8, y9, rfl, ?_, ?_, ?_⟩
        · rw [List.map_append]
          exact a10
        · rw [List.length_append, List.length_singleton]
          omega
        · rw [hnx, ← hE, List.append_assoc]
          rfl
    · rw [if_pos (of_decide_eq_true (by rw [Bool.not_eq_false'] at hb; exact hb))] at hE
      refine ⟨W5, rfl, g4.trans e5.g, e5.s, F, some (.int (i : Int)), some x, y6, y7, y8, y9, rfl, a4.mono e5, by omega, ?_⟩
      rw [hnx]
      exact hE
  · rintro σ' W' g s' ⟨F, y, z, y6, y7, y8, y9, rfl, a, hF, hE⟩
    have h0' : ∀ p, (firsts p ((srt (keysOf s1 s2)).drop (fracs (srt (keysOf s1 s2))).length)).map (addM m1 s1 m2 s2) = [] := fun p => by
      rw [fracs_len, List.drop_length]
      rfl
    rw [h0', List.append_nil] at hE
    obtain ⟨o, e4, hd, hg, _⟩ := a.frz
    rw [hE] at hd
    exact st_ret (W := W'.frz l o) e4.s (ev_tupL (ev_var rfl hd)) fun v W5 e5 hv => q v W5 (e4.trans e5) hv
/-! ### raw_poured_ranks -/
abbrev sc_N_raw_poured_ranks : List Str := ["one", "other"]
theorem sc_raw_poured_ranks : FnScope ["one", "other"] ["one", "other"] (defScope s_raw_poured_ranks) := ⟨rfl, rfl, rfl, by decide +kernel, rfl, by decide +kernel, by decide +kernel⟩
def rl_raw_poured_ranks : List PyData → PyData → Prop := fun ds d => ∃ (r1 m1 : Int) (s1 : List Mk) (r2 m2 : Int) (s2 : List Mk), ds = [rkD r1 m1 s1, rkD r2 m2 s2] ∧ 0 ≤ r1 ∧ s1.length ≤ 100 ∧ s2.length ≤ 100 ∧ s1.Pairwise Mk.lt ∧ s2.Pairwise Mk.lt ∧ d = rkD r1 (m1 + m2) (thin r1 (m1 + m2) (added m1 s1 m2 s2))
theorem ok_raw_poured_ranks (B : Bl mg) (S : Stand K mg d_raw_poured_ranks) (c_raw_thinned : Cal P w K mg base "raw_thinned" 2 ["room", "many", "marks"] (pureSp rl_raw_thinned)) (c_added_marks : Cal P w K mg base "added_marks" 4 ["one", "other"] (pureSp rl_added_marks)) : Cal P w K mg base "raw_poured_ranks" 5 ["one", "other"] (pureSp rl_raw_poured_ranks) := by
  refine cal_mk S sc_raw_poured_ranks (pure_len (fun ds d h => by obtain ⟨_, _, _, _, _, _, rfl, _⟩ := h <;> rfl)) (fun _ _ _ _ _ _ us hl => match us, hl with | [_, _], _ => rfl) (fun f cdv A outer sh H vs Q E hr h => ?_)
  obtain ⟨W, rfl, s, ds, dd, hv, hR, q⟩ := h
  obtain ⟨r1, m1, s1, r2, m2, s2, rfl, hr0, hz1, hz2, hp1, hp2, rfl⟩ := hR
  obtain ⟨v0, v1, rfl, h0, h1⟩ := hv.inv2
  refine ⟨_, (pss_one (ps_ret (pe_cal c_raw_thinned (hr.mono (by decide)) (by rfl) (pa_cons (pe_ix (kIxT (K := K) rfl) (pv 0) pe_int (fun _ _ => rfl)) (pa_cons (pe_op op_add (pe_ix (kIxT (K := K) rfl) (pv 0) pe_int (fun _ _ => rfl)) (pe_ix (kIxT (K := K) rfl) (pv 1) pe_int (fun _ _ => rfl))) (pa_cons (pe_cal c_added_marks (hr.mono (by decide)) (by rfl) (pa_cons (pv 0) (pa_cons (pv 1) pa_nil))) pa_nil)))))), ?_⟩
  exact st_ret s (ev_call (ea_cons (ev_ixT rfl (ev_var rfl h0) ev_int) (ea_cons (ev_opI (f := fun i j => i + j) (ev_ixT rfl (ev_var rfl h0) ev_int) (ev_ixT rfl (ev_var rfl h1) ev_int)) (ea_cons (ev_call (ea_cons (ev_var rfl h0) (ea_cons (ev_var rfl h1) ea_nil)) ⟨r1, m1, s1, r2, m2, s2, rfl, hz1, hz2, hp1, hp2, rfl⟩) ea_nil))) ⟨r1, m1 + m2, added m1 s1 m2 s2, rfl, hr0, by have := added_len m1 s1 m2 s2; omega, rfl⟩) q
end
end K22
namespace K22
open PySem PySem.Spec PyProof.Rows L2
section
variable {P : Program} {w : World} {K : PySem.W.Frag} {mg : Str → Option Value} {base : Heap}
/-! ### is_number_tree -/
abbrev sc_N_is_number_tree : List Str := ["thing"]
theorem sc_is_number_tree : FnScope ["thing"] ["thing"] (defScope s_is_number_tree) := ⟨rfl, rfl, rfl, by decide +kernel, rfl, by decide +kernel, by decide +kernel⟩
def rl_is_number_tree : List PyData → PyData → Prop := fun ds d => ∃ t : List Stp, ds = [treeD t] ∧ TreeOk t ∧ d = .bool true
theorem ok_is_number_tree (c_is_number_stream : Cal P w K mg base "is_number_stream" 3 ["thing"] (pureSp rl_is_number_stream)) (B : Bl mg) (S : Stand K mg d_is_number_tree) (c_are_steps : Cal P w K mg base "are_steps" 5 ["thing", "word", "is_items"] (sp_are_steps mg)) : Cal P w K mg base "is_number_tree" 6 ["thing"] (pureSp rl_is_number_tree) := by
  refine cal_mk S sc_is_number_tree (pure_len (fun ds d h => by obtain ⟨_, rfl, _⟩ := h <;> rfl)) (fun _ _ _ _ _ _ us hl => match us, hl with | [_], _ => rfl) (fun f cdv A outer sh H vs Q E hr h => ?_)
  obtain ⟨W, rfl, s, ds, dd, hv, hR, q⟩ := h
  obtain ⟨t, rfl, hT, rfl⟩ := hR
  obtain ⟨v0, rfl, h0⟩ := hv.inv1
  obtain ⟨f1, fd1, F1, F2, F3, F4⟩ := c_is_number_stream.ex
  refine ⟨_, (pss_one (ps_ret (pe_cal c_are_steps (hr.mono (by decide)) (by rfl) (pa_cons (pv 0) (pa_cons (pe_cstr (by rfl) B.c_NUMBERS) (pa_cons (pe_glob (v := .ref f1) (by rfl) F2 rfl) pa_nil)))))), ?_⟩
  exact ⟨v0, rfl, W, rfl, s, v0, .str "numbers", f1, t, rfl, F2, h0, .str _, hT, q⟩
/-! ### check_number_tree -/
abbrev sc_N_check_number_tree : List Str := ["thing"]
theorem sc_check_number_tree : FnScope ["thing"] ["thing"] (defScope s_check_number_tree) := ⟨rfl, rfl, rfl, by decide +kernel, rfl, by decide +kernel, by decide +kernel⟩
def rl_check_number_tree : List PyData → PyData → Prop := fun ds d => ∃ t : List Stp, ds = [treeD t] ∧ TreeOk t ∧ d = .none
theorem ok_check_number_tree (B : Bl mg) (S : Stand K mg d_check_number_tree) (c_is_number_tree : Cal P w K mg base "is_number_tree" 6 ["thing"] (pureSp rl_is_number_tree)) : Cal P w K mg base "check_number_tree" 7 ["thing"] (pureSp rl_check_number_tree) := by
  refine cal_mk S sc_check_number_tree (pure_len (fun ds d h => by obtain ⟨_, rfl, _⟩ := h <;> rfl)) (fun _ _ _ _ _ _ us hl => match us, hl with | [_], _ => rfl) (fun f cdv A outer sh H vs Q E hr h => ?_)
  obtain ⟨W, rfl, s, ds, dd, hv, hR, q⟩ := h
  obtain ⟨t, rfl, hT, rfl⟩ := hR
  obtain ⟨v0, rfl, h0⟩ := hv.inv1
  refine ⟨_, (pss_one (ps_if (pt_not (pt_val (pe_cal c_is_number_tree (hr.mono (by decide)) (by rfl) (pa_cons (pv 0) pa_nil))))
      (pss_one ps_never)
      pss_nil)), ?_⟩
  exact st_if s (eb_not (b := true) (eb_B (ev_call (ea_cons (ev_var rfl h0) ea_nil) ⟨t, rfl, hT, rfl⟩))) (fun z => nomatch z) (fun _ W' e => q .non W' e .non)
/-! ### ranks_tree -/
abbrev sc_N_ranks_tree : List Str := ["room", "tree", "pile", "step", "other"]
theorem sc_ranks_tree : FnScope ["room", "tree", "pile", "step", "other"] ["room", "tree"] (defScope s_ranks_tree) := ⟨rfl, rfl, rfl, by decide +kernel, rfl, by decide +kernel, by decide +kernel⟩
def rl_ranks_tree : List PyData → PyData → Prop := fun ds d => ∃ (room : Int) (t : List Stp) (nd : Nd), ds = [.int room, treeD t] ∧ 1 ≤ room ∧ room ≤ 64 ∧ TreeOk t ∧ stAt room t t.length = [nd] ∧ d = ndD room nd
theorem ok_ranks_tree (B : Bl mg) (S : Stand K mg d_ranks_tree) (c_check_room : Cal P w K mg base "check_room" 3 ["thing", "least", "most"] (pureSp rl_check_room)) (c_check_number_tree : Cal P w K mg base "check_number_tree" 7 ["thing"] (pureSp rl_check_number_tree)) (c_is_pour : Cal P w K mg base "is_pour" 2 ["step"] (pureSp rl_is_pour)) (c_raw_poured_ranks : Cal P w K mg base "raw_poured_ranks" 5 ["one", "other"] (pureSp rl_raw_poured_ranks)) (c_raw_ranks_of : Cal P w K mg base "raw_ranks_of" 5 ["room", "numbers"] (pureSp rl_raw_ranks_of)) : Cal P w K mg base "ranks_tree" 8 ["room", "tree"] (pureSp rl_ranks_tree) := by
  refine cal_mk S sc_ranks_tree (pure_len (fun ds d h => by obtain ⟨_, _, _, rfl, _⟩ := h <;> rfl)) (fun _ _ _ _ _ _ us hl => match us, hl with | [_, _], _ => rfl) (fun f cdv A outer sh H vs Q E hr h => ?_)
  obtain ⟨W, rfl, s, ds, dd, hv, hR, q⟩ := h
  obtain ⟨room, t, nd, rfl, hr1, hr2, hT, hnd, rfl⟩ := hR
  obtain ⟨v0, v1, rfl, h0, h1⟩ := hv.inv2
  refine ⟨_, (pss_cons (ps_expr (pe_cal c_check_room (hr.mono (by decide)) (by rfl) (pa_cons (pv 0) (pa_cons pe_int (pa_cons (pe_cint (by rfl) B.c_MOST_ROOM) pa_nil)))))
      (pss_cons (ps_expr (pe_cal c_check_number_tree (hr.mono (by decide)) (by rfl) (pa_cons (pv 1) pa_nil)))
      (pss_cons (ps_set (i := 2) sc_ranks_tree.nd rfl (.inl rfl) (pe_lst pa_nil))
      (pss_cons (ps_for PassesOwn.never rfl (kpi_tup (K := K) rfl (pv 1)) (pg_name (i := 3) sc_ranks_tree.nd rfl (.inl rfl))
      (pss_one (ps_if (pt_val (pe_cal c_is_pour (hr.mono (by decide)) (by rfl) (pa_cons (pv 3) pa_nil)))
      (pss_cons (ps_set (i := 4) sc_ranks_tree.nd rfl (.inl rfl) (kBM0 (K := K) rfl (pe_bm0 PySem.F.plainAttrs_list PySem.F.slot_list_pop PySem.F.type_list_pop mt_pop (pv 2))))
      (pss_one (ps_expr (kBM (K := K) rfl (pe_bm PySem.F.plainAttrs_list PySem.F.slot_list_append PySem.F.type_list_append mt_append (pv 2) (pa_cons (pe_cal c_raw_poured_ranks (hr.mono (by decide)) (by rfl) (pa_cons (kBM0 (K := K) rfl (pe_bm0 PySem.F.plainAttrs_list PySem.F.slot_list_pop PySem.F.type_list_pop mt_pop (pv 2))) (pa_cons (pv 4) pa_nil))) pa_nil))))))
      (pss_one (ps_expr (kBM (K := K) rfl (pe_bm PySem.F.plainAttrs_list PySem.F.slot_list_append PySem.F.type_list_append mt_append (pv 2) (pa_cons (pe_cal c_raw_ranks_of (hr.mono (by decide)) (by rfl) (pa_cons (pv 0) (pa_cons (pe_ix (kIxT (K := K) rfl) (pv 3) pe_int (fun _ _ => rfl)) pa_nil))) pa_nil))))))))
      (pss_one (ps_ret (pe_ix (kIxL (K := K) rfl) (pv 2) pe_int (fun _ _ => rfl)))))))), ?_⟩
  have htl : (t.map stepD).length = t.length := List.length_map _
  refine q_dropD s (ev_call (ea_cons (ev_var rfl h0) (ea_cons ev_int (ea_cons ev_int ea_nil))) ⟨room, 1, 64, rfl, hr1, hr2, rfl⟩) fun W1 e1 => ?_
  refine q_dropD e1.s (ev_call (ea_cons (ev_var rfl (h1.mono e1.g)) ea_nil) ⟨t, rfl, hT, rfl⟩) fun W2 e2 => ?_
  have e12 := e1.trans e2
  refine q_newL fun l hl => ?_
  have a2 : Acc W (W2.set l (.lst [])) l [] := Acc.start e12 hl
  refine q_forT a2.le.s (ev_var rfl (h1.mono a2.le.g)) fun W3 e3 => ⟨fun i σ' W' => ∃ y z : Option V, σ' = [some v0, some v1, some (.ref l), y, z] ∧ Acc W W' l (ndMs (stAt room t i) room), ⟨none, none, rfl, a2.mono e3⟩, ?_, ?_⟩
  · rintro i σ' W' x d hd g s' hx ⟨y, z, rfl, a⟩
    obtain ⟨st, hst, rfl⟩ := map_at hd
    have hi : i < t.length := (List.getElem?_eq_some_iff.mp hst).1
    have ok := stOk hr1 hT.wf i (by omega)
    have hlen : (stAt room t i).length ≤ i := by
      have h : ∀ (l : List Stp) (st : List Nd), (l.foldl (stepN room) st).length ≤ st.length + l.length := fun l => by
        induction l with
        | nil => exact fun st => Nat.le_refl _
        | cons s r ih =>
          intro st
          rw [List.foldl_cons, List.length_cons]
          have q1 := ih (stepN room st s)
          have q2 : (stepN room st s).length ≤ st.length + 1 := by
            cases s with
            | some ks => exact Nat.le_refl _
            | none =>
              match st with
              | [] => exact Nat.zero_le _
              | [y] => show 1 ≤ _; omega
              | y :: x :: r =>
                show r.length + 1 ≤ r.length + 1 + 1 + 1
                omega
          omega
      have q := h (t.take i) []
      rw [List.length_take] at q
      unfold stAt
      have z : ([] : List Nd).length = 0 := rfl
      omega
    have hlen1 := hT.len
    have hnx := stAt_succ (room := room) hst
    have w := ok.wf
    rw [drop_at hst] at w
    refine st_if s' (eb_B (ev_call (ea_cons (ev_var rfl hx) ea_nil) ⟨st, rfl, rfl⟩)) (fun hb W4 e4 => ?_) (fun hb W4 e4 => ?_)
    · cases st with
      | some ks => cases hb
      | none =>
        obtain ⟨w1, w2⟩ := w
        cases hs : stAt room t i with
        | nil =>
          rw [hs] at w1
          simp at w1
        | cons yn r =>
          cases r with
          | nil =>
            rw [hs] at w1
            simp at w1
          | cons xn r =>
            rw [hs] at a hnx hlen
            have oo := ok.ok
            rw [hs] at oo
            have oy := oo yn (by simp)
            have ox := oo xn (by simp)
            rw [ndMs_cons, ndMs_cons] at a
            have a4 := a.mono e4
            refine q_popA a4 rfl fun v o hv a5 => ?_
            have rlen : (ndMs r room).length = r.length := by
              unfold ndMs
              rw [List.length_map, List.length_reverse]
            have l1 := oy.len
            have l2 := ox.len
            simp only [List.length_cons] at hlen
            refine st_popcall (d := ndD room (pourN room xn yn)) a5 rfl rfl hv (by omega) ⟨room, xn.many, xn.ms, room, yn.many, yn.ms, rfl, by omega, by omega, by omega, ox.good.lt, oy.good.lt, rfl⟩ fun W6 o6 e6 a6 => ?_
            refine ⟨W6.set l o6, rfl, (g.trans e4.g).trans e6, a6.le.s, some x, some v, rfl, ?_⟩
            rw [hnx]
            show Acc W (W6.set l o6) l (ndMs (pourN room xn yn :: r) room)
            rw [ndMs_cons]
            exact a6
    · cases st with
      | none => cases hb
      | some ks =>
        have hks := hT.few ks (List.mem_of_getElem? hst)
        have a4 := a.mono e4
        have rlen : (ndMs (stAt room t i) room).length = (stAt room t i).length := by
          unfold ndMs
          rw [List.length_map, List.length_reverse]
        refine st_appA (d := ndD room (leafN room ks)) a4 rfl (by omega) (ev_call (ea_cons (ev_var rfl (h0.mono a4.le.g)) (ea_cons (ev_ixT (ds := [.str "numbers", .tuple (fracs ks)]) rfl (ev_var rfl (hx.mono e4.g)) ev_int) ea_nil)) ⟨room, ks, rfl, by omega, by omega, rfl⟩) fun W5 o5 e5 a5 => ?_
        refine ⟨W5.set l o5, rfl, (g.trans e4.g).trans e5.g, a5.le.s, some x, z, rfl, ?_⟩
        rw [hnx]
        show Acc W (W5.set l o5) l (ndMs (leafN room ks :: stAt room t i) room)
        rw [ndMs_cons]
        exact a5
  · rintro σ' W' g s' ⟨y, z, rfl, a⟩
    rw [htl, hnd] at a
    obtain ⟨o, e4, hd, hg, _⟩ := a.frz
    exact st_ret (W := W'.frz l o) e4.s (ev_ixL (ds := [ndD room nd]) rfl (ev_var rfl hd) ev_int) fun v W5 e5 hv => q v W5 (e4.trans e5) hv
/-! ### item_ends -/
abbrev sc_N_item_ends : List Str := ["ranks", "index", "low", "high", "mark"]
theorem sc_item_ends : FnScope ["ranks", "index", "low", "high", "mark"] ["ranks", "index"] (defScope s_item_ends) := ⟨rfl, rfl, rfl, by decide +kernel, rfl, by decide +kernel, by decide +kernel⟩
def rl_item_ends : List PyData → PyData → Prop := fun ds d => ∃ (room many : Int) (ms : List Mk) (idx : Int), ds = [rkD room many ms, .int idx] ∧ RkOk room many ms ∧ 0 ≤ idx ∧ idx ≤ many - 1 ∧ d = .tuple [optK (ms.filter fun m => decide (m.b ≤ idx)).getLast?, optK (ms.filter fun m => decide (idx < m.c)).head?]
theorem ok_item_ends (B : Bl mg) (S : Stand K mg d_item_ends) (c_check_ranks : Cal P w K mg base "check_ranks" 6 ["thing"] (pureSp rl_check_ranks)) (c_check_number : Cal P w K mg base "check_number" 3 ["thing", "least", "most"] (pureSp rl_check_number)) : Cal P w K mg base "item_ends" 7 ["ranks", "index"] (pureSp rl_item_ends) := by
  refine cal_mk S sc_item_ends (pure_len (fun ds d h => by obtain ⟨_, _, _, _, rfl, _⟩ := h <;> rfl)) (fun _ _ _ _ _ _ us hl => match us, hl with | [_, _], _ => rfl) (fun f cdv A outer sh H vs Q E hr h => ?_)
  obtain ⟨W, rfl, s, ds, dd, hv, hR, q⟩ := h
  obtain ⟨room, many, ms, idx, rfl, hk, hi0, hi1, rfl⟩ := hR
  obtain ⟨v0, v1, rfl, h0, h1⟩ := hv.inv2
  refine ⟨_, (pss_cons (ps_expr (pe_cal c_check_ranks (hr.mono (by decide)) (by rfl) (pa_cons (pv 0) pa_nil)))
      (pss_cons (ps_expr (pe_cal c_check_number (hr.mono (by decide)) (by rfl) (pa_cons (pv 1) (pa_cons pe_int (pa_cons (pe_op op_sub (pe_ix (kIxT (K := K) rfl) (pv 0) pe_int (fun _ _ => rfl)) pe_int) pa_nil)))))
      (pss_cons (ps_setLc (i := 2) (own := [("mark", 4)]) rfl sc_item_ends.nd rfl rfl (sw_true rfl rfl rfl (by decide +kernel)) (kpi_tup (K := K) rfl (pe_ix (kIxT (K := K) rfl) (pv 0) pe_int (fun _ _ => rfl))) (blkOk_by (N := sc_N_item_ends) (sc := defScope s_item_ends) (by decide +kernel)) (fun _ _ _ _ _ => (pg_name (i := 4) sc_item_ends.nd rfl (.inl rfl))) (fun _ _ _ _ _ => (pts_one (pt_cmpR op_le (pe_ix (kIxT (K := K) rfl) (pv 4) pe_int (fun _ _ => rfl)) (pv 1) (nomark _)))) (fun _ _ _ _ _ => (pe_ix (kIxT (K := K) rfl) (pv 4) pe_int (fun _ _ => rfl))))
      (pss_cons (ps_setLc (i := 3) (own := [("mark", 4)]) rfl sc_item_ends.nd rfl rfl (sw_true rfl rfl rfl (by decide +kernel)) (kpi_tup (K := K) rfl (pe_ix (kIxT (K := K) rfl) (pv 0) pe_int (fun _ _ => rfl))) (blkOk_by (N := sc_N_item_ends) (sc := defScope s_item_ends) (by decide +kernel)) (fun _ _ _ _ _ => (pg_name (i := 4) sc_item_ends.nd rfl (.inl rfl))) (fun _ _ _ _ _ => (pts_one (pt_cmpR op_gt (pe_ix (kIxT (K := K) rfl) (pv 4) pe_int (fun _ _ => rfl)) (pv 1) (nomark _)))) (fun _ _ _ _ _ => (pe_ix (kIxT (K := K) rfl) (pv 4) pe_int (fun _ _ => rfl))))
      (pss_one (ps_ret (pe_tup (pa_cons (pe_ifExp (pt_cmpR op_gt (pe_callB (kLen (K := K) rfl) (by rfl) B.z_len (by decide +kernel) (pa_cons (pv 2) pa_nil)) pe_int (nomark _)) (pe_ix (kIxL (K := K) rfl) (pv 2) (pe_un un_neg pe_int) (fun _ _ => rfl)) pe_non) (pa_cons (pe_ifExp (pt_cmpR op_gt (pe_callB (kLen (K := K) rfl) (by rfl) B.z_len (by decide +kernel) (pa_cons (pv 3) pa_nil)) pe_int (nomark _)) (pe_ix (kIxL (K := K) rfl) (pv 3) pe_int (fun _ _ => rfl)) pe_non) pa_nil))))))))), ?_⟩
  have k2 := hk.r64
  have k3 := hk.len
  refine q_dropD s (ev_call (ea_cons (ev_var rfl h0) ea_nil) ⟨room, many, ms, rfl, hk, rfl⟩) fun W1 e1 => ?_
  refine q_dropD e1.s (ev_call (ea_cons (ev_var rfl (h1.mono e1.g)) (ea_cons ev_int (ea_cons (ev_opI (f := fun i j => i - j) (ev_ixT rfl (ev_var rfl (h0.mono e1.g)) ev_int) ev_int) ea_nil))) ⟨idx, 0, many - 1, rfl, hi0, hi1, rfl⟩) fun W2 e2 => ?_
  have h02 := h0.mono (e1.trans e2).g
  have h12 := h1.mono (e1.trans e2).g
  let gk0 : PyData → PyData := fun d => match d with | .tuple [k, _, _, _, _] => k | _ => .none
  let fb0 : PyData → Bool := fun d => match d with | .tuple [_, _, .int b, _, _] => decide (b ≤ idx) | _ => false
  let fc0 : PyData → Bool := fun d => match d with | .tuple [_, _, _, .int c, _] => decide (idx < c) | _ => false
  have zk : ∀ ms : List Mk, (ms.map mkD).map gk0 = fracs (ms.map (·.k)) := fun ms => by
    unfold fracs
    rw [List.map_map, List.map_map]
    rfl
  have zb : ((ms.map mkD).filter fb0).map gk0 = fracs ((ms.filter fun m => decide (m.b ≤ idx)).map (·.k)) := by
    rw [← zk, List.filter_map]
    rfl
  have zc : ((ms.map mkD).filter fc0).map gk0 = fracs ((ms.filter fun m => decide (idx < m.c)).map (·.k)) := by
    rw [← zk, List.filter_map]
    rfl
  refine q_asg e2.s (ev_is (ev_lcT (ds := ms.map mkD) fb0 gk0 (ev_ixT rfl (ev_var rfl h02) ev_int) (by rw [List.length_map]; omega) (fun x => rfl) fun W3 x d e3 hd hx => ?_) (congrArg PyData.list zb)) fun vl W3 e3 kl => ?_
  · obtain ⟨m, _, rfl⟩ := List.mem_map.mp hd
    exact ⟨eb_test (ev_opB (ev_ixT (ds := [frac m.k, .int m.a, .int m.b, .int m.c, .int m.d]) rfl (ev_var rfl hx) ev_int) (ev_var rfl (h12.mono e3.g))), fun _ => ev_ixT (ds := [frac m.k, .int m.a, .int m.b, .int m.c, .int m.d]) rfl (ev_var rfl hx) ev_int⟩
  have h03 := h02.mono e3.g
  have h13 := h12.mono e3.g
  refine q_asg e3.s (ev_is (ev_lcT (ds := ms.map mkD) fc0 gk0 (ev_ixT rfl (ev_var rfl h03) ev_int) (by rw [List.length_map]; omega) (fun x => rfl) fun W4 x d e4 hd hx => ?_) (congrArg PyData.list zc)) fun vh W4 e4 kh => ?_
  · obtain ⟨m, _, rfl⟩ := List.mem_map.mp hd
    exact ⟨eb_test (ev_opB (ev_ixT (ds := [frac m.k, .int m.a, .int m.b, .int m.c, .int m.d]) rfl (ev_var rfl hx) ev_int) (ev_var rfl (h13.mono e4.g))), fun _ => ev_ixT (ds := [frac m.k, .int m.a, .int m.b, .int m.c, .int m.d]) rfl (ev_var rfl hx) ev_int⟩
  have e14 := ((e1.trans e2).trans e3).trans e4
  have kl4 := kl.mono e4.g
  generalize (ms.filter fun m => decide (m.b ≤ idx)) = lo at kl kl4 q zb
  generalize (ms.filter fun m => decide (idx < m.c)) = hi at kh q zc
  refine st_ret e4.s (ev_tup (ea_cons (d := optK lo.getLast?) (ev_if (b := decide (0 < (lo.length : Int))) (eb_is (eb_test (ev_opB (ev_lenL (ev_var rfl kl4)) ev_int)) (by rw [fracs_len, List.length_map])) (fun c => ?_) (fun c => ?_)) (ea_cons (d := optK hi.head?) (ev_if (b := decide (0 < (hi.length : Int))) (eb_is (eb_test (ev_opB (ev_lenL (ev_var rfl kh)) ev_int)) (by rw [fracs_len, List.length_map])) (fun c => ?_) (fun c => ?_)) ea_nil)) (by show 2 ≤ 100000; decide)) fun v W5 e5 hv => q v W5 (e14.trans e5) hv
  · have c' := of_decide_eq_true c
    obtain ⟨m, hm⟩ : ∃ m, lo[lo.length - 1]? = some m := ⟨_, List.getElem?_eq_getElem (by omega)⟩
    rw [List.getLast?_eq_getElem?, hm]
    refine ev_ixL (i := -1) ?_ (ev_var rfl kl4) (ev_neg ev_int)
    have hl : (fracs (lo.map (·.k))).length = lo.length := by rw [fracs_len, List.length_map]
    have e1 : (fracs (lo.map (·.k)))[lo.length - 1]? = some (frac m.k) := at_fracs (at_map (f := fun m : Mk => m.k) hm)
    unfold atI ixN
    rw [if_neg (by omega), if_pos (by omega)]
    show (fracs (lo.map (·.k)))[((-1 : Int) + ((fracs (lo.map (·.k))).length : Int)).toNat]? = _
    rw [show ((-1 : Int) + ((fracs (lo.map (·.k))).length : Int)).toNat = lo.length - 1 by omega]
    exact e1
  · have c' := of_decide_eq_false c
    have e0 : lo = [] := List.length_eq_zero_iff.mp (by omega)
    rw [e0]
    exact ev_non
  · have c' := of_decide_eq_true c
    cases hi with
    | nil => simp at c'
    | cons m r => exact ev_ixL (i := 0) (d := frac m.k) (atI_nat (j := 0) rfl) (ev_var rfl kh) ev_int
  · have c' := of_decide_eq_false c
    have e0 : hi = [] := List.length_eq_zero_iff.mp (by omega)
    rw [e0]
    exact ev_non
/-! ### rank_at -/
abbrev sc_N_rank_at : List Str := ["tree", "place", "value", "side", "found", "step", "one"]
theorem sc_rank_at : FnScope ["tree", "place", "value", "side", "found", "step", "one"] ["tree", "place"] (defScope s_rank_at) := ⟨rfl, rfl, rfl, by decide +kernel, rfl, by decide +kernel, by decide +kernel⟩
def rl_rank_at : List PyData → PyData → Prop := fun ds d => ∃ (t : List Stp) (key : Int) (up : Bool), ds = [treeD t, placeD key (sideI up)] ∧ TreeOk t ∧ d = .int (cnt up (itemsOf t) key)
theorem ok_rank_at (B : Bl mg) (S : Stand K mg d_rank_at) (c_check_number_tree : Cal P w K mg base "check_number_tree" 7 ["thing"] (pureSp rl_check_number_tree)) (c_check_place : Cal P w K mg base "check_place" 4 ["thing"] (pureSp rl_check_place)) (c_is_pour : Cal P w K mg base "is_pour" 2 ["step"] (pureSp rl_is_pour)) (c_is_less : Cal P w K mg base "is_less" 1 ["one", "other"] (pureSp rl_is_less)) : Cal P w K mg base "rank_at" 8 ["tree", "place"] (pureSp rl_rank_at) := by
  refine cal_mk S sc_rank_at (pure_len (fun ds d h => by obtain ⟨_, _, _, rfl, _⟩ := h <;> rfl)) (fun _ _ _ _ _ _ us hl => match us, hl with | [_, _], _ => rfl) (fun f cdv A outer sh H vs Q E hr h => ?_)
  obtain ⟨W, rfl, s, ds, dd, hv, hR, q⟩ := h
  obtain ⟨t, key, up, rfl, hT, rfl⟩ := hR
  obtain ⟨v0, v1, rfl, h0, h1⟩ := hv.inv2
  refine ⟨_, (pss_cons (ps_expr (pe_cal c_check_number_tree (hr.mono (by decide)) (by rfl) (pa_cons (pv 0) pa_nil)))
      (pss_cons (ps_expr (pe_cal c_check_place (hr.mono (by decide)) (by rfl) (pa_cons (pv 1) pa_nil)))
      (pss_cons (ps_asg (pv 1) (kpg_tup (K := K) (n := 2) rfl rfl (pgs_cons (pg_name (i := 2) sc_rank_at.nd rfl (.inr rfl)) (pgs_cons (pg_name (i := 3) sc_rank_at.nd rfl (.inr rfl)) pgs_nil))))
      (pss_cons (ps_set (i := 4) sc_rank_at.nd rfl (.inl rfl) pe_int)
      (pss_cons (ps_for PassesOwn.never rfl (kpi_tup (K := K) rfl (pv 0)) (pg_name (i := 5) sc_rank_at.nd rfl (.inl rfl))
      (pss_one (ps_if (pt_not (pt_val (pe_cal c_is_pour (hr.mono (by decide)) (by rfl) (pa_cons (pv 5) pa_nil))))
      (pss_one (ps_aug (i := 4) sc_rank_at.nd rfl (.inl rfl) (pe_callB (kLen (K := K) rfl) (by rfl) B.z_len (by decide +kernel) (pa_cons (pe_lc (own := [("one", 6)]) rfl sc_rank_at.nd (kpi_tup (K := K) rfl (pe_ix (kIxT (K := K) rfl) (pv 5) pe_int (fun _ _ => rfl))) (blkOk_by (N := sc_N_rank_at) (sc := defScope s_rank_at) (by decide +kernel)) (fun _ _ _ _ _ => (pg_name (i := 6) sc_rank_at.nd rfl (.inl rfl))) (fun _ _ _ _ _ => (pts_one (PW.pt (pw_or (pt_val (pe_cal c_is_less (hr.mono (by decide)) (by rfl) (pa_cons (pv 6) (pa_cons (pv 2) pa_nil)))) (pw_or1 (PW.pt (pw_and (pt_cmpR op_eq (pv 3) (pe_cint (by rfl) B.c_UP_TO) (nomark _)) (pw_and1 (pt_cmpR (kEqD (K := K) rfl hr.units) (pv 6) (pv 2) (nomark _)))))))))) (fun _ _ _ _ _ => (pv 6))) pa_nil)) ip_add))
      pss_nil)))
      (pss_one (ps_ret (pv 4)))))))), ?_⟩
  have htl : (t.map stepD).length = t.length := List.length_map _
  refine q_dropD s (ev_call (ea_cons (ev_var rfl h0) ea_nil) ⟨t, rfl, hT, rfl⟩) fun W1 e1 => ?_
  refine q_dropD e1.s (ev_call (ea_cons (ev_var rfl (h1.mono e1.g)) ea_nil) ⟨key, up, rfl, rfl⟩) fun W2 e2 => ?_
  refine q_un2 e2.s (d1 := frac key) (d2 := .int (sideI up)) (ev_var rfl (h1.mono (e1.trans e2).g)) fun va vb W3 e3 ka kb => ?_
  cases kb
  refine q_asg e3.s ev_int fun v4 W4 e4 k4 => ?_
  cases k4
  have e14 := ((e1.trans e2).trans e3).trans e4
  refine q_forT e4.s (ev_var rfl (h0.mono e14.g)) fun W5 e5 => ⟨fun i σ' W' => ∃ (y : Option V), σ' = [some v0, some v1, some va, some (.int (sideI up)), some (.int (cnt up (itemsOf (t.take i)) key)), y, none] ∧ W.le W' ∧ Dq W'.G va (frac key), ⟨none, ?_, e14.trans e5, (ka.mono e4.g).mono e5.g⟩, ?_, ?_⟩
  · rw [show cnt up (itemsOf (t.take 0)) key = 0 by cases up <;> rfl]
    rfl
  · rintro i σ' W' x d hd g s' hx ⟨y, rfl, e, kv⟩
    obtain ⟨st, hst, rfl⟩ := map_at hd
    have hit := items_succ hst
    refine st_if s' (eb_not (eb_B (ev_call (ea_cons (ev_var rfl hx) ea_nil) ⟨st, rfl, rfl⟩))) (fun hb W6 e6 => ?_) (fun hb W6 e6 => ?_)
    · cases st with
      | none => cases hb
      | some ks =>
        have hks := hT.few ks (List.mem_of_getElem? hst)
        have kv6 := kv.mono e6.g
        refine st_augI (f := fun i j => i + j) (j := cnt up ks key) e6.s rfl (ev_is (ev_lenL (ev_lcT (hitD key up) (fun d => d) (ev_ixT (ds := [.str "numbers", .tuple (fracs ks)]) rfl (ev_var rfl (hx.mono e6.g)) ev_int) (by rw [fracs_len]; omega) (fun x => rfl) fun W7 x' d e7 hd hx' => ?_)) ?_) fun W8 e8 => ?_
        · obtain ⟨k, _, rfl⟩ := List.mem_map.mp hd
          have kv7 := kv6.mono e7.g
          refine ⟨eb_is (eb_or (eb_B (ev_call (ea_cons (ev_var rfl hx') (ea_cons (ev_var rfl kv7) ea_nil)) ⟨k, key, rfl, rfl⟩)) fun _ => eb_and (eb_test (ev_eqI (ev_var rfl (.int _)) ev_int)) fun _ => eb_test (ev_eqP (ev_var rfl hx') (ev_var rfl kv7))) ?_, fun _ => ev_var rfl hx'⟩
          rw [hitD_frac, decide_eq_decide.mpr (frac_eq k key)]
          cases up <;> rfl
        · rw [List.map_id', hit_cnt]
        · refine ⟨W8, rfl, (g.trans e6.g).trans e8.g, e8.s, some x, ?_, (e.trans e6).trans e8, kv6.mono e8.g⟩
          rw [hit, cnt_app]
          rfl
    · cases st with
      | some ks => cases hb
      | none =>
        refine ⟨W6, rfl, g.trans e6.g, e6.s, some x, ?_, e.trans e6, kv.mono e6.g⟩
        rw [hit]
        simp
  · rintro σ' W' g s' ⟨y, rfl, e, kv⟩
    rw [htl, List.take_length]
    exact st_ret s' (ev_var rfl (.int _)) fun v W5 e5 hv => q v W5 (e.trans e5) hv
end
end K22
/-! ### dicts of int keys -/
namespace K22
open PySem PySem.Spec PyProof.Rows L2
def kvD (l : List Int) (f : Int → V) : List (Key × V) := l.map fun k => (Sum.inl k, f k)
theorem kvD_len (l : List Int) (f : Int → V) : (kvD l f).length = l.length := List.length_map _
theorem kvD_keys (l : List Int) (f : Int → V) : (kvD l f).map (·.1) = l.map Sum.inl := by
  unfold kvD
  rw [List.map_map]
  rfl
theorem kvD_val (f : Int → V) (k : Int) : ∀ l : List Int, valV (kvD l f) (Sum.inl k) = if k ∈ l then some (f k) else none
  | [] => rfl
  | j :: r => by
    have e : kvD (j :: r) f = (Sum.inl j, f j) :: kvD r f := rfl
    rw [e]
    by_cases c : j = k
    · subst c
      rw [valV_pos rfl, if_pos (by simp)]
    · rw [valV_neg (fun z => c (Sum.inl.inj z)), kvD_val f k r]
      by_cases c2 : k ∈ r
      · rw [if_pos c2, if_pos (by simp [c2])]
      · rw [if_neg c2, if_neg (by simp [c2, Ne.symm c])]
theorem kvD_put (f : Int → V) (k : Int) (v : V) (l : List Int) : putK (kvD l f) (Sum.inl k) v = kvD (insK l k) fun j => if j = k then v else f j := by
  unfold putK
  have e : ((kvD l f).any fun kv => decide (kv.1 = Sum.inl k)) = decide (k ∈ l) := by
    rw [valV_any, kvD_val]
    by_cases c : k ∈ l
    · rw [if_pos c, decide_eq_true c]
      rfl
    · rw [if_neg c, decide_eq_false c]
      rfl
  rw [e]
  unfold insK
  by_cases c : k ∈ l
  · rw [if_pos (decide_eq_true c), if_pos c]
    unfold kvD
    rw [List.map_map]
    refine List.map_congr_left fun j _ => ?_
    show (if (Sum.inl j : Key) = Sum.inl k then ((Sum.inl j : Key), v) else (Sum.inl j, f j)) = (Sum.inl j, if j = k then v else f j)
    by_cases d : j = k
    · rw [if_pos (congrArg Sum.inl d), if_pos d]
    · rw [if_neg (fun z => d (Sum.inl.inj z)), if_neg d]
  · rw [if_neg (by rw [decide_eq_false c]; exact Bool.false_ne_true), if_neg c]
    unfold kvD
    rw [List.map_append]
    congr 1
    · refine List.map_congr_left fun j hj => ?_
      show ((Sum.inl j : Key), f j) = (Sum.inl j, if j = k then v else f j)
      rw [if_neg (fun z : j = k => c (by rw [← z]; exact hj))]
    · show [((Sum.inl k : Key), v)] = [(Sum.inl k, if k = k then v else f k)]
      rw [if_pos rfl]
def tru : Int → V := fun _ => .bl true
theorem kvD_tru (l : List Int) (k : Int) : putK (kvD l tru) (Sum.inl k) (.bl true) = kvD (insK l k) tru := by
  rw [kvD_put]
  congr 1
  funext j
  show (if j = k then V.bl true else V.bl true) = V.bl true
  split <;> rfl
theorem kvD_merge : ∀ (m l : List Int), mergeK (kvD l tru) (kvD m tru) = kvD (m.foldl insK l) tru
  | [], _ => rfl
  | k :: r, l => by
    show mergeK (putK (kvD l tru) (Sum.inl k) (.bl true)) (kvD r tru) = _
    rw [kvD_tru, kvD_merge r]
    rfl
/-- a dict of the law while it grows -/
structure AccD (W0 W : Wd) (l : Addr) (ks : List Int) (f : Int → V) : Prop where
  le : W0.le W
  at_ : W.H l = some (.dK (kvD ks f))
  out : W.G l = none
  new : W0.H l = none
section
variable {K : PySem.W.Frag} {σ : L2.St} {W W' W0 W1 : Wd} {ta tb tc td te tl : TE} {v : V} {d d1 d2 : PyData} {ds es : List PyData} {k z : Int} {D : Ends} {tz : TS} {l m : Addr} {ks : List Int} {f : Int → V}
theorem AccD.start (e : W0.le W1) (h : W1.H l = none) : AccD W0 (W1.set l (.dK [])) l [] f := ⟨le_laid e h, upd_same, e.s.back h, e.h.back h⟩
theorem AccD.mono (a : AccD W0 W l ks f) (e : W.le W') : AccD W0 W' l ks f := ⟨a.le.trans e, e.h _ _ a.at_, e.out a.out a.at_, a.new⟩
theorem AccD.set {js : List Int} {g : Int → V} (a : AccD W0 W l ks f) : AccD W0 (W.set l (.dK (kvD js g))) l js g := ⟨le_set a.le a.new a.out, upd_same, a.out, a.new⟩
/-- d[k] of the growing dict -/
theorem ev_dgetK {n : Nat} {c : Int} (a : AccD W0 W l ks f) (hn : σ[n]? = some (some (.ref l))) (h : EvD te σ W (.int k)) (hk : k ∈ ks) (hf : f k = .int c) : EvD (tDGet (tVar n) te) σ W (.int c) := fun W1 e Q q =>
  ⟨.ref l, hn, h W1 e _ fun v W2 e2 hv => by
    cases hv
    refine ⟨l, f k, rfl, ?_, ?_⟩
    · have g := DGet.k (k := Sum.inl k) ((e.trans e2).h _ _ a.at_)
      rw [kvD_val, if_pos hk] at g
      exact g
    · rw [hf]
      exact q _ W2 e2 (.int c)⟩
/-- d.get(k, z) -/
theorem ev_dget2K {n : Nat} {c : Int} (a : AccD W0 W l ks f) (hn : σ[n]? = some (some (.ref l))) (h : EvD te σ W (.int k)) (h' : EvD ta σ W (.int z)) (hf : k ∈ ks → f k = .int c) (hz : ¬ k ∈ ks → z = c) : EvD (tDGet2 (tVar n) te ta) σ W (.int c) := fun W1 e Q q =>
  ⟨.ref l, hn, l, rfl, .inl ⟨_, .inl (e.h _ _ a.at_)⟩, h W1 e _ fun v W2 e2 hv => h' W2 (e.trans e2) _ fun w W3 e3 hw => by
    cases hv
    cases hw
    refine ⟨_, DGet.k (k := Sum.inl k) (((e.trans e2).trans e3).h _ _ a.at_), ?_⟩
    rw [kvD_val]
    by_cases c : k ∈ ks
    · rw [if_pos c, hf c]
      exact q _ W3 (e2.trans e3) (.int _)
    · rw [if_neg c]
      show Q (.int z) W3.H
      rw [hz c]
      exact q _ W3 (e2.trans e3) (.int _)⟩
/-- d[k] = e, an int -/
theorem st_dputI {n : Nat} {c : Int} (a : AccD W0 W l ks f) (hn : σ[n]? = some (some (.ref l))) (hz : ks.length < 100000) (h : EvD te σ W (.int k)) (h' : EvD ta σ W (.int c))
    (q : ∀ W' o, W.le W' → AccD W0 (W'.set l o) l (insK ks k) (fun j => if j = k then .int c else f j) → D.nx σ (W'.set l o).H) : sDPut (tVar n) te ta D σ W.H :=
  h' W (.refl a.le.s) _ fun v W1 e1 hv => ⟨.ref l, hn, h W1 e1 _ fun w W2 e2 hw => by
    cases hv
    cases hw
    have a2 := (a.mono e1).mono e2
    refine ⟨l, _, rfl, DPut.k (k := Sum.inl k) a2.at_ (szlt (by rw [kvD_len]; exact hz)), ?_⟩
    rw [kvD_put]
    exact q W2 _ (e1.trans e2) a2.set⟩
/-- d[k] = True -/
theorem st_dputT {n : Nat} (a : AccD W0 W l ks tru) (hn : σ[n]? = some (some (.ref l))) (hz : ks.length < 100000) (h : EvD te σ W (.int k))
    (q : ∀ W' o, W.le W' → AccD W0 (W'.set l o) l (insK ks k) tru → D.nx σ (W'.set l o).H) : sDPut (tVar n) te (tC (.bl true)) D σ W.H :=
  ⟨.ref l, hn, h W (.refl a.le.s) _ fun w W2 e2 hw => by
    cases hw
    have a2 := a.mono e2
    refine ⟨l, _, rfl, DPut.k (k := Sum.inl k) a2.at_ (szlt (by rw [kvD_len]; exact hz)), ?_⟩
    rw [kvD_tru]
    exact q W2 _ e2 a2.set⟩
/-- sorted(d) -/
theorem ev_sortedK {n : Nat} (a : AccD W0 W l ks f) (hn : σ[n]? = some (some (.ref l))) : EvD (tCB rSortedDI (tCons (tVar n) tNil)) σ W (.list ((srt ks).map .int)) := fun W1 e _ q =>
  ⟨.ref l, hn, l, kvD ks f, ks, rfl, .inl (e.h _ _ a.at_), kvD_keys ks f, fun ys p h1 h3 hp => by
    rw [srt_eq h1 h3]
    exact q _ (W1.new p _) (le_new e.rf hp) (.lst upd_same (.of_ints _))⟩
/-- len(d) -/
theorem ev_lenK {n : Nat} (a : AccD W0 W l ks f) (hn : σ[n]? = some (some (.ref l))) : EvD (tCB (fun xs H Q => ∃ a kvs, xs = [V.ref a] ∧ H a = some (.dK kvs) ∧ Q (.int kvs.length) H) (tCons (tVar n) tNil)) σ W (.int (ks.length : Int)) := fun W1 e _ q =>
  ⟨.ref l, hn, l, kvD ks f, rfl, e.h _ _ a.at_, by
    rw [kvD_len]
    exact q _ W1 e.rf (.int _)⟩
/-- the data of names -/
def namesD (ks : List Int) : PyData := .dict (ks.map fun k => (.int k, .bool true))
theorem AccD.frz (a : AccD W0 W l ks tru) : ∃ o, W0.le (W.frz l o) ∧ Dq (W.frz l o).G (.ref l) (namesD ks) ∧ Ex W.G (W.frz l o).G ∧ W.H l = some o := by
  have e : Ex W.G (W.frz l (.dK (kvD ks tru))).G := (Ex.refl W.G).up a.out
  exact ⟨_, le_frz a.le a.new a.out a.at_, .dct upd_same, e, a.at_⟩
theorem namesD_inv {H : Hp} (h : Dq H v (namesD ks)) : ∃ a, v = .ref a ∧ H a = some (.dK (kvD ks tru)) := by
  unfold namesD at h
  generalize e : (ks.map fun k => (PyData.int k, PyData.bool true)) = L at h
  cases h with
  | @dct a js ha =>
    have e2 : ks = js := by
      have q := congrArg (List.map fun p : PyData × PyData => match p.1 with | .int i => i | _ => 0) e
      rw [List.map_map, List.map_map] at q
      have z : ∀ l : List Int, l.map ((fun p : PyData × PyData => match p.1 with | .int i => i | _ => 0) ∘ fun k => (PyData.int k, PyData.bool true)) = l := fun l => by
        conv => rhs; rw [← List.map_id l]
        rfl
      rw [z, z] at q
      exact q
    subst e2
    exact ⟨a, rfl, ha⟩
/-- x = dict(e) -/
theorem st_dcopy {n : Nat} (s : Ex W.G W.H) (h : EvD te σ W (namesD ks)) (q : ∀ l W', AccD W W' l ks tru → D.nx (σ.set n (some (.ref l))) W'.H) :
    tAsg (tCB (fun xs H Q => ∃ (a : Addr) (kvs : List (Key × V)), xs = [.ref a] ∧ Rd H a (.dK kvs) ∧ ∀ p, H p = none → Q (.ref p) (upd H p (.dK kvs))) (tCons te tNil)) (gName n) D σ W.H := h W (.refl s) _ fun v W1 e hv => by
  obtain ⟨a, rfl, ha⟩ := namesD_inv hv
  exact ⟨a, _, rfl, .inl (e.s _ _ ha), fun p hp => q p (W1.set p _) ⟨le_laid e hp, upd_same, e.s.back hp, e.h.back hp⟩⟩
/-- d.update(e) -/
theorem st_dupd {n : Nat} {js : List Int} (a : AccD W0 W l ks tru) (hn : σ[n]? = some (some (.ref l))) (hz : ks.length + js.length ≤ 100000) (h : EvD te σ W (namesD js))
    (q : ∀ W' o, W.le W' → AccD W0 (W'.set l o) l (js.foldl insK ks) tru → D.nx σ (W'.set l o).H) : tDrop (tBM K "dict" rUpd (tVar n) (tCons te tNil)) D σ W.H := by
  refine ⟨.ref l, hn, ?_, h W (.refl a.le.s) _ fun v W1 e hv => ?_⟩
  · exact .inr (.inr (.inl ⟨rfl, .inl ⟨_, a.at_⟩⟩))
  · obtain ⟨b, rfl, hb⟩ := namesD_inv hv
    have a1 := a.mono e
    refine ⟨l, b, _, _, rfl, rfl, ?_, a1.at_, e.s _ _ hb, szle (by rw [kvD_len, kvD_len]; exact hz), ?_⟩
    · intro c
      subst c
      rw [a1.out] at hb
      cases hb
    · rw [kvD_merge]
      exact q W1 _ e a1.set
end
end K22
namespace K22
open PySem PySem.Spec PyProof.Rows L2
section
variable {K : PySem.W.Frag} {σ : L2.St} {W W' W0 W1 : Wd} {ta tb tc td te tl : TE} {v : V} {d d1 d2 : PyData} {ds es : List PyData} {k z : Int} {D : Ends} {tz : TS} {l m : Addr} {ks : List Int} {f : Int → V}
theorem AccD.other {o : HO} (a : AccD W0 W l ks f) (hm : W0.H m = none) (hg : W.G m = none) (ne : l ≠ m) : AccD W0 (W.set m o) l ks f :=
  ⟨le_set a.le hm hg, by rw [show (W.set m o).H l = W.H l from upd_ne ne]; exact a.at_, a.out, a.new⟩
theorem AccD.live (a : AccD W0 W l ks f) : W.H l ≠ none := by
  rw [a.at_]
  exact fun z => nomatch z
theorem st_newL1 {n : Nat} (s : Ex W.G W.H) (h : EvD te σ W d) (q : ∀ l W', Acc W W' l [d] → D.nx (σ.set n (some (.ref l))) W'.H) : tAsg (tLst (tCons te tNil)) (gName n) D σ W.H :=
  h W (.refl s) _ fun v W1 e hv => ⟨show 1 ≤ sizeLine from szle (by decide), fun l hl => q l (W1.set l (.lst [v])) ⟨le_laid e hl, ⟨[v], upd_same, .cons hv .nil⟩, e.s.back hl, e.h.back hl⟩⟩
theorem q_newL1 {n : Nat} (s : Ex W.G W.H) (h : EvD te σ W d) (q : ∀ l W', Acc W W' l [d] → tz D (σ.set n (some (.ref l))) W'.H) : tSeq (tAsg (tLst (tCons te tNil)) (gName n)) tz D σ W.H := st_newL1 (D := { D with nx := tz D }) s h q
theorem q_dcopy {n : Nat} (s : Ex W.G W.H) (h : EvD te σ W (namesD ks)) (q : ∀ l W', AccD W W' l ks tru → tz D (σ.set n (some (.ref l))) W'.H) :
    tSeq (tAsg (tCB (fun xs H Q => ∃ (a : Addr) (kvs : List (Key × V)), xs = [.ref a] ∧ Rd H a (.dK kvs) ∧ ∀ p, H p = none → Q (.ref p) (upd H p (.dK kvs))) (tCons te tNil)) (gName n)) tz D σ W.H := st_dcopy (D := { D with nx := tz D }) s h q
theorem q_dupd {n : Nat} {js : List Int} (a : AccD W0 W l ks tru) (hn : σ[n]? = some (some (.ref l))) (hz : ks.length + js.length ≤ 100000) (h : EvD te σ W (namesD js))
    (q : ∀ W' o, W.le W' → AccD W0 (W'.set l o) l (js.foldl insK ks) tru → tz D σ (W'.set l o).H) : tSeq (tDrop (tBM K "dict" rUpd (tVar n) (tCons te tNil))) tz D σ W.H := st_dupd (D := { D with nx := tz D }) a hn hz h q
end
/-- names once, ascending -/
theorem srt_ins (ks : List Int) : srt (ks.foldl insK []) = uniq (srt ks) := by
  have hn : (ks.foldl insK []).Nodup := nd_ins .nil
  refine strict_ext (strict_of (srt_sorted _) ((srt_perm _).nodup_iff.mpr hn)) (uniq_strict (srt_sorted ks)) fun x => ?_
  rw [mem_srt, mem_uniq, mem_srt, mem_ins]
  simp
def SameOk : Nat → PyData → Prop
  | 0, d => ∃ i, d = .int i
  | n + 1, d => (∃ i, d = .int i) ∨ ∃ ds, d = .tuple ds ∧ ds.length ≤ 1000 ∧ ∀ e ∈ ds, SameOk n e
theorem SameOk.split {n : Nat} {d : PyData} (h : SameOk n d) : (∃ i, d = .int i) ∨ ∃ m ds, n = m + 1 ∧ d = .tuple ds ∧ ds.length ≤ 1000 ∧ ∀ e ∈ ds, SameOk m e := by
  cases n with
  | zero => exact .inl h
  | succ m =>
    rcases h with h | ⟨ds, h⟩
    · exact .inl h
    · exact .inr ⟨m, ds, rfl, h⟩
theorem SameOk.int (n : Nat) (i : Int) : SameOk n (.int i) := by
  cases n with
  | zero => exact ⟨i, rfl⟩
  | succ n => exact .inl ⟨i, rfl⟩
theorem SameOk.rk (room many : Int) (ms : List Mk) (h : ms.length ≤ 1000) : SameOk 6 (rkD room many ms) := by
  refine .inr ⟨_, rfl, by show 3 ≤ 1000; omega, fun e he => ?_⟩
  simp only [List.mem_cons, List.not_mem_nil, or_false] at he
  rcases he with rfl | rfl | rfl
  · exact .int _ _
  · exact .int _ _
  · refine .inr ⟨_, rfl, by rw [List.length_map]; exact h, fun e he => ?_⟩
    obtain ⟨m, _, rfl⟩ := List.mem_map.mp he
    refine .inr ⟨_, rfl, by show 5 ≤ 1000; omega, fun e he => ?_⟩
    simp only [List.mem_cons, List.not_mem_nil, or_false] at he
    rcases he with rfl | rfl | rfl | rfl | rfl
    · refine .inr ⟨_, rfl, by show 2 ≤ 1000; omega, fun e he => ?_⟩
      simp only [List.mem_cons, List.not_mem_nil, or_false] at he
      rcases he with rfl | rfl <;> exact .int _ _
    · exact .int _ _
    · exact .int _ _
    · exact .int _ _
    · exact .int _ _
def lnD (many : Int) (ms : List Mk) : PyData := .tuple [.int many, .list (ms.map lmD)]
end K22
namespace K22
open PySem PySem.Spec PyProof.Rows L2
section
variable {W0 W : Wd} {l m : Addr} {ds : List PyData} {ks : List Int} {f : Int → V}
theorem Acc.frzG {o : HO} (a : Acc W0 W l ds) (hm : W0.H m = none) (hg : W.G m = none) (hh : W.H m = some o) (ne : l ≠ m) : Acc W0 (W.frz m o) l ds := by
  obtain ⟨xs, h1, h2⟩ := a.ex
  exact ⟨le_frz a.le hm hg hh, ⟨xs, h1, h2.mono ((Ex.refl W.G).up hg)⟩, (upd_ne ne).trans a.out, a.new⟩
end
def lnMs (ns : List Nd) : List PyData := ns.reverse.map fun n => lnD n.many n.ms
theorem lnMs_cons (n : Nd) (r : List Nd) : lnMs (n :: r) = lnMs r ++ [lnD n.many n.ms] := by
  unfold lnMs
  rw [List.reverse_cons, List.map_append]
  rfl
theorem lnMs_len (ns : List Nd) : (lnMs ns).length = ns.length := by
  unfold lnMs
  rw [List.length_map, List.length_reverse]
def bdD (n : Nd) : PyData := .tuple [.int n.many, .int n.bd, namesD n.nm]
def bdMs (ns : List Nd) : List PyData := ns.reverse.map bdD
theorem bdMs_cons (n : Nd) (r : List Nd) : bdMs (n :: r) = bdMs r ++ [bdD n] := by
  unfold bdMs
  rw [List.reverse_cons, List.map_append]
  rfl
theorem bdMs_len (ns : List Nd) : (bdMs ns).length = ns.length := by
  unfold bdMs
  rw [List.length_map, List.length_reverse]
theorem stAt_len (room : Int) (t : List Stp) (i : Nat) : (stAt room t i).length ≤ i := by
  have h : ∀ (l : List Stp) (st : List Nd), (l.foldl (stepN room) st).length ≤ st.length + l.length := fun l => by
    induction l with
    | nil => exact fun st => Nat.le_refl _
    | cons s r ih =>
      intro st
      rw [List.foldl_cons, List.length_cons]
      have q1 := ih (stepN room st s)
      have q2 : (stepN room st s).length ≤ st.length + 1 := by
        cases s with
        | some ks => exact Nat.le_refl _
        | none =>
          match st with
          | [] => exact Nat.zero_le _
          | [y] => show 1 ≤ _; omega
          | y :: x :: r =>
            show r.length + 1 ≤ r.length + 1 + 1 + 1
            omega
      omega
  have q := h (t.take i) []
  rw [List.length_take] at q
  unfold stAt
  have z : ([] : List Nd).length = 0 := rfl
  omega
theorem items_len : ∀ {t : List Stp}, (∀ ks, some ks ∈ t → ks.length ≤ 9) → (itemsOf t).length ≤ 9 * t.length
  | [], _ => Nat.le_refl _
  | none :: r, h => by
    have ih := items_len (t := r) fun ks hk => h ks (by simp [hk])
    have e : itemsOf (none :: r) = itemsOf r := by
      unfold itemsOf
      rw [List.flatMap_cons]
      rfl
    rw [e, List.length_cons]
    omega
  | some ks :: r, h => by
    have ih := items_len (t := r) fun ks hk => h ks (by simp [hk])
    have h1 := h ks (by simp)
    have e : itemsOf (some ks :: r) = ks ++ itemsOf r := by
      unfold itemsOf
      rw [List.flatMap_cons]
      rfl
    rw [e, List.length_append, List.length_cons]
    omega
/-- two on the pile -/
theorem pile2 {room : Int} (hr : 1 ≤ room) {t : List Stp} (hT : TreeOk t) {i : Nat} (hi : t[i]? = some none) : ∃ x y r, stAt room t i = y :: x :: r ∧ NdOk room x ∧ NdOk room y ∧ x.ks.length + y.ks.length ≤ 9000 ∧ stAt room t (i + 1) = pourN room x y :: r ∧ r.length + 2 ≤ 1000 := by
  have hlt := (List.getElem?_eq_some_iff.mp hi).1
  have ok := stOk hr hT.wf i (by omega)
  have w := ok.wf
  rw [drop_at hi] at w
  obtain ⟨w1, w2⟩ := w
  have hnx := stAt_succ (room := room) hi
  have hl := stAt_len room t i
  have hlen := hT.len
  have hit := ok.items
  have hil := items_len (t := t.take i) fun ks hk => hT.few ks (List.mem_of_mem_take hk)
  rw [List.length_take] at hil
  match hs : stAt room t i with
  | [] =>
    rw [hs] at w1
    simp at w1
  | [y] =>
    rw [hs] at w1
    simp at w1
  | y :: x :: r =>
    rw [hs] at hnx hl hit
    have oo := ok.ok
    rw [hs] at oo
    refine ⟨x, y, r, rfl, oo x (by simp), oo y (by simp), ?_, hnx, ?_⟩
    · have e := congrArg List.length hit
      simp only [List.reverse_cons, List.append_assoc, List.flatMap_append, List.flatMap_cons, List.flatMap_nil, List.length_append, List.append_nil] at e
      omega
    · simp only [List.length_cons] at hl
      omega
theorem pile1 {room : Int} {t : List Stp} (hT : TreeOk t) {i : Nat} {ks : List Int} (hi : t[i]? = some (some ks)) : stAt room t (i + 1) = leafN room ks :: stAt room t i ∧ ks.length ≤ 9 ∧ (stAt room t i).length < 1000 := by
  have hlt := (List.getElem?_eq_some_iff.mp hi).1
  have hl := stAt_len room t i
  have hlen := hT.len
  exact ⟨stAt_succ hi, hT.few ks (List.mem_of_getElem? hi), by omega⟩
theorem nm_len {room : Int} {n : Nd} (h : NdOk room n) : n.nm.length ≤ n.ks.length := sub_len h.nd fun x hx => (h.mem x).mp hx
end K22
namespace K22
open PySem PySem.Spec PyProof.Rows L2
section
variable {P : Program} {w : World} {K : PySem.W.Frag} {mg : Str → Option Value} {base : Heap}
def rl_sameN : Nat → List PyData → PyData → Prop
  | 0 => fun _ _ => False
  | n + 1 => fun ds d => ∃ e, ds = [e, e] ∧ SameOk n e ∧ d = .bool true
/-! ### _law_same -/
abbrev sc_N_law_same : List Str := ["_law_actual", "_law_due", "_law_one_here", "_law_other"]
theorem sc_law_same : FnScope ["_law_actual", "_law_due", "_law_one_here", "_law_other"] ["_law_actual", "_law_due"] (defScope s_law_same) := ⟨rfl, rfl, rfl, by decide +kernel, rfl, by decide +kernel, by decide +kernel⟩
def sp_law_same (n : Nat) : Sp := pureSp (rl_sameN (n + 1))
theorem ok_law_same (n k : Nat) (c_self : Cal P w K mg base "_law_same" k ["_law_actual", "_law_due"] (pureSp (rl_sameN n))) (B : Bl mg) (S : Stand K mg d_law_same) : Cal P w K mg base "_law_same" (k + 1) ["_law_actual", "_law_due"] (sp_law_same n) := by
  refine cal_mk S sc_law_same (pure_len (fun ds d h => by obtain ⟨_, rfl, _⟩ := h <;> rfl)) (fun _ _ _ _ _ _ us hl => match us, hl with | [_, _], _ => rfl) (fun f cdv A outer sh H vs Q E hr h => ?_)
  obtain ⟨W, rfl, s, ds, dd, hv, hR, q⟩ := h
  obtain ⟨e, rfl, hS, rfl⟩ := hR
  obtain ⟨v0, v1, rfl, h0, h1⟩ := hv.inv2
  refine ⟨_, (pss_cons (ps_if (pt_val (pe_callB (kIsi (K := K) rfl) (by rfl) B.z_isinstance (by decide +kernel) (pa_cons (pv 1) (pa_cons (pe_bltn (v := .ty "tuple") (by rfl) B.z_tuple (by decide +kernel) rfl) pa_nil))))
      (pss_cons (ps_if (PW.pt (pw_or (pt_not (pt_val (pe_callB (kIsi (K := K) rfl) (by rfl) B.z_isinstance (by decide +kernel) (pa_cons (pv 0) (pa_cons (pe_bltn (v := .ty "tuple") (by rfl) B.z_tuple (by decide +kernel) rfl) pa_nil))))) (pw_or1 (pt_cmpR op_ne (pe_callB (kLen (K := K) rfl) (by rfl) B.z_len (by decide +kernel) (pa_cons (pv 0) pa_nil)) (pe_callB (kLen (K := K) rfl) (by rfl) B.z_len (by decide +kernel) (pa_cons (pv 1) pa_nil)) (nomark _)))))
      (pss_one (ps_ret pe_bl))
      pss_nil)
      (pss_cons (ps_for PassesOwn.never rfl (RZ.pi_zipA (by rfl) B.z_zip (pa_cons (pv 0) (pa_cons (pv 1) pa_nil))) (kpg_tup (K := K) (n := 2) rfl rfl (pgs_cons (pg_name (i := 2) sc_law_same.nd rfl (.inl rfl)) (pgs_cons (pg_name (i := 3) sc_law_same.nd rfl (.inl rfl)) pgs_nil)))
      (pss_one (ps_if (pt_not (pt_val (pe_cal c_self hr (by rfl) (pa_cons (pv 2) (pa_cons (pv 3) pa_nil)))))
      (pss_one (ps_ret pe_bl))
      pss_nil)))
      (pss_one (ps_ret pe_bl))))
      pss_nil)
      (pss_cons (ps_if (pt_cmpR op_isN (pv 1) pe_non (nomark _))
      (pss_one (ps_ret (pe_cmpR op_isN (pv 0) pe_non (nomark _))))
      pss_nil)
      (pss_cons (ps_if (pt_val (pe_callB (kIsi (K := K) rfl) (by rfl) B.z_isinstance (by decide +kernel) (pa_cons (pv 1) (pa_cons (pe_bltn (v := .ty "str") (by rfl) B.z_str (by decide +kernel) rfl) pa_nil))))
      (pss_one (ps_ret (pe_and (pe_callB (kIsi (K := K) rfl) (by rfl) B.z_isinstance (by decide +kernel) (pa_cons (pv 0) (pa_cons (pe_bltn (v := .ty "str") (by rfl) B.z_str (by decide +kernel) rfl) pa_nil))) (pe_one (pe_cmpR op_eq (pv 0) (pv 1) (nomark _))))))
      pss_nil)
      (pss_one (ps_ret (pe_and (pe_callB (kIsi (K := K) rfl) (by rfl) B.z_isinstance (by decide +kernel) (pa_cons (pv 0) (pa_cons (pe_bltn (v := .ty "int") (by rfl) B.z_int (by decide +kernel) rfl) pa_nil))) (pe_and (pe_not (pe_callB (kIsi (K := K) rfl) (by rfl) B.z_isinstance (by decide +kernel) (pa_cons (pv 0) (pa_cons (pe_bltn (v := .ty "bool") (by rfl) B.z_bool (by decide +kernel) rfl) pa_nil)))) (pe_one (pe_cmpR op_eq (pv 0) (pv 1) (nomark _)))))))))), ?_⟩
  rcases hS.split with ⟨i, rfl⟩ | ⟨m, ds, rfl, rfl, hl, hS⟩
  · refine q_if s (b := false) (eb_B (ev_isi (ev_var rfl h1) kit_int_tuple)) (fun z => nomatch z) fun _ W1 e1 => ?_
    refine q_if e1.s (b := false) (eb_test (ev_isN (ev_var rfl (h1.mono e1.g)))) (fun z => nomatch z) fun _ W2 e2 => ?_
    have e12 := e1.trans e2
    refine q_if e2.s (b := false) (eb_B (ev_isi (ev_var rfl (h1.mono e12.g)) kit_int_str)) (fun z => nomatch z) fun _ W3 e3 => ?_
    have e13 := e12.trans e3
    have h03 := h0.mono e13.g
    have h13 := h1.mono e13.g
    refine st_ret e3.s (ev_is (ev_andV (ev_isi (ev_var rfl h03) kit_int_int) fun _ => ev_andV (ev_notV (ev_isi (ev_var rfl h03) kit_int_bool)) fun _ => ev_eqI (ev_var rfl h03) (ev_var rfl h13)) (congrArg PyData.bool ?_)) fun v W5 e5 hv => q v W5 (e13.trans e5) hv
    rw [decide_eq_true rfl]
    rfl
  · refine q_if s (b := true) (eb_B (ev_isi (ev_var rfl h1) kit_tuple_tuple)) (fun _ W1 e1 => ?_) (fun z => nomatch z)
    refine q_if e1.s (b := false) (eb_or (b := false) (c := false) (eb_not (b := true) (eb_B (ev_isi (ev_var rfl (h0.mono e1.g)) kit_tuple_tuple))) fun _ => eb_is (eb_test (ev_neI (ev_lenT (ev_var rfl (h0.mono e1.g))) (ev_lenT (ev_var rfl (h1.mono e1.g))))) (by rw [decide_eq_true rfl] <;> rfl)) (fun z => nomatch z) fun _ W2 e2 => ?_
    have e12 := e1.trans e2
    refine q_forZT e2.s (ev_var rfl (h0.mono e12.g)) (ev_var rfl (h1.mono e12.g)) fun W3 e3 => ⟨fun i σ' W' => ∃ y z : Option V, σ' = [some v0, some v1, y, z] ∧ W.le W', ⟨none, none, rfl, e12.trans e3⟩, ?_, ?_⟩
    · rintro i σ' W' x y d d' hd hd' g s' hx hy ⟨y0, z0, rfl, e⟩ W4 e4
      have ed : d = d' := Option.some.inj (hd.symm.trans hd')
      subst ed
      refine st_if e4.s (b := false) (eb_not (b := true) (eb_B (ev_call (ea_cons (ev_var rfl (hx.mono e4.g)) (ea_cons (ev_var rfl (hy.mono e4.g)) ea_nil)) ⟨d, rfl, hS d (List.mem_of_getElem? hd), rfl⟩))) (fun z => nomatch z) fun _ W5 e5 => ⟨W5, rfl, (g.trans e4.g).trans e5.g, e5.s, some x, some y, rfl, (e.trans e4).trans e5⟩
    · rintro σ' W' g s' ⟨y0, z0, rfl, e⟩
      exact st_ret s' ev_bl fun v W5 e5 hv => q v W5 (e.trans e5) hv
def rl_law_same : List PyData → PyData → Prop := fun ds d => ∃ e, ds = [e, e] ∧ SameOk 6 e ∧ d = .bool true
theorem same_all (B : Bl mg) (S : Stand K mg d_law_same) : Cal P w K mg base "_law_same" 8 ["_law_actual", "_law_due"] (pureSp rl_law_same) := by
  have c0 : Cal P w K mg base "_law_same" 1 ["_law_actual", "_law_due"] (pureSp (rl_sameN 0)) := by
    refine cal_mk S sc_law_same (pure_len (fun ds d h => h.elim)) (fun _ _ _ _ _ _ us hl => match us, hl with | [_, _], _ => rfl) (fun f cdv A outer sh H vs Q E hr h => ?_)
    obtain ⟨W, rfl, s, ds, dd, hv, hR, q⟩ := h
    exact hR.elim
  exact ok_law_same 6 7 (ok_law_same 5 6 (ok_law_same 4 5 (ok_law_same 3 4 (ok_law_same 2 3 (ok_law_same 1 2 (ok_law_same 0 1 c0 B S) B S) B S) B S) B S) B S) B S
/-! ### _law_gcd -/
abbrev sc_N_law_gcd : List Str := ["_law_one_here", "_law_other", "_law_k"]
theorem sc_law_gcd : FnScope ["_law_one_here", "_law_other", "_law_k"] ["_law_one_here", "_law_other"] (defScope s_law_gcd) := ⟨rfl, rfl, rfl, by decide +kernel, rfl, by decide +kernel, by decide +kernel⟩
def rl_law_gcd : List PyData → PyData → Prop := fun ds d => ∃ k : Int, ds = [.int k, .int 2688840] ∧ d = .int (gk k : Int)
theorem ok_law_gcd (B : Bl mg) (S : Stand K mg d_law_gcd) : Cal P w K mg base "_law_gcd" 1 ["_law_one_here", "_law_other"] (pureSp rl_law_gcd) := by
  refine cal_mk S sc_law_gcd (pure_len (fun ds d h => by obtain ⟨_, rfl, _⟩ := h <;> rfl)) (fun _ _ _ _ _ _ us hl => match us, hl with | [_, _], _ => rfl) (fun f cdv A outer sh H vs Q E hr h => ?_)
  obtain ⟨W, rfl, s, ds, dd, hv, hR, q⟩ := h
  obtain ⟨k, rfl, rfl⟩ := hR
  obtain ⟨v0, v1, rfl, h0, h1⟩ := hv.inv2
  refine ⟨_, (pss_cons (ps_set (i := 0) sc_law_gcd.nd rfl (.inl rfl) (pe_callB call_abs (by rfl) B.z_abs (by decide +kernel) (pa_cons (pv 0) pa_nil)))
      (pss_cons (ps_for PassesOwn.never rfl (pi_range1 (by rfl) B.z_range (pa_cons pe_int pa_nil)) (pg_name (i := 2) sc_law_gcd.nd rfl (.inl rfl))
      (pss_cons (ps_if (pt_cmpR op_eq (pv 1) pe_int (nomark _))
      (pss_one ps_break)
      pss_nil)
      (pss_one (ps_par rfl sc_law_gcd.nd (i := 0) (j := 1) rfl rfl (by decide) rfl rfl (pa_cons (pv 1) (pa_cons (pe_op op_mod (pe_callTy call_int1 (by rfl) B.z_int (by decide +kernel) (pa_cons (pv 0) pa_nil)) (pv 1)) pa_nil)) (by rfl)))))
      (pss_one (ps_ret (pv 0))))), ?_⟩
  cases h1
  refine q_asg s (ev_is (ev_abs (ev_var rfl h0)) (congrArg PyData.int (show (if k < 0 then -k else k) = ((k.natAbs : Nat) : Int) by split <;> omega))) fun v W1 e1 k1 => ?_
  cases k1
  refine q_forR (m := 400) e1.s (by decide) ev_int fun W2 e2 => ⟨fun i σ' W' => ∃ (a b : Nat) (y : Option V), σ' = [some (.int (a : Int)), some (.int (b : Int)), y] ∧ W.le W' ∧ i ≤ 400 ∧ euc (400 - i) a b = gk k,
    ⟨k.natAbs, 2688840, none, rfl, e1.trans e2, by omega, euc400 _⟩, ?_, ?_⟩
  · rintro i σ' W' hi g s' ⟨a, b, y, rfl, e, _, he⟩
    refine q_if s' (eb_test (ev_eqI (ev_var rfl (.int _)) ev_int)) (fun hb W3 e3 => ?_) (fun hb W3 e3 => ?_)
    · have hb' := of_decide_eq_true hb
      have b0 : b = 0 := by omega
      subst b0
      rw [euc_zero] at he
      rw [← he] at q
      exact st_ret (te := tVar 0) e3.s (ev_var rfl (.int _)) fun v W5 e5 hv => q v W5 ((e.trans e3).trans e5) hv
    · have hb' := of_decide_eq_false hb
      refine st_par (d1 := .int (b : Int)) (d2 := .int ((a % b : Nat) : Int)) e3.s (ea_cons (ev_var rfl (.int _)) (ea_cons (ev_is (ev_opC (i := (a : Int)) (j := (b : Int)) (C := fun _ j => 0 < j) (f := fun i j => i % j) (show 0 < (b : Int) by omega) (ev_int1 (ev_var rfl (.int _))) (ev_var rfl (.int _))) (congrArg PyData.int (Int.natCast_emod a b).symm)) ea_nil)) fun v w' W4 e4 kv kw => ?_
      cases kv
      cases kw
      refine ⟨W4, rfl, (g.trans e3.g).trans e4.g, e4.s, b, a % b, some (.int (i : Int)), rfl, (e.trans e3).trans e4, by omega, ?_⟩
      rw [show 400 - i = (400 - (i + 1)) + 1 by omega] at he
      have e1 : euc ((400 - (i + 1)) + 1) a b = if b = 0 then a else euc (400 - (i + 1)) b (a % b) := rfl
      rw [e1, if_neg (by omega)] at he
      exact he
  · rintro σ' W' g s' ⟨a, b, y, rfl, e, _, he⟩
    have he' : a = gk k := he
    rw [← he'] at q
    exact st_ret s' (ev_var rfl (.int _)) fun v W5 e5 hv => q v W5 (e.trans e5) hv
/-! ### _law_value -/
abbrev sc_N_law_value : List Str := ["_law_key", "_law_scale", "_law_shared"]
theorem sc_law_value : FnScope ["_law_key", "_law_scale", "_law_shared"] ["_law_key"] (defScope s_law_value) := ⟨rfl, rfl, rfl, by decide +kernel, rfl, by decide +kernel, by decide +kernel⟩
def rl_law_value : List PyData → PyData → Prop := fun ds d => ∃ k : Int, ds = [.int k] ∧ d = frac k
theorem ok_law_value (B : Bl mg) (S : Stand K mg d_law_value) (c_law_gcd : Cal P w K mg base "_law_gcd" 1 ["_law_one_here", "_law_other"] (pureSp rl_law_gcd)) : Cal P w K mg base "_law_value" 2 ["_law_key"] (pureSp rl_law_value) := by
  refine cal_mk S sc_law_value (pure_len (fun ds d h => by obtain ⟨_, rfl, _⟩ := h <;> rfl)) (fun _ _ _ _ _ _ us hl => match us, hl with | [_], _ => rfl) (fun f cdv A outer sh H vs Q E hr h => ?_)
  obtain ⟨W, rfl, s, ds, dd, hv, hR, q⟩ := h
  obtain ⟨k, rfl, rfl⟩ := hR
  obtain ⟨v0, rfl, h0⟩ := hv.inv1
  refine ⟨_, (pss_cons (ps_set (i := 1) sc_law_value.nd rfl (.inl rfl) pe_int)
      (pss_cons (ps_set (i := 2) sc_law_value.nd rfl (.inl rfl) (pe_cal c_law_gcd (hr.mono (by decide)) (by rfl) (pa_cons (pv 0) (pa_cons (pv 1) pa_nil))))
      (pss_one (ps_ret (pe_tup (pa_cons (pe_op op_fdiv (pv 0) (pv 2)) (pa_cons (pe_op op_fdiv (pv 1) (pv 2)) pa_nil))))))), ?_⟩
  refine q_asg s ev_int fun v W1 e1 k1 => ?_
  cases k1
  refine q_asg e1.s (ev_call (ea_cons (ev_var rfl (h0.mono e1.g)) (ea_cons (ev_var rfl (.int _)) ea_nil)) ⟨k, rfl, rfl⟩) fun v W2 e2 k2 => ?_
  cases k2
  have hg : 0 < (gk k : Int) ∧ (gk k : Int) < 1073741824 := by
    have h1 := gk_posI k
    have h2 : gk k ≤ 2688840 := Nat.gcd_le_right _ (by decide)
    omega
  exact st_ret e2.s (ev_tup (ea_cons (ev_opC (f := fun i j => i / j) hg (ev_var rfl (h0.mono (e1.trans e2).g)) (ev_var rfl (.int _))) (ea_cons (ev_opC (f := fun i j => i / j) hg (ev_var rfl (.int _)) (ev_var rfl (.int _))) ea_nil)) (by show 2 ≤ 100000; decide)) fun v W5 e5 hv => q v W5 ((e1.trans e2).trans e5) hv
/-! ### _law_ends -/
abbrev sc_N_law_ends : List Str := ["_law_marks", "_law_many", "_law_key", "_law_side", "_law_low", "_law_mark"]
theorem sc_law_ends : FnScope ["_law_marks", "_law_many", "_law_key", "_law_side", "_law_low", "_law_mark"] ["_law_marks", "_law_many", "_law_key", "_law_side"] (defScope s_law_ends) := ⟨rfl, rfl, rfl, by decide +kernel, rfl, by decide +kernel, by decide +kernel⟩
def rl_law_ends : List PyData → PyData → Prop := fun ds d => ∃ (ms : List Mk) (many key : Int) (up : Bool), ds = [.list (ms.map lmD), .int many, .int key, .int (sideI up)] ∧ ms.length ≤ 1000 ∧ d = pairD (endsL many key up 0 ms)
theorem ok_law_ends (B : Bl mg) (S : Stand K mg d_law_ends) : Cal P w K mg base "_law_ends" 1 ["_law_marks", "_law_many", "_law_key", "_law_side"] (pureSp rl_law_ends) := by
  refine cal_mk S sc_law_ends (pure_len (fun ds d h => by obtain ⟨_, _, _, _, rfl, _⟩ := h <;> rfl)) (fun _ _ _ _ _ _ us hl => match us, hl with | [_, _, _, _], _ => rfl) (fun f cdv A outer sh H vs Q E hr h => ?_)
  obtain ⟨W, rfl, s, ds, dd, hv, hR, q⟩ := h
  obtain ⟨ms, many, key, up, rfl, hz, rfl⟩ := hR
  obtain ⟨v0, v1, v2, v3, rfl, h0, h1, h2, h3⟩ := hv.inv4
  refine ⟨_, (pss_cons (ps_set (i := 4) sc_law_ends.nd rfl (.inl rfl) pe_int)
      (pss_cons (ps_for PassesOwn.never rfl (kpi_list (K := K) rfl (pv 0)) (pg_name (i := 5) sc_law_ends.nd rfl (.inl rfl))
      (pss_cons (ps_if (pt_cmpR op_eq (pe_ix (kIxT (K := K) rfl) (pv 5) pe_int (fun _ _ => rfl)) (pv 2) (nomark _))
      (pss_one (ps_ret (pe_tup (pa_cons (pe_ix (kIxT (K := K) rfl) (pv 5) (pe_op op_add pe_int (pe_op op_mul pe_int (pv 3))) (fun _ _ => rfl)) (pa_cons (pe_ix (kIxT (K := K) rfl) (pv 5) (pe_op op_add pe_int (pe_op op_mul pe_int (pv 3))) (fun _ _ => rfl)) pa_nil)))))
      pss_nil)
      (pss_cons (ps_if (pt_cmpR op_gt (pe_ix (kIxT (K := K) rfl) (pv 5) pe_int (fun _ _ => rfl)) (pv 2) (nomark _))
      (pss_one (ps_ret (pe_tup (pa_cons (pv 4) (pa_cons (pe_ix (kIxT (K := K) rfl) (pv 5) pe_int (fun _ _ => rfl)) pa_nil)))))
      pss_nil)
      (pss_one (ps_set (i := 4) sc_law_ends.nd rfl (.inl rfl) (pe_ix (kIxT (K := K) rfl) (pv 5) pe_int (fun _ _ => rfl)))))))
      (pss_one (ps_ret (pe_tup (pa_cons (pv 4) (pa_cons (pv 1) pa_nil))))))), ?_⟩
  have hl : (ms.map lmD).length = ms.length := List.length_map _
  refine q_asg s ev_int fun v W1 e1 k1 => ?_
  cases k1
  refine q_forL e1.s (ev_var rfl (h0.mono e1.g)) fun W2 e2 => ⟨fun i σ' W' => ∃ (low : Int) (y : Option V), σ' = [some v0, some v1, some v2, some v3, some (.int low), y] ∧ W.le W' ∧ endsL many key up low (ms.drop i) = endsL many key up 0 ms, ⟨0, none, rfl, e1.trans e2, rfl⟩, ?_, ?_⟩
  · rintro i σ' W' x d hd g s' hx ⟨low, y, rfl, e, hE⟩
    obtain ⟨m, hm, rfl⟩ := map_at hd
    rw [drop_cons hm] at hE
    refine q_if s' (eb_test (ev_eqI (ev_ixT (ds := [.int m.k, .int m.a, .int m.b, .int m.c, .int m.d]) rfl (ev_var rfl hx) ev_int) (ev_var rfl (h2.mono e.g)))) (fun hb W3 e3 => ?_) (fun hb W3 e3 => ?_)
    · rw [endsL_at (of_decide_eq_true hb)] at hE
      rw [← hE] at q
      have hx3 := hx.mono e3.g
      have h33 := h3.mono (e.trans e3).g
      refine st_ret e3.s (d := pairD (m.at_ up)) (ev_tup (ea_cons (d := .int (m.at_ up).1) (ev_ixT (i := 1 + 2 * sideI up) (ds := [.int m.k, .int m.a, .int m.b, .int m.c, .int m.d]) ?_ (ev_var rfl hx3) (ev_opI (f := fun i j => i + j) ev_int (ev_mulL ⟨by decide, by decide⟩ ev_int (ev_var rfl h33)))) (ea_cons (d := .int (m.at_ up).2) (ev_ixT (i := 2 + 2 * sideI up) (ds := [.int m.k, .int m.a, .int m.b, .int m.c, .int m.d]) ?_ (ev_var rfl hx3) (ev_opI (f := fun i j => i + j) ev_int (ev_mulL ⟨by decide, by decide⟩ ev_int (ev_var rfl h33)))) ea_nil)) (by show 2 ≤ 100000; decide)) fun v W5 e5 hv => q v W5 ((e.trans e3).trans e5) hv
      · cases up <;> rfl
      · cases up <;> rfl
    · have c := of_decide_eq_false hb
      have hx3 := hx.mono e3.g
      have e03 := e.trans e3
      refine q_if e3.s (eb_test (ev_opB (ev_ixT (ds := [.int m.k, .int m.a, .int m.b, .int m.c, .int m.d]) rfl (ev_var rfl hx3) ev_int) (ev_var rfl (h2.mono e03.g)))) (fun hb W4 e4 => ?_) (fun hb W4 e4 => ?_)
      · rw [endsL_gt (of_decide_eq_true hb)] at hE
        rw [← hE] at q
        exact st_ret e4.s (ev_tup (ea_cons (ev_var rfl (.int _)) (ea_cons (ev_ixT (ds := [.int m.k, .int m.a, .int m.b, .int m.c, .int m.d]) rfl (ev_var rfl (hx3.mono e4.g)) ev_int) ea_nil)) (by show 2 ≤ 100000; decide)) fun v W5 e5 hv => q v W5 ((e03.trans e4).trans e5) hv
      · have c2 := of_decide_eq_false hb
        rw [endsL_lt (by omega)] at hE
        refine st_asg e4.s (d := .int m.c) (ev_ixT (ds := [.int m.k, .int m.a, .int m.b, .int m.c, .int m.d]) rfl (ev_var rfl (hx3.mono e4.g)) ev_int) fun v W5 e5 kv => ?_
        cases kv
        exact ⟨W5, rfl, ((g.trans e3.g).trans e4.g).trans e5.g, e5.s, m.c, some x, rfl, (e03.trans e4).trans e5, hE⟩
  · rintro σ' W' g s' ⟨low, y, rfl, e, hE⟩
    rw [hl, List.drop_length] at hE
    rw [← hE] at q
    exact st_ret s' (ev_tup (ea_cons (ev_var rfl (.int _)) (ea_cons (ev_var rfl (h1.mono e.g)) ea_nil)) (by show 2 ≤ 100000; decide)) fun v W5 e5 hv => q v W5 (e.trans e5) hv
/-! ### _law_exact -/
abbrev sc_N_law_exact : List Str := ["_law_keys", "_law_counts", "_law_key", "_law_found", "_law_below", "_law_up"]
theorem sc_law_exact : FnScope ["_law_keys", "_law_counts", "_law_key", "_law_found", "_law_below", "_law_up"] ["_law_keys"] (defScope s_law_exact) := ⟨rfl, rfl, rfl, by decide +kernel, rfl, by decide +kernel, by decide +kernel⟩
def rl_law_exact : List PyData → PyData → Prop := fun ds d => ∃ ks : List Int, ds = [.list (ks.map .int)] ∧ ks.length ≤ 1000 ∧ d = .list ((exact_ ks).map lmD)
theorem ok_law_exact (B : Bl mg) (S : Stand K mg d_law_exact) : Cal P w K mg base "_law_exact" 1 ["_law_keys"] (pureSp rl_law_exact) := by
  refine cal_mk S sc_law_exact (pure_len (fun ds d h => by obtain ⟨_, rfl, _⟩ := h <;> rfl)) (fun _ _ _ _ _ _ us hl => match us, hl with | [_], _ => rfl) (fun f cdv A outer sh H vs Q E hr h => ?_)
  obtain ⟨W, rfl, s, ds, dd, hv, hR, q⟩ := h
  obtain ⟨ks, rfl, hz, rfl⟩ := hR
  obtain ⟨v0, rfl, h0⟩ := hv.inv1
  refine ⟨_, (pss_cons (ps_set (i := 1) sc_law_exact.nd rfl (.inl rfl) pe_dnewK)
      (pss_cons (ps_for PassesOwn.never rfl (kpi_list (K := K) rfl (pv 0)) (pg_name (i := 2) sc_law_exact.nd rfl (.inl rfl))
      (pss_one (ps_dput (hu_of hr) (pv 1) (pv 2) (pe_op op_add (pe_dget2 (hu_of hr) (pv 1) (pv 2) pe_int ⟨rfl, rfl, rfl, rfl⟩) pe_int) rfl)))
      (pss_cons (ps_set (i := 3) sc_law_exact.nd rfl (.inl rfl) (pe_lst pa_nil))
      (pss_cons (ps_set (i := 4) sc_law_exact.nd rfl (.inl rfl) pe_int)
      (pss_cons (ps_for PassesOwn.never rfl (kpi_list (K := K) rfl (pe_callB (cr_sortedDI rfl) (by rfl) B.z_sorted (by decide +kernel) (pa_cons (pv 1) pa_nil))) (pg_name (i := 2) sc_law_exact.nd rfl (.inl rfl))
      (pss_cons (ps_set (i := 5) sc_law_exact.nd rfl (.inl rfl) (pe_op op_add (pv 4) (pe_dget (hu_of hr) (pv 1) (pv 2) (fun _ _ => rfl))))
      (pss_cons (ps_expr (kBM (K := K) rfl (pe_bm PySem.F.plainAttrs_list PySem.F.slot_list_append PySem.F.type_list_append mt_append (pv 3) (pa_cons (pe_tup (pa_cons (pv 2) (pa_cons (pv 4) (pa_cons (pv 4) (pa_cons (pv 5) (pa_cons (pv 5) pa_nil)))))) pa_nil))))
      (pss_one (ps_set (i := 4) sc_law_exact.nd rfl (.inl rfl) (pv 5))))))
      (pss_one (ps_ret (pv 3)))))))), ?_⟩
  refine q_newK fun l hl => ?_
  have a0 : AccD W (W.set l (.dK [])) l [] (fun j => .int (([] : List Int).count j : Int)) := AccD.start (.refl s) hl
  refine q_forL a0.le.s (ev_var rfl (h0.mono a0.le.g)) fun W1 e1 => ⟨fun i σ' W' => ∃ y : Option V, σ' = [some v0, some (.ref l), y, none, none, none] ∧ AccD W W' l ((ks.take i).foldl insK []) (fun j => .int ((ks.take i).count j : Int)), ⟨none, rfl, a0.mono e1⟩, ?_, ?_⟩
  · rintro i σ' W' x d hd g s' hx ⟨y, rfl, a⟩
    obtain ⟨k, hk, rfl⟩ := map_at hd
    have hi := (List.getElem?_eq_some_iff.mp hk).1
    have ht := take_snoc hk
    have hlen := len_ins (ks.take i) []
    rw [List.length_take] at hlen
    have z0 : ([] : List Int).length = 0 := rfl
    refine st_dputI a rfl (by omega) (ev_var rfl hx) (ev_opI (f := fun i j => i + j) (ev_dget2K (c := ((ks.take i).count k : Int)) a rfl (ev_var rfl hx) ev_int (fun _ => rfl) (fun hn => ?_)) ev_int) fun W3 o e3 a3 => ?_
    · rw [mem_ins] at hn
      rw [List.count_eq_zero.mpr fun hm => hn (.inr hm)]
      rfl
    · refine ⟨W3.set l o, rfl, g.trans e3.g, a3.le.s, some x, rfl, ?_⟩
      rw [ht, List.foldl_append]
      have hf : (fun j => V.int ((ks.take i ++ [k]).count j : Int)) = fun j => if j = k then V.int (((ks.take i).count k : Int) + 1) else V.int ((ks.take i).count j : Int) := by
        funext j
        rw [List.count_append, List.count_singleton]
        by_cases c : j = k
        · subst c
          simp
        · have c2 : (k == j) = false := by simpa using Ne.symm c
          rw [c2, if_neg c]
          rfl
      rw [hf]
      exact a3
  · rintro σ' W' g s' ⟨y, rfl, a⟩
    rw [List.length_map, List.take_length] at a
    refine q_newL fun l2 hl2 => ?_
    have ne : l ≠ l2 := fun c => a.live (c ▸ hl2)
    have hl2W : W.H l2 = none := a.le.h.back hl2
    have b1 : Acc W (W'.set l2 (.lst [])) l2 [] := Acc.start a.le hl2
    have a1 : AccD W (W'.set l2 (.lst [])) l (ks.foldl insK []) (fun j => .int (ks.count j : Int)) := a.other hl2W b1.out ne
    refine q_asg a1.le.s ev_int fun v W2 e2 k2 => ?_
    cases k2
    have a2 := a1.mono e2
    have b2 := b1.mono e2
    refine q_forL e2.s (ev_sortedK a2 rfl) fun W3 e3 => ⟨fun i σ' W' => ∃ (F : List Mk) (below : Int) (y z : Option V), σ' = [some v0, some (.ref l), y, some (.ref l2), some (.int below), z] ∧ AccD W W' l (ks.foldl insK []) (fun j => .int (ks.count j : Int)) ∧ Acc W W' l2 (F.map lmD) ∧ F.length ≤ i ∧ F ++ exL ks below ((srt (ks.foldl insK [])).drop i) = exact_ ks,
      ⟨[], 0, y, none, rfl, a2.mono e3, b2.mono e3, Nat.zero_le _, ?_⟩, ?_, ?_⟩
    · refine exL_exact ks _ (srt_sorted _) ((srt_perm _).nodup_iff.mpr (nd_ins .nil)) fun x => ?_
      rw [List.drop_zero, mem_srt, mem_ins]
      simp
    · rintro i σ' W' x d hd g s' hx ⟨F, below, y, z, rfl, a, b, hF, hE⟩
      obtain ⟨k, hk, rfl⟩ := map_at hd
      cases hx
      rw [drop_cons hk] at hE
      have hmem : k ∈ ks.foldl insK [] := mem_srt.mp (List.mem_of_getElem? hk)
      have hi := (List.getElem?_eq_some_iff.mp hk).1
      have hlen := len_ins ks []
      rw [srt_length] at hi
      have z0 : ([] : List Int).length = 0 := rfl
      refine q_asg s' (d := .int (below + (ks.count k : Int))) (ev_opI (f := fun i j => i + j) (ev_var rfl (.int _)) (ev_dgetK a rfl (ev_var rfl (.int _)) hmem rfl)) fun v W4 e4 k4 => ?_
      cases k4
      have a4 := a.mono e4
      refine q_appA (d := lmD ⟨k, below, below, below + (ks.count k : Int), below + (ks.count k : Int)⟩) (b.mono e4) rfl (by rw [List.length_map]; omega) (ev_tup (ea_cons (ev_var rfl (.int _)) (ea_cons (ev_var rfl (.int _)) (ea_cons (ev_var rfl (.int _)) (ea_cons (ev_var rfl (.int _)) (ea_cons (ev_var rfl (.int _)) ea_nil))))) (by show 5 ≤ 100000; decide)) fun W5 o e5 b5 => ?_
      have a5 := (a4.mono e5).other (o := o) hl2W (by have := b5.out; exact this) ne
      refine st_asg b5.le.s (ev_var rfl (.int _)) fun v W6 e6 k6 => ?_
      cases k6
      refine ⟨W6, rfl, ((g.trans e4.g).trans e5.g).trans e6.g, e6.s, F ++ [⟨k, below, below, below + (ks.count k : Int), below + (ks.count k : Int)⟩], below + (ks.count k : Int), _, _, rfl, a5.mono e6, ?_, ?_, ?_⟩
      · rw [List.map_append]
        exact b5.mono e6
      · rw [List.length_append, List.length_singleton]
        omega
      · rw [← hE, List.append_assoc]
        rfl
    · rintro σ' W' g s' ⟨F, below, y, z, rfl, a, b, hF, hE⟩
      rw [List.length_map, List.drop_length] at hE
      have hE' : F = exact_ ks := by rw [← hE]; exact (List.append_nil F).symm
      obtain ⟨o, e4, hd, hg, _⟩ := b.frz
      rw [hE'] at hd
      exact st_ret (W := W'.frz l2 o) e4.s (ev_var rfl hd) fun v W5 e5 hv => q v W5 (e4.trans e5) hv
end
end K22
namespace K22
open PySem PySem.Spec PyProof.Rows L2
section
variable {P : Program} {w : World} {K : PySem.W.Frag} {mg : Str → Option Value} {base : Heap}
/-! ### _law_steps -/
abbrev sc_N_law_steps : List Str := ["_law_marks", "_law_many", "_law_most", "_law_kept", "_law_last", "_law_held_here", "_law_mark"]
theorem sc_law_steps : FnScope ["_law_marks", "_law_many", "_law_most", "_law_kept", "_law_last", "_law_held_here", "_law_mark"] ["_law_marks", "_law_many", "_law_most"] (defScope s_law_steps) := ⟨rfl, rfl, rfl, by decide +kernel, rfl, by decide +kernel, by decide +kernel⟩
def rl_law_steps : List PyData → PyData → Prop := fun ds d => ∃ (ms : List Mk) (many most : Int), ds = [.list (ms.map lmD), .int many, .int most] ∧ ms.length ≤ 1000 ∧ d = lkeptD (steps many most 0 none ms)
theorem ok_law_steps (B : Bl mg) (S : Stand K mg d_law_steps) : Cal P w K mg base "_law_steps" 1 ["_law_marks", "_law_many", "_law_most"] (pureSp rl_law_steps) := by
  refine cal_mk S sc_law_steps (pure_len (fun ds d h => by obtain ⟨_, _, _, rfl, _⟩ := h <;> rfl)) (fun _ _ _ _ _ _ us hl => match us, hl with | [_, _, _], _ => rfl) (fun f cdv A outer sh H vs Q E hr h => ?_)
  obtain ⟨W, rfl, s, ds, dd, hv, hR, q⟩ := h
  obtain ⟨ms, many, most, rfl, hz, rfl⟩ := hR
  obtain ⟨v0, v1, v2, rfl, h0, h1, h2⟩ := hv.inv3
  refine ⟨_, (pss_cons (ps_set (i := 3) sc_law_steps.nd rfl (.inl rfl) (pe_lst pa_nil))
      (pss_cons (ps_set (i := 4) sc_law_steps.nd rfl (.inl rfl) pe_int)
      (pss_cons (ps_set (i := 5) sc_law_steps.nd rfl (.inl rfl) pe_non)
      (Evl.pss_cut (ps_for PassesOwn.never rfl (kpi_list (K := K) rfl (pv 0)) (pg_name (i := 6) sc_law_steps.nd rfl (.inl rfl))
      (pss_cons (ps_if (pt_cmpR op_le (pe_op op_sub (pv 1) (pv 4)) (pv 2) (nomark _))
      (pss_one ps_break)
      pss_nil)
      (Evl.pss_cut (ps_if (PW.pt (pw_and (pt_cmpR op_notN (pv 5) pe_non (nomark _)) (pw_and1 (pt_cmpR op_gt (pe_op op_sub (pe_ix (kIxT (K := K) rfl) (pv 6) pe_int (fun _ _ => rfl)) (pv 4)) (pv 2) (nomark _)))))
      (pss_cons (ps_expr (kBM (K := K) rfl (pe_bm PySem.F.plainAttrs_list PySem.F.slot_list_append PySem.F.type_list_append mt_append (pv 3) (pa_cons (pv 5) pa_nil))))
      (pss_cons (ps_set (i := 4) sc_law_steps.nd rfl (.inl rfl) (pe_ix (kIxT (K := K) rfl) (pv 5) pe_int (fun _ _ => rfl)))
      (pss_cons (ps_set (i := 5) sc_law_steps.nd rfl (.inl rfl) pe_non)
      (pss_one (ps_if (pt_cmpR op_le (pe_op op_sub (pv 1) (pv 4)) (pv 2) (nomark _))
      (pss_one ps_break)
      pss_nil)))))
      pss_nil)
      (pss_cons (ps_if (pt_cmpR op_gt (pe_op op_sub (pe_ix (kIxT (K := K) rfl) (pv 6) pe_int (fun _ _ => rfl)) (pv 4)) (pv 2) (nomark _))
      (pss_one (ps_ret pe_non))
      pss_nil)
      (pss_one (ps_set (i := 5) sc_law_steps.nd rfl (.inl rfl) (pv 6)))))))
      (Evl.pss_cut (ps_if (PW.pt (pw_and (pt_cmpR op_gt (pe_op op_sub (pv 1) (pv 4)) (pv 2) (nomark _)) (pw_and1 (pt_cmpR op_notN (pv 5) pe_non (nomark _)))))
      (pss_cons (ps_expr (kBM (K := K) rfl (pe_bm PySem.F.plainAttrs_list PySem.F.slot_list_append PySem.F.type_list_append mt_append (pv 3) (pa_cons (pv 5) pa_nil))))
      (pss_one (ps_set (i := 4) sc_law_steps.nd rfl (.inl rfl) (pe_ix (kIxT (K := K) rfl) (pv 5) pe_int (fun _ _ => rfl)))))
      pss_nil)
      (pss_cons (ps_if (pt_cmpR op_gt (pe_op op_sub (pv 1) (pv 4)) (pv 2) (nomark _))
      (pss_one (ps_ret pe_non))
      pss_nil)
      (pss_one (ps_ret (pv 3))))))))), ?_⟩
  cases h1
  cases h2
  have hl : (ms.map lmD).length = ms.length := List.length_map _
  have hN : ∀ o : Option Mk, isNon (optD lmD o) = o.isNone := isNon_optD fun _ => rfl
  refine q_newL fun l hl' => ?_
  have a0 : Acc W (W.set l (.lst [])) l [] := Acc.start (.refl s) hl'
  refine q_asg a0.le.s ev_int fun v4 W1 e1 k4 => ?_
  cases k4
  refine q_asg e1.s ev_non fun v5 W2 e2 k5 => ?_
  have a2 := (a0.mono e1).mono e2
  have tleft : ∀ (last : Int) (y z : Option V) (W' : Wd), EvD (tOp (rI0 fun i j => .int (i - j)) (tVar 1) (tVar 4)) [some v0, some (.int many), some (.int most), some (.ref l), some (.int last), y, z] W' (.int (many - last)) := fun last y z W' =>
    ev_opI (f := fun i j => i - j) (ev_var rfl (.int _)) (ev_var rfl (.int _))
  have tgap : ∀ (m : Mk) (last : Int) (x : V) (y : Option V) (W' : Wd), Dq W'.G x (lmD m) → EvD (tOp (rI0 fun i j => .int (i - j)) (tOp (rIxT K) (tVar 6) (tC (.int 2))) (tVar 4)) [some v0, some (.int many), some (.int most), some (.ref l), some (.int last), y, some x] W' (.int (m.b - last)) := fun m last x y W' hx =>
    ev_opI (f := fun i j => i - j) (ev_ixT (ds := [.int m.k, .int m.a, .int m.b, .int m.c, .int m.d]) rfl (ev_var rfl hx) ev_int) (ev_var rfl (.int _))
  refine ⟨fun σ' H' => ∃ (W' : Wd) (F : List Mk) (last : Int) (held : Option Mk) (hv : V) (y : Option V), H' = W'.H ∧ σ' = [some v0, some (.int many), some (.int most), some (.ref l), some (.int last), some hv, y] ∧ Acc W W' l (F.map lmD) ∧ F.length ≤ ms.length ∧ Dq W'.G hv (optD lmD held) ∧ (steps many most last held []).map (F ++ ·) = steps many most 0 none ms, ?_, ?_⟩
  · refine st_forL e2.s (ev_var rfl (h0.mono a2.le.g)) fun W3 e3 => ⟨fun i σ' W' => ∃ (F : List Mk) (last : Int) (held : Option Mk) (hv : V) (y : Option V), σ' = [some v0, some (.int many), some (.int most), some (.ref l), some (.int last), some hv, y] ∧ Acc W W' l (F.map lmD) ∧ F.length ≤ i ∧ Dq W'.G hv (optD lmD held) ∧ (steps many most last held (ms.drop i)).map (F ++ ·) = steps many most 0 none ms,
      ⟨[], 0, none, v5, none, rfl, a2.mono e3, Nat.le_refl _, k5.mono e3.g, by rw [List.drop_zero]; cases steps many most 0 none ms <;> rfl⟩, ?_, ?_⟩
    · rintro i σ' W' x d hd g s' hx ⟨F, last, held, hv, y, rfl, a, hF, hh, hS⟩
      obtain ⟨m, hm, rfl⟩ := map_at hd
      have hi := (List.getElem?_eq_some_iff.mp hm).1
      rw [drop_cons hm] at hS
      refine q_if s' (eb_test (ev_opB (tleft last _ _ W') (ev_var rfl (.int _)))) (fun hb W4 e4 => ?_) (fun hb W4 e4 => ?_)
      · have c := of_decide_eq_true hb
        rw [steps_done c] at hS
        exact ⟨W4, F, last, held, hv, some x, rfl, rfl, a.mono e4, by omega, hh.mono e4.g, by rw [steps_done c]; exact hS⟩
      · have c := of_decide_eq_false hb
        have a4 := a.mono e4
        have hx4 := hx.mono e4.g
        have hh4 := hh.mono e4.g
        refine ⟨fun σ2 H2 => ∃ (W5 : Wd) (F : List Mk) (last : Int) (held : Option Mk) (hv : V), H2 = W5.H ∧ σ2 = [some v0, some (.int many), some (.int most), some (.ref l), some (.int last), some hv, some x] ∧ Acc W W5 l (F.map lmD) ∧ F.length ≤ i + 1 ∧ Dq W5.G hv (optD lmD held) ∧ Dq W5.G x (lmD m) ∧ Ex W4.G W5.G ∧
          (steps many most last held (m :: ms.drop (i + 1))).map (F ++ ·) = steps many most 0 none ms ∧ ¬ many - last ≤ most ∧ (held = none ∨ m.b - last ≤ most), ?_, ?_⟩
        · cases held with
          | none =>
            refine st_if e4.s (b := false) (eb_and (b := false) (c := false) (eb_test (ev_notN (ev_var rfl hh4))) fun z => nomatch z) (fun z => nomatch z) fun _ W5 e5 => ?_
            exact ⟨W5, F, last, none, hv, rfl, rfl, a4.mono e5, by omega, hh4.mono e5.g, hx4.mono e5.g, e5.g, hS, c, .inl rfl⟩
          | some h0 =>
            refine st_if e4.s (b := decide (most < m.b - last)) (eb_is (eb_and (b := true) (eb_test (ev_notN (ev_var rfl hh4))) fun _ => eb_test (ev_opB (tgap m last x _ W4 hx4) (ev_var rfl (.int _)))) (Bool.true_and _)) (fun hb W5 e5 => ?_) fun hb W5 e5 => ?_
            · have c2 := of_decide_eq_true hb
              have hh5 := hh4.mono e5.g
              rw [steps_keep c fun m' r e => by cases e; omega] at hS
              refine q_appA (a4.mono e5) rfl (by rw [List.length_map]; omega) (ev_var rfl hh5) fun W6 o e6 a6 => ?_
              refine q_asg a6.le.s (d := .int h0.c) (ev_ixT (ds := [.int h0.k, .int h0.a, .int h0.b, .int h0.c, .int h0.d]) rfl (ev_var rfl (hh5.mono e6.g)) ev_int) fun v W7 e7 kv => ?_
              cases kv
              refine q_asg e7.s ev_non fun v W8 e8 kv => ?_
              have a8 := (a6.mono e7).mono e8
              have ea : (F.map lmD ++ [optD lmD (some h0)]) = (F ++ [h0]).map lmD := by rw [List.map_append] <;> rfl
              rw [ea] at a8
              have hS' : (steps many most h0.c none (m :: ms.drop (i + 1))).map (F ++ [h0] ++ ·) = steps many most 0 none ms := by
                rw [← hS]
                cases steps many most h0.c none (m :: ms.drop (i + 1)) with
                | none => rfl
                | some t =>
                  show some (F ++ [h0] ++ t) = some (F ++ h0 :: t)
                  rw [List.append_assoc]
                  rfl
              have hl1 : (F ++ [h0]).length ≤ i + 1 := by
                rw [List.length_append, List.length_singleton]
                omega
              refine st_if e8.s (eb_test (ev_opB (tleft h0.c _ _ W8) (ev_var rfl (.int _)))) (fun hb W9 e9 => ?_) (fun hb W9 e9 => ?_)
              · have c3 := of_decide_eq_true hb
                rw [steps_done c3] at hS'
                exact ⟨W9, F ++ [h0], h0.c, none, v, some x, rfl, rfl, a8.mono e9, by omega, kv.mono e9.g, by rw [steps_done c3]; exact hS'⟩
              · have c3 := of_decide_eq_false hb
                exact ⟨W9, F ++ [h0], h0.c, none, v, rfl, rfl, a8.mono e9, hl1, kv.mono e9.g, ((((hx4.mono e5.g).mono e6.g).mono e7.g).mono e8.g).mono e9.g, (((e5.g.trans e6.g).trans e7.g).trans e8.g).trans e9.g, hS', c3, .inl rfl⟩
            · have c2 := of_decide_eq_false hb
              exact ⟨W5, F, last, some h0, hv, rfl, rfl, a4.mono e5, by omega, hh4.mono e5.g, hx4.mono e5.g, e5.g, hS, c, .inr (by omega)⟩
        · rintro σ2 H2 ⟨W5, F, last, held, hv, rfl, rfl, a5, hF5, hh5, hx5, g5, hS, c, hd5⟩
          refine q_if a5.le.s (eb_test (ev_opB (tgap m last x _ W5 hx5) (ev_var rfl (.int _)))) (fun hb W6 e6 => ?_) (fun hb W6 e6 => ?_)
          · have c2 := of_decide_eq_true hb
            have hn : held = none := hd5.resolve_right (by omega)
            rw [hn, steps_none c fun m' r e => by cases e; omega] at hS
            rw [← hS] at q
            exact st_ret e6.s ev_non fun v W7 e7 hv => q v W7 ((a5.mono e6).le.trans e7) hv
          · have c2 := of_decide_eq_false hb
            rw [steps_go c (by omega)] at hS
            refine st_asg e6.s (ev_var rfl (hx5.mono e6.g)) fun v W7 e7 kv => ?_
            exact ⟨W7, rfl, (((g.trans e4.g).trans g5).trans e6.g).trans e7.g, e7.s, F, last, some m, v, some x, rfl, (a5.mono e6).mono e7, hF5, kv, hS⟩
    · rintro σ' W' g s' ⟨F, last, held, hv, y, rfl, a, hF, hh, hS⟩
      rw [hl, List.drop_length] at hS
      rw [hl] at hF
      exact ⟨W', F, last, held, hv, y, rfl, rfl, a, hF, hh, hS⟩
  · rintro σ' H' ⟨W', F, last, held, hv, y, rfl, rfl, a, hF, hh, hS⟩
    refine ⟨fun σ2 H2 => ∃ (W5 : Wd) (F : List Mk) (last : Int) (hv : V), H2 = W5.H ∧ σ2 = [some v0, some (.int many), some (.int most), some (.ref l), some (.int last), some hv, y] ∧ Acc W W5 l (F.map lmD) ∧ (steps many most last none []).map (F ++ ·) = steps many most 0 none ms, ?_, ?_⟩
    · refine st_if a.le.s (b := decide (most < many - last) && !held.isNone) (eb_and (eb_test (ev_opB (tleft last _ _ W') (ev_var rfl (.int _)))) fun _ => eb_is (eb_test (ev_notN (ev_var rfl hh))) (by rw [hN])) (fun hb W5 e5 => ?_) (fun hb W5 e5 => ?_)
      · obtain ⟨c1, c2⟩ := Bool.and_eq_true_iff.mp hb
        have c := of_decide_eq_true c1
        cases held with
        | none => cases c2
        | some h0 =>
          rw [steps_keep (by omega) fun m' r e => by cases e] at hS
          refine q_appA (a.mono e5) rfl (by rw [List.length_map]; omega) (ev_var rfl (hh.mono e5.g)) fun W6 o e6 a6 => ?_
          refine st_asg a6.le.s (d := .int h0.c) (ev_ixT (ds := [.int h0.k, .int h0.a, .int h0.b, .int h0.c, .int h0.d]) rfl (ev_var rfl ((hh.mono e5.g).mono e6.g)) ev_int) fun v W7 e7 kv => ?_
          cases kv
          have a7 := a6.mono e7
          have ea : (F.map lmD ++ [optD lmD (some h0)]) = (F ++ [h0]).map lmD := by rw [List.map_append] <;> rfl
          rw [ea] at a7
          refine ⟨W7, F ++ [h0], h0.c, hv, rfl, rfl, a7, ?_⟩
          rw [← hS]
          cases steps many most h0.c none [] with
          | none => rfl
          | some t =>
            show some (F ++ [h0] ++ t) = some (F ++ h0 :: t)
            rw [List.append_assoc]
            rfl
      · refine ⟨W5, F, last, hv, rfl, rfl, a.mono e5, ?_⟩
        by_cases c : many - last ≤ most
        · rw [steps_done c] at hS ⊢
          exact hS
        · rw [decide_eq_true (by omega), Bool.true_and] at hb
          cases held with
          | none => exact hS
          | some h0 => cases hb
    · rintro σ2 H2 ⟨W5, F, last, hv, rfl, rfl, a, hS⟩
      refine q_if a.le.s (eb_test (ev_opB (tleft last _ _ W5) (ev_var rfl (.int _)))) (fun hb W6 e6 => ?_) (fun hb W6 e6 => ?_)
      · have c := of_decide_eq_true hb
        rw [steps_none (by omega) fun m' r e => by cases e] at hS
        rw [← hS] at q
        exact st_ret e6.s ev_non fun v W7 e7 hv => q v W7 ((a.mono e6).le.trans e7) hv
      · have c := of_decide_eq_false hb
        rw [steps_done (by omega)] at hS
        rw [← hS] at q
        obtain ⟨o, e4, hd, hg, _⟩ := (a.mono e6).frz
        refine st_ret (W := W6.frz l o) e4.s (d := .list (F.map lmD)) (ev_var rfl hd) fun v W5 e5 hv => q v W5 (e4.trans e5) ?_
        show Dq W5.G v (.list ((F ++ []).map lmD))
        rw [List.append_nil]
        exact hv
/-! ### _law_thinned -/
abbrev sc_N_law_thinned : List Str := ["_law_room", "_law_many", "_law_marks", "_law_low", "_law_high", "_law_turn", "_law_middle", "_law_kept"]
theorem sc_law_thinned : FnScope ["_law_room", "_law_many", "_law_marks", "_law_low", "_law_high", "_law_turn", "_law_middle", "_law_kept"] ["_law_room", "_law_many", "_law_marks"] (defScope s_law_thinned) := ⟨rfl, rfl, rfl, by decide +kernel, rfl, by decide +kernel, by decide +kernel⟩
def rl_law_thinned : List PyData → PyData → Prop := fun ds d => ∃ (room many : Int) (ms : List Mk), ds = [.int room, .int many, .list (ms.map lmD)] ∧ 0 ≤ room ∧ ms.length ≤ 1000 ∧ many < 2 ^ 60 ∧ d = .list ((thin room many ms).map lmD)
theorem ok_law_thinned (B : Bl mg) (S : Stand K mg d_law_thinned) (c_law_steps : Cal P w K mg base "_law_steps" 1 ["_law_marks", "_law_many", "_law_most"] (pureSp rl_law_steps)) : Cal P w K mg base "_law_thinned" 2 ["_law_room", "_law_many", "_law_marks"] (pureSp rl_law_thinned) := by
  refine cal_mk S sc_law_thinned (pure_len (fun ds d h => by obtain ⟨_, _, _, rfl, _⟩ := h <;> rfl)) (fun _ _ _ _ _ _ us hl => match us, hl with | [_, _, _], _ => rfl) (fun f cdv A outer sh H vs Q E hr h => ?_)
  obtain ⟨W, rfl, s, ds, dd, hv, hR, q⟩ := h
  obtain ⟨room, many, ms, rfl, hr0, hz, hm, rfl⟩ := hR
  obtain ⟨v0, v1, v2, rfl, h0, h1, h2⟩ := hv.inv3
  refine ⟨_, (pss_cons (ps_if (pt_cmpR op_le (pe_callB (kLen (K := K) rfl) (by rfl) B.z_len (by decide +kernel) (pa_cons (pv 2) pa_nil)) (pv 0) (nomark _))
      (pss_one (ps_ret (pe_callTy (kListOf (K := K) rfl) (by rfl) B.z_list (by decide +kernel) (pa_cons (pv 2) pa_nil))))
      pss_nil)
      (pss_cons (ps_set (i := 3) sc_law_thinned.nd rfl (.inl rfl) (pe_un un_neg pe_int))
      (pss_cons (ps_set (i := 4) sc_law_thinned.nd rfl (.inl rfl) (pv 1))
      (pss_cons (ps_for PassesOwn.never rfl (pi_range1 (by rfl) B.z_range (pa_cons pe_int pa_nil)) (pg_name (i := 5) sc_law_thinned.nd rfl (.inl rfl))
      (pss_one (ps_if (pt_cmpR op_gt (pe_op op_sub (pv 4) (pv 3)) pe_int (nomark _))
      (pss_cons (ps_set (i := 6) sc_law_thinned.nd rfl (.inl rfl) (pe_op op_fdiv (pe_op op_add (pv 3) (pv 4)) pe_int))
      (pss_cons (ps_set (i := 7) sc_law_thinned.nd rfl (.inl rfl) (pe_cal c_law_steps (hr.mono (by decide)) (by rfl) (pa_cons (pv 2) (pa_cons (pv 1) (pa_cons (pv 6) pa_nil)))))
      (pss_one (ps_if (PW.pt (pw_and (pt_cmpR op_notN (pv 7) pe_non (nomark _)) (pw_and1 (pt_cmpR op_le (pe_callB (kLen (K := K) rfl) (by rfl) B.z_len (by decide +kernel) (pa_cons (pv 7) pa_nil)) (pv 0) (nomark _)))))
      (pss_one (ps_set (i := 4) sc_law_thinned.nd rfl (.inl rfl) (pv 6)))
      (pss_one (ps_set (i := 3) sc_law_thinned.nd rfl (.inl rfl) (pv 6)))))))
      pss_nil)))
      (pss_one (ps_ret (pe_cal c_law_steps (hr.mono (by decide)) (by rfl) (pa_cons (pv 2) (pa_cons (pv 1) (pa_cons (pv 4) pa_nil)))))))))), ?_⟩
  cases h0
  cases h1
  have hl : (ms.map lmD).length = ms.length := List.length_map _
  unfold thin at q
  refine q_if s (eb_is (eb_test (ev_opB (ev_lenL (ev_var rfl h2)) (ev_var rfl (.int _)))) (by rw [hl])) (fun hb W1 e1 => ?_) (fun hb W1 e1 => ?_)
  · rw [if_pos (of_decide_eq_true hb)] at q
    exact st_ret e1.s (ev_listL (ev_var rfl (h2.mono e1.g))) fun v W5 e5 hv => q v W5 (e1.trans e5) hv
  · rw [if_neg (of_decide_eq_false hb)] at q
    refine q_asg e1.s (ev_neg ev_int) fun v W2 e2 k2 => ?_
    cases k2
    refine q_asg e2.s (ev_var rfl (.int _)) fun v W3 e3 k3 => ?_
    cases k3
    refine q_forR (m := 60) e3.s (by decide) ev_int fun W4 e4 => ⟨fun i σ' W' => ∃ (lo hi : Int) (t y z : Option V), σ' = [some (.int room), some (.int many), some v2, some (.int lo), some (.int hi), t, y, z] ∧ W.le W' ∧ i ≤ 60 ∧ hi - lo ≤ 2 ^ (60 - i) ∧ bs (fits room many ms) lo hi = bs (fits room many ms) (-1) many,
      ⟨-1, many, none, none, none, rfl, ((e1.trans e2).trans e3).trans e4, by omega, by omega, rfl⟩, ?_, ?_⟩
    · rintro i σ' W' hi' g s' ⟨lo, hi, t, y, z, rfl, e, _, hp, hB⟩
      have h2' := h2.mono e.g
      have hpow : (2 : Int) ^ (60 - i) = 2 * 2 ^ (60 - (i + 1)) := by
        rw [show 60 - i = (60 - (i + 1)) + 1 by omega, Int.pow_succ]
        omega
      refine st_if s' (eb_test (ev_opB (f := fun i j => decide (j < i)) (ev_opI (f := fun i j => i - j) (ev_var rfl (.int _)) (ev_var rfl (.int _))) ev_int)) (fun hb W5 e5 => ?_) (fun hb W5 e5 => ?_)
      · have c : 1 < hi - lo := of_decide_eq_true hb
        rw [bs_go (by omega)] at hB
        refine q_asg e5.s (d := .int ((lo + hi) / 2)) (ev_opC (f := fun i j => i / j) ⟨by decide, by decide⟩ (ev_opI (f := fun i j => i + j) (ev_var rfl (.int _)) (ev_var rfl (.int _))) ev_int) fun v W6 e6 k6 => ?_
        cases k6
        have e46 := e.trans (e5.trans e6)
        refine q_asg e6.s (ev_call (ea_cons (ev_var rfl (h2.mono e46.g)) (ea_cons (ev_var rfl (.int _)) (ea_cons (ev_var rfl (.int _)) ea_nil))) ⟨ms, many, (lo + hi) / 2, rfl, hz, rfl⟩) fun v7 W7 e7 k7 => ?_
        have hf : EvB (tAnd (tTest (tOp (fun x y H Q => y = .non ∧ Q (.bl (!decide (x = .non))) H) (tVar 7) (tC .non))) (tTest (tOp (rI0 fun i j => .bl (decide (i ≤ j))) (tCB (rLenK K) (tCons (tVar 7) tNil)) (tVar 0)))) [some (.int room), some (.int many), some v2, some (.int lo), some (.int hi), some (.int (i : Int)), some (.int ((lo + hi) / 2)), some v7] W7 (fits room many ms ((lo + hi) / 2)) := by
          unfold fits
          cases h : steps many ((lo + hi) / 2) 0 none ms with
          | none =>
            rw [h] at k7
            exact eb_is (eb_and (b := false) (c := false) (eb_test (ev_notN (ev_var rfl k7))) fun z => nomatch z) rfl
          | some l =>
            rw [h] at k7
            have k7' : Dq W7.G v7 (.list (l.map lmD)) := k7
            refine eb_is (eb_and (b := true) (eb_test (ev_notN (ev_var rfl k7))) fun _ => eb_test (ev_opB (ev_lenL (ev_var rfl k7')) (ev_var rfl (.int _)))) ?_
            rw [List.length_map]
            rfl
        refine st_if e7.s hf (fun hb W8 e8 => ?_) (fun hb W8 e8 => ?_)
        · rw [if_pos hb] at hB
          refine st_asg e8.s (ev_var rfl (.int _)) fun v W9 e9 k9 => ?_
          cases k9
          exact ⟨W9, rfl, (((g.trans e5.g).trans e6.g).trans e7.g).trans (e8.g.trans e9.g), e9.s, lo, (lo + hi) / 2, _, _, _, rfl, (e46.trans e7).trans (e8.trans e9), by omega, by omega, hB⟩
        · rw [hb, if_neg Bool.false_ne_true] at hB
          refine st_asg e8.s (ev_var rfl (.int _)) fun v W9 e9 k9 => ?_
          cases k9
          exact ⟨W9, rfl, (((g.trans e5.g).trans e6.g).trans e7.g).trans (e8.g.trans e9.g), e9.s, (lo + hi) / 2, hi, _, _, _, rfl, (e46.trans e7).trans (e8.trans e9), by omega, by omega, hB⟩
      · have c : ¬ 1 < hi - lo := of_decide_eq_false hb
        have hp2 : (1 : Int) ≤ 2 ^ (60 - (i + 1)) := by
          have := Int.pow_pos (n := 2) (m := 60 - (i + 1)) (by decide)
          omega
        exact ⟨W5, rfl, g.trans e5.g, e5.s, lo, hi, _, y, z, rfl, e.trans e5, by omega, by omega, hB⟩
    · rintro σ' W' g s' ⟨lo, hi, t, y, z, rfl, e, _, hp, hB⟩
      rw [show 60 - 60 = 0 from rfl, Int.pow_zero] at hp
      rw [bs_done (by omega)] at hB
      refine st_ret s' (ev_is (ev_call (ea_cons (ev_var rfl (h2.mono e.g)) (ea_cons (ev_var rfl (.int _)) (ea_cons (ev_var rfl (.int _)) ea_nil))) ⟨ms, many, hi, rfl, hz, rfl⟩) ?_) fun v W5 e5 hv => q v W5 (e.trans e5) hv
      rw [hB, (thinL_some hr0 ms).1]
      rfl
/-! ### _law_added -/
abbrev sc_N_law_added : List Str := ["_law_one_here", "_law_other", "_law_keys", "_law_mark", "_law_found", "_law_key", "_law_side", "_law_first", "_law_second"]
theorem sc_law_added : FnScope ["_law_one_here", "_law_other", "_law_keys", "_law_mark", "_law_found", "_law_key", "_law_side", "_law_first", "_law_second"] ["_law_one_here", "_law_other"] (defScope s_law_added) := ⟨rfl, rfl, rfl, by decide +kernel, rfl, by decide +kernel, by decide +kernel⟩
def rl_law_added : List PyData → PyData → Prop := fun ds d => ∃ (m1 : Int) (s1 : List Mk) (m2 : Int) (s2 : List Mk), ds = [lnD m1 s1, lnD m2 s2] ∧ s1.length ≤ 100 ∧ s2.length ≤ 100 ∧ d = .list ((added m1 s1 m2 s2).map lmD)
theorem ok_law_added (B : Bl mg) (S : Stand K mg d_law_added) (c_law_ends : Cal P w K mg base "_law_ends" 1 ["_law_marks", "_law_many", "_law_key", "_law_side"] (pureSp rl_law_ends)) : Cal P w K mg base "_law_added" 2 ["_law_one_here", "_law_other"] (pureSp rl_law_added) := by
  refine cal_mk S sc_law_added (pure_len (fun ds d h => by obtain ⟨_, _, _, _, rfl, _⟩ := h <;> rfl)) (fun _ _ _ _ _ _ us hl => match us, hl with | [_, _], _ => rfl) (fun f cdv A outer sh H vs Q E hr h => ?_)
  obtain ⟨W, rfl, s, ds, dd, hv, hR, q⟩ := h
  obtain ⟨m1, s1, m2, s2, rfl, hz1, hz2, rfl⟩ := hR
  obtain ⟨v0, v1, rfl, h0, h1⟩ := hv.inv2
  refine ⟨_, (pss_cons (ps_set (i := 2) sc_law_added.nd rfl (.inl rfl) pe_dnewK)
      (pss_cons (ps_for PassesOwn.never rfl (kpi_list (K := K) rfl (pe_op op_cat (pe_ix (kIxT (K := K) rfl) (pv 0) pe_int (fun _ _ => rfl)) (pe_ix (kIxT (K := K) rfl) (pv 1) pe_int (fun _ _ => rfl)))) (pg_name (i := 3) sc_law_added.nd rfl (.inl rfl))
      (pss_one (ps_dput (hu_of hr) (pv 2) (pe_ix (kIxT (K := K) rfl) (pv 3) pe_int (fun _ _ => rfl)) pe_bl rfl)))
      (pss_cons (ps_set (i := 4) sc_law_added.nd rfl (.inl rfl) (pe_lst pa_nil))
      (pss_cons (ps_for PassesOwn.never rfl (kpi_list (K := K) rfl (pe_callB (cr_sortedDI rfl) (by rfl) B.z_sorted (by decide +kernel) (pa_cons (pv 2) pa_nil))) (pg_name (i := 5) sc_law_added.nd rfl (.inl rfl))
      (pss_cons (ps_set (i := 3) sc_law_added.nd rfl (.inl rfl) (pe_lst (pa_cons (pv 5) pa_nil)))
      (pss_cons (ps_for PassesOwn.never rfl (kpi_tup (K := K) rfl (pe_tup (pa_cons pe_int (pa_cons pe_int pa_nil)))) (pg_name (i := 6) sc_law_added.nd rfl (.inl rfl))
      (pss_cons (ps_set (i := 7) sc_law_added.nd rfl (.inl rfl) (pe_cal c_law_ends (hr.mono (by decide)) (by rfl) (pa_cons (pe_ix (kIxT (K := K) rfl) (pv 0) pe_int (fun _ _ => rfl)) (pa_cons (pe_ix (kIxT (K := K) rfl) (pv 0) pe_int (fun _ _ => rfl)) (pa_cons (pv 5) (pa_cons (pv 6) pa_nil))))))
      (pss_cons (ps_set (i := 8) sc_law_added.nd rfl (.inl rfl) (pe_cal c_law_ends (hr.mono (by decide)) (by rfl) (pa_cons (pe_ix (kIxT (K := K) rfl) (pv 1) pe_int (fun _ _ => rfl)) (pa_cons (pe_ix (kIxT (K := K) rfl) (pv 1) pe_int (fun _ _ => rfl)) (pa_cons (pv 5) (pa_cons (pv 6) pa_nil))))))
      (pss_one (ps_expr (kBM (K := K) rfl (pe_bm PySem.F.plainAttrs_list PySem.F.slot_list_extend PySem.F.type_list_extend mt_extend (pv 3) (pa_cons (pe_lst (pa_cons (pe_op op_add (pe_ix (kIxT (K := K) rfl) (pv 7) pe_int (fun _ _ => rfl)) (pe_ix (kIxT (K := K) rfl) (pv 8) pe_int (fun _ _ => rfl))) (pa_cons (pe_op op_add (pe_ix (kIxT (K := K) rfl) (pv 7) pe_int (fun _ _ => rfl)) (pe_ix (kIxT (K := K) rfl) (pv 8) pe_int (fun _ _ => rfl))) pa_nil))) pa_nil))))))))
      (pss_one (ps_expr (kBM (K := K) rfl (pe_bm PySem.F.plainAttrs_list PySem.F.slot_list_append PySem.F.type_list_append mt_append (pv 4) (pa_cons (pe_callTy (kTupOf (K := K) rfl) (by rfl) B.z_tuple (by decide +kernel) (pa_cons (pv 3) pa_nil)) pa_nil))))))))
      (pss_one (ps_ret (pv 4))))))), ?_⟩
  have hS : (s1.map lmD) ++ (s2.map lmD) = (s1 ++ s2).map lmD := by rw [List.map_append]
  refine q_newK fun l hl => ?_
  have a0 : AccD W (W.set l (.dK [])) l [] tru := AccD.start (.refl s) hl
  have h00 := h0.mono a0.le.g
  have h10 := h1.mono a0.le.g
  refine q_forL (ds := (s1 ++ s2).map lmD) a0.le.s (ev_is (ev_catL (ev_ixT (ds := [.int m1, .list (s1.map lmD)]) rfl (ev_var rfl h00) ev_int) (ev_ixT (ds := [.int m2, .list (s2.map lmD)]) rfl (ev_var rfl h10) ev_int) (by rw [List.length_map, List.length_map]; omega)) (congrArg PyData.list hS)) fun W1 e1 => ⟨fun i σ' W' => ∃ y : Option V, σ' = [some v0, some v1, some (.ref l), y, none, none, none, none, none] ∧ AccD W W' l ((((s1 ++ s2).take i).map (·.k)).foldl insK []) tru, ⟨none, rfl, a0.mono e1⟩, ?_, ?_⟩
  · rintro i σ' W' x d hd g s' hx ⟨y, rfl, a⟩
    obtain ⟨m, hm, rfl⟩ := map_at hd
    have hi := (List.getElem?_eq_some_iff.mp hm).1
    rw [List.length_append] at hi
    have hlen := len_ins (((s1 ++ s2).take i).map (·.k)) []
    rw [List.length_map, List.length_take] at hlen
    have z0 : ([] : List Int).length = 0 := rfl
    refine st_dputT (k := m.k) a rfl (by omega) (ev_ixT (ds := [.int m.k, .int m.a, .int m.b, .int m.c, .int m.d]) rfl (ev_var rfl hx) ev_int) fun W3 o e3 a3 => ⟨W3.set l o, rfl, g.trans e3.g, a3.le.s, some x, rfl, ?_⟩
    rw [take_snoc hm, List.map_append, List.foldl_append]
    exact a3
  · rintro σ' W' g s' ⟨y, rfl, a⟩
    have hk : (((s1 ++ s2).take ((s1 ++ s2).map lmD).length).map (·.k)) = keysOf s1 s2 := by
      rw [List.length_map, List.take_length]
      unfold keysOf
      rw [List.map_append]
    rw [hk] at a
    refine q_newL fun l2 hl2 => ?_
    have ne : l ≠ l2 := fun c => a.live (c ▸ hl2)
    have hl2W : W.H l2 = none := a.le.h.back hl2
    have b1 : Acc W (W'.set l2 (.lst [])) l2 [] := Acc.start a.le hl2
    have a1 : AccD W (W'.set l2 (.lst [])) l ((keysOf s1 s2).foldl insK []) tru := a.other hl2W b1.out ne
    have hkl : (keysOf s1 s2).length = s1.length + s2.length := by
      unfold keysOf
      rw [List.length_append, List.length_map, List.length_map]
    refine q_forL b1.le.s (ev_sortedK a1 rfl) fun W3 e3 => ⟨fun i σ' W' => ∃ (y3 y5 y6 y7 y8 : Option V), σ' = [some v0, some v1, some (.ref l), y3, some (.ref l2), y5, y6, y7, y8] ∧ Acc W W' l2 ((((uniq (srt (keysOf s1 s2))).take i).map (addM m1 s1 m2 s2)).map lmD),
      ⟨y, none, none, none, none, rfl, b1.mono e3⟩, ?_, ?_⟩
    · rintro i σ' W4 x d hd g4 s4 hx ⟨y3, y5, y6, y7, y8, rfl, b4⟩
      obtain ⟨k, hk, rfl⟩ := map_at hd
      rw [srt_ins] at hk
      cases hx
      have hi := (List.getElem?_eq_some_iff.mp hk).1
      have hul := uniq_len (srt (keysOf s1 s2))
      rw [srt_length] at hul
      refine q_newL1 s4 (ev_var rfl (.int k)) fun n W5 c5 => ?_
      have b5 := b4.mono c5.le
      have hn : W4.H n = none := c5.new
      have ne2 : l2 ≠ n := fun c => b4.at_ (c ▸ hn)
      have hnW : W.H n = none := b4.le.h.back hn
      have h05 := h0.mono b5.le.g
      have h15 := h1.mono b5.le.g
      let P : Bool → Int × Int := fun up => ((endsL m1 k up 0 s1).1 + (endsL m2 k up 0 s2).1, (endsL m1 k up 0 s1).2 + (endsL m2 k up 0 s2).2)
      let E : List PyData := [.int k, .int (P false).1, .int (P false).2, .int (P true).1, .int (P true).2]
      refine q_forT (ds := [.int 0, .int 1]) b5.le.s (ev_tup (ea_cons ev_int (ea_cons ev_int ea_nil)) (by show 2 ≤ 100000; decide)) fun W7 e7 => ⟨fun j σ' W' => ∃ (y6 y7 y8 : Option V), σ' = [some v0, some v1, some (.ref l), some (.ref n), some (.ref l2), some (.int k), y6, y7, y8] ∧ Acc W W' l2 ((((uniq (srt (keysOf s1 s2))).take i).map (addM m1 s1 m2 s2)).map lmD) ∧ Acc W4 W' n (E.take (1 + 2 * j)),
        ⟨y6, y7, y8, rfl, b5.mono e7, c5.mono e7⟩, ?_, ?_⟩
      · rintro j σ' W8 xs d hd g8 s8 hxs ⟨y6, y7, y8, rfl, b8, c8⟩
        have hup : ∃ up : Bool, d = .int (sideI up) ∧ j < 2 ∧ E.take (1 + 2 * (j + 1)) = E.take (1 + 2 * j) ++ [.int (P up).1, .int (P up).2] := by
          match j, hd with
          | 0, hd => exact ⟨false, (Option.some.inj hd).symm, by omega, rfl⟩
          | 1, hd => exact ⟨true, (Option.some.inj hd).symm, by omega, rfl⟩
          | j + 2, hd => simp at hd
        obtain ⟨up, rfl, hj, hup⟩ := hup
        have q1 : ∀ (m : Nat) (v : V) (mm : Int) (ms : List Mk) (σ : L2.St), σ[m]? = some (some v) → σ[5]? = some (some (.int k)) → σ[6]? = some (some xs) → ∀ W9 : Wd, Ex W8.G W9.G → Dq W9.G v (lnD mm ms) → ms.length ≤ 100 →
            EvD (tCall (pureSp rl_law_ends) [] E0 (tCons (tOp (rIxT K) (tVar m) (tC (.int 1))) (tCons (tOp (rIxT K) (tVar m) (tC (.int 0))) (tCons (tVar 5) (tCons (tVar 6) tNil))))) σ W9 (pairD (endsL mm k up 0 ms)) := fun m v mm ms σ hm h5 h7 W9 g9 hv hz =>
          ev_call (ea_cons (ev_ixT (ds := [.int mm, .list (ms.map lmD)]) rfl (ev_var hm hv) ev_int) (ea_cons (ev_ixT (ds := [.int mm, .list (ms.map lmD)]) rfl (ev_var hm hv) ev_int) (ea_cons (ev_var h5 (.int k)) (ea_cons (ev_var h7 (hxs.mono g9)) ea_nil)))) ⟨ms, mm, k, up, rfl, by omega, rfl⟩
        refine q_asg s8 (q1 0 v0 m1 s1 _ rfl rfl rfl W8 (Ex.refl _) ((h05.mono e7.g).mono g8) hz1) fun f1 W9 e9 kf1 => ?_
        refine q_asg e9.s (q1 1 v1 m2 s2 _ rfl rfl rfl W9 e9.g (((h15.mono e7.g).mono g8).mono e9.g) hz2) fun f2 W10 e10 kf2 => ?_
        have kf1' := kf1.mono e10.g
        have b10 := (b8.mono e9).mono e10
        have c10 := (c8.mono e9).mono e10
        refine st_extA c10 rfl (es := [.int (P up).1, .int (P up).2]) (by rw [List.length_take]; show min _ 5 + 2 < 100000; omega) (ev_lst (ea_cons (ev_opI (f := fun i j => i + j) (ev_ixT rfl (ev_var rfl kf1') ev_int) (ev_ixT rfl (ev_var rfl kf2) ev_int)) (ea_cons (ev_opI (f := fun i j => i + j) (ev_ixT rfl (ev_var rfl kf1') ev_int) (ev_ixT rfl (ev_var rfl kf2) ev_int)) ea_nil)) (by show 2 ≤ 100000; decide)) fun W11 o e11 c11 => ?_
        refine ⟨W11.set n o, rfl, ((g8.trans e9.g).trans e10.g).trans e11.g, c11.le.s, some xs, some f1, some f2, rfl, (b10.mono e11).other hnW c11.out ne2, ?_⟩
        rw [hup]
        exact c11
      · rintro σ' W8 g8 s8 ⟨y6, y7, y8, rfl, b8, c8⟩
        obtain ⟨fs, e9, hd9, hg9, hh9⟩ := c8.frz'
        have b9 : Acc W (W8.frz n (.lst fs)) l2 _ := b8.frzO hnW c8.out hh9 ne2
        refine st_appA (W := W8.frz n (.lst fs)) (d := lmD (addM m1 s1 m2 s2 k)) b9 rfl (by rw [List.length_map, List.length_map, List.length_take]; omega) (ev_tupL (ds := E) (ev_var rfl hd9)) fun W10 o e10 b10 => ?_
        refine ⟨W10.set l2 o, rfl, ((((g4.trans c5.le.g).trans e7.g).trans g8).trans hg9).trans e10.g, b10.le.s, some (.ref n), some (.int k), y6, y7, y8, rfl, ?_⟩
        rw [take_snoc hk, List.map_append, List.map_append]
        exact b10
    · rintro σ' W4 g4 s4 ⟨y3, y5, y6, y7, y8, rfl, b4⟩
      have hL : (uniq (srt (keysOf s1 s2))).take ((srt ((keysOf s1 s2).foldl insK [])).map PyData.int).length = uniq (srt (keysOf s1 s2)) := by
        rw [List.length_map, srt_ins, List.take_length]
      rw [hL] at b4
      obtain ⟨o, e4, hd, hg, _⟩ := b4.frz
      exact st_ret (W := W4.frz l2 o) e4.s (ev_var rfl hd) fun v W5 e5 hv => q v W5 (e4.trans e5) hv
/-! ### _law_as_told -/
abbrev sc_N_law_as_told : List Str := ["_law_room", "_law_many", "_law_marks", "_law_mark"]
theorem sc_law_as_told : FnScope ["_law_room", "_law_many", "_law_marks", "_law_mark"] ["_law_room", "_law_many", "_law_marks"] (defScope s_law_as_told) := ⟨rfl, rfl, rfl, by decide +kernel, rfl, by decide +kernel, by decide +kernel⟩
def rl_law_as_told : List PyData → PyData → Prop := fun ds d => ∃ (room many : Int) (ms : List Mk), ds = [.int room, .int many, .list (ms.map lmD)] ∧ ms.length ≤ 1000 ∧ d = rkD room many ms
theorem ok_law_as_told (B : Bl mg) (S : Stand K mg d_law_as_told) (c_law_value : Cal P w K mg base "_law_value" 2 ["_law_key"] (pureSp rl_law_value)) : Cal P w K mg base "_law_as_told" 3 ["_law_room", "_law_many", "_law_marks"] (pureSp rl_law_as_told) := by
  refine cal_mk S sc_law_as_told (pure_len (fun ds d h => by obtain ⟨_, _, _, rfl, _⟩ := h <;> rfl)) (fun _ _ _ _ _ _ us hl => match us, hl with | [_, _, _], _ => rfl) (fun f cdv A outer sh H vs Q E hr h => ?_)
  obtain ⟨W, rfl, s, ds, dd, hv, hR, q⟩ := h
  obtain ⟨room, many, ms, rfl, hz, rfl⟩ := hR
  obtain ⟨v0, v1, v2, rfl, h0, h1, h2⟩ := hv.inv3
  refine ⟨_, (pss_one (ps_ret (pe_tup (pa_cons (pv 0) (pa_cons (pv 1) (pa_cons (pe_callTy (kTupOf (K := K) rfl) (by rfl) B.z_tuple (by decide +kernel) (pa_cons (pe_lc (own := [("_law_mark", 3)]) rfl sc_law_as_told.nd (kpi_list (K := K) rfl (pv 2)) (blkOk_by (N := sc_N_law_as_told) (sc := defScope s_law_as_told) (by decide +kernel)) (fun _ _ _ _ _ => (pg_name (i := 3) sc_law_as_told.nd rfl (.inl rfl))) (fun _ _ _ _ _ => pts_nil) (fun _ _ _ _ _ => (pe_op (kCatT (K := K) rfl) (pe_tup (pa_cons (pe_cal c_law_value (hr.mono (by decide)) (by rfl) (pa_cons (pe_ix (kIxT (K := K) rfl) (pv 3) pe_int (fun _ _ => rfl)) pa_nil)) pa_nil)) (pe_callTy (kTupOf (K := K) rfl) (by rfl) B.z_tuple (by decide +kernel) (pa_cons (pe_slice (kSlT (K := K) rfl) (pv 3) (po_some pe_int) po_none) pa_nil))))) pa_nil)) pa_nil)))))), ?_⟩
  let g0 : PyData → PyData := fun d => match d with | .tuple [.int k, a, b, c, e] => .tuple [frac k, a, b, c, e] | _ => .none
  have z0 : ((ms.map lmD).filter fun _ => true).map g0 = ms.map mkD := by
    rw [List.filter_eq_self.mpr fun _ _ => rfl, List.map_map]
    rfl
  refine st_ret s (ev_tup (ea_cons (ev_var rfl h0) (ea_cons (ev_var rfl h1) (ea_cons (ev_tupL (ev_is (ev_lcL (fun _ => true) g0 (ev_var rfl h2) (by rw [List.length_map]; omega) (fun x => rfl) fun W1 x d e1 hd hx => ⟨eb_yes e1.s, fun _ => ?_⟩) (congrArg PyData.list z0))) ea_nil))) (by show 3 ≤ 100000; decide)) q
  obtain ⟨m, _, rfl⟩ := List.mem_map.mp hd
  exact ev_catT (ds := [frac m.k]) (es := [.int m.a, .int m.b, .int m.c, .int m.d]) (ev_tup (ea_cons (ev_call (ea_cons (ev_ixT (ds := [.int m.k, .int m.a, .int m.b, .int m.c, .int m.d]) rfl (ev_var rfl hx) ev_int) ea_nil) ⟨m.k, rfl, rfl⟩) ea_nil) (by show 1 ≤ 100000; decide))
    (ev_tupT (ev_is (ev_slT (ds := [.int m.k, .int m.a, .int m.b, .int m.c, .int m.d]) (ev_var rfl hx) (eo_some ev_int) eo_none) (congrArg PyData.tuple (cutD_from _ 1)))) (by show 1 + 4 ≤ 100000; decide)
end
end K22
namespace K22
open PySem PySem.Spec PyProof.Rows L2
section
variable {P : Program} {w : World} {K : PySem.W.Frag} {mg : Str → Option Value} {base : Heap}
/-! ### _law_handed -/
abbrev sc_N_law_handed : List Str := ["_law_steps_here", "_law_found", "_law_keys", "_law_key"]
theorem sc_law_handed : FnScope ["_law_steps_here", "_law_found", "_law_keys", "_law_key"] ["_law_steps_here"] (defScope s_law_handed) := ⟨rfl, rfl, rfl, by decide +kernel, rfl, by decide +kernel, by decide +kernel⟩
def rl_law_handed : List PyData → PyData → Prop := fun ds d => ∃ t : List Stp, ds = [.list (t.map lstepD)] ∧ TreeOk t ∧ d = treeD t
theorem ok_law_handed (B : Bl mg) (S : Stand K mg d_law_handed) (c_law_value : Cal P w K mg base "_law_value" 2 ["_law_key"] (pureSp rl_law_value)) : Cal P w K mg base "_law_handed" 3 ["_law_steps_here"] (pureSp rl_law_handed) := by
  refine cal_mk S sc_law_handed (pure_len (fun ds d h => by obtain ⟨_, rfl, _⟩ := h <;> rfl)) (fun _ _ _ _ _ _ us hl => match us, hl with | [_], _ => rfl) (fun f cdv A outer sh H vs Q E hr h => ?_)
  obtain ⟨W, rfl, s, ds, dd, hv, hR, q⟩ := h
  obtain ⟨t, rfl, hT, rfl⟩ := hR
  obtain ⟨v0, rfl, h0⟩ := hv.inv1
  refine ⟨_, (pss_cons (ps_set (i := 1) sc_law_handed.nd rfl (.inl rfl) (pe_lst pa_nil))
      (pss_cons (ps_for PassesOwn.never rfl (kpi_list (K := K) rfl (pv 0)) (pg_name (i := 2) sc_law_handed.nd rfl (.inl rfl))
      (pss_one (ps_if (pt_cmpR op_isN (pv 2) pe_non (nomark _))
      (pss_one (ps_expr (kBM (K := K) rfl (pe_bm PySem.F.plainAttrs_list PySem.F.slot_list_append PySem.F.type_list_append mt_append (pv 1) (pa_cons (pe_tup (pa_cons pe_str pa_nil)) pa_nil)))))
      (pss_one (ps_expr (kBM (K := K) rfl (pe_bm PySem.F.plainAttrs_list PySem.F.slot_list_append PySem.F.type_list_append mt_append (pv 1) (pa_cons (pe_tup (pa_cons pe_str (pa_cons (pe_callTy (kTupOf (K := K) rfl) (by rfl) B.z_tuple (by decide +kernel) (pa_cons (pe_lc (own := [("_law_key", 3)]) rfl sc_law_handed.nd (kpi_list (K := K) rfl (pv 2)) (blkOk_by (N := sc_N_law_handed) (sc := defScope s_law_handed) (by decide +kernel)) (fun _ _ _ _ _ => (pg_name (i := 3) sc_law_handed.nd rfl (.inl rfl))) (fun _ _ _ _ _ => pts_nil) (fun _ _ _ _ _ => (pe_cal c_law_value (hr.mono (by decide)) (by rfl) (pa_cons (pv 3) pa_nil)))) pa_nil)) pa_nil))) pa_nil))))))))
      (pss_one (ps_ret (pe_callTy (kTupOf (K := K) rfl) (by rfl) B.z_tuple (by decide +kernel) (pa_cons (pv 1) pa_nil)))))), ?_⟩
  have hlen := hT.len
  refine q_newL fun l hl => ?_
  have a0 : Acc W (W.set l (.lst [])) l [] := Acc.start (.refl s) hl
  refine q_forL a0.le.s (ev_var rfl (h0.mono a0.le.g)) fun W1 e1 => ⟨fun i σ' W' => ∃ y : Option V, σ' = [some v0, some (.ref l), y, none] ∧ Acc W W' l ((t.take i).map stepD), ⟨none, rfl, a0.mono e1⟩, ?_, ?_⟩
  · rintro i σ' W' x d hd g s' hx ⟨y, rfl, a⟩
    obtain ⟨st, hst, rfl⟩ := map_at hd
    have hi := (List.getElem?_eq_some_iff.mp hst).1
    have hz : ((t.take i).map stepD).length < 100000 := by
      rw [List.length_map, List.length_take]
      omega
    refine st_if s' (eb_test (ev_isN (ev_var rfl hx))) (fun hb W3 e3 => ?_) (fun hb W3 e3 => ?_)
    · cases st with
      | some ks => cases hb
      | none =>
        refine st_appA (d := stepD none) (a.mono e3) rfl hz (ev_tup (ea_cons ev_str ea_nil) (by show 1 ≤ 100000; decide)) fun W5 o e5 a5 => ⟨W5.set l o, rfl, (g.trans e3.g).trans e5.g, a5.le.s, some x, rfl, ?_⟩
        rw [take_snoc hst, List.map_append]
        exact a5
    · cases st with
      | none => cases hb
      | some ks =>
        have hks := hT.few ks (List.mem_of_getElem? hst)
        let g0 : PyData → PyData := fun d => match d with | .int k => frac k | _ => .none
        have z0 : ((ks.map PyData.int).filter fun _ => true).map g0 = fracs ks := by
          unfold fracs
          rw [List.filter_eq_self.mpr fun _ _ => rfl, List.map_map]
          rfl
        refine st_appA (d := stepD (some ks)) (a.mono e3) rfl hz (ev_tup (ea_cons ev_str (ea_cons (ev_tupL (ev_is (ev_lcL (fun _ => true) g0 (ds := ks.map PyData.int) (ev_var rfl (hx.mono e3.g)) (by rw [List.length_map]; omega) (fun x => rfl) fun W1 x d e1 hd hx => ⟨eb_yes e1.s, fun _ => ?_⟩) (congrArg PyData.list z0))) ea_nil)) (by show 2 ≤ 100000; decide)) fun W5 o e5 a5 => ⟨W5.set l o, rfl, (g.trans e3.g).trans e5.g, a5.le.s, some x, rfl, ?_⟩
        · obtain ⟨k, _, rfl⟩ := List.mem_map.mp hd
          exact ev_call (ea_cons (ev_var rfl hx) ea_nil) ⟨k, rfl, rfl⟩
        · rw [take_snoc hst, List.map_append]
          exact a5
  · rintro σ' W' g s' ⟨y, rfl, a⟩
    rw [List.length_map, List.take_length] at a
    obtain ⟨o, e4, hd, hg, _⟩ := a.frz
    exact st_ret (W := W'.frz l o) e4.s (ev_tupL (ev_var rfl hd)) fun v W5 e5 hv => q v W5 (e4.trans e5) hv
/-! ### _law_led -/
abbrev sc_N_law_led : List Str := ["_law_room", "_law_steps_here", "_law_pile", "_law_keys", "_law_other", "_law_one_here", "_law_many"]
theorem sc_law_led : FnScope ["_law_room", "_law_steps_here", "_law_pile", "_law_keys", "_law_other", "_law_one_here", "_law_many"] ["_law_room", "_law_steps_here"] (defScope s_law_led) := ⟨rfl, rfl, rfl, by decide +kernel, rfl, by decide +kernel, by decide +kernel⟩
def rl_law_led : List PyData → PyData → Prop := fun ds d => ∃ (room : Int) (t : List Stp) (nd : Nd), ds = [.int room, .list (t.map lstepD)] ∧ 1 ≤ room ∧ room ≤ 64 ∧ TreeOk t ∧ stAt room t t.length = [nd] ∧ d = lnD nd.many nd.ms
theorem ok_law_led (B : Bl mg) (S : Stand K mg d_law_led) (c_law_thinned : Cal P w K mg base "_law_thinned" 2 ["_law_room", "_law_many", "_law_marks"] (pureSp rl_law_thinned)) (c_law_added : Cal P w K mg base "_law_added" 2 ["_law_one_here", "_law_other"] (pureSp rl_law_added)) (c_law_exact : Cal P w K mg base "_law_exact" 1 ["_law_keys"] (pureSp rl_law_exact)) : Cal P w K mg base "_law_led" 3 ["_law_room", "_law_steps_here"] (pureSp rl_law_led) := by
  refine cal_mk S sc_law_led (pure_len (fun ds d h => by obtain ⟨_, _, _, rfl, _⟩ := h <;> rfl)) (fun _ _ _ _ _ _ us hl => match us, hl with | [_, _], _ => rfl) (fun f cdv A outer sh H vs Q E hr h => ?_)
  obtain ⟨W, rfl, s, ds, dd, hv, hR, q⟩ := h
  obtain ⟨room, t, nd, rfl, hr1, hr2, hT, hnd, rfl⟩ := hR
  obtain ⟨v0, v1, rfl, h0, h1⟩ := hv.inv2
  refine ⟨_, (pss_cons (ps_set (i := 2) sc_law_led.nd rfl (.inl rfl) (pe_lst pa_nil))
      (pss_cons (ps_for PassesOwn.never rfl (kpi_list (K := K) rfl (pv 1)) (pg_name (i := 3) sc_law_led.nd rfl (.inl rfl))
      (pss_one (ps_if (pt_cmpR op_isN (pv 3) pe_non (nomark _))
      (pss_cons (ps_set (i := 4) sc_law_led.nd rfl (.inl rfl) (kBM0 (K := K) rfl (pe_bm0 PySem.F.plainAttrs_list PySem.F.slot_list_pop PySem.F.type_list_pop mt_pop (pv 2))))
      (pss_cons (ps_set (i := 5) sc_law_led.nd rfl (.inl rfl) (kBM0 (K := K) rfl (pe_bm0 PySem.F.plainAttrs_list PySem.F.slot_list_pop PySem.F.type_list_pop mt_pop (pv 2))))
      (pss_cons (ps_set (i := 6) sc_law_led.nd rfl (.inl rfl) (pe_op op_add (pe_ix (kIxT (K := K) rfl) (pv 5) pe_int (fun _ _ => rfl)) (pe_ix (kIxT (K := K) rfl) (pv 4) pe_int (fun _ _ => rfl))))
      (pss_one (ps_expr (kBM (K := K) rfl (pe_bm PySem.F.plainAttrs_list PySem.F.slot_list_append PySem.F.type_list_append mt_append (pv 2) (pa_cons (pe_tup (pa_cons (pv 6) (pa_cons (pe_cal c_law_thinned (hr.mono (by decide)) (by rfl) (pa_cons (pv 0) (pa_cons (pv 6) (pa_cons (pe_cal c_law_added (hr.mono (by decide)) (by rfl) (pa_cons (pv 5) (pa_cons (pv 4) pa_nil))) pa_nil)))) pa_nil))) pa_nil))))))))
      (pss_one (ps_expr (kBM (K := K) rfl (pe_bm PySem.F.plainAttrs_list PySem.F.slot_list_append PySem.F.type_list_append mt_append (pv 2) (pa_cons (pe_tup (pa_cons (pe_callB (kLen (K := K) rfl) (by rfl) B.z_len (by decide +kernel) (pa_cons (pv 3) pa_nil)) (pa_cons (pe_cal c_law_thinned (hr.mono (by decide)) (by rfl) (pa_cons (pv 0) (pa_cons (pe_callB (kLen (K := K) rfl) (by rfl) B.z_len (by decide +kernel) (pa_cons (pv 3) pa_nil)) (pa_cons (pe_cal c_law_exact (hr.mono (by decide)) (by rfl) (pa_cons (pv 3) pa_nil)) pa_nil)))) pa_nil))) pa_nil))))))))
      (pss_one (ps_ret (pe_ix (kIxL (K := K) rfl) (pv 2) pe_int (fun _ _ => rfl)))))), ?_⟩
  cases h0
  refine q_newL fun l hl => ?_
  have a0 : Acc W (W.set l (.lst [])) l [] := Acc.start (.refl s) hl
  refine q_forL a0.le.s (ev_var rfl (h1.mono a0.le.g)) fun W1 e1 => ⟨fun i σ' W' => ∃ y3 y4 y5 y6 : Option V, σ' = [some (.int room), some v1, some (.ref l), y3, y4, y5, y6] ∧ Acc W W' l (lnMs (stAt room t i)), ⟨none, none, none, none, rfl, a0.mono e1⟩, ?_, ?_⟩
  · rintro i σ' W' x d hd g s' hx ⟨y3, y4, y5, y6, rfl, a⟩
    obtain ⟨st, hst, rfl⟩ := map_at hd
    refine st_if s' (eb_test (ev_isN (ev_var rfl hx))) (fun hb W3 e3 => ?_) (fun hb W3 e3 => ?_)
    · cases st with
      | some ks => cases hb
      | none =>
        obtain ⟨xn, yn, r, hs, ox, oy, hsum, hnx, hrl⟩ := pile2 hr1 hT hst
        rw [hs, lnMs_cons, lnMs_cons] at a
        refine q_popA (a.mono e3) rfl fun v4 o4 kv4 a4 => ?_
        have a4' := a4
        refine q_popA a4' rfl fun v5 o5 kv5 a5 => ?_
        have lx := ox.len
        have ly := oy.len
        have mx := ox.many
        have my := oy.many
        have al := added_len xn.many xn.ms yn.many yn.ms
        refine q_asg a5.le.s (d := .int (xn.many + yn.many)) (ev_opI (f := fun i j => i + j) (ev_ixT (ds := [.int xn.many, .list (xn.ms.map lmD)]) rfl (ev_var rfl kv5) ev_int) (ev_ixT (ds := [.int yn.many, .list (yn.ms.map lmD)]) rfl (ev_var rfl kv4) ev_int)) fun v6 W6 e6 k6 => ?_
        cases k6
        have kv4' := kv4.mono e6.g
        have kv5' := kv5.mono e6.g
        refine st_appA (d := lnD (xn.many + yn.many) (thin room (xn.many + yn.many) (added xn.many xn.ms yn.many yn.ms))) (a5.mono e6) rfl (by rw [lnMs_len]; omega) (ev_tup (ea_cons (ev_var rfl (.int _)) (ea_cons (ev_call (ea_cons (ev_var rfl (.int _)) (ea_cons (ev_var rfl (.int _)) (ea_cons (ev_call (ea_cons (ev_var rfl kv5') (ea_cons (ev_var rfl kv4') ea_nil)) ⟨xn.many, xn.ms, yn.many, yn.ms, rfl, by omega, by omega, rfl⟩) ea_nil))) ⟨room, xn.many + yn.many, added xn.many xn.ms yn.many yn.ms, rfl, by omega, by omega, by omega, rfl⟩) ea_nil)) (by show 2 ≤ 100000; decide)) fun W7 o7 e7 a7 => ?_
        refine ⟨W7.set l o7, rfl, ((g.trans e3.g).trans e6.g).trans e7.g, a7.le.s, some x, some v4, some v5, some (.int (xn.many + yn.many)), rfl, ?_⟩
        rw [hnx, lnMs_cons]
        exact a7
    · cases st with
      | none => cases hb
      | some ks =>
        obtain ⟨hnx, hks, hrl⟩ := pile1 (room := room) hT hst
        have hx3 := hx.mono e3.g
        have el := exact_len ks
        have kl : EvD (tCB (rLenK K) (tCons (tVar 3) tNil)) [some (.int room), some v1, some (.ref l), some x, y4, y5, y6] W3 (.int (ks.length : Int)) := ev_is (ev_lenL (ds := ks.map PyData.int) (ev_var rfl hx3)) (by rw [List.length_map])
        refine st_appA (d := lnD (leafN room ks).many (leafN room ks).ms) (a.mono e3) rfl (by rw [lnMs_len]; omega) (ev_tup (ea_cons kl (ea_cons (ev_call (ea_cons (ev_var rfl (.int _)) (ea_cons kl (ea_cons (ev_call (ea_cons (ev_var rfl hx3) ea_nil) ⟨ks, rfl, by omega, rfl⟩) ea_nil))) ⟨room, (ks.length : Int), exact_ ks, rfl, by omega, by omega, by omega, rfl⟩) ea_nil)) (by show 2 ≤ 100000; decide)) fun W7 o7 e7 a7 => ?_
        refine ⟨W7.set l o7, rfl, (g.trans e3.g).trans e7.g, a7.le.s, some x, y4, y5, y6, rfl, ?_⟩
        rw [hnx, lnMs_cons]
        exact a7
  · rintro σ' W' g s' ⟨y3, y4, y5, y6, rfl, a⟩
    rw [List.length_map, hnd] at a
    obtain ⟨o, e4, hd, hg, _⟩ := a.frz
    exact st_ret (W := W'.frz l o) e4.s (ev_ixL (ds := [lnD nd.many nd.ms]) rfl (ev_var rfl hd) ev_int) fun v W5 e5 hv => q v W5 (e4.trans e5) hv
/-! ### _law_bound -/
abbrev sc_N_law_bound : List Str := ["_law_room", "_law_steps_here", "_law_pile", "_law_keys", "_law_other", "_law_one_here", "_law_many", "_law_names", "_law_add", "_law_key"]
theorem sc_law_bound : FnScope ["_law_room", "_law_steps_here", "_law_pile", "_law_keys", "_law_other", "_law_one_here", "_law_many", "_law_names", "_law_add", "_law_key"] ["_law_room", "_law_steps_here"] (defScope s_law_bound) := ⟨rfl, rfl, rfl, by decide +kernel, rfl, by decide +kernel, by decide +kernel⟩
def rl_law_bound : List PyData → PyData → Prop := fun ds d => ∃ (room : Int) (t : List Stp) (nd : Nd), ds = [.int room, .list (t.map lstepD)] ∧ 1 ≤ room ∧ room ≤ 64 ∧ TreeOk t ∧ stAt room t t.length = [nd] ∧ d = .int nd.bd
theorem ok_law_bound (B : Bl mg) (S : Stand K mg d_law_bound) : Cal P w K mg base "_law_bound" 1 ["_law_room", "_law_steps_here"] (pureSp rl_law_bound) := by
  refine cal_mk S sc_law_bound (pure_len (fun ds d h => by obtain ⟨_, _, _, rfl, _⟩ := h <;> rfl)) (fun _ _ _ _ _ _ us hl => match us, hl with | [_, _], _ => rfl) (fun f cdv A outer sh H vs Q E hr h => ?_)
  obtain ⟨W, rfl, s, ds, dd, hv, hR, q⟩ := h
  obtain ⟨room, t, nd, rfl, hr1, hr2, hT, hnd, rfl⟩ := hR
  obtain ⟨v0, v1, rfl, h0, h1⟩ := hv.inv2
  refine ⟨_, (pss_cons (ps_set (i := 2) sc_law_bound.nd rfl (.inl rfl) (pe_lst pa_nil))
      (pss_cons (ps_for PassesOwn.never rfl (kpi_list (K := K) rfl (pv 1)) (pg_name (i := 3) sc_law_bound.nd rfl (.inl rfl))
      (pss_one (ps_if (pt_cmpR op_isN (pv 3) pe_non (nomark _))
      (pss_cons (ps_set (i := 4) sc_law_bound.nd rfl (.inl rfl) (kBM0 (K := K) rfl (pe_bm0 PySem.F.plainAttrs_list PySem.F.slot_list_pop PySem.F.type_list_pop mt_pop (pv 2))))
      (pss_cons (ps_set (i := 5) sc_law_bound.nd rfl (.inl rfl) (kBM0 (K := K) rfl (pe_bm0 PySem.F.plainAttrs_list PySem.F.slot_list_pop PySem.F.type_list_pop mt_pop (pv 2))))
      (pss_cons (ps_set (i := 6) sc_law_bound.nd rfl (.inl rfl) (pe_op op_add (pe_ix (kIxT (K := K) rfl) (pv 5) pe_int (fun _ _ => rfl)) (pe_ix (kIxT (K := K) rfl) (pv 4) pe_int (fun _ _ => rfl))))
      (pss_cons (ps_set (i := 7) sc_law_bound.nd rfl (.inl rfl) (pe_callTy call_dictD (by rfl) B.z_dict (by decide +kernel) (pa_cons (pe_ix (kIxT (K := K) rfl) (pv 5) pe_int (fun _ _ => rfl)) pa_nil)))
      (pss_cons (ps_expr (kBM (K := K) rfl (pe_bm PySem.F.plainAttrs_dict PySem.F.slot_dict_update PySem.F.type_dict_update mt_dupd (pv 7) (pa_cons (pe_ix (kIxT (K := K) rfl) (pv 4) pe_int (fun _ _ => rfl)) pa_nil))))
      (pss_cons (ps_set (i := 8) sc_law_bound.nd rfl (.inl rfl) (pe_callB (call_max2 rfl) (by rfl) B.z_max (by decide +kernel) (pa_cons pe_int (pa_cons (pe_op op_sub (pe_op op_fdiv (pe_op op_sub (pe_op op_add (pv 6) (pv 0)) pe_int) (pv 0)) pe_int) pa_nil))))
      (Evl.pss_cut (ps_if (pt_cmpR op_le (pe_callB call_lenD (by rfl) B.z_len (by decide +kernel) (pa_cons (pv 7) pa_nil)) (pv 0) (nomark _))
      (pss_one (ps_set (i := 8) sc_law_bound.nd rfl (.inl rfl) pe_int))
      pss_nil)
      (pss_one (ps_expr (kBM (K := K) rfl (pe_bm PySem.F.plainAttrs_list PySem.F.slot_list_append PySem.F.type_list_append mt_append (pv 2) (pa_cons (pe_tup (pa_cons (pv 6) (pa_cons (pe_op op_add (pe_op op_add (pe_ix (kIxT (K := K) rfl) (pv 5) pe_int (fun _ _ => rfl)) (pe_ix (kIxT (K := K) rfl) (pv 4) pe_int (fun _ _ => rfl))) (pv 8)) (pa_cons (pv 7) pa_nil)))) pa_nil))))))))))))
      (pss_cons (ps_set (i := 7) sc_law_bound.nd rfl (.inl rfl) pe_dnewK)
      (pss_cons (ps_for PassesOwn.never rfl (kpi_list (K := K) rfl (pv 3)) (pg_name (i := 9) sc_law_bound.nd rfl (.inl rfl))
      (pss_one (ps_dput (hu_of hr) (pv 7) (pv 9) pe_bl rfl)))
      (pss_cons (ps_set (i := 8) sc_law_bound.nd rfl (.inl rfl) (pe_callB (call_max2 rfl) (by rfl) B.z_max (by decide +kernel) (pa_cons pe_int (pa_cons (pe_op op_sub (pe_op op_fdiv (pe_op op_sub (pe_op op_add (pe_callB (kLen (K := K) rfl) (by rfl) B.z_len (by decide +kernel) (pa_cons (pv 3) pa_nil)) (pv 0)) pe_int) (pv 0)) pe_int) pa_nil))))
      (Evl.pss_cut (ps_if (pt_cmpR op_le (pe_callB call_lenD (by rfl) B.z_len (by decide +kernel) (pa_cons (pv 7) pa_nil)) (pv 0) (nomark _))
      (pss_one (ps_set (i := 8) sc_law_bound.nd rfl (.inl rfl) pe_int))
      pss_nil)
      (pss_one (ps_expr (kBM (K := K) rfl (pe_bm PySem.F.plainAttrs_list PySem.F.slot_list_append PySem.F.type_list_append mt_append (pv 2) (pa_cons (pe_tup (pa_cons (pe_callB (kLen (K := K) rfl) (by rfl) B.z_len (by decide +kernel) (pa_cons (pv 3) pa_nil)) (pa_cons (pv 8) (pa_cons (pv 7) pa_nil)))) pa_nil))))))))))))
      (pss_one (ps_ret (pe_ix (kIxT (K := K) rfl) (pe_ix (kIxL (K := K) rfl) (pv 2) pe_int (fun _ _ => rfl)) pe_int (fun _ _ => rfl)))))), ?_⟩
  cases h0
  have hcd : ∀ i : Int, CDiv i room := fun i => ⟨by omega, by omega⟩
  refine q_newL fun l hl => ?_
  have a0 : Acc W (W.set l (.lst [])) l [] := Acc.start (.refl s) hl
  refine q_forL a0.le.s (ev_var rfl (h1.mono a0.le.g)) fun W1 e1 => ⟨fun i σ' W' => ∃ y3 y4 y5 y6 y7 y8 y9 : Option V, σ' = [some (.int room), some v1, some (.ref l), y3, y4, y5, y6, y7, y8, y9] ∧ Acc W W' l (bdMs (stAt room t i)), ⟨none, none, none, none, none, none, none, rfl, a0.mono e1⟩, ?_, ?_⟩
  · rintro i σ' W' x d hd g s' hx ⟨y3, y4, y5, y6, y7, y8, y9, rfl, a⟩
    obtain ⟨st, hst, rfl⟩ := map_at hd
    refine st_if s' (eb_test (ev_isN (ev_var rfl hx))) (fun hb W3 e3 => ?_) (fun hb W3 e3 => ?_)
    · cases st with
      | some ks => cases hb
      | none =>
        obtain ⟨xn, yn, r, hs, ox, oy, hsum, hnx, hrl⟩ := pile2 hr1 hT hst
        have nx := nm_len ox
        have ny := nm_len oy
        rw [hs, bdMs_cons, bdMs_cons] at a
        refine q_popA (a.mono e3) rfl fun v4 o4 kv4 a4 => ?_
        refine q_popA a4 rfl fun v5 o5 kv5 a5 => ?_
        refine q_asg a5.le.s (d := .int (xn.many + yn.many)) (ev_opI (f := fun i j => i + j) (ev_ixT (ds := [.int xn.many, .int xn.bd, namesD xn.nm]) rfl (ev_var rfl kv5) ev_int) (ev_ixT (ds := [.int yn.many, .int yn.bd, namesD yn.nm]) rfl (ev_var rfl kv4) ev_int)) fun v6 W6 e6 k6 => ?_
        cases k6
        have a6 := a5.mono e6
        refine q_dcopy a6.le.s (ev_ixT (ds := [.int xn.many, .int xn.bd, namesD xn.nm]) rfl (ev_var rfl (kv5.mono e6.g)) ev_int) fun n W7 b7 => ?_
        have a7 := a6.mono b7.le
        have ne : l ≠ n := fun c => a6.at_ (c ▸ b7.new)
        have hnW : W.H n = none := a6.le.h.back b7.new
        have kv4' := (kv4.mono e6.g).mono b7.le.g
        have kv5' := (kv5.mono e6.g).mono b7.le.g
        refine q_dupd b7 rfl (by omega) (ev_ixT (ds := [.int yn.many, .int yn.bd, namesD yn.nm]) rfl (ev_var rfl kv4') ev_int) fun W8 o8 e8 b8 => ?_
        have a8 : Acc W (W8.set n o8) l (bdMs r) := (a7.mono e8).other hnW b8.out ne
        let e0 : Int := (xn.many + yn.many + room - 1) / room - 1
        refine q_asg b8.le.s (d := .int (if e0 > 0 then e0 else 0)) (ev_max2 ev_int (ev_opI (f := fun i j => i - j) (ev_opC (f := fun i j => i / j) (hcd _) (ev_opI (f := fun i j => i - j) (ev_opI (f := fun i j => i + j) (ev_var rfl (.int _)) (ev_var rfl (.int _))) ev_int) (ev_var rfl (.int _))) ev_int)) fun v9 W9 e9 k9 => ?_
        cases k9
        have a9 := a8.mono e9
        have b9 := b8.mono e9
        refine ⟨fun σ2 H2 => ∃ W10 : Wd, H2 = W10.H ∧ σ2 = [some (.int room), some v1, some (.ref l), some x, some v4, some v5, some (.int (xn.many + yn.many)), some (.ref n), some (.int (addB room (xn.many + yn.many) (yn.nm.foldl insK xn.nm))), y9] ∧ Ex W9.G W10.G ∧ Acc W W10 l (bdMs r) ∧ AccD W6 W10 n (yn.nm.foldl insK xn.nm) tru, ?_, ?_⟩
        · refine st_if b9.le.s (eb_test (ev_opB (ev_lenK b9 rfl) (ev_var rfl (.int _)))) (fun hb W10 e10 => ?_) (fun hb W10 e10 => ?_)
          · refine st_asg e10.s ev_int fun v W11 e11 k11 => ?_
            cases k11
            refine ⟨W11, rfl, ?_, e10.g.trans e11.g, (a9.mono e10).mono e11, (b9.mono e10).mono e11⟩
            unfold addB
            rw [if_pos (of_decide_eq_true hb)]
            rfl
          · refine ⟨W10, rfl, ?_, e10.g, a9.mono e10, b9.mono e10⟩
            unfold addB
            rw [if_neg (of_decide_eq_false hb)]
            rfl
        · rintro σ2 H2 ⟨W10, rfl, rfl, g10, a10, b10⟩
          obtain ⟨o, e11, hd11, hg11, hh11⟩ := b10.frz
          have a11 : Acc W (W10.frz n o) l (bdMs r) := a10.frzG hnW b10.out hh11 ne
          have kv4'' := (((kv4'.mono e8.g).mono e9.g).mono g10).mono hg11
          have kv5'' := (((kv5'.mono e8.g).mono e9.g).mono g10).mono hg11
          refine st_appA (W := W10.frz n o) (d := bdD (pourN room xn yn)) a11 rfl (by rw [bdMs_len]; omega) (ev_tup (ea_cons (ev_var rfl (.int _)) (ea_cons (ev_opI (f := fun i j => i + j) (ev_opI (f := fun i j => i + j) (ev_ixT (ds := [.int xn.many, .int xn.bd, namesD xn.nm]) rfl (ev_var rfl kv5'') ev_int) (ev_ixT (ds := [.int yn.many, .int yn.bd, namesD yn.nm]) rfl (ev_var rfl kv4'') ev_int)) (ev_var rfl (.int _))) (ea_cons (ev_var rfl hd11) ea_nil))) (by show 3 ≤ 100000; decide)) fun W12 o12 e12 a12 => ?_
          refine ⟨W12.set l o12, rfl, ((((((((g.trans e3.g).trans e6.g).trans b7.le.g).trans e8.g).trans e9.g).trans g10).trans hg11).trans e12.g), a12.le.s, some x, some v4, some v5, some (.int (xn.many + yn.many)), some (.ref n), _, y9, rfl, ?_⟩
          rw [hnx, bdMs_cons]
          exact a12
    · cases st with
      | none => cases hb
      | some ks =>
        obtain ⟨hnx, hks, hrl⟩ := pile1 (room := room) hT hst
        have a3 := a.mono e3
        have hx3 := hx.mono e3.g
        refine q_newK fun n hn => ?_
        have ne : l ≠ n := fun c => a3.at_ (c ▸ hn)
        have hnW : W.H n = none := a3.le.h.back hn
        have b4 : AccD W3 (W3.set n (.dK [])) n [] tru := AccD.start (.refl e3.s) hn
        have a4 : Acc W (W3.set n (.dK [])) l (bdMs (stAt room t i)) := a3.other hnW b4.out ne
        refine q_forL (ds := ks.map PyData.int) b4.le.s (ev_var rfl (hx3.mono b4.le.g)) fun W5 e5 => ⟨fun j σ' W' => ∃ y9 : Option V, σ' = [some (.int room), some v1, some (.ref l), some x, y4, y5, y6, some (.ref n), y8, y9] ∧ Acc W W' l (bdMs (stAt room t i)) ∧ AccD W3 W' n ((ks.take j).foldl insK []) tru, ⟨y9, rfl, a4.mono e5, b4.mono e5⟩, ?_, ?_⟩
        · rintro j σ' W' xk d hd g s' hxk ⟨y9, rfl, a6, b6⟩
          obtain ⟨k, hk, rfl⟩ := map_at hd
          have hlen := len_ins (ks.take j) []
          rw [List.length_take] at hlen
          have z0 : ([] : List Int).length = 0 := rfl
          refine st_dputT b6 rfl (by omega) (ev_var rfl hxk) fun W7 o7 e7 b7 => ⟨W7.set n o7, rfl, g.trans e7.g, b7.le.s, some xk, rfl, (a6.mono e7).other hnW b7.out ne, ?_⟩
          rw [take_snoc hk, List.foldl_append]
          exact b7
        · rintro σ' W8 g8 s8 ⟨y9, rfl, a8, b8⟩
          rw [List.length_map, List.take_length] at b8
          have kl : ∀ (y9 y8 : Option V) (W9 : Wd), Ex W8.G W9.G → EvD (tCB (rLenK K) (tCons (tVar 3) tNil)) [some (.int room), some v1, some (.ref l), some x, y4, y5, y6, some (.ref n), y8, y9] W9 (.int (ks.length : Int)) := fun y9 y8 W9 g9 => ev_is (ev_lenL (ds := ks.map PyData.int) (ev_var rfl ((((hx3.mono b4.le.g).mono e5.g).mono g8).mono g9))) (by rw [List.length_map])
          let e0 : Int := ((ks.length : Int) + room - 1) / room - 1
          refine q_asg b8.le.s (d := .int (if e0 > 0 then e0 else 0)) (ev_max2 ev_int (ev_opI (f := fun i j => i - j) (ev_opC (f := fun i j => i / j) (hcd _) (ev_opI (f := fun i j => i - j) (ev_opI (f := fun i j => i + j) (kl _ _ W8 (Ex.refl _)) (ev_var rfl (.int _))) ev_int) (ev_var rfl (.int _))) ev_int)) fun v9 W9 e9 k9 => ?_
          cases k9
          have a9 := a8.mono e9
          have b9 := b8.mono e9
          refine ⟨fun σ2 H2 => ∃ W10 : Wd, H2 = W10.H ∧ σ2 = [some (.int room), some v1, some (.ref l), some x, y4, y5, y6, some (.ref n), some (.int (addB room (ks.length : Int) (ks.foldl insK []))), y9] ∧ Ex W9.G W10.G ∧ Acc W W10 l (bdMs (stAt room t i)) ∧ AccD W3 W10 n (ks.foldl insK []) tru, ?_, ?_⟩
          · refine st_if b9.le.s (eb_test (ev_opB (ev_lenK b9 rfl) (ev_var rfl (.int _)))) (fun hb W10 e10 => ?_) (fun hb W10 e10 => ?_)
            · refine st_asg e10.s ev_int fun v W11 e11 k11 => ?_
              cases k11
              refine ⟨W11, rfl, ?_, e10.g.trans e11.g, (a9.mono e10).mono e11, (b9.mono e10).mono e11⟩
              unfold addB
              rw [if_pos (of_decide_eq_true hb)]
              rfl
            · refine ⟨W10, rfl, ?_, e10.g, a9.mono e10, b9.mono e10⟩
              unfold addB
              rw [if_neg (of_decide_eq_false hb)]
              rfl
          · rintro σ2 H2 ⟨W10, rfl, rfl, g10, a10, b10⟩
            obtain ⟨o, e11, hd11, hg11, hh11⟩ := b10.frz
            have a11 : Acc W (W10.frz n o) l (bdMs (stAt room t i)) := a10.frzG hnW b10.out hh11 ne
            refine st_appA (W := W10.frz n o) (d := bdD (leafN room ks)) a11 rfl (by rw [bdMs_len]; omega) (ev_tup (ea_cons (kl _ _ _ ((e9.g.trans g10).trans hg11)) (ea_cons (ev_var rfl (.int _)) (ea_cons (ev_var rfl hd11) ea_nil))) (by show 3 ≤ 100000; decide)) fun W12 o12 e12 a12 => ?_
            refine ⟨W12.set l o12, rfl, (((((((g.trans e3.g).trans b4.le.g).trans e5.g).trans g8).trans e9.g).trans g10).trans hg11).trans e12.g, a12.le.s, some x, y4, y5, y6, some (.ref n), _, y9, rfl, ?_⟩
            rw [hnx, bdMs_cons]
            exact a12
  · rintro σ' W' g s' ⟨y3, y4, y5, y6, y7, y8, y9, rfl, a⟩
    rw [List.length_map, hnd] at a
    obtain ⟨o, e4, hd, hg, _⟩ := a.frz
    exact st_ret (W := W'.frz l o) e4.s (ev_ixT (ds := [.int nd.many, .int nd.bd, namesD nd.nm]) rfl (ev_ixL (ds := [bdD nd]) rfl (ev_var rfl hd) ev_int) ev_int) fun v W5 e5 hv => q v W5 (e4.trans e5) hv
/-! ### _law_place_right -/
abbrev sc_N_law_place_right : List Str := ["_law_ranks", "_law_tree_here", "_law_place", "_law_due", "_law_told"]
theorem sc_law_place_right : FnScope ["_law_ranks", "_law_tree_here", "_law_place", "_law_due", "_law_told"] ["_law_ranks", "_law_tree_here", "_law_place", "_law_due"] (defScope s_law_place_right) := ⟨rfl, rfl, rfl, by decide +kernel, rfl, by decide +kernel, by decide +kernel⟩
def rl_law_place_right : List PyData → PyData → Prop := fun ds d => ∃ (room many : Int) (ms : List Mk) (t : List Stp) (key : Int) (up : Bool) (due : Int), ds = [rkD room many ms, treeD t, placeD key (sideI up), .int due] ∧ RkOk room many ms ∧ TreeOk t ∧ due = cnt up (itemsOf t) key ∧ (endsP many key up ms).1 ≤ due ∧ due ≤ (endsP many key up ms).2 ∧ d = .bool true
theorem ok_law_place_right (B : Bl mg) (S : Stand K mg d_law_place_right) (c_ends_at : Cal P w K mg base "ends_at" 7 ["ranks", "place"] (pureSp rl_ends_at)) (c_law_same : Cal P w K mg base "_law_same" 8 ["_law_actual", "_law_due"] (pureSp rl_law_same)) (c_rank_at : Cal P w K mg base "rank_at" 8 ["tree", "place"] (pureSp rl_rank_at)) : Cal P w K mg base "_law_place_right" 9 ["_law_ranks", "_law_tree_here", "_law_place", "_law_due"] (pureSp rl_law_place_right) := by
  refine cal_mk S sc_law_place_right (pure_len (fun ds d h => by obtain ⟨_, _, _, _, _, _, _, rfl, _⟩ := h <;> rfl)) (fun _ _ _ _ _ _ us hl => match us, hl with | [_, _, _, _], _ => rfl) (fun f cdv A outer sh H vs Q E hr h => ?_)
  obtain ⟨W, rfl, s, ds, dd, hv, hR, q⟩ := h
  obtain ⟨room, many, ms, t, key, up, due, rfl, hk, hT, hdue, hlo, hhi, rfl⟩ := hR
  obtain ⟨v0, v1, v2, v3, rfl, h0, h1, h2, h3⟩ := hv.inv4
  refine ⟨_, (pss_cons (ps_set (i := 4) sc_law_place_right.nd rfl (.inl rfl) (pe_cal c_ends_at (hr.mono (by decide)) (by rfl) (pa_cons (pv 0) (pa_cons (pv 2) pa_nil))))
      (pss_cons (ps_if (PW.pt (pw_or (pt_not (pt_val (pe_callB (kIsi (K := K) rfl) (by rfl) B.z_isinstance (by decide +kernel) (pa_cons (pv 4) (pa_cons (pe_bltn (v := .ty "tuple") (by rfl) B.z_tuple (by decide +kernel) rfl) pa_nil))))) (pw_or (pt_cmpR op_ne (pe_callB (kLen (K := K) rfl) (by rfl) B.z_len (by decide +kernel) (pa_cons (pv 4) pa_nil)) pe_int (nomark _)) (pw_or1 (pt_not (pt_chain op_le op_le (pe_ix (kIxT (K := K) rfl) (pv 4) pe_int (fun _ _ => rfl)) (pv 3) (pe_ix (kIxT (K := K) rfl) (pv 4) pe_int (fun _ _ => rfl))))))))
      (pss_one (ps_ret pe_bl))
      pss_nil)
      (pss_one (ps_ret (pe_cal c_law_same (hr.mono (by decide)) (by rfl) (pa_cons (pe_cal c_rank_at (hr.mono (by decide)) (by rfl) (pa_cons (pv 1) (pa_cons (pv 2) pa_nil))) (pa_cons (pv 3) pa_nil))))))), ?_⟩
  refine q_asg s (ev_call (ea_cons (ev_var rfl h0) (ea_cons (ev_var rfl h2) ea_nil)) ⟨room, many, ms, key, up, rfl, hk, rfl⟩) fun v4 W1 e1 k4 => ?_
  have h13 := h3.mono e1.g
  refine q_if e1.s (b := false) (eb_or (b := false) (c := false) (eb_not (b := true) (eb_B (ev_isi (ev_var rfl k4) kit_tuple_tuple))) fun _ => eb_or (b := false) (c := false) (eb_is (eb_test (ev_neI (ev_lenT (ds := [.int _, .int _]) (ev_var rfl k4)) ev_int)) (by rw [decide_eq_true (show (([PyData.int (endsP many key up ms).1, PyData.int (endsP many key up ms).2].length : Nat) : Int) = 2 from rfl)] <;> rfl)) fun _ =>
    eb_not (b := true) (eb_is (eb_test (ev_chain (ev_ixT (ds := [.int (endsP many key up ms).1, .int (endsP many key up ms).2]) rfl (ev_var rfl k4) ev_int) (ev_var rfl h13) fun _ => ev_ixT (ds := [.int (endsP many key up ms).1, .int (endsP many key up ms).2]) rfl (ev_var rfl k4) ev_int)) (by rw [decide_eq_true hlo, decide_eq_true hhi] <;> rfl))) (fun z => nomatch z) fun _ W2 e2 => ?_
  have e12 := e1.trans e2
  refine st_ret e2.s (ev_call (ea_cons (ev_is (ev_call (ea_cons (ev_var rfl (h1.mono e12.g)) (ea_cons (ev_var rfl (h2.mono e12.g)) ea_nil)) ⟨t, key, up, rfl, hT, rfl⟩) (congrArg PyData.int hdue.symm)) (ea_cons (ev_var rfl (h3.mono e12.g)) ea_nil)) ⟨.int due, rfl, SameOk.int 6 _, rfl⟩) fun v W5 e5 hv => q v W5 (e12.trans e5) hv
end
end K22
/-! ### the hat: one list of two ints that changes -/
namespace K22
open PySem PySem.Spec PyProof.Rows L2
structure Hat (a : Addr) (W : Wd) : Prop where
  s : Ex W.G W.H
  at_ : ∃ x y : Int, W.H a = some (.lst [.int x, .int y])
  out : W.G a = none
structure LeH (a : Addr) (W W' : Wd) : Prop where
  g : Ex W.G W'.G
  h : ∀ b o, b ≠ a → W.H b = some o → W'.H b = some o
  n : ∀ b, W.G b = none → W.H b ≠ none → W'.G b = none
  t : Hat a W'
theorem LeH.s {a : Addr} {W W' : Wd} (e : LeH a W W') : Ex W'.G W'.H := e.t.s
theorem LeH.refl {a : Addr} {W : Wd} (t : Hat a W) : LeH a W W := ⟨Ex.refl _, fun _ _ _ h => h, fun _ h _ => h, t⟩
theorem Hat.mono {a : Addr} {W W' : Wd} (t : Hat a W) (e : W.le W') : Hat a W' := by
  obtain ⟨x, y, h⟩ := t.at_
  exact ⟨e.s, ⟨x, y, e.h _ _ h⟩, e.out t.out h⟩
theorem LeH.of {a : Addr} {W W' : Wd} (t : Hat a W) (e : W.le W') : LeH a W W' := ⟨e.g, fun b o _ h => e.h b o h, e.n, t.mono e⟩
theorem LeH.trans {a : Addr} {W W1 W2 : Wd} (e : LeH a W W1) (f : LeH a W1 W2) : LeH a W W2 := by
  refine ⟨e.g.trans f.g, fun b o c h => f.h b o c (e.h b o c h), fun b h1 h2 => ?_, f.t⟩
  by_cases c : b = a
  · rw [c]
    exact f.t.out
  · refine f.n b (e.n b h1 h2) fun z => ?_
    cases q : W.H b with
    | none => exact h2 q
    | some o =>
      rw [e.h b o c q] at z
      cases z
theorem LeH.le {a : Addr} {W W1 W2 : Wd} (e : LeH a W W1) (f : W1.le W2) : LeH a W W2 := e.trans (.of e.t f)
theorem LeH.back {a b : Addr} {W W' : Wd} (e : LeH a W W') (t : Hat a W) (h : W'.H b = none) : W.H b = none := by
  cases q : W.H b with
  | none => rfl
  | some o =>
    by_cases c : b = a
    · obtain ⟨x, y, z⟩ := e.t.at_
      rw [c, z] at h
      cases h
    · rw [e.h b o c q] at h
      cases h
/-- the hat is drawn from -/
theorem LeH.put {a : Addr} {W W1 : Wd} (t : Hat a W) (e : W.le W1) (x y : Int) : LeH a W (W1.set a (.lst [.int x, .int y])) := by
  have t1 := t.mono e
  refine ⟨e.g, fun b o c h => ?_, e.n, ⟨e.s.up t1.out, ⟨x, y, upd_same⟩, t1.out⟩⟩
  show upd W1.H a _ b = _
  rw [upd_ne c]
  exact e.h b o h
/-- a list grows beside the hat -/
structure AccH (a : Addr) (W0 W : Wd) (l : Addr) (ds : List PyData) : Prop where
  le : LeH a W0 W
  ex : ∃ fs, W.H l = some (.lst fs) ∧ DqAll W.G fs ds
  out : W.G l = none
  new : W0.H l = none
  ne : l ≠ a
section
variable {a l m : Addr} {W0 W W' W1 : Wd} {ds es : List PyData} {d : PyData}
theorem AccH.start (t : Hat a W0) (e : LeH a W0 W1) (h : W1.H l = none) : AccH a W0 (W1.set l (.lst [])) l [] := by
  have nl := e.back t h
  have ne : l ≠ a := fun c => by
    obtain ⟨x, y, z⟩ := e.t.at_
    rw [← c, h] at z
    cases z
  obtain ⟨x, y, z⟩ := e.t.at_
  refine ⟨⟨e.g, fun b o c q => ?_, e.n, ⟨e.t.s.up (e.t.s.back h), ⟨x, y, ?_⟩, e.t.out⟩⟩, ⟨[], upd_same, .nil⟩, e.t.s.back h, nl, ne⟩
  · show upd W1.H l _ b = _
    have cb : b ≠ l := fun cb => by
      rw [cb, nl] at q
      cases q
    rw [upd_ne cb]
    exact e.h b o c q
  · show upd W1.H l _ a = _
    rw [upd_ne (Ne.symm ne)]
    exact z
theorem AccH.mono (x : AccH a W0 W l ds) (e : LeH a W W') : AccH a W0 W' l ds := by
  obtain ⟨fs, h1, h2⟩ := x.ex
  exact ⟨x.le.trans e, ⟨fs, e.h _ _ x.ne h1, h2.mono e.g⟩, e.n _ x.out (by rw [h1]; exact fun z => nomatch z), x.new, x.ne⟩
theorem AccH.set_le {o : HO} (x : AccH a W0 W l ds) : LeH a W0 (W.set l o) := by
  refine ⟨x.le.g, fun b o c q => ?_, x.le.n, ⟨x.le.t.s.up x.out, ?_, x.le.t.out⟩⟩
  · show upd W.H l _ b = _
    have cb : b ≠ l := fun cb => by
      have n := x.new
      rw [cb, n] at q
      cases q
    rw [upd_ne cb]
    exact x.le.h b o c q
  · obtain ⟨p, q, z⟩ := x.le.t.at_
    refine ⟨p, q, ?_⟩
    show upd W.H l _ a = _
    rw [upd_ne (Ne.symm x.ne)]
    exact z
theorem AccH.set {fs : List V} (x : AccH a W0 W l ds) (r : DqAll W.G fs es) : AccH a W0 (W.set l (.lst fs)) l es := ⟨x.set_le, ⟨fs, upd_same, r⟩, x.out, x.new, x.ne⟩
/-- another list of the same kind changes -/
theorem AccH.other {o : HO} {es : List PyData} (x : AccH a W0 W l ds) (y : AccH a W1 W m es) (hm : W0.H m = none) (ne : l ≠ m) : AccH a W0 (W.set m o) l ds := by
  obtain ⟨fs, h1, h2⟩ := x.ex
  refine ⟨⟨x.le.g, fun b o c q => ?_, x.le.n, ⟨x.le.t.s.up y.out, ?_, x.le.t.out⟩⟩, ⟨fs, ?_, h2⟩, x.out, x.new, x.ne⟩
  · show upd W.H m _ b = _
    have cb : b ≠ m := fun cb => by
      rw [cb, hm] at q
      cases q
    rw [upd_ne cb]
    exact x.le.h b o c q
  · obtain ⟨p, q, z⟩ := x.le.t.at_
    refine ⟨p, q, ?_⟩
    show upd W.H m _ a = _
    rw [upd_ne (Ne.symm y.ne)]
    exact z
  · show upd W.H m _ l = _
    rw [upd_ne ne]
    exact h1
theorem AccH.at_ (x : AccH a W0 W l ds) : W.H l ≠ none := by
  obtain ⟨fs, h1, _⟩ := x.ex
  rw [h1]
  exact fun z => nomatch z
/-- it grows no more -/
theorem AccH.frz (x : AccH a W0 W l ds) : ∃ fs, LeH a W0 (W.frz l (.lst fs)) ∧ Dq (W.frz l (.lst fs)).G (.ref l) (.list ds) ∧ Ex W.G (W.frz l (.lst fs)).G ∧ W.H l = some (.lst fs) ∧ Hat a (W.frz l (.lst fs)) := by
  obtain ⟨fs, h1, h2⟩ := x.ex
  have e : Ex W.G (W.frz l (.lst fs)).G := (Ex.refl W.G).up x.out
  have t : Hat a (W.frz l (.lst fs)) := by
    refine ⟨fun b u hb => ?_, x.le.t.at_, ?_⟩
    · by_cases c : b = l
      · subst c
        have q : upd W.G b (.lst fs) b = some u := hb
        rw [upd_same] at q
        cases q
        exact h1
      · have q : upd W.G l (.lst fs) b = some u := hb
        rw [upd_ne c] at q
        exact x.le.t.s b u q
    · show upd W.G l _ a = none
      rw [upd_ne (Ne.symm x.ne)]
      exact x.le.t.out
  refine ⟨fs, ⟨x.le.g.trans e, x.le.h, fun b p q => ?_, t⟩, .lst upd_same (h2.mono e), e, h1, t⟩
  show upd W.G l _ b = none
  have cb : b ≠ l := fun cb => q (by rw [cb]; exact x.new)
  rw [upd_ne cb]
  exact x.le.n b p q
theorem AccH.frzO {fs : List V} (x : AccH a W0 W l ds) (hm : W0.H m = none) (t : Hat a (W.frz m (.lst fs))) (hg : W.G m = none) (ne : l ≠ m) : AccH a W0 (W.frz m (.lst fs)) l ds := by
  obtain ⟨xs, h1, h2⟩ := x.ex
  have e : Ex W.G (W.frz m (.lst fs)).G := (Ex.refl W.G).up hg
  refine ⟨⟨x.le.g.trans e, x.le.h, fun b p q => ?_, t⟩, ⟨xs, h1, h2.mono e⟩, (upd_ne ne).trans x.out, x.new, x.ne⟩
  show upd W.G m _ b = none
  have cb : b ≠ m := fun cb => q (by rw [cb]; exact hm)
  rw [upd_ne cb]
  exact x.le.n b p q
end
/-- a def that draws from the hat: for these arguments this is promised of what it hands back -/
def hatSp (R : List PyData → (PyData → Prop) → Prop) : Sp := fun vs H Q _ => ∃ (W : Wd) (a : Addr) (us : List V) (ds : List PyData) (P : PyData → Prop), H = W.H ∧ Hat a W ∧ vs = .ref a :: us ∧ DqAll W.G us ds ∧ R ds P ∧ ∀ v d W', LeH a W W' → Dq W'.G v d → P d → Q v W'.H
theorem hat_len {R : List PyData → (PyData → Prop) → Prop} {n : Nat} (h : ∀ ds P, R ds P → ds.length + 1 = n) : ∀ vs H Q E, hatSp R vs H Q E → vs.length = n := fun vs H Q E q => by
  obtain ⟨W, a, us, ds, P, _, _, rfl, h1, h2, _⟩ := q
  rw [List.length_cons, h1.length]
  exact h ds P h2
def EvH (te : TE) (σ : L2.St) (W : Wd) (a : Addr) (P : PyData → Prop) : Prop := ∀ Q : VK, (∀ v d W', LeH a W W' → Dq W'.G v d → P d → Q v W'.H) → te σ W.H Q
section
variable {K : PySem.W.Frag} {σ : L2.St} {W W0 : Wd} {a l : Addr} {ta tb te : TE} {tr : TA} {t : TT} {tu tw tz : TS} {D : Ends} {P : PyData → Prop} {R : List PyData → (PyData → Prop) → Prop} {ds : List PyData} {d : PyData} {E : XK} {i j z : Int}
theorem evh_call {n : Nat} (hn : σ[n]? = some (some (.ref a))) (ht : Hat a W) (h : EvA tr σ W ds) (hR : R ds P) : EvH (tCall (hatSp R) [] E (tCons (tVar n) tr)) σ W a P := fun Q q =>
  ⟨.ref a, hn, h W (.refl ht.s) _ fun vs W2 e2 h2 => by
    refine ⟨W2, a, vs ++ [], ds, P, rfl, ht.mono e2, rfl, ?_, hR, fun v d W' e3 hv hp => q v d W' ((LeH.of ht e2).trans e3) hv hp⟩
    rw [List.append_nil]
    exact h2⟩
theorem st_asgH {n : Nat} (h : EvH te σ W a P) (q : ∀ v d W', LeH a W W' → Dq W'.G v d → P d → D.nx (σ.set n (some v)) W'.H) : tAsg te (gName n) D σ W.H := h _ q
theorem q_asgH {n : Nat} (h : EvH te σ W a P) (q : ∀ v d W', LeH a W W' → Dq W'.G v d → P d → tz D (σ.set n (some v)) W'.H) : tSeq (tAsg te (gName n)) tz D σ W.H := st_asgH (D := { D with nx := tz D }) h q
theorem evh_sub {p : Int → Prop} (h : EvH ta σ W a (fun d => ∃ i, d = .int i ∧ p i)) (hb : ∀ W', LeH a W W' → EvD tb σ W' (.int j)) : EvH (tOp (rI0 fun i j => .int (i - j)) ta tb) σ W a (fun d => ∃ i, d = .int (i - j) ∧ p i) := fun Q q =>
  h _ fun v d W1 e1 hv ⟨i, hd, hp⟩ => hb W1 e1 W1 (.refl e1.s) _ fun w W2 e2 hw => by
    subst hd
    cases hv
    cases hw
    exact ⟨i, j, rfl, rfl, q _ _ W2 (e1.le e2) (.int _) ⟨i, rfl, hp⟩⟩
theorem evh_weak {P' : PyData → Prop} (h : EvH te σ W a P) (w : ∀ d, P d → P' d) : EvH te σ W a P' := fun Q q => h Q fun v d W' e hv hp => q v d W' e hv (w d hp)
/-- the hat's two places, read -/
theorem ev_hat0 {n : Nat} {x y : Int} (hn : σ[n]? = some (some (.ref a))) (h : W.H a = some (.lst [.int x, .int y])) : EvD (tOp (rIxL K) (tVar n) (tC (.int 0))) σ W (.int x) := fun W1 e Q q =>
  ⟨.ref a, hn, a, [.int x, .int y], 0, .int x, rfl, rfl, SqL.of (e.h _ _ h), rfl, q _ W1 e.rf (.int x)⟩
theorem ev_hat1 {n : Nat} {x y : Int} (hn : σ[n]? = some (some (.ref a))) (h : W.H a = some (.lst [.int x, .int y])) : EvD (tOp (rIxL K) (tVar n) (tC (.int 1))) σ W (.int y) := fun W1 e Q q =>
  ⟨.ref a, hn, a, [.int x, .int y], 1, .int y, rfl, rfl, SqL.of (e.h _ _ h), rfl, q _ W1 e.rf (.int y)⟩
/-- .. and written -/
theorem q_hat0 {n : Nat} (ht : Hat a W) (hn : σ[n]? = some (some (.ref a))) (h : EvD te σ W (.int z)) (q : ∀ W', LeH a W W' → tz D σ W'.H) : tSeq (tAsg te (gSub (tVar n) (tC (.int 0)) rSetL)) tz D σ W.H := h W (.refl ht.s) _ fun v W1 e hv => by
  obtain ⟨x, y, hh⟩ := ht.at_
  cases hv
  exact ⟨.ref a, hn, a, [.int x, .int y], 0, 0, rfl, rfl, e.h _ _ hh, rfl, q (W1.set a (.lst [.int z, .int y])) (.put ht e z y)⟩
theorem q_hat1 {n : Nat} (ht : Hat a W) (hn : σ[n]? = some (some (.ref a))) (h : EvD te σ W (.int z)) (q : ∀ W', LeH a W W' → tz D σ W'.H) : tSeq (tAsg te (gSub (tVar n) (tC (.int 1)) rSetL)) tz D σ W.H := h W (.refl ht.s) _ fun v W1 e hv => by
  obtain ⟨x, y, hh⟩ := ht.at_
  cases hv
  exact ⟨.ref a, hn, a, [.int x, .int y], 1, 1, rfl, rfl, e.h _ _ hh, rfl, q (W1.set a (.lst [.int x, .int z])) (.put ht e x z)⟩
/-- for i in range(e), e told by the hat -/
theorem st_forRH {n : Nat} {M : Nat → Wd → Prop} (h : ∀ Q : VK, (∀ (m : Nat) W1, M m W1 → Q (.int (m : Int)) W1.H) → te σ W.H Q)
    (q : ∀ (m : Nat) W1, M m W1 → m ≤ 100000 ∧ ∃ Pv : Nat → L2.St → Wd → Prop, Pv 0 σ W1 ∧ (∀ (i : Nat) σ' W', i < m → Pv i σ' W' → tu { D with nx := fun σ2 H2 => ∃ W2, H2 = W2.H ∧ Pv (i + 1) σ2 W2, ct := fun σ2 H2 => ∃ W2, H2 = W2.H ∧ Pv (i + 1) σ2 W2, bk := D.nx } (σ'.set n (some (.int (i : Int)))) W'.H) ∧
      (∀ σ' W', Pv m σ' W' → D.nx σ' W'.H)) : tFor (iRng1 (tCons te tNil)) (gName n) tu D σ W.H := h _ fun m W1 hm => by
  obtain ⟨hl, Pv, p0, ps, pd⟩ := q m W1 hm
  refine ⟨(m : Int), rfl, by omega, by omega, for_range (lo := 0) (n := (m : Int).toNat) (fun i σ2 H2 => ∃ W2 : Wd, H2 = W2.H ∧ Pv i σ2 W2) ⟨W1, rfl, p0⟩ (fun i σ' H' hx p => ?_) (fun σ' H' p => ?_)⟩
  · obtain ⟨W', rfl, p⟩ := p
    have e0 : (0 : Int) + (i : Int) = (i : Int) := Int.zero_add _
    show tu _ (σ'.set n (some (.int ((0 : Int) + (i : Int))))) W'.H
    rw [e0]
    exact ps i σ' W' (by omega) p
  · obtain ⟨W', rfl, p⟩ := p
    exact pd σ' W' p
theorem q_forRH {n : Nat} {M : Nat → Wd → Prop} (h : ∀ Q : VK, (∀ (m : Nat) W1, M m W1 → Q (.int (m : Int)) W1.H) → te σ W.H Q)
    (q : ∀ (m : Nat) W1, M m W1 → m ≤ 100000 ∧ ∃ Pv : Nat → L2.St → Wd → Prop, Pv 0 σ W1 ∧ (∀ (i : Nat) σ' W', i < m → Pv i σ' W' → tu { D with nx := fun σ2 H2 => ∃ W2, H2 = W2.H ∧ Pv (i + 1) σ2 W2, ct := fun σ2 H2 => ∃ W2, H2 = W2.H ∧ Pv (i + 1) σ2 W2, bk := tz D } (σ'.set n (some (.int (i : Int)))) W'.H) ∧
      (∀ σ' W', Pv m σ' W' → tz D σ' W'.H)) : tSeq (tFor (iRng1 (tCons te tNil)) (gName n) tu) tz D σ W.H := st_forRH (D := { D with nx := tz D }) h q
/-- xs.append(e), e told by the hat -/
theorem st_appH {n : Nat} (x : AccH a W0 W l ds) (hn : σ[n]? = some (some (.ref l))) (hz : ds.length < 100000) (h : EvH te σ W a P)
    (q : ∀ d W' o, LeH a W W' → P d → AccH a W0 (W'.set l o) l (ds ++ [d]) → D.nx σ (W'.set l o).H) : tDrop (tBM K "list" rAppend (tVar n) (tCons te tNil)) D σ W.H := by
  obtain ⟨fs, h1, h2⟩ := x.ex
  refine ⟨.ref l, hn, .inl ⟨rfl, fs, SqL.of h1⟩, h _ fun v d W1 e hv hp => ⟨l, fs, v, rfl, rfl, e.h _ _ x.ne h1, szlt (by rw [h2.length]; exact hz), q d W1 _ e hp ((x.mono e).set ((h2.mono e.g).snoc hv))⟩⟩
theorem st_appHD {n : Nat} (x : AccH a W0 W l ds) (hn : σ[n]? = some (some (.ref l))) (hz : ds.length < 100000) (h : EvD te σ W d)
    (q : ∀ W' o, LeH a W W' → AccH a W0 (W'.set l o) l (ds ++ [d]) → D.nx σ (W'.set l o).H) : tDrop (tBM K "list" rAppend (tVar n) (tCons te tNil)) D σ W.H :=
  st_appH (P := fun e => e = d) x hn hz (fun Q p => h W (.refl x.le.s) _ fun v W1 e hv => p v d W1 (.of x.le.t e) hv rfl) fun d' W' o e hd x' => q W' o e (by rw [← hd]; exact x')
theorem q_appHD {n : Nat} (x : AccH a W0 W l ds) (hn : σ[n]? = some (some (.ref l))) (hz : ds.length < 100000) (h : EvD te σ W d)
    (q : ∀ W' o, LeH a W W' → AccH a W0 (W'.set l o) l (ds ++ [d]) → tz D σ (W'.set l o).H) : tSeq (tDrop (tBM K "list" rAppend (tVar n) (tCons te tNil))) tz D σ W.H := st_appHD (D := { D with nx := tz D }) x hn hz h q
end
end K22
namespace K22
open PySem PySem.Spec PyProof.Rows L2
section
variable {K : PySem.W.Frag} {σ : L2.St} {W : Wd} {ta tb : TE} {D : Ends}
/-- return [x, y], a new list -/
theorem st_retHat {x y : Int} (s : Ex W.G W.H) (ha : EvD ta σ W (.int x)) (hb : EvD tb σ W (.int y)) (q : ∀ l W', W.le W' → W.H l = none → Hat l W' → D.rt (.ref l) W'.H) : tRet (tLst (tCons ta (tCons tb tNil))) D σ W.H :=
  ha W (.refl s) _ fun v W1 e1 hv => hb W1 e1 _ fun w W2 e2 hw => by
    cases hv
    cases hw
    refine ⟨show 2 ≤ sizeLine from szle (by decide), fun l hl => ?_⟩
    exact q l (W2.set l (.lst [.int x, .int y])) (le_laid (e1.trans e2) hl) ((e1.trans e2).h.back hl) ⟨e2.s.up (e2.s.back hl), ⟨x, y, upd_same⟩, e2.s.back hl⟩
end
end K22
namespace K22
open PySem PySem.Spec PyProof.Rows L2
section
variable {K : PySem.W.Frag} {σ : L2.St} {W W0 : Wd} {a l m : Addr} {ta tb te : TE} {t : TT} {tu tw tz : TS} {D : Ends} {P : PyData → Prop} {ds : List PyData} {z : Int}
theorem AccH.laid (x : AccH a W0 W l ds) (h : W.H m = none) : AccH a W0 (W.set m (.lst [])) l ds := x.mono (AccH.start x.le.t (.refl x.le.t) h).le
theorem st_ifDraw (h : EvH ta σ W a (fun d => ∃ i, d = .int i)) (q : ∀ W', LeH a W W' → tu D σ W'.H ∧ tw D σ W'.H) : tIfS (tTest (tOp rEq ta (tC (.int z)))) tu tw D σ W.H := h _ fun v d W1 e hv ⟨i, hd⟩ => by
  subst hd
  cases hv
  refine ⟨rfl, _, rfl, ?_⟩
  obtain ⟨q1, q2⟩ := q W1 e
  split
  · exact q1
  · exact q2
/-- x = [e for i in range(e')], both told by the hat -/
theorem q_lcH {n j : Nat} {vs : List Nat} {M : Nat → Prop} (ht : Hat a W) (h : EvH te σ W a (fun d => ∃ m : Nat, d = .int (m : Int) ∧ m ≤ 1000 ∧ M m)) (hw : ∀ x, wipe ((wipe σ vs).set j (some x)) vs = wipe σ vs)
    (hs : ∀ W1 (i : Int), LeH a W W1 → EvH tb ((wipe σ vs).set j (some (.int i))) W1 a P)
    (q : ∀ l W' es, LeH a W W' → Dq W'.G (.ref l) (.list es) → (∀ d ∈ es, P d) → M es.length → es.length ≤ 1000 → tz D (σ.set n (some (.ref l))) W'.H) : tSeq (tAsg (tLc (iRng1 (tCons te tNil)) (gName j) tYes tb vs) (gName n)) tz D σ W.H := h _ fun v d W1 e1 hv ⟨m, hd, hm, hM⟩ => by
  subst hd
  cases hv
  refine ⟨(m : Int), rfl, by omega, by omega, fun Dl hD => lc_range (lo := 0) (n := (m : Int).toNat) (fun i H => ∃ (W' : Wd) (es : List PyData), H = W'.H ∧ AccH a W1 W' Dl es ∧ es.length = i ∧ ∀ d ∈ es, P d) ⟨W1.set Dl (.lst []), [], rfl, AccH.start e1.t (.refl e1.t) hD, rfl, by simp⟩ (fun i H hi p => ?_) (fun H p => ?_)⟩
  · obtain ⟨W', es, rfl, x, hl, hp⟩ := p
    refine ⟨hw _, ?_⟩
    show tb ((wipe σ vs).set j (some (.int ((0 : Int) + (i : Int))))) W'.H _
    refine hs W' _ (e1.trans x.le) _ fun y d W2 e2 hy hd => ?_
    obtain ⟨fs, h1, h2⟩ := x.ex
    refine ⟨fs, e2.h _ _ x.ne h1, szlt (by rw [h2.length]; omega), W2.set Dl (.lst (fs ++ [y])), es ++ [d], rfl, (x.mono e2).set ((h2.mono e2.g).snoc hy), by rw [List.length_append, List.length_singleton, hl], fun d' hd' => ?_⟩
    rcases List.mem_append.mp hd' with c | c
    · exact hp d' c
    · rw [List.mem_singleton.mp c]
      exact hd
  · obtain ⟨W', es, rfl, x, hl, hp⟩ := p
    have hl' : es.length = m := by omega
    obtain ⟨fs, f1, f2, f3, f4, f5⟩ := x.frz
    exact q Dl (W'.frz Dl (.lst fs)) es (e1.trans f1) f2 hp (by rw [hl']; exact hM) (by omega)
end
theorem wf_nones : ∀ p : Nat, 1 ≤ p → wfT p (List.replicate (p - 1) none)
  | 0, h => by omega
  | 1, _ => rfl
  | p + 2, _ => by
    show wfT (p + 2) (none :: List.replicate p none)
    exact ⟨by omega, wf_nones (p + 1) (by omega)⟩
theorem ints_of {es : List PyData} (h : ∀ d ∈ es, ∃ k : Int, d = .int k) : ∃ ks : List Int, es = ks.map .int := by
  induction es with
  | nil => exact ⟨[], rfl⟩
  | cons d r ih =>
    obtain ⟨k, hk⟩ := h d (by simp)
    obtain ⟨ks, hks⟩ := ih fun e he => h e (by simp [he])
    exact ⟨k :: ks, by rw [hk, hks]; rfl⟩
end K22
namespace K22
open PySem PySem.Spec PyProof.Rows L2
theorem rk_of {room : Int} {nd : Nd} (h1 : 1 ≤ room) (h2 : room ≤ 64) (h : NdOk room nd) : RkOk room nd.many nd.ms :=
  ⟨h1, h2, by rw [h.many]; omega, h.good.lt, fun m hm => by rw [h.many]; exact h.good.ok m hm, h.len⟩
theorem held_ends {room : Int} {nd : Nd} (h : NdOk room nd) (key : Int) (up : Bool) : (endsP nd.many key up nd.ms).1 ≤ cnt up nd.ks key ∧ cnt up nd.ks key ≤ (endsP nd.many key up nd.ms).2 := by
  rw [endsP_eq h.good.lt, h.many]
  exact ends_true h.good.tr (cLt_nn _ _)
theorem item_low {room : Int} {nd : Nd} (h : NdOk room nd) {i : Nat} {x : Int} (hx : (srt nd.ks)[i]? = some x) {m : Mk} (hm : (nd.ms.filter fun m => decide (m.b ≤ (i : Int))).getLast? = some m) : m.k ≤ x := by
  have h1 := List.mem_of_getLast? hm
  obtain ⟨h2, h3⟩ := List.mem_filter.mp h1
  have h4 := of_decide_eq_true h3
  have h5 := (h.good.tr m h2).b
  exact srt_ge (srt_sorted _) hx (by rw [cLt_perm (srt_perm _)]; omega)
theorem item_high {room : Int} {nd : Nd} (h : NdOk room nd) {i : Nat} {x : Int} (hx : (srt nd.ks)[i]? = some x) {m : Mk} (hm : (nd.ms.filter fun m => decide ((i : Int) < m.c)).head? = some m) : x ≤ m.k := by
  have h1 := List.mem_of_head? hm
  obtain ⟨h2, h3⟩ := List.mem_filter.mp h1
  have h4 := of_decide_eq_true h3
  have h5 := (h.good.tr m h2).c
  exact srt_le (srt_sorted _) hx (by rw [cLe_perm (srt_perm _)]; omega)
theorem near_cnt (l : List Int) (k : Int) : cLe l k + ((l.filter fun x => decide (k < x) && decide (x ≤ k + 1)).length : Int) = cLe l (k + 1) := by
  induction l with
  | nil => rfl
  | cons x r ih =>
    rw [cLe_cons, cLe_cons, List.filter_cons]
    by_cases c1 : x ≤ k
    · have e : (decide (k < x) && decide (x ≤ k + 1)) = false := by rw [decide_eq_false (by omega), Bool.false_and]
      rw [if_pos c1, e, if_neg Bool.false_ne_true, if_pos (show x ≤ k + 1 by omega)]
      omega
    · by_cases c2 : x ≤ k + 1
      · have e : (decide (k < x) && decide (x ≤ k + 1)) = true := by rw [decide_eq_true (by omega), decide_eq_true c2] <;> rfl
        rw [if_neg c1, if_pos c2, e, if_pos rfl, List.length_cons]
        omega
      · have e : (decide (k < x) && decide (x ≤ k + 1)) = false := by rw [decide_eq_false c2, Bool.and_false]
        rw [if_neg c1, if_neg c2, e, if_neg Bool.false_ne_true]
        omega
def pI (p : Int → Bool) : PyData → Bool
  | .int i => p i
  | _ => false
theorem filt_ints (p : Int → Bool) (ks : List Int) : ((ks.map PyData.int).filter (pI p)).map (fun d => d) = (ks.filter p).map .int := by
  rw [List.map_id', List.filter_map]
  rfl
/-- items unlike the one ahead of them -/
def unl (L : List Int) : Nat → List PyData
  | 0 => []
  | i + 1 => unl L i ++ (if i = 0 ∨ ¬ L[i - 1]? = L[i]? then (match L[i]? with | some k => [.int k] | none => []) else [])
theorem unl_yes {L : List Int} {i : Nat} {k : Int} (hk : L[i]? = some k) (c : i = 0 ∨ ¬ L[i - 1]? = some k) : unl L (i + 1) = unl L i ++ [.int k] := by
  show unl L i ++ (if i = 0 ∨ ¬ L[i - 1]? = L[i]? then _ else _) = _
  rw [hk, if_pos c]
theorem unl_no {L : List Int} {i : Nat} {k : Int} (hk : L[i]? = some k) (c : ¬ (i = 0 ∨ ¬ L[i - 1]? = some k)) : unl L (i + 1) = unl L i := by
  show unl L i ++ (if i = 0 ∨ ¬ L[i - 1]? = L[i]? then _ else _) = _
  rw [hk, if_neg c, List.append_nil]
theorem unl_len (L : List Int) : ∀ i, (unl L i).length ≤ i
  | 0 => Nat.le_refl _
  | i + 1 => by
    have ih := unl_len L i
    show (unl L i ++ (if i = 0 ∨ ¬ L[i - 1]? = L[i]? then _ else _)).length ≤ _
    rw [List.length_append]
    split
    · split
      · rw [List.length_singleton]
        omega
      · rw [List.length_nil]
        omega
    · rw [List.length_nil]
      omega
theorem unl_int (L : List Int) : ∀ i, ∀ d ∈ unl L i, ∃ k : Int, d = .int k
  | 0, d, h => by cases h
  | i + 1, d, h => by
    have h' : d ∈ unl L i ++ (if i = 0 ∨ ¬ L[i - 1]? = L[i]? then (match L[i]? with | some k => [.int k] | none => []) else []) := h
    rcases List.mem_append.mp h' with c | c
    · exact unl_int L i d c
    · split at c
      · split at c
        · exact ⟨_, List.mem_singleton.mp c⟩
        · cases c
      · cases c
theorem cutD_mem {α : Type} {l : List α} {lo hi : Option Int} {x : α} (h : x ∈ cutD l lo hi) : x ∈ l := List.mem_of_mem_drop (List.mem_of_mem_take h)
theorem sql_mono {K : PySem.W.Frag} {H H' : Hp} {a : Addr} {xs : List V} (e : Ex H H') (h : SqL K H a xs) : SqL K H' a xs := h.imp (fun z => z.imp (e a _) fun ⟨o, y⟩ => ⟨o, e a _ y⟩) id
section
variable {K : PySem.W.Frag} {σ : L2.St} {W : Wd} {a : Addr} {ta tb : TE} {P P1 P2 : PyData → Prop} {R : List PyData → (PyData → Prop) → Prop} {E : XK}
theorem evh_call2 {n : Nat} (hn : σ[n]? = some (some (.ref a))) (h1 : EvH ta σ W a P1) (h2 : ∀ W', LeH a W W' → EvH tb σ W' a P2) (hR : ∀ d1 d2, P1 d1 → P2 d2 → R [d1, d2] P) : EvH (tCall (hatSp R) [] E (tCons (tVar n) (tCons ta (tCons tb tNil)))) σ W a P := fun Q q =>
  ⟨.ref a, hn, h1 _ fun v d W1 e1 hv hd => h2 W1 e1 _ fun v' d' W2 e2 hv' hd' => ⟨W2, a, [v, v'], [d, d'], P, rfl, e2.t, rfl, .cons (hv.mono e2.g) (.cons hv' .nil), hR d d' hd hd', fun x y W3 e3 hx hy => q x y W3 ((e1.trans e2).trans e3) hx hy⟩⟩
theorem st_retH {D : Ends} {te : TE} (h : EvH te σ W a P) (q : ∀ v d W', LeH a W W' → Dq W'.G v d → P d → D.rt v W'.H) : tRet te D σ W.H := h _ q
end
end K22
namespace K22
open PySem PySem.Spec PyProof.Rows L2
section
variable {P : Program} {w : World} {K : PySem.W.Frag} {mg : Str → Option Value} {base : Heap}
/-- the same as of a known function object -/
theorem fn_mk {d : He.DefD} {N ps : List Str} {k : Nat} {sp : Sp} {f0 : Addr} {fd0 : FuncData} (F : FunD K d.name d.qual d.params d.body d.scope [] [] f0 fd0) (sc : FnScope N ps d.scope) (len : ∀ vs H Q E, sp vs H Q E → vs.length = ps.length)
    (body : ∀ (f : Addr) (cdv : Value) (A : Around) (outer : List Env) (s : Shared) (H : Hp) (vs : List V) (Q : VK) (E : XK), Room k (A.deeper (envOfC d.qual d.scope s.heap.objs.size f cdv)) → sp vs H Q E →
      ∃ t, PSs (cxOf CX0 P w K mg base N d.qual d.scope f cdv A outer s H E).nox d.body t ∧ t { nx := fun _ H' => Q .non H', rt := Q } (start N vs) H) : FnOk P w K mg base CX0 (k + 1) f0 fd0 ps sp :=
  F.ok sc len fun cdv A outer s H vs Q E hr h => by
    obtain ⟨t, h1, h2⟩ := body f0 cdv A outer s H vs Q E hr h
    exact ⟨t, h1.nox, h2⟩
end
end K22
namespace K22
open PySem PySem.Spec PyProof.Rows L2
section
variable {P : Program} {w : World} {K : PySem.W.Frag} {mg : Str → Option Value} {base : Heap}
/-! ### _law_hat -/
abbrev sc_N_law_hat : List Str := ["_law_cell", "_law_k", "_law_wide", "_law_number_here"]
theorem sc_law_hat : FnScope ["_law_cell", "_law_k", "_law_wide", "_law_number_here"] ["_law_cell", "_law_k"] (defScope s_law_hat) := ⟨rfl, rfl, rfl, by decide +kernel, rfl, by decide +kernel, by decide +kernel⟩
def sp_law_hat  : Sp := fun vs H Q _ => ∃ (W : Wd), H = W.H ∧ Ex W.G W.H ∧ ∃ c k : Int, vs = [.int c, .int k] ∧ ∀ l W', W.le W' → W.H l = none → Hat l W' → Q (.ref l) W'.H
theorem ok_law_hat (B : Bl mg) (S : Stand K mg d_law_hat) : Cal P w K mg base "_law_hat" 1 ["_law_cell", "_law_k"] sp_law_hat := by
  refine cal_mk S sc_law_hat (fun vs H Q E h => by obtain ⟨_, _, _, _, _, rfl, _⟩ := h <;> rfl) (fun _ _ _ _ _ _ us hl => match us, hl with | [_, _], _ => rfl) (fun f cdv A outer sh H vs Q E hr h => ?_)
  obtain ⟨W, rfl, s, c, k, rfl, q⟩ := h
  refine ⟨_, (pss_cons (ps_set (i := 2) sc_law_hat.nd rfl (.inl rfl) (pe_op op_mulW (pe_op op_mulW (pe_op op_mulW (pe_op op_pow pe_int pe_int) (pe_op op_pow pe_int pe_int)) (pe_op op_pow pe_int pe_int)) (pe_op op_pow pe_int pe_int)))
      (pss_cons (ps_set (i := 3) sc_law_hat.nd rfl (.inl rfl) (pe_op op_mod (pe_callTy call_int1 (by rfl) B.z_int (by decide +kernel) (pa_cons (pv 0) pa_nil)) (pv 2)))
      (pss_cons (ps_if (pt_cmpR op_ge (pv 3) (pe_op op_pow pe_int pe_int) (nomark _))
      (pss_one (ps_ret (pe_lst (pa_cons (pv 3) (pa_cons (pe_op op_add (pe_op op_mod (pe_callTy call_int1 (by rfl) B.z_int (by decide +kernel) (pa_cons (pv 3) pa_nil)) pe_int) (pv 1)) pa_nil)))))
      pss_nil)
      (pss_one (ps_ret (pe_lst (pa_cons pe_int (pa_cons (pe_op op_mod (pe_op op_add (pe_op op_add (pe_op op_mul (pe_op op_mod (pe_callTy call_int1 (by rfl) B.z_int (by decide +kernel) (pa_cons (pv 3) pa_nil)) pe_int) pe_int) (pe_op op_mul pe_int (pv 1))) pe_int) pe_int) pa_nil)))))))), ?_⟩
  have hp : CPow 10 64 := ⟨by decide, by decide, by decide⟩
  have hp2 : CPow 10 18 := ⟨by decide, by decide, by decide⟩
  have p64 : ∀ σ : L2.St, EvD (tOp (rI CPow fun i j => .int (i ^ j.toNat)) (tC (.int 10)) (tC (.int 64))) σ W (.int (10 ^ 64)) := fun σ => ev_opC (f := fun i j => i ^ j.toNat) hp ev_int ev_int
  have m2 : CMulW (10 ^ 64) (10 ^ 64) := wide_mul (a := 213) (b := 213) (by decide +kernel) (by decide +kernel) (by decide) (by decide) (by decide)
  have m3 : CMulW (10 ^ 64 * 10 ^ 64) (10 ^ 64) := wide_mul (a := 426) (b := 213) (by decide +kernel) (by decide +kernel) (by decide) (by decide) (by decide)
  have m4 : CMulW (10 ^ 64 * 10 ^ 64 * 10 ^ 64) (10 ^ 64) := wide_mul (a := 639) (b := 213) (by decide +kernel) (by decide +kernel) (by decide) (by decide) (by decide)
  have hw0 : (0 : Int) < 10 ^ 64 * 10 ^ 64 * 10 ^ 64 * 10 ^ 64 := by decide +kernel
  refine q_asg s (ev_opC (f := fun i j => i * j) m4 (ev_opC (f := fun i j => i * j) m3 (ev_opC (f := fun i j => i * j) m2 (p64 _) (p64 _)) (p64 _)) (p64 _)) fun v W1 e1 k1 => ?_
  cases k1
  generalize (10 : Int) ^ 64 * 10 ^ 64 * 10 ^ 64 * 10 ^ 64 = wide at hw0
  refine q_asg e1.s (ev_opC (i := c) (j := wide) (C := fun _ j => 0 < j) (f := fun i j => i % j) hw0 (ev_int1 (ev_var rfl (.int _))) (ev_var rfl (.int _))) fun v W2 e2 k2 => ?_
  cases k2
  generalize c % wide = n
  have e12 := e1.trans e2
  refine q_if e2.s (eb_test (ev_opB (f := fun i j => decide (j ≤ i)) (ev_var rfl (.int _)) (ev_opC (i := 10) (j := 18) (C := CPow) (f := fun i j => i ^ j.toNat) hp2 ev_int ev_int))) (fun hb W3 e3 => ?_) (fun hb W3 e3 => ?_)
  · exact st_retHat e3.s (ev_var rfl (.int _)) (ev_opI (f := fun i j => i + j) (ev_opC (i := n) (j := 2147483563) (C := fun _ j => 0 < j) (f := fun i j => i % j) (by decide) (ev_int1 (ev_var rfl (.int _))) ev_int) (ev_var rfl (.int _))) fun l W' e hl ht => q l W' ((e12.trans e3).trans e) ((e12.trans e3).h.back hl) ht
  · refine st_retHat e3.s ev_int (ev_opC (C := fun _ j => 0 < j) (j := 2147483647) (f := fun i j => i % j) (by decide) (ev_opI (f := fun i j => i + j) (ev_opI (f := fun i j => i + j) (ev_mulR (j := 48271) ⟨by decide, by decide⟩ (ev_opC (i := n) (j := 2147483647) (C := fun _ j => 0 < j) (f := fun i j => i % j) (by decide) (ev_int1 (ev_var rfl (.int _))) ev_int) ev_int) (ev_mulL (i := 7919) ⟨by decide, by decide⟩ ev_int (ev_var rfl (.int _)))) ev_int) ev_int) fun l W' e hl ht => q l W' ((e12.trans e3).trans e) ((e12.trans e3).h.back hl) ht
def rh_draw : List PyData → (PyData → Prop) → Prop := fun ds P => ∃ many : Int, ds = [.int many] ∧ 0 < many ∧ many < 2 ^ 90 ∧ P = fun d => ∃ r : Nat, d = .int (r : Int) ∧ (r : Int) < many
/-! ### _law_draw -/
abbrev sc_N_law_draw : List Str := ["_law_hat_here", "_law_many", "_law_digit"]
theorem sc_law_draw : FnScope ["_law_hat_here", "_law_many", "_law_digit"] ["_law_hat_here", "_law_many"] (defScope s_law_draw) := ⟨rfl, rfl, rfl, by decide +kernel, rfl, by decide +kernel, by decide +kernel⟩
def sp_law_draw  : Sp := hatSp rh_draw
theorem ok_law_draw (B : Bl mg) (S : Stand K mg d_law_draw) : Cal P w K mg base "_law_draw" 1 ["_law_hat_here", "_law_many"] sp_law_draw := by
  refine cal_mk S sc_law_draw (hat_len (fun ds P h => by obtain ⟨_, rfl, _⟩ := h <;> rfl)) (fun _ _ _ _ _ _ us hl => match us, hl with | [_, _], _ => rfl) (fun f cdv A outer sh H vs Q E hr h => ?_)
  obtain ⟨W, a, us, ds, P0, rfl, ht, rfl, hv, hR, q⟩ := h
  obtain ⟨many, rfl, hm, hmb, rfl⟩ := hR
  obtain ⟨v1, rfl, h1⟩ := hv.inv1
  cases h1
  refine ⟨_, (pss_cons (ps_if (pt_cmpR op_gt (pe_ix (kIxL (K := K) rfl) (pv 0) pe_int (fun _ _ => rfl)) pe_int (nomark _))
      (pss_cons (ps_set (i := 2) sc_law_draw.nd rfl (.inl rfl) (pe_op op_mod (pe_callTy call_int1 (by rfl) B.z_int (by decide +kernel) (pa_cons (pe_ix (kIxL (K := K) rfl) (pv 0) pe_int (fun _ _ => rfl)) pa_nil)) (pv 1)))
      (pss_cons (ps_asg (pe_op op_fdivW (pe_ix (kIxL (K := K) rfl) (pv 0) pe_int (fun _ _ => rfl)) (pv 1)) (pg_sub (pv 0) pe_int set_list))
      (pss_one (ps_ret (pv 2)))))
      pss_nil)
      (pss_cons (ps_asg (pe_op op_mod (pe_op op_add (pe_op op_mul (pe_callTy call_int1 (by rfl) B.z_int (by decide +kernel) (pa_cons (pe_ix (kIxL (K := K) rfl) (pv 0) pe_int (fun _ _ => rfl)) pa_nil)) pe_int) pe_int) pe_int) (pg_sub (pv 0) pe_int set_list))
      (pss_cons (ps_asg (pe_op op_mod (pe_op op_add (pe_op op_mul (pe_callTy call_int1 (by rfl) B.z_int (by decide +kernel) (pa_cons (pe_ix (kIxL (K := K) rfl) (pv 0) pe_int (fun _ _ => rfl)) pa_nil)) (pe_op op_add (pe_op op_mod (pe_op op_fdiv (pe_ix (kIxL (K := K) rfl) (pv 0) pe_int (fun _ _ => rfl)) pe_int) pe_int) pe_int)) pe_int) pe_int) (pg_sub (pv 0) pe_int set_list))
      (pss_one (ps_ret (pe_op op_mod (pe_op op_fdiv (pe_ix (kIxL (K := K) rfl) (pv 0) pe_int (fun _ _ => rfl)) pe_int) (pv 1))))))), ?_⟩
  have fin : ∀ z : Int, ∃ r : Nat, z % many = (r : Int) ∧ (r : Int) < many := fun z => by
    have h1 := Int.emod_nonneg z (show many ≠ 0 by omega)
    have h2 := Int.emod_lt_of_pos z hm
    exact ⟨(z % many).toNat, by omega, by omega⟩
  have hdw : ∀ z : Int, CDivW z many := fun z => ⟨hm, by
    have h1 : many.natAbs < 2 ^ 90 := by
      have h2 : (2 : Int) ^ 90 = ((2 ^ 90 : Nat) : Int) := by decide +kernel
      rw [h2] at hmb
      omega
    have h3 := PySem.Flt.log2_lt_of (show 0 < 90 by decide) h1
    omega⟩
  obtain ⟨x, y, hh⟩ := ht.at_
  refine q_if ht.s (eb_test (ev_opB (f := fun i j => decide (i > j)) (ev_hat0 rfl hh) ev_int)) (fun hb W1 e1 => ?_) (fun hb W1 e1 => ?_)
  · have hh1 := e1.h _ _ hh
    refine q_asg e1.s (ev_opC (i := x) (j := many) (C := fun _ j => 0 < j) (f := fun i j => i % j) hm (ev_int1 (ev_hat0 rfl hh1)) (ev_var rfl (.int _))) fun v W2 e2 k2 => ?_
    cases k2
    have e12 := e1.trans e2
    refine q_hat0 (ht.mono e12) rfl (ev_opC (i := x) (j := many) (C := CDivW) (f := fun i j => i / j) (hdw x) (ev_hat0 rfl (e2.h _ _ hh1)) (ev_var rfl (.int _))) fun W3 e3 => ?_
    obtain ⟨r, hr1, hr2⟩ := fin x
    exact st_ret e3.s (ev_var rfl (.int _)) fun v W4 e4 hv => q v _ W4 (((LeH.of ht e12).trans e3).le e4) hv ⟨r, by rw [hr1], hr2⟩
  · have hh1 := e1.h _ _ hh
    have m1 : ∀ z : Int, (-(2 ^ 64) : Int) < z % 65521 + 69621 ∧ z % 65521 + 69621 < 2 ^ 64 := fun z => by omega
    refine q_hat1 (ht.mono e1) rfl (ev_opC (C := fun _ j => 0 < j) (j := 2147483647) (f := fun i j => i % j) (by decide) (ev_opI (f := fun i j => i + j) (ev_mulR (i := y) (j := 48271) ⟨by decide, by decide⟩ (ev_int1 (ev_hat1 rfl hh1)) ev_int) ev_int) ev_int) fun W2 e2 => ?_
    obtain ⟨x2, y2, hh2⟩ := e2.t.at_
    refine q_hat1 e2.t rfl (ev_opC (C := fun _ j => 0 < j) (j := 2147483629) (f := fun i j => i % j) (by decide) (ev_opI (f := fun i j => i + j) (ev_mulR (i := y2) (m1 (y2 / 1009)) (ev_int1 (ev_hat1 rfl hh2)) (ev_opI (f := fun i j => i + j) (ev_opC (C := fun _ j => 0 < j) (j := 65521) (f := fun i j => i % j) (by decide) (ev_opC (C := CDiv) (i := y2) (j := 1009) (f := fun i j => i / j) ⟨by decide, by decide⟩ (ev_hat1 rfl hh2) ev_int) ev_int) ev_int)) ev_int) ev_int) fun W3 e3 => ?_
    obtain ⟨x3, y3, hh3⟩ := e3.t.at_
    obtain ⟨r, hr1, hr2⟩ := fin (y3 / 16)
    exact st_ret e3.s (ev_opC (i := y3 / 16) (j := many) (C := fun _ j => 0 < j) (f := fun i j => i % j) hm (ev_opC (C := CDiv) (i := y3) (j := 16) (f := fun i j => i / j) ⟨by decide, by decide⟩ (ev_hat1 rfl hh3) ev_int) (ev_var rfl (.int _))) fun v W4 e4 hv => q v _ W4 ((((LeH.of ht e1).trans e2).trans e3).le e4) hv ⟨r, by rw [hr1], hr2⟩
def rh_any : List PyData → (PyData → Prop) → Prop := fun ds P => ∃ es : List PyData, ds = [.list es] ∧ 0 < es.length ∧ es.length < 1000 ∧ P = fun d => d ∈ es
/-! ### _law_any -/
abbrev sc_N_law_any : List Str := ["_law_hat_here", "_law_things"]
theorem sc_law_any : FnScope ["_law_hat_here", "_law_things"] ["_law_hat_here", "_law_things"] (defScope s_law_any) := ⟨rfl, rfl, rfl, by decide +kernel, rfl, by decide +kernel, by decide +kernel⟩
def sp_law_any  : Sp := hatSp rh_any
theorem ok_law_any (B : Bl mg) (S : Stand K mg d_law_any) (c_law_draw : Cal P w K mg base "_law_draw" 1 ["_law_hat_here", "_law_many"] sp_law_draw) : Cal P w K mg base "_law_any" 2 ["_law_hat_here", "_law_things"] sp_law_any := by
  refine cal_mk S sc_law_any (hat_len (fun ds P h => by obtain ⟨_, rfl, _⟩ := h <;> rfl)) (fun _ _ _ _ _ _ us hl => match us, hl with | [_, _], _ => rfl) (fun f cdv A outer sh H vs Q E hr h => ?_)
  obtain ⟨W, a, us, ds, P0, rfl, ht, rfl, hv, hR, q⟩ := h
  obtain ⟨es, rfl, hm, hmb, rfl⟩ := hR
  obtain ⟨v1, rfl, h1⟩ := hv.inv1
  refine ⟨_, (pss_one (ps_ret (pe_ix (kIxL (K := K) rfl) (pv 1) (pe_cal c_law_draw (hr.mono (by decide)) (by rfl) (pa_cons (pv 0) (pa_cons (pe_callB (kLen (K := K) rfl) (by rfl) B.z_len (by decide +kernel) (pa_cons (pv 1) pa_nil)) pa_nil))) (fun _ _ => rfl)))), ?_⟩
  refine ⟨v1, rfl, evh_call (a := a) rfl ht (ea_cons (ev_lenL (ev_var rfl h1)) ea_nil) ⟨_, rfl, by omega, by omega, rfl⟩ _ fun v d W1 e1 hv ⟨r, hd, hr⟩ => ?_⟩
  subst hd
  cases hv
  have hr' : r < es.length := by omega
  cases h1.mono e1.g with
  | @lst b xs _ hb rr =>
    have hx : es[r]? = some es[r] := List.getElem?_eq_getElem hr'
    obtain ⟨x, hx1, hx2⟩ := rr.get hx
    exact ⟨b, xs, (r : Int), x, rfl, rfl, SqL.of (e1.s _ _ hb), atI_nat hx1, q x _ W1 e1 hx2 (List.getElem_mem hr')⟩
def rh_number : List PyData → (PyData → Prop) → Prop := fun ds P => ds = [] ∧ P = fun d => ∃ k : Int, d = .int k
/-! ### _law_number -/
abbrev sc_N_law_number : List Str := ["_law_hat_here", "_law_bottom", "_law_kind", "_law_top"]
theorem sc_law_number : FnScope ["_law_hat_here", "_law_bottom", "_law_kind", "_law_top"] ["_law_hat_here"] (defScope s_law_number) := ⟨rfl, rfl, rfl, by decide +kernel, rfl, by decide +kernel, by decide +kernel⟩
def sp_law_number  : Sp := hatSp rh_number
theorem ok_law_number (B : Bl mg) (S : Stand K mg d_law_number) (c_law_any : Cal P w K mg base "_law_any" 2 ["_law_hat_here", "_law_things"] sp_law_any) (c_law_draw : Cal P w K mg base "_law_draw" 1 ["_law_hat_here", "_law_many"] sp_law_draw) : Cal P w K mg base "_law_number" 3 ["_law_hat_here"] sp_law_number := by
  refine cal_mk S sc_law_number (hat_len (fun ds P h => by obtain ⟨rfl, _⟩ := h <;> rfl)) (fun _ _ _ _ _ _ us hl => match us, hl with | [_], _ => rfl) (fun f cdv A outer sh H vs Q E hr h => ?_)
  obtain ⟨W, a, us, ds, P0, rfl, ht, rfl, hv, hR, q⟩ := h
  obtain ⟨rfl, rfl⟩ := hR
  obtain rfl : us = [] := List.length_eq_zero_iff.mp hv.length
  refine ⟨_, (pss_cons (ps_set (i := 1) sc_law_number.nd rfl (.inl rfl) (pe_cal c_law_any (hr.mono (by decide)) (by rfl) (pa_cons (pv 0) (pa_cons (pe_lst (pa_cons pe_int (pa_cons pe_int (pa_cons pe_int (pa_cons pe_int (pa_cons pe_int (pa_cons pe_int (pa_cons pe_int (pa_cons pe_int (pa_cons pe_int (pa_cons pe_int (pa_cons pe_int (pa_cons pe_int (pa_cons pe_int (pa_cons pe_int pa_nil))))))))))))))) pa_nil))))
      (pss_cons (ps_set (i := 2) sc_law_number.nd rfl (.inl rfl) (pe_cal c_law_draw (hr.mono (by decide)) (by rfl) (pa_cons (pv 0) (pa_cons pe_int pa_nil))))
      (Evl.pss_cut (ps_if (pt_cmpR op_lt (pv 2) pe_int (nomark _))
      (pss_one (ps_set (i := 3) sc_law_number.nd rfl (.inl rfl) (pe_op op_sub (pe_cal c_law_draw (hr.mono (by decide)) (by rfl) (pa_cons (pv 0) (pa_cons pe_int pa_nil))) pe_int)))
      (pss_one (ps_if (pt_cmpR op_lt (pv 2) pe_int (nomark _))
      (pss_one (ps_set (i := 3) sc_law_number.nd rfl (.inl rfl) (pe_op op_sub (pe_cal c_law_draw (hr.mono (by decide)) (by rfl) (pa_cons (pv 0) (pa_cons pe_int pa_nil))) pe_int)))
      (pss_one (ps_set (i := 3) sc_law_number.nd rfl (.inl rfl) (pe_op op_sub (pe_cal c_law_draw (hr.mono (by decide)) (by rfl) (pa_cons (pv 0) (pa_cons (pe_op op_mul pe_int (pe_op op_pow pe_int pe_int)) pa_nil))) (pe_op op_pow pe_int pe_int)))))))
      (pss_one (ps_ret (pe_op op_mul (pv 3) (pe_op op_fdiv pe_int (pv 1)))))))), ?_⟩
  let es : List PyData := [.int 1, .int 1, .int 1, .int 1, .int 1, .int 2, .int 3, .int 4, .int 5, .int 7, .int 9, .int 11, .int 97, .int 27720]
  have hes : ∀ σ, EvD (tLst (tCons (tC (.int 1)) (tCons (tC (.int 1)) (tCons (tC (.int 1)) (tCons (tC (.int 1)) (tCons (tC (.int 1)) (tCons (tC (.int 2)) (tCons (tC (.int 3)) (tCons (tC (.int 4)) (tCons (tC (.int 5)) (tCons (tC (.int 7)) (tCons (tC (.int 9)) (tCons (tC (.int 11)) (tCons (tC (.int 97)) (tCons (tC (.int 27720)) tNil))))))))))))))) σ W (.list es) := fun σ =>
    ev_lst (ea_cons ev_int (ea_cons ev_int (ea_cons ev_int (ea_cons ev_int (ea_cons ev_int (ea_cons ev_int (ea_cons ev_int (ea_cons ev_int (ea_cons ev_int (ea_cons ev_int (ea_cons ev_int (ea_cons ev_int (ea_cons ev_int (ea_cons ev_int ea_nil)))))))))))))) (by show 14 ≤ 100000; decide)
  refine q_asgH (evh_call (a := a) rfl ht (ea_cons (hes _) ea_nil) ⟨es, rfl, by show 0 < 14; decide, by show 14 < 1000; decide, rfl⟩) fun v1 d W1 e1 k1 hp => ?_
  have hb : ∃ b : Int, d = .int b ∧ 1 ≤ b ∧ b ≤ 27720 := by
    simp only [es, List.mem_cons, List.not_mem_nil, or_false] at hp
    rcases hp with h | h | h | h | h | h | h | h | h | h | h | h | h | h <;> exact ⟨_, h, by decide, by decide⟩
  obtain ⟨b, rfl, hb1, hb2⟩ := hb
  cases k1
  refine q_asgH (evh_call (a := a) rfl e1.t (ea_cons ev_int ea_nil) ⟨6, rfl, by decide, by decide, rfl⟩) fun v2 d W2 e2 k2 ⟨r, hd, hr⟩ => ?_
  subst hd
  cases k2
  have dr : ∀ (m s : Int) (W3 : Wd), LeH a W2 W3 → 0 < m → m < 2 ^ 90 → ∀ te : TE, (∀ σ W4, EvD te σ W4 (.int m)) → ∀ ts : TE, (∀ σ W4, EvD ts σ W4 (.int s)) → EvH (tOp (rI0 fun i j => .int (i - j)) (tCall (hatSp rh_draw) [] E0 (tCons (tVar 0) (tCons te tNil))) ts) [some (.ref a), some (.int b), some (.int (r : Int)), none] W3 a (fun d => ∃ i : Int, d = .int i) := fun m s W3 e3 hm hm2 te hte ts hts =>
    evh_weak (evh_sub (p := fun _ => True) (evh_weak (evh_call (a := a) rfl e3.t (ea_cons (hte _ _) ea_nil) ⟨m, rfl, hm, hm2, rfl⟩) fun d ⟨r, hd, _⟩ => ⟨(r : Int), hd, trivial⟩) fun W' e => hts _ _) fun d ⟨i, hd, _⟩ => ⟨_, hd⟩
  refine ⟨fun σ2 H2 => ∃ (W5 : Wd) (top : Int), H2 = W5.H ∧ σ2 = [some (.ref a), some (.int b), some (.int (r : Int)), some (.int top)] ∧ LeH a W2 W5, ?_, ?_⟩
  · refine st_if e2.s (eb_test (ev_opB (f := fun i j => decide (i < j)) (ev_var rfl (.int _)) ev_int)) (fun hb W3 e3 => ?_) (fun hb W3 e3 => ?_)
    · refine st_asgH (dr 7 3 W3 (.of e2.t e3) (by decide) (by decide) _ (fun _ _ => ev_int) _ fun _ _ => ev_int) fun v d W5 e5 kv ⟨i, hd⟩ => ?_
      subst hd
      cases kv
      exact ⟨W5, i, rfl, rfl, (LeH.of e2.t e3).trans e5⟩
    · refine st_if e3.s (eb_test (ev_opB (f := fun i j => decide (i < j)) (ev_var rfl (.int _)) ev_int)) (fun hb W4 e4 => ?_) (fun hb W4 e4 => ?_)
      · refine st_asgH (dr 61 30 W4 (.of e2.t (e3.trans e4)) (by decide) (by decide) _ (fun _ _ => ev_int) _ fun _ _ => ev_int) fun v d W5 e5 kv ⟨i, hd⟩ => ?_
        subst hd
        cases kv
        exact ⟨W5, i, rfl, rfl, (LeH.of e2.t (e3.trans e4)).trans e5⟩
      · have hp : CPow 10 20 := ⟨by decide, by decide, by decide⟩
        have p20 : ∀ (σ : L2.St) (W : Wd), EvD (tOp (rI CPow fun i j => .int (i ^ j.toNat)) (tC (.int 10)) (tC (.int 20))) σ W (.int (10 ^ 20)) := fun σ W => ev_opC (f := fun i j => i ^ j.toNat) hp ev_int ev_int
        refine st_asgH (dr (2 * 10 ^ 20) (10 ^ 20) W4 (.of e2.t (e3.trans e4)) (by decide +kernel) (by decide +kernel) _ (fun σ W => ev_mulL (i := 2) ⟨by decide, by decide⟩ ev_int (p20 σ W)) _ fun σ W => p20 σ W) fun v d W5 e5 kv ⟨i, hd⟩ => ?_
        subst hd
        cases kv
        exact ⟨W5, i, rfl, rfl, (LeH.of e2.t (e3.trans e4)).trans e5⟩
  · rintro σ2 H2 ⟨W5, top, rfl, rfl, e5⟩
    have h1 : 0 ≤ 2688840 / b := Int.ediv_nonneg (by decide) (by omega)
    have h2 : 2688840 / b ≤ 2688840 := Int.ediv_le_self b (by decide)
    exact st_ret e5.s (ev_mulR (i := top) (j := 2688840 / b) (by omega) (ev_var rfl (.int _)) (ev_opC (C := CDiv) (i := 2688840) (j := b) (f := fun i j => i / j) ⟨by omega, by omega⟩ ev_int (ev_var rfl (.int _)))) fun v W6 e6 hv => q v _ W6 (((e1.trans e2).trans e5).le e6) hv ⟨_, rfl⟩
end
end K22
namespace K22
open PySem PySem.Spec PyProof.Rows L2
section
variable {P : Program} {w : World} {K : PySem.W.Frag} {mg : Str → Option Value} {base : Heap}
def rh_tree : List PyData → (PyData → Prop) → Prop := fun ds P => ∃ s m : Int, ds = [.int s, .int m] ∧ 0 < s ∧ s ≤ 9 ∧ 0 < m ∧ m ≤ 9 ∧ P = fun d => ∃ t : List Stp, d = .list (t.map lstepD) ∧ TreeOk t
/-! ### _law_tree -/
abbrev sc_N_law_tree : List Str := ["_law_hat_here", "_law_streams", "_law_most", "_law_pool", "_law_steps_here", "_law_pile", "_law_k", "_law_keys", "_law_turn"]
theorem sc_law_tree : FnScope ["_law_hat_here", "_law_streams", "_law_most", "_law_pool", "_law_steps_here", "_law_pile", "_law_k", "_law_keys", "_law_turn"] ["_law_hat_here", "_law_streams", "_law_most"] (defScope s_law_tree) := ⟨rfl, rfl, rfl, by decide +kernel, rfl, by decide +kernel, by decide +kernel⟩
def sp_law_tree  : Sp := hatSp rh_tree
theorem ok_law_tree (B : Bl mg) (S : Stand K mg d_law_tree) (c_law_any : Cal P w K mg base "_law_any" 2 ["_law_hat_here", "_law_things"] sp_law_any) (c_law_number : Cal P w K mg base "_law_number" 3 ["_law_hat_here"] sp_law_number) (c_law_draw : Cal P w K mg base "_law_draw" 1 ["_law_hat_here", "_law_many"] sp_law_draw) : Cal P w K mg base "_law_tree" 4 ["_law_hat_here", "_law_streams", "_law_most"] sp_law_tree := by
  refine cal_mk S sc_law_tree (hat_len (fun ds P h => by obtain ⟨_, _, rfl, _⟩ := h <;> rfl)) (fun _ _ _ _ _ _ us hl => match us, hl with | [_, _, _], _ => rfl) (fun f cdv A outer sh H vs Q E hr h => ?_)
  obtain ⟨W, a, us, ds, P0, rfl, ht, rfl, hv, hR, q⟩ := h
  obtain ⟨sn, mn, rfl, hs1, hs2, hm1, hm2, rfl⟩ := hR
  obtain ⟨v1, v2, rfl, h1, h2⟩ := hv.inv2
  cases h1
  cases h2
  refine ⟨_, (pss_cons (ps_setLc (i := 3) (own := [("_law_k", 6)]) rfl sc_law_tree.nd rfl rfl (sw_true rfl rfl rfl (by decide +kernel)) (pi_range1 (by rfl) B.z_range (pa_cons (pe_cal c_law_any (hr.mono (by decide)) (by rfl) (pa_cons (pv 0) (pa_cons (pe_lst (pa_cons pe_int (pa_cons pe_int (pa_cons pe_int (pa_cons pe_int (pa_cons pe_int pa_nil)))))) pa_nil))) pa_nil)) (blkOk_by (N := sc_N_law_tree) (sc := defScope s_law_tree) (by decide +kernel)) (fun _ _ _ _ _ => (pg_name (i := 6) sc_law_tree.nd rfl (.inl rfl))) (fun _ _ _ _ _ => pts_nil) (fun _ _ _ _ _ => (pe_cal c_law_number (hr.mono (by decide)) (by rfl) (pa_cons (pv 0) pa_nil))))
      (pss_cons (ps_set (i := 4) sc_law_tree.nd rfl (.inl rfl) (pe_lst pa_nil))
      (pss_cons (ps_set (i := 5) sc_law_tree.nd rfl (.inl rfl) pe_int)
      (pss_cons (ps_for PassesOwn.never rfl (pi_range1 (by rfl) B.z_range (pa_cons (pe_op op_add pe_int (pe_cal c_law_draw (hr.mono (by decide)) (by rfl) (pa_cons (pv 0) (pa_cons (pv 1) pa_nil)))) pa_nil)) (pg_name (i := 6) sc_law_tree.nd rfl (.inl rfl))
      (pss_cons (ps_set (i := 7) sc_law_tree.nd rfl (.inl rfl) (pe_lst pa_nil))
      (pss_cons (ps_for PassesOwn.never rfl (pi_range1 (by rfl) B.z_range (pa_cons (pe_cal c_law_draw (hr.mono (by decide)) (by rfl) (pa_cons (pv 0) (pa_cons (pe_op op_add (pv 2) pe_int) pa_nil))) pa_nil)) (pg_name (i := 8) sc_law_tree.nd rfl (.inl rfl))
      (pss_one (ps_if (pt_cmpR op_eq (pe_cal c_law_draw (hr.mono (by decide)) (by rfl) (pa_cons (pv 0) (pa_cons pe_int pa_nil))) pe_int (nomark _))
      (pss_one (ps_expr (kBM (K := K) rfl (pe_bm PySem.F.plainAttrs_list PySem.F.slot_list_append PySem.F.type_list_append mt_append (pv 7) (pa_cons (pe_cal c_law_number (hr.mono (by decide)) (by rfl) (pa_cons (pv 0) pa_nil)) pa_nil)))))
      (pss_one (ps_expr (kBM (K := K) rfl (pe_bm PySem.F.plainAttrs_list PySem.F.slot_list_append PySem.F.type_list_append mt_append (pv 7) (pa_cons (pe_cal c_law_any (hr.mono (by decide)) (by rfl) (pa_cons (pv 0) (pa_cons (pv 3) pa_nil))) pa_nil))))))))
      (pss_cons (ps_expr (kBM (K := K) rfl (pe_bm PySem.F.plainAttrs_list PySem.F.slot_list_append PySem.F.type_list_append mt_append (pv 4) (pa_cons (pv 7) pa_nil))))
      (pss_cons (ps_set (i := 5) sc_law_tree.nd rfl (.inl rfl) (pe_op op_add (pv 5) pe_int))
      (pss_one (ps_for PassesOwn.never rfl (pi_range1 (by rfl) B.z_range (pa_cons (pe_cal c_law_draw (hr.mono (by decide)) (by rfl) (pa_cons (pv 0) (pa_cons pe_int pa_nil))) pa_nil)) (pg_name (i := 8) sc_law_tree.nd rfl (.inl rfl))
      (pss_one (ps_if (pt_cmpR op_gt (pv 5) pe_int (nomark _))
      (pss_cons (ps_expr (kBM (K := K) rfl (pe_bm PySem.F.plainAttrs_list PySem.F.slot_list_append PySem.F.type_list_append mt_append (pv 4) (pa_cons pe_non pa_nil))))
      (pss_one (ps_set (i := 5) sc_law_tree.nd rfl (.inl rfl) (pe_op op_sub (pv 5) pe_int))))
      pss_nil)))))))))
      (pss_cons (ps_for PassesOwn.never rfl (pi_range1 (by rfl) B.z_range (pa_cons (pe_op op_sub (pv 5) pe_int) pa_nil)) (pg_name (i := 6) sc_law_tree.nd rfl (.inl rfl))
      (pss_one (ps_expr (kBM (K := K) rfl (pe_bm PySem.F.plainAttrs_list PySem.F.slot_list_append PySem.F.type_list_append mt_append (pv 4) (pa_cons pe_non pa_nil))))))
      (pss_one (ps_ret (pv 4)))))))), ?_⟩
  have drw : ∀ (σ : L2.St) (W3 : Wd) (m : Int) (te : TE), σ[0]? = some (some (.ref a)) → Hat a W3 → 0 < m → m < 2 ^ 90 → EvD te σ W3 (.int m) → EvH (tCall (hatSp rh_draw) [] E0 (tCons (tVar 0) (tCons te tNil))) σ W3 a (fun d => ∃ r : Nat, d = .int (r : Int) ∧ (r : Int) < m) := fun σ W3 m te h0 t3 hm hm2 hte =>
    evh_call (a := a) h0 t3 (ea_cons hte ea_nil) ⟨m, rfl, hm, hm2, rfl⟩
  let ns : List PyData := [.int 1, .int 2, .int 4, .int 8, .int 20]
  refine q_lcH (P := fun d => ∃ k : Int, d = .int k) (M := fun m => 1 ≤ m ∧ m ≤ 20) ht (evh_weak (evh_call (a := a) rfl ht (ea_cons (ev_lst (ds := ns) (ea_cons ev_int (ea_cons ev_int (ea_cons ev_int (ea_cons ev_int (ea_cons ev_int ea_nil))))) (by show 5 ≤ 100000; decide)) ea_nil) ⟨ns, rfl, by show 0 < 5; decide, by show 5 < 1000; decide, rfl⟩) fun d hd => ?_) (fun x => rfl) (fun W1 i e1 => evh_call (a := a) rfl e1.t ea_nil ⟨rfl, rfl⟩) fun pl W1 es e1 kp hes ⟨hel, hel2⟩ _ => ?_
  · simp only [ns, List.mem_cons, List.not_mem_nil, or_false] at hd
    rcases hd with h | h | h | h | h
    · exact ⟨1, h, by omega, by omega, by omega⟩
    · exact ⟨2, h, by omega, by omega, by omega⟩
    · exact ⟨4, h, by omega, by omega, by omega⟩
    · exact ⟨8, h, by omega, by omega, by omega⟩
    · exact ⟨20, h, by omega, by omega, by omega⟩
  refine q_newL fun l hl => ?_
  have x1 : AccH a W (W1.set l (.lst [])) l [] := AccH.start ht e1 hl
  have kp1 : Dq (W1.set l (.lst [])).G (.ref pl) (.list es) := kp
  refine q_asg x1.le.s ev_int fun v W2 e2 k2 => ?_
  cases k2
  have x2 := x1.mono (LeH.of x1.le.t e2)
  have kp2 := kp1.mono e2.g
  refine q_forRH (M := fun m W3 => LeH a W2 W3 ∧ 1 ≤ m ∧ m ≤ 9) (fun Q p => drw _ W2 sn _ rfl x2.le.t hs1 (by omega) (ev_var rfl (.int _)) _ fun v d W3 e3 hv ⟨r, hd, hr⟩ => ?_) fun m W3 ⟨e3, hm3, hm4⟩ => ⟨by omega, fun i σ' W' => ∃ (t : List Stp) (p : Nat) (y6 y7 y8 : Option V), σ' = [some (.ref a), some (.int sn), some (.int mn), some (.ref pl), some (.ref l), some (.int (p : Int)), y6, y7, y8] ∧ AccH a W W' l (t.map lstepD) ∧ Dq W'.G (.ref pl) (.list es) ∧ (∀ r, wfT p r → wfT 0 (t ++ r)) ∧ t.length ≤ 3 * i ∧ (∀ ks, some ks ∈ t → ks.length ≤ 9) ∧ p ≤ i ∧ (i = 0 ∨ 1 ≤ p),
    ⟨[], 0, none, none, none, rfl, x2.mono e3, kp2.mono e3.g, fun r h => h, Nat.le_refl _, (fun ks h => by simp at h), Nat.le_refl _, .inl rfl⟩, ?_, ?_⟩
  · subst hd
    cases hv
    have z := p (1 + r) W3 ⟨e3, by omega, by omega⟩
    rw [show (((1 + r : Nat)) : Int) = 1 + (r : Int) by omega] at z
    exact ⟨1, (r : Int), rfl, rfl, z⟩
  · rintro i σ' W4 hi ⟨t, p, y6, y7, y8, rfl, x4, kp4, hwf, htl, hfew, hpi, hp1⟩
    refine q_newL fun n hn => ?_
    have z4 : AccH a W4 (W4.set n (.lst [])) n [] := AccH.start x4.le.t (.refl x4.le.t) hn
    have x5 := x4.laid hn
    have ne : l ≠ n := fun c => x4.at_ (c ▸ hn)
    have hnW : W.H n = none := x4.le.back ht hn
    have kp5 : Dq (W4.set n (.lst [])).G (.ref pl) (.list es) := kp4
    refine q_forRH (M := fun m W6 => LeH a (W4.set n (.lst [])) W6 ∧ m ≤ 9) (fun Q p => drw _ (W4.set n (.lst [])) (mn + 1) _ rfl x5.le.t (by omega) (by omega) (ev_opI (f := fun i j => i + j) (ev_var rfl (.int _)) ev_int) _ fun v d W6 e6 hv ⟨r, hd, hr⟩ => ?_) fun m2 W6 ⟨e6, hm6⟩ => ⟨by omega, fun j σ' W' => ∃ (ks : List Int) (y8 : Option V), σ' = [some (.ref a), some (.int sn), some (.int mn), some (.ref pl), some (.ref l), some (.int (p : Int)), some (.int (i : Int)), some (.ref n), y8] ∧ AccH a W W' l (t.map lstepD) ∧ AccH a W4 W' n (ks.map .int) ∧ Dq W'.G (.ref pl) (.list es) ∧ ks.length = j,
      ⟨[], y8, rfl, x5.mono e6, z4.mono e6, kp5.mono e6.g, rfl⟩, ?_, ?_⟩
    · subst hd
      cases hv
      exact p r W6 ⟨e6, by omega⟩
    · rintro j σ' W7 hj ⟨ks, y8, rfl, x7, z7, kp7, hkl⟩
      have hz : (ks.map PyData.int).length < 100000 := by
        rw [List.length_map]
        omega
      refine st_ifDraw (evh_weak (drw _ W7 3 _ rfl x7.le.t (by decide) (by decide) ev_int) fun d ⟨r, hd, _⟩ => ⟨(r : Int), hd⟩) fun W8 e8 => ?_
      have x8 := x7.mono e8
      have z8 := z7.mono e8
      have kp8 := kp7.mono e8.g
      have fin : ∀ (k : Int) (W9 : Wd) (o : HO), LeH a W8 W9 → AccH a W4 (W9.set n o) n (ks.map PyData.int ++ [.int k]) → ∃ W10 : Wd, (W9.set n o).H = W10.H ∧ ∃ (ks : List Int) (y8 : Option V), [some (V.ref a), some (V.int sn), some (V.int mn), some (V.ref pl), some (V.ref l), some (V.int (p : Int)), some (V.int (i : Int)), some (V.ref n), some (V.int (j : Int))] = [some (.ref a), some (.int sn), some (.int mn), some (.ref pl), some (.ref l), some (.int (p : Int)), some (.int (i : Int)), some (.ref n), y8] ∧ AccH a W W10 l (t.map lstepD) ∧ AccH a W4 W10 n (ks.map .int) ∧ Dq W10.G (.ref pl) (.list es) ∧ ks.length = j + 1 := fun k W9 o e9 z9 =>
        ⟨W9.set n o, rfl, ks ++ [k], _, rfl, (x8.mono e9).other (z8.mono e9) hnW ne, by rw [List.map_append]; exact z9, kp8.mono e9.g, by rw [List.length_append, List.length_singleton, hkl]⟩
      refine ⟨st_appH z8 rfl hz (evh_call (a := a) rfl e8.t ea_nil ⟨rfl, rfl⟩) fun d W9 o e9 hd z9 => ?_, st_appH z8 rfl hz (evh_call (a := a) rfl e8.t (ea_cons (ev_var rfl kp8) ea_nil) ⟨es, rfl, by omega, by omega, rfl⟩) fun d W9 o e9 hd z9 => ?_⟩
      · obtain ⟨k, rfl⟩ := hd
        exact fin k W9 o e9 z9
      · obtain ⟨k, rfl⟩ := hes d hd
        exact fin k W9 o e9 z9
    · rintro σ' W7 ⟨ks, y8, rfl, x7, z7, kp7, hkl⟩
      obtain ⟨fs, f1, f2, f3, f4, f5⟩ := z7.frz
      have x8 := x7.frzO hnW f5 z7.out ne
      have kp8 := kp7.mono f3
      have htl2 : (t.map lstepD).length < 100000 := by
        rw [List.length_map]
        omega
      refine q_appHD (W := W7.frz n (.lst fs)) x8 rfl htl2 (ev_var rfl f2) fun W9 o e9 x9 => ?_
      have kp9 : Dq (W9.set l o).G (.ref pl) (.list es) := kp8.mono e9.g
      have ea : t.map lstepD ++ [PyData.list (ks.map .int)] = (t ++ [some ks]).map lstepD := by rw [List.map_append] <;> rfl
      rw [ea] at x9
      refine q_asg x9.le.s (d := .int ((p + 1 : Nat) : Int)) (ev_is (ev_opI (f := fun i j => i + j) (ev_var rfl (.int _)) ev_int) (congrArg PyData.int (show (p : Int) + 1 = ((p + 1 : Nat) : Int) by omega))) fun v W10 e10 k10 => ?_
      cases k10
      have x10 := x9.mono (LeH.of x9.le.t e10)
      have kp10 := kp9.mono e10.g
      refine st_forRH (M := fun m W11 => LeH a W10 W11 ∧ m ≤ 2) (fun Q p => drw _ W10 3 _ rfl x10.le.t (by decide) (by decide) ev_int _ fun v d W11 e11 hv ⟨r, hd, hr⟩ => ?_) fun m3 W11 ⟨e11, hm11⟩ => ⟨by omega, fun j σ' W' => ∃ (t2 : List Stp) (p2 : Nat) (y8 : Option V), σ' = [some (.ref a), some (.int sn), some (.int mn), some (.ref pl), some (.ref l), some (.int (p2 : Int)), some (.int (i : Int)), some (.ref n), y8] ∧ AccH a W W' l (t2.map lstepD) ∧ Dq W'.G (.ref pl) (.list es) ∧ (∀ r, wfT p2 r → wfT 0 (t2 ++ r)) ∧ t2.length ≤ t.length + 1 + j ∧ (∀ ks, some ks ∈ t2 → ks.length ≤ 9) ∧ p2 ≤ i + 1 ∧ 1 ≤ p2,
        ⟨t ++ [some ks], p + 1, y8, rfl, x10.mono e11, kp10.mono e11.g, fun r h => ?_, ?_, fun ks' h => ?_, by omega, by omega⟩, ?_, ?_⟩
      · subst hd
        cases hv
        exact p r W11 ⟨e11, by omega⟩
      · rw [List.append_assoc]
        exact hwf _ h
      · rw [List.length_append, List.length_singleton]
        omega
      · rcases List.mem_append.mp h with c | c
        · exact hfew ks' c
        · have e := Option.some.inj (List.mem_singleton.mp c)
          rw [e]
          omega
      · rintro j σ' W12 hj ⟨t2, p2, y8, rfl, x12, kp12, hwf2, htl3, hfew2, hp2, hp3⟩
        refine st_if x12.le.s (eb_test (ev_opB (f := fun i j => decide (i > j)) (ev_var rfl (.int _)) ev_int)) (fun hb W13 e13 => ?_) (fun hb W13 e13 => ?_)
        · have hb' := of_decide_eq_true hb
          have x13 := x12.mono (LeH.of x12.le.t e13)
          refine q_appHD x13 rfl (by rw [List.length_map]; omega) ev_non fun W14 o e14 x14 => ?_
          have ea : t2.map lstepD ++ [PyData.none] = (t2 ++ [none]).map lstepD := by rw [List.map_append] <;> rfl
          rw [ea] at x14
          refine st_asg x14.le.s (d := .int ((p2 - 1 : Nat) : Int)) (ev_is (ev_opI (f := fun i j => i - j) (ev_var rfl (.int _)) ev_int) (congrArg PyData.int (show (p2 : Int) - 1 = ((p2 - 1 : Nat) : Int) by omega))) fun v W15 e15 k15 => ?_
          cases k15
          refine ⟨W15, rfl, t2 ++ [none], p2 - 1, _, rfl, x14.mono (LeH.of x14.le.t e15), ((kp12.mono e13.g).mono e14.g).mono e15.g, fun r h => ?_, ?_, fun ks' h => ?_, by omega, by omega⟩
          · rw [List.append_assoc]
            exact hwf2 _ ⟨by omega, h⟩
          · rw [List.length_append, List.length_singleton]
            omega
          · rcases List.mem_append.mp h with c | c
            · exact hfew2 ks' c
            · cases List.mem_singleton.mp c
        · exact ⟨W13, rfl, t2, p2, _, rfl, x12.mono (LeH.of x12.le.t e13), kp12.mono e13.g, hwf2, by omega, hfew2, hp2, hp3⟩
      · rintro σ' W12 ⟨t2, p2, y8, rfl, x12, kp12, hwf2, htl3, hfew2, hp2, hp3⟩
        exact ⟨W12, rfl, t2, p2, _, _, y8, rfl, x12, kp12, hwf2, by omega, hfew2, hp2, .inr hp3⟩
  · rintro σ' W4 ⟨t, p, y6, y7, y8, rfl, x4, kp4, hwf, htl, hfew, hpi, hp1⟩
    have hp : 1 ≤ p := hp1.resolve_left (by omega)
    refine q_forRH (M := fun m W5 => m = p - 1 ∧ W4.le W5) (fun Q q1 => (ev_opI (f := fun i j => i - j) (i := (p : Int)) (j := 1) (ev_var rfl (.int _)) ev_int : EvD _ _ W4 _) W4 (.refl x4.le.s) _ fun v W5 e5 hv => ?_) fun m W5 ⟨hm, e5⟩ => ⟨by omega, fun j σ' W' => ∃ y6 : Option V, σ' = [some (.ref a), some (.int sn), some (.int mn), some (.ref pl), some (.ref l), some (.int (p : Int)), y6, y7, y8] ∧ AccH a W W' l ((t ++ List.replicate j none).map lstepD),
      ⟨y6, rfl, by rw [List.replicate_zero, List.append_nil]; exact x4.mono (LeH.of x4.le.t e5)⟩, ?_, ?_⟩
    · cases hv
      have z := q1 (p - 1) W5 ⟨rfl, e5⟩
      rw [show ((p - 1 : Nat) : Int) = (p : Int) - 1 by omega] at z
      exact z
    · rintro j σ' W6 hj ⟨y6, rfl, x6⟩
      refine st_appHD x6 rfl (by rw [List.length_map, List.length_append, List.length_replicate]; omega) ev_non fun W7 o e7 x7 => ⟨W7.set l o, rfl, _, rfl, ?_⟩
      have ea : (t ++ List.replicate j none).map lstepD ++ [PyData.none] = (t ++ List.replicate (j + 1) none).map lstepD := by
        rw [List.replicate_succ', ← List.append_assoc]
        exact (List.map_append (f := lstepD) (l₁ := t ++ List.replicate j none) (l₂ := [none])).symm
      rw [ea] at x7
      exact x7
    · rintro σ' W6 ⟨y6, rfl, x6⟩
      obtain ⟨fs, f1, f2, f3, f4, f5⟩ := x6.frz
      refine st_ret (W := W6.frz l (.lst fs)) f5.s (ev_var rfl f2) fun v W7 e7 hv => q v _ W7 (f1.le e7) hv ⟨t ++ List.replicate m none, rfl, ?_⟩
      refine ⟨?_, ?_, fun ks h => ?_⟩
      · rw [hm]
        exact hwf _ (wf_nones p hp)
      · rw [List.length_append, List.length_replicate]
        omega
      · rcases List.mem_append.mp h with c | c
        · exact hfew ks c
        · cases List.eq_of_mem_replicate c
end
end K22
namespace K22
open PySem PySem.Spec PyProof.Rows L2
section
variable {P : Program} {w : World} {K : PySem.W.Frag} {mg : Str → Option Value} {base : Heap}
def rh_held : List PyData → (PyData → Prop) → Prop := fun ds P => ∃ (room : Int) (nd : Nd) (t : List Stp), ds = [rkD room nd.many nd.ms, treeD t, .list ((itemsOf t).map .int)] ∧ 1 ≤ room ∧ room ≤ 64 ∧ TreeOk t ∧ NdOk room nd ∧ nd.ks = itemsOf t ∧ P = fun d => d = .bool true
/-! ### _law_held -/
abbrev sc_N_law_held : List Str := ["_law_hat_here", "_law_ranks", "_law_tree_here", "_law_keys", "_law_ordered", "_law_unlike", "_law_first", "_law_key", "_law_below", "_law_up", "_law_near", "_law_index", "_law_low", "_law_high", "_law_value_here", "_law_at", "_law_other"]
theorem sc_law_held : FnScope ["_law_hat_here", "_law_ranks", "_law_tree_here", "_law_keys", "_law_ordered", "_law_unlike", "_law_first", "_law_key", "_law_below", "_law_up", "_law_near", "_law_index", "_law_low", "_law_high", "_law_value_here", "_law_at", "_law_other"] ["_law_hat_here", "_law_ranks", "_law_tree_here", "_law_keys"] (defScope s_law_held) := ⟨rfl, rfl, rfl, by decide +kernel, rfl, by decide +kernel, by decide +kernel⟩
def sp_law_held  : Sp := hatSp rh_held
theorem ok_law_held (B : Bl mg) (S : Stand K mg d_law_held) (c_law_draw : Cal P w K mg base "_law_draw" 1 ["_law_hat_here", "_law_many"] sp_law_draw) (c_law_place_right : Cal P w K mg base "_law_place_right" 9 ["_law_ranks", "_law_tree_here", "_law_place", "_law_due"] (pureSp rl_law_place_right)) (c_law_value : Cal P w K mg base "_law_value" 2 ["_law_key"] (pureSp rl_law_value)) (c_item_ends : Cal P w K mg base "item_ends" 7 ["ranks", "index"] (pureSp rl_item_ends)) : Cal P w K mg base "_law_held" 10 ["_law_hat_here", "_law_ranks", "_law_tree_here", "_law_keys"] sp_law_held := by
  refine cal_mk S sc_law_held (hat_len (fun ds P h => by obtain ⟨_, _, _, rfl, _⟩ := h <;> rfl)) (fun _ _ _ _ _ _ us hl => match us, hl with | [_, _, _, _], _ => rfl) (fun f cdv A outer sh H vs Q E hr h => ?_)
  obtain ⟨W, a, us, ds, P0, rfl, ht, rfl, hv, hR, q⟩ := h
  obtain ⟨room, nd, t, rfl, hr1, hr2, hT, hN, hks, rfl⟩ := hR
  obtain ⟨v1, v2, v3, rfl, h1, h2, h3⟩ := hv.inv3
  refine ⟨_, (pss_cons (ps_set (i := 4) sc_law_held.nd rfl (.inr rfl) (pe_callB (kSorted (K := K) rfl) (by rfl) B.z_sorted (by decide +kernel) (pa_cons (pv 3) pa_nil)))
      (pss_cons (ps_setLc (i := 5) (own := [("_law_at", 15), ("_law_key", 7)]) rfl sc_law_held.nd rfl rfl (sw_true rfl rfl rfl (by decide +kernel)) (kpi_enum (K := K) rfl (by rfl) B.z_enumerate (pa_cons (pv 4) pa_nil)) (blkOk_by (N := sc_N_law_held) (sc := defScope s_law_held) (by decide +kernel)) (fun _ _ _ _ _ => (kpg_tup (K := K) (n := 2) rfl rfl (pgs_cons (pg_name (i := 15) sc_law_held.nd rfl (.inl rfl)) (pgs_cons (pg_name (i := 7) sc_law_held.nd rfl (.inl rfl)) pgs_nil)))) (fun _ _ _ _ _ => (pts_one (PW.pt (pw_or (pt_cmpR op_eq (pv 15) pe_int (nomark _)) (pw_or1 (pt_cmpR op_ne (pe_ix (kIxL (K := K) rfl) (pv 4) (pe_op op_sub (pv 15) pe_int) (fun _ _ => rfl)) (pv 7) (nomark _))))))) (fun _ _ _ _ _ => (pv 7)))
      (pss_cons (ps_set (i := 6) sc_law_held.nd rfl (.inl rfl) (pe_cal c_law_draw (hr.mono (by decide)) (by rfl) (pa_cons (pv 0) (pa_cons (pe_callB (call_max2 rfl) (by rfl) B.z_max (by decide +kernel) (pa_cons pe_int (pa_cons (pe_op op_sub (pe_callB (kLen (K := K) rfl) (by rfl) B.z_len (by decide +kernel) (pa_cons (pv 5) pa_nil)) pe_int) pa_nil))) pa_nil))))
      (pss_cons (ps_for PassesOwn.never rfl (kpi_list (K := K) rfl (pe_slice (kSlL (K := K) rfl) (pv 5) (po_some (pv 6)) (po_some (pe_op op_add (pv 6) pe_int)))) (pg_name (i := 7) sc_law_held.nd rfl (.inr rfl))
      (pss_cons (ps_set (i := 8) sc_law_held.nd rfl (.inl rfl) (pe_callB (kLen (K := K) rfl) (by rfl) B.z_len (by decide +kernel) (pa_cons (pe_lc (own := [("_law_other", 16)]) rfl sc_law_held.nd (kpi_list (K := K) rfl (pv 3)) (blkOk_by (N := sc_N_law_held) (sc := defScope s_law_held) (by decide +kernel)) (fun _ _ _ _ _ => (pg_name (i := 16) sc_law_held.nd rfl (.inl rfl))) (fun _ _ _ _ _ => (pts_one (pt_cmpR op_lt (pv 16) (pv 7) (nomark _)))) (fun _ _ _ _ _ => (pv 16))) pa_nil)))
      (pss_cons (ps_set (i := 9) sc_law_held.nd rfl (.inl rfl) (pe_callB (kLen (K := K) rfl) (by rfl) B.z_len (by decide +kernel) (pa_cons (pe_lc (own := [("_law_other", 16)]) rfl sc_law_held.nd (kpi_list (K := K) rfl (pv 3)) (blkOk_by (N := sc_N_law_held) (sc := defScope s_law_held) (by decide +kernel)) (fun _ _ _ _ _ => (pg_name (i := 16) sc_law_held.nd rfl (.inl rfl))) (fun _ _ _ _ _ => (pts_one (pt_cmpR op_le (pv 16) (pv 7) (nomark _)))) (fun _ _ _ _ _ => (pv 16))) pa_nil)))
      (pss_cons (ps_if (pt_not (pt_val (pe_cal c_law_place_right (hr.mono (by decide)) (by rfl) (pa_cons (pv 1) (pa_cons (pv 2) (pa_cons (pe_tup (pa_cons (pe_cal c_law_value (hr.mono (by decide)) (by rfl) (pa_cons (pv 7) pa_nil)) (pa_cons pe_int pa_nil))) (pa_cons (pv 8) pa_nil)))))))
      (pss_one (ps_ret pe_bl))
      pss_nil)
      (pss_cons (ps_if (pt_not (pt_val (pe_cal c_law_place_right (hr.mono (by decide)) (by rfl) (pa_cons (pv 1) (pa_cons (pv 2) (pa_cons (pe_tup (pa_cons (pe_cal c_law_value (hr.mono (by decide)) (by rfl) (pa_cons (pv 7) pa_nil)) (pa_cons pe_int pa_nil))) (pa_cons (pv 9) pa_nil)))))))
      (pss_one (ps_ret pe_bl))
      pss_nil)
      (pss_cons (ps_setLc (i := 10) (own := [("_law_other", 16)]) rfl sc_law_held.nd rfl rfl (sw_true rfl rfl rfl (by decide +kernel)) (kpi_list (K := K) rfl (pv 3)) (blkOk_by (N := sc_N_law_held) (sc := defScope s_law_held) (by decide +kernel)) (fun _ _ _ _ _ => (pg_name (i := 16) sc_law_held.nd rfl (.inl rfl))) (fun _ _ _ _ _ => (pts_one (pt_chain op_lt op_le (pv 7) (pv 16) (pe_op op_add (pv 7) pe_int)))) (fun _ _ _ _ _ => (pv 16)))
      (pss_one (ps_if (pt_not (pt_val (pe_cal c_law_place_right (hr.mono (by decide)) (by rfl) (pa_cons (pv 1) (pa_cons (pv 2) (pa_cons (pe_tup (pa_cons (pe_cal c_law_value (hr.mono (by decide)) (by rfl) (pa_cons (pe_op op_add (pv 7) pe_int) pa_nil)) (pa_cons pe_int pa_nil))) (pa_cons (pe_op op_add (pv 9) (pe_callB (kLen (K := K) rfl) (by rfl) B.z_len (by decide +kernel) (pa_cons (pv 10) pa_nil))) pa_nil)))))))
      (pss_one (ps_ret pe_bl))
      pss_nil))))))))
      (pss_cons (ps_for PassesOwn.never rfl (pi_range1 (by rfl) B.z_range (pa_cons (pe_callB (kLen (K := K) rfl) (by rfl) B.z_len (by decide +kernel) (pa_cons (pv 4) pa_nil)) pa_nil)) (pg_name (i := 11) sc_law_held.nd rfl (.inl rfl))
      (pss_cons (ps_asg (pe_cal c_item_ends (hr.mono (by decide)) (by rfl) (pa_cons (pv 1) (pa_cons (pv 11) pa_nil))) (kpg_tup (K := K) (n := 2) rfl rfl (pgs_cons (pg_name (i := 12) sc_law_held.nd rfl (.inl rfl)) (pgs_cons (pg_name (i := 13) sc_law_held.nd rfl (.inl rfl)) pgs_nil))))
      (pss_cons (ps_set (i := 14) sc_law_held.nd rfl (.inl rfl) (pe_cal c_law_value (hr.mono (by decide)) (by rfl) (pa_cons (pe_ix (kIxL (K := K) rfl) (pv 4) (pv 11) (fun _ _ => rfl)) pa_nil)))
      (pss_cons (ps_if (PW.pt (pw_and (pt_cmpR op_notN (pv 12) pe_non (nomark _)) (pw_and1 (pt_cmpR op_gt (pe_op op_mul (pe_ix (kIxT (K := K) rfl) (pv 12) pe_int (fun _ _ => rfl)) (pe_ix (kIxT (K := K) rfl) (pv 14) pe_int (fun _ _ => rfl))) (pe_op op_mul (pe_ix (kIxT (K := K) rfl) (pv 14) pe_int (fun _ _ => rfl)) (pe_ix (kIxT (K := K) rfl) (pv 12) pe_int (fun _ _ => rfl))) (nomark _)))))
      (pss_one (ps_ret pe_bl))
      pss_nil)
      (pss_one (ps_if (PW.pt (pw_and (pt_cmpR op_notN (pv 13) pe_non (nomark _)) (pw_and1 (pt_cmpR op_lt (pe_op op_mul (pe_ix (kIxT (K := K) rfl) (pv 13) pe_int (fun _ _ => rfl)) (pe_ix (kIxT (K := K) rfl) (pv 14) pe_int (fun _ _ => rfl))) (pe_op op_mul (pe_ix (kIxT (K := K) rfl) (pv 14) pe_int (fun _ _ => rfl)) (pe_ix (kIxT (K := K) rfl) (pv 13) pe_int (fun _ _ => rfl))) (nomark _)))))
      (pss_one (ps_ret pe_bl))
      pss_nil))))))
      (pss_one (ps_ret pe_bl))))))), ?_⟩
  have hk := rk_of hr1 hr2 hN
  have hn9 : (itemsOf t).length ≤ 9000 := by
    have h1 := items_len hT.few
    have h2 := hT.len
    omega
  refine q_asg ht.s (ev_sorted (ev_var rfl h3)) fun v4 W1 e1 k4 => ?_
  have hLn : ((srt (itemsOf t)).map PyData.int).length = (itemsOf t).length := by rw [List.length_map, srt_length]
  refine q_asg e1.s (d := .list (unl (srt (itemsOf t)) (itemsOf t).length)) (ev_is (ev_lcE (fun i => unl (srt (itemsOf t)) i) rfl (fun i => unl_len _ i) (ev_var rfl k4) (by omega) (fun x y => rfl) fun W2 i x d e2 hd hx => ?_) (by rw [hLn])) fun v5 W2 e2 k5 => ?_
  · obtain ⟨k, hki, rfl⟩ := map_at hd
    have k4' := k4.mono e2.g
    cases i with
    | zero =>
      exact ⟨true, eb_is (eb_or (b := true) (c := false) (eb_is (eb_test (ev_eqI (ev_var rfl (.int _)) ev_int)) (decide_eq_true rfl)) fun z => nomatch z) rfl, fun _ => ⟨.int k, ev_var rfl hx, unl_yes hki (.inl rfl)⟩, fun z => nomatch z⟩
    | succ j =>
      obtain ⟨y0, hy⟩ : ∃ y0, (srt (itemsOf t))[j]? = some y0 := ⟨_, List.getElem?_eq_getElem (by have := (List.getElem?_eq_some_iff.mp hki).1; omega)⟩
      have hat : atI ((srt (itemsOf t)).map PyData.int) (((j + 1 : Nat) : Int) - 1) = some (.int y0) := by
        rw [show ((j + 1 : Nat) : Int) - 1 = (j : Int) by omega]
        exact atI_nat (at_map hy)
      have hj : (srt (itemsOf t))[j + 1 - 1]? = some y0 := hy
      refine ⟨!decide (y0 = k), eb_is (eb_or (b := false) (eb_is (eb_test (ev_eqI (ev_var rfl (.int _)) ev_int)) (decide_eq_false (by omega))) fun _ => eb_test (ev_neI (ev_ixL (i := ((j + 1 : Nat) : Int) - 1) hat (ev_var rfl k4') (ev_opI (f := fun i j => i - j) (ev_var rfl (.int _)) ev_int)) (ev_var rfl hx))) (Bool.false_or _), fun hb => ⟨.int k, ev_var rfl hx, unl_yes hki (.inr ?_)⟩, fun hb => unl_no hki ?_⟩
      · rw [hj]
        intro z
        rw [decide_eq_true (Option.some.inj z)] at hb
        cases hb
      · rintro (c | c)
        · omega
        · rw [hj] at c
          rw [decide_eq_false fun z => c (congrArg some z)] at hb
          cases hb
  have e12 := e1.trans e2
  have ht2 := ht.mono e12
  have hul := unl_len (srt (itemsOf t)) (itemsOf t).length
  have hui := unl_int (srt (itemsOf t)) (itemsOf t).length
  generalize unl (srt (itemsOf t)) (itemsOf t).length = ul at k5 hul hui
  refine q_asgH (evh_call (a := a) rfl ht2 (ea_cons (ev_max2 ev_int (ev_opI (f := fun i j => i - j) (ev_lenL (ev_var rfl k5)) ev_int)) ea_nil) ⟨_, rfl, by split <;> omega, by split <;> omega, rfl⟩) fun v6 d W3 e3 k6 ⟨r, hd, hr⟩ => ?_
  subst hd
  cases k6
  have e13 := (LeH.of ht e12).trans e3
  have h13 := h1.mono e13.g
  have h23 := h2.mono e13.g
  have h33 := h3.mono e13.g
  have k43 := (k4.mono e2.g).mono e3.g
  have k53 := k5.mono e3.g
  have pr : ∀ (σ : L2.St) (W5 : Wd) (key due si : Int) (up : Bool) (tk td : TE), σ[1]? = some (some v1) → σ[2]? = some (some v2) → W3.le W5 → EvD tk σ W5 (.int key) → si = sideI up → EvD td σ W5 (.int due) → due = cnt up (itemsOf t) key →
      EvB (tNot (tB (tCall (pureSp rl_law_place_right) [] E0 (tCons (tVar 1) (tCons (tVar 2) (tCons (tTup (tCons (tCall (pureSp rl_law_value) [] E0 (tCons tk tNil)) (tCons (tC (.int si)) tNil))) (tCons td tNil))))))) σ W5 false := fun σ W5 key due si up tk td s1 s2 e5 htk hsi htd hdue => by
    have he := held_ends hN key up
    rw [hks, ← hdue] at he
    subst hsi
    exact eb_not (b := true) (eb_B (ev_call (ea_cons (ev_var s1 (h13.mono e5.g)) (ea_cons (ev_var s2 (h23.mono e5.g)) (ea_cons (ev_tup (ea_cons (ev_call (ea_cons htk ea_nil) ⟨key, rfl, rfl⟩) (ea_cons ev_int ea_nil)) (by show 2 ≤ 100000; decide)) (ea_cons htd ea_nil)))) ⟨room, nd.many, nd.ms, t, key, up, due, rfl, hk, hT, hdue, he.1, he.2, rfl⟩))
  have lce : ∀ (p : Int → Bool) (tt : TT) (y7 y8 y9 y10 : Option V) (W5 : Wd), W3.le W5 → (∀ W6 (i : Int), W5.le W6 → EvB tt [some (.ref a), some v1, some v2, some v3, some v4, some v5, some (.int (r : Int)), y7, y8, y9, y10, none, none, none, none, none, some (.int i)] W6 (p i)) →
      EvD (tLc (iList K (tVar 3)) (gName 16) tt (tVar 16) [16]) [some (.ref a), some v1, some v2, some v3, some v4, some v5, some (.int (r : Int)), y7, y8, y9, y10, none, none, none, none, none, none] W5 (.list (((itemsOf t).filter p).map .int)) := fun p tt y7 y8 y9 y10 W5 e5 htt => by
    refine ev_is (ev_lcL (pI p) (fun d => d) (ds := (itemsOf t).map PyData.int) (ev_var rfl (h33.mono e5.g)) (by rw [List.length_map]; omega) (fun x => rfl) fun W6 x d e6 hd hx => ?_) (congrArg PyData.list (filt_ints p _))
    obtain ⟨i, _, rfl⟩ := List.mem_map.mp hd
    cases hx
    exact ⟨htt W6 i e6, fun _ => ev_var rfl (.int i)⟩
  refine q_forL e3.s (ev_slL (ev_var rfl k53) (eo_some (ev_var rfl (.int _))) (eo_some (ev_opI (f := fun i j => i + j) (ev_var rfl (.int _)) ev_int))) fun W4 e4 => ⟨fun i σ' W' => ∃ (y7 y8 y9 y10 : Option V), σ' = [some (.ref a), some v1, some v2, some v3, some v4, some v5, some (.int (r : Int)), y7, y8, y9, y10, none, none, none, none, none, none] ∧ W3.le W', ⟨none, none, none, none, rfl, e4⟩, ?_, ?_⟩
  · rintro i σ' W5 x d hd g s' hx ⟨y7, y8, y9, y10, rfl, e5⟩
    obtain ⟨k, rfl⟩ := hui d (cutD_mem (List.mem_of_getElem? hd))
    cases hx
    refine q_asg s' (d := .int (cnt false (itemsOf t) k)) (ev_is (ev_lenL (lce (fun i => decide (i < k)) _ (some (.int k)) y8 y9 y10 W5 e5 fun W6 i e6 => eb_test (ev_opB (f := fun i j => decide (i < j)) (ev_var rfl (.int _)) (ev_var rfl (.int _))))) (by rw [List.length_map]; rfl)) fun v8 W6 e6 k8 => ?_
    cases k8
    refine q_asg e6.s (d := .int (cnt true (itemsOf t) k)) (ev_is (ev_lenL (lce (fun i => decide (i ≤ k)) _ (some (.int k)) _ y9 y10 W6 (e5.trans e6) fun W6 i e6 => eb_test (ev_opB (f := fun i j => decide (i ≤ j)) (ev_var rfl (.int _)) (ev_var rfl (.int _))))) (by rw [List.length_map]; rfl)) fun v9 W7 e7 k9 => ?_
    cases k9
    have e57 := (e5.trans e6).trans e7
    refine q_if e7.s (b := false) (pr _ W7 k _ _ false _ _ rfl rfl e57 (ev_var rfl (.int _)) rfl (ev_var rfl (.int _)) rfl) (fun z => nomatch z) fun _ W8 e8 => ?_
    refine q_if e8.s (b := false) (pr _ W8 k _ _ true _ _ rfl rfl (e57.trans e8) (ev_var rfl (.int _)) rfl (ev_var rfl (.int _)) rfl) (fun z => nomatch z) fun _ W9 e9 => ?_
    have e59 := (e57.trans e8).trans e9
    refine q_asg e9.s (lce (fun i => decide (k < i) && decide (i ≤ k + 1)) _ (some (.int k)) _ _ y10 W9 e59 fun W6 i e6 => eb_test (ev_chain (f := fun i j => decide (i < j)) (g := fun i j => decide (i ≤ j)) (ev_var rfl (.int _)) (ev_var rfl (.int _)) fun _ => ev_opI (f := fun i j => i + j) (ev_var rfl (.int _)) ev_int)) fun v10 W10 e10 k10 => ?_
    refine st_if e10.s (b := false) (pr _ W10 (k + 1) (cnt true (itemsOf t) k + (((itemsOf t).filter fun i => decide (k < i) && decide (i ≤ k + 1)).length : Int)) _ true _ _ rfl rfl (e59.trans e10) (ev_opI (f := fun i j => i + j) (ev_var rfl (.int _)) ev_int) rfl (ev_opI (f := fun i j => i + j) (ev_var rfl (.int _)) (ev_is (ev_lenL (ev_var rfl k10)) (by rw [List.length_map]))) (near_cnt _ _)) (fun z => nomatch z) fun _ W11 e11 => ?_
    exact ⟨W11, rfl, (((((g.trans e6.g).trans e7.g).trans e8.g).trans e9.g).trans e10.g).trans e11.g, e11.s, _, _, _, _, rfl, (e59.trans e10).trans e11⟩
  · rintro σ' W5 g s' ⟨y7, y8, y9, y10, rfl, e5⟩
    have hnm : nd.many = ((itemsOf t).length : Int) := by rw [hN.many, hks]
    refine q_forR (m := (itemsOf t).length) s' (by omega) (ev_is (ev_lenL (ev_var rfl (k43.mono e5.g))) (by rw [hLn])) fun W6 e6 => ⟨fun i σ' W' => ∃ (y11 y12 y13 y14 : Option V), σ' = [some (.ref a), some v1, some v2, some v3, some v4, some v5, some (.int (r : Int)), y7, y8, y9, y10, y11, y12, y13, y14, none, none] ∧ W3.le W', ⟨none, none, none, none, rfl, e5.trans e6⟩, ?_, ?_⟩
    · rintro i σ' W7 hi g7 s7 ⟨y11, y12, y13, y14, rfl, e7⟩
      obtain ⟨x, hx⟩ : ∃ x, (srt (itemsOf t))[i]? = some x := ⟨_, List.getElem?_eq_getElem (by rw [srt_length]; exact hi)⟩
      have hx' : (srt nd.ks)[i]? = some x := by rw [hks]; exact hx
      refine q_un2 s7 (ev_call (ea_cons (ev_var rfl (h13.mono e7.g)) (ea_cons (ev_var rfl (.int (i : Int))) ea_nil)) ⟨room, nd.many, nd.ms, (i : Int), rfl, hk, by omega, by omega, rfl⟩) fun v12 v13 W8 e8 k12 k13 => ?_
      refine q_asg e8.s (d := frac x) (ev_call (ea_cons (ev_ixL (i := (i : Int)) (atI_nat (at_map hx)) (ev_var rfl (k43.mono (e7.trans e8).g)) (ev_var rfl (.int (i : Int)))) ea_nil) ⟨x, rfl, rfl⟩) fun v14 W9 e9 k14 => ?_
      have k12' := k12.mono e9.g
      have k13' := k13.mono e9.g
      have hN2 : ∀ o : Option Mk, isNon (optK o) = o.isNone := isNon_optD fun _ => rfl
      have lowB : EvB (tAnd (tTest (tOp (fun x y H Q => y = .non ∧ Q (.bl (!decide (x = .non))) H) (tVar 12) (tC .non))) (tTest (tOp (rI0 fun i j => .bl (decide (j < i))) (tOp (rI CMul fun i j => .int (i * j)) (tOp (rIxT K) (tVar 12) (tC (.int 0))) (tOp (rIxT K) (tVar 14) (tC (.int 1)))) (tOp (rI CMul fun i j => .int (i * j)) (tOp (rIxT K) (tVar 14) (tC (.int 0))) (tOp (rIxT K) (tVar 12) (tC (.int 1)))))))
          [some (.ref a), some v1, some v2, some v3, some v4, some v5, some (.int (r : Int)), y7, y8, y9, y10, some (.int (i : Int)), some v12, some v13, some v14, none, none] W9 false := by
        cases h : (nd.ms.filter fun m => decide (m.b ≤ (i : Int))).getLast? with
        | none =>
          rw [h] at k12'
          exact eb_and (b := false) (c := false) (eb_test (ev_notN (ev_var rfl k12'))) fun z => nomatch z
        | some m =>
          rw [h] at k12'
          have k12f : Dq W9.G v12 (frac m.k) := k12'
          have hle := (frac_le m.k x).mpr (item_low hN hx' h)
          refine eb_is (eb_and (b := true) (eb_test (ev_notN (ev_var rfl k12'))) fun _ => eb_test (ev_opB (f := fun i j => decide (j < i)) (ev_mulR (fb_small x) (ev_ixT (ds := [.int (ft m.k), .int (fb m.k)]) rfl (ev_var rfl k12f) ev_int) (ev_ixT (ds := [.int (ft x), .int (fb x)]) rfl (ev_var rfl k14) ev_int)) (ev_mulR (fb_small m.k) (ev_ixT (ds := [.int (ft x), .int (fb x)]) rfl (ev_var rfl k14) ev_int) (ev_ixT (ds := [.int (ft m.k), .int (fb m.k)]) rfl (ev_var rfl k12f) ev_int)))) ?_
          rw [Bool.true_and]
          exact decide_eq_false (by omega)
      refine q_if e9.s lowB (fun z => nomatch z) fun _ W10 e10 => ?_
      have k13'' := k13'.mono e10.g
      have k14' := k14.mono e10.g
      have highB : EvB (tAnd (tTest (tOp (fun x y H Q => y = .non ∧ Q (.bl (!decide (x = .non))) H) (tVar 13) (tC .non))) (tTest (tOp (rI0 fun i j => .bl (decide (i < j))) (tOp (rI CMul fun i j => .int (i * j)) (tOp (rIxT K) (tVar 13) (tC (.int 0))) (tOp (rIxT K) (tVar 14) (tC (.int 1)))) (tOp (rI CMul fun i j => .int (i * j)) (tOp (rIxT K) (tVar 14) (tC (.int 0))) (tOp (rIxT K) (tVar 13) (tC (.int 1)))))))
          [some (.ref a), some v1, some v2, some v3, some v4, some v5, some (.int (r : Int)), y7, y8, y9, y10, some (.int (i : Int)), some v12, some v13, some v14, none, none] W10 false := by
        cases h : (nd.ms.filter fun m => decide ((i : Int) < m.c)).head? with
        | none =>
          rw [h] at k13''
          exact eb_and (b := false) (c := false) (eb_test (ev_notN (ev_var rfl k13''))) fun z => nomatch z
        | some m =>
          rw [h] at k13''
          have k13f : Dq W10.G v13 (frac m.k) := k13''
          have hle := (frac_le x m.k).mpr (item_high hN hx' h)
          refine eb_is (eb_and (b := true) (eb_test (ev_notN (ev_var rfl k13''))) fun _ => eb_test (ev_opB (f := fun i j => decide (i < j)) (ev_mulR (fb_small x) (ev_ixT (ds := [.int (ft m.k), .int (fb m.k)]) rfl (ev_var rfl k13f) ev_int) (ev_ixT (ds := [.int (ft x), .int (fb x)]) rfl (ev_var rfl k14') ev_int)) (ev_mulR (fb_small m.k) (ev_ixT (ds := [.int (ft x), .int (fb x)]) rfl (ev_var rfl k14') ev_int) (ev_ixT (ds := [.int (ft m.k), .int (fb m.k)]) rfl (ev_var rfl k13f) ev_int)))) ?_
          rw [Bool.true_and]
          exact decide_eq_false (by omega)
      refine st_if e10.s highB (fun z => nomatch z) fun _ W11 e11 => ?_
      exact ⟨W11, rfl, (((g7.trans e8.g).trans e9.g).trans e10.g).trans e11.g, e11.s, _, _, _, _, rfl, (((e7.trans e8).trans e9).trans e10).trans e11⟩
    · rintro σ' W7 g7 s7 ⟨y11, y12, y13, y14, rfl, e7⟩
      exact st_ret s7 ev_bl fun v W8 e8 hv => q v _ W8 (e13.le (e7.trans e8)) hv rfl
end
end K22
namespace K22
open PySem PySem.Spec PyProof.Rows L2
section
variable {P : Program} {w : World} {K : PySem.W.Frag} {mg : Str → Option Value} {base : Heap}
def rh_one : List PyData → (PyData → Prop) → Prop := fun ds P => ds = [] ∧ P = fun d => d = .bool true
/-! ### _law_one -/
abbrev sc_N_law_one : List Str := ["_law_hat_here", "_law_room", "_law_steps_here", "_law_tree_here", "_law_many", "_law_marks", "_law_ranks", "_law_told", "_law_keys", "_law_step"]
theorem sc_law_one : FnScope ["_law_hat_here", "_law_room", "_law_steps_here", "_law_tree_here", "_law_many", "_law_marks", "_law_ranks", "_law_told", "_law_keys", "_law_step"] ["_law_hat_here"] (defScope s_law_one) := ⟨rfl, rfl, rfl, by decide +kernel, rfl, by decide +kernel, by decide +kernel⟩
def sp_law_one  : Sp := hatSp rh_one
theorem ok_law_one (B : Bl mg) (S : Stand K mg d_law_one) (c_law_any : Cal P w K mg base "_law_any" 2 ["_law_hat_here", "_law_things"] sp_law_any) (c_law_tree : Cal P w K mg base "_law_tree" 4 ["_law_hat_here", "_law_streams", "_law_most"] sp_law_tree) (c_law_handed : Cal P w K mg base "_law_handed" 3 ["_law_steps_here"] (pureSp rl_law_handed)) (c_law_led : Cal P w K mg base "_law_led" 3 ["_law_room", "_law_steps_here"] (pureSp rl_law_led)) (c_ranks_tree : Cal P w K mg base "ranks_tree" 8 ["room", "tree"] (pureSp rl_ranks_tree)) (c_law_same : Cal P w K mg base "_law_same" 8 ["_law_actual", "_law_due"] (pureSp rl_law_same)) (c_law_as_told : Cal P w K mg base "_law_as_told" 3 ["_law_room", "_law_many", "_law_marks"] (pureSp rl_law_as_told)) (c_openness : Cal P w K mg base "openness" 7 ["ranks"] (pureSp rl_openness)) (c_law_bound : Cal P w K mg base "_law_bound" 1 ["_law_room", "_law_steps_here"] (pureSp rl_law_bound)) (c_law_held : Cal P w K mg base "_law_held" 10 ["_law_hat_here", "_law_ranks", "_law_tree_here", "_law_keys"] sp_law_held) : Cal P w K mg base "_law_one" 11 ["_law_hat_here"] sp_law_one := by
  refine cal_mk S sc_law_one (hat_len (fun ds P h => by obtain ⟨rfl, _⟩ := h <;> rfl)) (fun _ _ _ _ _ _ us hl => match us, hl with | [_], _ => rfl) (fun f cdv A outer sh H vs Q E hr h => ?_)
  obtain ⟨W, a, us, ds, P0, rfl, ht, rfl, hv, hR, q⟩ := h
  obtain ⟨rfl, rfl⟩ := hR
  obtain rfl : us = [] := List.length_eq_zero_iff.mp hv.length
  refine ⟨_, (pss_cons (ps_set (i := 1) sc_law_one.nd rfl (.inl rfl) (pe_cal c_law_any (hr.mono (by decide)) (by rfl) (pa_cons (pv 0) (pa_cons (pe_lst (pa_cons pe_int (pa_cons pe_int (pa_cons pe_int (pa_cons pe_int (pa_cons pe_int (pa_cons pe_int (pa_cons pe_int (pa_cons pe_int (pa_cons pe_int pa_nil)))))))))) pa_nil))))
      (pss_cons (ps_set (i := 2) sc_law_one.nd rfl (.inl rfl) (pe_cal c_law_tree (hr.mono (by decide)) (by rfl) (pa_cons (pv 0) (pa_cons (pe_cal c_law_any (hr.mono (by decide)) (by rfl) (pa_cons (pv 0) (pa_cons (pe_lst (pa_cons pe_int (pa_cons pe_int (pa_cons pe_int (pa_cons pe_int pa_nil))))) pa_nil))) (pa_cons (pe_cal c_law_any (hr.mono (by decide)) (by rfl) (pa_cons (pv 0) (pa_cons (pe_lst (pa_cons pe_int (pa_cons pe_int (pa_cons pe_int pa_nil)))) pa_nil))) pa_nil)))))
      (pss_cons (ps_set (i := 3) sc_law_one.nd rfl (.inl rfl) (pe_cal c_law_handed (hr.mono (by decide)) (by rfl) (pa_cons (pv 2) pa_nil)))
      (pss_cons (ps_asg (pe_cal c_law_led (hr.mono (by decide)) (by rfl) (pa_cons (pv 1) (pa_cons (pv 2) pa_nil))) (kpg_tup (K := K) (n := 2) rfl rfl (pgs_cons (pg_name (i := 4) sc_law_one.nd rfl (.inl rfl)) (pgs_cons (pg_name (i := 5) sc_law_one.nd rfl (.inl rfl)) pgs_nil))))
      (pss_cons (ps_set (i := 6) sc_law_one.nd rfl (.inl rfl) (pe_cal c_ranks_tree (hr.mono (by decide)) (by rfl) (pa_cons (pv 1) (pa_cons (pv 3) pa_nil))))
      (pss_cons (ps_if (pt_not (pt_val (pe_cal c_law_same (hr.mono (by decide)) (by rfl) (pa_cons (pv 6) (pa_cons (pe_cal c_law_as_told (hr.mono (by decide)) (by rfl) (pa_cons (pv 1) (pa_cons (pv 4) (pa_cons (pv 5) pa_nil)))) pa_nil)))))
      (pss_one (ps_ret pe_bl))
      pss_nil)
      (pss_cons (ps_set (i := 7) sc_law_one.nd rfl (.inl rfl) (pe_cal c_openness (hr.mono (by decide)) (by rfl) (pa_cons (pv 6) pa_nil)))
      (pss_cons (ps_if (PW.pt (pw_or (pt_not (pt_val (pe_callB (kIsi (K := K) rfl) (by rfl) B.z_isinstance (by decide +kernel) (pa_cons (pv 7) (pa_cons (pe_bltn (v := .ty "int") (by rfl) B.z_int (by decide +kernel) rfl) pa_nil))))) (pw_or1 (pt_cmpR op_gt (pv 7) (pe_cal c_law_bound (hr.mono (by decide)) (by rfl) (pa_cons (pv 1) (pa_cons (pv 2) pa_nil))) (nomark _)))))
      (pss_one (ps_ret pe_bl))
      pss_nil)
      (pss_cons (ps_set (i := 8) sc_law_one.nd rfl (.inl rfl) (pe_lst pa_nil))
      (pss_cons (ps_for PassesOwn.never rfl (kpi_list (K := K) rfl (pv 2)) (pg_name (i := 9) sc_law_one.nd rfl (.inl rfl))
      (pss_one (ps_if (pt_cmpR op_notN (pv 9) pe_non (nomark _))
      (pss_one (ps_expr (kBM (K := K) rfl (pe_bm PySem.F.plainAttrs_list PySem.F.slot_list_extend PySem.F.type_list_extend mt_extend (pv 8) (pa_cons (pv 9) pa_nil)))))
      pss_nil)))
      (pss_one (ps_ret (pe_cal c_law_held (hr.mono (by decide)) (by rfl) (pa_cons (pv 0) (pa_cons (pv 6) (pa_cons (pv 3) (pa_cons (pv 8) pa_nil))))))))))))))))), ?_⟩
  let rs : List PyData := [.int 1, .int 1, .int 2, .int 2, .int 3, .int 4, .int 6, .int 9, .int 64]
  refine q_asgH (evh_call (a := a) rfl ht (ea_cons (ev_lst (ds := rs) (ea_cons ev_int (ea_cons ev_int (ea_cons ev_int (ea_cons ev_int (ea_cons ev_int (ea_cons ev_int (ea_cons ev_int (ea_cons ev_int (ea_cons ev_int ea_nil))))))))) (by show 9 ≤ 100000; decide)) ea_nil) ⟨rs, rfl, by show 0 < 9; decide, by show 9 < 1000; decide, rfl⟩) fun v1 d W1 e1 k1 hp => ?_
  have hroom : ∃ room : Int, d = .int room ∧ 1 ≤ room ∧ room ≤ 64 := by
    simp only [rs, List.mem_cons, List.not_mem_nil, or_false] at hp
    rcases hp with h | h | h | h | h | h | h | h | h <;> exact ⟨_, h, by decide, by decide⟩
  obtain ⟨room, rfl, hr1, hr2⟩ := hroom
  cases k1
  let as : List PyData := [.int 1, .int 3, .int 5, .int 9]
  let bs : List PyData := [.int 2, .int 5, .int 9]
  refine q_asgH (evh_call2 (P := fun d => ∃ t : List Stp, d = .list (t.map lstepD) ∧ TreeOk t) (a := a) rfl (evh_call (a := a) rfl e1.t (ea_cons (ev_lst (ds := as) (ea_cons ev_int (ea_cons ev_int (ea_cons ev_int (ea_cons ev_int ea_nil)))) (by show 4 ≤ 100000; decide)) ea_nil) ⟨as, rfl, by show 0 < 4; decide, by show 4 < 1000; decide, rfl⟩)
    (fun W' e' => evh_call (a := a) rfl e'.t (ea_cons (ev_lst (ds := bs) (ea_cons ev_int (ea_cons ev_int (ea_cons ev_int ea_nil))) (by show 3 ≤ 100000; decide)) ea_nil) ⟨bs, rfl, by show 0 < 3; decide, by show 3 < 1000; decide, rfl⟩) (fun d1 d2 hd1 hd2 => ?_)) fun v2 d W2 e2 k2 ⟨t, hd, hT⟩ => ?_
  · simp only [as, bs, List.mem_cons, List.not_mem_nil, or_false] at hd1 hd2
    have h1 : ∃ i : Int, d1 = .int i ∧ 0 < i ∧ i ≤ 9 := by rcases hd1 with h | h | h | h <;> exact ⟨_, h, by decide, by decide⟩
    have h2 : ∃ i : Int, d2 = .int i ∧ 0 < i ∧ i ≤ 9 := by rcases hd2 with h | h | h <;> exact ⟨_, h, by decide, by decide⟩
    obtain ⟨i, rfl, p1, p2⟩ := h1
    obtain ⟨j, rfl, p3, p4⟩ := h2
    exact ⟨i, j, rfl, p1, p2, p3, p4, rfl⟩
  subst hd
  have E2 : LeH a W W2 := e1.trans e2
  obtain ⟨nd, hnd, hN, hks⟩ := stEnd hr1 hT.wf
  have hk := rk_of hr1 hr2 hN
  have hlen := hN.len
  refine q_asg e2.s (ev_call (ea_cons (ev_var rfl k2) ea_nil) ⟨t, rfl, hT, rfl⟩) fun v3 W3 e3 k3 => ?_
  have k23 := k2.mono e3.g
  refine q_un2 e3.s (d1 := .int nd.many) (d2 := .list (nd.ms.map lmD)) (ev_call (ea_cons (ev_var rfl (.int _)) (ea_cons (ev_var rfl k23) ea_nil)) ⟨room, t, nd, rfl, hr1, hr2, hT, hnd, rfl⟩) fun v4 v5 W4 e4 k4 k5 => ?_
  refine q_asg e4.s (ev_call (ea_cons (ev_var rfl (.int _)) (ea_cons (ev_var rfl (k3.mono e4.g)) ea_nil)) ⟨room, t, nd, rfl, hr1, hr2, hT, hnd, rfl⟩) fun v6 W5 e5 k6 => ?_
  have k6' : Dq W5.G v6 (rkD room nd.many nd.ms) := k6
  refine q_if e5.s (b := false) (eb_not (b := true) (eb_B (ev_call (ea_cons (ev_var rfl k6') (ea_cons (ev_call (ea_cons (ev_var rfl (.int _)) (ea_cons (ev_var rfl (k4.mono e5.g)) (ea_cons (ev_var rfl (k5.mono e5.g)) ea_nil))) ⟨room, nd.many, nd.ms, rfl, by omega, rfl⟩) ea_nil)) ⟨rkD room nd.many nd.ms, rfl, SameOk.rk _ _ _ (by omega), rfl⟩))) (fun z => nomatch z) fun _ W6 e6 => ?_
  obtain ⟨m, hm, hle⟩ := has_max (gapsFrom 0 nd.many nd.ms) (by rw [gaps_len]; omega)
  have hbd : m ≤ nd.bd := hN.gap.all m hm
  have k66 := k6'.mono e6.g
  refine q_asg e6.s (d := .int m) (ev_call (ea_cons (ev_var rfl k66) ea_nil) ⟨room, nd.many, nd.ms, m, rfl, hk, hm, hle, rfl⟩) fun v7 W7 e7 k7 => ?_
  cases k7
  have e37 := ((e4.trans e5).trans e6).trans e7
  refine q_if e7.s (b := false) (eb_or (b := false) (c := false) (eb_not (b := true) (eb_B (ev_isi (ev_var rfl (.int _)) kit_int_int))) fun _ => eb_is (eb_test (ev_opB (f := fun i j => decide (i > j)) (ev_var rfl (.int _)) (ev_call (ea_cons (ev_var rfl (.int _)) (ea_cons (ev_var rfl (k23.mono e37.g)) ea_nil)) ⟨room, t, nd, rfl, hr1, hr2, hT, hnd, rfl⟩))) (decide_eq_false (by omega))) (fun z => nomatch z) fun _ W8 e8 => ?_
  have e38 := e37.trans e8
  have k28 := k23.mono e38.g
  refine q_newL fun l hl => ?_
  have a8 : Acc W8 (W8.set l (.lst [])) l [] := Acc.start (.refl e8.s) hl
  refine q_forL a8.le.s (ev_var rfl (k28.mono a8.le.g)) fun W9 e9 => ⟨fun i σ' W' => ∃ y : Option V, σ' = [some (.ref a), some (.int room), some v2, some v3, some v4, some v5, some v6, some (.int m), some (.ref l), y] ∧ Acc W8 W' l ((itemsOf (t.take i)).map .int), ⟨none, rfl, a8.mono e9⟩, ?_, ?_⟩
  · rintro i σ' W10 x d hd g s' hx ⟨y, rfl, a10⟩
    obtain ⟨st, hst, rfl⟩ := map_at hd
    have hi := (List.getElem?_eq_some_iff.mp hst).1
    have hit := items_succ hst
    have hil := items_len (t := t.take i) fun ks hk => hT.few ks (List.mem_of_mem_take hk)
    have htl := hT.len
    rw [List.length_take] at hil
    refine st_if s' (eb_test (ev_notN (ev_var rfl hx))) (fun hb W11 e11 => ?_) (fun hb W11 e11 => ?_)
    · cases st with
      | none => cases hb
      | some ks =>
        have hks := hT.few ks (List.mem_of_getElem? hst)
        refine st_extA (es := ks.map PyData.int) (a10.mono e11) rfl (by rw [List.length_map, List.length_map]; omega) (ev_var rfl (hx.mono e11.g)) fun W12 o e12 a12 => ⟨W12.set l o, rfl, (g.trans e11.g).trans e12.g, a12.le.s, some x, rfl, ?_⟩
        rw [hit, List.map_append]
        exact a12
    · cases st with
      | some ks => cases hb
      | none =>
        refine ⟨W11, rfl, g.trans e11.g, e11.s, some x, rfl, ?_⟩
        rw [hit]
        show Acc W8 W11 l ((itemsOf (t.take i) ++ []).map .int)
        rw [List.append_nil]
        exact a10.mono e11
  · rintro σ' W10 g s' ⟨y, rfl, a10⟩
    rw [List.length_map, List.take_length] at a10
    obtain ⟨o, e11, hd, hg, _⟩ := a10.frz
    have E11 : LeH a W (W10.frz l o) := (E2.le (e3.trans e38)).le e11
    exact st_retH (W := W10.frz l o) (evh_call (a := a) rfl E11.t (ea_cons (ev_var rfl ((k66.mono (e7.trans e8).g).mono e11.g)) (ea_cons (ev_var rfl ((k3.mono e38.g).mono e11.g)) (ea_cons (ev_var rfl hd) ea_nil))) ⟨room, nd, t, rfl, hr1, hr2, hT, hN, hks, rfl⟩) fun v d W12 e12 hv hp => q v d W12 (E11.trans e12) hv hp
/-! ### law -/
abbrev sc_N_law : List Str := ["_law_script", "_law_k", "_law_cell"]
theorem sc_law : FnScope ["_law_script", "_law_k", "_law_cell"] ["_law_script"] (defScope s_law) := ⟨rfl, rfl, rfl, by decide +kernel, rfl, by decide +kernel, by decide +kernel⟩
def sp_law (K : PySem.W.Frag) : Sp := fun vs H Q _ => ∃ (a : Addr) (ns : List Int), vs = [.ref a] ∧ SqL K H a (ns.map V.int) ∧ ns.length ≤ 63 ∧ ∀ H', Q (.bl true) H'
theorem ok_law (B : Bl mg) {f0 : Addr} {fd0 : FuncData} (F : FunD K d_law.name d_law.qual d_law.params d_law.body d_law.scope [] [] f0 fd0) (c_law_one : Cal P w K mg base "_law_one" 11 ["_law_hat_here"] sp_law_one) (c_law_hat : Cal P w K mg base "_law_hat" 1 ["_law_cell", "_law_k"] sp_law_hat) : FnOk P w K mg base CX0 12 f0 fd0 ["_law_script"] (sp_law K) := by
  refine fn_mk F sc_law (fun vs H Q E h => by obtain ⟨_, _, rfl, _⟩ := h <;> rfl) (fun f cdv A outer sh H vs Q E hr h => ?_)
  obtain ⟨a, ns, rfl, hS, hl, q⟩ := h
  refine ⟨_, (pss_cons (ps_for PassesOwn.never rfl (kpi_enum (K := K) rfl (by rfl) B.z_enumerate (pa_cons (pe_op op_cat (pe_callTy (kListOf (K := K) rfl) (by rfl) B.z_list (by decide +kernel) (pa_cons (pv 0) pa_nil)) (pe_lst (pa_cons pe_int (pa_cons pe_int (pa_cons pe_int pa_nil))))) pa_nil)) (kpg_tup (K := K) (n := 2) rfl rfl (pgs_cons (pg_name (i := 1) sc_law.nd rfl (.inl rfl)) (pgs_cons (pg_name (i := 2) sc_law.nd rfl (.inl rfl)) pgs_nil)))
      (pss_one (ps_if (pt_not (pt_val (pe_cal c_law_one (hr.mono (by decide)) (by rfl) (pa_cons (pe_cal c_law_hat (hr.mono (by decide)) (by rfl) (pa_cons (pv 2) (pa_cons (pv 1) pa_nil))) pa_nil))))
      (pss_one (ps_ret pe_bl))
      pss_nil)))
      (pss_one (ps_ret pe_bl))), ?_⟩
  let W : Wd := ⟨fun _ => none, H⟩
  have s : Ex W.G W.H := fun a o h => nomatch h
  have hlist : EvD (tCB (rListK K) (tCons (tVar 0) tNil)) [some (.ref a), none, none] W (.list (ns.map .int)) := fun W1 e Q q =>
    ⟨.ref a, rfl, a, ns.map V.int, rfl, .inl (sql_mono e.h hS), fun p hp => q _ (W1.new p _) (le_new e.rf hp) (.lst upd_same (.of_ints _))⟩
  refine q_forE (W := W) s (ev_catL (es := [.int 8, .int 17, .int 49]) hlist (ev_lst (ea_cons ev_int (ea_cons ev_int (ea_cons ev_int ea_nil))) (by show 3 ≤ 100000; decide)) (by rw [List.length_map]; show ns.length + 3 ≤ 100000; omega)) fun W1 e1 => ⟨fun i σ' W' => ∃ y z : Option V, σ' = [some (.ref a), y, z], ⟨none, none, rfl⟩, ?_, ?_⟩
  · rintro i σ' W2 x d hd g s' hx ⟨y, z, rfl⟩ W3 e3
    have hint : ∃ c : Int, d = .int c := by
      have hm := List.mem_of_getElem? hd
      rcases List.mem_append.mp hm with h | h
      · obtain ⟨c, _, rfl⟩ := List.mem_map.mp h
        exact ⟨c, rfl⟩
      · simp only [List.mem_cons, List.not_mem_nil, or_false] at h
        rcases h with rfl | rfl | rfl <;> exact ⟨_, rfl⟩
    obtain ⟨c, rfl⟩ := hint
    cases hx
    refine ⟨.int c, rfl, .int (i : Int), rfl, ?_⟩
    refine ⟨W3, rfl, e3.s, c, (i : Int), rfl, fun l W4 e4 hl ht => ?_⟩
    refine ⟨W4, l, [], [], _, rfl, ht, rfl, .nil, ⟨rfl, rfl⟩, fun v d W5 e5 hv hp => ?_⟩
    subst hp
    cases hv
    refine ⟨true, rfl, ?_⟩
    exact ⟨W5, rfl, (((g.trans e3.g).trans e4.g).trans e5.g), e5.s, _, _, rfl⟩
  · rintro σ' W2 g s' ⟨y, z, rfl⟩
    exact q _
end
end K22
namespace K22
open PySem PySem.Spec PyProof.Rows L2
theorem walked {P : Program} {w : World} {K : PySem.W.Frag} {h : Heap} {mg : Str → Option Value} {f : Addr} (X : K.In h) (G : h.Ns mainGlobals mg) (hfa : mg ("law" : Str) = some (.ref f)) (c : He.SaysD fa fn K) (hg : gcdB K = true) :
    ∃ fd : FuncData, (∀ (s : Shared) (v : Value), BindsTo s fd ⟨[v], []⟩ [("_law_script", v)]) ∧ ∀ base : Heap, K.In base → base.Ns mainGlobals mg → FnOk P w K mg base CX0 12 f fd ["_law_script"] (sp_law K) := by
  have B : Bl mg := ⟨He.free_ok X G (c.fact 64 (f := .free "isinstance") rfl),
    He.free_ok X G (c.fact 65 (f := .free "int") rfl),
    He.free_ok X G (c.fact 66 (f := .free "bool") rfl),
    He.free_ok X G (c.fact 67 (f := .free "str") rfl),
    He.free_ok X G (c.fact 68 (f := .free "tuple") rfl),
    He.free_ok X G (c.fact 69 (f := .free "len") rfl),
    He.free_ok X G (c.fact 70 (f := .free "all") rfl),
    He.free_ok X G (c.fact 71 (f := .free "range") rfl),
    He.free_ok X G (c.fact 72 (f := .free "zip") rfl),
    He.free_ok X G (c.fact 73 (f := .free "enumerate") rfl),
    He.free_ok X G (c.fact 74 (f := .free "max") rfl),
    He.free_ok X G (c.fact 75 (f := .free "list") rfl),
    He.free_ok X G (c.fact 76 (f := .free "abs") rfl),
    He.free_ok X G (c.fact 77 (f := .free "sorted") rfl),
    He.free_ok X G (c.fact 78 (f := .free "dict") rfl),
    He.int_ok X G (c.fact 57 (f := .int "MOST_STEPS" 5000) rfl),
    He.int_ok X G (c.fact 58 (f := .int "MOST_ITEMS" 50000) rfl),
    He.str_ok X G (c.fact 59 (f := .str "POUR" "pour") rfl),
    He.int_ok X G (c.fact 60 (f := .int "MOST_ROOM" 64) rfl),
    He.str_ok X G (c.fact 61 (f := .str "NUMBERS" "numbers") rfl),
    He.int_ok X G (c.fact 62 (f := .int "BELOW" 0) rfl),
    He.int_ok X G (c.fact 63 (f := .int "UP_TO" 1) rfl),
    PySem.W.mg_of X G (He.eqO_ok hg)⟩
  have S_is_integer : Stand K mg d_is_integer := by
    obtain ⟨fd, F⟩ := c.def_ 0 (d := d_is_integer) rfl
    exact ⟨⟨_, fd, F, He.glo_ok X G (c.fact 0 (f := .glo "is_integer") rfl)⟩⟩
  have S_is_between : Stand K mg d_is_between := by
    obtain ⟨fd, F⟩ := c.def_ 1 (d := d_is_between) rfl
    exact ⟨⟨_, fd, F, He.glo_ok X G (c.fact 1 (f := .glo "is_between") rfl)⟩⟩
  have S_is_count : Stand K mg d_is_count := by
    obtain ⟨fd, F⟩ := c.def_ 2 (d := d_is_count) rfl
    exact ⟨⟨_, fd, F, He.glo_ok X G (c.fact 2 (f := .glo "is_count") rfl)⟩⟩
  have S_is_tuple_of : Stand K mg d_is_tuple_of := by
    obtain ⟨fd, F⟩ := c.def_ 3 (d := d_is_tuple_of) rfl
    exact ⟨⟨_, fd, F, He.glo_ok X G (c.fact 3 (f := .glo "is_tuple_of") rfl)⟩⟩
  have S_check_number : Stand K mg d_check_number := by
    obtain ⟨fd, F⟩ := c.def_ 4 (d := d_check_number) rfl
    exact ⟨⟨_, fd, F, He.glo_ok X G (c.fact 4 (f := .glo "check_number") rfl)⟩⟩
  have S_is_fraction : Stand K mg d_is_fraction := by
    obtain ⟨fd, F⟩ := c.def_ 5 (d := d_is_fraction) rfl
    exact ⟨⟨_, fd, F, He.glo_ok X G (c.fact 5 (f := .glo "is_fraction") rfl)⟩⟩
  have S_is_less : Stand K mg d_is_less := by
    obtain ⟨fd, F⟩ := c.def_ 6 (d := d_is_less) rfl
    exact ⟨⟨_, fd, F, He.glo_ok X G (c.fact 6 (f := .glo "is_less") rfl)⟩⟩
  have S_laid_together : Stand K mg d_laid_together := by
    obtain ⟨fd, F⟩ := c.def_ 7 (d := d_laid_together) rfl
    exact ⟨⟨_, fd, F, He.glo_ok X G (c.fact 7 (f := .glo "laid_together") rfl)⟩⟩
  have S_ascending : Stand K mg d_ascending := by
    obtain ⟨fd, F⟩ := c.def_ 8 (d := d_ascending) rfl
    exact ⟨⟨_, fd, F, He.glo_ok X G (c.fact 8 (f := .glo "ascending") rfl)⟩⟩
  have S_is_pour : Stand K mg d_is_pour := by
    obtain ⟨fd, F⟩ := c.def_ 9 (d := d_is_pour) rfl
    exact ⟨⟨_, fd, F, He.glo_ok X G (c.fact 9 (f := .glo "is_pour") rfl)⟩⟩
  have S_is_leaf : Stand K mg d_is_leaf := by
    obtain ⟨fd, F⟩ := c.def_ 10 (d := d_is_leaf) rfl
    exact ⟨⟨_, fd, F, He.glo_ok X G (c.fact 10 (f := .glo "is_leaf") rfl)⟩⟩
  have S_are_steps : Stand K mg d_are_steps := by
    obtain ⟨fd, F⟩ := c.def_ 11 (d := d_are_steps) rfl
    exact ⟨⟨_, fd, F, He.glo_ok X G (c.fact 11 (f := .glo "are_steps") rfl)⟩⟩
  have S_check_room : Stand K mg d_check_room := by
    obtain ⟨fd, F⟩ := c.def_ 12 (d := d_check_room) rfl
    exact ⟨⟨_, fd, F, He.glo_ok X G (c.fact 12 (f := .glo "check_room") rfl)⟩⟩
  have S_is_mark : Stand K mg d_is_mark := by
    obtain ⟨fd, F⟩ := c.def_ 13 (d := d_is_mark) rfl
    exact ⟨⟨_, fd, F, He.glo_ok X G (c.fact 13 (f := .glo "is_mark") rfl)⟩⟩
  have S_are_marks : Stand K mg d_are_marks := by
    obtain ⟨fd, F⟩ := c.def_ 14 (d := d_are_marks) rfl
    exact ⟨⟨_, fd, F, He.glo_ok X G (c.fact 14 (f := .glo "are_marks") rfl)⟩⟩
  have S_is_ranks : Stand K mg d_is_ranks := by
    obtain ⟨fd, F⟩ := c.def_ 15 (d := d_is_ranks) rfl
    exact ⟨⟨_, fd, F, He.glo_ok X G (c.fact 15 (f := .glo "is_ranks") rfl)⟩⟩
  have S_check_ranks : Stand K mg d_check_ranks := by
    obtain ⟨fd, F⟩ := c.def_ 16 (d := d_check_ranks) rfl
    exact ⟨⟨_, fd, F, He.glo_ok X G (c.fact 16 (f := .glo "check_ranks") rfl)⟩⟩
  have S_is_place : Stand K mg d_is_place := by
    obtain ⟨fd, F⟩ := c.def_ 17 (d := d_is_place) rfl
    exact ⟨⟨_, fd, F, He.glo_ok X G (c.fact 17 (f := .glo "is_place") rfl)⟩⟩
  have S_check_place : Stand K mg d_check_place := by
    obtain ⟨fd, F⟩ := c.def_ 18 (d := d_check_place) rfl
    exact ⟨⟨_, fd, F, He.glo_ok X G (c.fact 18 (f := .glo "check_place") rfl)⟩⟩
  have S_marks_around : Stand K mg d_marks_around := by
    obtain ⟨fd, F⟩ := c.def_ 19 (d := d_marks_around) rfl
    exact ⟨⟨_, fd, F, He.glo_ok X G (c.fact 19 (f := .glo "marks_around") rfl)⟩⟩
  have S_ends_among : Stand K mg d_ends_among := by
    obtain ⟨fd, F⟩ := c.def_ 20 (d := d_ends_among) rfl
    exact ⟨⟨_, fd, F, He.glo_ok X G (c.fact 20 (f := .glo "ends_among") rfl)⟩⟩
  have S_ends_at : Stand K mg d_ends_at := by
    obtain ⟨fd, F⟩ := c.def_ 21 (d := d_ends_at) rfl
    exact ⟨⟨_, fd, F, He.glo_ok X G (c.fact 21 (f := .glo "ends_at") rfl)⟩⟩
  have S_gaps : Stand K mg d_gaps := by
    obtain ⟨fd, F⟩ := c.def_ 22 (d := d_gaps) rfl
    exact ⟨⟨_, fd, F, He.glo_ok X G (c.fact 22 (f := .glo "gaps") rfl)⟩⟩
  have S_openness : Stand K mg d_openness := by
    obtain ⟨fd, F⟩ := c.def_ 23 (d := d_openness) rfl
    exact ⟨⟨_, fd, F, He.glo_ok X G (c.fact 23 (f := .glo "openness") rfl)⟩⟩
  have S_marks_within : Stand K mg d_marks_within := by
    obtain ⟨fd, F⟩ := c.def_ 24 (d := d_marks_within) rfl
    exact ⟨⟨_, fd, F, He.glo_ok X G (c.fact 24 (f := .glo "marks_within") rfl)⟩⟩
  have S_raw_thinned : Stand K mg d_raw_thinned := by
    obtain ⟨fd, F⟩ := c.def_ 25 (d := d_raw_thinned) rfl
    exact ⟨⟨_, fd, F, He.glo_ok X G (c.fact 25 (f := .glo "raw_thinned") rfl)⟩⟩
  have S_exact_marks : Stand K mg d_exact_marks := by
    obtain ⟨fd, F⟩ := c.def_ 26 (d := d_exact_marks) rfl
    exact ⟨⟨_, fd, F, He.glo_ok X G (c.fact 26 (f := .glo "exact_marks") rfl)⟩⟩
  have S_is_number_stream : Stand K mg d_is_number_stream := by
    obtain ⟨fd, F⟩ := c.def_ 27 (d := d_is_number_stream) rfl
    exact ⟨⟨_, fd, F, He.glo_ok X G (c.fact 27 (f := .glo "is_number_stream") rfl)⟩⟩
  have S_raw_ranks_of : Stand K mg d_raw_ranks_of := by
    obtain ⟨fd, F⟩ := c.def_ 28 (d := d_raw_ranks_of) rfl
    exact ⟨⟨_, fd, F, He.glo_ok X G (c.fact 28 (f := .glo "raw_ranks_of") rfl)⟩⟩
  have S_added_marks : Stand K mg d_added_marks := by
    obtain ⟨fd, F⟩ := c.def_ 29 (d := d_added_marks) rfl
    exact ⟨⟨_, fd, F, He.glo_ok X G (c.fact 29 (f := .glo "added_marks") rfl)⟩⟩
  have S_raw_poured_ranks : Stand K mg d_raw_poured_ranks := by
    obtain ⟨fd, F⟩ := c.def_ 30 (d := d_raw_poured_ranks) rfl
    exact ⟨⟨_, fd, F, He.glo_ok X G (c.fact 30 (f := .glo "raw_poured_ranks") rfl)⟩⟩
  have S_is_number_tree : Stand K mg d_is_number_tree := by
    obtain ⟨fd, F⟩ := c.def_ 31 (d := d_is_number_tree) rfl
    exact ⟨⟨_, fd, F, He.glo_ok X G (c.fact 31 (f := .glo "is_number_tree") rfl)⟩⟩
  have S_check_number_tree : Stand K mg d_check_number_tree := by
    obtain ⟨fd, F⟩ := c.def_ 32 (d := d_check_number_tree) rfl
    exact ⟨⟨_, fd, F, He.glo_ok X G (c.fact 32 (f := .glo "check_number_tree") rfl)⟩⟩
  have S_ranks_tree : Stand K mg d_ranks_tree := by
    obtain ⟨fd, F⟩ := c.def_ 33 (d := d_ranks_tree) rfl
    exact ⟨⟨_, fd, F, He.glo_ok X G (c.fact 33 (f := .glo "ranks_tree") rfl)⟩⟩
  have S_item_ends : Stand K mg d_item_ends := by
    obtain ⟨fd, F⟩ := c.def_ 34 (d := d_item_ends) rfl
    exact ⟨⟨_, fd, F, He.glo_ok X G (c.fact 34 (f := .glo "item_ends") rfl)⟩⟩
  have S_rank_at : Stand K mg d_rank_at := by
    obtain ⟨fd, F⟩ := c.def_ 35 (d := d_rank_at) rfl
    exact ⟨⟨_, fd, F, He.glo_ok X G (c.fact 35 (f := .glo "rank_at") rfl)⟩⟩
  have S_law_hat : Stand K mg d_law_hat := by
    obtain ⟨fd, F⟩ := c.def_ 36 (d := d_law_hat) rfl
    exact ⟨⟨_, fd, F, He.glo_ok X G (c.fact 36 (f := .glo "_law_hat") rfl)⟩⟩
  have S_law_draw : Stand K mg d_law_draw := by
    obtain ⟨fd, F⟩ := c.def_ 37 (d := d_law_draw) rfl
    exact ⟨⟨_, fd, F, He.glo_ok X G (c.fact 37 (f := .glo "_law_draw") rfl)⟩⟩
  have S_law_same : Stand K mg d_law_same := by
    obtain ⟨fd, F⟩ := c.def_ 38 (d := d_law_same) rfl
    exact ⟨⟨_, fd, F, He.glo_ok X G (c.fact 38 (f := .glo "_law_same") rfl)⟩⟩
  have S_law_any : Stand K mg d_law_any := by
    obtain ⟨fd, F⟩ := c.def_ 39 (d := d_law_any) rfl
    exact ⟨⟨_, fd, F, He.glo_ok X G (c.fact 39 (f := .glo "_law_any") rfl)⟩⟩
  have S_law_gcd : Stand K mg d_law_gcd := by
    obtain ⟨fd, F⟩ := c.def_ 40 (d := d_law_gcd) rfl
    exact ⟨⟨_, fd, F, He.glo_ok X G (c.fact 40 (f := .glo "_law_gcd") rfl)⟩⟩
  have S_law_value : Stand K mg d_law_value := by
    obtain ⟨fd, F⟩ := c.def_ 41 (d := d_law_value) rfl
    exact ⟨⟨_, fd, F, He.glo_ok X G (c.fact 41 (f := .glo "_law_value") rfl)⟩⟩
  have S_law_number : Stand K mg d_law_number := by
    obtain ⟨fd, F⟩ := c.def_ 42 (d := d_law_number) rfl
    exact ⟨⟨_, fd, F, He.glo_ok X G (c.fact 42 (f := .glo "_law_number") rfl)⟩⟩
  have S_law_ends : Stand K mg d_law_ends := by
    obtain ⟨fd, F⟩ := c.def_ 43 (d := d_law_ends) rfl
    exact ⟨⟨_, fd, F, He.glo_ok X G (c.fact 43 (f := .glo "_law_ends") rfl)⟩⟩
  have S_law_exact : Stand K mg d_law_exact := by
    obtain ⟨fd, F⟩ := c.def_ 44 (d := d_law_exact) rfl
    exact ⟨⟨_, fd, F, He.glo_ok X G (c.fact 44 (f := .glo "_law_exact") rfl)⟩⟩
  have S_law_steps : Stand K mg d_law_steps := by
    obtain ⟨fd, F⟩ := c.def_ 45 (d := d_law_steps) rfl
    exact ⟨⟨_, fd, F, He.glo_ok X G (c.fact 45 (f := .glo "_law_steps") rfl)⟩⟩
  have S_law_thinned : Stand K mg d_law_thinned := by
    obtain ⟨fd, F⟩ := c.def_ 46 (d := d_law_thinned) rfl
    exact ⟨⟨_, fd, F, He.glo_ok X G (c.fact 46 (f := .glo "_law_thinned") rfl)⟩⟩
  have S_law_added : Stand K mg d_law_added := by
    obtain ⟨fd, F⟩ := c.def_ 47 (d := d_law_added) rfl
    exact ⟨⟨_, fd, F, He.glo_ok X G (c.fact 47 (f := .glo "_law_added") rfl)⟩⟩
  have S_law_as_told : Stand K mg d_law_as_told := by
    obtain ⟨fd, F⟩ := c.def_ 48 (d := d_law_as_told) rfl
    exact ⟨⟨_, fd, F, He.glo_ok X G (c.fact 48 (f := .glo "_law_as_told") rfl)⟩⟩
  have S_law_tree : Stand K mg d_law_tree := by
    obtain ⟨fd, F⟩ := c.def_ 49 (d := d_law_tree) rfl
    exact ⟨⟨_, fd, F, He.glo_ok X G (c.fact 49 (f := .glo "_law_tree") rfl)⟩⟩
  have S_law_handed : Stand K mg d_law_handed := by
    obtain ⟨fd, F⟩ := c.def_ 50 (d := d_law_handed) rfl
    exact ⟨⟨_, fd, F, He.glo_ok X G (c.fact 50 (f := .glo "_law_handed") rfl)⟩⟩
  have S_law_led : Stand K mg d_law_led := by
    obtain ⟨fd, F⟩ := c.def_ 51 (d := d_law_led) rfl
    exact ⟨⟨_, fd, F, He.glo_ok X G (c.fact 51 (f := .glo "_law_led") rfl)⟩⟩
  have S_law_bound : Stand K mg d_law_bound := by
    obtain ⟨fd, F⟩ := c.def_ 52 (d := d_law_bound) rfl
    exact ⟨⟨_, fd, F, He.glo_ok X G (c.fact 52 (f := .glo "_law_bound") rfl)⟩⟩
  have S_law_place_right : Stand K mg d_law_place_right := by
    obtain ⟨fd, F⟩ := c.def_ 53 (d := d_law_place_right) rfl
    exact ⟨⟨_, fd, F, He.glo_ok X G (c.fact 53 (f := .glo "_law_place_right") rfl)⟩⟩
  have S_law_held : Stand K mg d_law_held := by
    obtain ⟨fd, F⟩ := c.def_ 54 (d := d_law_held) rfl
    exact ⟨⟨_, fd, F, He.glo_ok X G (c.fact 54 (f := .glo "_law_held") rfl)⟩⟩
  have S_law_one : Stand K mg d_law_one := by
    obtain ⟨fd, F⟩ := c.def_ 55 (d := d_law_one) rfl
    exact ⟨⟨_, fd, F, He.glo_ok X G (c.fact 55 (f := .glo "_law_one") rfl)⟩⟩
  obtain ⟨fd, F⟩ := c.def_ 56 (d := d_law) rfl
  have e := hfa.symm.trans (He.glo_ok X G (c.fact 56 (f := .glo "law") rfl))
  cases e
  have b := FunD.bindsA (ps := ["_law_script"]) F fun _ _ _ _ _ _ us hl => match us, hl with | [_], _ => rfl
  refine ⟨fd, fun s v => b s [v] rfl, fun base _ _ => ?_⟩
  have c_is_integer := ok_is_integer (P := P) (w := w) (base := base) B S_is_integer
  have c_is_between := ok_is_between (P := P) (w := w) (base := base) B S_is_between c_is_integer
  have c_is_count := ok_is_count (P := P) (w := w) (base := base) B S_is_count c_is_integer
  have c_is_tuple_of := ok_is_tuple_of (P := P) (w := w) (base := base) B S_is_tuple_of
  have c_check_number := ok_check_number (P := P) (w := w) (base := base) B S_check_number c_is_between
  have c_is_fraction := ok_is_fraction (P := P) (w := w) (base := base) B S_is_fraction c_is_integer c_is_tuple_of
  have c_is_less := ok_is_less (P := P) (w := w) (base := base) B S_is_less
  have c_laid_together := ok_laid_together (P := P) (w := w) (base := base) B S_laid_together c_is_less
  have c_ascending := ok_ascending (P := P) (w := w) (base := base) B S_ascending c_laid_together
  have c_is_pour := ok_is_pour (P := P) (w := w) (base := base) B S_is_pour c_is_tuple_of
  have c_is_number_stream := ok_is_number_stream (P := P) (w := w) (base := base) B S_is_number_stream c_is_fraction
  have c_is_leaf := ok_is_leaf (P := P) (w := w) (base := base) c_is_number_stream B S_is_leaf c_is_tuple_of
  have c_are_steps := ok_are_steps (P := P) (w := w) (base := base) B S_are_steps c_is_pour c_is_leaf
  have c_check_room := ok_check_room (P := P) (w := w) (base := base) B S_check_room c_is_between
  have c_is_mark := ok_is_mark (P := P) (w := w) (base := base) B S_is_mark c_is_count c_is_fraction c_is_tuple_of
  have c_are_marks := ok_are_marks (P := P) (w := w) (base := base) B S_are_marks c_is_mark c_is_less
  have c_is_ranks := ok_is_ranks (P := P) (w := w) (base := base) B S_is_ranks c_is_count c_is_between c_is_tuple_of c_are_marks
  have c_check_ranks := ok_check_ranks (P := P) (w := w) (base := base) B S_check_ranks c_is_ranks
  have c_is_place := ok_is_place (P := P) (w := w) (base := base) B S_is_place c_is_between c_is_fraction c_is_tuple_of
  have c_check_place := ok_check_place (P := P) (w := w) (base := base) B S_check_place c_is_place
  have c_marks_around := ok_marks_around (P := P) (w := w) (base := base) B S_marks_around c_is_less
  have c_ends_among := ok_ends_among (P := P) (w := w) (base := base) B S_ends_among c_marks_around
  have c_ends_at := ok_ends_at (P := P) (w := w) (base := base) B S_ends_at c_check_ranks c_check_place c_ends_among
  have c_gaps := ok_gaps (P := P) (w := w) (base := base) B S_gaps
  have c_openness := ok_openness (P := P) (w := w) (base := base) B S_openness c_check_ranks c_gaps
  have c_marks_within := ok_marks_within (P := P) (w := w) (base := base) B S_marks_within
  have c_raw_thinned := ok_raw_thinned (P := P) (w := w) (base := base) B S_raw_thinned c_marks_within
  have c_exact_marks := ok_exact_marks (P := P) (w := w) (base := base) B S_exact_marks c_ascending
  have c_raw_ranks_of := ok_raw_ranks_of (P := P) (w := w) (base := base) B S_raw_ranks_of c_raw_thinned c_exact_marks
  have c_added_marks := ok_added_marks (P := P) (w := w) (base := base) B S_added_marks c_ascending c_ends_among
  have c_raw_poured_ranks := ok_raw_poured_ranks (P := P) (w := w) (base := base) B S_raw_poured_ranks c_raw_thinned c_added_marks
  have c_is_number_tree := ok_is_number_tree (P := P) (w := w) (base := base) c_is_number_stream B S_is_number_tree c_are_steps
  have c_check_number_tree := ok_check_number_tree (P := P) (w := w) (base := base) B S_check_number_tree c_is_number_tree
  have c_ranks_tree := ok_ranks_tree (P := P) (w := w) (base := base) B S_ranks_tree c_check_room c_check_number_tree c_is_pour c_raw_poured_ranks c_raw_ranks_of
  have c_item_ends := ok_item_ends (P := P) (w := w) (base := base) B S_item_ends c_check_ranks c_check_number
  have c_rank_at := ok_rank_at (P := P) (w := w) (base := base) B S_rank_at c_check_number_tree c_check_place c_is_pour c_is_less
  have c_law_same := same_all (P := P) (w := w) (base := base) B S_law_same
  have c_law_gcd := ok_law_gcd (P := P) (w := w) (base := base) B S_law_gcd
  have c_law_value := ok_law_value (P := P) (w := w) (base := base) B S_law_value c_law_gcd
  have c_law_ends := ok_law_ends (P := P) (w := w) (base := base) B S_law_ends
  have c_law_exact := ok_law_exact (P := P) (w := w) (base := base) B S_law_exact
  have c_law_steps := ok_law_steps (P := P) (w := w) (base := base) B S_law_steps
  have c_law_thinned := ok_law_thinned (P := P) (w := w) (base := base) B S_law_thinned c_law_steps
  have c_law_added := ok_law_added (P := P) (w := w) (base := base) B S_law_added c_law_ends
  have c_law_as_told := ok_law_as_told (P := P) (w := w) (base := base) B S_law_as_told c_law_value
  have c_law_handed := ok_law_handed (P := P) (w := w) (base := base) B S_law_handed c_law_value
  have c_law_led := ok_law_led (P := P) (w := w) (base := base) B S_law_led c_law_thinned c_law_added c_law_exact
  have c_law_bound := ok_law_bound (P := P) (w := w) (base := base) B S_law_bound
  have c_law_place_right := ok_law_place_right (P := P) (w := w) (base := base) B S_law_place_right c_ends_at c_law_same c_rank_at
  have c_law_hat := ok_law_hat (P := P) (w := w) (base := base) B S_law_hat
  have c_law_draw := ok_law_draw (P := P) (w := w) (base := base) B S_law_draw
  have c_law_any := ok_law_any (P := P) (w := w) (base := base) B S_law_any c_law_draw
  have c_law_number := ok_law_number (P := P) (w := w) (base := base) B S_law_number c_law_any c_law_draw
  have c_law_tree := ok_law_tree (P := P) (w := w) (base := base) B S_law_tree c_law_any c_law_number c_law_draw
  have c_law_held := ok_law_held (P := P) (w := w) (base := base) B S_law_held c_law_draw c_law_place_right c_law_value c_item_ends
  have c_law_one := ok_law_one (P := P) (w := w) (base := base) B S_law_one c_law_any c_law_tree c_law_handed c_law_led c_ranks_tree c_law_same c_law_as_told c_openness c_law_bound c_law_held
  exact ok_law B F c_law_one c_law_hat
end K22
open PySem PySem.W PySem.Calls PyProof.Rows
theorem PySem.Challenge.cw_knownends_k22_whole_trees_ranked_holds : PySem.Challenge.rw_knownends_k22_whole_trees_ranked.Holds := by
  w_on; o_law
  refine HandSHeadRun.head_imp (r := OpenLaw.row PySem.Challenge.rw_knownends_k22_whole_trees_ranked) (q := view (OpenLaw.row PySem.Challenge.rw_knownends_k22_whole_trees_ranked).prog [0, 77]) (H := K22.hk) (ob := K22.ob) (M := 4000) (loose := K22.loose) (d := HandSHeadRun.topDef (OpenLaw.row PySem.Challenge.rw_knownends_k22_whole_trees_ranked).prog 77) (kwd := []) K22.ob_eq
    K22.run (by kernel_rfl) (by kernel_rfl) (by kernel_rfl) (by rfl) (by first | assumption | decide +kernel) (by decide +kernel) ⟨rfl, rfl, rfl, rfl, rfl, by decide +kernel⟩ ?hw ?hc
  case hw => w_witness2
  case hc =>
    refine L2.walk_ofE (l := PySem.Challenge.rw_knownends_k22_whole_trees_ranked) (n := 63) (k := 12) (x := "_law_script") (CX := L2.CX0) rfl (by decide) (by kernel_rfl) ⟨rfl, by decide, by decide⟩ ?F (fun _ _ _ _ z => z)
    intro w mg fa h Y G hmg0
    obtain ⟨K, KX, c, hg⟩ := Y
    have hmg : mg ("law" : PySem.Str) = some (.ref fa) := by
      have e : (HandSHeadRun.topDef (OpenLaw.row PySem.Challenge.rw_knownends_k22_whole_trees_ranked).prog 77).name = ("law" : PySem.Str) := by kernel_rfl
      rw [← e]
      exact hmg0
    obtain ⟨fd, hb, hF⟩ := K22.walked (P := (PySem.Challenge.rw_knownends_k22_whole_trees_ranked).prog) (w := w) KX G hmg c hg
    exact ⟨K, fd, K22.sp_law K, KX, hb, fun H a ns hl _ hS => ⟨a, ns, rfl, hS, hl, fun _ => rfl⟩, hF⟩
