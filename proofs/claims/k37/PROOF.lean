import PyProof.Rows.All
import Wide.All
import OpenK.AllK
import Wide.FinOn
import HandS.Base
import HandS.Call
import HandS.Defaults
import KE.KStateDown
import Lean
import HandS.Ends
import HandS.More
import HandS.Words
import HandS.WordsExc
import HandS.Head0
import HandS.Head1
import HandS.Head2
import HandS.HeadEnd
import HandS.HeadHook1
import HandS.HeadHook2
import PyProof.EqAt
import PyProof.EqKinds
import PyProof.TupleCall
import PyProof.DictCompW
import KE.KEqDict
import KE.KDictCopyH
import KE.KDictKeyed
import HandS.ForMost
import HandS.DictComp
import HandS.DictTup
import HandS.SortKw
import PyProof.WalkInts
import HandS.Walk
import HandS.TupLen
import KE.SortData
import KE.KDictSum
import HandS.Codes
import HandS.Style
import PyProof.Rows.TupDisplay
import HandS.Zip
import HandS.TupAny
import HandS.IsInst
import HandS.SetKeys
import PyProof.DictUpdate
import PyProof.NeKinds
import HandS.Star
import KE.DatumOrd
import KE.KDictPairs
import HandS.SortRule
import PySem.Challenge.RW_rowsfilled_k37_whole_rest_sizes_and_resu
set_option Elab.async false
set_option linter.all false
section H0
set_option autoImplicit false
set_option Elab.async false
set_option linter.all false
set_option maxRecDepth 100000
namespace L2.K37R
open PySem PySem.Spec PyProof.Rows
def top (i : Nat) : Stmt := PySem.Challenge.pw_rowsfilled_k37_whole_rest_sizes_and_resu.main.body.getD i (.Pass ⟨0, 0, 0, 0⟩)
/-! ### the head: TURNS read off the heap -/
/-- the items of a tuple of the written part -/
def seqOf (K : PySem.W.Frag) (a : Addr) : Option (List Value) := match K.lookup a with
  | some ⟨.type c, _, .seq its _, _⟩ => if c = "tuple" then (if its.size ≤ sizeLine then some its.toList else none) else none
  | _ => none
def sqB (K : PySem.W.Frag) (vs : List V) : Value → Bool
  | .ref a => (match seqOf K a with
    | some us => He.relAll vs us
    | none => false)
  | _ => false
def tuB (K : PySem.W.Frag) : Bool := match seqOf K (He.ga K "TURNS") with
  | some [.none, a, b, c, d, e] => sqB K [.str "swap"] a && (sqB K [.str "slide", .int 1] b && (sqB K [.str "slide", .int 2] c && (sqB K [.str "slide", .int 3] d && sqB K [.str "slide", .int 4] e)))
  | _ => false
/-! ### the defs, the facts, the hook -/
def d_moved_up : He.DefD := ⟨("moved_up", none), "moved_up", "moved_up", defArgs (top 28), defBody (top 28), defScope (top 28), [], []⟩
def d_raised : He.DefD := ⟨("raised", none), "raised", "raised", defArgs (top 44), defBody (top 44), defScope (top 44), [], []⟩
def d_part_at : He.DefD := ⟨("part_at", none), "part_at", "part_at", defArgs (top 23), defBody (top 23), defScope (top 23), [], []⟩
def d_scaled : He.DefD := ⟨("scaled", none), "scaled", "scaled", defArgs (top 27), defBody (top 27), defScope (top 27), [], []⟩
def d_highest : He.DefD := ⟨("highest", none), "highest", "highest", defArgs (top 18), defBody (top 18), defScope (top 18), [], []⟩
def d_added : He.DefD := ⟨("added", none), "added", "added", defArgs (top 17), defBody (top 17), defScope (top 17), [.int 1], []⟩
def d_product : He.DefD := ⟨("product", none), "product", "product", defArgs (top 21), defBody (top 21), defScope (top 21), [], []⟩
def d_poly_of : He.DefD := ⟨("poly_of", none), "poly_of", "poly_of", defArgs (top 15), defBody (top 15), defScope (top 15), [], []⟩
def d_book_of : He.DefD := ⟨("book_of", none), "book_of", "book_of", defArgs (top 14), defBody (top 14), defScope (top 14), [], []⟩
def d_told : He.DefD := ⟨("told", none), "told", "told", defArgs (top 16), defBody (top 16), defScope (top 16), [], []⟩
def d_back_of : He.DefD := ⟨("back_of", none), "back_of", "back_of", defArgs (top 22), defBody (top 22), defScope (top 22), [], []⟩
def d_divide : He.DefD := ⟨("divide", none), "divide", "divide", defArgs (top 29), defBody (top 29), defScope (top 29), [], []⟩
def d_euclid : He.DefD := ⟨("euclid", none), "euclid", "euclid", defArgs (top 30), defBody (top 30), defScope (top 30), [], []⟩
def d_is_between : He.DefD := ⟨("is_between", none), "is_between", "is_between", defArgs (top 9), defBody (top 9), defScope (top 9), [], []⟩
def d_need_prime : He.DefD := ⟨("need_prime", none), "need_prime", "need_prime", defArgs (top 10), defBody (top 10), defScope (top 10), [], []⟩
def d_is_term : He.DefD := ⟨("is_term", none), "is_term", "is_term", defArgs (top 11), defBody (top 11), defScope (top 11), [], []⟩
def d_polys_right : He.DefD := ⟨("polys_right", none), "polys_right", "polys_right", defArgs (top 12), defBody (top 12), defScope (top 12), [], []⟩
def d_need_poly : He.DefD := ⟨("need_poly", none), "need_poly", "need_poly", defArgs (top 13), defBody (top 13), defScope (top 13), [], []⟩
def d_need_x_poly : He.DefD := ⟨("need_x_poly", none), "need_x_poly", "need_x_poly", defArgs (top 26), defBody (top 26), defScope (top 26), [], []⟩
def d_common : He.DefD := ⟨("common", none), "common", "common", defArgs (top 31), defBody (top 31), defScope (top 31), [], []⟩
def d_rows_right : He.DefD := ⟨("rows_right", none), "rows_right", "rows_right", defArgs (top 41), defBody (top 41), defScope (top 41), [], []⟩
def d_need_row : He.DefD := ⟨("need_row", none), "need_row", "need_row", defArgs (top 42), defBody (top 42), defScope (top 42), [], []⟩
def d_need_small_row : He.DefD := ⟨("need_small_row", none), "need_small_row", "need_small_row", defArgs (top 43), defBody (top 43), defScope (top 43), [], []⟩
def d_put_in : He.DefD := ⟨("put_in", none), "put_in", "put_in", defArgs (top 24), defBody (top 24), defScope (top 24), [], []⟩
def d_plain : He.DefD := ⟨("plain", none), "plain", "plain", defArgs (top 36), defBody (top 36), defScope (top 36), [], []⟩
def d_about : He.DefD := ⟨("about", none), "about", "about", defArgs (top 35), defBody (top 35), defScope (top 35), [], []⟩
def d_turn_book : He.DefD := ⟨("turn_book", none), "turn_book", "turn_book", defArgs (top 34), defBody (top 34), defScope (top 34), [], []⟩
def d_divide_in_y : He.DefD := ⟨("divide_in_y", none), "divide_in_y", "divide_in_y", defArgs (top 45), defBody (top 45), defScope (top 45), [], []⟩
def d_row_less : He.DefD := ⟨("row_less", none), "row_less", "row_less", defArgs (top 49), defBody (top 49), defScope (top 49), [], []⟩
def d_pivot_at : He.DefD := ⟨("pivot_at", none), "pivot_at", "pivot_at", defArgs (top 50), defBody (top 50), defScope (top 50), [], []⟩
def d_pivots_of : He.DefD := ⟨("pivots_of", none), "pivots_of", "pivots_of", defArgs (top 51), defBody (top 51), defScope (top 51), [], []⟩
def d_number_in : He.DefD := ⟨("number_in", none), "number_in", "number_in", defArgs (top 52), defBody (top 52), defScope (top 52), [], []⟩
def d_turned_books : He.DefD := ⟨("turned_books", none), "turned_books", "turned_books", defArgs (top 47), defBody (top 47), defScope (top 47), [], []⟩
def d_sum_of : He.DefD := ⟨("sum_of", none), "sum_of", "sum_of", defArgs (top 46), defBody (top 46), defScope (top 46), [], []⟩
def d_filled_up : He.DefD := ⟨("filled_up", none), "filled_up", "filled_up", defArgs (top 53), defBody (top 53), defScope (top 53), [], []⟩
def d_best_turn : He.DefD := ⟨("best_turn", none), "best_turn", "best_turn", defArgs (top 48), defBody (top 48), defScope (top 48), [], []⟩
def d_rest_size_of : He.DefD := ⟨("rest_size_of", none), "rest_size_of", "rest_size_of", defArgs (top 57), defBody (top 57), defScope (top 57), [], []⟩
def d_ones_of : He.DefD := ⟨("ones_of", none), "ones_of", "ones_of", defArgs (top 54), defBody (top 54), defScope (top 54), [], []⟩
def d_rest_size : He.DefD := ⟨("rest_size", none), "rest_size", "rest_size", defArgs (top 58), defBody (top 58), defScope (top 58), [], []⟩
def d_ones : He.DefD := ⟨("ones", none), "ones", "ones", defArgs (top 55), defBody (top 55), defScope (top 55), [], []⟩
def d_sylvester : He.DefD := ⟨("sylvester", none), "sylvester", "sylvester", defArgs (top 60), defBody (top 60), defScope (top 60), [], []⟩
def d_det_of : He.DefD := ⟨("det_of", none), "det_of", "det_of", defArgs (top 61), defBody (top 61), defScope (top 61), [], []⟩
def d_cofactor : He.DefD := ⟨("cofactor", none), "cofactor", "cofactor", defArgs (top 62), defBody (top 62), defScope (top 62), [], []⟩
def d_resultant_of : He.DefD := ⟨("resultant_of", none), "resultant_of", "resultant_of", defArgs (top 63), defBody (top 63), defScope (top 63), [], []⟩
def d_resultant : He.DefD := ⟨("resultant", none), "resultant", "resultant", defArgs (top 64), defBody (top 64), defScope (top 64), [], []⟩
def d__law_begun : He.DefD := ⟨("_law_begun", none), "_law_begun", "_law_begun", defArgs (top 66), defBody (top 66), defScope (top 66), [], []⟩
def d__law_draw : He.DefD := ⟨("_law_draw", none), "_law_draw", "_law_draw", defArgs (top 67), defBody (top 67), defScope (top 67), [], []⟩
def d__law_pick : He.DefD := ⟨("_law_pick", none), "_law_pick", "_law_pick", defArgs (top 68), defBody (top 68), defScope (top 68), [], []⟩
def d__law_prime : He.DefD := ⟨("_law_prime", none), "_law_prime", "_law_prime", defArgs (top 70), defBody (top 70), defScope (top 70), [], []⟩
def d__law_mixed : He.DefD := ⟨("_law_mixed", none), "_law_mixed", "_law_mixed", defArgs (top 69), defBody (top 69), defScope (top 69), [], []⟩
def d__law_high : He.DefD := ⟨("_law_high", none), "_law_high", "_law_high", defArgs (top 75), defBody (top 75), defScope (top 75), [], []⟩
def d__law_dict : He.DefD := ⟨("_law_dict", none), "_law_dict", "_law_dict", defArgs (top 71), defBody (top 71), defScope (top 71), [], []⟩
def d__law_poly_of : He.DefD := ⟨("_law_poly_of", none), "_law_poly_of", "_law_poly_of", defArgs (top 72), defBody (top 72), defScope (top 72), [], []⟩
def d__law_added : He.DefD := ⟨("_law_added", none), "_law_added", "_law_added", defArgs (top 73), defBody (top 73), defScope (top 73), [], []⟩
def d__law_plus : He.DefD := ⟨("_law_plus", none), "_law_plus", "_law_plus", defArgs (top 74), defBody (top 74), defScope (top 74), [], []⟩
def d__law_poly : He.DefD := ⟨("_law_poly", none), "_law_poly", "_law_poly", defArgs (top 76), defBody (top 76), defScope (top 76), [], []⟩
def d__law_some : He.DefD := ⟨("_law_some", none), "_law_some", "_law_some", defArgs (top 77), defBody (top 77), defScope (top 77), [], []⟩
def d__law_x_poly : He.DefD := ⟨("_law_x_poly", none), "_law_x_poly", "_law_x_poly", defArgs (top 78), defBody (top 78), defScope (top 78), [], []⟩
def d__law_plain_poly : He.DefD := ⟨("_law_plain_poly", none), "_law_plain_poly", "_law_plain_poly", defArgs (top 79), defBody (top 79), defScope (top 79), [], []⟩
def d_law : He.DefD := ⟨("law", none), "law", "law", defArgs (top 80), defBody (top 80), defScope (top 80), [], []⟩
def fn : List He.DefD := [d_moved_up, d_raised, d_part_at, d_scaled, d_highest, d_added, d_product, d_poly_of, d_book_of, d_told, d_back_of, d_divide, d_euclid, d_is_between, d_need_prime, d_is_term, d_polys_right, d_need_poly, d_need_x_poly, d_common, d_rows_right, d_need_row, d_need_small_row, d_put_in, d_plain, d_about, d_turn_book, d_divide_in_y, d_row_less, d_pivot_at, d_pivots_of, d_number_in, d_turned_books, d_sum_of, d_filled_up, d_best_turn, d_rest_size_of, d_ones_of, d_rest_size, d_ones, d_sylvester, d_det_of, d_cofactor, d_resultant_of, d_resultant, d__law_begun, d__law_draw, d__law_pick, d__law_prime, d__law_mixed, d__law_high, d__law_dict, d__law_poly_of, d__law_added, d__law_plus, d__law_poly, d__law_some, d__law_x_poly, d__law_plain_poly, d_law]
def fa : List He.Fa := [.glo "moved_up", .glo "raised", .glo "part_at", .glo "scaled", .glo "highest", .glo "added", .glo "product", .glo "poly_of", .glo "book_of", .glo "told", .glo "back_of", .glo "divide", .glo "euclid", .glo "is_between", .glo "need_prime", .glo "is_term", .glo "polys_right", .glo "need_poly", .glo "need_x_poly", .glo "common", .glo "rows_right", .glo "need_row", .glo "need_small_row", .glo "put_in", .glo "plain", .glo "about", .glo "turn_book", .glo "divide_in_y", .glo "row_less", .glo "pivot_at", .glo "pivots_of", .glo "number_in", .glo "turned_books", .glo "sum_of", .glo "filled_up", .glo "best_turn", .glo "rest_size_of", .glo "ones_of", .glo "rest_size", .glo "ones", .glo "sylvester", .glo "det_of", .glo "cofactor", .glo "resultant_of", .glo "resultant", .glo "_law_begun", .glo "_law_draw", .glo "_law_pick", .glo "_law_prime", .glo "_law_mixed", .glo "_law_high", .glo "_law_dict", .glo "_law_poly_of", .glo "_law_added", .glo "_law_plus", .glo "_law_poly", .glo "_law_some", .glo "_law_x_poly", .glo "_law_plain_poly", .glo "law", .glo "TURNS", .int "MOST_POWER" 999, .int "LEAST_ENTRIES" 2, .int "MOST_ENTRIES" 4, .int "MOST_SMALL" 3, .free "int", .free "bool", .free "tuple", .free "list", .free "dict", .free "len", .free "isinstance", .free "range", .free "all", .free "max", .free "min", .free "sum", .free "abs", .free "repr", .free "sorted", .free "zip", .free "enumerate"]
abbrev R : PySem.W.OpenRow := PySem.W.OpenLaw.row PySem.Challenge.rw_rowsfilled_k37_whole_rest_sizes_and_resu
/-- the hook: the defs, the facts, TURNS -/
def hk : PySem.W.Hook where
  α := Bool × He.AlD
  obs := fun s => (tuB (He.frG s.heap.get? (He.asD s.heap.get? 3)), He.obsDG 3 fa fn s.heap.get?)
  val := fun _ => (true, He.valD fn)
  says := fun _ h => ∃ K : PySem.W.Frag, K.In h ∧ tuB K = true ∧ He.SaysD fa fn K
  of := fun _ _ e => ⟨_, He.frG_in, congrArg Prod.fst e, congrArg Prod.snd e⟩
  keeps := fun _ _ _ ⟨K, hK, c⟩ k => ⟨K, PySem.W.Frag.In.keeps hK k, c⟩
def ob (s : PySem.W.SharedT) : Bool × He.AlD := (tuB (He.frG (HandSHeadRun.getT s) (He.asD (HandSHeadRun.getT s) 3)), He.obsDG 3 fa fn (HandSHeadRun.getT s))
theorem ob_eq (s : PySem.W.SharedT) : ob s = hk.obs s.abs := by
  have e : HandSHeadRun.getT s = s.abs.heap.get? := funext (HandSHeadRun.getT_eq s)
  unfold ob
  rw [e]
  rfl
def ls0 : List Str := ["__name__", "FillError", "BadPoly", "BadPrime", "BadRow", "NoLetter", "TooMany", "MOST_POWER", "is_between", "need_prime"]
def ls10 : List Str := ["is_term", "polys_right", "need_poly", "book_of", "poly_of", "told", "added", "highest", "packed", "long_product"]
def ls20 : List Str := ["product", "back_of", "part_at", "put_in", "need_x_poly", "scaled", "moved_up", "divide", "euclid", "common"]
def ls30 : List Str := ["MOST_SMALL", "turn_book", "about", "plain", "LEAST_ENTRIES", "MOST_ENTRIES", "TURNS", "rows_right", "need_row", "need_small_row"]
def ls40 : List Str := ["raised", "divide_in_y", "sum_of", "turned_books", "best_turn", "row_less", "pivot_at", "pivots_of", "number_in", "filled_up"]
def ls50 : List Str := ["ones_of", "ones", "rest_size_of", "rest_size", "sylvester", "det_of", "cofactor", "resultant_of", "resultant", "_law_begun"]
def ls60 : List Str := ["_law_draw", "_law_pick", "_law_mixed", "_law_prime", "_law_dict", "_law_poly_of", "_law_added", "_law_plus", "_law_high", "_law_poly"]
def ls70 : List Str := ["_law_some", "_law_x_poly", "_law_plain_poly"]
def ls : List Str := ls0 ++ ls10 ++ ls20 ++ ls30 ++ ls40 ++ ls50 ++ ls60 ++ ls70
theorem run (w : PySem.World) : HandSHeadRun.RunEq R (PySem.W.view R.prog [80]) hk ob 4000 ls w := by
  intro os
  kernel_rfl
end L2.K37R
end H0
section M1
set_option autoImplicit false
/-! Finitely supported sequences over a commutative ring: a commutative ring. -/
namespace K37

section sums
variable {A : Type} [Lean.Grind.CommRing A]

def sm : Nat → (Nat → A) → A
  | 0, _ => 0
  | n + 1, f => sm n f + f n

theorem sm_congr {f g : Nat → A} : ∀ {n : Nat}, (∀ i, i < n → f i = g i) → sm n f = sm n g
  | 0, _ => rfl
  | n + 1, h => by
    have h1 := sm_congr (n := n) fun i hi => h i (by omega)
    have h2 := h n (by omega)
    simp only [sm, h1, h2]
theorem sm_zero : ∀ (n : Nat), sm n (fun _ => (0 : A)) = 0
  | 0 => rfl
  | n + 1 => by
    have h := sm_zero n
    simp only [sm, h]
    grind
theorem sm_eq_zero {f : Nat → A} {n : Nat} (h : ∀ i, i < n → f i = 0) : sm n f = 0 := by
  rw [sm_congr h, sm_zero]
theorem sm_add (f g : Nat → A) : ∀ n, sm n (fun i => f i + g i) = sm n f + sm n g
  | 0 => by simp only [sm]; grind
  | n + 1 => by
    have h := sm_add f g n
    simp only [sm, h]
    grind
theorem sm_mul (a : A) (f : Nat → A) : ∀ n, sm n (fun i => a * f i) = a * sm n f
  | 0 => by simp only [sm]; grind
  | n + 1 => by
    have h := sm_mul a f n
    simp only [sm, h]
    grind
theorem sm_mul' (a : A) (f : Nat → A) (n : Nat) : sm n (fun i => f i * a) = sm n f * a := by
  have h := sm_mul a f n
  have e : (fun i => f i * a) = fun i => a * f i := funext fun i => by grind
  rw [e, h]
  grind
theorem sm_neg (f : Nat → A) : ∀ n, sm n (fun i => - f i) = - sm n f
  | 0 => by simp only [sm]; grind
  | n + 1 => by
    have h := sm_neg f n
    simp only [sm, h]
    grind
/-- the first term apart -/
theorem sm_head (f : Nat → A) : ∀ n, sm (n + 1) f = f 0 + sm n (fun i => f (i + 1))
  | 0 => by simp only [sm]; grind
  | n + 1 => by
    have h := sm_head f n
    rw [sm, h]
    simp only [sm]
    grind
theorem sm_rev (f : Nat → A) : ∀ n, sm (n + 1) (fun i => f (n - i)) = sm (n + 1) f
  | 0 => rfl
  | n + 1 => by
    rw [sm_head]
    have h : sm (n + 1) (fun i => f (n + 1 - (i + 1))) = sm (n + 1) f := by
      rw [← sm_rev f n]
      exact sm_congr fun i _ => by rw [show n + 1 - (i + 1) = n - i by omega]
    rw [h, show n + 1 - 0 = n + 1 by omega]
    rw [show sm (n + 1 + 1) f = sm (n + 1) f + f (n + 1) from rfl]
    grind
theorem sm_comm (F : Nat → Nat → A) (m : Nat) : ∀ n, sm n (fun i => sm m (fun j => F i j)) = sm m (fun j => sm n (fun i => F i j))
  | 0 => by
    show (0 : A) = sm m (fun _ => 0)
    rw [sm_zero]
  | n + 1 => by
    have h := sm_comm F m n
    rw [sm, h, ← sm_add]
    rfl
/-- the triangle summed both ways -/
theorem sm_tri (F : Nat → Nat → A) : ∀ n, sm (n + 1) (fun k => sm (k + 1) (fun i => F i (k - i))) = sm (n + 1) (fun i => sm (n - i + 1) (fun j => F i j))
  | 0 => rfl
  | n + 1 => by
    rw [sm, sm_tri F n]
    have h : sm (n + 1) (fun i => sm (n + 1 - i + 1) (fun j => F i j)) = sm (n + 1) (fun i => sm (n - i + 1) (fun j => F i j)) + sm (n + 1) (fun i => F i (n + 1 - i)) := by
      rw [← sm_add]
      refine sm_congr fun i hi => ?_
      rw [show n + 1 - i + 1 = (n - i + 1) + 1 by omega, sm, show n + 1 - i = n - i + 1 by omega]
    rw [show sm (n + 1 + 1) (fun i => sm (n + 1 - i + 1) (fun j => F i j)) = sm (n + 1) (fun i => sm (n + 1 - i + 1) (fun j => F i j)) + sm (n + 1 - (n + 1) + 1) (fun j => F (n + 1) j) from rfl, h]
    rw [show n + 1 - (n + 1) + 1 = 1 by omega, show sm (n + 1 + 1) (fun i => F i (n + 1 - i)) = sm (n + 1) (fun i => F i (n + 1 - i)) + F (n + 1) (n + 1 - (n + 1)) from rfl, show n + 1 - (n + 1) = 0 by omega]
    have e : sm 1 (fun j => F (n + 1) j) = F (n + 1) 0 := by
      show (0 : A) + F (n + 1) 0 = F (n + 1) 0
      grind
    rw [e]
    grind
/-- a longer sum whose further terms are nothing -/
theorem sm_more {f : Nat → A} {n : Nat} : ∀ {m : Nat}, n ≤ m → (∀ i, n ≤ i → i < m → f i = 0) → sm m f = sm n f
  | 0, h, _ => by rw [show n = 0 by omega]
  | m + 1, h, k => by
    by_cases e : n = m + 1
    · rw [e]
    · rw [sm, sm_more (m := m) (by omega) (fun i a b => k i a (by omega)), k m (by omega) (by omega)]
      grind
theorem sm_one {f : Nat → A} {n k : Nat} (hk : k < n) (h : ∀ i, i < n → i ≠ k → f i = 0) : sm n f = f k := by
  rw [sm_more (n := k + 1) (by omega) (fun i a b => h i b (by omega)), sm, sm_eq_zero fun i hi => h i (by omega) (by omega)]
  grind
end sums

/-- finitely supported sequences: polys in one letter -/
structure Pl (A : Type) [Lean.Grind.CommRing A] where
  co : Nat → A
  fin : ∃ n, ∀ i, n ≤ i → co i = 0

namespace Pl
variable {A : Type} [Lean.Grind.CommRing A]

theorem ext {f g : Pl A} (h : ∀ i, f.co i = g.co i) : f = g := by
  obtain ⟨a, _⟩ := f
  obtain ⟨b, _⟩ := g
  have e : a = b := funext h
  subst e
  rfl

def C (a : A) : Pl A := ⟨fun i => if i = 0 then a else 0, 1, fun i hi => if_neg (by omega)⟩
def add (f g : Pl A) : Pl A := ⟨fun i => f.co i + g.co i, by
  obtain ⟨n, hn⟩ := f.fin
  obtain ⟨m, hm⟩ := g.fin
  refine ⟨n + m, fun i hi => ?_⟩
  rw [hn i (by omega), hm i (by omega)]
  grind⟩
def neg (f : Pl A) : Pl A := ⟨fun i => - f.co i, by
  obtain ⟨n, hn⟩ := f.fin
  refine ⟨n, fun i hi => ?_⟩
  rw [hn i hi]
  grind⟩
def mul (f g : Pl A) : Pl A := ⟨fun n => sm (n + 1) (fun i => f.co i * g.co (n - i)), by
  obtain ⟨n, hn⟩ := f.fin
  obtain ⟨m, hm⟩ := g.fin
  refine ⟨n + m, fun i hi => sm_eq_zero fun j hj => ?_⟩
  by_cases h : n ≤ j
  · rw [hn j h]
    grind
  · rw [hm (i - j) (by omega)]
    grind⟩
def pow (f : Pl A) : Nat → Pl A
  | 0 => C 1
  | n + 1 => mul (pow f n) f

instance : Add (Pl A) := ⟨add⟩
instance : Neg (Pl A) := ⟨neg⟩
instance : Mul (Pl A) := ⟨mul⟩
instance : Sub (Pl A) := ⟨fun f g => add f (neg g)⟩
instance : HPow (Pl A) Nat (Pl A) := ⟨pow⟩
def nc (n : Nat) : A := NatCast.natCast (self := Lean.Grind.Semiring.natCast) n
def ic (n : Int) : A := IntCast.intCast (self := Lean.Grind.Ring.intCast) n
instance : NatCast (Pl A) := ⟨fun n => C (nc n)⟩
instance : IntCast (Pl A) := ⟨fun n => C (ic n)⟩
instance (n : Nat) : OfNat (Pl A) n := ⟨C (OfNat.ofNat n)⟩
instance : SMul Nat (Pl A) := ⟨fun n f => mul (C (nc n)) f⟩
instance : SMul Int (Pl A) := ⟨fun n f => mul (C (ic n)) f⟩

theorem co_add (f g : Pl A) (i : Nat) : (f + g).co i = f.co i + g.co i := rfl
theorem co_neg (f : Pl A) (i : Nat) : (-f).co i = - f.co i := rfl
theorem co_sub (f g : Pl A) (i : Nat) : (f - g).co i = f.co i - g.co i := by
  show f.co i + - g.co i = f.co i - g.co i
  grind
theorem co_mul (f g : Pl A) (n : Nat) : (f * g).co n = sm (n + 1) (fun i => f.co i * g.co (n - i)) := rfl
theorem co_C (a : A) (i : Nat) : (C a).co i = if i = 0 then a else 0 := rfl
theorem co_C0 (a : A) : (C a).co 0 = a := rfl
theorem co_C1 (a : A) (i : Nat) : (C a).co (i + 1) = 0 := rfl
theorem co_zero (i : Nat) : (0 : Pl A).co i = 0 := by
  show (if i = 0 then (0 : A) else 0) = 0
  split <;> rfl
theorem co_one (i : Nat) : (1 : Pl A).co i = if i = 0 then 1 else 0 := rfl
theorem co_Cmul (a : A) (f : Pl A) (n : Nat) : (C a * f).co n = a * f.co n := by
  rw [co_mul, sm_head, co_C0, Nat.sub_zero, sm_eq_zero fun i _ => by rw [co_C1]; grind]
  grind
theorem mul_comm' (f g : Pl A) : f * g = g * f := ext fun n => by
  rw [co_mul, co_mul, ← sm_rev (fun i => f.co i * g.co (n - i)) n]
  refine sm_congr fun i hi => ?_
  rw [show n - (n - i) = i by omega]
  grind
theorem mul_assoc' (f g h : Pl A) : f * g * h = f * (g * h) := ext fun n => by
  have a : (f * g * h).co n = sm (n + 1) (fun k => sm (k + 1) (fun i => f.co i * g.co (k - i) * h.co (n - i - (k - i)))) := by
    rw [co_mul]
    refine sm_congr fun k hk => ?_
    rw [co_mul, ← sm_mul']
    refine sm_congr fun i hi => ?_
    rw [show n - i - (k - i) = n - k by omega]
  have b : (f * (g * h)).co n = sm (n + 1) (fun i => sm (n - i + 1) (fun j => f.co i * g.co j * h.co (n - i - j))) := by
    rw [co_mul]
    refine sm_congr fun i hi => ?_
    rw [co_mul, ← sm_mul]
    refine sm_congr fun j hj => ?_
    grind
  rw [a, b]
  exact sm_tri (fun i j => f.co i * g.co j * h.co (n - i - j)) n
theorem mul_add' (f g h : Pl A) : f * (g + h) = f * g + f * h := ext fun n => by
  rw [co_add, co_mul, co_mul, co_mul, ← sm_add]
  refine sm_congr fun i _ => ?_
  rw [co_add]
  grind
theorem one_mul' (f : Pl A) : 1 * f = f := ext fun n => by
  show (C 1 * f).co n = f.co n
  rw [co_Cmul]
  grind
theorem zero_mul' (f : Pl A) : 0 * f = 0 := ext fun n => by
  show (C 0 * f).co n = (0 : Pl A).co n
  rw [co_Cmul, co_zero]
  grind
theorem C_add (a b : A) : C (a + b) = C a + C b := ext fun n => by
  rw [co_add, co_C, co_C, co_C]
  split
  · rfl
  · grind
theorem C_neg (a : A) : C (-a) = - C a := ext fun n => by
  rw [co_neg, co_C, co_C]
  split
  · rfl
  · grind
theorem C_mul (a b : A) : C (a * b) = C a * C b := ext fun n => by
  rw [co_Cmul, co_C, co_C]
  split
  · rfl
  · grind

instance instSemi : Lean.Grind.Semiring (Pl A) where
  nsmul := inferInstance
  add_zero f := ext fun i => by rw [co_add, co_zero]; grind
  add_comm f g := ext fun i => by rw [co_add, co_add]; grind
  add_assoc f g h := ext fun i => by rw [co_add, co_add, co_add, co_add]; grind
  mul_assoc := mul_assoc'
  mul_one f := by rw [mul_comm', one_mul']
  one_mul := one_mul'
  left_distrib := mul_add'
  right_distrib f g h := by rw [mul_comm', mul_add', mul_comm' h f, mul_comm' h g]
  zero_mul := zero_mul'
  mul_zero f := by rw [mul_comm', zero_mul']
  pow_zero _ := rfl
  pow_succ _ _ := rfl
  ofNat_succ n := by
    show C (OfNat.ofNat (n + 1)) = C (OfNat.ofNat n) + C (OfNat.ofNat 1)
    rw [← C_add, Lean.Grind.Semiring.ofNat_succ]
  ofNat_eq_natCast n := by
    show C (OfNat.ofNat n) = C (nc n : A)
    rw [Lean.Grind.Semiring.ofNat_eq_natCast]
    rfl
  nsmul_eq_natCast_mul _ _ := rfl

instance instRing : Lean.Grind.Ring (Pl A) where
  zsmul := inferInstance
  neg_add_cancel f := ext fun i => by rw [co_add, co_neg, co_zero]; grind
  sub_eq_add_neg _ _ := rfl
  neg_zsmul i f := by
    show C (ic (-i : Int) : A) * f = -(C (ic i : A) * f)
    refine ext fun n => ?_
    have e : (ic (-i) : A) = - ic i := Lean.Grind.Ring.intCast_neg i
    rw [co_neg, co_Cmul, co_Cmul, e]
    grind
  zsmul_natCast_eq_nsmul n f := by
    show C (ic ((n : Nat) : Int) : A) * f = C (nc n : A) * f
    have e : (ic ((n : Nat) : Int) : A) = nc n := Lean.Grind.Ring.intCast_natCast n
    rw [e]
  intCast_ofNat n := by
    show C (ic (OfNat.ofNat n : Int) : A) = C (OfNat.ofNat n)
    have e : (ic (OfNat.ofNat n : Int) : A) = OfNat.ofNat n := Lean.Grind.Ring.intCast_ofNat n
    rw [e]
  intCast_neg i := by
    show C (ic (-i : Int) : A) = - C (ic i : A)
    have e : (ic (-i) : A) = - ic i := Lean.Grind.Ring.intCast_neg i
    rw [e, C_neg]

instance instCR : Lean.Grind.CommRing (Pl A) where
  mul_comm := mul_comm'

example (f g : Pl (Pl A)) : (f + g) * (f - g) = f * f - g * g := by grind
end Pl
end K37
end M1
section M2
set_option autoImplicit false
/-! Degrees, division by a poly whose top is a unit, spans. -/
namespace K37
open Pl

section deg
variable {A : Type} [Lean.Grind.CommRing A]

/-- of a degree below n -/
def dlt (f : Pl A) (n : Nat) : Prop := ∀ i, n ≤ i → f.co i = 0
def IsD (f : Pl A) (d : Nat) : Prop := f.co d ≠ 0 ∧ ∀ i, d < i → f.co i = 0

theorem dlt.mono {f : Pl A} {n m : Nat} (h : dlt f n) (k : n ≤ m) : dlt f m := fun i hi => h i (by omega)
theorem dlt.add {f g : Pl A} {n : Nat} (h : dlt f n) (k : dlt g n) : dlt (f + g) n := fun i hi => by
  rw [co_add, h i hi, k i hi]
  grind
theorem dlt.neg {f : Pl A} {n : Nat} (h : dlt f n) : dlt (-f) n := fun i hi => by
  rw [co_neg, h i hi]
  grind
theorem dlt.sub {f g : Pl A} {n : Nat} (h : dlt f n) (k : dlt g n) : dlt (f - g) n := fun i hi => by
  rw [co_sub, h i hi, k i hi]
  grind
theorem dlt.zero (n : Nat) : dlt (0 : Pl A) n := fun i _ => co_zero i
theorem dlt.Cmul {f : Pl A} {n : Nat} (h : dlt f n) (c : A) : dlt (C c * f) n := fun i hi => by
  rw [co_Cmul, h i hi]
  grind
theorem dlt.mul {f g : Pl A} {n m : Nat} (h : dlt f n) (k : dlt g m) : dlt (f * g) (n + m - 1) := fun i hi => by
  rw [co_mul]
  refine sm_eq_zero fun j hj => ?_
  by_cases e : n ≤ j
  · rw [h j e]
    grind
  · rw [k (i - j) (by omega)]
    grind
theorem dlt.C (c : A) : dlt (Pl.C c) 1 := fun i hi => by
  rw [co_C, if_neg (by omega)]
theorem dlt_zero_iff {f : Pl A} : dlt f 0 ↔ f = 0 := ⟨fun h => ext fun i => by rw [h i (by omega), co_zero], fun e => by rw [e]; exact dlt.zero 0⟩
theorem exists_dlt (f : Pl A) : ∃ n, dlt f n := f.fin

theorem isD_of_dlt (f : Pl A) : ∀ n, dlt f n → f ≠ 0 → ∃ d, d < n ∧ IsD f d
  | 0, h, k => absurd (dlt_zero_iff.mp h) k
  | n + 1, h, k => by
    by_cases e : f.co n = 0
    · obtain ⟨d, hd, q⟩ := isD_of_dlt f n (fun i hi => by
        by_cases x : i = n
        · rw [x, e]
        · exact h i (by omega)) k
      exact ⟨d, by omega, q⟩
    · exact ⟨n, by omega, e, fun i hi => h i (by omega)⟩
theorem exists_isD {f : Pl A} (k : f ≠ 0) : ∃ d, IsD f d := by
  obtain ⟨n, hn⟩ := exists_dlt f
  obtain ⟨d, _, q⟩ := isD_of_dlt f n hn k
  exact ⟨d, q⟩
theorem IsD.unique {f : Pl A} {d e : Nat} (h : IsD f d) (k : IsD f e) : d = e := by
  rcases Nat.lt_trichotomy d e with x | x | x
  · exact absurd (h.2 e x) k.1
  · exact x
  · exact absurd (k.2 d x) h.1
theorem IsD.ne {f : Pl A} {d : Nat} (h : IsD f d) : f ≠ 0 := fun e => h.1 (by rw [e, co_zero])
theorem IsD.dlt {f : Pl A} {d : Nat} (h : IsD f d) : dlt f (d + 1) := fun i hi => h.2 i (by omega)
theorem IsD.lt_of_dlt {f : Pl A} {d n : Nat} (h : IsD f d) (k : K37.dlt f n) : d < n := by
  apply Nat.lt_of_not_le
  intro q
  exact h.1 (k d q)
open Classical in
/-- the degree, 0 for nothing -/
noncomputable def dg (f : Pl A) : Nat := if h : ∃ d, IsD f d then choose h else 0
theorem dg_is {f : Pl A} (h : f ≠ 0) : IsD f (dg f) := by
  have e := exists_isD h
  unfold dg
  rw [dif_pos e]
  exact Classical.choose_spec e
theorem IsD.dg {f : Pl A} {d : Nat} (h : IsD f d) : dg f = d := (dg_is h.ne).unique h
open Classical in
/-- the degree, -1 for nothing -/
noncomputable def hi (f : Pl A) : Int := if f = 0 then -1 else dg f
theorem hi_zero : hi (0 : Pl A) = -1 := if_pos rfl
theorem hi_ne {f : Pl A} (h : f ≠ 0) : hi f = dg f := if_neg h
theorem hi_lt {f : Pl A} {n : Nat} (h : dlt f n) : hi f < n := by
  by_cases e : f = 0
  · rw [e, hi_zero]
    omega
  · rw [hi_ne e]
    have := (dg_is e).lt_of_dlt h
    omega
theorem dlt_of_hi {f : Pl A} {n : Nat} (h : hi f < n) : dlt f n := by
  by_cases e : f = 0
  · rw [e]
    exact dlt.zero n
  · rw [hi_ne e] at h
    exact fun i hi => (dg_is e).2 i (by omega)

/-- y to the k times a -/
def mo (a : A) (k : Nat) : Pl A := ⟨fun i => if i = k then a else 0, k + 1, fun i hi => if_neg (by omega)⟩
theorem co_mo (a : A) (k i : Nat) : (mo a k).co i = if i = k then a else 0 := rfl
theorem co_mo_mul (a : A) (k : Nat) (f : Pl A) (i : Nat) : (mo a k * f).co i = if i < k then 0 else a * f.co (i - k) := by
  rw [co_mul]
  by_cases h : i < k
  · rw [if_pos h]
    refine sm_eq_zero fun j hj => ?_
    rw [co_mo, if_neg (by omega)]
    grind
  · rw [if_neg h, sm_one (k := k) (by omega) (fun j _ hn => by rw [co_mo, if_neg hn]; grind), co_mo, if_pos rfl]
theorem mo_zero (a : A) : mo a 0 = C a := rfl
theorem mo_mul_mo (a b : A) (k l : Nat) : mo a k * mo b l = mo (a * b) (k + l) := ext fun i => by
  rw [co_mo_mul, co_mo, co_mo]
  by_cases h : i < k
  · rw [if_pos h, if_neg (by omega)]
  · rw [if_neg h]
    by_cases e : i - k = l
    · rw [if_pos e, if_pos (by omega)]
    · rw [if_neg e, if_neg (by omega)]
      grind

/-- division by a poly whose top is a unit -/
theorem div_top (f : Pl A) (m : Nat) (v : A) (hf : dlt f (m + 1)) (hu : f.co m * v = 1) : ∀ n (z : Pl A), dlt z n → ∃ q r, z = q * f + r ∧ dlt r m
  | 0, z, h => ⟨0, z, by grind, h.mono (Nat.zero_le _)⟩
  | n + 1, z, h => by
    by_cases hn : n < m
    · exact ⟨0, z, by grind, h.mono (by omega)⟩
    · have k : dlt (z - mo (z.co n * v) (n - m) * f) n := fun i hi => by
        rw [co_sub, co_mo_mul, if_neg (by omega)]
        by_cases e : i = n
        · rw [e, show n - (n - m) = m by omega]
          grind
        · rw [h i (by omega), hf (i - (n - m)) (by omega)]
          grind
      obtain ⟨q, r, e, hr⟩ := div_top f m v hf hu n _ k
      exact ⟨q + mo (z.co n * v) (n - m), r, by grind, hr⟩
theorem div_ex (f : Pl A) (m : Nat) (v : A) (hf : dlt f (m + 1)) (hu : f.co m * v = 1) (z : Pl A) : ∃ q r, z = q * f + r ∧ dlt r m := by
  obtain ⟨n, hn⟩ := exists_dlt z
  exact div_top f m v hf hu n z hn
theorem mul_top {f q : Pl A} {m d : Nat} (hf : dlt f (m + 1)) (hq : dlt q (d + 1)) : (q * f).co (d + m) = q.co d * f.co m := by
  rw [co_mul, sm_one (k := d) (by omega), show d + m - d = m by omega]
  intro j hj hn
  by_cases e : j < d
  · rw [hf (d + m - j) (by omega)]
    grind
  · rw [hq j (by omega)]
    grind
theorem top_zero {f q : Pl A} {m n : Nat} {v : A} (hf : dlt f (m + 1)) (hu : f.co m * v = 1) (h : dlt (q * f) (n + m)) : dlt q n := by
  by_cases e : q = 0
  · rw [e]
    exact dlt.zero n
  · have k := dg_is e
    have t := mul_top hf k.dlt
    intro i hi
    by_cases x : dg q < n
    · exact k.2 i (by omega)
    · rw [h _ (by omega)] at t
      exact absurd (show q.co (dg q) = 0 by grind) k.1
end deg

/-- no zero divisors -/
class Dom (A : Type) [Lean.Grind.CommRing A] : Prop where
  nz : (1 : A) ≠ 0
  nzd : ∀ a b : A, a * b = 0 → a = 0 ∨ b = 0
/-- a field -/
class Fd (A : Type) [Lean.Grind.CommRing A] : Prop where
  nz : (1 : A) ≠ 0
  inv : ∀ a : A, a ≠ 0 → ∃ b, a * b = 1
instance {A : Type} [Lean.Grind.CommRing A] [h : Fd A] : Dom A where
  nz := Fd.nz
  nzd a b e := by
    by_cases x : a = 0
    · exact .inl x
    · obtain ⟨c, hc⟩ := Fd.inv a x
      exact .inr (by grind)
section dom
variable {A : Type} [Lean.Grind.CommRing A] [Dom A]
theorem mul_ne {a b : A} (ha : a ≠ 0) (hb : b ≠ 0) : a * b ≠ 0 := fun e => (Dom.nzd a b e).elim ha hb
theorem mul_cancel {a b c : A} (ha : a ≠ 0) (h : a * b = a * c) : b = c := by
  have e : a * (b - c) = 0 := by grind
  rcases Dom.nzd _ _ e with x | x
  · exact absurd x ha
  · grind
theorem IsD.mul {f g : Pl A} {d e : Nat} (h : IsD f d) (k : IsD g e) : IsD (f * g) (d + e) :=
  ⟨by rw [mul_top k.dlt h.dlt]; exact mul_ne h.1 k.1, fun i hi => h.dlt.mul k.dlt i (by omega)⟩
instance : Dom (Pl A) where
  nz := fun e => Dom.nz (A := A) (by
    have h : (1 : Pl A).co 0 = (0 : Pl A).co 0 := by rw [e]
    rw [co_one, co_zero, if_pos rfl] at h
    exact h)
  nzd f g e := by
    by_cases x : f = 0
    · exact .inl x
    · by_cases y : g = 0
      · exact .inr y
      · exact absurd e (IsD.mul (dg_is x) (dg_is y)).ne
theorem dg_mul {f g : Pl A} (hf : f ≠ 0) (hg : g ≠ 0) : dg (f * g) = dg f + dg g := (IsD.mul (dg_is hf) (dg_is hg)).dg
theorem dg_one : dg (1 : Pl A) = 0 := IsD.dg ⟨by rw [co_one, if_pos rfl]; exact Dom.nz, fun i hi => by rw [co_one, if_neg (by omega)]⟩
end dom
section fd
variable {K : Type} [Lean.Grind.CommRing K] [Fd K]
/-- Euclid's division -/
theorem div_fd (b : Pl K) (hb : b ≠ 0) (a : Pl K) : ∃ q r, a = q * b + r ∧ dlt r (dg b) := by
  have k := dg_is hb
  obtain ⟨v, hv⟩ := Fd.inv _ k.1
  exact div_ex b (dg b) v k.dlt hv a
theorem unit_of_dg {a : Pl K} (h : a ≠ 0) (e : dg a = 0) : ∃ b, a * b = 1 := by
  have k := dg_is h
  rw [e] at k
  obtain ⟨v, hv⟩ := Fd.inv _ k.1
  refine ⟨C v, ext fun i => ?_⟩
  rw [Pl.mul_comm', co_Cmul, co_one]
  by_cases x : i = 0
  · rw [x, if_pos rfl]
    grind
  · rw [if_neg x, k.2 i (by omega)]
    grind
theorem dg_of_unit {a b : Pl K} (h : a * b = 1) : a ≠ 0 ∧ dg a = 0 := by
  have n1 : (1 : Pl K) ≠ 0 := Dom.nz
  have ha : a ≠ 0 := fun e => n1 (by rw [← h, e]; grind)
  have hb : b ≠ 0 := fun e => n1 (by rw [← h, e]; grind)
  have q := dg_mul ha hb
  rw [h, dg_one] at q
  exact ⟨ha, by omega⟩
end fd

/-! ### spans over the parts -/
section span
variable {R : Type} [Lean.Grind.CommRing R]
def Sp : List (Pl R) → Pl R → Prop
  | [], z => z = 0
  | a :: l, z => ∃ c : R, Sp l (z - C c * a)
theorem Sp.zero : ∀ l : List (Pl R), Sp l 0
  | [] => rfl
  | a :: l => ⟨0, by
    have e : (0 : Pl R) - C 0 * a = 0 := by
      have h : (C 0 : Pl R) = 0 := rfl
      rw [h]
      grind
    rw [e]
    exact Sp.zero l⟩
theorem Sp.add : ∀ {l : List (Pl R)} {z w : Pl R}, Sp l z → Sp l w → Sp l (z + w)
  | [], z, w, h, k => by
    have h : z = 0 := h
    have k : w = 0 := k
    show z + w = 0
    grind
  | a :: l, z, w, ⟨c, h⟩, ⟨d, k⟩ => ⟨c + d, by
    have e : z + w - C (c + d) * a = (z - C c * a) + (w - C d * a) := by
      rw [C_add]
      grind
    rw [e]
    exact Sp.add h k⟩
theorem Sp.smul : ∀ {l : List (Pl R)} {z : Pl R} (r : R), Sp l z → Sp l (C r * z)
  | [], z, r, h => by
    have h : z = 0 := h
    show C r * z = 0
    rw [h]
    grind
  | a :: l, z, r, ⟨c, h⟩ => ⟨r * c, by
    have e : C r * z - C (r * c) * a = C r * (z - C c * a) := by
      rw [C_mul]
      grind
    rw [e]
    exact Sp.smul r h⟩
theorem C_one : (C (1 : R)) = 1 := rfl
theorem C_zero : (C (0 : R)) = 0 := rfl
theorem Sp.neg {l : List (Pl R)} {z : Pl R} (h : Sp l z) : Sp l (-z) := by
  have k := h.smul (-1)
  rw [C_neg, C_one] at k
  have e : -1 * z = -z := by grind
  rw [e] at k
  exact k
theorem Sp.sub {l : List (Pl R)} {z w : Pl R} (h : Sp l z) (k : Sp l w) : Sp l (z - w) := by
  have e : z - w = z + -w := by grind
  rw [e]
  exact h.add k.neg
theorem Sp.tail {a : Pl R} {l : List (Pl R)} {z : Pl R} (h : Sp l z) : Sp (a :: l) z := ⟨0, by
  have e : z - C 0 * a = z := by
    rw [C_zero]
    grind
  rw [e]
  exact h⟩
theorem Sp.mem : ∀ {l : List (Pl R)} {a : Pl R}, a ∈ l → Sp l a
  | b :: l, a, h => by
    rcases List.mem_cons.mp h with e | e
    · subst e
      refine ⟨1, ?_⟩
      have e : a - C 1 * a = 0 := by
        rw [C_one]
        grind
      rw [e]
      exact Sp.zero l
    · exact (Sp.mem e).tail
/-- every generator of one lies in the other -/
theorem Sp.le : ∀ {l k : List (Pl R)}, (∀ a, a ∈ l → Sp k a) → ∀ {z : Pl R}, Sp l z → Sp k z
  | [], k, _, z, h => by
    have h : z = 0 := h
    rw [h]
    exact Sp.zero k
  | a :: l, k, g, z, ⟨c, h⟩ => by
    have q := (Sp.le (fun b hb => g b (List.mem_cons_of_mem a hb)) h).add ((g a (List.mem_cons_self ..)).smul c)
    have e : z - C c * a + C c * a = z := by grind
    rw [e] at q
    exact q
/-- equal spans -/
def SpEq (l k : List (Pl R)) : Prop := ∀ z, Sp l z ↔ Sp k z
theorem SpEq.of {l k : List (Pl R)} (h : ∀ a, a ∈ l → Sp k a) (g : ∀ a, a ∈ k → Sp l a) : SpEq l k := fun _ => ⟨Sp.le h, Sp.le g⟩
theorem SpEq.refl (l : List (Pl R)) : SpEq l l := fun _ => Iff.rfl
theorem SpEq.symm {l k : List (Pl R)} (h : SpEq l k) : SpEq k l := fun z => (h z).symm
theorem SpEq.trans {l k m : List (Pl R)} (h : SpEq l k) (g : SpEq k m) : SpEq l m := fun z => (h z).trans (g z)
theorem SpEq.perm {l k : List (Pl R)} (h : ∀ a, a ∈ l ↔ a ∈ k) : SpEq l k := .of (fun a q => Sp.mem ((h a).mp q)) fun a q => Sp.mem ((h a).mpr q)
theorem SpEq.append {l k l' k' : List (Pl R)} (h : SpEq l k) (g : SpEq l' k') : SpEq (l ++ l') (k ++ k') := by
  refine .of (fun a q => ?_) fun a q => ?_
  · rcases List.mem_append.mp q with e | e
    · exact Sp.le (fun b hb => Sp.mem (List.mem_append_left _ hb)) ((h a).mp (Sp.mem e))
    · exact Sp.le (fun b hb => Sp.mem (List.mem_append_right _ hb)) ((g a).mp (Sp.mem e))
  · rcases List.mem_append.mp q with e | e
    · exact Sp.le (fun b hb => Sp.mem (List.mem_append_left _ hb)) ((h a).mpr (Sp.mem e))
    · exact Sp.le (fun b hb => Sp.mem (List.mem_append_right _ hb)) ((g a).mpr (Sp.mem e))
theorem Sp.dlt {l : List (Pl R)} {n : Nat} (h : ∀ a, a ∈ l → dlt a n) : ∀ {z : Pl R}, Sp l z → K37.dlt z n := by
  induction l with
  | nil =>
    intro z e
    have e : z = 0 := e
    rw [e]
    exact K37.dlt.zero n
  | cons a l ih =>
    rintro z ⟨c, q⟩
    have k := (ih (fun b hb => h b (List.mem_cons_of_mem a hb)) q).add ((h a (List.mem_cons_self ..)).Cmul c)
    have e : z - C c * a + C c * a = z := by grind
    rw [e] at k
    exact k
end span
end K37
end M2
section M3
set_option autoImplicit false
/-! How many classes; triangular systems. -/
namespace K37
open Pl

/-! ### classes -/
structure Sub {S : Type} [Lean.Grind.CommRing S] (I : S → Prop) : Prop where
  zero : I 0
  add : ∀ a b, I a → I b → I (a + b)
  neg : ∀ a, I a → I (-a)
section ix
variable {S : Type} [Lean.Grind.CommRing S] {I : S → Prop}
theorem Sub.sub (h : Sub I) {a b : S} (x : I a) (y : I b) : I (a - b) := by
  have e : a - b = a + -b := by grind
  rw [e]
  exact h.add _ _ x (h.neg _ y)
/-- two alike to one are alike -/
theorem Sub.alike (h : Sub I) {a b c : S} (x : I (a - c)) (y : I (b - c)) : I (a - b) := by
  have e : a - b = (a - c) - (b - c) := by grind
  rw [e]
  exact h.sub x y
/-- no more unlike ones than representatives -/
theorem pigeon (h : Sub I) : ∀ (L M : List S), M.Pairwise (fun a b => ¬ I (a - b)) → (∀ m, m ∈ M → ∃ l, l ∈ L ∧ I (m - l)) → M.length ≤ L.length
  | [], M, _, c => by
    cases M with
    | nil => exact Nat.le_refl _
    | cons m M =>
      obtain ⟨l, hl, _⟩ := c m (List.mem_cons_self ..)
      cases hl
  | l :: L, M, p, c => by
    -- those that are not alike to l
    have key : ∀ (M : List S), M.Pairwise (fun a b => ¬ I (a - b)) → (∀ m, m ∈ M → ∃ x, x ∈ l :: L ∧ I (m - x)) →
        (∀ m, m ∈ M → ∃ x, x ∈ L ∧ I (m - x)) ∨ ∃ M' : List S, M.length ≤ M'.length + 1 ∧ M'.Pairwise (fun a b => ¬ I (a - b)) ∧ (∀ m, m ∈ M' → m ∈ M) ∧ ∀ m, m ∈ M' → ∃ x, x ∈ L ∧ I (m - x) := by
      intro M
      induction M with
      | nil => exact fun _ _ => .inl fun m hm => nomatch hm
      | cons m M ih =>
        intro p c
        have p' := List.pairwise_cons.mp p
        rcases ih p'.2 (fun x hx => c x (List.mem_cons_of_mem m hx)) with g | ⟨M', hl, hp, hs, g⟩
        · by_cases hm : ∃ x, x ∈ L ∧ I (m - x)
          · refine .inl fun x hx => ?_
            rcases List.mem_cons.mp hx with e | e
            · rw [e]
              exact hm
            · exact g x e
          · exact .inr ⟨M, by simp, p'.2, fun x hx => List.mem_cons_of_mem m hx, g⟩
        · by_cases hm : ∃ x, x ∈ L ∧ I (m - x)
          · refine .inr ⟨m :: M', by simp only [List.length_cons]; omega, List.pairwise_cons.mpr ⟨fun x hx => p'.1 x (hs x hx), hp⟩, ?_, ?_⟩
            · intro x hx
              rcases List.mem_cons.mp hx with e | e
              · rw [e]
                exact List.mem_cons_self ..
              · exact List.mem_cons_of_mem m (hs x e)
            · intro x hx
              rcases List.mem_cons.mp hx with e | e
              · rw [e]
                exact hm
              · exact g x e
          · have ml : I (m - l) := by
              obtain ⟨x, hx, q⟩ := c m (List.mem_cons_self ..)
              rcases List.mem_cons.mp hx with e | e
              · rw [← e]
                exact q
              · exact absurd ⟨x, e, q⟩ hm
            refine .inr ⟨M, by simp, p'.2, fun x hx => List.mem_cons_of_mem m hx, fun x hx => ?_⟩
            obtain ⟨y, hy, q⟩ := c x (List.mem_cons_of_mem m hx)
            rcases List.mem_cons.mp hy with e | e
            · rw [e] at q
              exact absurd (h.alike ml q) (p'.1 x hx)
            · exact ⟨y, e, q⟩
    rcases key M p c with g | ⟨M', hl, hp, _, g⟩
    · have := pigeon h L M p g
      simp only [List.length_cons]
      omega
    · have := pigeon h L M' hp g
      simp only [List.length_cons]
      omega
/-- just N classes -/
def Ix (I : S → Prop) (N : Nat) : Prop := ∃ L : List S, L.length = N ∧ L.Pairwise (fun a b => ¬ I (a - b)) ∧ ∀ z, ∃ l, l ∈ L ∧ I (z - l)
theorem Ix.unique (h : Sub I) {N M : Nat} (x : Ix I N) (y : Ix I M) : N = M := by
  obtain ⟨L, rfl, p, c⟩ := x
  obtain ⟨L', rfl, p', c'⟩ := y
  have a := pigeon h L' L p fun m _ => c' m
  have b := pigeon h L L' p' fun m _ => c m
  omega
/-- the number of classes: q to the s, or endlessly many -/
def Size (q : Nat) (I : S → Prop) : Option Nat → Prop
  | some s => Ix I (q ^ s)
  | none => ∀ N, ¬ Ix I N
theorem Size.unique (h : Sub I) {q : Nat} (hq : 2 ≤ q) : ∀ {a b : Option Nat}, Size q I a → Size q I b → a = b
  | some s, some t, x, y => by
    have e := Ix.unique h x y
    rcases Nat.lt_trichotomy s t with k | k | k
    · have := Nat.pow_lt_pow_right (a := q) (by omega) k
      omega
    · rw [k]
    · have := Nat.pow_lt_pow_right (a := q) (by omega) k
      omega
  | some s, none, x, y => absurd x (y _)
  | none, some t, x, y => absurd y (x _)
  | none, none, _, _ => rfl
/-- endlessly many unlike ones -/
theorem inf_of (h : Sub I) (v : Nat → S) (hv : ∀ i j, i < j → ¬ I (v i - v j)) (q : Nat) : Size q I none := by
  rintro N ⟨L, rfl, _, c⟩
  have p : ((List.range (L.length + 1)).map v).Pairwise (fun a b => ¬ I (a - b)) := by
    rw [List.pairwise_map]
    exact List.pairwise_lt_range.imp fun h => hv _ _ h
  have := pigeon h L _ p fun m _ => c m
  rw [List.length_map, List.length_range] at this
  omega
theorem one_of (h1 : Sub I) (h : ∀ z, I z) (q : Nat) : Size q I (some 0) := by
  refine ⟨[0], by simp, by simp, fun z => ⟨0, by simp, ?_⟩⟩
  exact h1.sub (h z) (h 0)
theorem one_iff (h1 : Sub I) {q : Nat} (h : Size q I (some 0)) (z : S) : I z := by
  obtain ⟨L, hl, _, c⟩ := h
  rw [Nat.pow_zero] at hl
  match L, hl, c with
  | [l], _, c =>
    obtain ⟨a, ha, x⟩ := c z
    obtain ⟨b, hb, y⟩ := c 0
    rw [List.mem_singleton] at ha hb
    subst ha
    subst hb
    have := h1.alike x y
    have e : z - 0 = z := by grind
    rw [e] at this
    exact this
end ix

/-! ### triangular systems: w at the head, its top at the length of the rest -/
section tri
variable {K : Type} [Lean.Grind.CommRing K] [Fd K]
def Tr : List (Pl (Pl K)) → Prop
  | [] => True
  | w :: l => dlt w (l.length + 1) ∧ Tr l
def Full : List (Pl (Pl K)) → Prop
  | [] => True
  | w :: l => w.co l.length ≠ 0 ∧ Full l
noncomputable def td : List (Pl (Pl K)) → Nat
  | [] => 0
  | w :: l => dg (w.co l.length) + td l
/-- the product of the tops -/
def tp : List (Pl (Pl K)) → Pl K
  | [] => 1
  | w :: l => w.co l.length * tp l
theorem tp_full : ∀ ws : List (Pl (Pl K)), tp ws ≠ 0 ↔ Full ws
  | [] => ⟨fun _ => True.intro, fun _ => Dom.nz⟩
  | w :: l => by
    have ih := tp_full l
    constructor
    · intro h
      refine ⟨fun e => h ?_, ih.mp fun e => h ?_⟩
      · show w.co l.length * tp l = 0
        rw [e]
        grind
      · show w.co l.length * tp l = 0
        rw [e]
        grind
    · exact fun h => mul_ne h.1 (ih.mpr h.2)
theorem tp_dg : ∀ ws : List (Pl (Pl K)), Full ws → dg (tp ws) = td ws
  | [], _ => dg_one
  | w :: l, h => by
    show dg (w.co l.length * tp l) = _
    rw [dg_mul h.1 ((tp_full l).mpr h.2), tp_dg l h.2]
    rfl
theorem Tr.dlt_mem : ∀ {ws : List (Pl (Pl K))}, Tr ws → ∀ a, a ∈ ws → dlt a ws.length
  | w :: l, h, a, ha => by
    rcases List.mem_cons.mp ha with e | e
    · rw [e]
      exact h.1
    · exact (Tr.dlt_mem h.2 a e).mono (by simp)
theorem Tr.sp {ws : List (Pl (Pl K))} (h : Tr ws) {z : Pl (Pl K)} (x : Sp ws z) : dlt z ws.length := Sp.dlt h.dlt_mem x

variable (els : List K)
/-- all polys below a degree -/
def rp : Nat → List (Pl K)
  | 0 => [0]
  | d + 1 => (rp d).flatMap fun r => els.map fun c => r + mo c d
theorem sum_const {α : Type} (n : Nat) : ∀ l : List α, (l.map fun _ => n).sum = l.length * n
  | [] => by simp
  | _ :: l => by
    rw [List.map_cons, List.sum_cons, sum_const n l, List.length_cons, Nat.add_mul]
    omega
theorem rp_length : ∀ d, (rp els d).length = els.length ^ d
  | 0 => rfl
  | d + 1 => by
    show ((rp els d).flatMap fun r => els.map fun c => r + mo c d).length = _
    rw [List.length_flatMap]
    simp only [List.length_map]
    rw [sum_const, rp_length d, Nat.pow_succ]
theorem rp_dlt : ∀ d r, r ∈ rp els d → dlt r d
  | 0, r, h => by
    rw [List.mem_singleton.mp h]
    exact dlt.zero 0
  | d + 1, r, h => by
    obtain ⟨s, hs, h⟩ := List.mem_flatMap.mp h
    obtain ⟨c, _, e⟩ := List.mem_map.mp h
    rw [← e]
    refine ((rp_dlt d s hs).mono (by omega)).add fun i hi => ?_
    rw [co_mo, if_neg (by omega)]
variable (hc : ∀ a : K, a ∈ els) (hn : els.Nodup)
include hc in
theorem rp_all : ∀ d z, dlt z d → z ∈ rp els d
  | 0, z, h => by
    rw [dlt_zero_iff.mp h]
    exact List.mem_singleton.mpr rfl
  | d + 1, z, h => by
    refine List.mem_flatMap.mpr ⟨z - mo (z.co d) d, rp_all d _ fun i hi => ?_, List.mem_map.mpr ⟨z.co d, hc _, by grind⟩⟩
    rw [co_sub, co_mo]
    by_cases e : i = d
    · rw [if_pos e, e]
      grind
    · rw [if_neg e, h i (by omega)]
      grind
include hn in
theorem rp_nodup : ∀ d, (rp els d).Nodup
  | 0 => by
    show [(0 : Pl K)].Nodup
    simp
  | d + 1 => by
    show List.Pairwise _ ((rp els d).flatMap fun r => els.map fun c => r + mo c d)
    rw [List.pairwise_flatMap]
    constructor
    · intro r _
      rw [List.pairwise_map]
      refine hn.imp fun {a b} hab e => hab ?_
      have q : (r + mo a d).co d = (r + mo b d).co d := by rw [e]
      rw [co_add, co_add, co_mo, co_mo, if_pos rfl, if_pos rfl] at q
      grind
    · refine (List.Pairwise.and_mem.mp (rp_nodup d)).imp ?_
      rintro a b ⟨ha, hb, hab⟩ x hx y hy e
      obtain ⟨c, _, ec⟩ := List.mem_map.mp hx
      obtain ⟨c', _, ec'⟩ := List.mem_map.mp hy
      refine hab (ext fun i => ?_)
      by_cases hi : i < d
      · have q : x.co i = y.co i := by rw [e]
        rw [← ec, ← ec', co_add, co_add, co_mo, co_mo, if_neg (by omega), if_neg (by omega)] at q
        grind
      · rw [rp_dlt els d a ha i (by omega), rp_dlt els d b hb i (by omega)]
/-- the representatives of a triangular system -/
noncomputable def rs : List (Pl (Pl K)) → List (Pl (Pl K))
  | [] => [0]
  | w :: l => (rs l).flatMap fun s => (rp els (dg (w.co l.length))).map fun r => s + mo r l.length
theorem rs_length : ∀ ws : List (Pl (Pl K)), (rs els ws).length = els.length ^ td ws
  | [] => rfl
  | w :: l => by
    show ((rs els l).flatMap fun s => (rp els (dg (w.co l.length))).map fun r => s + mo r l.length).length = els.length ^ (dg (w.co l.length) + td l)
    rw [List.length_flatMap]
    simp only [List.length_map]
    rw [sum_const, rs_length l, rp_length, Nat.pow_add, Nat.mul_comm]
theorem rs_dlt : ∀ (ws : List (Pl (Pl K))) s, s ∈ rs els ws → dlt s ws.length
  | [], s, h => by
    rw [List.mem_singleton.mp h]
    exact dlt.zero 0
  | w :: l, s, h => by
    obtain ⟨t, ht, h⟩ := List.mem_flatMap.mp h
    obtain ⟨r, _, e⟩ := List.mem_map.mp h
    rw [← e]
    refine ((rs_dlt l t ht).mono (by simp)).add fun i hi => ?_
    rw [List.length_cons] at hi
    rw [co_mo, if_neg (by omega)]
/-- what lies in the span and is small is nothing -/
theorem sp_small : ∀ (ws : List (Pl (Pl K))), Tr ws → Full ws → ∀ s t, s ∈ rs els ws → t ∈ rs els ws → Sp ws (s - t) → s = t
  | [], _, _, s, t, hs, ht, _ => by rw [List.mem_singleton.mp hs, List.mem_singleton.mp ht]
  | w :: l, hT, hF, s, t, hs, ht, ⟨c, h⟩ => by
    obtain ⟨s', hs', hs⟩ := List.mem_flatMap.mp hs
    obtain ⟨r, hr, es⟩ := List.mem_map.mp hs
    obtain ⟨t', ht', ht⟩ := List.mem_flatMap.mp ht
    obtain ⟨u, hu, et⟩ := List.mem_map.mp ht
    have k := hT.2.sp h l.length (Nat.le_refl _)
    have a := rs_dlt els l s' hs' l.length (Nat.le_refl _)
    have b := rs_dlt els l t' ht' l.length (Nat.le_refl _)
    rw [co_sub, co_sub, ← es, ← et, co_add, co_add, co_mo, co_mo, if_pos rfl, if_pos rfl, a, b, co_Cmul] at k
    have e : r - u = c * w.co l.length := by grind
    have dr := (rp_dlt els _ r hr).sub (rp_dlt els _ u hu)
    have c0 : c = 0 := by
      apply Classical.byContradiction
      intro hc
      have q := IsD.mul (dg_is hc) (dg_is hF.1)
      rw [← e] at q
      have := q.lt_of_dlt dr
      omega
    subst c0
    have eru : r = u := by grind
    subst eru
    have h' : Sp l (s' - t') := by
      have e : s - t - C 0 * w = s' - t' := by
        rw [C_zero, ← es, ← et]
        grind
      rw [e] at h
      exact h
    rw [← es, ← et, sp_small l hT.2 hF.2 s' t' hs' ht' h']
include hn in
theorem rs_nodup : ∀ ws : List (Pl (Pl K)), (rs els ws).Nodup
  | [] => by
    show [(0 : Pl (Pl K))].Nodup
    simp
  | w :: l => by
    show List.Pairwise _ ((rs els l).flatMap fun s => (rp els (dg (w.co l.length))).map fun r => s + mo r l.length)
    rw [List.pairwise_flatMap]
    constructor
    · intro s _
      rw [List.pairwise_map]
      refine (rp_nodup els hn _).imp fun {a b} hab e => hab ?_
      have q : (s + mo a l.length).co l.length = (s + mo b l.length).co l.length := by rw [e]
      rw [co_add, co_add, co_mo, co_mo, if_pos rfl, if_pos rfl] at q
      grind
    · refine (List.Pairwise.and_mem.mp (rs_nodup l)).imp ?_
      rintro a b ⟨ha, hb, hab⟩ x hx y hy e
      obtain ⟨c, _, ec⟩ := List.mem_map.mp hx
      obtain ⟨c', _, ec'⟩ := List.mem_map.mp hy
      refine hab (ext fun i => ?_)
      by_cases hi : i < l.length
      · have q : x.co i = y.co i := by rw [e]
        rw [← ec, ← ec', co_add, co_add, co_mo, co_mo, if_neg (by omega), if_neg (by omega)] at q
        grind
      · rw [rs_dlt els l a ha i (by omega), rs_dlt els l b hb i (by omega)]
include hc in
theorem rs_all : ∀ ws : List (Pl (Pl K)), Tr ws → Full ws → ∀ z, dlt z ws.length → ∃ s, s ∈ rs els ws ∧ Sp ws (z - s)
  | [], _, _, z, h => ⟨0, List.mem_singleton.mpr rfl, by
    show z - 0 = 0
    rw [dlt_zero_iff.mp h]
    grind⟩
  | w :: l, hT, hF, z, h => by
    obtain ⟨q, r, e, hr⟩ := div_fd (w.co l.length) hF.1 (z.co l.length)
    have k : dlt (z - C q * w - mo r l.length) l.length := fun i hi => by
      rw [co_sub, co_sub, co_Cmul, co_mo]
      by_cases x : i = l.length
      · rw [if_pos x, x]
        grind
      · rw [if_neg x, h i (by rw [List.length_cons]; omega), hT.1 i (by omega)]
        grind
    obtain ⟨s, hs, x⟩ := rs_all l hT.2 hF.2 _ k
    refine ⟨s + mo r l.length, List.mem_flatMap.mpr ⟨s, hs, List.mem_map.mpr ⟨r, rp_all els hc _ r hr, rfl⟩⟩, q, ?_⟩
    have e : z - (s + mo r l.length) - C q * w = z - C q * w - mo r l.length - s := by grind
    rw [e]
    exact x
theorem tri_inf : ∀ ws : List (Pl (Pl K)), Tr ws → ¬ Full ws → ∃ k, k < ws.length ∧ ∀ a : Pl K, a ≠ 0 → ¬ Sp ws (mo a k)
  | [], _, h => absurd True.intro h
  | w :: l, hT, h => by
    by_cases x : w.co l.length = 0
    · refine ⟨l.length, by simp, ?_⟩
      rintro a ha ⟨c, q⟩
      have k := hT.2.sp q l.length (Nat.le_refl _)
      rw [co_sub, co_mo, if_pos rfl, co_Cmul, x] at k
      exact ha (by grind)
    · obtain ⟨k, hk, g⟩ := tri_inf l hT.2 fun f => h ⟨x, f⟩
      refine ⟨k, by rw [List.length_cons]; omega, ?_⟩
      rintro a ha ⟨c, q⟩
      have y := hT.2.sp q l.length (Nat.le_refl _)
      rw [co_sub, co_mo, if_neg (by omega), co_Cmul] at y
      have c0 : c = 0 := by
        rcases Dom.nzd c (w.co l.length) (by grind) with e | e
        · exact e
        · exact absurd e x
      subst c0
      refine g a ha ?_
      have e : mo a k - C 0 * w = mo a k := by
        rw [C_zero]
        grind
      rw [e] at q
      exact q
end tri

section fin
variable {K : Type} [Lean.Grind.CommRing K] [Fd K] {els : List K}
open Classical in
/-- the size told by a triangular system -/
theorem tri_size (hc : ∀ a : K, a ∈ els) (hn : els.Nodup) {I : Pl (Pl K) → Prop} (hs : Sub I) {ws : List (Pl (Pl K))} (hT : Tr ws) (hI : ∀ z, dlt z ws.length → (I z ↔ Sp ws z)) (hr : ∀ z, ∃ z', dlt z' ws.length ∧ I (z - z')) :
    Size els.length I (if tp ws = 0 then none else some (dg (tp ws))) := by
  by_cases h : tp ws = 0
  · rw [if_pos h]
    have nf : ¬ Full ws := fun f => (tp_full ws).mpr f h
    obtain ⟨k, hk, g⟩ := tri_inf ws hT nf
    refine inf_of hs (fun i => mo (mo 1 i) k) (fun i j hij q => ?_) _
    have e : mo (mo (1 : K) i) k - mo (mo 1 j) k = mo (mo 1 i - mo 1 j) k := ext fun t => by
      rw [co_sub, co_mo, co_mo, co_mo]
      split
      · rfl
      · grind
    rw [e] at q
    have dl : dlt (mo (mo (1 : K) i - mo 1 j) k) ws.length := fun t ht => by rw [co_mo, if_neg (by omega)]
    refine g _ (fun z => ?_) ((hI _ dl).mp q)
    have y : (mo (1 : K) i - mo 1 j).co i = (0 : Pl K).co i := by rw [z]
    rw [co_sub, co_mo, co_mo, if_pos rfl, if_neg (by omega), co_zero] at y
    exact Fd.nz (A := K) (by grind)
  · rw [if_neg h]
    have hF := (tp_full ws).mp h
    refine ⟨rs els ws, by rw [rs_length, tp_dg ws hF], ?_, fun z => ?_⟩
    · refine (List.Pairwise.and_mem.mp (rs_nodup els hn ws)).imp ?_
      rintro a b ⟨ha, hb, hab⟩ q
      refine hab (sp_small els ws hT hF a b ha hb ((hI _ ?_).mp q))
      exact (rs_dlt els ws a ha).sub (rs_dlt els ws b hb)
    · obtain ⟨z', d, q⟩ := hr z
      obtain ⟨s, hs', x⟩ := rs_all els hc ws hT hF z' d
      refine ⟨s, hs', ?_⟩
      have e : z - s = (z - z') + (z' - s) := by grind
      rw [e]
      exact hs.add _ _ q ((hI _ (d.sub (rs_dlt els ws s hs'))).mpr x)
end fin
end K37
end M3
section M4
set_option autoImplicit false
set_option linter.unusedSectionVars false
/-! Determinants by the last column; row steps; a table made triangular. -/
namespace K37
open Pl

section det
variable {R : Type} [Lean.Grind.CommRing R]
abbrev Vc (R : Type) := Nat → R
def sg : Nat → R
  | 0 => 1
  | n + 1 => - sg n
def ls (d : List (Vc R) → R) (n : Nat) : List (Vc R) → List (Vc R) → R
  | _, [] => 0
  | P, r :: l => sg l.length * r n * d (P ++ l) + ls d n (P ++ [r]) l
def dt : Nat → List (Vc R) → R
  | 0, _ => 1
  | n + 1, l => ls (dt n) n [] l

/-- linear in one place, of lists of n rows -/
def Lin (d : List (Vc R) → R) (n : Nat) : Prop := ∀ (P Q : List (Vc R)) (a b : Vc R) (c : R), P.length + Q.length + 1 = n →
  d (P ++ (fun i => a i + c * b i) :: Q) = d (P ++ a :: Q) + c * d (P ++ b :: Q)
def Alt (d : List (Vc R) → R) (n : Nat) : Prop := ∀ (P Q : List (Vc R)) (a : Vc R), P.length + Q.length + 2 = n → d (P ++ a :: a :: Q) = 0

theorem ls_lin_acc {d : List (Vc R) → R} {n m : Nat} (h : Lin d n) (a b : Vc R) (c : R) : ∀ (l P Q : List (Vc R)), P.length + Q.length + l.length = n →
    ls d m (P ++ (fun i => a i + c * b i) :: Q) l = ls d m (P ++ a :: Q) l + c * ls d m (P ++ b :: Q) l
  | [], _, _, _ => by
    simp only [ls]
    grind
  | r :: l, P, Q, e => by
    have k := ls_lin_acc (m := m) h a b c l P (Q ++ [r]) (by simp only [List.length_append, List.length_cons, List.length_nil] at e ⊢; omega)
    have g := h P (Q ++ l) a b c (by simp only [List.length_append, List.length_cons] at e ⊢; omega)
    simp only [ls, List.append_assoc, List.cons_append] at k g ⊢
    rw [k, g]
    grind
theorem ls_lin {d : List (Vc R) → R} {n : Nat} (h : Lin d n) (a b : Vc R) (c : R) : ∀ (P A Q : List (Vc R)), A.length + P.length + Q.length = n →
    ls d n A (P ++ (fun i => a i + c * b i) :: Q) = ls d n A (P ++ a :: Q) + c * ls d n A (P ++ b :: Q)
  | [], A, Q, e => by
    have k := ls_lin_acc (m := n) h a b c Q A [] (by simpa using e)
    simp only [ls, List.nil_append] at k ⊢
    rw [k]
    grind
  | r :: P, A, Q, e => by
    have k := ls_lin h a b c P (A ++ [r]) Q (by simp only [List.length_append, List.length_cons, List.length_nil] at e ⊢; omega)
    have g := h (A ++ P) Q a b c (by simp only [List.length_append, List.length_cons] at e ⊢; omega)
    have z : ∀ x : Vc R, sg (P ++ x :: Q).length = (sg (P.length + Q.length + 1) : R) := fun x => by rw [List.length_append, List.length_cons, Nat.add_assoc]
    simp only [List.append_assoc] at g
    simp only [List.cons_append, ls, z]
    rw [k, g]
    grind
theorem dt_lin : ∀ n, Lin (dt (R := R) n) n
  | 0 => fun P Q a b c e => absurd e (by omega)
  | n + 1 => fun P Q a b c e => ls_lin (dt_lin n) a b c P [] Q (by simp only [List.length_nil]; omega)
theorem ls_alt_acc {d : List (Vc R) → R} {n m : Nat} (h : Alt d n) (a : Vc R) : ∀ (l P Q : List (Vc R)), P.length + Q.length + l.length + 1 = n → ls d m (P ++ a :: a :: Q) l = 0
  | [], _, _, _ => rfl
  | r :: l, P, Q, e => by
    have k := ls_alt_acc (m := m) h a l P (Q ++ [r]) (by simp only [List.length_append, List.length_cons, List.length_nil] at e ⊢; omega)
    have g := h P (Q ++ l) a (by simp only [List.length_append, List.length_cons] at e ⊢; omega)
    simp only [ls, List.append_assoc, List.cons_append] at k g ⊢
    rw [k, g]
    grind
theorem ls_alt {d : List (Vc R) → R} {n : Nat} (h : Alt d n) (a : Vc R) : ∀ (P A Q : List (Vc R)), A.length + P.length + Q.length + 1 = n → ls d n A (P ++ a :: a :: Q) = 0
  | [], A, Q, e => by
    have k : ls d n (A ++ a :: a :: []) Q = 0 := by
      cases Q with
      | nil => rfl
      | cons r Q =>
        exact ls_alt_acc (m := n) h a (r :: Q) A [] (by simp only [List.length_nil] at e ⊢; omega)
    simp only [ls, List.nil_append, List.length_cons, sg, List.append_assoc, List.cons_append] at k ⊢
    rw [k]
    grind
  | r :: P, A, Q, e => by
    have k := ls_alt h a P (A ++ [r]) Q (by simp only [List.length_append, List.length_cons, List.length_nil] at e ⊢; omega)
    have g := h (A ++ P) Q a (by simp only [List.length_append, List.length_cons] at e ⊢; omega)
    simp only [List.append_assoc] at g
    simp only [List.cons_append, ls]
    rw [k, g]
    grind
theorem dt_alt : ∀ n, Alt (dt (R := R) n) n
  | 0 => fun P Q a e => absurd e (by omega)
  | n + 1 => fun P Q a e => ls_alt (dt_alt n) a P [] Q (by simp only [List.length_nil]; omega)
theorem dt_swap {n : Nat} (P Q : List (Vc R)) (a b : Vc R) (e : P.length + Q.length + 2 = n) : dt n (P ++ a :: b :: Q) = - dt n (P ++ b :: a :: Q) := by
  have l1 := dt_lin n P ((fun i => a i + 1 * b i) :: Q) a b 1 (by simp only [List.length_cons]; omega)
  have l2 := dt_lin n (P ++ [a]) Q a b 1 (by simp only [List.length_append, List.length_cons, List.length_nil]; omega)
  have l3 := dt_lin n (P ++ [b]) Q a b 1 (by simp only [List.length_append, List.length_cons, List.length_nil]; omega)
  have z := dt_alt n P Q (fun i => a i + 1 * b i) e
  have za := dt_alt n P Q a e
  have zb := dt_alt n P Q b e
  simp only [List.append_assoc, List.cons_append, List.nil_append] at l2 l3
  grind
theorem dt_add {n : Nat} (P Q : List (Vc R)) (a b : Vc R) (c : R) (e : P.length + Q.length + 2 = n) : dt n (P ++ (fun i => a i + c * b i) :: b :: Q) = dt n (P ++ a :: b :: Q) := by
  have l1 := dt_lin n P (b :: Q) a b c (by simp only [List.length_cons]; omega)
  have zb := dt_alt n P Q b e
  grind
/-- a first column of nothing -/
theorem ls_zero {d : List (Vc R) → R} {n : Nat} : ∀ (l A : List (Vc R)), (∀ B, B.length + 1 = A.length + l.length → (∀ r, r ∈ B → r ∈ A ∨ r ∈ l) → d B = 0) → ls d n A l = 0
  | [], _, _ => rfl
  | r :: l, A, h => by
    have k := ls_zero (d := d) (n := n) l (A ++ [r]) fun B e m => h B (by simp only [List.length_append, List.length_cons, List.length_nil] at e ⊢; omega) fun x hx => by
      rcases m x hx with q | q
      · rcases List.mem_append.mp q with y | y
        · exact .inl y
        · rw [List.mem_singleton] at y
          rw [y]
          exact .inr (List.mem_cons_self ..)
      · exact .inr (List.mem_cons_of_mem r q)
    have g := h (A ++ l) (by simp only [List.length_append, List.length_cons]; omega) fun x hx => by
      rcases List.mem_append.mp hx with y | y
      · exact .inl y
      · exact .inr (List.mem_cons_of_mem r y)
    simp only [ls]
    rw [k, g]
    grind
theorem dt_zero_col : ∀ (n : Nat) (l : List (Vc R)), l.length = n + 1 → (∀ r, r ∈ l → r 0 = 0) → dt (n + 1) l = 0
  | 0, [r], _, h => by
    simp only [dt, ls, h r (by simp)]
    grind
  | n + 1, l, e, h => by
    refine ls_zero l [] fun B eb m => dt_zero_col n B (by simp only [List.length_nil] at eb; omega) fun r hr => ?_
    rcases m r hr with q | q
    · cases q
    · exact h r q
/-- all rows but the first have nothing in the first column -/
theorem ls_first {n : Nat} (w : Vc R) (ih : ∀ B : List (Vc R), B.length = n → (∀ r, r ∈ B → r 0 = 0) → dt (n + 1) (w :: B) = w 0 * dt n (B.map fun r i => r (i + 1))) :
    ∀ (l A : List (Vc R)), A.length + l.length = n + 1 → (∀ r, r ∈ A → r 0 = 0) → (∀ r, r ∈ l → r 0 = 0) →
      ls (dt (n + 1)) (n + 1) (w :: A) l = w 0 * ls (dt n) n (A.map fun r i => r (i + 1)) (l.map fun r i => r (i + 1))
  | [], _, _, _, _ => by
    simp only [ls, List.map_nil]
    grind
  | r :: l, A, e, hA, hl => by
    have k := ls_first w ih l (A ++ [r]) (by simp only [List.length_append, List.length_cons, List.length_nil] at e ⊢; omega) (fun x hx => by
      rcases List.mem_append.mp hx with y | y
      · exact hA x y
      · rw [List.mem_singleton] at y
        rw [y]
        exact hl r (List.mem_cons_self ..)) fun x hx => hl x (List.mem_cons_of_mem r hx)
    have g := ih (A ++ l) (by simp only [List.length_append, List.length_cons] at e ⊢; omega) fun x hx => by
      rcases List.mem_append.mp hx with y | y
      · exact hA x y
      · exact hl x (List.mem_cons_of_mem r y)
    rw [List.map_append, List.map_cons, List.map_nil] at k
    rw [List.map_append] at g
    simp only [List.map_cons, ls, List.cons_append, List.length_map]
    rw [k, g]
    grind
theorem dt_first : ∀ (n : Nat) (w : Vc R) (B : List (Vc R)), B.length = n → (∀ r, r ∈ B → r 0 = 0) → dt (n + 1) (w :: B) = w 0 * dt n (B.map fun r i => r (i + 1))
  | 0, w, [], _, _ => by
    simp only [dt, ls, List.length_nil, sg]
    grind
  | n + 1, w, B, e, h => by
    have k := ls_first w (dt_first n w) B [] (by simp only [List.length_nil]; omega) (fun r hr => nomatch hr) h
    have z := dt_zero_col n B e h
    show sg B.length * w (n + 1) * dt (n + 1) B + ls (dt (n + 1)) (n + 1) [w] B = w 0 * ls (dt n) n [] (B.map fun r i => r (i + 1))
    rw [z, k]
    grind
/-- the expansion as a sum over the rows -/
theorem ls_sum (d : List (Vc R) → R) (n : Nat) : ∀ (l A : List (Vc R)), ls d n A l = sm l.length (fun s => sg (l.length - 1 - s) * (l.getD s (fun _ => 0)) n * d (A ++ l.eraseIdx s))
  | [], _ => rfl
  | r :: l, A => by
    have k := ls_sum d n l (A ++ [r])
    rw [List.length_cons, sm_head]
    simp only [ls, List.eraseIdx_cons_zero, List.eraseIdx_cons_succ, List.getD_cons_zero, List.getD_cons_succ, Nat.add_sub_cancel, Nat.sub_zero]
    rw [k]
    have e : sm l.length (fun s => sg (l.length - 1 - s) * (l.getD s (fun _ => 0)) n * d (A ++ [r] ++ l.eraseIdx s)) = sm l.length (fun s => sg (l.length - (s + 1)) * (l.getD s (fun _ => 0)) n * d (A ++ r :: l.eraseIdx s)) :=
      sm_congr fun s hs => by rw [show l.length - 1 - s = l.length - (s + 1) by omega, List.append_assoc]; rfl
    rw [e]
theorem dt_sum (n : Nat) (l : List (Vc R)) : dt (n + 1) l = sm l.length (fun s => sg (l.length - 1 - s) * (l.getD s (fun _ => 0)) n * dt n (l.eraseIdx s)) := by
  have k := ls_sum (dt (R := R) n) n l []
  simp only [List.nil_append] at k
  exact k
end det

/-! ### row steps -/
section ops
variable {R : Type} [Lean.Grind.CommRing R]
inductive Op : List (Pl R) → List (Pl R) → Prop
  | refl (l) : Op l l
  | trans {l k m} : Op l k → Op k m → Op l m
  | cons (a) {l k} : Op l k → Op (a :: l) (a :: k)
  | swap (a b l) : Op (a :: b :: l) (b :: a :: l)
  | add (a b c l) : Op (a :: b :: l) ((a + C c * b) :: b :: l)
theorem Op.length {l k : List (Pl R)} (h : Op l k) : k.length = l.length := by
  induction h with
  | refl => rfl
  | trans _ _ a b => omega
  | cons a _ e => rw [List.length_cons, List.length_cons, e]
  | swap => rfl
  | add => rfl
theorem Op.perm {l k : List (Pl R)} (h : l.Perm k) : Op l k := by
  induction h with
  | nil => exact .refl _
  | cons a _ ih => exact .cons a ih
  | swap a b l => exact .swap _ _ _
  | trans _ _ x y => exact .trans x y
theorem Op.span {l k : List (Pl R)} (h : Op l k) : SpEq l k := by
  induction h with
  | refl => exact .refl _
  | trans _ _ a b => exact a.trans b
  | cons a _ e => exact SpEq.append (.refl [a]) e
  | swap a b l => exact .perm fun x => by simp only [List.mem_cons]; grind
  | add a b c l =>
    refine .of (fun x hx => ?_) fun x hx => ?_
    · rcases List.mem_cons.mp hx with e | e
      · have k1 : Sp ((a + C c * b) :: b :: l) (a + C c * b) := Sp.mem (List.mem_cons_self ..)
        have k2 : Sp ((a + C c * b) :: b :: l) b := Sp.mem (List.mem_cons_of_mem _ (List.mem_cons_self ..))
        have k := k1.sub (k2.smul c)
        have e2 : a + C c * b - C c * b = x := by rw [e]; grind
        rw [e2] at k
        exact k
      · exact Sp.mem (List.mem_cons_of_mem _ e)
    · rcases List.mem_cons.mp hx with e | e
      · have k1 : Sp (a :: b :: l) a := Sp.mem (List.mem_cons_self ..)
        have k2 : Sp (a :: b :: l) b := Sp.mem (List.mem_cons_of_mem _ (List.mem_cons_self ..))
        have k := k1.add (k2.smul c)
        rw [← e] at k
        exact k
      · exact Sp.mem (List.mem_cons_of_mem _ e)
/-- the parts of a row from power o downwards -/
def vec (o : Nat) (z : Pl R) : Vc R := fun c => z.co (o - c)
theorem vec_add (o : Nat) (a b : Pl R) (c : R) : vec o (a + C c * b) = fun i => vec o a i + c * vec o b i := funext fun i => by
  show (a + C c * b).co (o - i) = a.co (o - i) + c * b.co (o - i)
  rw [co_add, co_Cmul]
theorem Op.dt {l k : List (Pl R)} (h : Op l k) (o : Nat) : ∀ P : List (Vc R), dt (P.length + l.length) (P ++ l.map (vec o)) = dt (P.length + l.length) (P ++ k.map (vec o)) ∨ dt (P.length + l.length) (P ++ l.map (vec o)) = - dt (P.length + l.length) (P ++ k.map (vec o)) := by
  induction h with
  | refl => exact fun _ => .inl rfl
  | trans x y a b =>
    intro P
    have e := x.length
    have a := a P
    have b := b P
    rw [e] at b
    rcases a with a | a <;> rcases b with b | b
    · exact .inl (by rw [a, b])
    · exact .inr (by rw [a, b])
    · exact .inr (by rw [a, b])
    · exact .inl (by rw [a, b]; grind)
  | @cons a l k _ ih =>
    intro P
    have ih := ih (P ++ [vec o a])
    simp only [List.length_append, List.length_cons, List.length_nil, List.append_assoc, List.cons_append, List.nil_append] at ih
    simp only [List.length_cons, List.map_cons]
    rw [show P.length + (l.length + 1) = P.length + (0 + 1) + l.length by omega]
    exact ih
  | swap a b l =>
    intro P
    refine .inr (dt_swap P (l.map (vec o)) (vec o a) (vec o b) ?_)
    simp only [List.length_map, List.length_cons]
    omega
  | add a b c l =>
    intro P
    refine .inl ?_
    simp only [List.map_cons, vec_add]
    refine (dt_add P (l.map (vec o)) (vec o a) (vec o b) c ?_).symm
    simp only [List.length_map, List.length_cons]
    omega
end ops

section elim
variable {K : Type} [Lean.Grind.CommRing K] [Fd K]
theorem le_sum_mem : ∀ {l : List Nat} {a : Nat}, a ∈ l → a ≤ l.sum
  | b :: l, a, h => by
    rw [List.sum_cons]
    rcases List.mem_cons.mp h with e | e
    · omega
    · have := le_sum_mem e
      omega
open Classical in
noncomputable def nu (k : Nat) (a : Pl (Pl K)) : Nat := if a.co k = 0 then 0 else dg (a.co k) + 1
noncomputable def nus (k : Nat) (l : List (Pl (Pl K))) : Nat := (l.map (nu k)).sum
theorem nus_perm {k : Nat} {l m : List (Pl (Pl K))} (h : l.Perm m) : nus k l = nus k m := (h.map (nu k)).sum_nat
open Classical in
/-- Euclid's steps with rows, for one power -/
theorem elim_at (k : Nat) : ∀ (n : Nat) (l : List (Pl (Pl K))), nus k l ≤ n → l ≠ [] → (∀ a, a ∈ l → dlt a (k + 1)) → ∃ w l', Op l (w :: l') ∧ dlt w (k + 1) ∧ ∀ a, a ∈ l' → dlt a k := by
  intro n
  induction n with
  | zero =>
    intro l hn hne hd
    match l, hne with
    | w :: l', _ =>
      refine ⟨w, l', .refl _, hd w (List.mem_cons_self ..), fun a ha i hi => ?_⟩
      by_cases e : i = k
      · rw [e]
        apply Classical.byContradiction
        intro x
        have y : nu k a ≤ nus k (w :: l') := by
          have := le_sum_mem (l := (w :: l').map (nu k)) (a := nu k a) (List.mem_map.mpr ⟨a, List.mem_cons_of_mem w ha, rfl⟩)
          exact this
        rw [nu, if_neg x] at y
        omega
      · exact hd a (List.mem_cons_of_mem w ha) i (by omega)
  | succ n ih =>
    intro l hn hne hd
    have p := List.filter_append_perm (fun a : Pl (Pl K) => decide (a.co k ≠ 0)) l
    have hZ : ∀ a, a ∈ l.filter (fun x => !(decide (x.co k ≠ 0))) → dlt a k := fun a ha i hi => by
      have q := List.mem_filter.mp ha
      by_cases e : i = k
      · have := q.2
        simp at this
        rw [e, this]
      · exact hd a q.1 i (by omega)
    have hB : ∀ a, a ∈ l.filter (fun x => decide (x.co k ≠ 0)) → a.co k ≠ 0 ∧ a ∈ l := fun a ha => by
      have q := List.mem_filter.mp ha
      exact ⟨by simpa using q.2, q.1⟩
    generalize hb : l.filter (fun x => decide (x.co k ≠ 0)) = B at p hB
    generalize hz : l.filter (fun x => !(decide (x.co k ≠ 0))) = Z at p hZ
    match B, p, hB with
    | [], p, hB =>
      match Z, p, hZ with
      | [], p, _ => exact absurd p.symm.eq_nil hne
      | w :: Z, p, hZ => exact ⟨w, Z, .perm p.symm, (hZ w (List.mem_cons_self ..)).mono (by omega), fun a ha => hZ a (List.mem_cons_of_mem w ha)⟩
    | [w], p, hB => exact ⟨w, Z, .perm p.symm, hd w (hB w (List.mem_cons_self ..)).2, hZ⟩
    | a :: b :: B, p, hB =>
      have main : ∀ a b : Pl (Pl K), l.Perm (a :: b :: (B ++ Z)) → a.co k ≠ 0 → b.co k ≠ 0 → dg (b.co k) ≤ dg (a.co k) → ∃ w l', Op l (w :: l') ∧ dlt w (k + 1) ∧ ∀ a, a ∈ l' → dlt a k := by
        intro a b p ha hb hab
        obtain ⟨q, r, e, hr⟩ := div_fd (b.co k) hb (a.co k)
        have da := hd a (p.mem_iff.mpr (List.mem_cons_self ..))
        have db := hd b (p.mem_iff.mpr (List.mem_cons_of_mem _ (List.mem_cons_self ..)))
        have er : (a + C (-q) * b).co k = r := by
          rw [co_add, co_Cmul, e]
          grind
        have lower : nu k (a + C (-q) * b) < nu k a := by
          rw [nu, nu, er, if_neg ha]
          by_cases x : r = 0
          · rw [if_pos x]
            omega
          · rw [if_neg x]
            have := (dg_is x).lt_of_dlt hr
            omega
        have step := nus_perm (k := k) p
        obtain ⟨w, l', o, dw, dl⟩ := ih ((a + C (-q) * b) :: b :: (B ++ Z)) (by
          simp only [nus, List.map_cons, List.sum_cons] at step hn ⊢
          omega) (by simp) (fun x hx => by
          rcases List.mem_cons.mp hx with e | e
          · rw [e]
            exact da.add (db.Cmul _)
          · exact hd x (p.mem_iff.mpr (List.mem_cons_of_mem a e)))
        exact ⟨w, l', .trans (.perm p) (.trans (.add a b (-q) _) o), dw, dl⟩
      have ha := hB a (List.mem_cons_self ..)
      have hb' := hB b (List.mem_cons_of_mem _ (List.mem_cons_self ..))
      by_cases x : dg (b.co k) ≤ dg (a.co k)
      · exact main a b p.symm ha.1 hb'.1 x
      · exact main b a (p.symm.trans (.swap ..)) hb'.1 ha.1 (by omega)
/-- a table made triangular -/
theorem triang : ∀ (N : Nat) (l : List (Pl (Pl K))), l.length = N → (∀ a, a ∈ l → dlt a N) → ∃ ws, Tr ws ∧ ws.length = N ∧ Op l ws
  | 0, [], _, _ => ⟨[], True.intro, rfl, .refl _⟩
  | N + 1, l, e, h => by
    obtain ⟨w, l', o, dw, dl⟩ := elim_at N _ l (Nat.le_refl _) (by intro z; rw [z] at e; simp at e) h
    have el := o.length
    obtain ⟨ws, t, en, o'⟩ := triang N l' (by rw [List.length_cons] at el; omega) dl
    exact ⟨w :: ws, ⟨by rw [en]; exact dw, t⟩, by rw [List.length_cons, en], o.trans (.cons w o')⟩
theorem dt_tri : ∀ (ws : List (Pl (Pl K))), Tr ws → dt ws.length (ws.map (vec (ws.length - 1))) = tp ws
  | [], _ => rfl
  | w :: l, h => by
    have z : ∀ r, r ∈ l.map (vec l.length) → r 0 = 0 := fun r hr => by
      obtain ⟨a, ha, e⟩ := List.mem_map.mp hr
      rw [← e]
      show a.co (l.length - 0) = 0
      exact h.2.dlt_mem a ha _ (by omega)
    have k := dt_first l.length (vec l.length w) (l.map (vec l.length)) (by rw [List.length_map]) z
    have g := dt_tri l h.2
    have e : (l.map (vec l.length)).map (fun r i => r (i + 1)) = l.map (vec (l.length - 1)) := by
      rw [List.map_map]
      refine List.map_congr_left fun a _ => funext fun i => ?_
      show a.co (l.length - (i + 1)) = a.co (l.length - 1 - i)
      rw [show l.length - (i + 1) = l.length - 1 - i by omega]
    rw [e, g] at k
    rw [List.length_cons, Nat.add_sub_cancel, List.map_cons, k]
    rfl
/-- a square table: its span is that of a triangular one whose tops multiply to its determinant, but for the sign -/
theorem det_tri (N : Nat) (l : List (Pl (Pl K))) (e : l.length = N) (h : ∀ a, a ∈ l → dlt a N) : ∃ ws, Tr ws ∧ ws.length = N ∧ SpEq l ws ∧ (tp ws = dt N (l.map (vec (N - 1))) ∨ tp ws = - dt N (l.map (vec (N - 1)))) := by
  obtain ⟨ws, t, en, o⟩ := triang N l e h
  refine ⟨ws, t, en, o.span, ?_⟩
  have k := o.dt (N - 1) []
  have g := dt_tri ws t
  rw [en] at g
  simp only [List.length_nil, List.nil_append, Nat.zero_add] at k
  rw [e, g] at k
  rcases k with k | k
  · exact .inl k.symm
  · exact .inr (by rw [k]; grind)
end elim
end K37
end M4
section M5
set_option autoImplicit false
set_option linter.unusedSectionVars false
/-! Sums of multiples of two polys; the size told by the resultant; Bareiss' steps up to four rows. -/
namespace K37
open Pl

section ideal
variable {R : Type} [Lean.Grind.CommRing R]
def Id (f g z : Pl R) : Prop := ∃ u v, z = u * f + v * g
theorem Id.isSub (f g : Pl R) : Sub (Id f g) where
  zero := ⟨0, 0, by grind⟩
  add a b := fun ⟨u, v, e⟩ ⟨u', v', e'⟩ => ⟨u + u', v + v', by grind⟩
  neg a := fun ⟨u, v, e⟩ => ⟨-u, -v, by grind⟩
theorem Id.mul {f g z : Pl R} (h : Id f g z) (w : Pl R) : Id f g (w * z) := by
  obtain ⟨u, v, e⟩ := h
  exact ⟨w * u, w * v, by grind⟩
theorem Id.left (f g : Pl R) : Id f g f := ⟨1, 0, by grind⟩
theorem Id.right (f g : Pl R) : Id f g g := ⟨0, 1, by grind⟩
theorem Id.comm {f g z : Pl R} (h : Id f g z) : Id g f z := by
  obtain ⟨u, v, e⟩ := h
  exact ⟨v, u, by grind⟩
theorem Id.unit {f g f' g' z : Pl R} {a b : Pl R} (hf : f' = a * f) (hg : g' = b * g) (h : Id f' g' z) : Id f g z := by
  obtain ⟨u, v, e⟩ := h
  exact ⟨u * a, v * b, by grind⟩
theorem Id.span {f g : Pl R} {l : List (Pl R)} (h : ∀ a, a ∈ l → Id f g a) {z : Pl R} (k : Sp l z) : Id f g z := by
  induction l generalizing z with
  | nil =>
    have k : z = 0 := k
    rw [k]
    exact (Id.isSub f g).zero
  | cons a l ih =>
    obtain ⟨c, q⟩ := k
    have x := ih (fun b hb => h b (List.mem_cons_of_mem a hb)) q
    have y := (h a (List.mem_cons_self ..)).mul (C c)
    have e : z = (z - C c * a) + C c * a := by grind
    rw [e]
    exact (Id.isSub f g).add _ _ x y
theorem mo_C (c : R) (k : Nat) : mo c k = C c * mo 1 k := ext fun i => by
  rw [co_Cmul, co_mo, co_mo]
  split <;> grind
theorem comb {l : List (Pl R)} {f g : Pl R} : ∀ (m : Nat), (∀ k, k < m → ∃ q, Sp l (mo 1 k * g - q * f)) → ∀ v, dlt v m → ∃ q, Sp l (v * g - q * f)
  | 0, _, v, hv => ⟨0, by
    rw [dlt_zero_iff.mp hv]
    have e : (0 : Pl R) * g - 0 * f = 0 := by grind
    rw [e]
    exact Sp.zero l⟩
  | m + 1, h, v, hv => by
    obtain ⟨q1, s1⟩ := comb m (fun k hk => h k (by omega)) (v - mo (v.co m) m) fun i hi => by
      rw [co_sub, co_mo]
      by_cases e : i = m
      · rw [if_pos e, e]
        grind
      · rw [if_neg e, hv i (by omega)]
        grind
    obtain ⟨q2, s2⟩ := h m (by omega)
    refine ⟨q1 + C (v.co m) * q2, ?_⟩
    have e : v * g - (q1 + C (v.co m) * q2) * f = ((v - mo (v.co m) m) * g - q1 * f) + C (v.co m) * (mo 1 m * g - q2 * f) := by
      rw [mo_C (v.co m) m]
      grind
    rw [e]
    exact s1.add (s2.smul _)
theorem comb0 {l : List (Pl R)} {g : Pl R} (m : Nat) (h : ∀ k, k < m → Sp l (mo 1 k * g)) (v : Pl R) (hv : dlt v m) : Sp l (v * g) := by
  obtain ⟨q, s⟩ := comb (f := 0) m (fun k hk => ⟨0, by
    have e : mo 1 k * g - 0 * 0 = mo 1 k * g := by grind
    rw [e]
    exact h k hk⟩) v hv
  have e : v * g - q * 0 = v * g := by grind
  rw [e] at s
  exact s
variable {f g : Pl R} {m : Nat} {v : R}
/-- rests by f: the span of the rests of y^k g is the whole, below the height of f -/
theorem rest_rows (hf : dlt f (m + 1)) (hu : f.co m * v = 1) {l : List (Pl R)} (h1 : ∀ k, k < m → ∃ q, Sp l (mo 1 k * g - q * f)) (h2 : ∀ a, a ∈ l → Id f g a) (h3 : ∀ a, a ∈ l → dlt a m) (z : Pl R) (hz : dlt z m) : Id f g z ↔ Sp l z := by
  refine ⟨?_, Id.span h2⟩
  rintro ⟨u, w, e⟩
  obtain ⟨q, w', ew, hw⟩ := div_ex f m v hf hu w
  obtain ⟨q', s⟩ := comb m h1 w' hw
  have ds := s.dlt h3
  have k : z - (w' * g - q' * f) = (u + q * g + q') * f := by grind
  have d : dlt ((u + q * g + q') * f) (0 + m) := by
    rw [← k, Nat.zero_add]
    exact hz.sub ds
  have t := dlt_zero_iff.mp (top_zero hf hu d)
  have e2 : z = w' * g - q' * f := by
    rw [t] at k
    grind
  rw [e2]
  exact s
theorem red_rows (hf : dlt f (m + 1)) (hu : f.co m * v = 1) (g z : Pl R) : ∃ z', dlt z' m ∧ Id f g (z - z') := by
  obtain ⟨q, r, e, hr⟩ := div_ex f m v hf hu z
  exact ⟨r, hr, q, 0, by grind⟩
/-- Sylvester's rows -/
theorem syl_rows {n : Nat} (hf : dlt f (m + 1)) (hu : f.co m * v = 1) (hg : dlt g (n + 1)) {l : List (Pl R)} (h1 : ∀ k, k < n → Sp l (mo 1 k * f)) (h1' : ∀ k, k < m → Sp l (mo 1 k * g)) (h2 : ∀ a, a ∈ l → Id f g a) (z : Pl R) (hz : dlt z (m + n)) : Id f g z ↔ Sp l z := by
  refine ⟨?_, Id.span h2⟩
  rintro ⟨u, w, e⟩
  obtain ⟨q, w', ew, hw⟩ := div_ex f m v hf hu w
  have k : z - w' * g = (u + q * g) * f := by grind
  have d : dlt ((u + q * g) * f) (n + m) := by
    rw [← k, Nat.add_comm n m]
    refine hz.sub ((hw.mul hg).mono (by omega))
  have t := top_zero hf hu d
  have s := (comb0 n h1 _ t).add (comb0 m h1' w' hw)
  have e2 : z = (u + q * g) * f + w' * g := by grind
  rw [e2]
  exact s
end ideal

section res
variable {K : Type} [Lean.Grind.CommRing K] [Fd K]
theorem dg_neg (a : Pl K) : dg (-a) = dg a := by
  by_cases h : a = 0
  · have e : -a = a := by rw [h]; grind
    rw [e]
  · have k := dg_is h
    exact IsD.dg ⟨by rw [co_neg]; exact fun e => k.1 (by grind), fun i hi => by rw [co_neg, k.2 i hi]; grind⟩
/-- Sylvester's table, from the highest power downwards -/
def syl (m n : Nat) (f g : Pl (Pl K)) : List (Pl (Pl K)) := (List.range n).map (fun i => mo 1 (n - 1 - i) * f) ++ (List.range m).map (fun i => mo 1 (m - 1 - i) * g)
theorem syl_length (m n : Nat) (f g : Pl (Pl K)) : (syl m n f g).length = m + n := by
  simp only [syl, List.length_append, List.length_map, List.length_range]
  omega
theorem syl_dlt {m n : Nat} {f g : Pl (Pl K)} (hf : dlt f (m + 1)) (hg : dlt g (n + 1)) : ∀ a, a ∈ syl m n f g → dlt a (m + n) := by
  intro a ha
  rcases List.mem_append.mp ha with h | h
  · obtain ⟨i, hi, e⟩ := List.mem_map.mp h
    rw [List.mem_range] at hi
    rw [← e]
    intro t ht
    rw [co_mo_mul]
    split
    · rfl
    · rw [hf _ (by omega)]
      grind
  · obtain ⟨i, hi, e⟩ := List.mem_map.mp h
    rw [List.mem_range] at hi
    rw [← e]
    intro t ht
    rw [co_mo_mul]
    split
    · rfl
    · rw [hg _ (by omega)]
      grind
open Classical in
/-- the size of two polys, the first one plain, is the degree of their resultant -/
theorem res_size {els : List K} (hc : ∀ a : K, a ∈ els) (hn : els.Nodup) {m n : Nat} {f g : Pl (Pl K)} {v : Pl K} (hf : dlt f (m + 1)) (hu : f.co m * v = 1) (hg : dlt g (n + 1)) {r : Pl K} (hr : r = dt (m + n) ((syl m n f g).map (vec (m + n - 1)))) :
    Size els.length (Id f g) (if r = 0 then none else some (dg r)) := by
  obtain ⟨ws, t, en, sp, s⟩ := det_tri (m + n) (syl m n f g) (syl_length m n f g) (syl_dlt hf hg)
  have key := tri_size hc hn (Id.isSub f g) t (by
    rw [en]
    intro z hz
    rw [← sp z]
    refine syl_rows hf hu hg (fun k hk => Sp.mem ?_) (fun k hk => Sp.mem ?_) (fun a ha => ?_) z hz
    · exact List.mem_append_left _ (List.mem_map.mpr ⟨n - 1 - k, by rw [List.mem_range]; omega, by rw [show n - 1 - (n - 1 - k) = k by omega]⟩)
    · exact List.mem_append_right _ (List.mem_map.mpr ⟨m - 1 - k, by rw [List.mem_range]; omega, by rw [show m - 1 - (m - 1 - k) = k by omega]⟩)
    · rcases List.mem_append.mp ha with h | h
      · obtain ⟨i, _, e⟩ := List.mem_map.mp h
        rw [← e]
        exact (Id.left f g).mul _
      · obtain ⟨i, _, e⟩ := List.mem_map.mp h
        rw [← e]
        exact (Id.right f g).mul _) (by
    intro z
    obtain ⟨z', h, q⟩ := red_rows hf hu g z
    exact ⟨z', by rw [en]; exact h.mono (by omega), q⟩)
  rw [← hr] at s
  rcases s with s | s
  · rw [s] at key
    exact key
  · rw [s] at key
    by_cases h : r = 0
    · have e : -r = 0 := by rw [h]; grind
      rw [if_pos e] at key
      rw [if_pos h]
      exact key
    · have e : ¬ -r = 0 := fun e => h (by grind)
      rw [if_neg e, dg_neg] at key
      rw [if_neg h]
      exact key
end res

/-! ### Bareiss -/
section bareiss
variable {R : Type} [Lean.Grind.CommRing R]
/-- the minor of the first s rows and row i, the first s columns and column j -/
def mnr (s : Nat) (A : Nat → Nat → R) (i j : Nat) : R := dt (s + 1) ((List.range s ++ [i]).map fun r c => if c < s then A r c else A r j)
def bf : Nat → (Nat → Nat → R) → R
  | 0, _ => 1
  | s + 1, A => mnr s A s s
theorem mnr0 (A : Nat → Nat → R) (i j : Nat) : mnr 0 A i j = A i j := by
  show sg 0 * A i j * 1 + 0 = A i j
  simp only [sg]
  grind
theorem mnr1 (A : Nat → Nat → R) (i j : Nat) : mnr 1 A i j = A 0 0 * A i j - A i 0 * A 0 j := by
  simp [mnr, dt, ls, sg, List.range_succ]
  grind
theorem mnr2 (A : Nat → Nat → R) (i j : Nat) : mnr 2 A i j = (A 0 0 * A 1 1 - A 1 0 * A 0 1) * A i j - (A 0 0 * A i 1 - A i 0 * A 0 1) * A 1 j + (A 1 0 * A i 1 - A i 0 * A 1 1) * A 0 j := by
  simp [mnr, dt, ls, sg, List.range_succ]
  grind
theorem mnr3 (A : Nat → Nat → R) (i j : Nat) : mnr 3 A i j = mnr 2 A 2 2 * A i j - mnr 2 A i 2 * A 2 j
    + ((A 0 0 * A 2 1 - A 2 0 * A 0 1) * A i 2 - (A 0 0 * A i 1 - A i 0 * A 0 1) * A 2 2 + (A 2 0 * A i 1 - A i 0 * A 2 1) * A 0 2) * A 1 j
    - ((A 1 0 * A 2 1 - A 2 0 * A 1 1) * A i 2 - (A 1 0 * A i 1 - A i 0 * A 1 1) * A 2 2 + (A 2 0 * A i 1 - A i 0 * A 2 1) * A 1 2) * A 0 j := by
  rw [mnr2, mnr2]
  simp [mnr, dt, ls, sg, List.range_succ]
  grind
theorem step0 (A : Nat → Nat → R) (i j : Nat) : mnr 1 A i j * bf 0 A = mnr 0 A i j * mnr 0 A 0 0 - mnr 0 A i 0 * mnr 0 A 0 j := by
  rw [mnr1, mnr0, mnr0, mnr0, mnr0]
  simp only [bf]
  grind
theorem step1 (A : Nat → Nat → R) (i j : Nat) : mnr 2 A i j * bf 1 A = mnr 1 A i j * mnr 1 A 1 1 - mnr 1 A i 1 * mnr 1 A 1 j := by
  simp only [bf, mnr0, mnr1, mnr2]
  grind
theorem step2 (A : Nat → Nat → R) (i j : Nat) : mnr 3 A i j * bf 2 A = mnr 2 A i j * mnr 2 A 2 2 - mnr 2 A i 2 * mnr 2 A 2 j := by
  simp only [bf, mnr3, mnr2, mnr1]
  grind
end bareiss
end K37
end M5
section M6
set_option autoImplicit false
set_option linter.unusedSectionVars false
/-! Bareiss' steps, put together. -/
namespace K37
open Pl
section bareiss
variable {R : Type} [Lean.Grind.CommRing R]
theorem bstep {s : Nat} (hs : s ≤ 2) (A : Nat → Nat → R) (i j : Nat) : mnr (s + 1) A i j * bf s A = mnr s A i j * mnr s A s s - mnr s A i s * mnr s A s j := by
  match s, hs with
  | 0, _ => exact step0 A i j
  | 1, _ => exact step1 A i j
  | 2, _ => exact step2 A i j
/-- the determinant of the first n rows and columns -/
def dn (n : Nat) (A : Nat → Nat → R) : R := dt n ((List.range n).map A)
theorem getD_erase (l : List (Vc R)) (s t : Nat) : (l.eraseIdx s).getD t (fun _ => 0) = if t < s then l.getD t (fun _ => 0) else l.getD (t + 1) (fun _ => 0) := by
  rw [List.getD_eq_getElem?_getD, List.getElem?_eraseIdx]
  split
  · rw [List.getD_eq_getElem?_getD]
  · rw [List.getD_eq_getElem?_getD]
/-- entries beyond the table are not asked -/
theorem dt_congr : ∀ (n : Nat) (l l' : List (Vc R)), l.length = n → l.length = l'.length → (∀ t c, c < n → (l.getD t (fun _ => 0)) c = (l'.getD t (fun _ => 0)) c) → dt n l = dt n l'
  | 0, _, _, _, _, _ => rfl
  | n + 1, l, l', e, p, q => by
    rw [dt_sum, dt_sum, ← p]
    refine sm_congr fun s hs => ?_
    rw [q s n (by omega), dt_congr n (l.eraseIdx s) (l'.eraseIdx s) (by rw [List.length_eraseIdx_of_lt hs]; omega) ?_ fun t c hc => ?_]
    · rw [List.length_eraseIdx_of_lt hs, List.length_eraseIdx_of_lt (by rw [← p]; exact hs), p]
    · rw [getD_erase, getD_erase]
      split
      · exact q _ _ (by omega)
      · exact q _ _ (by omega)
theorem getD_range_map (f : Nat → Vc R) (n t : Nat) : ((List.range n).map f).getD t (fun _ => 0) = if t < n then f t else fun _ => 0 := by
  rw [List.getD_eq_getElem?_getD, List.getElem?_map]
  by_cases h : t < n
  · rw [List.getElem?_range h, if_pos h]
    rfl
  · rw [List.getElem?_eq_none (by rw [List.length_range]; omega), if_neg h]
    rfl
theorem dn_mnr (n : Nat) (A : Nat → Nat → R) : mnr n A n n = dn (n + 1) A := by
  unfold mnr dn
  rw [List.range_succ]
  refine dt_congr _ _ _ (by simp) (by simp) fun t c hc => ?_
  rw [← List.range_succ, getD_range_map, getD_range_map]
  split
  · show (if c < n then A t c else A t n) = A t c
    split
    · rfl
    · rw [show c = n by omega]
  · rfl
/-- two rows exchanged -/
def swp (s t : Nat) (A : Nat → Nat → R) : Nat → Nat → R := fun r => if r = s then A t else if r = t then A s else A r
theorem swp_low {s t r : Nat} (A : Nat → Nat → R) (h : r < s) (k : s < t) : swp s t A r = A r := by
  unfold swp
  rw [if_neg (by omega), if_neg (by omega)]
theorem mnr_swp {s t : Nat} (A : Nat → Nat → R) (k : s < t) (i j : Nat) : mnr s (swp s t A) i j = mnr s A (if i = s then t else if i = t then s else i) j := by
  unfold mnr
  congr 1
  rw [List.map_append, List.map_append]
  congr 1
  · refine List.map_congr_left fun r hr => ?_
    rw [List.mem_range] at hr
    rw [swp_low A hr k]
  · simp only [List.map_cons, List.map_nil]
    congr 1
    funext c
    have e : swp s t A i = A (if i = s then t else if i = t then s else i) := by
      unfold swp
      split
      · rfl
      · split <;> rfl
    rw [e]
theorem bf_swp {s t : Nat} (A : Nat → Nat → R) (k : s < t) : bf s (swp s t A) = bf s A := by
  cases s with
  | zero => rfl
  | succ s =>
    show mnr s (swp (s + 1) t A) s s = mnr s A s s
    unfold mnr
    congr 1
    refine List.map_congr_left fun r hr => ?_
    have e : r < s + 1 := by
      rcases List.mem_append.mp hr with h | h
      · rw [List.mem_range] at h
        omega
      · rw [List.mem_singleton] at h
        omega
    rw [swp_low A e k]
theorem dn_swp {n s t : Nat} (hn : n ≤ 4) (k : s < t) (ht : t < n) (A : Nat → Nat → R) : dn n (swp s t A) = - dn n A := by
  have c : (n = 2 ∧ s = 0 ∧ t = 1) ∨ (n = 3 ∧ s = 0 ∧ t = 1) ∨ (n = 3 ∧ s = 0 ∧ t = 2) ∨ (n = 3 ∧ s = 1 ∧ t = 2) ∨ (n = 4 ∧ s = 0 ∧ t = 1) ∨ (n = 4 ∧ s = 0 ∧ t = 2) ∨ (n = 4 ∧ s = 0 ∧ t = 3) ∨ (n = 4 ∧ s = 1 ∧ t = 2) ∨ (n = 4 ∧ s = 1 ∧ t = 3) ∨ (n = 4 ∧ s = 2 ∧ t = 3) := by omega
  rcases c with ⟨rfl, rfl, rfl⟩ | ⟨rfl, rfl, rfl⟩ | ⟨rfl, rfl, rfl⟩ | ⟨rfl, rfl, rfl⟩ | ⟨rfl, rfl, rfl⟩ | ⟨rfl, rfl, rfl⟩ | ⟨rfl, rfl, rfl⟩ | ⟨rfl, rfl, rfl⟩ | ⟨rfl, rfl, rfl⟩ | ⟨rfl, rfl, rfl⟩ <;>
    (simp [dn, dt, ls, sg, List.range_succ, swp]; grind)
end bareiss
section dom
variable {R : Type} [Lean.Grind.CommRing R] [Dom R]
/-- no pivot -/
theorem dn_zero {n s : Nat} (hn : n ≤ 4) (hs : s + 1 < n) (A : Nat → Nat → R) (hb : bf s A ≠ 0) (h : ∀ i, s ≤ i → i < n → mnr s A i s = 0) : dn n A = 0 := by
  match s, hs, hb, h with
  | 0, hs, _, h =>
    obtain ⟨m, rfl⟩ : ∃ m, n = m + 1 := ⟨n - 1, by omega⟩
    refine dt_zero_col m _ (by simp) fun r hr => ?_
    obtain ⟨i, hi, e⟩ := List.mem_map.mp hr
    rw [List.mem_range] at hi
    have k := h i (Nat.zero_le _) hi
    rw [mnr0] at k
    rw [← e]
    exact k
  | 1, hs, hb, h =>
    have b : bf 1 A = A 0 0 := mnr0 A 0 0
    rw [b] at hb
    by_cases e : n = 3
    · subst e
      have k := step1 A 2 2
      rw [h 1 (by omega) (by omega), h 2 (by omega) (by omega), dn_mnr, b] at k
      rcases Dom.nzd (dn 3 A) (A 0 0) (by grind) with x | x
      · exact x
      · exact absurd x hb
    · obtain rfl : n = 4 := by omega
      have h1 := h 1 (by omega) (by omega)
      have h2 := h 2 (by omega) (by omega)
      have h3 := h 3 (by omega) (by omega)
      have k : (A 0 0 * A 0 0) * mnr 3 A 3 3 = mnr 1 A 1 1 * (mnr 1 A 2 2 * mnr 1 A 3 3 - mnr 1 A 3 2 * mnr 1 A 2 3) - mnr 1 A 2 1 * (mnr 1 A 1 2 * mnr 1 A 3 3 - mnr 1 A 3 2 * mnr 1 A 1 3) + mnr 1 A 3 1 * (mnr 1 A 1 2 * mnr 1 A 2 3 - mnr 1 A 2 2 * mnr 1 A 1 3) := by
        simp only [mnr3, mnr2, mnr1]
        grind
      rw [h1, h2, h3, dn_mnr] at k
      rcases Dom.nzd (A 0 0 * A 0 0) (dn 4 A) (by grind) with x | x
      · exact absurd x (mul_ne hb hb)
      · exact x
  | 2, hs, hb, h =>
    obtain rfl : n = 4 := by omega
    have k := step2 A 3 3
    rw [h 2 (by omega) (by omega), h 3 (by omega) (by omega), dn_mnr] at k
    rcases Dom.nzd (dn 4 A) (bf 2 A) (by grind) with x | x
    · exact x
    · exact absurd x hb
  | s + 3, hs, _, _ => omega
end dom
end K37
end M6
section M7
set_option autoImplicit false
set_option linter.unusedSectionVars false
/-! Other polys put for the letters; turns; x-polys. -/
namespace K37
open Pl

section hom
variable {A B D : Type} [Lean.Grind.CommRing A] [Lean.Grind.CommRing B] [Lean.Grind.CommRing D]
structure Hom (φ : A → B) : Prop where
  add : ∀ a b, φ (a + b) = φ a + φ b
  mul : ∀ a b, φ (a * b) = φ a * φ b
  one : φ 1 = 1
theorem Hom.zero {φ : A → B} (h : Hom φ) : φ 0 = 0 := by
  have k := h.add 0 0
  have e : (0 : A) + 0 = 0 := by grind
  rw [e] at k
  grind
theorem Hom.neg {φ : A → B} (h : Hom φ) (a : A) : φ (-a) = - φ a := by
  have k := h.add (-a) a
  have e : -a + a = 0 := by grind
  rw [e, h.zero] at k
  grind
theorem Hom.sub {φ : A → B} (h : Hom φ) (a b : A) : φ (a - b) = φ a - φ b := by
  have e : a - b = a + -b := by grind
  rw [e, h.add, h.neg]
  grind
theorem Hom.pow {φ : A → B} (h : Hom φ) (a : A) : ∀ n : Nat, φ (a ^ n) = φ a ^ n
  | 0 => by
    rw [Lean.Grind.Semiring.pow_zero, Lean.Grind.Semiring.pow_zero, h.one]
  | n + 1 => by
    rw [Lean.Grind.Semiring.pow_succ, Lean.Grind.Semiring.pow_succ, h.mul, h.pow a n]
theorem Hom.comp {φ : A → B} {ψ : B → D} (h : Hom φ) (k : Hom ψ) : Hom (fun a => ψ (φ a)) where
  add a b := by rw [h.add, k.add]
  mul a b := by rw [h.mul, k.mul]
  one := by rw [h.one, k.one]
theorem Hom.id : Hom (fun a : A => a) := ⟨fun _ _ => rfl, fun _ _ => rfl, rfl⟩
theorem Hom.C : Hom (Pl.C : A → Pl A) := ⟨C_add, C_mul, rfl⟩
theorem ind {P : Pl A → Prop} (h0 : P 0) (hs : ∀ f c n, P f → P (f + mo c n)) (f : Pl A) : P f := by
  have key : ∀ n f, dlt f n → P f := by
    intro n
    induction n with
    | zero =>
      intro f h
      rw [dlt_zero_iff.mp h]
      exact h0
    | succ n ih =>
      intro f h
      have k := hs (f - mo (f.co n) n) (f.co n) n (ih _ fun i hi => by
        rw [co_sub, co_mo]
        by_cases e : i = n
        · rw [if_pos e, e]
          grind
        · rw [if_neg e, h i (by omega)]
          grind)
      have e : f - mo (f.co n) n + mo (f.co n) n = f := by grind
      rw [e] at k
      exact k
  obtain ⟨n, hn⟩ := exists_dlt f
  exact key n f hn
theorem sm_hom {φ : A → B} (h : Hom φ) (f : Nat → A) : ∀ n, φ (sm n f) = sm n (fun i => φ (f i))
  | 0 => h.zero
  | n + 1 => by
    have k := sm_hom h f n
    simp only [sm, h.add, k]
theorem sm_split (f : Nat → A) (k : Nat) : ∀ n, sm (k + n) f = sm k f + sm n (fun i => f (k + i))
  | 0 => by
    simp only [sm, Nat.add_zero]
    grind
  | n + 1 => by
    have h := sm_split f k n
    rw [← Nat.add_assoc]
    simp only [sm, h]
    grind
/-- the worth at b, the parts led by φ -/
noncomputable def ev (φ : A → B) (b : B) (F : Pl A) : B := sm (Classical.choose F.fin) (fun i => φ (F.co i) * b ^ i)
theorem ev_eq {φ : A → B} (h : Hom φ) (b : B) {F : Pl A} {n : Nat} (hn : dlt F n) : ev φ b F = sm n (fun i => φ (F.co i) * b ^ i) := by
  unfold ev
  have k := Classical.choose_spec F.fin
  generalize Classical.choose F.fin = m at k
  have z : ∀ t, (F.co t = 0) → φ (F.co t) * b ^ t = 0 := fun t e => by
    rw [e, h.zero]
    grind
  rcases Nat.le_total m n with q | q
  · exact (sm_more q fun i a _ => z i (k i a)).symm
  · exact sm_more q fun i a _ => z i (hn i a)
theorem ev_add {φ : A → B} (h : Hom φ) (b : B) (F G : Pl A) : ev φ b (F + G) = ev φ b F + ev φ b G := by
  obtain ⟨n, hn⟩ := exists_dlt F
  obtain ⟨m, hm⟩ := exists_dlt G
  have hn' := hn.mono (Nat.le_add_right n m)
  have hm' := hm.mono (Nat.le_add_left m n)
  rw [ev_eq h b (hn'.add hm'), ev_eq h b hn', ev_eq h b hm', ← sm_add]
  refine sm_congr fun i _ => ?_
  rw [co_add, h.add]
  grind
theorem ev_mo_mul {φ : A → B} (h : Hom φ) (b : B) (a : A) (k : Nat) (G : Pl A) : ev φ b (mo a k * G) = φ a * b ^ k * ev φ b G := by
  obtain ⟨n, hn⟩ := exists_dlt G
  have d : dlt (mo a k * G) (k + n) := fun i hi => by
    rw [co_mo_mul]
    split
    · rfl
    · rw [hn _ (by omega)]
      grind
  rw [ev_eq h b d, ev_eq h b hn, sm_split, sm_eq_zero fun i hi => by rw [co_mo_mul, if_pos hi, h.zero]; grind, ← sm_mul]
  have e : ∀ x : B, 0 + x = x := fun x => by grind
  rw [e]
  refine sm_congr fun i _ => ?_
  rw [co_mo_mul, if_neg (by omega), show k + i - k = i by omega, h.mul, Lean.Grind.Semiring.pow_add]
  grind
theorem ev_zero {φ : A → B} (h : Hom φ) (b : B) : ev φ b 0 = 0 := by rw [ev_eq h b (dlt.zero 0)]; rfl
theorem ev_C {φ : A → B} (h : Hom φ) (b : B) (a : A) : ev φ b (C a) = φ a := by
  rw [ev_eq h b (dlt.C a), sm, sm, co_C0, Lean.Grind.Semiring.pow_zero]
  grind
theorem ev_mo {φ : A → B} (h : Hom φ) (b : B) (a : A) (k : Nat) : ev φ b (mo a k) = φ a * b ^ k := by
  have q := ev_mo_mul h b a k (C 1)
  have e : mo a k * C 1 = mo a k := by
    rw [C_one]
    grind
  rw [e, ev_C h, h.one] at q
  rw [q]
  grind
theorem ev_hom {φ : A → B} (h : Hom φ) (b : B) : Hom (ev φ b) where
  add := ev_add h b
  one := (ev_C h b 1).trans h.one
  mul F G := by
    refine ind (P := fun F => ev φ b (F * G) = ev φ b F * ev φ b G) ?_ (fun f c n ih => ?_) F
    · have e : (0 : Pl A) * G = 0 := by grind
      rw [e, ev_zero h]
      grind
    · have e : (f + mo c n) * G = f * G + mo c n * G := by grind
      rw [e, ev_add h, ih, ev_mo_mul h, ev_add h, ev_mo h]
      grind
theorem mo_pow (a : A) : ∀ k, mo a k = C a * mo 1 1 ^ k
  | 0 => by
    rw [Lean.Grind.Semiring.pow_zero, mo_zero]
    grind
  | k + 1 => by
    have h := mo_pow a k
    rw [Lean.Grind.Semiring.pow_succ, ← Lean.Grind.Semiring.mul_assoc, ← h, mo_mul_mo]
    congr 1
    grind
/-- homs that agree on the parts and on the letter -/
theorem hom_ext {φ ψ : Pl A → B} (h : Hom φ) (k : Hom ψ) (hc : ∀ a, φ (C a) = ψ (C a)) (hy : φ (mo 1 1) = ψ (mo 1 1)) (F : Pl A) : φ F = ψ F := by
  refine ind (P := fun F => φ F = ψ F) ?_ (fun f c n ih => ?_) F
  · rw [h.zero, k.zero]
  · rw [h.add, k.add, ih, mo_pow, h.mul, k.mul, h.pow, k.pow, hc, hy]
end hom

section put
variable {K : Type} [Lean.Grind.CommRing K]
abbrev S2 (K : Type) [Lean.Grind.CommRing K] := Pl (Pl K)
def kap (c : K) : S2 K := C (C c)
theorem kap_hom : Hom (kap (K := K)) := Hom.comp (φ := (Pl.C : K → Pl K)) (ψ := (Pl.C : Pl K → S2 K)) Hom.C Hom.C
def Lx : S2 K := C (mo 1 1)
def Ly : S2 K := mo 1 1
noncomputable def putx (a : S2 K) : Pl K → S2 K := ev kap a
/-- a put for x, b for y -/
noncomputable def put (a b : S2 K) : S2 K → S2 K := ev (putx a) b
theorem putx_hom (a : S2 K) : Hom (putx a) := ev_hom kap_hom a
theorem put_hom (a b : S2 K) : Hom (put a b) := ev_hom (putx_hom a) b
theorem put_C (a b : S2 K) (r : Pl K) : put a b (C r) = putx a r := ev_C (putx_hom a) b r
theorem put_kap (a b : S2 K) (c : K) : put a b (kap c) = kap c := (put_C a b (C c)).trans (ev_C kap_hom a c)
theorem put_x (a b : S2 K) : put a b Lx = a := by
  rw [Lx, put_C, putx, ev_mo kap_hom, kap_hom.one]
  have e : a ^ 1 = a := by grind
  rw [e]
  grind
theorem put_y (a b : S2 K) : put a b Ly = b := by
  rw [Ly, put, ev_mo (putx_hom a), (putx_hom a).one]
  have e : b ^ 1 = b := by grind
  rw [e]
  grind
theorem put_ext {φ ψ : S2 K → S2 K} (h : Hom φ) (k : Hom ψ) (hc : ∀ a, φ (kap a) = ψ (kap a)) (hx : φ Lx = ψ Lx) (hy : φ Ly = ψ Ly) (F : S2 K) : φ F = ψ F :=
  hom_ext h k (fun r => hom_ext (Hom.comp Hom.C h) (Hom.comp Hom.C k) hc hx r) hy F
theorem put_put {a b a' b' : S2 K} (hx : put a' b' a = Lx) (hy : put a' b' b = Ly) (F : S2 K) : put a' b' (put a b F) = F :=
  put_ext (Hom.comp (put_hom a b) (put_hom a' b')) Hom.id (fun c => by rw [put_kap, put_kap]) (by rw [put_x, hx]) (by rw [put_y, hy]) F
theorem slide_back (k : Nat) (F : S2 K) : put (Lx - Ly ^ k) Ly (put (Lx + Ly ^ k) Ly F) = F := by
  refine put_put ?_ (put_y _ _) F
  rw [(put_hom _ _).add, (put_hom _ _).pow, put_x, put_y]
  grind
theorem back_slide (k : Nat) (F : S2 K) : put (Lx + Ly ^ k) Ly (put (Lx - Ly ^ k) Ly F) = F := by
  refine put_put ?_ (put_y _ _) F
  rw [(put_hom _ _).sub, (put_hom _ _).pow, put_x, put_y]
  grind
theorem swap_swap (F : S2 K) : put Ly Lx (put Ly Lx F) = F := put_put (put_y _ _) (put_x _ _) F
theorem Lx_pow (n : Nat) : (Lx : S2 K) ^ n = C (mo 1 n) := by
  rw [Lx, ← Hom.pow Hom.C]
  congr 1
  have h := mo_pow (1 : K) n
  rw [h, C_one]
  grind
theorem Ly_pow (n : Nat) : (Ly : S2 K) ^ n = mo 1 n := by
  have h := mo_pow (1 : Pl K) n
  rw [h, C_one, Ly]
  grind
theorem co_kapmul (c : K) (F : S2 K) (i j : Nat) : ((kap c * F).co j).co i = c * (F.co j).co i := by rw [kap, co_Cmul, co_Cmul]
/-- a term put -/
theorem put_term (a b : S2 K) (c : K) (i j : Nat) : put a b (mo (mo c i) j) = kap c * a ^ i * b ^ j := by
  rw [put, ev_mo (putx_hom a), putx, ev_mo kap_hom]
/-- what holds of nothing, of sums and of terms -/
theorem ind2 {P : S2 K → Prop} (h0 : P 0) (ha : ∀ f g, P f → P g → P (f + g)) (ht : ∀ c i j, P (mo (mo c i) j)) (F : S2 K) : P F := by
  refine ind h0 (fun f r n hf => ha _ _ hf ?_) F
  refine ind (P := fun r => P (mo r n)) ?_ (fun r c m hr => ?_) r
  · have e : mo (0 : Pl K) n = 0 := ext fun i => by
      rw [co_mo, co_zero]
      split <;> rfl
    rw [e]
    exact h0
  · have e : mo (r + mo c m) n = mo r n + mo (mo c m) n := ext fun i => by
      rw [co_add, co_mo, co_mo, co_mo]
      split
      · rfl
      · grind
    rw [e]
    exact ha _ _ hr (ht c m n)
theorem swap_co (F : S2 K) (i j : Nat) : ((put Ly Lx F).co j).co i = (F.co i).co j := by
  refine ind2 (P := fun F => ∀ i j, ((put Ly Lx F).co j).co i = (F.co i).co j) (fun i j => ?_) (fun f g hf hg i j => ?_) (fun c a b i j => ?_) F i j
  · rw [(put_hom _ _).zero, co_zero, co_zero, co_zero, co_zero]
  · rw [(put_hom _ _).add, co_add, co_add, co_add, co_add, hf, hg]
  · rw [put_term, Ly_pow, Lx_pow]
    have e : kap c * mo 1 a * C (mo 1 b) = mo (mo c b) a := by
      have e1 : (kap c * mo 1 a * C (mo 1 b) : S2 K) = C (C c * mo 1 b) * mo 1 a := by
        rw [C_mul, kap]
        grind
      rw [e1, ← mo_C, ← mo_C]
    rw [e, co_mo, co_mo]
    by_cases x : j = a
    · rw [if_pos x, co_mo]
      by_cases y : i = b
      · rw [if_pos y, if_pos y, co_mo, if_pos x]
      · rw [if_neg y, if_neg y, co_zero]
    · rw [if_neg x, co_zero]
      split
      · rw [co_mo, if_neg x]
      · rw [co_zero]
/-- nothing put for x -/
theorem zerox_co (F : S2 K) (j : Nat) : (put 0 Ly F).co j = C ((F.co j).co 0) := by
  refine ind2 (P := fun F => ∀ j, (put 0 Ly F).co j = C ((F.co j).co 0)) (fun j => ?_) (fun f g hf hg j => ?_) (fun c a b j => ?_) F j
  · rw [(put_hom _ _).zero, co_zero]
    rfl
  · rw [(put_hom _ _).add, co_add, co_add, co_add, C_add, hf, hg]
  · rw [put_term, Ly_pow]
    cases a with
    | zero =>
      rw [Lean.Grind.Semiring.pow_zero]
      have e : kap c * 1 * mo 1 b = mo (C c) b := by
        rw [mo_C (C c) b, kap]
        grind
      rw [e, co_mo, co_mo]
      split
      · rw [co_mo, if_pos rfl]
      · rw [co_zero]
        rfl
    | succ a =>
      have e : kap c * (0 : S2 K) ^ (a + 1) * mo 1 b = 0 := by
        rw [Lean.Grind.Semiring.pow_succ]
        grind
      rw [e, co_zero, co_mo]
      split
      · rw [co_mo, if_neg (by omega)]
        rfl
      · rw [co_zero]
        rfl
theorem pow_pow' {A : Type} [Lean.Grind.CommRing A] (a : A) (k : Nat) : ∀ i, (a ^ k) ^ i = a ^ (k * i)
  | 0 => by rw [Lean.Grind.Semiring.pow_zero, Nat.mul_zero, Lean.Grind.Semiring.pow_zero]
  | i + 1 => by
    rw [Lean.Grind.Semiring.pow_succ, pow_pow' a k i, Nat.mul_succ, Lean.Grind.Semiring.pow_add]
/-- an x-poly slid is as high in y as its degree, at least -/
theorem slide_high {k : Nat} (hk : 1 ≤ k) {a : Pl K} {d n : Nat} (ha : IsD a d) (h : dlt (put (Lx + Ly ^ k) Ly (C a)) n) : d < n := by
  have e : put 0 Ly (put (Lx + Ly ^ k) Ly (C a)) = put (Ly ^ k) Ly (C a) := by
    refine put_ext (φ := fun F => put 0 Ly (put (Lx + Ly ^ k) Ly F)) (ψ := put (Ly ^ k) Ly) (Hom.comp (put_hom _ _) (put_hom _ _)) (put_hom _ _) (fun c => by simp only [put_kap]) ?_ ?_ (C a)
    · show put 0 Ly (put (Lx + Ly ^ k) Ly Lx) = put (Ly ^ k) Ly Lx
      rw [put_x, put_x, (put_hom _ _).add, (put_hom _ _).pow, put_x, put_y]
      grind
    · show put 0 Ly (put (Lx + Ly ^ k) Ly Ly) = put (Ly ^ k) Ly Ly
      rw [put_y, put_y, put_y]
  have c1 := zerox_co (put (Lx + Ly ^ k) Ly (C a)) (k * d)
  rw [e, put_C, putx, ev_eq kap_hom _ ha.dlt] at c1
  have co_sm : ∀ (f : Nat → S2 K) (t n : Nat), (sm n f).co t = sm n (fun i => (f i).co t) := by
    intro f t n
    induction n with
    | zero => exact co_zero t
    | succ n ih => simp only [sm, co_add, ih]
  have c2 : (sm (d + 1) (fun i => kap (a.co i) * (Ly ^ k) ^ i)).co (k * d) = C (a.co d) := by
    rw [co_sm, sm_one (k := d) (by omega)]
    · rw [pow_pow', Ly_pow, kap, co_Cmul, co_mo, if_pos rfl]
      grind
    · intro i hi hne
      rw [pow_pow', Ly_pow, kap, co_Cmul, co_mo, if_neg]
      · grind
      · intro x
        exact hne (Nat.eq_of_mul_eq_mul_left (by omega) x).symm
  rw [c2] at c1
  have k0 : (put (Lx + Ly ^ k) Ly (C a)).co (k * d) ≠ 0 := fun z => by
    rw [z, co_zero] at c1
    have y : (C (a.co d)).co 0 = (C (0 : K)).co 0 := by rw [c1]
    exact ha.1 y
  apply Classical.byContradiction
  intro x
  refine k0 (h _ ?_)
  have := Nat.le_mul_of_pos_left d (show 0 < k by omega)
  omega
end put

section turn
variable {K : Type} [Lean.Grind.CommRing K] [Fd K]
theorem Id.hom {τ : S2 K → S2 K} (h : Hom τ) {f g z : S2 K} (k : Id f g z) : Id (τ f) (τ g) (τ z) := by
  obtain ⟨u, v, e⟩ := k
  exact ⟨τ u, τ v, by rw [e, h.add, h.mul, h.mul]⟩
theorem Ix.hom {τ σ : S2 K → S2 K} (h : Hom τ) (k : Hom σ) (ts : ∀ z, τ (σ z) = z) (st : ∀ z, σ (τ z) = z) {f g : S2 K} {N : Nat} (x : Ix (Id (τ f) (τ g)) N) : Ix (Id f g) N := by
  obtain ⟨L, e, p, c⟩ := x
  refine ⟨L.map σ, by rw [List.length_map, e], ?_, fun z => ?_⟩
  · rw [List.pairwise_map]
    refine p.imp fun {a b} hab q => hab ?_
    have y := Id.hom h q
    rw [h.sub, ts, ts] at y
    exact y
  · obtain ⟨l, hl, q⟩ := c (τ z)
    refine ⟨σ l, List.mem_map.mpr ⟨l, hl, rfl⟩, ?_⟩
    have y := Id.hom k q
    rw [k.sub, st, st, st] at y
    exact y
/-- a turn leaves the size as it is -/
theorem Size.hom {τ σ : S2 K → S2 K} (h : Hom τ) (k : Hom σ) (ts : ∀ z, τ (σ z) = z) (st : ∀ z, σ (τ z) = z) {f g : S2 K} {q : Nat} {o : Option Nat} (x : Size q (Id (τ f) (τ g)) o) : Size q (Id f g) o := by
  cases o with
  | some s => exact Ix.hom h k ts st x
  | none =>
    intro N y
    refine x N (Ix.hom k h st ts ?_)
    rw [st, st]
    exact y
theorem Size.congr {S : Type} [Lean.Grind.CommRing S] {I J : S → Prop} (h : ∀ z, I z ↔ J z) {q : Nat} {o : Option Nat} (x : Size q I o) : Size q J o := by
  have e : I = J := funext fun z => propext (h z)
  rw [← e]
  exact x
/-- x-polys: by their greatest common factor -/
theorem x_size {a b c s t : Pl K} (hc : c = s * a + t * b) (ha : ∃ u, a = u * c) (hb : ∃ u, b = u * c) (q : Nat) :
    Size q (Id (C a) (C b)) (if hi c = 0 then some 0 else none) := by
  by_cases h : hi c = 0
  · rw [if_pos h]
    have c0 : c ≠ 0 := fun e => by
      rw [e, hi_zero] at h
      omega
    rw [hi_ne c0] at h
    obtain ⟨d, hd⟩ := unit_of_dg c0 (by omega)
    refine one_of (Id.isSub _ _) (fun z => ?_) q
    have e : z = z * C (c * d) := by
      rw [hd, C_one]
      grind
    refine ⟨z * C (d * s), z * C (d * t), ?_⟩
    rw [C_mul] at e
    rw [C_mul, C_mul]
    have e2 : C c = C s * C a + C t * C b := by rw [hc, C_add, C_mul, C_mul]
    grind
  · rw [if_neg h]
    refine inf_of (Id.isSub _ _) (fun i => mo 1 i) (fun i j hij x => ?_) q
    obtain ⟨u, v, e⟩ := x
    obtain ⟨a', ea⟩ := ha
    obtain ⟨b', eb⟩ := hb
    have k : (mo (1 : Pl K) i - mo 1 j).co i = (u * C a + v * C b).co i := by rw [e]
    rw [Pl.mul_comm' u, Pl.mul_comm' v, co_sub, co_add, co_Cmul, co_Cmul, co_mo, co_mo, if_pos rfl, if_neg (by omega)] at k
    have un : c * (a' * u.co i + b' * v.co i) = 1 := by grind
    have w := dg_of_unit un
    rw [hi_ne w.1] at h
    omega
end turn
end K37
end M7
section R1
set_option autoImplicit false
set_option linter.all false
set_option maxRecDepth 100000
/-! Rules of our own: a dict comprehension whose keys are tuples; dict(d) of such a dict. -/
namespace L2.K37R
open PySem PySem.Spec PyProof.Rows

/-- a comprehension stores under a tuple -/
theorem putT {X : Cx} {pins : List (Addr × Obj)} {σ : St} {H : Hp} {s : Shared} {E : Value → Shared → Prop} {D b : Addr} {kvs : List (List Key × V)} {k : List Key} {v : V} {u r : Value} {Q : Unit → Shared → Prop}
    (hu : X.A.units < cLine) (I : Inv X pins σ H s) (hD : H D = some (.dT kvs)) (hz : kvs.length < sizeLine) (hb : H b = some (.tup (k.map kV))) (ru : RelV (.ref b) u) (rv : RelV v r)
    (fin : ∀ s', Inv X pins σ (upd H D (.dT (putK kvs k v))) s' → Q () s') : wpAny (model X.prog X.w) X.A (dictSet D u r) Q E s := by
  cases (show u = Value.ref b from ru)
  obtain ⟨zl, lo, xs, rel, dd⟩ := dt_of I.hok hD
  have zx : xs.length ≤ sizeLine := by
    rw [← Paired.length rel]
    exact zl
  have zp : (putK kvs k v).length ≤ sizeLine := by
    have := length_putK kvs k v
    omega
  refine wpAny_dictSet_heap (hsz := zx) (knd := tupleKind (mixKind X.prog X.w)) hu (key_of I.hok hb) dd fun h1 d1 same => fin _ ?_
  obtain ⟨q, es, ep, e1, e2, e3, e4, _, e5⟩ := d1
  refine d_write I (by rw [hD]; exact True.intro) same ⟨q, e1⟩ ⟨zp, lo, _, (rel.put k hb rv).keeps fun c ys ec => ?_, q, es, ep, e1, e2, e3, e4, e5⟩
  have ne : c ≠ D := ne_of ec hD (fun z => nomatch z)
  rw [upd_ne ne]
  exact ec

section
variable {X : Cx}
/-- {k: v for .. in .. if ..}, the keys tuples -/
def tDcT (wi : TI) (g : TG) (tt : TT) (tk tv : TE) (vs : List Nat) : TE := fun σ H Q => wi σ H fun J H1 =>
  ∀ D, H1 D = none → ∃ W : Nat → Nat → Hp → Prop, (∃ m, W 0 m (upd H1 D (.dT []))) ∧
    ∀ i m H, W i m H → (J.stop i H ∧ Q (.ref D) H) ∨ (J.go i H ∧ ∃ Nx : Hp → Prop, (∀ H', Nx H' → ∃ m', m' < m ∧ W (i + 1) m' H') ∧
      ∀ x H', J.yld i H x H' → g x (wipe σ vs) H' fun σ2 H2 => wipe σ2 vs = wipe σ vs ∧ tt σ2 H2 fun b H3 => if b = true then
        tk σ2 H3 fun y H4 => tv σ2 H4 fun z H5 => ∃ kvs k b, y = .ref b ∧ H5 b = some (.tup (k.map kV)) ∧ H5 D = some (.dT kvs) ∧ kvs.length < sizeLine ∧ Nx (upd H5 D (.dT (putK kvs k z)))
      else Nx H3)

abbrev BlkPG (X : Cx) (scope : Scope) (tg : Expr) (g : TG) : Prop := ∀ (s : Shared) (H : Hp) (C : Addr) (cl : List (Str × Addr)) (fp : List Addr), PG (X.blk s H scope (compEnvC scope cl C X.env) fp) tg g
abbrev BlkPT (X : Cx) (scope : Scope) (ifs : List Expr) (tt : TT) : Prop := ∀ (s : Shared) (H : Hp) (C : Addr) (cl : List (Str × Addr)) (fp : List Addr), PTs (X.blk s H scope (compEnvC scope cl C X.env) fp) ifs tt
abbrev BlkPE (X : Cx) (scope : Scope) (e : Expr) (te : TE) : Prop := ∀ (s : Shared) (H : Hp) (C : Addr) (cl : List (Str × Addr)) (fp : List Addr), PE (X.blk s H scope (compEnvC scope cl C X.env) fp) e te

theorem dcT_core {pins : List (Addr × Obj)} {s : Shared} {σ : St} {H : Hp} {Q : VK} {kx vx tg iter : Expr} {ifs : List Expr} {scope : Scope} {own : List (Str × Nat)} {pos pos' : Pos} {wi : TI} {g : TG} {tt : TT} {tk tv : TE}
    {use : Option (Value → Sem Unit)} {Qf : Value → Shared → Prop} (hu : X.A.units < cLine) (calm : X.calm = true) (hN : X.N.Nodup) (I : Inv X pins σ H s) (hi : PI X tg iter wi) (ok : BlkOk X.N X.env.scope scope own)
    (hg : BlkPG X scope tg g) (ht : BlkPT X scope ifs tt) (hk : BlkPE X scope kx tk) (he : BlkPE X scope vx tv) (hs : ∀ x, foldedSetIterable iter X.env x = pure x) (want : tDcT wi g tt tk tv (own.map (·.2)) σ H Q)
    (leave : ∀ D C s' m H', Inv X pins σ H' s' → Q (.ref D) H' → s'.heap.Ns C m → FpOk X pins H' C → compPost (model X.prog X.w) X.A X.xe use Qf (.ref D) C (.ok .next) s') :
    wpAny (model X.prog X.w) X.A (comprehension (.DictComp kx vx [⟨tg, iter, ifs, 0⟩] scope pos) scope X.env pos' newDict false (eval iter X.env) use) Qf X.xe s := by
  have captured : ∀ y ∈ scope.names, y.2 = .free → ∃ c, X.env.cells.lookup y.1 = some c := fun y hy e =>
    (ok.free y hy e).elim (fun z => I.ok.has _ (.inl z)) fun z => I.ok.has _ (.inr z)
  refine wpAny_comprehension_free (use := use) rfl hs (closure_ok captured) ok.kind (fun y hy e => by rw [ok.uniq y hy, e]) ?_
  refine thn (hi.run pins s σ H _ I want) fun xv s1 came => thn came fun itv s2 got => ?_
  obtain ⟨it, fp, tn, J, H2, rfl, I2, T, st2, fresh2, rest⟩ := got
  refine wpAny_newObj_type (newEnv_comp ?_)
  generalize eD : s2.heap.objs.size = D
  have D0 : H2 D = none := I2.hok.fresh (Nat.le_of_eq eD)
  obtain ⟨W, ⟨m0, w0⟩, turn⟩ := rest D D0
  generalize eS : ({ s2 with heap := s2.heap.push { cls := .type "dict", data := .dict #[] } } : Shared) = s3
  have heap3 : s3.heap = s2.heap.push { cls := .type "dict", data := .dict #[] } := by rw [← eS]
  have I3 : Inv X pins σ (upd H2 D (.dT [])) s3 := by
    subst eS
    refine I2.laid (t' := s2.toks) (fun b o e => Heap.get?_push_of_some _ e) (Nat.le_of_eq eD) ?_
    subst eD
    exact dt_empty s2.heap I2.big
  have low : ∀ b ∈ fp, b < s2.heap.objs.size := fun b hb => let ⟨_, e, _⟩ := T.obj _ _ st2 b hb; Heap.lt_size e
  have fresh3 : ∀ b ∈ fp, FpOk X pins (upd H2 D (.dT [])) b ∧ b < s3.heap.objs.size := fun b hb => by
    have lb := low b hb
    have nb : b ≠ D := by
      rw [← eD]
      exact Nat.ne_of_lt lb
    refine ⟨⟨?_, (fresh2 b hb).2⟩, by rw [heap3, Heap.size_push]; exact Nat.lt_succ_of_lt lb⟩
    rw [upd_ne nb]
    exact (fresh2 b hb).1
  have st3 : tn 0 s3.heap := T.keep _ _ _ st2 fun b _ o e => by
    rw [heap3]
    exact Heap.get?_push_of_some _ e
  have I4 := block_start I3 ok hN fresh3
  generalize eCells : cellsFrom (s3.heap.objs.size + 1) scope.names (cloFrom X.env.cells scope.names []) = cells at I4
  have pg := hg s3 (upd H2 D (.dT [])) s3.heap.objs.size cells fp
  have pt := ht s3 (upd H2 D (.dT [])) s3.heap.objs.size cells fp
  have pk := hk s3 (upd H2 D (.dT [])) s3.heap.objs.size cells fp
  have pe := he s3 (upd H2 D (.dT [])) s3.heap.objs.size cells fp
  show codeAny _ _ (.compStart (.DictComp kx vx [⟨tg, iter, ifs, 0⟩] scope pos) 0 (.ref it) (.ref D) (compEnvC scope cells s3.heap.objs.size X.env)) (compPost (model X.prog X.w) X.A X.xe use Qf (.ref D) s3.heap.objs.size)
    { s3 with heap := pushCells (s3.heap.push { cls := .type "dict", data := .dict #[] }) scope.names }
  have none3 : ∀ b ∈ fp, (upd H2 D (.dT [])) b = none := fun b hb => (fresh3 b hb).1.1
  generalize eEnv : compEnvC scope cells s3.heap.objs.size X.env = ce at I4 pg pt pk pe ⊢
  have cL : ce.locals = s3.heap.objs.size := by
    subst eEnv
    rfl
  generalize eH3 : upd H2 D (.dT []) = H3 at I3 I4 pg pt pk pe w0 none3 fresh3
  generalize eS4 : ({ s3 with heap := pushCells (s3.heap.push { cls := .type "dict", data := .dict #[] }) scope.names } : Shared) = s4 at I4 ⊢
  have st4 : tn 0 s4.heap := T.keep _ _ _ st3 fun b _ o e => by
    subst eS4
    exact pushCells_keeps _ _ _ _ (Heap.get?_push_of_some _ e)
  let B : Cx := X.blk s3 H3 scope ce fp
  have own' : ∀ {σ' : St} {H' : Hp} {s' : Shared}, Inv B [] σ' H' s' → (∀ b ∈ fp, H' b = none) → ∀ b ∈ fp, FpOk B [] H' b := fun {σ' H' s'} J' hn b hb =>
    ⟨hn b hb, (J'.ok.exf b hb).1, J'.ok.exfs b hb, .inl hb, fun x c e => (J'.ok.exf b hb).2 x c e, fun p hp => absurd (show p ∈ ([] : List (Addr × Obj)) ++ [] from hp) (by simp)⟩
  have loop : codeAny (model X.prog X.w) X.A (.compLoop (.DictComp kx vx [⟨tg, iter, ifs, 0⟩] scope pos) 0 (.ref it) (.ref D) ce) (compPost (model X.prog X.w) X.A X.xe use Qf (.ref D) s3.heap.objs.size) s4 := by
    refine compLoop_anyD (fun n s' => ∃ i H', Inv B [] (wipe σ (own.map (·.2))) H' s' ∧ tn i s'.heap ∧ (∀ b ∈ fp, H' b = none) ∧ W i n H') ?_ m0 ⟨0, H3, I4, st4, none3, w0⟩
    rintro n s5 ⟨i, H5, I5, st5, n5, w5⟩
    rcases turn i n H5 w5 with ⟨stop, done⟩ | ⟨go, Nx, hNx, step⟩
    · refine thnF (T.done B rfl rfl rfl calm i [] s5 _ H5 (fun _ _ => False) I5 (own' I5 n5) st5 stop) fun r s6 ⟨hr, I6⟩ => ?_
      subst hr
      have I7 : Inv X pins σ H5 s6 := I3.call' (ch := fp) I6.os I6.base I6.hok I6.bare fun b hb => let z := (fresh3 b hb).1.2; ⟨z.2.2.1, z.1, z.2.2.2.1, z.2.2.2.2⟩
      have nC : H5 s3.heap.objs.size = none := by
        rw [← cL]
        exact I6.free
      obtain ⟨m, hn, _⟩ := I6.loc
      have hn : s6.heap.Ns ce.locals m := hn
      rw [cL] at hn
      exact leave D s3.heap.objs.size s6 m H5 I7 done hn (I3.fpOk (Nat.le_refl _) nC)
    · refine thnF (T.item B rfl rfl rfl calm i [] s5 _ H5 (fun _ _ => False) I5 (own' I5 n5) st5 go) fun r s6 ⟨u, hr, h6⟩ => ?_
      subst hr
      refine thnF h6 fun _ s7 ⟨x, H7, I7, r7, y7, st7, n7⟩ => ?_
      refine thnF (pg.run _ s7 _ H7 x u _ (I7.pinned (own' I7 n7) (T.obj _ _ st7)) r7 (step x H7 y7)) fun _ s8 ⟨σ8, H8, I8, hw8, q8⟩ => ?_
      refine thnF (pt.run _ s8 σ8 H8 _ I8 q8) fun b s9 ⟨H9, I9, q9⟩ => ?_
      have turnEnd : ∀ {s' : Shared} {H' : Hp}, Inv B ([] ++ pinsAt fp s7.heap) σ8 H' s' → Nx H' → ∃ m, m < n ∧ ∃ i H', Inv B [] (wipe σ (own.map (·.2))) H' s' ∧ tn i s'.heap ∧ (∀ b ∈ fp, H' b = none) ∧ W i m H' := fun {s' H'} J' nx => by
        obtain ⟨m', hm, w'⟩ := hNx H' nx
        have still : ∀ b ∈ fp, ∀ o, s7.heap.get? b = some o → s'.heap.get? b = some o ∧ H' b = none := fun b hb o e =>
          let z := J'.pin (b, o) (List.mem_append_right _ (List.mem_append_right _ (mem_pinsAt hb e)))
          ⟨z.1, z.2.1⟩
        have len : (wipe σ (own.map (·.2))).length = σ8.length := by rw [← hw8, wipe_length]
        refine ⟨m', hm, i + 1, H', (J'.unpinned (pins := [])).weak len (fun j v e => ?_), T.keep _ _ _ st7 fun b hb o e => (still b hb o e).1, fun b hb => ?_, w'⟩
        · rw [← hw8] at e
          exact (wipe_some e).1
        · obtain ⟨o, e, _⟩ := T.obj _ _ st7 b hb
          exact (still b hb o e).2
      cases b with
      | false =>
        simp only [Bool.false_eq_true, if_false] at q9 ⊢
        exact turnEnd I9 q9
      | true =>
        simp only [if_true] at q9 ⊢
        refine thnF (pk.run _ s9 σ8 H9 _ I9 q9) fun z s10 ⟨yk, H10, I10, r10, q10⟩ => ?_
        refine thnF (pe.run _ s10 σ8 H10 _ I10 q10) fun z2 s11 ⟨yv, H11, I11, r11, kvs, k, kb, ek, hkb, hD11, hz11, nx⟩ => ?_
        subst ek
        exact putT (X := B) hu I11 hD11 hz11 hkb r10 r11 fun s12 I12 => turnEnd I12 nx
  exact codeAny_compStart_dict loop (T.self X.A 0 _ _ _ st4 loop)
/-- as a value -/
theorem pe_dcT {kx vx tg iter : Expr} {ifs : List Expr} {scope : Scope} {own : List (Str × Nat)} {pos : Pos} {wi : TI} {g : TG} {tt : TT} {tk tv : TE} (hu : X.A.units < cLine) (calm : X.calm = true) (hN : X.N.Nodup) (hi : PI X tg iter wi) (ok : BlkOk X.N X.env.scope scope own)
    (hg : BlkPG X scope tg g) (ht : BlkPT X scope ifs tt) (hk : BlkPE X scope kx tk) (he : BlkPE X scope vx tv) (hs : ∀ x, foldedSetIterable iter X.env x = pure x := by intro _; rfl) :
    PE X (.DictComp kx vx [⟨tg, iter, ifs, 0⟩] scope pos) (tDcT wi g tt tk tv (own.map (·.2))) := by
  refine ⟨fun pins s σ H Q I want => ?_⟩
  rw [arm_eval_DictComp]
  refine dcT_core hu calm hN I hi ok hg ht hk he hs want fun D C s' m H' I' q hn f => ⟨m, hn, fun h'' sb => ?_⟩
  obtain ⟨f0, f1, f2, f3, f4, f5⟩ := f
  exact ⟨.ref D, H', I'.turned (t' := s'.toks) (fun b o hb e => (sb.2 b hb).trans e) f0 f1 f3 f4 f5, rfl, q⟩
end
end L2.K37R
end R1
section R2
set_option autoImplicit false
set_option linter.all false
set_option maxRecDepth 100000
/-! Rules: dict(d) of a dict with tuple keys; max(xs, default=d). -/
namespace L2.K37R
open PySem PySem.Spec PyProof.Rows

/-! ### dict(d) -/
section
variable {prog : Program} {w : World} {K : Type} [DecidableEq K] {knd : HeapKind prog w K} {A : Around} {E : Value → Shared → Prop} {s : Shared}
theorem dictOf_heap {o : Addr} {more : List (K × Addr × Value)} {Q : Value → Shared → Prop} (st : knd.Stays) (hu : knd.room A.in1.in1) (lo : (o == sysModules) = false) (ho : s.heap.DictOfH knd o more) (hty : ∀ x ∈ more, s.TypeIs (.ref x.2.1) "tuple") (hap : (more.map fun x => knd.hash x.1).Nodup) (hsz : more.length ≤ sizeLine)
    (fin : ∀ h', h'.DictOfH knd s.heap.objs.size more → (∀ b u, s.heap.get? b = some u → h'.get? b = some u) → Q (.ref s.heap.objs.size) { s with heap := h' }) :
    wpAny (model prog w) A (call (.type "dict") [.ref o]) Q E s := by
  refine callType_codes (Q₁ := fun x s1 => x = .ref s.heap.objs.size ∧ s1 = { s with heap := s.heap.push { cls := .type "dict", data := .dict #[] } }) PySem.F.kt_called_dict (PySem.F.kt_typeCall_dict_1 _) PySem.F.entry_dict_init (kt_code_dict_new _ ⟨rfl, rfl⟩) ?_
  rintro x s1 ⟨rfl, rfl⟩
  have made : (s.heap.push { cls := .type "dict", data := .dict #[] }).DictOfH knd s.heap.objs.size [] := Heap.DictOfH.new s.heap
  have old : (s.heap.push { cls := .type "dict", data := .dict #[] }).DictOfH knd o more := by
    obtain ⟨oo, es, ep, e1, e2, e3, e4, e5, e6⟩ := ho
    exact ⟨oo, es, ep, Heap.get?_push_of_some _ e1, e2, e3, e4, fun x hx => st.all _ (fun b u _ e => Heap.get?_push_of_some _ e) _ _ (e5 x hx), e6⟩
  have apart : s.heap.objs.size ≠ o := by
    obtain ⟨_, _, _, hg, _⟩ := ho
    intro e
    have := Heap.lt_size hg
    rw [e] at this
    exact Nat.lt_irrefl _ this
  refine ⟨made.typeIs, PySem.F.args_dict_init_2 _ _, ?_⟩
  unfold Builtin.«dict.__init__»
  refine wpAny_bind ?_
  unfold Builtin.Dict.selfAndRest
  refine wpAny_bind (wpAny_notOrdered_dict made.typeIs ?_)
  show wpAny _ _ (pure (s.heap.objs.size, [Value.ref o])) _ _ _
  refine wpAny_pure ?_
  show wpAny _ _ (Builtin.Dict.updateFrom "dict.__init__" s.heap.objs.size (.ref o) [] .none) _ _ _
  refine updateFrom_dictH (A := A.in1) (kvs := []) .none hu apart lo made old (.inr ⟨fun x hx => ?_, hap⟩) (by simpa using hsz) fun h' d' _ same => ?_
  · obtain ⟨oo, e, c⟩ := hty x hx
    exact ⟨oo, Heap.get?_push_of_some _ e, c⟩
  · rw [storedAllH_nil_of_nodup more ho.nodup] at d'
    exact ⟨rfl, fin h' d' fun b u e => (same.2 b (Nat.ne_of_lt (Heap.lt_size e))).trans (Heap.get?_push_of_some _ e)⟩
end

/-- the hash of a pair of powers -/
def hK : Key → Int
  | .inl i => hashInt i
  | .inr _ => 0
@[irreducible] def hP (q : List Key) : Int := reduceHash (Builtin.Tuple.tupleHashOf (q.map hK))
section
variable {X : Cx}
theorem Paired_get {α β : Type} {G : α → β → Prop} : ∀ {l : List α} {m : List β}, Paired G l m → ∀ b, b ∈ m → ∃ a, a ∈ l ∧ G a b
  | _, _, .cons r t, b, hb => by
    rcases List.mem_cons.mp hb with e | e
    · subst e
      exact ⟨_, List.mem_cons_self .., r⟩
    · obtain ⟨a, ha, g⟩ := Paired_get t b e
      exact ⟨a, List.mem_cons_of_mem _ ha, g⟩
theorem Paired_map {α β γ : Type} {G : α → β → Prop} {f : α → γ} {g : β → γ} (h : ∀ a b, G a b → f a = g b) : ∀ {l : List α} {m : List β}, Paired G l m → l.map f = m.map g
  | _, _, .nil => rfl
  | _, _, .cons r t => by rw [List.map_cons, List.map_cons, h _ _ r, Paired_map h t]
/-- dict(d), the keys pairs of numbers whose hashes differ -/
theorem call_dictT (hu : X.A.units + 2 < cLine) : CallR X (.type "dict") (fun xs H Q => ∃ (a : Addr) (kvs : List (List Key × V)), xs = [.ref a] ∧ Rd H a (.dT kvs) ∧
    (∀ e, e ∈ kvs → ∀ k, k ∈ e.1 → ∃ i, k = .inl i) ∧ (kvs.map fun e => hP e.1).Nodup ∧ ∀ p, H p = none → Q (.ref p) (upd H p (.dT kvs))) := by
  intro pins s σ H xs us Q I r q
  obtain ⟨a, kvs, rfl, hd, hk, hn, q⟩ := q
  obtain ⟨u, rfl, rx⟩ := vals1 r
  cases rx
  obtain ⟨z, lo, ys, rel, dd⟩ := dt_rd I.hok hd
  have eh : (kvs.map fun e => hP e.1) = ys.map fun x => (tupleKind (mixKind X.prog X.w)).hash x.1 := by
    refine Paired_map (fun e x g => ?_) (G := fun (e : List Key × V) (x : List Key × Addr × Value) => e ∈ kvs ∧ e.1 = x.1) ?_
    · obtain ⟨me, g⟩ := g
      show hP e.1 = tupleKeyHash (mixKind X.prog X.w) x.1
      rw [← g]
      unfold hP tupleKeyHash
      have el : e.1.map hK = e.1.map (mixKind X.prog X.w).hash := List.map_congr_left fun k m => by
        obtain ⟨i, rfl⟩ := hk e me k m
        rfl
      rw [el]
    · have go : ∀ {l : List (List Key × V)} {m : List (List Key × Addr × Value)}, KT H l m → (∀ e, e ∈ l → e ∈ kvs) → Paired (fun (e : List Key × V) (x : List Key × Addr × Value) => e ∈ kvs ∧ e.1 = x.1) l m := by
        intro l m pr
        induction pr with
        | nil => exact fun _ => .nil
        | cons g t ih => exact fun h => .cons ⟨h _ (List.mem_cons_self ..), g.1⟩ (ih fun e he => h e (List.mem_cons_of_mem _ he))
      exact go rel fun _ h => h
  rw [eh] at hn
  refine dictOf_heap (knd := tupleKind (mixKind X.prog X.w)) tupleKind_stays hu lo dd (fun x hx => ?_) hn (by rw [← Paired.length rel]; exact z) fun h' d' keep => ?_
  · obtain ⟨e, _, g⟩ := Paired_get rel x hx
    obtain ⟨_, its, _, ob, eo, c, _⟩ := I.hok _ _ g.2.1
    exact ⟨ob, eo, c⟩
  · have hm : (s.heap.objs.size == sysModules) = false := beq_eq_false_iff_ne.mpr (Nat.ne_of_gt I.big)
    have new : H s.heap.objs.size = none := I.hok.fresh (Nat.le_refl _)
    obtain ⟨ob, es, ep, e1, e2, e3, e4, _, e5⟩ := d'
    refine ⟨.ref s.heap.objs.size, upd H s.heap.objs.size (.dT kvs), I.laid (t' := s.toks) keep (Nat.le_refl _) ⟨z, hm, ys, rel.keeps fun c zs ec => ?_, ob, es, ep, e1, e2, e3, e4, e5⟩, rfl, q _ new⟩
    rw [upd_ne (ne_of_none ec new)]
    exact ec
end

/-! ### max(xs, default=d) -/
section
variable {prog : Program} {w : World} {A : Around} {R : Result → Shared → Prop} {I : Addr} {fp wr : List Addr} {n : Nat} {P : Nat → Value → Prop} {St : Nat → Heap → Prop}
theorem args_maxd (a d : Value) : argsOk "max" ⟨[a], [(Str.ofString "default", d)]⟩ := by
  unfold argsOk
  kernel_rfl
theorem maxd_loop (W : Walks prog w A.in1 I fp wr n P St) (bt : Nat → Nat → Bool) (hcmp : CmpOf prog w A.in1 .Gt P bt) (S : Addr) (hSf : S ∉ fp) (d : Value) :
    ∀ (k j : Nat) (s : Shared) (old : Array Value) (c : Nat), n - j = k → j ≤ n → St j s.heap → ((j = 0 ∧ old = #[]) ∨ ∃ i v, j = i + 1 ∧ old = #[v, v] ∧ P (argBest bt i) v) →
    s.heap.get? S = some { cls := .type "list", dict := none, data := .seq old c, slots := #[] } →
    (∀ h' tk, (∀ b o, b ∉ wr → b ≠ S → s.heap.get? b = some o → h'.get? b = some o) → n = 0 → R (.ok (.ret d)) { s with heap := h', toks := tk }) →
    (∀ v h' tk, (∀ b o, b ∉ wr → b ≠ S → s.heap.get? b = some o → h'.get? b = some o) → 0 < n → P (argBest bt (n - 1)) v → R (.ok (.ret v)) { s with heap := h', toks := tk }) →
    codeAny (model prog w) A (.builtin "max.loop" ⟨[.ref I, .none, .ref S], [("default", d)]⟩) R s := by
  have hSw : S ∉ wr := fun h => hSf (W.sub _ h)
  have name : (toString "max" ++ toString ".loop" : String) = "max.loop" := by decide
  intro k
  induction k with
  | zero =>
    intro j s old c hk hj hst ho hS hd hv
    have ej : j = n := by omega
    refine codeAny_builtin PySem.F.entry_max_loop ?_
    rw [Around.under_plainId PySem.F.plain_max_loop _]
    show wpAny _ A.in1 (seqItems? (.ref S) >>= _) _ _ s
    refine wpAny_bind (wpAny_seqItems hS rfl ?_)
    show wpAny _ A.in1 (tryCatch (pyNext (.ref I)) _ >>= _) _ _ s
    refine wpAny_bind (wpAny_tryCatch (W.done s _ _ (ej ▸ hst) fun h' tk keep => ?_))
    rcases ho with ⟨e0, rfl⟩ | ⟨i, v, ei, rfl, hP⟩
    · show wpAny _ A.in1 (rule _ >>= _) _ _ _
      refine wpAny_bind (wpAny_rule (wpAny_pure ?_))
      exact hd h' tk (fun b o hb _ e => keep b o hb e) (by omega)
    · have hS' := keep S _ hSw hS
      show wpAny _ A.in1 (updateSeq S (fun _ => #[]) >>= _) _ _ _
      refine wpAny_bind ?_
      refine wpAny_updateSeq hS' rfl (wpAny_bind (wpAny_letGo (wpAny_pure ?_)))
      refine hv v _ tk (fun b o hb hbS e => (Heap.get?_update_other _ _ (Ne.symm hbS)).trans (keep b o hb e)) (by omega) ?_
      rw [show n - 1 = i by omega]
      exact hP
  | succ k ih =>
    intro j s old c hk hj hst ho hS hd hv
    have lt : j < n := by omega
    refine codeAny_builtin PySem.F.entry_max_loop ?_
    rw [Around.under_plainId PySem.F.plain_max_loop _]
    show wpAny _ A.in1 (seqItems? (.ref S) >>= _) _ _ s
    refine wpAny_bind (wpAny_seqItems hS rfl ?_)
    show wpAny _ A.in1 (tryCatch (pyNext (.ref I)) _ >>= _) _ _ s
    refine wpAny_bind (wpAny_tryCatch (W.item j s _ _ lt hst fun v h' tk hP st' keep => ?_))
    have hS' := keep S _ hSw hS
    rcases ho with ⟨rfl, rfl⟩ | ⟨i, vb, rfl, rfl, hPb⟩
    · show wpAny _ A.in1 (updateSeq S (fun _ => #[v, v]) >>= _) _ _ _
      refine wpAny_bind ?_
      refine wpAny_updateSeq hS' rfl ?_
      rw [name]
      refine wpAny_pure ⟨plainId_quiet PySem.F.plain_max_loop _, ih 1 _ #[v, v] _ (by omega) (by omega) (W.frame _ _ _ st' fun b hb o e => ?_) (.inr ⟨0, v, rfl, rfl, hP⟩) (Heap.get?_update_self _ hS' rfl) (fun h2 t2 k2 e => ?_) fun v2 h2 t2 k2 e p2 => ?_⟩
      · exact (Heap.get?_update_other _ _ (fun h : S = b => hSf (by rw [h]; exact hb))).trans e
      · exact absurd e (by omega)
      · exact hv v2 h2 t2 (fun b o hb hbS e => k2 b o hb hbS ((Heap.get?_update_other _ _ (Ne.symm hbS)).trans (keep b o hb e))) e p2
    · show wpAny _ A.in1 (tryCatch (holding [v, v] (richCompare .Gt v vb >>= _)) _ >>= _) _ _ _
      refine wpAny_bind (wpAny_tryCatch (wpAny_holding (wpAny_bind (hcmp (i + 1) (argBest bt i) v vb _ _ _ hP hPb ?_))))
      refine wpAny_bind (wpAny_holding (wpAny_truthy_bool ?_))
      refine wpAny_bind (wpAny_letGo (wpAny_pure ?_))
      cases hb : bt (i + 1) (argBest bt i) with
      | true =>
        simp only [if_true]
        refine wpAny_bind ?_
        refine wpAny_updateSeq hS' rfl (wpAny_bind (wpAny_letGo ?_))
        rw [name]
        refine wpAny_pure ⟨plainId_quiet PySem.F.plain_max_loop _, ih (i + 2) _ #[v, v] _ (by omega) (by omega) (W.frame _ _ _ st' fun b hbf o e => ?_) (.inr ⟨i + 1, v, rfl, rfl, by simp only [argBest, hb, if_true]; exact hP⟩) (Heap.get?_update_self _ hS' rfl) (fun h2 t2 k2 e => ?_) fun v2 h2 t2 k2 e p2 => ?_⟩
        · exact (Heap.get?_update_other _ _ (fun h : S = b => hSf (by rw [h]; exact hbf))).trans e
        · exact absurd e (by omega)
        · exact hv v2 h2 t2 (fun b o hbw hbS e => k2 b o hbw hbS ((Heap.get?_update_other _ _ (Ne.symm hbS)).trans (keep b o hbw e))) e p2
      | false =>
        simp only [Bool.false_eq_true, if_false]
        refine wpAny_bind (wpAny_letGo ?_)
        rw [name]
        refine wpAny_pure ⟨plainId_quiet PySem.F.plain_max_loop _, ih (i + 2) _ #[vb, vb] c (by omega) (by omega) st' (.inr ⟨i + 1, vb, rfl, rfl, by simp only [argBest, hb, Bool.false_eq_true, if_false]; exact hPb⟩) hS' (fun h2 t2 k2 e => ?_) fun v2 h2 t2 k2 e p2 => ?_⟩
        · exact absurd e (by omega)
        · exact hv v2 h2 t2 (fun b o hbw hbS e => k2 b o hbw hbS (keep b o hbw e)) e p2
variable {E : Value → Shared → Prop} {s : Shared}
theorem call_tree_kw {id : String} {b : Builtin} {args : List Value} {kw : List (Str × Value)} {Q : Value → Shared → Prop} (hk : builtinKind id = none) (hp : plainId id = true) (hb : entryFor table id = some b) (ha : argsOk id ⟨args, kw⟩)
    (hc : wpAny (model prog w) A.in1 (b ⟨args, kw⟩) (fun fin s' => match fin with
      | .done f => (match (Except.ok f : Result) with | .ok (.ret v) => Q v s' | .ok _ => False | .error e => E e s')
      | .again c' => c'.quiet = true ∧ codeAny (model prog w) A c' (fun r s' => match r with | .ok (.ret v) => Q v s' | .ok _ => False | .error e => E e s') s') E s) :
    wpAny (model prog w) A (call (.builtin id) args kw) Q E s := by
  refine wpAny_call (codeAny_call_builtin hp hb ?_)
  simp only [checkBuiltinCall, hk]
  cases sig : Manifest.signature? id with
  | none => exact wpAny_pure hc
  | some g =>
    have ok : Bind.checkArgs id g ⟨args, kw⟩ = pure () := by simpa only [argsOk, sig] using ha
    simp only [ok]
    exact wpAny_pure hc
/-- max(xs, default=d) of a list of ints -/
theorem maxd_ints {l : Addr} {xs : Array (Int × Tok)} {d : Value} {Q : Value → Shared → Prop} (hh : A.handled = none) (hl : s.heap.IsList l (intItems xs))
    (none' : ∀ h' tk, xs.size = 0 → (∀ b o, s.heap.get? b = some o → h'.get? b = some o) → Q d { s with heap := h', toks := tk })
    (some' : ∀ v h' tk, 0 < xs.size → (intItems xs)[argBest (fun i j => decide (numAt xs i > numAt xs j)) (xs.size - 1)]? = some v → (∀ b o, s.heap.get? b = some o → h'.get? b = some o) → Q v { s with heap := h', toks := tk }) :
    wpAny (model prog w) A (call (.builtin "max") [.ref l] [(Str.ofString "default", d)]) Q E s := by
  have name : (toString "max" ++ toString ".loop" : String) = "max.loop" := by decide
  refine call_tree_kw PySem.F.kind_max PySem.F.plain_max PySem.F.entry_max (args_maxd _ _) ?_
  show wpAny _ A.in1 (Builtin.Builtins.bindParams "max" ["key", "default"] 0 ⟨[], [(Str.ofString "default", d)]⟩ >>= _) _ _ s
  refine wpAny_bind (wpAny_of_eq (show Builtin.Builtins.bindParams "max" ["key", "default"] 0 ⟨[], [(Str.ofString "default", d)]⟩ = pure [none, some d] from by first | rfl | kernel_rfl) ?_)
  refine wpAny_bind (wpAny_pure ?_)
  refine wpAny_bind (iter_intList hl fun s2 e st hfp hlI => ?_)
  subst e
  refine wpAny_bind (wpAny_newObj_type ?_)
  have hSf : (s.heap.push { cls := .type "list_iterator", data := .fields #[.ref l, .int 0 0] }).objs.size ∉ [s.heap.objs.size, l] := fun hm => Nat.lt_irrefl _ (hfp _ hm)
  rw [name]
  have W := Walks.list (prog := prog) (w := w) (A := A.in1) hh s.heap.objs.size l hlI (intItems xs)
  have old : ∀ {h' : Heap}, (∀ b o, b ∉ [s.heap.objs.size] → b ≠ (s.heap.push { cls := .type "list_iterator", data := .fields #[.ref l, .int 0 0] }).objs.size → ((s.heap.push { cls := .type "list_iterator", data := .fields #[.ref l, .int 0 0] }).push { cls := .type "list", data := .seq #[] }).get? b = some o → h'.get? b = some o) →
      ∀ b o, s.heap.get? b = some o → h'.get? b = some o := fun {h'} k b o e => by
    have lb := Heap.lt_size e
    have e1 := Heap.get?_push_of_some { cls := .type "list_iterator", data := .fields #[.ref l, .int 0 0] } e
    exact k b o (by simp; exact Nat.ne_of_lt lb) (Nat.ne_of_lt (Heap.lt_size e1)) (Heap.get?_push_of_some _ e1)
  refine wpAny_pure ⟨plainId_quiet PySem.F.plain_max_loop _, maxd_loop W _ (CmpOf.ints_gt (numAt xs) (fun _ _ => intItems_at)) _ hSf d _ 0 _ #[] _ rfl (Nat.zero_le _) (W.frame _ _ _ st fun b _ o e => Heap.get?_push_of_some _ e) (.inl ⟨rfl, rfl⟩) (Heap.get?_push_size _ rfl) (fun h' tk keep e => ?_) fun v h' tk keep e hP => ?_⟩
  · exact none' h' tk (by simpa [intItems] using e) (old keep)
  · exact some' v h' tk (by simpa [intItems] using e) (by simpa [intItems] using hP) (old keep)
end
section
variable {X : Cx}
/-- the greatest, or the default -/
theorem cr_maxD (hc : X.calm = true) : CallRK X (.builtin "max") [Str.ofString "default"] (fun xs zs H Q => ∃ (a : Addr) (ns : List Int) (d : V), xs = [V.ref a] ∧ zs = [d] ∧ SqL X.K H a (ns.map V.int) ∧
    (ns = [] → Q d H) ∧ ∀ m, m ∈ ns → (∀ y, y ∈ ns → y ≤ m) → Q (.int m) H) := by
  intro pins s σ H vs zs us ws Q I r rz h
  obtain ⟨a, ns, d, rfl, rfl, hs, q0, q1⟩ := h
  obtain ⟨its, rv, hl, _⟩ := I.list hs
  obtain ⟨w1, rfl, rd⟩ := vals1 rz
  rw [Vals.ref1 r]
  have hi := rv.ints
  obtain ⟨xs, e⟩ := hi.allInts.items
  have hn : numsOf (intItems xs).toList = ns := by
    rw [← e]
    exact hi.numsOf
  rw [nums_intItems] at hn
  subst hn
  have hl' := hl.isList
  rw [e] at hl'
  refine maxd_ints (I.ok.hd hc) hl' (fun h' tk h0 keep => ?_) fun v h' tk h0 hv keep => ?_
  · exact ⟨d, H, I.kept keep, rd, q0 (by rw [List.map_eq_nil_iff]; exact List.eq_nil_of_length_eq_zero (by simpa using h0))⟩
  · obtain ⟨t, rfl⟩ := intItems_at hv
    obtain ⟨h1, h2⟩ := argBest_gt (numAt xs) (xs.size - 1)
    refine ⟨.int _, H, I.kept keep, ⟨t, rfl⟩, q1 _ ?_ fun y hy => ?_⟩
    · rw [numAt_eq]
      exact PySem.getD_mem (by rw [List.length_map, Array.length_toList]; omega)
    · obtain ⟨j, hj, rfl⟩ := mem_getD hy
      rw [List.length_map, Array.length_toList] at hj
      rw [← numAt_eq]
      exact h2 j (by omega)
end
end L2.K37R
end R2
section W0
set_option autoImplicit false
set_option linter.all false
set_option maxRecDepth 100000
/-! Books: dicts with tuple keys that stand for polys. -/
namespace L2.K37R
open PySem PySem.Spec PyProof.Rows
open K37 (S2 Pl)

/-! ### loops over any walk -/
section
variable {J : It} {n : Nat} {G : Hp → Prop} {Y : Nat → Hp → V → Hp → Prop}
theorem dcT_it (w : Walk J n G Y) {g : TG} {tt : TT} {tk tv : TE} {vs : List Nat} {σ : St} {H1 : Hp} {D : Addr} {Qd : Hp → Prop} (Pv : Nat → Hp → Prop) (h0 : Pv 0 (upd H1 D (.dT []))) (hG : ∀ i H, i ≤ n → Pv i H → G H)
    (hs : ∀ i x H H', i < n → Pv i H → Y i H x H' → g x (wipe σ vs) H' fun σ2 H2 => wipe σ2 vs = wipe σ vs ∧ tt σ2 H2 fun b H3 => if b = true then
        tk σ2 H3 fun y H4 => tv σ2 H4 fun z H5 => ∃ kvs k b, y = .ref b ∧ H5 b = some (.tup (k.map kV)) ∧ H5 D = some (.dT kvs) ∧ kvs.length < sizeLine ∧ Pv (i + 1) (upd H5 D (.dT (putK kvs k z)))
      else Pv (i + 1) H3) (hd : ∀ H, Pv n H → Qd H) :
    ∃ W : Nat → Nat → Hp → Prop, (∃ m, W 0 m (upd H1 D (.dT []))) ∧ ∀ i m H, W i m H →
      (J.stop i H ∧ Qd H) ∨ (J.go i H ∧ ∃ Nx : Hp → Prop, (∀ H', Nx H' → ∃ m', m' < m ∧ W (i + 1) m' H') ∧
        ∀ x H', J.yld i H x H' → g x (wipe σ vs) H' fun σ2 H2 => wipe σ2 vs = wipe σ vs ∧ tt σ2 H2 fun b H3 => if b = true then
          tk σ2 H3 fun y H4 => tv σ2 H4 fun z H5 => ∃ kvs k b, y = .ref b ∧ H5 b = some (.tup (k.map kV)) ∧ H5 D = some (.dT kvs) ∧ kvs.length < sizeLine ∧ Nx (upd H5 D (.dT (putK kvs k z)))
        else Nx H3) := by
  refine ⟨fun i m H => m = n - i ∧ i ≤ n ∧ Pv i H, ⟨n, by simp, Nat.zero_le _, h0⟩, ?_⟩
  rintro i m H ⟨rfl, hi, p⟩
  have q := hG i H hi p
  by_cases lt : i < n
  · exact .inr ⟨w.goes i H lt q, Pv (i + 1), fun H' p' => ⟨n - (i + 1), by omega, rfl, lt, p'⟩, fun x H' y => hs i x H H' lt p (w.yields i H x H' lt q y)⟩
  · obtain rfl : i = n := by omega
    exact .inl ⟨w.stops H q, hd H p⟩
theorem dc_it (w : Walk J n G Y) {g : TG} {tt : TT} {tk tv : TE} {vs : List Nat} {σ : St} {H1 : Hp} {D : Addr} {Qd : Hp → Prop} (Pv : Nat → Hp → Prop) (h0 : Pv 0 (upd H1 D (.dK []))) (hG : ∀ i H, i ≤ n → Pv i H → G H)
    (hs : ∀ i x H H', i < n → Pv i H → Y i H x H' → g x (wipe σ vs) H' fun σ2 H2 => wipe σ2 vs = wipe σ vs ∧ tt σ2 H2 fun b H3 => if b = true then
        tk σ2 H3 fun y H4 => tv σ2 H4 fun z H5 => ∃ kvs k, y = kV k ∧ H5 D = some (.dK kvs) ∧ kvs.length < sizeLine ∧ Pv (i + 1) (upd H5 D (.dK (putK kvs k z)))
      else Pv (i + 1) H3) (hd : ∀ H, Pv n H → Qd H) :
    ∃ W : Nat → Nat → Hp → Prop, (∃ m, W 0 m (upd H1 D (.dK []))) ∧ ∀ i m H, W i m H →
      (J.stop i H ∧ Qd H) ∨ (J.go i H ∧ ∃ Nx : Hp → Prop, (∀ H', Nx H' → ∃ m', m' < m ∧ W (i + 1) m' H') ∧
        ∀ x H', J.yld i H x H' → g x (wipe σ vs) H' fun σ2 H2 => wipe σ2 vs = wipe σ vs ∧ tt σ2 H2 fun b H3 => if b = true then
          tk σ2 H3 fun y H4 => tv σ2 H4 fun z H5 => ∃ kvs k, y = kV k ∧ H5 D = some (.dK kvs) ∧ kvs.length < sizeLine ∧ Nx (upd H5 D (.dK (putK kvs k z)))
        else Nx H3) := by
  refine ⟨fun i m H => m = n - i ∧ i ≤ n ∧ Pv i H, ⟨n, by simp, Nat.zero_le _, h0⟩, ?_⟩
  rintro i m H ⟨rfl, hi, p⟩
  have q := hG i H hi p
  by_cases lt : i < n
  · exact .inr ⟨w.goes i H lt q, Pv (i + 1), fun H' p' => ⟨n - (i + 1), by omega, rfl, lt, p'⟩, fun x H' y => hs i x H H' lt p (w.yields i H x H' lt q y)⟩
  · obtain rfl : i = n := by omega
    exact .inl ⟨w.stops H q, hd H p⟩
end

/-! ### a book as a list of terms -/
abbrev Tm := (Nat × Nat) × Int
def ky (q : Nat × Nat) : List Key := [.inl (q.1 : Int), .inl (q.2 : Int)]
def enc (t : Tm) : List Key × V := (ky t.1, .int t.2)
theorem ky_inj {a b : Nat × Nat} (h : ky a = ky b) : a = b := by
  unfold ky at h
  injection h with h1 h2
  injection h2 with h2 _
  have e1 := Sum.inl.inj h1
  have e2 := Sum.inl.inj h2
  have f1 : a.1 = b.1 := by omega
  have f2 : a.2 = b.2 := by omega
  exact Prod.ext f1 f2
theorem ky_kV (q : Nat × Nat) : (ky q).map kV = [.int (q.1 : Int), .int (q.2 : Int)] := rfl
/-- the number that stands with a pair of powers -/
def lk (ts : List Tm) (q : Nat × Nat) : Option Int := (ts.find? fun t => decide (t.1 = q)).map (·.2)
def putM (ts : List Tm) (q : Nat × Nat) (c : Int) : List Tm := if (ts.any fun t => decide (t.1 = q)) = true then ts.map fun t => if t.1 = q then (t.1, c) else t else ts ++ [(q, c)]
def dropM (ts : List Tm) (q : Nat × Nat) : List Tm := ts.filter fun t => decide (t.1 ≠ q)
theorem valV_enc (q : Nat × Nat) : ∀ ts : List Tm, valV (ts.map enc) (ky q) = (lk ts q).map V.int
  | [] => rfl
  | t :: r => by
    have ih := valV_enc q r
    rw [List.map_cons]
    by_cases e : t.1 = q
    · rw [valV_pos (show (enc t).1 = ky q by rw [← e]; rfl)]
      unfold lk
      rw [List.find?_cons, decide_eq_true e]
      rfl
    · rw [valV_neg (show ¬ (enc t).1 = ky q from fun z => e (ky_inj z)), ih]
      unfold lk
      rw [List.find?_cons, decide_eq_false e]
theorem putK_enc (ts : List Tm) (q : Nat × Nat) (c : Int) : putK (ts.map enc) (ky q) (.int c) = (putM ts q c).map enc := by
  have ha : ((ts.map enc).any fun kv => decide (kv.1 = ky q)) = ts.any fun t => decide (t.1 = q) := by
    rw [List.any_map]
    congr 1
    funext t
    show decide (ky t.1 = ky q) = decide (t.1 = q)
    by_cases e : t.1 = q
    · rw [decide_eq_true e, decide_eq_true (by rw [e])]
    · rw [decide_eq_false e, decide_eq_false (fun z => e (ky_inj z))]
  unfold putK putM
  rw [ha]
  split
  · rw [List.map_map, List.map_map]
    refine List.map_congr_left fun t _ => ?_
    show (if ky t.1 = ky q then (ky t.1, V.int c) else enc t) = enc (if t.1 = q then (t.1, c) else t)
    by_cases e : t.1 = q
    · rw [if_pos e, if_pos (by rw [e])]
      rfl
    · rw [if_neg e, if_neg (fun z => e (ky_inj z))]
  · rw [List.map_append]
    rfl
theorem dropK_enc (ts : List Tm) (q : Nat × Nat) : dropK (ts.map enc) (ky q) = (dropM ts q).map enc := by
  unfold dropK dropM
  rw [List.filter_map]
  congr 1
  refine List.filter_congr fun t _ => ?_
  show decide (ky t.1 ≠ ky q) = decide (t.1 ≠ q)
  by_cases e : t.1 = q
  · rw [decide_eq_false (not_not_intro e), decide_eq_false (not_not_intro (by rw [e]))]
  · rw [decide_eq_true e]
    exact decide_eq_true (fun z => e (ky_inj z))
theorem lk_put (ts : List Tm) (q r : Nat × Nat) (c : Int) : lk (putM ts q c) r = if r = q then some c else lk ts r := by
  have h := valV_put (ts.map enc) (ky q) (ky r) (.int c)
  rw [putK_enc, valV_enc, valV_enc] at h
  by_cases e : r = q
  · rw [if_pos e]
    rw [if_pos (by rw [e])] at h
    cases x : lk (putM ts q c) r with
    | none =>
      rw [x] at h
      cases h
    | some y =>
      rw [x] at h
      injection h with h
      injection h with h
      rw [h]
  · rw [if_neg e]
    rw [if_neg (fun z => e (ky_inj z))] at h
    cases x : lk (putM ts q c) r with
    | none =>
      rw [x] at h
      cases y : lk ts r with
      | none => rfl
      | some y' =>
        rw [y] at h
        cases h
    | some y =>
      rw [x] at h
      cases z : lk ts r with
      | none =>
        rw [z] at h
        cases h
      | some y' =>
        rw [z] at h
        injection h with h
        injection h with h
        rw [h]
theorem lk_cons (t : Tm) (ts : List Tm) (q : Nat × Nat) : lk (t :: ts) q = if t.1 = q then some t.2 else lk ts q := by
  unfold lk
  rw [List.find?_cons]
  by_cases e : t.1 = q
  · rw [decide_eq_true e, if_pos e]
    rfl
  · rw [decide_eq_false e, if_neg e]
theorem lk_drop (q r : Nat × Nat) : ∀ ts : List Tm, lk (dropM ts q) r = if r = q then none else lk ts r
  | [] => by
    show none = _
    split <;> rfl
  | t :: ts => by
    have ih := lk_drop q r ts
    by_cases e : t.1 = q
    · have x : dropM (t :: ts) q = dropM ts q := by
        unfold dropM
        rw [List.filter_cons, if_neg (by simp [e])]
      rw [x, ih, lk_cons]
      split
      · rfl
      · rw [if_neg (fun z => by simp_all)]
    · have x : dropM (t :: ts) q = t :: dropM ts q := by
        unfold dropM
        rw [List.filter_cons, if_pos (by simp [e])]
      rw [x, lk_cons, lk_cons, ih]
      by_cases y : t.1 = r
      · rw [if_pos y, if_pos y, if_neg (fun z => e (y.trans z))]
      · rw [if_neg y, if_neg y]
theorem lk_mem {q : Nat × Nat} {c : Int} : ∀ {ts : List Tm}, lk ts q = some c → (q, c) ∈ ts
  | [], h => by cases h
  | t :: ts, h => by
    rw [lk_cons] at h
    by_cases e : t.1 = q
    · rw [if_pos e] at h
      have h' := Option.some.inj h
      rw [← e, ← h']
      exact List.mem_cons_self ..
    · rw [if_neg e] at h
      exact List.mem_cons_of_mem t (lk_mem h)
theorem lk_none {q : Nat × Nat} : ∀ {ts : List Tm}, lk ts q = none ↔ q ∉ ts.map (·.1)
  | [] => by simp [lk]
  | t :: ts => by
    rw [lk_cons, List.map_cons, List.mem_cons]
    by_cases e : t.1 = q
    · rw [if_pos e]
      simp [e.symm]
    · rw [if_neg e, lk_none]
      have e' : ¬ q = t.1 := fun z => e z.symm
      simp [e']
theorem lk_of_mem {ts : List Tm} (hn : (ts.map (·.1)).Nodup) {t : Tm} (h : t ∈ ts) : lk ts t.1 = some t.2 := by
  induction ts with
  | nil => cases h
  | cons a ts ih =>
    rw [List.map_cons, List.nodup_cons] at hn
    rw [lk_cons]
    rcases List.mem_cons.mp h with e | e
    · rw [e, if_pos rfl]
    · rw [if_neg (fun z => hn.1 (by rw [z]; exact List.mem_map.mpr ⟨t, e, rfl⟩)), ih hn.2 e]
theorem putM_new {ts : List Tm} {q : Nat × Nat} (h : q ∉ ts.map (·.1)) (c : Int) : putM ts q c = ts ++ [(q, c)] := by
  unfold putM
  rw [if_neg]
  intro z
  obtain ⟨t, ht, e⟩ := List.any_eq_true.mp z
  exact h (List.mem_map.mpr ⟨t, ht, of_decide_eq_true e⟩)
theorem putM_length (ts : List Tm) (q : Nat × Nat) (c : Int) : (putM ts q c).length ≤ ts.length + 1 := by
  unfold putM
  split
  · rw [List.length_map]
    omega
  · rw [List.length_append]
    exact Nat.le_refl _
theorem putM_keys (ts : List Tm) (q : Nat × Nat) (c : Int) : (putM ts q c).map (·.1) = if (ts.any fun t => decide (t.1 = q)) = true then ts.map (·.1) else ts.map (·.1) ++ [q] := by
  unfold putM
  split
  · rw [List.map_map]
    refine List.map_congr_left fun t _ => ?_
    show (if t.1 = q then (t.1, c) else t).1 = t.1
    split <;> rfl
  · rw [List.map_append]
    rfl
theorem putM_nodup {ts : List Tm} (h : (ts.map (·.1)).Nodup) (q : Nat × Nat) (c : Int) : ((putM ts q c).map (·.1)).Nodup := by
  rw [putM_keys]
  split
  · exact h
  · rename_i x
    refine List.nodup_append.mpr ⟨h, by simp, fun a ha b hb => ?_⟩
    rw [List.mem_singleton] at hb
    rw [hb]
    intro e
    obtain ⟨t, ht, e'⟩ := List.mem_map.mp ha
    exact x (List.any_eq_true.mpr ⟨t, ht, decide_eq_true (e'.trans e)⟩)
theorem dropM_nodup {ts : List Tm} (h : (ts.map (·.1)).Nodup) (q : Nat × Nat) : ((dropM ts q).map (·.1)).Nodup :=
  List.Nodup.sublist (List.filter_sublist.map _) h
theorem dropM_length (ts : List Tm) (q : Nat × Nat) : (dropM ts q).length ≤ ts.length := List.length_filter_le _ _

/-! ### the field of p numbers -/
abbrev Pr (p : Nat) : Prop := p = 2 ∨ p = 3 ∨ p = 5 ∨ p = 7
abbrev Fq (p : Nat) := _root_.Fin p
theorem fd2 : K37.Fd (Fq 2) := ⟨by decide, by decide⟩
theorem fd3 : K37.Fd (Fq 3) := ⟨by decide, by decide⟩
theorem fd5 : K37.Fd (Fq 5) := ⟨by decide, by decide⟩
theorem fd7 : K37.Fd (Fq 7) := ⟨by decide, by decide⟩
theorem fd_of {p : Nat} [NeZero p] (hp : Pr p) : K37.Fd (Fq p) := by
  rcases hp with e | e | e | e
  · subst e
    exact fd2
  · subst e
    exact fd3
  · subst e
    exact fd5
  · subst e
    exact fd7
section
variable {p : Nat} [NeZero p]
theorem pos_p : (0 : Int) < (p : Int) := by
  have := NeZero.ne p
  omega
/-- an int as a number of the field -/
def red (z : Int) : Fq p := ⟨(z % (p : Int)).toNat, by
  have h1 := Int.emod_nonneg z (show (p : Int) ≠ 0 by have := NeZero.ne p; omega)
  have h2 := Int.emod_lt_of_pos z (pos_p (p := p))
  omega⟩
theorem red_val (z : Int) : ((red (p := p) z).val : Int) = z % (p : Int) := by
  have h1 := Int.emod_nonneg z (show (p : Int) ≠ 0 by have := NeZero.ne p; omega)
  show (((z % (p : Int)).toNat : Nat) : Int) = _
  omega
theorem red_ext {z : Int} {c : Fq p} (h : z % (p : Int) = (c.val : Int)) : red (p := p) z = c := by
  apply _root_.Fin.ext
  have := red_val (p := p) z
  omega
theorem red_add (a b : Int) : red (p := p) (a + b) = red a + red b := by
  apply red_ext
  rw [_root_.Fin.val_add, Int.natCast_emod, Int.natCast_add, red_val, red_val, ← Int.add_emod]
theorem red_mul (a b : Int) : red (p := p) (a * b) = red a * red b := by
  apply red_ext
  rw [_root_.Fin.val_mul, Int.natCast_emod, Int.natCast_mul, red_val, red_val, ← Int.mul_emod]
theorem red_zero : red (p := p) 0 = 0 := by
  apply red_ext
  rw [Int.zero_emod]
  rfl
theorem red_of_val (c : Fq p) : red (p := p) (c.val : Int) = c := by
  apply red_ext
  exact Int.emod_eq_of_lt (by omega) (by have := c.isLt; omega)
theorem red_mod (z : Int) : red (p := p) (z % (p : Int)) = red z := by
  apply red_ext
  rw [red_val, Int.emod_emod_of_dvd z (Int.dvd_refl _)]
theorem red_eq_zero {z : Int} : red (p := p) z = 0 ↔ z % (p : Int) = 0 := by
  constructor
  · intro h
    have k := red_val (p := p) z
    rw [h] at k
    rw [← k]
    rfl
  · intro h
    apply red_ext
    rw [h]
    rfl
theorem red_ne {c : Int} (h0 : 0 < c) (h1 : c < p) : red (p := p) c ≠ 0 := fun e => by
  rw [red_eq_zero, Int.emod_eq_of_lt (by omega) h1] at e
  omega
theorem red_one (hp : 1 < p) : red (p := p) 1 = 1 := by
  apply red_ext
  rw [Int.emod_eq_of_lt (by omega) (by omega)]
  show (1 : Int) = ((1 % p : Nat) : Int)
  rw [Nat.mod_eq_of_lt hp]
  rfl
theorem red_neg (a : Int) : red (p := p) (-a) = - red a := by
  have h := red_add (p := p) (-a) a
  rw [show -a + a = 0 by omega, red_zero] at h
  grind

/-! ### a book stands for a poly -/
/-- the number of x^i y^j -/
def cf (F : S2 (Fq p)) (q : Nat × Nat) : Fq p := (F.co q.2).co q.1
/-- not yet reduced -/
structure BkZ (p : Nat) [NeZero p] (ts : List Tm) (F : S2 (Fq p)) : Prop where
  nd : (ts.map (·.1)).Nodup
  co : ∀ q, cf F q = red ((lk ts q).getD 0)
structure Bk (p : Nat) [NeZero p] (ts : List Tm) (F : S2 (Fq p)) : Prop extends BkZ p ts F where
  rg : ∀ t, t ∈ ts → 0 < t.2 ∧ t.2 < (p : Int)
theorem cf_ext {F G : S2 (Fq p)} (h : ∀ q, cf F q = cf G q) : F = G := Pl.ext fun j => Pl.ext fun i => h (i, j)
theorem cf_add (F G : S2 (Fq p)) (q : Nat × Nat) : cf (F + G) q = cf F q + cf G q := by
  unfold cf
  rw [Pl.co_add, Pl.co_add]
theorem cf_sub (F G : S2 (Fq p)) (q : Nat × Nat) : cf (F - G) q = cf F q - cf G q := by
  unfold cf
  rw [Pl.co_sub, Pl.co_sub]
theorem cf_kap (c : Fq p) (F : S2 (Fq p)) (q : Nat × Nat) : cf (K37.kap c * F) q = c * cf F q := K37.co_kapmul c F q.1 q.2
theorem cf_zero (q : Nat × Nat) : cf (0 : S2 (Fq p)) q = 0 := by
  unfold cf
  rw [Pl.co_zero, Pl.co_zero]
/-- the poly of one term -/
def tm (q : Nat × Nat) (c : Fq p) : S2 (Fq p) := K37.mo (K37.mo c q.1) q.2
theorem cf_tm (q r : Nat × Nat) (c : Fq p) : cf (tm q c) r = if r = q then c else 0 := by
  unfold cf tm
  rw [K37.co_mo]
  by_cases h : r.2 = q.2
  · rw [if_pos h, K37.co_mo]
    by_cases k : r.1 = q.1
    · rw [if_pos k, if_pos (Prod.ext k h)]
    · rw [if_neg k, if_neg (fun e => k (by rw [e]))]
  · rw [if_neg h, Pl.co_zero, if_neg (fun e => h (by rw [e]))]
theorem Bk.lk_some {ts : List Tm} {F : S2 (Fq p)} (h : Bk p ts F) {q : Nat × Nat} {c : Int} (e : lk ts q = some c) : c = ((cf F q).val : Int) ∧ cf F q ≠ 0 := by
  have k := h.rg _ (lk_mem e)
  have z := h.co q
  rw [e] at z
  have z : cf F q = red c := z
  refine ⟨?_, by rw [z]; exact red_ne k.1 k.2⟩
  rw [z, red_val, Int.emod_eq_of_lt (by omega) k.2]
theorem Bk.lk_none {ts : List Tm} {F : S2 (Fq p)} (h : Bk p ts F) {q : Nat × Nat} : lk ts q = none ↔ cf F q = 0 := by
  constructor
  · intro e
    have z := h.co q
    rw [e] at z
    exact z.trans red_zero
  · intro e
    cases x : lk ts q with
    | none => rfl
    | some c => exact absurd e (h.lk_some x).2
theorem Bk.mem {ts : List Tm} {F : S2 (Fq p)} (h : Bk p ts F) {t : Tm} (ht : t ∈ ts) : t.2 = ((cf F t.1).val : Int) ∧ cf F t.1 ≠ 0 := h.lk_some (lk_of_mem h.nd ht)
theorem Bk.mem_key {ts : List Tm} {F : S2 (Fq p)} (h : Bk p ts F) {q : Nat × Nat} : q ∈ ts.map (·.1) ↔ cf F q ≠ 0 := by
  have a := h.lk_none (q := q)
  have b := @K37R.lk_none q ts
  constructor
  · intro m e
    exact (b.mp (a.mpr e)) m
  · intro e
    apply Classical.byContradiction
    intro m
    exact e (a.mp (b.mpr m))
theorem Bk.nil : Bk p [] 0 := ⟨⟨by simp, fun q => by rw [cf_zero]; exact red_zero.symm⟩, fun t h => nomatch h⟩
theorem Bk.eq_nil {ts : List Tm} {F : S2 (Fq p)} (h : Bk p ts F) : ts = [] ↔ F = 0 := by
  constructor
  · intro e
    subst e
    refine cf_ext fun q => ?_
    rw [cf_zero]
    exact h.lk_none.mp rfl
  · intro e
    cases ts with
    | nil => rfl
    | cons t r =>
      have k := (h.mem (List.mem_cons_self ..)).2
      rw [e] at k
      exact absurd (cf_zero _) k
theorem BkZ.put {ts : List Tm} {F : S2 (Fq p)} (h : BkZ p ts F) (q : Nat × Nat) (c : Int) (G : S2 (Fq p)) (hG : ∀ r, cf G r = if r = q then red c else cf F r) : BkZ p (putM ts q c) G where
  nd := putM_nodup h.nd q c
  co r := by
    rw [hG, lk_put]
    by_cases e : r = q
    · rw [if_pos e, if_pos e]
      rfl
    · rw [if_neg e, if_neg e, h.co r]
theorem mem_putM {ts : List Tm} {q : Nat × Nat} {c : Int} {t : Tm} (h : t ∈ putM ts q c) : t ∈ ts ∨ t = (q, c) := by
  unfold putM at h
  split at h
  · obtain ⟨u, hu, e⟩ := List.mem_map.mp h
    by_cases x : u.1 = q
    · rw [if_pos x] at e
      rw [← e, x]
      exact .inr rfl
    · rw [if_neg x] at e
      rw [← e]
      exact .inl hu
  · rcases List.mem_append.mp h with x | x
    · exact .inl x
    · exact .inr (List.mem_singleton.mp x)
theorem Bk.put {ts : List Tm} {F : S2 (Fq p)} (h : Bk p ts F) (q : Nat × Nat) {c : Int} (h0 : 0 < c) (h1 : c < p) (G : S2 (Fq p)) (hG : ∀ r, cf G r = if r = q then red c else cf F r) : Bk p (putM ts q c) G where
  toBkZ := h.toBkZ.put q c G hG
  rg t ht := by
    rcases mem_putM ht with e | e
    · exact h.rg t e
    · rw [e]
      exact ⟨h0, h1⟩
theorem Bk.drop {ts : List Tm} {F : S2 (Fq p)} (h : Bk p ts F) (q : Nat × Nat) (G : S2 (Fq p)) (hG : ∀ r, cf G r = if r = q then 0 else cf F r) : Bk p (dropM ts q) G where
  nd := dropM_nodup h.nd q
  co r := by
    rw [hG, lk_drop]
    by_cases e : r = q
    · rw [if_pos e, if_pos e]
      exact red_zero.symm
    · rw [if_neg e, if_neg e, h.co r]
  rg t ht := h.rg t (List.mem_filter.mp ht).1
end
end L2.K37R
end W0
section W1
set_option autoImplicit false
set_option linter.all false
set_option maxRecDepth 100000
namespace L2.K37R
open PySem PySem.Spec PyProof.Rows
open K37 (S2 Pl)

/-- a book stands at a -/
abbrev At (H : Hp) (a : Addr) (ts : List Tm) : Prop := H a = some (.dT (ts.map enc))
/-- a pair of powers -/
abbrev PairAt (H : Hp) (b : Addr) (q : Nat × Nat) : Prop := H b = some (.tup [.int (q.1 : Int), .int (q.2 : Int)])

/-- a def of the text, with its defaults -/
abbrev FnD (K : PySem.W.Frag) (x : Str) (st : Stmt) (dvs : List V) (f : Addr) (fd : FuncData) : Prop := FunD K x x (defArgs st) (defBody st) (defScope st) dvs [] f fd
abbrev FnP (K : PySem.W.Frag) (x : Str) (st : Stmt) (f : Addr) (fd : FuncData) : Prop := FnD K x st [] f fd
section
variable {P : Program} {w : World} {K : PySem.W.Frag} {mg : Str → Option Value} {base : Heap} {x : Str} {st : Stmt} {dvs : List V} {f : Addr} {fd : FuncData}
theorem okP {N ps : List Str} {k : Nat} {sp : Sp} (F : FnD K x st dvs f fd) (S : FnScope N ps (defScope st)) (len : ∀ vs H Q E, sp vs H Q E → vs.length = ps.length)
    (hbody : ∀ (cdv : Value) (A : Around) (outer : List Env) (s : Shared) (H : Hp) (vs : List V) (Q : VK) (E : XK), Room k (A.deeper (envOfC x (defScope st) s.heap.objs.size f cdv)) → sp vs H Q E →
      ∃ t, PSs (cxOf CX0 P w K mg base N x (defScope st) f cdv A outer s H E).nox (defBody st) t ∧ t { nx := fun _ H' => Q .non H', rt := Q } (start N vs) H) : FnOk P w K mg base CX0 (k + 1) f fd ps sp :=
  F.ok S len fun cdv A outer s H vs Q E hr h => let ⟨t, ht, q⟩ := hbody cdv A outer s H vs Q E hr h; ⟨t, ht.nox, q⟩
end
theorem same_upd_new {H : Hp} {p : Addr} {o : HO} (h : H p = none) : Same H (upd H p o) := fun b u e => by
  rw [upd_ne (ne_of_none e h)]
  exact e
theorem same_free {H0 H : Hp} {p : Addr} {o : HO} (s : Same H0 H) (h : H0 p = none) : Same H0 (upd H p o) := fun b u e => by
  rw [upd_ne (ne_of_none e h)]
  exact s _ _ e
section
variable {X : Cx} {a b : Expr} {ta tb : TE} {pos : Pos}
/-- t[i] of a tuple, the written part named -/
theorem pe_it {K : PySem.W.Frag} (ha : PE X a ta) (hb : PE X b tb) (hK : X.K = K := by rfl) (hs : PlainIx b := by exact fun _ _ => rfl) : PE X (.Subscript a b pos) (tOp (rIxT K) ta tb) := by
  subst hK
  exact pe_ix ix_tup ha hb hs
/-- xs[i] of a list -/
theorem pe_il {K : PySem.W.Frag} (ha : PE X a ta) (hb : PE X b tb) (hK : X.K = K := by rfl) (hs : PlainIx b := by exact fun _ _ => rfl) : PE X (.Subscript a b pos) (tOp (rIxL K) ta tb) := by
  subst hK
  exact pe_ix ix_list ha hb hs
end
theorem wipe_set (σ : St) (i : Nat) (x : Option V) : wipe ((wipe σ [i]).set i x) [i] = wipe σ [i] := by
  show ((σ.set i none).set i x).set i none = σ.set i none
  rw [List.set_set, List.set_set]
theorem filterMap_nodup_pre {f : Tm → Option Tm} {ts : List Tm} (h : ((ts.filterMap f).map (·.1)).Nodup) {i : Nat} {t t' : Tm} (ht : ts[i]? = some t) (hf : f t = some t') : t'.1 ∉ ((ts.take i).filterMap f).map (·.1) := by
  have hi := (List.getElem?_eq_some_iff.mp ht).1
  have e : ts = ts.take i ++ t :: ts.drop (i + 1) := by
    have k := List.take_append_drop i ts
    rw [List.drop_eq_getElem_cons hi, (List.getElem?_eq_some_iff.mp ht).2] at k
    exact k.symm
  rw [e, List.filterMap_append, List.filterMap_cons, hf, List.map_append] at h
  intro m
  exact (List.nodup_append.mp h).2.2 _ m _ (List.mem_map.mpr ⟨t', List.mem_cons_self .., rfl⟩) rfl
theorem take_filterMap_some {f : Tm → Option Tm} {ts : List Tm} {i : Nat} {t t' : Tm} (ht : ts[i]? = some t) (hf : f t = some t') : (ts.take (i + 1)).filterMap f = (ts.take i).filterMap f ++ [t'] := by
  rw [List.take_add_one, ht, List.filterMap_append]
  simp [hf]
theorem take_filterMap_none {f : Tm → Option Tm} {ts : List Tm} {i : Nat} {t : Tm} (ht : ts[i]? = some t) (hf : f t = none) : (ts.take (i + 1)).filterMap f = (ts.take i).filterMap f := by
  rw [List.take_add_one, ht, List.filterMap_append]
  simp [hf]
/-- the keys of a book, one after another -/
theorem get_enc {ts : List Tm} {i : Nat} {k : List Key} {v : V} (h : (ts.map enc)[i]? = some (k, v)) : ∃ t, ts[i]? = some t ∧ k = ky t.1 ∧ v = .int t.2 := by
  rw [List.getElem?_map] at h
  cases e : ts[i]? with
  | none =>
    rw [e] at h
    cases h
  | some t =>
    rw [e] at h
    have h' := Option.some.inj h
    injection h' with h1 h2
    exact ⟨t, rfl, h1.symm, h2.symm⟩
/-- a comprehension over a book: its terms turned or left out by f -/
theorem dcT_book {i j : Nat} {a : Addr} {ts : List Tm} {σ : St} {H : Hp} {Q : VK} {tt : TT} {tk tv : TE} (f : Tm → Option Tm) (hj : σ[j]? = some (some (.ref a))) (hA : At H a ts) (hL : ts.length < sizeLine) (hn : ((ts.filterMap f).map (·.1)).Nodup)
    (body : ∀ (t : Tm) (H2 : Hp) (b : Addr) (R : V → V → Hp → Prop) (S : Hp → Prop), t ∈ ts → (∃ od, H2 a = some (.frz od (.dT (ts.map enc)))) → (∀ c o, c ≠ a → H c = some o → H2 c = some o) → PairAt H2 b t.1 →
      (∀ (t' : Tm) (H5 : Hp) (b' : Addr), f t = some t' → Same H2 H5 → PairAt H5 b' t'.1 → R (.ref b') (.int t'.2) H5) → (∀ H3, f t = none → Same H2 H3 → S H3) →
      tt ((wipe σ [i]).set i (some (.ref b))) H2 fun c H3 => if c = true then tk ((wipe σ [i]).set i (some (.ref b))) H3 fun y H4 => tv ((wipe σ [i]).set i (some (.ref b))) H4 fun z H5 => R y z H5 else S H3)
    (fin : ∀ H' q, Same H H' → H q = none → At H' q (ts.filterMap f) → Q (.ref q) H') :
    tLockE (tDcT (iKeys (tVar j)) (gName i) tt tk tv [i]) σ H Q := by
  refine ⟨a, _, hA, True.intro, fun od => ⟨.ref a, hj, a, od, rfl, .inr ⟨ts.map enc, upd_same, fun D hD => ?_⟩⟩⟩
  have hDa : D ≠ a := fun e => by
    rw [e, upd_same] at hD
    cases hD
  have hD0 : H D = none := by
    rw [upd_ne hDa] at hD
    exact hD
  refine dcT_it walk_keysT (fun n H' => Same (upd H a (.frz od (.dT (ts.map enc)))) H' ∧ At H' D ((ts.take n).filterMap f)) ⟨same_upd_new hD, upd_same⟩ (fun n H' _ p => p.1 _ _ upd_same) ?_ ?_
  · rintro n x H1 H2 hi ⟨s1, d1⟩ ⟨rfl, k, v, b, hk, rfl, hb⟩
    obtain ⟨t, ht, rfl, rfl⟩ := get_enc hk
    refine ⟨wipe_set σ i _, ?_⟩
    have other : ∀ c o, c ≠ a → H c = some o → H2 c = some o := fun c o hc e => s1 _ _ (by rw [upd_ne hc]; exact e)
    refine body t H2 b (fun y z H5 => ∃ kvs k b', y = .ref b' ∧ H5 b' = some (.tup (k.map kV)) ∧ H5 D = some (.dT kvs) ∧ kvs.length < sizeLine ∧ (Same (upd H a (.frz od (.dT (ts.map enc)))) (upd H5 D (.dT (putK kvs k z))) ∧ At (upd H5 D (.dT (putK kvs k z))) D ((ts.take (n + 1)).filterMap f))) _ (List.mem_of_getElem? ht) ⟨od, s1 _ _ upd_same⟩ other hb (fun t' H5 b' hf s5 hb' => ?_) (fun H3 hf s3 => ?_)
    · have d5 : At H5 D ((ts.take n).filterMap f) := s5 _ _ d1
      refine ⟨_, ky t'.1, b', rfl, hb', d5, ?_, same_free (s1.trans s5) hD, ?_⟩
      · rw [List.length_map]
        have := List.length_filterMap_le f (ts.take n)
        have := List.length_take_le' n ts
        omega
      · show upd H5 D (.dT (putK _ _ _)) D = _
        rw [upd_same, putK_enc, putM_new (filterMap_nodup_pre hn ht hf), take_filterMap_some ht hf]
    · exact ⟨s1.trans s3, by rw [take_filterMap_none ht hf]; exact s3 _ _ d1⟩
  · rintro H' ⟨s1, d1⟩
    rw [List.length_map, List.take_length] at d1
    refine ⟨s1 _ _ upd_same, fin _ D (fun c o e => ?_) hD0 ?_⟩
    · by_cases hc : c = a
      · rw [hc] at e ⊢
        rw [upd_same, ← e, hA]
      · rw [upd_ne hc]
        exact s1 _ _ (by rw [upd_ne hc]; exact e)
    · show upd H' a _ D = _
      rw [upd_ne hDa]
      exact d1
theorem filterMap_some_map {f : Tm → Tm} (ts : List Tm) : ts.filterMap (fun t => some (f t)) = ts.map f := by
  rw [← List.filterMap_eq_map]
  rfl
theorem dec_int (a b : Int) : decide (V.int a = V.int b) = decide (a = b) := by
  by_cases h : a = b
  · rw [h, decide_eq_true rfl, decide_eq_true rfl]
  · rw [decide_eq_false h, decide_eq_false (fun e => h (V.int.inj e))]
theorem ite_eqI {a b : Int} {A B : Prop} (h1 : a = b → A) (h2 : a ≠ b → B) : if decide (V.int a = V.int b) = true then A else B := by
  rw [dec_int]
  by_cases h : a = b
  · rw [decide_eq_true h, if_pos rfl]
    exact h1 h
  · rw [decide_eq_false h, if_neg Bool.false_ne_true]
    exact h2 h
theorem ite_neI {a b : Int} {A B : Prop} (h1 : a ≠ b → A) (h2 : a = b → B) : if (!decide (V.int a = V.int b)) = true then A else B := by
  rw [dec_int]
  by_cases h : a = b
  · rw [decide_eq_true h]
    exact iteF (h2 h)
  · rw [decide_eq_false h]
    exact iteT (h1 h)
theorem tyes {σ : St} {H : Hp} {F G : Hp → Prop} (h : F H) : tYes σ H (fun b H3 => if b = true then F H3 else G H3) := iteT (B := G H) h
/-- without a test -/
theorem dcT_all {i j : Nat} {a : Addr} {ts : List Tm} {σ : St} {H : Hp} {Q : VK} {tk tv : TE} (f : Tm → Tm) (hj : σ[j]? = some (some (.ref a))) (hA : At H a ts) (hL : ts.length < sizeLine) (hn : ((ts.map f).map (·.1)).Nodup)
    (body : ∀ (t : Tm) (H2 : Hp) (b : Addr) (R : V → V → Hp → Prop), t ∈ ts → (∃ od, H2 a = some (.frz od (.dT (ts.map enc)))) → (∀ c o, c ≠ a → H c = some o → H2 c = some o) → PairAt H2 b t.1 →
      (∀ (H5 : Hp) (b' : Addr), Same H2 H5 → PairAt H5 b' (f t).1 → R (.ref b') (.int (f t).2) H5) →
      tk ((wipe σ [i]).set i (some (.ref b))) H2 fun y H4 => tv ((wipe σ [i]).set i (some (.ref b))) H4 fun z H5 => R y z H5)
    (fin : ∀ H' q, Same H H' → H q = none → At H' q (ts.map f) → Q (.ref q) H') :
    tLockE (tDcT (iKeys (tVar j)) (gName i) tYes tk tv [i]) σ H Q := by
  rw [← filterMap_some_map] at fin hn
  refine dcT_book (fun t => some (f t)) hj hA hL hn (fun t H2 b R S ht ha ho hb yes no => ?_) fin
  refine iteT (B := S H2) ?_
  exact body t H2 b R ht ha ho hb fun H5 b' s hb' => yes (f t) H5 b' rfl s hb'
/-- a book behind a new object is locked as before -/
theorem rd_keep {H2 H3 : Hp} {a : Addr} {o : HO} (ha : ∃ od, H2 a = some (.frz od o)) (s : Same H2 H3) : Rd H3 a o := let ⟨od, e⟩ := ha; .inr ⟨od, s _ _ e⟩
theorem dget_book {H : Hp} {a b : Addr} {ts : List Tm} {q : Nat × Nat} (ha : Rd H a (.dT (ts.map enc))) (hb : PairAt H b q) : DGet H a (.ref b) ((lk ts q).map V.int) :=
  .inr ⟨ts.map enc, ky q, b, ha, rfl, hb, (valV_enc q ts).symm⟩
theorem dget_mem {H : Hp} {a b : Addr} {ts : List Tm} {t : Tm} (ha : Rd H a (.dT (ts.map enc))) (hb : PairAt H b t.1) (hN : (ts.map (·.1)).Nodup) (ht : t ∈ ts) : DGet H a (.ref b) (some (.int t.2)) := by
  have k := dget_book ha hb
  rw [lk_of_mem hN ht] at k
  exact k
end L2.K37R
end W1
section W2
set_option autoImplicit false
set_option linter.all false
set_option maxRecDepth 100000
namespace L2.K37R
open PySem PySem.Spec PyProof.Rows
open K37 (S2 Pl)

theorem at0 {x y : V} : atI [x, y] 0 = some x := rfl
theorem at1 {x y : V} : atI [x, y] 1 = some y := rfl

abbrev sMoved : Stmt := top 28
abbrev sRaised : Stmt := top 44
abbrev sPart : Stmt := top 23
abbrev sScaled : Stmt := top 27

def mvT (n : Nat) (t : Tm) : Tm := ((t.1.1 + n, t.1.2), t.2)
def rsT (n : Nat) (t : Tm) : Tm := ((t.1.1, t.1.2 + n), t.2)
def ptT (z : Int) (t : Tm) : Option Tm := if (t.1.2 : Int) = z then some ((t.1.1, 0), t.2) else none
def scT (p : Nat) (z : Int) (t : Tm) : Option Tm := if t.2 * z % (p : Int) ≠ 0 then some (t.1, t.2 * z % (p : Int)) else none

def spMoved : Sp := fun vs H Q _ => ∃ (a : Addr) (ts : List Tm) (n : Nat), vs = [.ref a, .int n] ∧ At H a ts ∧ (ts.map (·.1)).Nodup ∧ ts.length < sizeLine ∧
  ∀ H' q, Same H H' → H q = none → At H' q (ts.map (mvT n)) → Q (.ref q) H'
def spRaised : Sp := fun vs H Q _ => ∃ (a : Addr) (ts : List Tm) (n : Nat), vs = [.ref a, .int n] ∧ At H a ts ∧ (ts.map (·.1)).Nodup ∧ ts.length < sizeLine ∧
  ∀ H' q, Same H H' → H q = none → At H' q (ts.map (rsT n)) → Q (.ref q) H'
def spPart : Sp := fun vs H Q _ => ∃ (a : Addr) (ts : List Tm) (z : Int), vs = [.ref a, .int z] ∧ At H a ts ∧ (ts.map (·.1)).Nodup ∧ ts.length < sizeLine ∧
  ∀ H' q, Same H H' → H q = none → At H' q (ts.filterMap (ptT z)) → Q (.ref q) H'
def spScaled : Sp := fun vs H Q _ => ∃ (p : Nat) (a : Addr) (ts : List Tm) (z : Int), vs = [.int p, .ref a, .int z] ∧ 1 < p ∧ At H a ts ∧ (ts.map (·.1)).Nodup ∧ ts.length < sizeLine ∧ (∀ t, t ∈ ts → -(2 ^ 64) < t.2 ∧ t.2 < 2 ^ 64) ∧
  ∀ H' q, Same H H' → H q = none → At H' q (ts.filterMap (scT p z)) → Q (.ref q) H'

theorem nodup_map_inj {ts : List Tm} (h : (ts.map (·.1)).Nodup) (f : Tm → Tm) (g : Nat × Nat → Nat × Nat) (hf : ∀ t, (f t).1 = g t.1) (hg : ∀ a b, g a = g b → a = b) : (((ts.map f)).map (·.1)).Nodup := by
  rw [List.map_map]
  have e : ts.map ((fun t : Tm => t.1) ∘ f) = (ts.map (·.1)).map g := by
    rw [List.map_map]
    exact List.map_congr_left fun t _ => hf t
  rw [e]
  have : List.Pairwise (· ≠ ·) (ts.map (·.1)) := h
  show List.Pairwise (· ≠ ·) ((ts.map (·.1)).map g)
  rw [List.pairwise_map]
  exact this.imp fun {a b} hab e => hab (hg _ _ e)
theorem nodup_part {ts : List Tm} (h : (ts.map (·.1)).Nodup) (z : Int) : ((ts.filterMap (ptT z)).map (·.1)).Nodup := by
  show List.Pairwise (· ≠ ·) _
  rw [List.pairwise_map, List.pairwise_filterMap]
  have k : List.Pairwise (· ≠ ·) (ts.map (·.1)) := h
  rw [List.pairwise_map] at k
  refine k.imp fun {a b} hab x hx y hy e => hab ?_
  unfold ptT at hx hy
  split at hx
  · split at hy
    · rename_i h1 h2
      have ex := Option.some.inj hx
      have ey := Option.some.inj hy
      rw [← ex, ← ey] at e
      have e1 : a.1.1 = b.1.1 := congrArg (·.1) e
      exact Prod.ext e1 (by omega)
    · cases hy
  · cases hx
theorem nodup_keep {ts : List Tm} (h : (ts.map (·.1)).Nodup) {f : Tm → Option Tm} (hf : ∀ t t', f t = some t' → t'.1 = t.1) : ((ts.filterMap f).map (·.1)).Nodup := by
  show List.Pairwise (· ≠ ·) _
  rw [List.pairwise_map, List.pairwise_filterMap]
  have k : List.Pairwise (· ≠ ·) (ts.map (·.1)) := h
  rw [List.pairwise_map] at k
  refine k.imp fun {a b} hab x hx y hy e => hab ?_
  rw [← hf _ _ hx, ← hf _ _ hy, e]
theorem scT_key (p : Nat) (z : Int) (t t' : Tm) (h : scT p z t = some t') : t'.1 = t.1 := by
  unfold scT at h
  split at h
  · have := Option.some.inj h
    rw [← this]
  · cases h

section
variable {P : Program} {w : World} {K : PySem.W.Frag} {mg : Str → Option Value} {base : Heap}
theorem scMoved : FnScope ["book", "power", "pair"] ["book", "power"] (defScope sMoved) := ⟨rfl, rfl, rfl, by decide +kernel, rfl, by decide +kernel, by decide +kernel⟩
theorem ok_moved {f : Addr} {fd : FuncData} (F : FnP K "moved_up" sMoved f fd) : FnOk P w K mg base CX0 1 f fd ["book", "power"] spMoved := by
  refine okP F scMoved (fun vs H Q E h => ?_) (fun cdv A outer s H vs Q E hr h => ?_)
  · obtain ⟨a, ts, n, rfl, _⟩ := h
    rfl
  · obtain ⟨a, ts, n, rfl, hA, hN, hL, k⟩ := h
    have hu := hu_of hr
    have nd := scMoved.nd
    refine ⟨_, pss_one (ps_ret (pe_lock (pe_dcT (own := [("pair", 2)]) (g := gName 2) (tt := tYes) (Nat.lt_of_succ_lt hu) rfl nd (pi_keys (pv 0)) (blkOk_by (N := ["book", "power", "pair"]) (sc := defScope sMoved) (by decide +kernel))
      (fun _ _ _ _ _ => pg_name (i := 2) nd rfl (Or.inl rfl)) (fun _ _ _ _ _ => pts_nil)
      (fun _ _ _ _ _ => pe_tup (pa_cons (pe_op op_add (pe_it (K := K) (pv 2) pe_int) (pv 1)) (pa_cons (pe_it (K := K) (pv 2) pe_int) pa_nil)))
      (fun _ _ _ _ _ => pe_dget hu (pv 0) (pv 2) (fun _ _ => rfl))))), ?_⟩
    have hm := nodup_map_inj hN (mvT n) (fun q => (q.1 + n, q.2)) (fun _ => rfl) (fun a b e => by injection e with e1 e2; exact Prod.ext (by omega) e2)
    refine dcT_all (i := 2) (j := 0) (mvT n) rfl hA hL hm (fun t H2 b R ht ha ho hb yes => ?_) k
    refine ⟨_, rfl, b, _, _, _, rfl, rfl, SqT.of hb, at0, _, rfl, _, _, rfl, rfl, _, rfl, b, _, _, _, rfl, rfl, SqT.of hb, at1, by show 2 ≤ sizeLine; decide, fun c hc => ?_⟩
    exact ⟨_, rfl, _, rfl, a, _, rfl, dget_mem (rd_keep ha (same_upd_new hc)) (same_upd_new hc _ _ hb) hN ht, yes _ c (same_upd_new hc) upd_same⟩
theorem scRaised : FnScope ["book", "power", "pair"] ["book", "power"] (defScope sRaised) := ⟨rfl, rfl, rfl, by decide +kernel, rfl, by decide +kernel, by decide +kernel⟩
theorem ok_raised {f : Addr} {fd : FuncData} (F : FnP K "raised" sRaised f fd) : FnOk P w K mg base CX0 1 f fd ["book", "power"] spRaised := by
  refine okP F scRaised (fun vs H Q E h => ?_) (fun cdv A outer s H vs Q E hr h => ?_)
  · obtain ⟨a, ts, n, rfl, _⟩ := h
    rfl
  · obtain ⟨a, ts, n, rfl, hA, hN, hL, k⟩ := h
    have hu := hu_of hr
    have nd := scRaised.nd
    refine ⟨_, pss_one (ps_ret (pe_lock (pe_dcT (own := [("pair", 2)]) (g := gName 2) (tt := tYes) (Nat.lt_of_succ_lt hu) rfl nd (pi_keys (pv 0)) (blkOk_by (N := ["book", "power", "pair"]) (sc := defScope sRaised) (by decide +kernel))
      (fun _ _ _ _ _ => pg_name (i := 2) nd rfl (Or.inl rfl)) (fun _ _ _ _ _ => pts_nil)
      (fun _ _ _ _ _ => pe_tup (pa_cons (pe_it (K := K) (pv 2) pe_int) (pa_cons (pe_op op_add (pe_it (K := K) (pv 2) pe_int) (pv 1)) pa_nil)))
      (fun _ _ _ _ _ => pe_dget hu (pv 0) (pv 2) (fun _ _ => rfl))))), ?_⟩
    have hm := nodup_map_inj hN (rsT n) (fun q => (q.1, q.2 + n)) (fun _ => rfl) (fun a b e => by injection e with e1 e2; exact Prod.ext e1 (by omega))
    refine dcT_all (i := 2) (j := 0) (rsT n) rfl hA hL hm (fun t H2 b R ht ha ho hb yes => ?_) k
    refine ⟨_, rfl, b, _, _, _, rfl, rfl, SqT.of hb, at0, _, rfl, b, _, _, _, rfl, rfl, SqT.of hb, at1, _, rfl, _, _, rfl, rfl, by show 2 ≤ sizeLine; decide, fun c hc => ?_⟩
    exact ⟨_, rfl, _, rfl, a, _, rfl, dget_mem (rd_keep ha (same_upd_new hc)) (same_upd_new hc _ _ hb) hN ht, yes _ c (same_upd_new hc) upd_same⟩
theorem scPart : FnScope ["book", "power", "pair"] ["book", "power"] (defScope sPart) := ⟨rfl, rfl, rfl, by decide +kernel, rfl, by decide +kernel, by decide +kernel⟩
theorem ok_part {f : Addr} {fd : FuncData} (F : FnP K "part_at" sPart f fd) : FnOk P w K mg base CX0 1 f fd ["book", "power"] spPart := by
  refine okP F scPart (fun vs H Q E h => ?_) (fun cdv A outer s H vs Q E hr h => ?_)
  · obtain ⟨a, ts, n, rfl, _⟩ := h
    rfl
  · obtain ⟨a, ts, z, rfl, hA, hN, hL, k⟩ := h
    have hu := hu_of hr
    have nd := scPart.nd
    refine ⟨_, pss_one (ps_ret (pe_lock (pe_dcT (own := [("pair", 2)]) (g := gName 2) (Nat.lt_of_succ_lt hu) rfl nd (pi_keys (pv 0)) (blkOk_by (N := ["book", "power", "pair"]) (sc := defScope sPart) (by decide +kernel))
      (fun _ _ _ _ _ => pg_name (i := 2) nd rfl (Or.inl rfl)) (fun _ _ _ _ _ => pts_one (pt_cmpR op_eq (pe_it (K := K) (pv 2) pe_int) (pv 1) (nomark _)))
      (fun _ _ _ _ _ => pe_tup (pa_cons (pe_it (K := K) (pv 2) pe_int) (pa_cons pe_int pa_nil)))
      (fun _ _ _ _ _ => pe_dget hu (pv 0) (pv 2) (fun _ _ => rfl))))), ?_⟩
    refine dcT_book (i := 2) (j := 0) (ptT z) rfl hA hL (nodup_part hN z) (fun t H2 b R S ht ha ho hb yes no => ?_) k
    refine ⟨_, rfl, b, _, _, _, rfl, rfl, SqT.of hb, at1, _, rfl, rfl, _, rfl, ite_eqI (fun e => ?_) (fun e => ?_)⟩
    · have hf : ptT z t = some ((t.1.1, 0), t.2) := if_pos e
      refine ⟨_, rfl, b, _, _, _, rfl, rfl, SqT.of hb, at0, by show 2 ≤ sizeLine; decide, fun c hc => ?_⟩
      exact ⟨_, rfl, _, rfl, a, _, rfl, dget_mem (rd_keep ha (same_upd_new hc)) (same_upd_new hc _ _ hb) hN ht, yes ((t.1.1, 0), t.2) _ c hf (same_upd_new hc) upd_same⟩
    · exact no _ (if_neg e) (Same.refl _)
theorem scScaled : FnScope ["prime", "book", "number", "pair"] ["prime", "book", "number"] (defScope sScaled) := ⟨rfl, rfl, rfl, by decide +kernel, rfl, by decide +kernel, by decide +kernel⟩
theorem ok_scaled {f : Addr} {fd : FuncData} (F : FnP K "scaled" sScaled f fd) : FnOk P w K mg base CX0 1 f fd ["prime", "book", "number"] spScaled := by
  refine okP F scScaled (fun vs H Q E h => ?_) (fun cdv A outer s H vs Q E hr h => ?_)
  · obtain ⟨p, a, ts, z, rfl, _⟩ := h
    rfl
  · obtain ⟨p, a, ts, z, rfl, hp, hA, hN, hL, hS, k⟩ := h
    have hu := hu_of hr
    have nd := scScaled.nd
    have hp0 : (0 : Int) < (p : Int) := by omega
    refine ⟨_, pss_one (ps_ret (pe_lock (pe_dcT (own := [("pair", 3)]) (g := gName 3) (Nat.lt_of_succ_lt hu) rfl nd (pi_keys (pv 1)) (blkOk_by (N := ["prime", "book", "number", "pair"]) (sc := defScope sScaled) (by decide +kernel))
      (fun _ _ _ _ _ => pg_name (i := 3) nd rfl (Or.inl rfl)) (fun _ _ _ _ _ => pts_one (pt_cmpR op_ne (pe_op op_mod (pe_op op_mul (pe_dget hu (pv 1) (pv 3) (fun _ _ => rfl)) (pv 2)) (pv 0)) pe_int (nomark _)))
      (fun _ _ _ _ _ => pv 3) (fun _ _ _ _ _ => pe_op op_mod (pe_op op_mul (pe_dget hu (pv 1) (pv 3) (fun _ _ => rfl)) (pv 2)) (pv 0))))), ?_⟩
    refine dcT_book (i := 3) (j := 1) (scT p z) rfl hA hL (nodup_keep hN (scT_key p z)) (fun t H2 b R S ht ha ho hb yes no => ?_) k
    have hg := dget_mem (rd_keep ha (Same.refl _)) hb hN ht
    refine ⟨_, rfl, _, rfl, a, _, rfl, hg, _, rfl, _, _, rfl, rfl, .inl (hS t ht), _, rfl, _, _, rfl, rfl, hp0, rfl, _, rfl, ite_neI (fun e => ?_) (fun e => ?_)⟩
    · have hf : scT p z t = some (t.1, t.2 * z % (p : Int)) := if_pos e
      exact ⟨_, rfl, _, rfl, _, rfl, a, _, rfl, hg, _, rfl, _, _, rfl, rfl, .inl (hS t ht), _, rfl, _, _, rfl, rfl, hp0, yes _ _ b hf (Same.refl _) hb⟩
    · exact no _ (if_neg (fun z => z e)) (Same.refl _)
end
end L2.K37R
end W2
section W3
set_option autoImplicit false
set_option linter.all false
set_option maxRecDepth 100000
namespace L2.K37R
open PySem PySem.Spec PyProof.Rows
open K37 (S2 Pl)

/-- a list comprehension over a book -/
theorem lc_book {i j : Nat} {a : Addr} {ts : List Tm} {σ : St} {H : Hp} {Q : VK} {tt : TT} {te : TE} (f : Tm → Option V) (hj : σ[j]? = some (some (.ref a))) (hA : At H a ts) (hL : ts.length < sizeLine)
    (body : ∀ (t : Tm) (H2 : Hp) (b : Addr) (R : V → Hp → Prop) (S : Hp → Prop), t ∈ ts → (∃ od, H2 a = some (.frz od (.dT (ts.map enc)))) → (∀ c o, c ≠ a → H c = some o → H2 c = some o) → PairAt H2 b t.1 →
      (∀ (v : V) (H5 : Hp), f t = some v → Same H2 H5 → R v H5) → (∀ H3, f t = none → Same H2 H3 → S H3) →
      tt ((wipe σ [i]).set i (some (.ref b))) H2 fun c H3 => if c = true then te ((wipe σ [i]).set i (some (.ref b))) H3 R else S H3)
    (fin : ∀ H' q, Same H H' → H q = none → H' q = some (.lst (ts.filterMap f)) → Q (.ref q) H') :
    tLockE (tLc (iKeys (tVar j)) (gName i) tt te [i]) σ H Q := by
  refine ⟨a, _, hA, True.intro, fun od => ⟨.ref a, hj, a, od, rfl, .inr ⟨ts.map enc, upd_same, fun D hD => ?_⟩⟩⟩
  have hDa : D ≠ a := fun e => by
    rw [e, upd_same] at hD
    cases hD
  have hD0 : H D = none := by
    rw [upd_ne hDa] at hD
    exact hD
  refine lc_it walk_keysT (fun n H' => Same (upd H a (.frz od (.dT (ts.map enc)))) H' ∧ H' D = some (.lst ((ts.take n).filterMap f))) ⟨same_upd_new hD, upd_same⟩ (fun n H' _ p => p.1 _ _ upd_same) ?_ ?_
  · rintro n x H1 H2 hi ⟨s1, d1⟩ ⟨rfl, k, v, b, hk, rfl, hb⟩
    obtain ⟨t, ht, rfl, rfl⟩ := get_enc hk
    refine ⟨wipe_set σ i _, ?_⟩
    have other : ∀ c o, c ≠ a → H c = some o → H2 c = some o := fun c o hc e => s1 _ _ (by rw [upd_ne hc]; exact e)
    refine body t H2 b (fun y H5 => ∃ acc, H5 D = some (.lst acc) ∧ acc.length < sizeLine ∧ (Same (upd H a (.frz od (.dT (ts.map enc)))) (upd H5 D (.lst (acc ++ [y]))) ∧ (upd H5 D (.lst (acc ++ [y]))) D = some (.lst ((ts.take (n + 1)).filterMap f)))) _ (List.mem_of_getElem? ht) ⟨od, s1 _ _ upd_same⟩ other hb (fun v H5 hf s5 => ?_) (fun H3 hf s3 => ?_)
    · refine ⟨_, s5 _ _ d1, ?_, same_free (s1.trans s5) hD, ?_⟩
      · have := List.length_filterMap_le f (ts.take n)
        have := List.length_take_le' n ts
        omega
      · rw [upd_same, List.take_add_one, ht, List.filterMap_append]
        simp [hf]
    · refine ⟨s1.trans s3, ?_⟩
      rw [List.take_add_one, ht, List.filterMap_append]
      simp [hf, s3 _ _ d1]
  · rintro H' ⟨s1, d1⟩
    rw [List.length_map, List.take_length] at d1
    refine ⟨s1 _ _ upd_same, fin _ D (fun c o e => ?_) hD0 ?_⟩
    · by_cases hc : c = a
      · rw [hc] at e ⊢
        rw [upd_same, ← e, hA]
      · rw [upd_ne hc]
        exact s1 _ _ (by rw [upd_ne hc]; exact e)
    · rw [upd_ne hDa]
      exact d1

/-! ### highest -/
abbrev sHighest : Stmt := top 18
def gx (s : Nat) (q : Nat × Nat) : Nat := if s = 0 then q.1 else q.2
def IsHi (s : Nat) (ts : List Tm) (m : Int) : Prop := (ts = [] ∧ m = -1) ∨ ((∃ t, t ∈ ts ∧ m = (gx s t.1 : Int)) ∧ ∀ t, t ∈ ts → (gx s t.1 : Int) ≤ m)
def spHighest : Sp := fun vs H Q _ => ∃ (a : Addr) (ts : List Tm) (s : Nat), vs = [.ref a, .int s] ∧ s ≤ 1 ∧ At H a ts ∧ ts.length < sizeLine ∧
  ∀ H' m, Same H H' → IsHi s ts m → Q (.int m) H'
section
variable {P : Program} {w : World} {K : PySem.W.Frag} {mg : Str → Option Value} {base : Heap}
theorem scHighest : FnScope ["book", "spot", "pair"] ["book", "spot"] (defScope sHighest) := ⟨rfl, rfl, rfl, by decide +kernel, rfl, by decide +kernel, by decide +kernel⟩
theorem ok_highest {f : Addr} {fd : FuncData} (F : FnP K "highest" sHighest f fd) (zmax : mg "max" = none) : FnOk P w K mg base CX0 1 f fd ["book", "spot"] spHighest := by
  refine okP F scHighest (fun vs H Q E h => ?_) (fun cdv A outer s H vs Q E hr h => ?_)
  · obtain ⟨a, ts, n, rfl, _⟩ := h
    rfl
  · obtain ⟨a, ts, sp, rfl, hs1, hA, hL, k⟩ := h
    have hu := hu_of hr
    have nd := scHighest.nd
    refine ⟨_, pss_one (ps_ret (pe_callBK (cr_maxD rfl) (by rfl) zmax (by decide +kernel)
      (pa_cons (pe_lock (pe_lc (own := [("pair", 2)]) (g := gName 2) (tt := tYes) rfl nd (pi_keys (pv 0)) (blkOk_by (N := ["book", "spot", "pair"]) (sc := defScope sHighest) (by decide +kernel))
        (fun _ _ _ _ _ => pg_name (i := 2) nd rfl (Or.inl rfl)) (fun _ _ _ _ _ => pts_nil) (fun _ _ _ _ _ => pe_it (K := K) (pv 2) (pv 1)))) pa_nil) (pk_cons (pe_un un_neg pe_int) pk_nil))), ?_⟩
    refine lc_book (i := 2) (j := 0) (fun t => some (.int (gx sp t.1 : Int))) rfl hA hL (fun t H2 b R S ht ha ho hb yes no => ?_) (fun H' q s' hq hd => ?_)
    · refine iteT (B := S H2) ⟨_, rfl, _, rfl, b, _, _, _, rfl, rfl, SqT.of hb, ?_, yes _ _ rfl (Same.refl _)⟩
      have c : sp = 0 ∨ sp = 1 := by omega
      rcases c with e | e <;> subst e <;> rfl
    · have e1 : ts.filterMap (fun t => some (V.int (gx sp t.1 : Int))) = (ts.map fun t => (gx sp t.1 : Int)).map V.int := by
        rw [List.filterMap_eq_map', List.map_map]
        rfl
      rw [e1] at hd
      refine ⟨_, rfl, q, _, .int (-1), rfl, rfl, SqL.of hd, fun e => ?_, fun m hm hle => ?_⟩
      · exact k _ _ s' (.inl ⟨List.map_eq_nil_iff.mp e, rfl⟩)
      · obtain ⟨t, ht, e⟩ := List.mem_map.mp hm
        exact k _ _ s' (.inr ⟨⟨t, ht, e.symm⟩, fun u hu => hle _ (List.mem_map.mpr ⟨u, hu, rfl⟩)⟩)
end
end L2.K37R
end W3
section HX
set_option autoImplicit false
set_option linter.all false
set_option maxRecDepth 100000
/-! The hashes of small pairs of numbers differ. -/
namespace L2.K37R
open PySem PySem.Spec PyProof.Rows

def rotN (x : Nat) : Nat := (x * 2147483648) % 18446744073709551616 + x / 8589934592
def addN (acc h : Nat) : Nat := (acc + h * 14029467366897019727) % 18446744073709551616
def stN (acc h : Nat) : Nat := (rotN (addN acc h) * 11400714785074694791) % 18446744073709551616
def finN (acc : Nat) : Nat := (acc + 2870177450013471924) % 18446744073709551616
def outN (acc : Nat) : Int := if acc == 18446744073709551615 then 1546275796 else if acc < 9223372036854775808 then (acc : Int) else (acc : Int) - 18446744073709551616
def fstN (i : Nat) : Nat := stN 2870177450012600261 i

theorem rotN_eq (x : Nat) : rotN x = (x % 8589934592) * 2147483648 + x / 8589934592 := by
  unfold rotN
  rw [show 18446744073709551616 = 8589934592 * 2147483648 from rfl, Nat.mul_mod_mul_right]
theorem rotN_inj {x y : Nat} (hx : x < 18446744073709551616) (hy : y < 18446744073709551616) (h : rotN x = rotN y) : x = y := by
  rw [rotN_eq, rotN_eq] at h
  omega
theorem rotN_lt {x : Nat} (hx : x < 18446744073709551616) : rotN x < 18446744073709551616 := by
  rw [rotN_eq]
  omega
theorem mulN_back {x : Nat} (hx : x < 18446744073709551616) : (x * 11400714785074694791 % 18446744073709551616) * 614540362697595703 % 18446744073709551616 = x := by
  rw [Nat.mul_mod, Nat.mod_mod, ← Nat.mul_mod, Nat.mul_assoc, Nat.mul_mod, show (11400714785074694791 * 614540362697595703) % 18446744073709551616 = 1 from rfl, Nat.mul_one, Nat.mod_mod, Nat.mod_eq_of_lt hx]
theorem mulN_inj {x y : Nat} (hx : x < 18446744073709551616) (hy : y < 18446744073709551616) (h : (x * 11400714785074694791) % 18446744073709551616 = (y * 11400714785074694791) % 18446744073709551616) : x = y := by
  rw [← mulN_back hx, h, mulN_back hy]
theorem addN_lt (a h : Nat) : addN a h < 18446744073709551616 := Nat.mod_lt _ (by decide)
theorem stN_lt (a h : Nat) : stN a h < 18446744073709551616 := Nat.mod_lt _ (by decide)
theorem stN_inj {a h b k : Nat} (e : stN a h = stN b k) : addN a h = addN b k :=
  rotN_inj (addN_lt _ _) (addN_lt _ _) (mulN_inj (rotN_lt (addN_lt _ _)) (rotN_lt (addN_lt _ _)) e)
theorem fstN_lt (i : Nat) : fstN i < 18446744073709551616 := by
  unfold fstN
  exact stN_lt _ _
def farN (a b : Nat) : Nat := (a + (18446744073709551616 - b)) * 839798700976720815 % 18446744073709551616
theorem farN_of {a b j k : Nat} (ha : a < 18446744073709551616) (hb : b < 18446744073709551616) (hj : j ≤ 255) (hk : k ≤ 255) (e : addN a j = addN b k) : farN a b = (k + 18446744073709551616 - j) % 18446744073709551616 := by
  unfold addN at e
  unfold farN
  omega
theorem table_far : ∀ i, i < 64 → ∀ j, j < 64 → i ≠ j → 256 ≤ farN (fstN i) (fstN j) ∧ farN (fstN i) (fstN j) + 256 ≤ 18446744073709551616 := by
  decide +kernel
theorem table_top : ∀ i, i < 64 → 256 ≤ farN 9148689060682678900 (fstN i) ∧ farN 9148689060682678900 (fstN i) + 256 ≤ 18446744073709551616 := by
  decide +kernel
theorem top_val : stN 9148689060682678900 0 = 15576566623696079691 := by decide +kernel
theorem finN_top {a j : Nat} (h : finN (stN a j) = 18446744073709551615) : addN a j = addN 9148689060682678900 0 := by
  refine stN_inj ?_
  rw [top_val]
  have l1 := stN_lt a j
  generalize stN a j = z at h l1
  unfold finN at h
  omega
theorem outN_inj {a b : Nat} (ha : a < 18446744073709551615) (hb : b < 18446744073709551615) (h : outN a = outN b) : a = b := by
  unfold outN at h
  have e1 : (a == 18446744073709551615) = false := by simp; omega
  have e2 : (b == 18446744073709551615) = false := by simp; omega
  rw [e1, e2] at h
  simp only [Bool.false_eq_true, if_false] at h
  split at h <;> split at h <;> omega
theorem not_top {i j : Nat} (hi : i < 64) (hj : j ≤ 255) : finN (stN (fstN i) j) < 18446744073709551615 := by
  have l : finN (stN (fstN i) j) < 18446744073709551616 := Nat.mod_lt _ (by decide)
  apply Classical.byContradiction
  intro h
  have k := finN_top (show finN (stN (fstN i) j) = 18446744073709551615 by omega)
  have f := farN_of (by decide) (fstN_lt i) (by omega : 0 ≤ 255) hj k.symm
  have t1 := (table_top i hi).1
  generalize farN 9148689060682678900 (fstN i) = z at f t1
  omega
def gAcc (m p1 p2 : Nat) (acc : Nat) (h : Int) : Nat :=
  let acc := (acc + (h % (m : Int)).toNat * p2) % m
  let acc := (acc * 2 ^ 31) % m + acc / 2 ^ 33
  (acc * p1) % m
def gOut (m : Nat) (acc : Nat) : Int := if acc == m - 1 then 1546275796 else if acc < 2 ^ 63 then acc else (acc : Int) - m
def gHash (m p1 p2 p5 x : Nat) (hashes : List Int) : Int := gOut m ((hashes.foldl (init := p5) (gAcc m p1 p2) + (hashes.length ^^^ (p5 ^^^ x))) % m)
theorem gHash_two (m p1 p2 p5 x : Nat) (a b : Int) : gHash m p1 p2 p5 x [a, b] = gOut m ((gAcc m p1 p2 (gAcc m p1 p2 p5 a) b + (2 ^^^ (p5 ^^^ x))) % m) := by
  unfold gHash
  rw [List.foldl_cons, List.foldl_cons, List.foldl_nil, List.length_cons, List.length_cons, List.length_nil]
theorem hash_gen (l : List Int) : Builtin.Tuple.tupleHashOf l = gHash (2 ^ 64) 11400714785074694791 14029467366897019727 2870177450012600261 3527539 l := by
  unfold Builtin.Tuple.tupleHashOf gHash gOut gAcc
  with_reducible rfl
theorem gAcc_st (acc : Nat) (h : Int) (i : Nat) (e : (h % ((2 ^ 64 : Nat) : Int)).toNat = i) : gAcc (2 ^ 64) 11400714785074694791 14029467366897019727 acc h = stN acc i := by
  unfold gAcc
  rw [e]
  unfold stN rotN addN
  simp only [Nat.reducePow]
theorem gOut_out (acc : Nat) : gOut (2 ^ 64) acc = outN acc := by
  unfold gOut outN
  simp only [Nat.reducePow, Nat.reduceSub]
  rfl
theorem hash_small (n : Nat) (hn : n ≤ 255) : hashInt (n : Int) = (n : Int) := by
  have e : rawHash (n : Int) = (n : Int) := by
    unfold rawHash
    have e1 : (((n : Int).natAbs : Nat) : Int) % ((2 ^ 61 - 1 : Nat) : Int) = (n : Int) := by omega
    rw [e1]
    have e2 : ¬ ((n : Int) < 0) := by omega
    simp only [e2, if_false]
    have e3 : (((n : Nat) : Int) == -1) = false := by
      rw [beq_eq_false_iff_ne]
      omega
    simp only [e3, Bool.false_eq_true, if_false]
  unfold hashInt
  rw [e]
  have e3 : (((n : Nat) : Int) == -1) = false := by
    rw [beq_eq_false_iff_ne]
    omega
  simp only [e3, Bool.false_eq_true, if_false]
theorem hash_pair (i j : Nat) (hi : i < 64) (hj : j ≤ 255) : hP [.inl (i : Int), .inl (j : Int)] = reduceHash (outN (finN (stN (fstN i) j))) := by
  have m : ∀ n : Nat, n ≤ 255 → ((n : Int) % ((2 ^ 64 : Nat) : Int)).toNat = n := fun n hn => by omega
  unfold hP
  simp only [List.map_cons, List.map_nil, hK]
  rw [hash_small i (by omega), hash_small j hj, hash_gen, gHash_two, gAcc_st _ _ i (m i (by omega)), gAcc_st _ _ j (m j hj), gOut_out]
  unfold finN fstN
  simp only [Nat.reducePow, Nat.reduceXor]
theorem reduce_out {a : Nat} (ha : a < 18446744073709551615) (h1 : outN a ≠ -1) : reduceHash (outN a) = outN a := by
  have r : -(2 ^ 63 : Int) ≤ outN a ∧ outN a < 2 ^ 63 := by
    unfold outN
    split
    · omega
    · split <;> omega
  unfold reduceHash
  have e1 : (-(2 ^ 63 : Int) ≤ outN a && outN a < 2 ^ 63) = true := by
    rw [Bool.and_eq_true]
    exact ⟨decide_eq_true r.1, decide_eq_true r.2⟩
  rw [if_pos e1, if_neg (by simpa using h1)]
theorem outN_ne {x : Nat} (hx : x < 18446744073709551615) : outN x ≠ -1 := fun e => by
  unfold outN at e
  have e1 : (x == 18446744073709551615) = false := by simp; omega
  rw [e1] at e
  simp only [Bool.false_eq_true, if_false] at e
  split at e <;> omega
theorem hash_inj {i j k l : Nat} (hi : i < 64) (hj : j ≤ 255) (hk : k < 64) (hl : l ≤ 255) (h : hP [.inl (i : Int), .inl (j : Int)] = hP [.inl (k : Int), .inl (l : Int)]) : i = k ∧ j = l := by
  rw [hash_pair i j hi hj, hash_pair k l hk hl] at h
  have a := not_top hi hj
  have b := not_top hk hl
  rw [reduce_out a (outN_ne a), reduce_out b (outN_ne b)] at h
  have e := outN_inj a b h
  have e2 : stN (fstN i) j = stN (fstN k) l := by
    have l1 := stN_lt (fstN i) j
    have l2 := stN_lt (fstN k) l
    generalize stN (fstN i) j = z1 at e l1
    generalize stN (fstN k) l = z2 at e l2
    unfold finN at e
    omega
  have f := farN_of (fstN_lt i) (fstN_lt k) hj hl (stN_inj e2)
  by_cases x : i = k
  · subst x
    refine ⟨rfl, ?_⟩
    have g : farN (fstN i) (fstN i) = 0 := by
      unfold farN
      rw [Nat.add_sub_cancel' (Nat.le_of_lt (fstN_lt i)), Nat.mul_mod_right]
    rw [g] at f
    omega
  · have t := table_far i hi k hk x
    generalize farN (fstN i) (fstN k) = z at f t
    omega
end L2.K37R
end HX
section W4
set_option autoImplicit false
set_option linter.all false
set_option maxRecDepth 100000
namespace L2.K37R
open PySem PySem.Spec PyProof.Rows
open K37 (S2 Pl)

/-! ### sizes -/
section
variable {p : Nat} [NeZero p]
/-- powers of x below m, of y below n -/
def Bd (F : S2 (Fq p)) (m n : Nat) : Prop := ∀ q, cf F q ≠ 0 → q.1 < m ∧ q.2 < n
theorem Bd.mono {F : S2 (Fq p)} {m n m' n' : Nat} (h : Bd F m n) (hm : m ≤ m') (hn : n ≤ n') : Bd F m' n' := fun q k => by
  have := h q k
  omega
theorem range_len (n : Nat) (l : List Int) (h : l.Nodup) (hb : ∀ x, x ∈ l → 0 ≤ x ∧ x < n) : l.length ≤ n := by
  have k := K37.pigeon (I := fun z : Int => z = 0) ⟨rfl, fun a b ha hb => by show a + b = 0; omega, fun a ha => by show -a = 0; omega⟩ ((List.range n).map fun i : Nat => (i : Int)) l
    (by have : List.Pairwise (· ≠ ·) l := h; exact this.imp fun {a b} hab e => hab (by omega))
    (fun x hx => ⟨x, List.mem_map.mpr ⟨x.toNat, by rw [List.mem_range]; have := hb x hx; omega, by have := hb x hx; omega⟩, by omega⟩)
  rw [List.length_map, List.length_range] at k
  exact k
theorem box_len {ks : List (Nat × Nat)} (h : ks.Nodup) {m n : Nat} (hb : ∀ q, q ∈ ks → q.1 < m ∧ q.2 < n) : ks.length ≤ m * n := by
  have k := range_len (m * n) (ks.map fun q => ((q.1 * n + q.2 : Nat) : Int)) (by
    show List.Pairwise (· ≠ ·) _
    rw [List.pairwise_map]
    have h' : List.Pairwise (· ≠ ·) ks := h
    refine (List.Pairwise.and_mem.mp h').imp ?_
    rintro a b ⟨ha, hb', hab⟩ e
    have e : a.1 * n + a.2 = b.1 * n + b.2 := by exact Int.ofNat.inj e
    have a2 := (hb a ha).2
    have b2 := (hb b hb').2
    have d : a.1 = b.1 := by
      have e1 : (a.2 + n * a.1) / n = a.1 := by
        rw [Nat.add_mul_div_left _ _ (by omega), Nat.div_eq_of_lt a2, Nat.zero_add]
      have e2 : (b.2 + n * b.1) / n = b.1 := by
        rw [Nat.add_mul_div_left _ _ (by omega), Nat.div_eq_of_lt b2, Nat.zero_add]
      rw [← e1, ← e2, Nat.mul_comm n a.1, Nat.mul_comm n b.1, Nat.add_comm a.2, Nat.add_comm b.2, e]
    exact hab (Prod.ext d (by rw [d] at e; omega))) (fun x hx => by
    obtain ⟨q, hq, e⟩ := List.mem_map.mp hx
    have k := hb q hq
    have : q.1 * n + q.2 < m * n := by
      calc q.1 * n + q.2 < q.1 * n + n := by omega
        _ = (q.1 + 1) * n := by rw [Nat.add_mul, Nat.one_mul]
        _ ≤ m * n := Nat.mul_le_mul_right n k.1
    omega)
  rw [List.length_map] at k
  exact k
theorem Bk.len {ts : List Tm} {F : S2 (Fq p)} (h : Bk p ts F) {m n : Nat} (hb : Bd F m n) : ts.length ≤ m * n := by
  have k := box_len h.nd (m := m) (n := n) fun q hq => hb q (h.mem_key.mp hq)
  rw [List.length_map] at k
  exact k
/-- small enough for all that is done with books -/
abbrev Sm (F : S2 (Fq p)) : Prop := Bd F 64 256
theorem Bk.len_sm {ts : List Tm} {F : S2 (Fq p)} (h : Bk p ts F) (hb : Sm F) : ts.length ≤ 16384 := h.len hb
theorem sm_line {n : Nat} (h : n ≤ 100000) : n < sizeLine := Nat.lt_of_le_of_lt h (by decide)
theorem Bk.line {ts : List Tm} {F : S2 (Fq p)} (h : Bk p ts F) (hb : Sm F) : ts.length < sizeLine := sm_line (by have := h.len_sm hb; omega)
theorem Bk.small {ts : List Tm} {F : S2 (Fq p)} (h : Bk p ts F) (hp : p ≤ 7) (t : Tm) (ht : t ∈ ts) : -(2 ^ 64) < t.2 ∧ t.2 < 2 ^ 64 := by
  have k := h.rg t ht
  constructor <;> omega
theorem hash_ky {q r : Nat × Nat} (h1 : q.1 < 64 ∧ q.2 < 256) (h2 : r.1 < 64 ∧ r.2 < 256) (h : hP (ky q) = hP (ky r)) : q = r := by
  have k := hash_inj h1.1 (show q.2 ≤ 255 by omega) h2.1 (show r.2 ≤ 255 by omega) h
  exact Prod.ext k.1 k.2
theorem hash_nodup {ts : List Tm} (hn : (ts.map (·.1)).Nodup) (hb : ∀ q, q ∈ ts.map (·.1) → q.1 < 64 ∧ q.2 < 256) : ((ts.map enc).map fun e => hP e.1).Nodup := by
  have ee : (ts.map enc).map (fun e => hP e.1) = ts.map fun t => hP (ky t.1) := by
    rw [List.map_map]
    rfl
  rw [ee]
  have k : List.Pairwise (fun a b : Tm => a.1 ≠ b.1) ts := List.pairwise_map.mp hn
  refine List.pairwise_map.mpr ((List.Pairwise.and_mem.mp k).imp ?_)
  rintro a b ⟨ha, hb', hab⟩ e
  exact hab (hash_ky (hb _ (List.mem_map.mpr ⟨a, ha, rfl⟩)) (hb _ (List.mem_map.mpr ⟨b, hb', rfl⟩)) e)
theorem Bk.hash {ts : List Tm} {F : S2 (Fq p)} (h : Bk p ts F) (hb : Sm F) : ((ts.map enc).map fun e => hP e.1).Nodup := hash_nodup h.nd fun q hq => hb q (h.mem_key.mp hq)
theorem enc_keys (ts : List Tm) : ∀ e, e ∈ ts.map enc → ∀ k, k ∈ e.1 → ∃ i, k = .inl i := by
  intro e he k hk
  obtain ⟨t, _, rfl⟩ := List.mem_map.mp he
  rcases List.mem_cons.mp hk with h | h
  · exact ⟨_, h⟩
  · rcases List.mem_cons.mp h with h | h
    · exact ⟨_, h⟩
    · cases h
/-- the poly of the first terms -/
noncomputable def pol (ts : List Tm) : S2 (Fq p) := ts.foldl (fun F t => F + tm t.1 (red t.2)) 0
theorem pol_snoc (ts : List Tm) (t : Tm) : pol (p := p) (ts ++ [t]) = pol ts + tm t.1 (red t.2) := by
  unfold pol
  rw [List.foldl_append]
  rfl
theorem rev_ind {α : Type} {motive : List α → Prop} (nil : motive []) (snoc : ∀ l a, motive l → motive (l ++ [a])) (l : List α) : motive l := by
  have all : ∀ r : List α, motive r.reverse := by
    intro r
    induction r with
    | nil => exact nil
    | cons a r ih =>
      rw [List.reverse_cons]
      exact snoc _ _ ih
  have k := all l.reverse
  rw [List.reverse_reverse] at k
  exact k
theorem cf_pol (q : Nat × Nat) (ts : List Tm) : (ts.map (·.1)).Nodup → cf (pol (p := p) ts) q = red ((lk ts q).getD 0) := by
  refine rev_ind (motive := fun ts : List Tm => (ts.map (·.1)).Nodup → cf (pol (p := p) ts) q = red ((lk ts q).getD 0)) (fun _ => (cf_zero q).trans red_zero.symm) (fun ts t ih hn => ?_) ts
  rw [List.map_append, List.nodup_append] at hn
  rw [pol_snoc, cf_add, ih hn.1, cf_tm]
  have nm : t.1 ∉ ts.map (·.1) := fun m => hn.2.2 _ m _ (List.mem_cons_self ..) rfl
  by_cases e : q = t.1
  · rw [if_pos e]
    have e1 : lk ts q = none := K37R.lk_none.mpr (by rw [e]; exact nm)
    have e2 : lk (ts ++ [t]) q = some t.2 := by
      rw [← putM_new nm t.2, lk_put, if_pos e]
    rw [e1, e2]
    show red 0 + red t.2 = red t.2
    rw [red_zero]
    grind
  · rw [if_neg e]
    have e2 : lk (ts ++ [t]) q = lk ts q := by
      rw [← putM_new nm t.2, lk_put, if_neg e]
    rw [e2]
    grind
end
end L2.K37R
end W4
section W5
set_option autoImplicit false
set_option linter.all false
set_option maxRecDepth 100000
namespace L2.K37R
open PySem PySem.Spec PyProof.Rows
open K37 (S2 Pl)

/-- a for over a book -/
theorem for_book {i j : Nat} {a : Addr} {ts : List Tm} {σ : St} {H : Hp} {D : Ends} {tb : TS} (Pv : Nat → St → Hp → Prop) (hj : σ[j]? = some (some (.ref a))) (hA : At H a ts)
    (start : ∀ od, Pv 0 σ (upd H a (.frz od (.dT (ts.map enc)))))
    (turn : ∀ n t σ' H' b, ts[n]? = some t → (∃ od, H' a = some (.frz od (.dT (ts.map enc)))) → Pv n σ' H' → PairAt H' b t.1 → ∀ D' : Ends, (∀ σ'' H'', H'' a = H' a → Pv (n + 1) σ'' H'' → D'.nx σ'' H'') → tb D' (σ'.set i (some (.ref b))) H')
    (fin : ∀ σ' H', (∃ od, H' a = some (.frz od (.dT (ts.map enc)))) → Pv ts.length σ' H' → D.nx σ' (upd H' a (.dT (ts.map enc)))) :
    tLock (tFor (iKeys (tVar j)) (gName i) tb) D σ H := by
  refine ⟨a, _, hA, True.intro, fun od => ⟨.ref a, hj, a, od, rfl, .inr ⟨ts.map enc, upd_same, ?_⟩⟩⟩
  refine for_it walk_keysT (fun n σ' H' => H' a = some (.frz od (.dT (ts.map enc))) ∧ Pv n σ' H') ⟨upd_same, start od⟩ (fun _ _ _ _ q => q.1) ?_ ?_
  · rintro n x σ' H1 H2 hi ⟨l1, p1⟩ ⟨rfl, k, v, b, hk, rfl, hb⟩
    obtain ⟨t, ht, rfl, rfl⟩ := get_enc hk
    exact turn n t σ' H2 b ht ⟨od, l1⟩ p1 hb _ fun σ'' H'' e q => ⟨e.trans l1, q⟩
  · rintro σ' H' ⟨l1, p1⟩
    rw [List.length_map] at p1
    exact ⟨l1, fin σ' H' ⟨od, l1⟩ p1⟩

abbrev sAdded : Stmt := top 17
def spAdded : Sp := fun vs H Q _ => ∃ (p : Nat) (_ : NeZero p) (a b : Addr) (ts us : List Tm) (F G : S2 (Fq p)) (n : Int), vs = [.int p, .ref a, .ref b, .int n] ∧ 1 < p ∧ p ≤ 7 ∧ At H a ts ∧ At H b us ∧ Bk p ts F ∧ Bk p us G ∧ Sm F ∧ Sm G ∧
  ∀ H' q ws, Same H H' → H q = none → At H' q ws → Bk p ws (F + K37.kap (red n) * G) → Q (.ref q) H'
section
variable {P : Program} {w : World} {K : PySem.W.Frag} {mg : Str → Option Value} {base : Heap}
theorem pol_take {p : Nat} [NeZero p] {us : List Tm} {n : Nat} {t : Tm} (h : us[n]? = some t) : pol (p := p) (us.take (n + 1)) = pol (us.take n) + tm t.1 (red t.2) := by
  rw [List.take_add_one, h]
  exact pol_snoc _ _
theorem pol_all {p : Nat} [NeZero p] {us : List Tm} {G : S2 (Fq p)} (h : Bk p us G) : pol us = G := cf_ext fun q => by rw [cf_pol q us h.nd, h.co]
theorem pol_nil {p : Nat} [NeZero p] : pol (p := p) [] = 0 := rfl
theorem scAdded : FnScope ["prime", "one", "other", "number", "found", "pair", "worth"] ["prime", "one", "other", "number"] (defScope sAdded) := ⟨rfl, rfl, rfl, by decide +kernel, rfl, by decide +kernel, by decide +kernel⟩
theorem ok_added {f : Addr} {fd : FuncData} (F : FnD K "added" sAdded [.int 1] f fd) (zdict : mg "dict" = none) : FnOk P w K mg base CX0 1 f fd ["prime", "one", "other", "number"] spAdded := by
  refine okP F scAdded (fun vs H Q E h => ?_) (fun cdv A outer s H vs Q E hr h => ?_)
  · obtain ⟨p, ne, a, b, ts, us, F, G, n, rfl, _⟩ := h
    rfl
  · obtain ⟨p, ne, a, b, ts, us, F, G, n, rfl, hp1, hp7, hA, hB, kA, kB, sA, sB, k⟩ := h
    have hu := hu_of hr
    have hu2 : (A.deeper (envOfC "added" (defScope sAdded) s.heap.objs.size f cdv)).units + 2 < cLine := Nat.lt_of_le_of_lt (Nat.add_le_add_left (by decide : 2 ≤ 64) _) hr.units
    have nd := scAdded.nd
    have hp0 : (0 : Int) < (p : Int) := by omega
    refine ⟨_, pss_cons (ps_set (i := 4) nd rfl (.inl rfl) (pe_callTy (call_dictT hu2) (by rfl) zdict (by decide +kernel) (pa_cons (pv 1) pa_nil)))
      (pss_cons (ps_lock (ps_for PassesOwn.never rfl (pi_keys (pv 2)) (pg_name (i := 5) nd rfl (.inl rfl))
        (pss_cons (ps_set (i := 6) nd rfl (.inl rfl) (pe_op op_mod (pe_op op_add (pe_dget2 hu (pv 4) (pv 5) pe_int ⟨rfl, rfl, rfl, rfl⟩) (pe_op op_mul (pv 3) (pe_dget hu (pv 2) (pv 5) (fun _ _ => rfl)))) (pv 0)))
          (pss_one (ps_if (pt_cmpR op_ne (pv 6) pe_int (nomark _)) (pss_one (ps_dput hu (pv 4) (pv 5) (pv 6) rfl))
            (pss_one (ps_expr (pe_bm PySem.F.plainAttrs_dict PySem.F.slot_dict_pop PySem.F.type_dict_pop (DX.mt_popT hu) (pv 4) (pa_cons (pv 5) (pa_cons pe_non pa_nil)))))))))) (pss_one (ps_ret (pv 4)))), ?_⟩
    refine ⟨_, rfl, a, _, rfl, .inl hA, enc_keys ts, kA.hash sA, fun D hD => ?_⟩
    have hBD : b ≠ D := ne_of_none hB hD
    refine for_book (i := 5) (j := 2) (a := b) (ts := us) (fun m σ' H' => ∃ (x y : Option V) (ws : List Tm), σ' = [some (.int p), some (.ref a), some (.ref b), some (.int n), some (.ref D), x, y] ∧
      (∀ c o, c ≠ b → c ≠ D → H c = some o → H' c = some o) ∧ At H' D ws ∧ ws.length ≤ ts.length + m ∧ Bk p ws (F + K37.kap (red n) * pol (us.take m))) rfl (by show upd H D _ b = _; rw [upd_ne hBD]; exact hB) ?_ ?_ ?_
    · intro od
      refine ⟨none, none, ts, rfl, fun c o h1 h2 e => by rw [upd_ne h1, upd_ne h2]; exact e, by show upd _ _ _ D = _; rw [upd_ne hBD.symm]; exact upd_same, Nat.le_add_right _ _, ?_⟩
      rw [List.take_zero, pol_nil]
      have e : F + K37.kap (red n) * 0 = F := by grind
      rw [e]
      exact kA
    · rintro m t σ' H' pb ht ⟨od, hl⟩ ⟨x, y, ws, rfl, ho, hD', hlen, kD⟩ hpb D' nx
      have hm := List.mem_of_getElem? ht
      have lt : ws.length < sizeLine := sm_line (by
        have := kA.len_sm sA
        have := kB.len_sm sB
        have := (List.getElem?_eq_some_iff.mp ht).1
        omega)
      have rg := kB.rg t hm
      have hg := dget_book (q := t.1) (.inl hD') hpb
      have hn : cf (F + K37.kap (red n) * pol (us.take m)) t.1 = red ((lk ws t.1).getD 0) := kD.co t.1
      have co : ∀ r, cf (F + K37.kap (red n) * pol (us.take (m + 1))) r = if r = t.1 then red ((lk ws t.1).getD 0 + n * t.2) else cf (F + K37.kap (red n) * pol (us.take m)) r := by
        intro r
        rw [pol_take ht, cf_add, cf_kap, cf_add, cf_tm, cf_add, cf_kap]
        by_cases e : r = t.1
        · rw [if_pos e, if_pos e, red_add, red_mul, ← hn, cf_add, cf_kap, e]
          grind
        · rw [if_neg e, if_neg e]
          grind
      refine ⟨_, rfl, D, rfl, .inr ⟨_, .inl hD'⟩, _, rfl, _, hg, ?_⟩
      have gd : ((lk ws t.1).map V.int).getD (.int 0) = .int ((lk ws t.1).getD 0) := by
        cases lk ws t.1 <;> rfl
      rw [gd]
      refine ⟨_, rfl, _, rfl, _, rfl, b, _, rfl, dget_mem (rd_keep ⟨od, hl⟩ (Same.refl _)) hpb kB.nd hm, _, _, rfl, rfl, .inr ⟨by omega, by omega⟩, _, _, rfl, rfl, _, rfl, _, _, rfl, rfl, hp0, ?_⟩
      generalize ez : ((lk ws t.1).getD 0 + n * t.2) % (p : Int) = z
      have z0 : 0 ≤ z := by rw [← ez]; exact Int.emod_nonneg _ (by omega)
      have zp : z < p := by rw [← ez]; exact Int.emod_lt_of_pos _ hp0
      have rz : red (p := p) ((lk ws t.1).getD 0 + n * t.2) = red z := by rw [← ez, red_mod]
      refine ⟨_, rfl, rfl, _, rfl, ite_neI (fun e => ?_) (fun e => ?_)⟩
      · rw [ez] at e
        refine ⟨_, rfl, _, rfl, _, rfl, D, _, rfl, .inr ⟨ws.map enc, ky t.1, pb, hD', rfl, hpb, by rw [List.length_map]; exact lt, rfl⟩, ?_⟩
        refine nx _ _ (upd_ne hBD) ⟨_, _, putM ws t.1 z, rfl, fun c o h1 h2 ec => by rw [upd_ne h2]; exact ho c o h1 h2 ec, by show upd _ _ _ D = _; rw [upd_same, putK_enc, ez], ?_, kD.put t.1 (by omega) zp _ fun r => by rw [co, rz]⟩
        have := putM_length ws t.1 z
        omega
      · rw [ez] at e
        refine ⟨_, rfl, .inr (.inr (.inl ⟨rfl, .inr ⟨_, hD'⟩⟩)), _, rfl, D, _, ky t.1, pb, _, rfl, rfl, hD', hpb, fun v hv => ?_, fun hv => ?_⟩
        · refine nx _ _ (upd_ne hBD) ⟨_, _, dropM ws t.1, rfl, fun c o h1 h2 ec => by rw [upd_ne h2]; exact ho c o h1 h2 ec, by show upd _ _ _ D = _; rw [upd_same, dropK_enc], ?_, kD.drop t.1 _ fun r => ?_⟩
          · have := dropM_length ws t.1
            omega
          · rw [co]
            split
            · rw [rz, e]
              exact red_zero
            · rfl
        · refine nx _ _ rfl ⟨_, _, ws, rfl, ho, hD', by omega, ?_⟩
          have e1 : lk ws t.1 = none := by
            rw [valV_enc] at hv
            exact Option.map_eq_none_iff.mp hv
          have e2 : F + K37.kap (red n) * pol (us.take (m + 1)) = F + K37.kap (red n) * pol (us.take m) := cf_ext fun r => by
            rw [co]
            by_cases er : r = t.1
            · rw [if_pos er, rz, e, er, hn, e1]
              rfl
            · rw [if_neg er]
          rw [e2]
          exact kD
    · rintro σ' H' ⟨od, hl⟩ ⟨x, y, ws, rfl, ho, hD', hlen, kD⟩
      rw [List.take_length, pol_all kB] at kD
      refine ⟨_, rfl, k _ D ws (fun c o e => ?_) hD (by show upd _ _ _ D = _; rw [upd_ne hBD.symm]; exact hD') kD⟩
      by_cases h1 : c = b
      · rw [h1] at e ⊢
        rw [upd_same, ← e, hB]
      · rw [upd_ne h1]
        exact ho c o h1 (ne_of_none e hD) e
end
end L2.K37R
end W5
section W6
set_option autoImplicit false
set_option linter.all false
set_option maxRecDepth 100000
namespace L2.K37R
open PySem PySem.Spec PyProof.Rows
open K37 (S2 Pl)

/-! ### a lock, unless it is locked -/
def tLockO (t : TS) : TS := fun D σ H => tLock t D σ H ∨ t D σ H
theorem ps_lockO {X : Cx} {st : Stmt} {t : TS} (h : PS X st t) : PS X st (tLockO t) := ⟨fun pins s σ H D I q => q.elim (fun q => (ps_lock h).run pins s σ H D I q) fun q => h.run pins s σ H D I q⟩
theorem for_bookO {i j : Nat} {a : Addr} {ts : List Tm} {σ : St} {H : Hp} {D : Ends} {tb : TS} (Pv : Nat → St → Hp → Prop) (hj : σ[j]? = some (some (.ref a))) (hA : Rd H a (.dT (ts.map enc)))
    (start : ∀ H1, (∃ od, H1 a = some (.frz od (.dT (ts.map enc)))) → (∀ c, c ≠ a → H1 c = H c) → Pv 0 σ H1)
    (turn : ∀ n t σ' H' b, ts[n]? = some t → (∃ od, H' a = some (.frz od (.dT (ts.map enc)))) → Pv n σ' H' → PairAt H' b t.1 → ∀ D' : Ends, (∀ σ'' H'', H'' a = H' a → Pv (n + 1) σ'' H'' → D'.nx σ'' H'') → tb D' (σ'.set i (some (.ref b))) H')
    (fin : ∀ σ' H', Pv ts.length σ' H' → ∀ H2, (∀ c, c ≠ a → H2 c = H' c) → H2 a = H a → D.nx σ' H2) :
    tLockO (tFor (iKeys (tVar j)) (gName i) tb) D σ H := by
  rcases hA with hA | ⟨od, hA⟩
  · refine .inl (for_book Pv hj hA (fun od => start _ ⟨od, upd_same⟩ fun c hc => upd_ne hc) turn fun σ' H' _ p => fin σ' H' p _ (fun c hc => upd_ne hc) (by rw [upd_same, hA]))
  · refine .inr ⟨.ref a, hj, a, od, rfl, .inr ⟨ts.map enc, hA, ?_⟩⟩
    refine for_it walk_keysT (fun n σ' H' => H' a = some (.frz od (.dT (ts.map enc))) ∧ Pv n σ' H') ⟨hA, start _ ⟨od, hA⟩ fun _ _ => rfl⟩ (fun _ _ _ _ q => q.1) ?_ ?_
    · rintro n x σ' H1 H2 hi ⟨l1, p1⟩ ⟨rfl, k, v, b, hk, rfl, hb⟩
      obtain ⟨t, ht, rfl, rfl⟩ := get_enc hk
      exact turn n t σ' H2 b ht ⟨od, l1⟩ p1 hb _ fun σ'' H'' e q => ⟨e.trans l1, q⟩
    · rintro σ' H' ⟨l1, p1⟩
      rw [List.length_map] at p1
      exact fin σ' H' p1 _ (fun _ _ => rfl) (by rw [l1, hA])

theorem at_inj {H : Hp} {a : Addr} {ts us : List Tm} (h : At H a ts) (k : At H a us) : ts.map enc = us.map enc := by
  have e : some (HO.dT (ts.map enc)) = some (HO.dT (us.map enc)) := h.symm.trans k
  injection e with e
  injection e
/-! ### terms turned, the keys kept -/
theorem lk_filterMap {f : Tm → Option Tm} (hf : ∀ t t', f t = some t' → t'.1 = t.1) (q : Nat × Nat) : ∀ {ts : List Tm}, (ts.map (·.1)).Nodup → lk (ts.filterMap f) q = (lk ts q).bind fun c => (f (q, c)).map (·.2)
  | [], _ => rfl
  | t :: ts, hn => by
    rw [List.map_cons, List.nodup_cons] at hn
    have ih := lk_filterMap hf q hn.2
    rw [List.filterMap_cons, lk_cons]
    by_cases e : t.1 = q
    · rw [if_pos e]
      have et : t = (q, t.2) := by rw [← e]
      cases x : f t with
      | none =>
        show lk (ts.filterMap f) q = (f (q, t.2)).map (·.2)
        rw [ih, ← et, x, K37R.lk_none.mpr (by rw [← e]; exact hn.1)]
        rfl
      | some t' =>
        show lk (t' :: ts.filterMap f) q = (f (q, t.2)).map (·.2)
        rw [← et, x, lk_cons, if_pos ((hf _ _ x).trans e)]
        rfl
    · rw [if_neg e]
      cases x : f t with
      | none => exact ih
      | some t' =>
        show lk (t' :: ts.filterMap f) q = _
        rw [lk_cons, if_neg (by rw [hf _ _ x]; exact e), ih]
section
variable {p : Nat} [NeZero p]
def mdT (p : Nat) (t : Tm) : Option Tm := if t.2 % (p : Int) ≠ 0 then some (t.1, t.2 % (p : Int)) else none
theorem mdT_key (p : Nat) (t t' : Tm) (h : mdT p t = some t') : t'.1 = t.1 := by
  unfold mdT at h
  split at h
  · rw [← Option.some.inj h]
  · cases h
theorem BkZ.reduce {ts : List Tm} {F : S2 (Fq p)} (h : BkZ p ts F) : Bk p (ts.filterMap (mdT p)) F where
  nd := nodup_keep h.nd (mdT_key p)
  co q := by
    rw [h.co, lk_filterMap (mdT_key p) q h.nd]
    cases e : lk ts q with
    | none => rfl
    | some c =>
      show red c = red (((mdT p (q, c)).map (·.2)).getD 0)
      unfold mdT
      by_cases x : c % (p : Int) ≠ 0
      · rw [if_pos x]
        exact (red_mod c).symm
      · rw [if_neg x]
        show red c = red 0
        rw [red_zero]
        exact red_eq_zero.mpr (by omega)
  rg t ht := by
    obtain ⟨u, _, e⟩ := List.mem_filterMap.mp ht
    unfold mdT at e
    split at e
    · rw [← Option.some.inj e]
      have h1 := Int.emod_nonneg u.2 (show (p : Int) ≠ 0 by have := NeZero.ne p; omega)
      have h2 := Int.emod_lt_of_pos u.2 (pos_p (p := p))
      constructor
      · show 0 < u.2 % (p : Int)
        omega
      · exact h2
    · cases e
theorem Bk.scale {ts : List Tm} {F : S2 (Fq p)} (h : Bk p ts F) (z : Int) : Bk p (ts.filterMap (scT p z)) (K37.kap (red z) * F) := by
  have h2 : BkZ p (ts.map fun t => (t.1, t.2 * z)) (K37.kap (red z) * F) := {
    nd := by
      rw [List.map_map]
      exact h.nd
    co := fun q => by
      rw [cf_kap, h.co]
      have e : lk (ts.map fun t => (t.1, t.2 * z)) q = (lk ts q).map (· * z) := by
        have k := lk_filterMap (f := fun t => some (t.1, t.2 * z)) (fun t t' e => by rw [← Option.some.inj e]) q h.nd
        rw [filterMap_some_map] at k
        rw [k]
        cases lk ts q <;> rfl
      rw [e]
      cases lk ts q with
      | none =>
        show red z * red 0 = red 0
        rw [red_zero]
        grind
      | some c =>
        show red z * red c = red (c * z)
        rw [red_mul]
        grind }
  have k := h2.reduce
  have e : (ts.map fun t => ((t.1, t.2 * z) : Tm)).filterMap (mdT p) = ts.filterMap (scT p z) := by
    rw [List.filterMap_map]
    rfl
  rw [e] at k
  exact k
theorem tm_mul (q r : Nat × Nat) (c d : Fq p) : tm q c * tm r d = tm (q.1 + r.1, q.2 + r.2) (c * d) := by
  unfold tm
  rw [K37.mo_mul_mo, K37.mo_mul_mo]
end

abbrev sProduct : Stmt := top 21
def spProduct : Sp := fun vs H Q _ => ∃ (p : Nat) (_ : NeZero p) (a b : Addr) (ts us : List Tm) (F G : S2 (Fq p)), vs = [.int p, .ref a, .ref b] ∧ 1 < p ∧ p ≤ 7 ∧ At H a ts ∧ At H b us ∧ Bk p ts F ∧ Bk p us G ∧ ts.length * us.length ≤ 3000 ∧
  ∀ H' q ws, Same H H' → H q = none → At H' q ws → Bk p ws (F * G) → Q (.ref q) H'
section
variable {P : Program} {w : World} {K : PySem.W.Frag} {mg : Str → Option Value} {base : Heap}
theorem scProduct : FnScope ["prime", "one", "other", "found", "first", "second", "pair"] ["prime", "one", "other"] (defScope sProduct) := ⟨rfl, rfl, rfl, by decide +kernel, rfl, by decide +kernel, by decide +kernel⟩
theorem ok_product {f : Addr} {fd : FuncData} (F : FnP K "product" sProduct f fd) (zlen : mg "len" = none) : FnOk P w K mg base CX0 1 f fd ["prime", "one", "other"] spProduct := by
  refine okP F scProduct (fun vs H Q E h => ?_) (fun cdv A outer s H vs Q E hr h => ?_)
  · obtain ⟨p, ne, a, b, ts, us, F, G, rfl, _⟩ := h
    rfl
  · obtain ⟨p, ne, a, b, ts, us, F, G, rfl, hp1, hp7, hA, hB, kA, kB, hlen, k⟩ := h
    have hu := hu_of hr
    have nd := scProduct.nd
    have hp0 : (0 : Int) < (p : Int) := by omega
    refine ⟨_, pss_cons (ps_if (pt_cmpR op_gt (pe_op op_mul (pe_callB call_len_dT (by rfl) zlen PySem.boot_len (pa_cons (pv 1) pa_nil)) (pe_callB call_len_dT (by rfl) zlen PySem.boot_len (pa_cons (pv 2) pa_nil))) pe_int (nomark _)) pss_never pss_nil)
      (pss_cons (ps_set (i := 3) nd rfl (.inr rfl) pe_dnewT)
      (pss_cons (ps_lockO (ps_for PassesOwn.never rfl (pi_keys (pv 1)) (pg_name (i := 4) nd rfl (.inl rfl))
        (pss_one (ps_lockO (ps_for PassesOwn.never rfl (pi_keys (pv 2)) (pg_name (i := 5) nd rfl (.inl rfl))
          (pss_cons (ps_set (i := 6) nd rfl (.inl rfl) (pe_tup (pa_cons (pe_op op_add (pe_it (K := K) (pv 4) pe_int) (pe_it (K := K) (pv 5) pe_int)) (pa_cons (pe_op op_add (pe_it (K := K) (pv 4) pe_int) (pe_it (K := K) (pv 5) pe_int)) pa_nil))))
            (pss_one (ps_dput hu (pv 3) (pv 6) (pe_op op_add (pe_dget2 hu (pv 3) (pv 6) pe_int ⟨rfl, rfl, rfl, rfl⟩) (pe_op op_mul (pe_dget hu (pv 1) (pv 4) (fun _ _ => rfl)) (pe_dget hu (pv 2) (pv 5) (fun _ _ => rfl)))) rfl))))))))
      (pss_one (ps_ret (pe_lock (pe_dcT (own := [("pair", 6)]) (g := gName 6) (Nat.lt_of_succ_lt hu) rfl nd (pi_keys (pv 3)) (blkOk_by (N := ["prime", "one", "other", "found", "first", "second", "pair"]) (sc := defScope sProduct) (by decide +kernel))
        (fun _ _ _ _ _ => pg_name (i := 6) nd rfl (Or.inl rfl)) (fun _ _ _ _ _ => pts_one (pt_cmpR op_ne (pe_op op_mod (pe_dget hu (pv 3) (pv 6) (fun _ _ => rfl)) (pv 0)) pe_int (nomark _)))
        (fun _ _ _ _ _ => pv 6) (fun _ _ _ _ _ => pe_op op_mod (pe_dget hu (pv 3) (pv 6) (fun _ _ => rfl)) (pv 0)))))))), ?_⟩
    have l3 : ¬ (3000 : Int) < ((ts.map enc).length : Int) * ((us.map enc).length : Int) := by
      rw [List.length_map, List.length_map, ← Int.natCast_mul]
      omega
    have cm : CMul ((ts.map enc).length : Int) ((us.map enc).length : Int) := by
      rw [List.length_map, List.length_map]
      by_cases h0 : us.length = 0
      · exact .inr ⟨by omega, by omega⟩
      · have : ts.length * 1 ≤ ts.length * us.length := Nat.mul_le_mul_left _ (by omega)
        exact .inl ⟨by omega, by omega⟩
    refine ⟨_, rfl, a, _, rfl, hA, _, rfl, b, _, rfl, hB, _, _, rfl, rfl, cm, _, _, rfl, rfl, _, rfl, ?_⟩
    rw [decide_eq_false l3]
    refine iteF ?_
    intro D hD
    have hAD : a ≠ D := ne_of_none hA hD
    have hBD : b ≠ D := ne_of_none hB hD
    refine for_bookO (i := 4) (j := 1) (a := a) (ts := ts) (fun m σ' H' => ∃ (x y z : Option V) (ws : List Tm), σ' = [some (.int p), some (.ref a), some (.ref b), some (.ref D), x, y, z] ∧
      (∀ c o, c ≠ a → c ≠ D → H c = some o → H' c = some o) ∧ At H' D ws ∧ ws.length ≤ m * us.length ∧ BkZ p ws (pol (ts.take m) * G)) rfl (.inl (by rw [upd_ne hAD]; exact hA)) ?_ ?_ ?_
    · intro H1 _ same
      refine ⟨none, none, none, [], rfl, fun c o h1 h2 e => by rw [same c h1, upd_ne h2]; exact e, by show H1 D = _; rw [same D hAD.symm, upd_same]; rfl, Nat.zero_le _, ?_⟩
      rw [List.take_zero, pol_nil]
      have e : (0 : S2 (Fq p)) * G = 0 := by grind
      rw [e]
      exact Bk.nil.toBkZ
    · rintro m t σ' H' pa ht ⟨oda, hla⟩ ⟨x, y, z, ws, rfl, ho, hD', hl', kD⟩ hpa D' nx
      have hmt := List.mem_of_getElem? ht
      have rB : Rd H' b (.dT (us.map enc)) := by
        by_cases e : b = a
        · rw [e] at hB ⊢
          rw [← at_inj hA hB]
          exact .inr ⟨oda, hla⟩
        · exact .inl (ho _ _ e hBD hB)
      refine for_bookO (i := 5) (j := 2) (a := b) (ts := us) (fun n σ'' H'' => ∃ (y z : Option V) (ws : List Tm), σ'' = [some (.int p), some (.ref a), some (.ref b), some (.ref D), some (.ref pa), y, z] ∧
        (∀ c o, c ≠ b → c ≠ D → H' c = some o → H'' c = some o) ∧ At H'' D ws ∧ ws.length ≤ m * us.length + n ∧ BkZ p ws (pol (ts.take m) * G + tm t.1 (red t.2) * pol (us.take n))) rfl rB ?_ ?_ ?_
      · intro H1 _ same
        refine ⟨y, z, ws, rfl, fun c o h1 h2 e => by rw [same c h1]; exact e, by show H1 D = _; rw [same D hBD.symm]; exact hD', hl', ?_⟩
        rw [List.take_zero, pol_nil]
        have e : pol (ts.take m) * G + tm t.1 (red t.2) * 0 = pol (ts.take m) * G := by grind
        rw [e]
        exact kD
      · rintro n u σ'' H'' pb hu' ⟨odb, hlb⟩ ⟨y2, z2, vs, rfl, ho2, hD2, hl2, k2⟩ hpb D'' nx2
        have hmu := List.mem_of_getElem? hu'
        have hpab : pa ≠ b := by
          intro e
          rw [e] at hpa
          rcases rB with r | ⟨_, r⟩ <;> (rw [hpa] at r; cases r)
        have hpaD : pa ≠ D := ne_of hpa hD' (fun z => nomatch z)
        have hpa2 : PairAt H'' pa t.1 := ho2 _ _ hpab hpaD hpa
        have rA2 : Rd H'' a (.dT (ts.map enc)) := by
          by_cases e : a = b
          · have hB' := hB
            rw [← e] at hB'
            rw [at_inj hA hB', e]
            exact .inr ⟨odb, hlb⟩
          · exact .inr ⟨oda, ho2 _ _ e hAD hla⟩
        have rB2 : Rd H'' b (.dT (us.map enc)) := .inr ⟨odb, hlb⟩
        refine ⟨_, rfl, pa, _, _, _, rfl, rfl, SqT.of hpa2, at0, _, rfl, pb, _, _, _, rfl, rfl, SqT.of hpb, at0, _, _, rfl, rfl, _, rfl, pa, _, _, _, rfl, rfl, SqT.of hpa2, at1, _, rfl, pb, _, _, _, rfl, rfl, SqT.of hpb, at1, _, _, rfl, rfl, by show 2 ≤ sizeLine; decide, fun c hc => ?_⟩
        have hcD : D ≠ c := ne_of_none hD2 hc
        let q : Nat × Nat := (t.1.1 + u.1.1, t.1.2 + u.1.2)
        have sc : Same H'' (upd H'' c (.tup [.int ((t.1.1 : Int) + (u.1.1 : Int)), .int ((t.1.2 : Int) + (u.1.2 : Int))])) := same_upd_new hc
        have hq : PairAt (upd H'' c (.tup [.int ((t.1.1 : Int) + (u.1.1 : Int)), .int ((t.1.2 : Int) + (u.1.2 : Int))])) c q := upd_same
        have hD3 := sc _ _ hD2
        have rA3 : Rd (upd H'' c (.tup [.int ((t.1.1 : Int) + (u.1.1 : Int)), .int ((t.1.2 : Int) + (u.1.2 : Int))])) a (.dT (ts.map enc)) := rA2.imp (fun r => sc _ _ r) fun ⟨o, r⟩ => ⟨o, sc _ _ r⟩
        have rB3 : Rd (upd H'' c (.tup [.int ((t.1.1 : Int) + (u.1.1 : Int)), .int ((t.1.2 : Int) + (u.1.2 : Int))])) b (.dT (us.map enc)) := rB2.imp (fun r => sc _ _ r) fun ⟨o, r⟩ => ⟨o, sc _ _ r⟩
        have rt := kA.rg t hmt
        have ru := kB.rg u hmu
        have gd : ((lk vs q).map V.int).getD (.int 0) = .int ((lk vs q).getD 0) := by
          cases lk vs q <;> rfl
        have lt : vs.length < sizeLine := sm_line (by
          have i1 := (List.getElem?_eq_some_iff.mp ht).1
          have i2 := (List.getElem?_eq_some_iff.mp hu').1
          have : (m + 1) * us.length ≤ ts.length * us.length := Nat.mul_le_mul_right _ i1
          rw [Nat.add_mul] at this
          omega)
        refine ⟨_, rfl, D, rfl, .inr ⟨_, .inl hD3⟩, _, rfl, _, dget_book (q := q) (.inl hD3) hq, ?_⟩
        rw [gd]
        refine ⟨_, rfl, _, rfl, a, _, rfl, dget_mem rA3 (sc _ _ hpa2) kA.nd hmt, _, rfl, _, rfl, b, _, rfl, dget_mem rB3 (sc _ _ hpb) kB.nd hmu, _, _, rfl, rfl, .inl ⟨by omega, by omega⟩, _, _, rfl, rfl, _, rfl, _, rfl, D, _, rfl, .inr ⟨vs.map enc, ky q, c, hD3, rfl, hq, by rw [List.length_map]; exact lt, rfl⟩, ?_⟩
        refine nx2 _ _ ?_ ⟨_, _, putM vs q ((lk vs q).getD 0 + t.2 * u.2), rfl, fun d o h1 h2 e => ?_, by show upd _ _ _ D = _; rw [upd_same, putK_enc], ?_, ?_⟩
        · rw [upd_ne hBD, upd_ne (ne_of_none hlb hc)]
        · rw [upd_ne h2, upd_ne (ne_of_none (ho2 d o h1 h2 e) hc)]
          exact ho2 d o h1 h2 e
        · have := putM_length vs q ((lk vs q).getD 0 + t.2 * u.2)
          omega
        · refine k2.put q _ _ fun r => ?_
          rw [pol_take hu']
          have e1 : pol (ts.take m) * G + tm t.1 (red t.2) * (pol (us.take n) + tm u.1 (red u.2)) = (pol (ts.take m) * G + tm t.1 (red t.2) * pol (us.take n)) + tm q (red t.2 * red u.2) := by
            have e2 : tm (p := p) t.1 (red t.2) * tm u.1 (red u.2) = tm q (red t.2 * red u.2) := tm_mul _ _ _ _
            grind
          rw [e1, cf_add, cf_tm]
          by_cases er : r = q
          · rw [if_pos er, if_pos er, red_add, red_mul, er, k2.co q]
          · rw [if_neg er, if_neg er]
            grind
      · rintro σ'' H'' ⟨y2, z2, vs, rfl, ho2, hD2, hl2, k2⟩ H2 same back
        refine nx _ _ ?_ ⟨_, _, _, vs, rfl, fun c o h1 h2 e => ?_, by show H2 D = _; rw [same D hBD.symm]; exact hD2, by rw [Nat.add_mul]; omega, ?_⟩
        · by_cases e : a = b
          · rw [e]
            exact back
          · rw [same a e, hla]
            exact ho2 _ _ e hAD hla
        · by_cases e2 : c = b
          · rw [e2] at h1 h2 e ⊢
            rw [back]
            exact ho b o h1 h2 e
          · rw [same c e2]
            exact ho2 c o e2 h2 (ho c o h1 h2 e)
        · rw [List.take_length, pol_all kB] at k2
          rw [pol_take ht]
          have e1 : (pol (ts.take m) + tm t.1 (red t.2)) * G = pol (ts.take m) * G + tm t.1 (red t.2) * G := by grind
          rw [e1]
          exact k2
    · rintro σ' H' ⟨x, y, z, ws, rfl, ho, hD', hl', kD⟩ H2 same back
      rw [List.take_length, pol_all kA] at kD
      have hD2 : At H2 D ws := by
        show H2 D = _
        rw [same D hAD.symm]
        exact hD'
      have s2 : Same H H2 := fun c o e => by
        by_cases e2 : c = a
        · rw [e2] at e ⊢
          rw [back, upd_ne hAD]
          exact e
        · rw [same c e2]
          exact ho c o e2 (ne_of_none e hD) e
      refine dcT_book (i := 6) (j := 3) (mdT p) rfl hD2 (sm_line (by omega)) (nodup_keep kD.nd (mdT_key p)) (fun t H3 pb R S ht hl hoth hb yes no => ?_) fun H3 q s3 hq hA3 => k _ q _ (s2.trans s3) (by
        cases e : H q with
        | none => rfl
        | some o => rw [s2 _ _ e] at hq; cases hq) hA3 kD.reduce
      have hg := dget_mem (rd_keep hl (Same.refl _)) hb kD.nd ht
      refine ⟨_, rfl, _, rfl, D, _, rfl, hg, _, rfl, _, _, rfl, rfl, hp0, rfl, _, rfl, ite_neI (fun e => ?_) (fun e => ?_)⟩
      · exact ⟨_, rfl, _, rfl, _, rfl, D, _, rfl, hg, _, rfl, _, _, rfl, rfl, hp0, yes (t.1, t.2 % (p : Int)) _ pb (if_pos e) (Same.refl _) hb⟩
      · exact no _ (if_neg (fun z => z e)) (Same.refl _)
end
end L2.K37R
end W6
section R3
set_option autoImplicit false
set_option linter.all false
set_option maxRecDepth 100000
/-! Rules: sorted of a book's keys. -/
namespace L2.K37R
open PySem PySem.Spec PyProof.Rows
/-- the order of the powers -/
def leT (p q : Tm) : Bool := decide ((p.1.1 : Int) < q.1.1 ∨ ((p.1.1 : Int) = q.1.1 ∧ (p.1.2 : Int) ≤ q.1.2))
def sortT (ts : List Tm) : List Tm := ts.mergeSort leT
def dataT (t : Tm) : PyData := .tuple [.int (t.1.1 : Int), .int (t.1.2 : Int)]
theorem dataLe_T : PySem.W.dataLe false dataT = leT := PySem.W.dataLe_ii (fun t : Tm => (t.1.1 : Int)) (fun t : Tm => (t.1.2 : Int))
theorem alike_T (l : List Tm) : PySem.W.AllAlike (l.map dataT) := by
  intro d hd d' hd'
  obtain ⟨a, _, rfl⟩ := List.mem_map.mp hd
  obtain ⟨b, _, rfl⟩ := List.mem_map.mp hd'
  rfl
theorem sortable_T (l : List Tm) : PySem.W.Sortable (l.map dataT) := .inl fun d hd => by
  obtain ⟨a, _, rfl⟩ := List.mem_map.mp hd
  exact ⟨_, _, rfl⟩
theorem reads_T {h : Heap} {b : Addr} {x y : Int} {t u : Tok} (e : IsTup h b (List.toArray [Value.int x t, Value.int y u])) : Reads h (.ref b) (.tuple [.int x, .int y]) [] := by
  obtain ⟨o, eo, c, n, d⟩ := e
  exact .tuple eo c d (.cons (.int x t) (.cons (.int y u) .nil))
section
variable {X : Cx}
def RefsTo (H : Hp) (rs : List Addr) (ts : List Tm) : Prop := Paired (fun r t => PairAt H r t.1) rs ts
theorem each_paired {H : Hp} : ∀ {out : List Value} {ts : List Tm}, PySem.W.EachIs (fun v (t : Tm) => ∃ r, v = .ref r ∧ PairAt H r t.1) out ts → ∃ rs : List Addr, out = rs.map Value.ref ∧ RefsTo H rs ts
  | _, _, .nil => ⟨[], rfl, .nil⟩
  | _, _, .cons ⟨r, e, k⟩ t => by
    obtain ⟨rs, e2, p⟩ := each_paired t
    exact ⟨r :: rs, by rw [List.map_cons, e, e2], .cons k p⟩
theorem vals_refs : ∀ rs : List Addr, Vals (rs.map V.ref) (rs.map Value.ref)
  | [] => .nil
  | r :: rs => .cons rfl (vals_refs rs)
theorem each_of {α β : Type} {R : α → β → Prop} : ∀ {l : List α} {m : List β}, l.length = m.length → (∀ (j : Nat) (a : α) (b : β), l[j]? = some a → m[j]? = some b → R a b) → PySem.W.EachIs R l m
  | [], [], _, _ => .nil
  | a :: l, b :: m, e, h => .cons (h 0 a b rfl rfl) (each_of (by simpa using e) fun j x y hx hy => h (j + 1) x y (by simpa using hx) (by simpa using hy))
/-- sorted(d) of a book: its keys, rising -/
theorem cr_sortedBook (hc : X.calm = true) (hu : X.A.units + 10 < cLine) : CallR X (.builtin "sorted") (fun xs H Q => ∃ (a : Addr) (ts : List Tm), xs = [.ref a] ∧ Rd H a (.dT (ts.map enc)) ∧
    ∀ p rs, H p = none → RefsTo H rs (sortT ts) → Q (.ref p) (upd H p (.lst (rs.map V.ref)))) := by
  intro pins s σ H xs us Q I r q
  obtain ⟨a, ts, rfl, hd, q⟩ := q
  obtain ⟨u, rfl, rx⟩ := vals1 r
  cases rx
  obtain ⟨z, lo, ys, rel, dd⟩ := dt_rd I.hok hd
  have zt : ts.length ≤ sizeLine := by
    rw [List.length_map] at z
    exact z
  obtain ⟨ob, es, ep, e1, e2, e3, e4, e5, e6⟩ := id dd
  have raw : s.heap.DictRaw a es ep := ⟨ob, e1, e2, e3⟩
  have hsz : es.size = ts.length := by
    have h1 := congrArg List.length e4
    rw [List.length_map, Array.length_toList, ← Paired.length rel, List.length_map] at h1
    exact h1
  have key : ∀ i (hi : i < es.size), ∃ t b, ts[i]? = some t ∧ es[i].key = .ref b ∧ PairAt H b t.1 := fun i hi => by
    have hi' : i < ts.length := by omega
    obtain ⟨y, hy, g⟩ := paired_get rel (show (ts.map enc)[i]? = some (enc ts[i]) by rw [List.getElem?_map, List.getElem?_eq_getElem hi']; rfl)
    refine ⟨ts[i], y.2.1, List.getElem?_eq_getElem hi', ?_, g.2.1⟩
    have h1 : es.toList[i]? = some (entryOfKey (tupleKind (mixKind X.prog X.w)) y) := by
      rw [e4, List.getElem?_map, hy]
      rfl
    rw [Array.getElem?_toList, Array.getElem?_eq_getElem hi] at h1
    rw [Option.some.inj h1]
    rfl
  refine Calls.call_function_entry PyProof.Rows.kind_sorted PyProof.Rows.plain_sorted PyProof.Rows.entry_sorted (PyProof.Rows.args_sorted1 _) ?_
  unfold Builtin.«sorted»
  refine wpAny_bind (m := checkCount "sorted" 1 1 _) (wpAny_pure ?_)
  refine wpAny_bind (PySem.W.kdu_collect (A := X.A.in1) (KdlSrc.rawDict lo) (I.ok.hd hc) raw (by rw [hsz]; exact zt) fun h' tk acc keep hacc => ?_)
  have I1 : Inv X pins σ H { s with heap := h', toks := tk } := I.kept keep
  have hal : acc.toList.length = ts.length := by rw [Array.length_toList, hacc.1, hsz]
  have each : PySem.W.EachIs (fun v (t : Tm) => ∃ b, v = .ref b ∧ PairAt H b t.1) acc.toList ts := by
    refine each_of hal fun j v t hv ht => ?_
    obtain ⟨hi, e⟩ := hacc.2 j v (by rw [← Array.getElem?_toList]; exact hv)
    obtain ⟨t', b, ht', eb, hb⟩ := key j hi
    rw [ht] at ht'
    rw [Option.some.inj ht']
    exact ⟨b, e.trans eb, hb⟩
  refine wpAny_bind (wpAny_newList ?_ (by rw [hal]; exact zt))
  have hoL : (h'.push (seqObj "list" acc.toList.toArray 0)).get? h'.objs.size = some (seqObj "list" acc.toList.toArray 0) := Heap.get?_push_size _ rfl
  show wpAny _ _ _ _ _ { s with heap := h'.push (seqObj "list" acc.toList.toArray 0), toks := tk }
  have er : PySem.W.EachIs (fun v (t : Tm) => ∃ as, Reads (h'.push (seqObj "list" acc.toList.toArray 0)) v (dataT t) as ∧ h'.objs.size ∉ as) acc.toList ts := each.mono fun v t h => by
    obtain ⟨b, e, hb⟩ := h
    obtain ⟨_, its, rv, ot⟩ := I1.hok b _ hb
    obtain ⟨u1, u2, rfl, r1, r2⟩ := vals2 rv
    obtain ⟨t1, rfl⟩ := r1
    obtain ⟨t2, rfl⟩ := r2
    refine ⟨[], ?_, by simp⟩
    rw [e]
    obtain ⟨oo, g1, g2, n, g3⟩ := ot
    exact reads_T ⟨oo, Heap.get?_push_of_some _ g1, g2, n, g3⟩
  have hdep : ∀ t, t ∈ ts → X.A.in1.units + 1 + (dataT t).depth < cLine := fun t _ => by
    have d : (dataT t).depth ≤ 4 := by
      simp [dataT, PyData.depth, PyData.depthAll]
    have u1 : X.A.in1.units = X.A.units + 1 := rfl
    omega
  refine wpAny_bind (wpAny_holding (PySem.W.list_sort_data (enc := dataT) (s := { s with heap := h'.push (seqObj "list" acc.toList.toArray 0), toks := tk }) hoL each er (alike_T ts) (sortable_T ts) zt hdep ?_))
  · intro out ho eo
    rw [dataLe_T] at eo
    obtain ⟨rs, er, pr⟩ := each_paired eo
    obtain ⟨e', he'⟩ := PyProof.Rows.sortedHeap_at (vs := acc.toList) (out := List.toArray out) hoL
    have hlen : (rs.map V.ref).length ≤ sizeLine := by
      have : rs.length = ts.length := by
        have h1 := congrArg List.length er
        rw [List.length_map, ho] at h1
        omega
      rw [List.length_map, this]
      exact zt
    refine wpAny_pure ⟨_, rfl, .ref h'.objs.size, upd H h'.objs.size (.lst (rs.map V.ref)), I1.laid (t' := tk) (fun b u e => ?_) (Nat.le_refl _)
      (show ObjOk X.prog X.w _ _ _ (.lst (rs.map V.ref)) from ⟨hlen, out, e', by rw [er]; exact vals_refs rs, he'⟩), rfl, q _ rs (I1.hok.fresh (Nat.le_refl _)) pr⟩
    have hb : b < h'.objs.size := Heap.lt_size e
    rw [PyProof.Rows.sortedHeap_old (Nat.ne_of_lt hb) (by rw [size_push']; exact Nat.lt_succ_of_lt hb)]
    exact Heap.get?_push_of_some _ e
end
end L2.K37R
end R3
section W7
set_option autoImplicit false
set_option linter.all false
set_option maxRecDepth 100000
namespace L2.K37R
open PySem PySem.Spec PyProof.Rows
open K37 (S2 Pl)

/-! ### polys: tuples of terms -/
abbrev TermAt (H : Hp) (r : Addr) (t : Tm) : Prop := H r = some (.tup [.int (t.1.1 : Int), .int (t.1.2 : Int), .int t.2])
def PolyT (H : Hp) (a : Addr) (ts : List Tm) : Prop := ∃ rs : List Addr, H a = some (.tup (rs.map V.ref)) ∧ Paired (TermAt H) rs ts
theorem Paired.same {α : Type} {H H' : Hp} {f : Hp → Addr → α → Prop} (hf : ∀ r t, f H r t → f H' r t) : ∀ {rs : List Addr} {ts : List α}, Paired (f H) rs ts → Paired (f H') rs ts
  | _, _, .nil => .nil
  | _, _, .cons a t => .cons (hf _ _ a) (Paired.same hf t)
theorem PolyT.same {H H' : Hp} (s : Same H H') {a : Addr} {ts : List Tm} (h : PolyT H a ts) : PolyT H' a ts := by
  obtain ⟨rs, e, p⟩ := h
  exact ⟨rs, s _ _ e, Paired.same (f := TermAt) (fun r t e => s _ _ e) p⟩
theorem RefsTo.same {H H' : Hp} (s : Same H H') {rs : List Addr} {ts : List Tm} (h : RefsTo H rs ts) : RefsTo H' rs ts := Paired.same (f := fun H r (t : Tm) => PairAt H r t.1) (fun r t e => s _ _ e) h
theorem paired_snoc {α β : Type} {G : α → β → Prop} : ∀ {l : List α} {m : List β} {a : α} {b : β}, Paired G l m → G a b → Paired G (l ++ [a]) (m ++ [b])
  | _, _, _, _, .nil, g => .cons g .nil
  | _, _, _, _, .cons h t, g => .cons h (paired_snoc t g)
theorem paired_at {α β : Type} {G : α → β → Prop} {l : List α} {m : List β} (h : Paired G l m) {i : Nat} {a : α} (e : l[i]? = some a) : ∃ b, m[i]? = some b ∧ G a b := paired_get h e

section
variable {P : Program} {w : World} {K : PySem.W.Frag} {mg : Str → Option Value} {base : Heap}

abbrev sPolyOf : Stmt := top 15
def spPolyOf : Sp := fun vs H Q _ => ∃ (a : Addr) (ts : List Tm), vs = [.ref a] ∧ At H a ts ∧ (ts.map (·.1)).Nodup ∧ ts.length < sizeLine ∧
  ∀ H' q, Same H H' → PolyT H' q (sortT ts) → Q (.ref q) H'
theorem scPolyOf : FnScope ["book", "pair"] ["book"] (defScope sPolyOf) := ⟨rfl, rfl, rfl, by decide +kernel, rfl, by decide +kernel, by decide +kernel⟩
theorem hu10 {k : Nat} {A : Around} (hr : Room k A) : A.units + 10 < cLine := Nat.lt_of_le_of_lt (Nat.add_le_add_left (by decide : 10 ≤ 64) _) hr.units
theorem sortT_perm (ts : List Tm) : (sortT ts).Perm ts := List.mergeSort_perm _ _
theorem sortT_mem {ts : List Tm} {t : Tm} : t ∈ sortT ts ↔ t ∈ ts := (sortT_perm ts).mem_iff
theorem ok_polyOf {f : Addr} {fd : FuncData} (F : FnP K "poly_of" sPolyOf f fd) (zt : mg "tuple" = none) (zs : mg "sorted" = none) : FnOk P w K mg base CX0 1 f fd ["book"] spPolyOf := by
  refine okP F scPolyOf (fun vs H Q E h => ?_) (fun cdv A outer s H vs Q E hr h => ?_)
  · obtain ⟨a, ts, rfl, _⟩ := h
    rfl
  · obtain ⟨a, ts, rfl, hA, hN, hL, k⟩ := h
    have hu := hu_of hr
    have nd := scPolyOf.nd
    refine ⟨_, pss_one (ps_ret (pe_callTy call_tuple_of (by rfl) zt (by decide +kernel) (pa_cons
      (pe_lc (own := [("pair", 1)]) (g := gName 1) (tt := tYes) rfl nd (pi_list (pe_callB (cr_sortedBook rfl (hu10 hr)) (by rfl) zs (by decide +kernel) (pa_cons (pv 0) pa_nil))) (blkOk_by (N := ["book", "pair"]) (sc := defScope sPolyOf) (by decide +kernel))
        (fun _ _ _ _ _ => pg_name (i := 1) nd rfl (Or.inl rfl)) (fun _ _ _ _ _ => pts_nil)
        (fun _ _ _ _ _ => pe_tup (pa_cons (pe_it (K := K) (pv 1) pe_int) (pa_cons (pe_it (K := K) (pv 1) pe_int) (pa_cons (pe_dget hu (pv 0) (pv 1) (fun _ _ => rfl)) pa_nil))))) pa_nil))), ?_⟩
    refine ⟨_, rfl, a, ts, rfl, .inl hA, fun l rs hl pr => ⟨l, rfl, ⟨_, SqL.of upd_same⟩, fun D hD => ?_⟩⟩
    have sl : Same H (upd H l (.lst (rs.map V.ref))) := same_upd_new hl
    have hDl : l ≠ D := ne_of_none upd_same hD
    have len : rs.length = (sortT ts).length := Paired.length pr
    refine lc_it (walk_list (xs := rs.map V.ref)) (fun n H' => ∃ qs : List Addr, Same (upd H l (.lst (rs.map V.ref))) H' ∧ H' D = some (.lst (qs.map V.ref)) ∧ Paired (TermAt H') qs ((sortT ts).take n)) ⟨[], same_upd_new hD, upd_same, .nil⟩ (fun n H' _ ⟨_, s1, _⟩ => SqL.of (s1 _ _ upd_same)) ?_ ?_
    · rintro n x H1 H2 hi ⟨qs, s1, d1, p1⟩ ⟨rfl, hx⟩
      rw [List.getElem?_map] at hx
      obtain ⟨r, hr', rfl⟩ := Option.map_eq_some_iff.mp hx
      obtain ⟨t, ht, hb⟩ := paired_at pr hr'
      have hmt : t ∈ ts := sortT_mem.mp (List.mem_of_getElem? ht)
      have hb2 : PairAt H2 r t.1 := s1 _ _ (sl _ _ hb)
      have hA2 : At H2 a ts := s1 _ _ (sl _ _ hA)
      refine ⟨wipe_set _ 1 _, tyes ⟨_, rfl, r, _, _, _, rfl, rfl, SqT.of hb2, at0, _, rfl, r, _, _, _, rfl, rfl, SqT.of hb2, at1, _, rfl, _, rfl, a, _, rfl, dget_mem (.inl hA2) hb2 hN hmt, by show 3 ≤ sizeLine; decide, fun c hc => ?_⟩⟩
      have sc := same_upd_new (o := .tup [.int (t.1.1 : Int), .int (t.1.2 : Int), .int t.2]) hc
      have hDc : D ≠ c := ne_of_none d1 hc
      refine ⟨_, sc _ _ d1, ?_, qs ++ [c], same_free (s1.trans sc) hD, by rw [upd_same, List.map_append]; rfl, ?_⟩
      · have l1 := Paired.length p1
        have := List.length_take_le' n (sortT ts)
        have := (sortT_perm ts).length_eq
        rw [List.length_map]
        omega
      · rw [List.take_add_one, ht]
        refine paired_snoc (Paired.same (f := TermAt) (fun r' t' e => ?_) p1) ?_
        · have ne : r' ≠ D := ne_of e d1 (fun z => nomatch z)
          show upd _ D _ r' = _
          rw [upd_ne ne]
          exact sc _ _ e
        · show upd _ D _ c = _
          rw [upd_ne hDc.symm, upd_same]
    · rintro H' ⟨qs, s1, d1, p1⟩
      rw [List.length_map, len, List.take_length] at p1
      refine ⟨D, _, rfl, .inl ⟨SqL.of d1, fun q hq => ?_⟩⟩
      have sq := same_upd_new (o := .tup (qs.map V.ref)) hq
      exact k _ q ((sl.trans s1).trans sq) ⟨qs, upd_same, Paired.same (f := TermAt) (fun r t e => sq _ _ e) p1⟩
end
end L2.K37R
end W7
section W8
set_option autoImplicit false
set_option linter.all false
set_option maxRecDepth 100000
namespace L2.K37R
open PySem PySem.Spec PyProof.Rows C8
open K37 (S2 Pl)

section
variable {P : Program} {w : World} {K : PySem.W.Frag} {mg : Str → Option Value} {base : Heap}

abbrev sBookOf : Stmt := top 14
def spBookOf : Sp := fun vs H Q _ => ∃ (a : Addr) (ts : List Tm), vs = [.ref a] ∧ PolyT H a ts ∧ (ts.map (·.1)).Nodup ∧ ts.length < sizeLine ∧
  ∀ H' q, Same H H' → H q = none → At H' q ts → Q (.ref q) H'
theorem scBookOf : FnScope ["poly", "i", "j", "c"] ["poly"] (defScope sBookOf) := ⟨rfl, rfl, rfl, by decide +kernel, rfl, by decide +kernel, by decide +kernel⟩
theorem ok_bookOf {f : Addr} {fd : FuncData} (F : FnP K "book_of" sBookOf f fd) : FnOk P w K mg base CX0 1 f fd ["poly"] spBookOf := by
  refine okP F scBookOf (fun vs H Q E h => ?_) (fun cdv A outer s H vs Q E hr h => ?_)
  · obtain ⟨a, ts, rfl, _⟩ := h
    rfl
  · obtain ⟨a, ts, rfl, ⟨rs, hA, pr⟩, hN, hL, k⟩ := h
    have hu := hu_of hr
    have nd := scBookOf.nd
    refine ⟨_, pss_one (ps_ret (pe_dcT (own := [("i", 1), ("j", 2), ("c", 3)]) (g := gTup K 3 (gCons (gName 1) (gCons (gName 2) (gCons (gName 3) gNil)))) (tt := tYes) (Nat.lt_of_succ_lt hu) rfl nd (pi_tup (pv 0)) (blkOk_by (N := ["poly", "i", "j", "c"]) (sc := defScope sBookOf) (by decide +kernel))
      (fun _ _ _ _ _ => pg_tup rfl (pgs_cons (pg_name (i := 1) nd rfl (Or.inl rfl)) (pgs_cons (pg_name (i := 2) nd rfl (Or.inl rfl)) (pgs_cons (pg_name (i := 3) nd rfl (Or.inl rfl)) pgs_nil)))) (fun _ _ _ _ _ => pts_nil)
      (fun _ _ _ _ _ => pe_tup (pa_cons (pv 1) (pa_cons (pv 2) pa_nil))) (fun _ _ _ _ _ => pv 3))), ?_⟩
    refine ⟨_, rfl, a, rfl, ⟨_, SqT.of hA⟩, fun D hD => ?_⟩
    refine dcT_it (walk_tup (xs := rs.map V.ref)) (fun n H' => Same H H' ∧ At H' D (ts.take n)) ⟨same_upd_new hD, upd_same⟩ (fun n H' _ q => SqT.of (q.1 _ _ hA)) ?_ ?_
    · rintro n x H1 H2 hi ⟨s1, d1⟩ ⟨rfl, hx⟩
      rw [List.getElem?_map] at hx
      obtain ⟨r, hr', rfl⟩ := Option.map_eq_some_iff.mp hx
      obtain ⟨t, ht, hb⟩ := paired_at pr hr'
      have hb2 := s1 _ _ hb
      refine ⟨r, _, rfl, SqT.of hb2, rfl, _, _, rfl, _, _, rfl, _, _, rfl, rfl, rfl, tyes ⟨_, rfl, _, rfl, by show 2 ≤ sizeLine; decide, fun c hc => ?_⟩⟩
      have sc := same_upd_new (o := .tup [.int (t.1.1 : Int), .int (t.1.2 : Int)]) hc
      have new : t.1 ∉ (ts.take n).map (·.1) := by
        have := filterMap_nodup_pre (f := some) (ts := ts) (by rw [List.filterMap_some]; exact hN) ht rfl
        rw [List.filterMap_some] at this
        exact this
      refine ⟨_, rfl, _, ky t.1, c, rfl, upd_same, sc _ _ d1, ?_, same_free (s1.trans sc) hD, ?_⟩
      · have := List.length_take_le' n ts
        rw [List.length_map]
        omega
      · show upd _ _ _ D = _
        rw [upd_same, putK_enc, putM_new new, List.take_add_one, ht]
        rfl
    · rintro H' ⟨s1, d1⟩
      rw [List.length_map, Paired.length pr, List.take_length] at d1
      exact k _ D s1 hD d1

abbrev sTold : Stmt := top 16
def spTold : Sp := fun vs H Q _ => ∃ (a : Addr) (ts : List Tm), vs = [.ref a] ∧ At H a ts ∧ (ts.map (·.1)).Nodup ∧ ts.length < sizeLine ∧ (∀ t, t ∈ ts → t.1.1 ≤ 999 ∧ t.1.2 ≤ 999) ∧
  ∀ H' q, Same H H' → PolyT H' q (sortT ts) → Q (.ref q) H'
theorem scTold : FnScope ["book", "pair"] ["book"] (defScope sTold) := ⟨rfl, rfl, rfl, by decide +kernel, rfl, by decide +kernel, by decide +kernel⟩
theorem ok_told {f : Addr} {fd : FuncData} (F : FnP K "told" sTold f fd) (zM : ∃ t, mg "MOST_POWER" = some (.int 999 t)) (cP : Cal P w K mg base 1 "poly_of" spPolyOf []) : FnOk P w K mg base CX0 2 f fd ["book"] spTold := by
  refine okP F scTold (fun vs H Q E h => ?_) (fun cdv A outer s H vs Q E hr h => ?_)
  · obtain ⟨a, ts, rfl, _⟩ := h
    rfl
  · obtain ⟨a, ts, rfl, hA, hN, hL, hle, k⟩ := h
    have hu := hu_of hr
    have nd := scTold.nd
    obtain ⟨tM, zM⟩ := zM
    refine ⟨_, pss_cons (ps_if (pt_cmpR (op_neD hr.units) (pe_lock (pe_lc (own := [("pair", 1)]) (g := gName 1) rfl nd (pi_keys (pv 0)) (blkOk_by (N := ["book", "pair"]) (sc := defScope sTold) (by decide +kernel))
        (fun _ _ _ _ _ => pg_name (i := 1) nd rfl (Or.inl rfl)) (fun _ _ _ _ _ => pts_one (PW.pt (pw_or (pt_cmpR op_gt (pe_it (K := K) (pv 1) pe_int) (pe_glob (v := .int 999) (by rfl) zM ⟨_, rfl⟩) (nomark _)) (pw_or1 (pt_cmpR op_gt (pe_it (K := K) (pv 1) pe_int) (pe_glob (v := .int 999) (by rfl) zM ⟨_, rfl⟩) (nomark _))))))
        (fun _ _ _ _ _ => pe_int))) (pe_lst pa_nil) (nomark _)) pss_never pss_nil)
      (pss_one (ps_ret (pe_c cP hr (by decide) (by rfl) (pa_cons (pv 0) pa_nil)))), ?_⟩
    unfold tSeq tIfS tTest
    refine lc_book (i := 1) (j := 0) (fun _ => none) rfl hA hL (fun t H2 b R S ht ha ho hb yes no => ?_) (fun H' l s' hl hd => ?_)
    · have h1 := hle t ht
      refine ⟨_, rfl, b, _, _, _, rfl, rfl, SqT.of hb, at0, _, _, rfl, rfl, _, rfl, ?_⟩
      rw [decide_eq_false (by omega)]
      refine iteF ⟨_, rfl, b, _, _, _, rfl, rfl, SqT.of hb, at1, _, _, rfl, rfl, _, rfl, ?_⟩
      rw [decide_eq_false (by omega)]
      exact iteF (no _ rfl (Same.refl _))
    · have e1 : ts.filterMap (fun _ => (none : Option V)) = [] := by
        rw [List.filterMap_eq_nil_iff]
        exact fun _ _ => rfl
      rw [e1] at hd
      refine ⟨Nat.zero_le _, fun m hm => ?_⟩
      have sm := same_upd_new (o := .lst []) hm
      refine ⟨.list [], .list [], .lst (SqL.of (sm _ _ hd)) .nil, .lst (SqL.of upd_same) .nil, rfl, rfl, _, rfl, ?_⟩
      rw [show PyData.eqv (.list []) (.list []) = true from SeqAt.eqv_refl _ rfl]
      refine iteF ?_
      refine ⟨_, rfl, a, ts, rfl, sm _ _ (s' _ _ hA), hN, hL, fun H3 q s3 hp => k H3 q ((s'.trans sm).trans s3) hp⟩

abbrev sBack : Stmt := top 22
def spBack : Sp := fun vs H Q _ => ∃ (p : Nat) (_ : NeZero p) (n : Int), vs = [.int p, .int n] ∧ Pr p ∧ red (p := p) n ≠ 0 ∧
  ∀ H' c, Same H H' → 0 < c → c < (p : Int) → red (p := p) c * red n = 1 → Q (.int c) H'
theorem scBack : FnScope ["prime", "number", "step"] ["prime", "number"] (defScope sBack) := ⟨rfl, rfl, rfl, by decide +kernel, rfl, by decide +kernel, by decide +kernel⟩
theorem ok_back {f : Addr} {fd : FuncData} (F : FnP K "back_of" sBack f fd) (zr : mg "range" = none) : FnOk P w K mg base CX0 1 f fd ["prime", "number"] spBack := by
  refine okP F scBack (fun vs H Q E h => ?_) (fun cdv A outer s H vs Q E hr h => ?_)
  · obtain ⟨p, ne, n, rfl, _⟩ := h
    rfl
  · obtain ⟨p, ne, n, rfl, hp, hn, k⟩ := h
    have hu := hu_of hr
    have nd := scBack.nd
    have hp1 : 1 < p ∧ p ≤ 7 := by rcases hp with e | e | e | e <;> omega
    have hp0 : (0 : Int) < (p : Int) := by omega
    refine ⟨_, pss_one (ps_ret (pe_il (K := K) (pe_lc (own := [("step", 2)]) (g := gName 2) rfl nd (pi_range2 (by rfl) zr (pa_cons pe_int (pa_cons (pv 0) pa_nil))) (blkOk_by (N := ["prime", "number", "step"]) (sc := defScope sBack) (by decide +kernel))
      (fun _ _ _ _ _ => pg_name (i := 2) nd rfl (Or.inl rfl)) (fun _ _ _ _ _ => pts_one (pt_cmpR op_eq (pe_op op_mod (pe_op op_mul (pv 2) (pv 1)) (pv 0)) pe_int (nomark _))) (fun _ _ _ _ _ => pv 2)) pe_int)), ?_⟩
    refine ⟨_, rfl, 1, p, rfl, by omega, fun D hD => ?_⟩
    have en : ((p : Int) - 1).toNat = p - 1 := by omega
    let g : Nat → Option V := fun i => if ((1 + i : Nat) : Int) * n % (p : Int) = 1 then some (.int ((1 + i : Nat) : Int)) else none
    rw [en]
    refine lc_it walk_range (fun i H' => Same H H' ∧ H' D = some (.lst ((List.range i).filterMap g))) ⟨same_upd_new hD, upd_same⟩ (fun _ _ _ _ => True.intro) ?_ ?_
    · rintro i x H1 H2 hi ⟨s1, d1⟩ ⟨rfl, rfl⟩
      have ei : (1 : Int) + (i : Int) = ((1 + i : Nat) : Int) := by omega
      refine ⟨wipe_set _ 2 _, ⟨_, rfl, _, rfl, _, _, rfl, rfl, .inl ⟨by omega, by omega⟩, _, rfl, _, _, rfl, rfl, hp0, rfl, _, rfl, ite_eqI (fun e => ?_) (fun e => ?_)⟩⟩
      · refine ⟨_, rfl, _, d1, ?_, same_free s1 hD, ?_⟩
        · have := List.length_filterMap_le g (List.range i)
          rw [List.length_range] at this
          exact sm_line (by omega)
        · rw [upd_same, List.range_succ, List.filterMap_append]
          have : g i = some (.int (1 + (i : Int))) := by
            show (if _ then _ else _) = _
            rw [← ei, if_pos e]
          simp [this]
      · refine ⟨s1, ?_⟩
        rw [List.range_succ, List.filterMap_append]
        have : g i = none := by
          show (if _ then _ else _) = _
          rw [← ei, if_neg e]
        simp [this, d1]
    · rintro H' ⟨s1, d1⟩
      haveI := fd_of hp
      obtain ⟨b, hb⟩ := K37.Fd.inv _ hn
      have b0 : b ≠ 0 := fun e => by
        rw [e] at hb
        exact K37.Fd.nz (A := Fq p) (by grind)
      have bv : b.val ≠ 0 := fun e => b0 (_root_.Fin.ext e)
      have one : ∀ z : Int, red (p := p) z = 1 → z % (p : Int) = 1 := fun z hz => by
        have v := red_val (p := p) z
        rw [hz] at v
        rw [← v]
        show ((1 % p : Nat) : Int) = 1
        rw [Nat.mod_eq_of_lt hp1.1]
        rfl
      have gi : g (b.val - 1) = some (.int (b.val : Int)) := by
        show (if _ then _ else _) = _
        have e1 : ((1 + (b.val - 1) : Nat) : Int) = (b.val : Int) := by omega
        rw [e1, if_pos]
        refine one _ ?_
        rw [red_mul, red_of_val]
        grind
      have mem : V.int (b.val : Int) ∈ (List.range (p - 1)).filterMap g := List.mem_filterMap.mpr ⟨b.val - 1, by rw [List.mem_range]; have := b.isLt; omega, gi⟩
      cases hl : (List.range (p - 1)).filterMap g with
      | nil =>
        rw [hl] at mem
        cases mem
      | cons v r =>
        have mv : v ∈ (List.range (p - 1)).filterMap g := by
          rw [hl]
          exact List.mem_cons_self ..
        obtain ⟨i, hi, ei⟩ := List.mem_filterMap.mp mv
        rw [List.mem_range] at hi
        have ei : (if ((1 + i : Nat) : Int) * n % (p : Int) = 1 then some (V.int ((1 + i : Nat) : Int)) else none) = some v := ei
        split at ei
        · rename_i h1
          have ev := Option.some.inj ei
          rw [hl] at d1
          refine ⟨D, _, ((0 : Nat) : Int), v, rfl, rfl, SqL.of d1, atI_nat rfl, ?_⟩
          rw [← ev]
          refine k H' _ s1 (by omega) (by omega) ?_
          rw [← red_mul, ← red_mod, h1, red_one hp1.1]
        · cases ei
end
end L2.K37R
end W8
section W9
set_option autoImplicit false
set_option linter.all false
set_option maxRecDepth 100000
namespace L2.K37R
open PySem PySem.Spec PyProof.Rows C8
open K37 (S2 Pl)

/-! ### plain facts -/
section
variable {p : Nat} [NeZero p]
abbrev RX (p : Nat) [NeZero p] := Pl (Fq p)
theorem cf_C (A : RX p) (q : Nat × Nat) : cf (Pl.C A) q = if q.2 = 0 then A.co q.1 else 0 := by
  unfold cf
  rw [Pl.co_C]
  split
  · rfl
  · rw [Pl.co_zero]
theorem C_inj {A B : RX p} (h : Pl.C A = Pl.C B) : A = B := by
  have k : (Pl.C A).co 0 = (Pl.C B).co 0 := by rw [h]
  exact k
theorem hiX {ts : List Tm} {R : RX p} {m : Int} (h : Bk p ts (Pl.C R)) (k : IsHi 0 ts m) : m = K37.hi R := by
  rcases k with ⟨e, em⟩ | ⟨⟨t, ht, em⟩, hle⟩
  · have r0 : R = 0 := C_inj ((h.eq_nil.mp e).trans rfl)
    rw [em, r0, K37.hi_zero]
  · have c := (h.mem ht).2
    rw [cf_C] at c
    by_cases e0 : t.1.2 = 0
    · rw [if_pos e0] at c
      have d : K37.IsD R t.1.1 := ⟨c, fun i hi => by
        apply Classical.byContradiction
        intro z
        have kk : (i, 0) ∈ ts.map (·.1) := h.mem_key.mpr (by rw [cf_C, if_pos rfl]; exact z)
        obtain ⟨u, hu, eu⟩ := List.mem_map.mp kk
        have := hle u hu
        rw [em, eu] at this
        have : (i : Int) ≤ (t.1.1 : Int) := this
        omega⟩
      rw [em, K37.hi_ne d.ne, d.dg]
      rfl
    · rw [if_neg e0] at c
      exact absurd rfl c
theorem hiY {ts : List Tm} {F : S2 (Fq p)} {m : Int} (h : Bk p ts F) (k : IsHi 1 ts m) : m = K37.hi F := by
  rcases k with ⟨e, em⟩ | ⟨⟨t, ht, em⟩, hle⟩
  · rw [em, h.eq_nil.mp e, K37.hi_zero]
  · have c := (h.mem ht).2
    have d : K37.IsD F t.1.2 := ⟨fun z => c (by unfold cf; rw [z, Pl.co_zero]), fun j hj => by
      refine Pl.ext fun i => ?_
      rw [Pl.co_zero]
      apply Classical.byContradiction
      intro z
      have kk : (i, j) ∈ ts.map (·.1) := h.mem_key.mpr z
      obtain ⟨u, hu, eu⟩ := List.mem_map.mp kk
      have := hle u hu
      rw [em, eu] at this
      have : (j : Int) ≤ (t.1.2 : Int) := this
      omega⟩
    rw [em, K37.hi_ne d.ne, d.dg]
    rfl
/-- keys turned by g -/
theorem Bk.map {ts : List Tm} {F G : S2 (Fq p)} (h : Bk p ts F) (f : Tm → Tm) (g : Nat × Nat → Nat × Nat) (hf : ∀ t, f t = (g t.1, t.2)) (hg : ∀ a b, g a = g b → a = b) (h1 : ∀ q, cf G (g q) = cf F q) (h2 : ∀ r, cf G r ≠ 0 → ∃ q, r = g q) : Bk p (ts.map f) G where
  nd := nodup_map_inj h.nd f g (fun t => by rw [hf]) hg
  co r := by
    have key : ∀ q, lk (ts.map f) (g q) = lk ts q := by
      intro q
      clear h h1 h2
      induction ts with
      | nil => rfl
      | cons t ts ih =>
        rw [List.map_cons, lk_cons, lk_cons, ih, hf]
        by_cases e : t.1 = q
        · rw [if_pos e, if_pos (by rw [e])]
        · rw [if_neg e, if_neg (fun z => e (hg _ _ z))]
    by_cases x : ∃ q, r = g q
    · obtain ⟨q, rfl⟩ := x
      rw [h1, key, h.co]
    · have e1 : cf G r = 0 := Classical.byContradiction fun z => x (h2 r z)
      have e2 : lk (ts.map f) r = none := by
        rw [K37R.lk_none]
        intro m
        rw [List.map_map] at m
        obtain ⟨t, _, e⟩ := List.mem_map.mp m
        exact x ⟨t.1, by rw [← e]; show (f t).1 = _; rw [hf]⟩
      rw [e1, e2]
      exact red_zero.symm
  rg t ht := by
    obtain ⟨u, hu, e⟩ := List.mem_map.mp ht
    rw [← e, hf]
    exact h.rg u hu
/-- times a power of x, of y -/
theorem Bk.movedX {ts : List Tm} {B : RX p} (h : Bk p ts (Pl.C B)) (n : Nat) : Bk p (ts.map (mvT n)) (Pl.C (K37.mo 1 n * B)) := by
  refine h.map (mvT n) (fun q => (q.1 + n, q.2)) (fun _ => rfl) (fun a b e => by injection e with e1 e2; exact Prod.ext (by omega) e2) (fun q => ?_) fun r hr => ?_
  · rw [cf_C, cf_C, K37.co_mo_mul]
    show (if q.2 = 0 then _ else _) = _
    by_cases e : q.2 = 0
    · rw [if_pos e, if_pos e, if_neg (by show ¬ q.1 + n < n; omega), show q.1 + n - n = q.1 by omega]
      grind
    · rw [if_neg e, if_neg e]
  · rw [cf_C, K37.co_mo_mul] at hr
    by_cases e : r.2 = 0
    · rw [if_pos e] at hr
      by_cases x : r.1 < n
      · rw [if_pos x] at hr
        exact absurd rfl hr
      · exact ⟨(r.1 - n, r.2), Prod.ext (by show r.1 = r.1 - n + n; omega) rfl⟩
    · rw [if_neg e] at hr
      exact absurd rfl hr
theorem Bk.raised {ts : List Tm} {F : S2 (Fq p)} (h : Bk p ts F) (n : Nat) : Bk p (ts.map (rsT n)) (K37.mo 1 n * F) := by
  refine h.map (rsT n) (fun q => (q.1, q.2 + n)) (fun _ => rfl) (fun a b e => by injection e with e1 e2; exact Prod.ext e1 (by omega)) (fun q => ?_) fun r hr => ?_
  · unfold cf
    rw [K37.co_mo_mul]
    rw [if_neg (by show ¬ q.2 + n < n; omega), show q.2 + n - n = q.2 by omega]
    have e : (1 : RX p) * F.co q.2 = F.co q.2 := by grind
    rw [e]
  · unfold cf at hr
    rw [K37.co_mo_mul] at hr
    by_cases x : r.2 < n
    · rw [if_pos x, Pl.co_zero] at hr
      exact absurd rfl hr
    · exact ⟨(r.1, r.2 - n), Prod.ext rfl (by show r.2 = r.2 - n + n; omega)⟩
/-- the part that stands with a power of y -/
def partZ (F : S2 (Fq p)) (z : Int) : RX p := if 0 ≤ z then F.co z.toNat else 0
theorem lk_part (z : Int) (q : Nat × Nat) : ∀ ts : List Tm, lk (ts.filterMap (ptT z)) q = if q.2 = 0 ∧ 0 ≤ z then lk ts (q.1, z.toNat) else none
  | [] => by
    show none = _
    split <;> rfl
  | t :: ts => by
    have ih := lk_part z q ts
    rw [List.filterMap_cons]
    by_cases e : (t.1.2 : Int) = z
    · have e1 : ptT z t = some ((t.1.1, 0), t.2) := if_pos e
      rw [e1]
      show lk (((t.1.1, 0), t.2) :: ts.filterMap (ptT z)) q = _
      rw [lk_cons, ih, lk_cons]
      by_cases x : q.2 = 0 ∧ 0 ≤ z
      · rw [if_pos x, if_pos x]
        by_cases y : t.1.1 = q.1
        · rw [if_pos (show ((t.1.1, 0) : Nat × Nat) = q from Prod.ext y x.1.symm), if_pos (show t.1 = (q.1, z.toNat) from Prod.ext y (by show t.1.2 = z.toNat; omega))]
        · rw [if_neg (show ¬ ((t.1.1, 0) : Nat × Nat) = q from fun w => y (by rw [← w])), if_neg (show ¬ t.1 = (q.1, z.toNat) from fun w => y (by rw [w]))]
      · rw [if_neg x, if_neg x, if_neg]
        intro w
        exact x ⟨by rw [← w], by omega⟩
    · have e1 : ptT z t = none := if_neg e
      rw [e1]
      show lk (ts.filterMap (ptT z)) q = _
      rw [ih, lk_cons]
      by_cases x : q.2 = 0 ∧ 0 ≤ z
      · rw [if_pos x, if_pos x, if_neg]
        intro w
        have : t.1.2 = z.toNat := by rw [w]
        omega
      · rw [if_neg x, if_neg x]
theorem Bk.part {ts : List Tm} {F : S2 (Fq p)} (h : Bk p ts F) (z : Int) : Bk p (ts.filterMap (ptT z)) (Pl.C (partZ F z)) where
  nd := nodup_part h.nd z
  co q := by
    rw [cf_C, lk_part]
    by_cases e : q.2 = 0
    · rw [if_pos e]
      unfold partZ
      by_cases x : 0 ≤ z
      · rw [if_pos x, if_pos ⟨e, x⟩]
        exact h.co (q.1, z.toNat)
      · rw [if_neg x, if_neg (fun w => x w.2), Pl.co_zero]
        exact red_zero.symm
    · rw [if_neg e, if_neg (fun w => e w.1)]
      exact red_zero.symm
  rg t ht := by
    obtain ⟨u, hu, e⟩ := List.mem_filterMap.mp ht
    unfold ptT at e
    split at e
    · rw [← Option.some.inj e]
      exact h.rg u hu
    · cases e
theorem bd_C {A : RX p} {n : Nat} (h : K37.dlt A n) : Bd (Pl.C A) n 1 := fun q hq => by
  rw [cf_C] at hq
  by_cases e : q.2 = 0
  · rw [if_pos e] at hq
    refine ⟨?_, by omega⟩
    apply Nat.lt_of_not_le
    intro z
    exact hq (h _ z)
  · rw [if_neg e] at hq
    exact absurd rfl hq
theorem dlt_of_bd {A : RX p} {m n : Nat} (h : Bd (Pl.C A) m n) : K37.dlt A m := fun i hi => by
  apply Classical.byContradiction
  intro z
  have := h (i, 0) (by rw [cf_C, if_pos rfl]; exact z)
  have : i < m := this.1
  omega
theorem kap_C (c : Fq p) (A : RX p) : K37.kap c * Pl.C A = Pl.C (Pl.C c * A) := by
  rw [Pl.C_mul]
  rfl
end

theorem while_m {c : TT} {tb : TS} {D : Ends} {σ : St} {H : Hp} (Pv : Nat → St → Hp → Prop) (m0 : Nat) (h0 : Pv m0 σ H)
    (hs : ∀ m σ H, Pv m σ H → c σ H fun b H1 => if b = true then ∃ N : St → Hp → Prop, (∀ σ' H', N σ' H' → ∃ m', m' < m ∧ Pv m' σ' H') ∧ tb { D with nx := N, ct := N, bk := D.nx } σ H1 else D.nx σ H1) : tWhile c tb D σ H :=
  ⟨Pv, ⟨m0, h0⟩, hs⟩
end L2.K37R
end W9
section W10
set_option autoImplicit false
set_option linter.all false
set_option maxRecDepth 100000
namespace L2.K37R
open PySem PySem.Spec PyProof.Rows C8
open K37 (S2 Pl)

section
variable {P : Program} {w : World} {K : PySem.W.Frag} {mg : Str → Option Value} {base : Heap}
theorem nosl {i : Expr} (h : ∀ ov iv, subscripted i false ov iv = operate [ov, iv] (getItem ov iv)) : NoSl i := h

/-- a poly of x stands at a -/
def XAt (p : Nat) [NeZero p] (H : Hp) (a : Addr) (A : RX p) : Prop := ∃ ts, At H a ts ∧ Bk p ts (Pl.C A)
/-- a poly stands at a -/
def YAtP (p : Nat) [NeZero p] (H : Hp) (a : Addr) (F : S2 (Fq p)) : Prop := ∃ ts, At H a ts ∧ Bk p ts F
theorem YAtP.same {p : Nat} [NeZero p] {H H' : Hp} {a : Addr} {F : S2 (Fq p)} (s : Same H H') (h : YAtP p H a F) : YAtP p H' a F := let ⟨ts, e, k⟩ := h; ⟨ts, s _ _ e, k⟩

abbrev sDivide : Stmt := top 29
def spDivide : Sp := fun vs H Q _ => ∃ (p : Nat) (_ : NeZero p) (a b : Addr) (ts us : List Tm) (A B : RX p), vs = [.int p, .ref a, .ref b] ∧ Pr p ∧ At H a ts ∧ At H b us ∧ Bk p ts (Pl.C A) ∧ Bk p us (Pl.C B) ∧ K37.dlt A 64 ∧ K37.dlt B 64 ∧ B ≠ 0 ∧
  ∀ H' q a1 a2 vs ws U R, Same H H' → H' q = some (.tup [.ref a1, .ref a2]) → H a1 = none → H a2 = none → At H' a1 vs → At H' a2 ws → Bk p vs (Pl.C U) → Bk p ws (Pl.C R) → A = U * B + R → K37.dlt R (K37.dg B) → K37.dlt U 64 → Q (.ref q) H'
theorem scDivide : FnScope ["prime", "one", "other", "quotient", "rest", "degree", "back", "power", "number"] ["prime", "one", "other"] (defScope sDivide) := ⟨rfl, rfl, rfl, by decide +kernel, rfl, by decide +kernel, by decide +kernel⟩
theorem ok_divide {f : Addr} {fd : FuncData} (F : FnP K "divide" sDivide f fd) (zdict : mg "dict" = none) (cH : Cal P w K mg base 1 "highest" spHighest []) (cB : Cal P w K mg base 1 "back_of" spBack []) (cA : Cal P w K mg base 1 "added" spAdded []) (cM : Cal P w K mg base 1 "moved_up" spMoved []) : FnOk P w K mg base CX0 2 f fd ["prime", "one", "other"] spDivide := by
  refine okP F scDivide (fun vs H Q E h => ?_) (fun cdv A outer s H vs Q E hr h => ?_)
  · obtain ⟨p, ne, a, b, ts, us, A, B, rfl, _⟩ := h
    rfl
  · obtain ⟨p, ne, a, b, ts, us, PA', PB, rfl, hp, hA, hB, kA, kB, dA, dB, hB0, k⟩ := h
    have hu := hu_of hr
    have hu2 : (A.deeper (envOfC "divide" (defScope sDivide) s.heap.objs.size f cdv)).units + 2 < cLine := Nat.lt_of_le_of_lt (Nat.add_le_add_left (by decide : 2 ≤ 64) _) hr.units
    have nd := scDivide.nd
    have hp17 : 1 < p ∧ p ≤ 7 := by rcases hp with e | e | e | e <;> omega
    have hp0 : (0 : Int) < (p : Int) := by omega
    haveI := fd_of hp
    have ns2 : ∀ (e1 e2 : Expr) (x : Pos) (kk : Nat), NoSl (.Tuple [e1, e2] kk x) := fun _ _ _ _ _ _ => rfl
    refine ⟨_, pss_cons (ps_par3 (i := 3) (j := 4) (l := 5) rfl nd rfl rfl rfl (by decide) (by decide) (by decide) rfl rfl rfl
        (pa_cons pe_dnewT (pa_cons (pe_callTy (call_dictT hu2) (by rfl) zdict (by decide +kernel) (pa_cons (pv 1) pa_nil)) (pa_cons (pe_c cH hr (by decide) (by rfl) (pa_cons (pv 2) (pa_cons pe_int pa_nil))) pa_nil))) (by rfl))
      (pss_cons (ps_set (i := 6) nd rfl (.inl rfl) (pe_c cB hr (by decide) (by rfl) (pa_cons (pv 0) (pa_cons (pe_dget hu (pv 2) (pe_tup (pa_cons (pv 5) (pa_cons pe_int pa_nil))) (fun _ _ => rfl)) pa_nil))))
      (pss_cons (ps_while PassesOwn.never (pt_cmpR op_ge (pe_c cH hr (by decide) (by rfl) (pa_cons (pv 4) (pa_cons pe_int pa_nil))) (pv 5) (nomark _))
        (pss_cons (ps_set (i := 7) nd rfl (.inl rfl) (pe_c cH hr (by decide) (by rfl) (pa_cons (pv 4) (pa_cons pe_int pa_nil))))
        (pss_cons (ps_set (i := 8) nd rfl (.inl rfl) (pe_op op_mod (pe_op op_mul (pe_dget hu (pv 4) (pe_tup (pa_cons (pv 7) (pa_cons pe_int pa_nil))) (fun _ _ => rfl)) (pv 6)) (pv 0)))
        (pss_cons (ps_dput hu (pv 3) (pe_tup (pa_cons (pe_op op_sub (pv 7) (pv 5)) (pa_cons pe_int pa_nil))) (pv 8) rfl)
        (pss_one (ps_set (i := 4) nd rfl (.inl rfl) (pe_c cA hr (by decide) (by rfl) (pa_cons (pv 0) (pa_cons (pv 4) (pa_cons (pe_c cM hr (by decide) (by rfl) (pa_cons (pv 2) (pa_cons (pe_op op_sub (pv 7) (pv 5)) pa_nil))) (pa_cons (pe_un un_neg (pv 8)) pa_nil)))))))))))
      (pss_one (ps_ret (pe_tup (pa_cons (pv 3) (pa_cons (pv 4) pa_nil))))))), ?_⟩
    have sA : Sm (Pl.C PA') := (bd_C dA).mono (Nat.le_refl _) (by decide)
    have sB : Sm (Pl.C PB) := (bd_C dB).mono (Nat.le_refl _) (by decide)
    intro D hD
    refine ⟨_, rfl, a, _, rfl, .inl (same_upd_new hD _ _ hA), enc_keys ts, kA.hash sA, fun R0 hR => ?_⟩
    have s1 : Same H (upd (upd H D (.dT [])) R0 (.dT (ts.map enc))) := (same_upd_new hD).trans (same_upd_new hR)
    have hDR : D ≠ R0 := ne_of_none upd_same hR
    have hR0 : H R0 = none := by
      rw [upd_ne hDR.symm] at hR
      exact hR
    refine ⟨_, rfl, b, us, 0, rfl, by decide, s1 _ _ hB, kB.line sB, fun H2 dd s2 hi2 => ⟨_, _, _, rfl, ?_⟩⟩
    have edd := hiX kB hi2
    rw [K37.hi_ne hB0] at edd
    have isB := K37.dg_is hB0
    generalize hdeg : K37.dg PB = d at edd isB
    subst edd
    have s12 := s1.trans s2
    have hn0 : lk us (d, 0) = some ((PB.co d).val : Int) := by
      cases x : lk us (d, 0) with
      | none =>
        have z := kB.lk_none.mp x
        rw [cf_C, if_pos rfl] at z
        exact absurd z isB.1
      | some z =>
        have y := (kB.lk_some x).1
        rw [cf_C, if_pos rfl] at y
        rw [y]
    refine ⟨_, rfl, _, rfl, _, rfl, by show 2 ≤ sizeLine; decide, fun c hc => ?_⟩
    have sc := same_upd_new (o := .tup [.int (d : Int), .int 0]) hc
    have g0 := dget_book (q := (d, 0)) (.inl (sc _ _ (s12 _ _ hB))) (show PairAt (upd H2 c (.tup [.int (d : Int), .int 0])) c (d, 0) from upd_same)
    rw [hn0] at g0
    refine ⟨b, _, rfl, g0, p, ne, _, rfl, hp, by rw [red_of_val]; exact isB.1, fun H3 bk s3 hb0 hb1 hb2 => ?_⟩
    rw [red_of_val] at hb2
    have s13 : Same H H3 := (s12.trans sc).trans s3
    have hD3 : At H3 D [] := s3 _ _ (sc _ _ (s2 _ _ ((same_upd_new hR) _ _ upd_same)))
    have hR3 : At H3 R0 ts := s3 _ _ (sc _ _ (s2 _ _ upd_same))
    refine while_m (fun m σ' H' => ∃ (x y : Option V) (rq : Addr) (vs ws : List Tm) (U R : RX p), σ' = [some (.int p), some (.ref a), some (.ref b), some (.ref D), some (.ref rq), some (.int d), some (.int bk), x, y] ∧ Same H H' ∧ At H' D vs ∧ H rq = none ∧ rq ≠ D ∧ At H' rq ws ∧
      Bk p vs (Pl.C U) ∧ Bk p ws (Pl.C R) ∧ PA' = U * PB + R ∧ K37.dlt R m ∧ m ≤ 64 ∧ K37.dlt U 64 ∧ ∀ i, U.co i ≠ 0 → m ≤ i + d) 64
      ⟨none, none, R0, [], ts, 0, PA', rfl, s13, hD3, hR0, hDR.symm, hR3, Bk.nil, kA, by grind, dA, Nat.le_refl _, K37.dlt.zero _, fun i hi => absurd (Pl.co_zero i) hi⟩ ?_
    rintro m σ' H' ⟨x, y, rq, vs, ws, U, R, rfl, s4, hD4, hrq, hne, hR4, kU, kR, eA, dR, hm64, dU, hU⟩
    have sR : Sm (Pl.C R) := (bd_C (dR.mono hm64)).mono (Nat.le_refl _) (by decide)
    have sU : Sm (Pl.C U) := (bd_C dU).mono (Nat.le_refl _) (by decide)
    refine ⟨_, rfl, rq, ws, 0, rfl, by decide, hR4, kR.line sR, fun H5 e5 s5 hi5 => ⟨_, rfl, _, _, rfl, rfl, _, rfl, ?_⟩⟩
    have e5h := hiX kR hi5
    by_cases hc5 : (d : Int) ≤ e5
    · rw [decide_eq_true hc5]
      refine iteT ?_
      have R0' : R ≠ 0 := fun z => by
        rw [z, K37.hi_zero] at e5h
        omega
      have isR := K37.dg_is R0'
      rw [K37.hi_ne R0'] at e5h
      generalize hdr : K37.dg R = e at e5h isR
      subst e5h
      have hde : d ≤ e := by omega
      have hem : e < m := isR.lt_of_dlt dR
      refine ⟨_, fun σ'' H'' q => q, ?_⟩
      have s45 := s4.trans s5
      refine ⟨_, rfl, rq, ws, 0, rfl, by decide, s5 _ _ hR4, kR.line sR, fun H6 e6 s6 hi6 => ?_⟩
      have e6h := hiX kR hi6
      rw [K37.hi_ne R0', hdr] at e6h
      subst e6h
      have hnR : lk ws (e, 0) = some ((R.co e).val : Int) := by
        cases x : lk ws (e, 0) with
        | none =>
          have z := kR.lk_none.mp x
          rw [cf_C, if_pos rfl] at z
          exact absurd z isR.1
        | some z =>
          have y := (kR.lk_some x).1
          rw [cf_C, if_pos rfl] at y
          rw [y]
      have s46 := s5.trans s6
      refine ⟨_, rfl, _, rfl, by show 2 ≤ sizeLine; decide, fun c6 hc6 => ?_⟩
      have sc6 := same_upd_new (o := .tup [.int (e : Int), .int 0]) hc6
      have g6 := dget_book (q := (e, 0)) (.inl (sc6 _ _ (s46 _ _ hR4))) (show PairAt (upd H6 c6 (.tup [.int (e : Int), .int 0])) c6 (e, 0) from upd_same)
      rw [hnR] at g6
      have vlt := (R.co e).isLt
      refine ⟨rq, _, rfl, g6, _, rfl, _, _, rfl, rfl, .inl ⟨by omega, by omega⟩, _, rfl, _, _, rfl, rfl, hp0, ?_⟩
      simp only []
      generalize ez : ((R.co e).val : Int) * bk % (p : Int) = z
      have z0 : 0 ≤ z := by rw [← ez]; exact Int.emod_nonneg _ (by omega)
      have zp : z < p := by rw [← ez]; exact Int.emod_lt_of_pos _ hp0
      have rz : red (p := p) z = R.co e * red bk := by rw [← ez, red_mod, red_mul, red_of_val]
      have bk0 : red (p := p) bk ≠ 0 := fun w => by
        rw [w] at hb2
        exact K37.Fd.nz (A := Fq p) (by grind)
      have rz0 : red (p := p) z ≠ 0 := by
        rw [rz]
        exact K37.mul_ne isR.1 bk0
      have zpos : 0 < z := by
        rcases Int.lt_or_eq_of_le z0 with w | w
        · exact w
        · rw [← w] at rz0
          exact absurd red_zero rz0
      have ed : (e : Int) - (d : Int) = ((e - d : Nat) : Int) := by omega
      have s7 := s46.trans sc6
      refine ⟨_, rfl, _, rfl, _, rfl, _, rfl, _, _, rfl, rfl, by show 2 ≤ sizeLine; decide, fun c7 hc7 => ?_⟩
      have hD7 := s7 _ _ hD4
      have hDc : D ≠ c7 := ne_of_none hD7 hc7
      have lv : (vs.map enc).length < sizeLine := by
        rw [List.length_map]
        exact kU.line sU
      refine ⟨D, _, rfl, .inr ⟨vs.map enc, ky (e - d, 0), c7, (same_upd_new hc7) _ _ hD7, rfl, by rw [upd_same]; show some (HO.tup [.int ((e : Int) - (d : Int)), .int 0]) = _; rw [ed]; rfl, lv, rfl⟩, ?_⟩
      generalize hH7 : upd (upd H6 c6 (.tup [.int (e : Int), .int 0])) c7 (.tup [.int ((e : Int) - (d : Int)), .int 0]) = H7
      have s77 : Same (upd H6 c6 (.tup [.int (e : Int), .int 0])) H7 := by
        rw [← hH7]
        exact same_upd_new hc7
      have s8 : Same H (upd H7 D (.dT (putK (vs.map enc) (ky (e - d, 0)) (.int z)))) := same_free (((s4.trans s7).trans s77)) hD
      have keep8 : ∀ c o, c ≠ D → H' c = some o → (upd H7 D (.dT (putK (vs.map enc) (ky (e - d, 0)) (.int z)))) c = some o := fun c o h1 h2 => by
        rw [upd_ne h1]
        exact s77 _ _ (s7 _ _ h2)
      have ed2 : Int.ofNat e - Int.ofNat d = ((e - d : Nat) : Int) := by
        show (e : Int) - (d : Int) = _
        exact ed
      refine ⟨_, rfl, _, rfl, _, rfl, _, rfl, _, rfl, _, _, rfl, rfl, b, us, e - d, by show [V.ref b, V.int ((e : Int) - (d : Int))] = _; rw [ed], s8 _ _ hB, kB.nd, kB.line sB, fun H9 mq s9 hmq hM => ?_⟩
      have kM := kB.movedX (e - d)
      have dM : K37.dlt (K37.mo 1 (e - d) * PB) (e + 1) := fun i hi => by
        rw [K37.co_mo_mul]
        split
        · rfl
        · rw [isB.2 _ (by omega)]
          grind
      have sM : Sm (Pl.C (K37.mo 1 (e - d) * PB)) := (bd_C (dM.mono (show e + 1 ≤ 64 by omega))).mono (Nat.le_refl _) (by decide)
      refine ⟨_, rfl, _, rfl, p, ne, rq, mq, ws, _, _, _, _, rfl, hp17.1, hp17.2, s9 _ _ (keep8 _ _ hne hR4), hM, kR, kM, sR, sM, fun H10 q10 ws' s10 hq10 hA10 k10 => ?_⟩
      have s19 : Same H H10 := (s8.trans s9).trans s10
      have hD10 : At H10 D (putM vs (e - d, 0) z) := by
        refine s10 _ _ (s9 _ _ ?_)
        show upd _ D _ D = _
        rw [upd_same, putK_enc]
      have hq10D : q10 ≠ D := fun w => by
        rw [w, s9 D _ upd_same] at hq10
        cases hq10
      have eR : Pl.C R + K37.kap (red (-z)) * Pl.C (K37.mo 1 (e - d) * PB) = Pl.C (R - Pl.C (red z) * (K37.mo 1 (e - d) * PB)) := by
        rw [kap_C, ← Pl.C_add, red_neg, Pl.C_neg]
        congr 1
        grind
      rw [eR] at k10
      have hq0 : H q10 = none := by
        cases w : H q10 with
        | none => rfl
        | some o =>
          rw [s9 _ _ (s8 _ _ w)] at hq10
          cases hq10
      refine ⟨e, hem, _, _, q10, _, ws', U + K37.mo (red z) (e - d), _, rfl, s19, hD10, hq0, hq10D, hA10, ?_, k10, ?_, ?_, by omega, ?_, ?_⟩
      · refine kU.put (e - d, 0) zpos zp _ fun r => ?_
        rw [cf_C, cf_C, Pl.co_add, K37.co_mo]
        by_cases h1 : r.2 = 0
        · rw [if_pos h1, if_pos h1]
          by_cases h2 : r.1 = e - d
          · rw [if_pos h2, if_pos (Prod.ext h2 h1), h2]
            have u0 : U.co (e - d) = 0 := Classical.byContradiction fun w => by
              have := hU _ w
              omega
            rw [u0]
            grind
          · rw [if_neg h2, if_neg (fun w => h2 (by rw [w]))]
            grind
        · rw [if_neg h1, if_neg h1, if_neg (fun w => h1 (by rw [w]))]
      · rw [K37.mo_C (red z) (e - d)]
        grind
      · intro i hi
        rw [Pl.co_sub, Pl.co_Cmul, K37.co_mo_mul, if_neg (by omega)]
        by_cases h1 : i = e
        · rw [h1, show e - (e - d) = d by omega, rz]
          grind
        · rw [isR.2 i (by omega), isB.2 _ (by omega)]
          grind
      · intro i hi
        rw [Pl.co_add, dU i hi, K37.co_mo, if_neg (by omega)]
        grind
      · intro i hi
        rw [Pl.co_add, K37.co_mo] at hi
        by_cases h1 : i = e - d
        · omega
        · rw [if_neg h1] at hi
          have := hU i (by grind)
          omega
    · rw [decide_eq_false hc5]
      refine iteF ?_
      refine ⟨_, rfl, _, rfl, by show 2 ≤ sizeLine; decide, fun q hq => ?_⟩
      have sq := same_upd_new (o := .tup [.ref D, .ref rq]) hq
      refine k _ q D rq vs ws U R ((s4.trans s5).trans sq) upd_same hD hrq (sq _ _ (s5 _ _ hD4)) (sq _ _ (s5 _ _ hR4)) kU kR eA ?_ dU
      rw [hdeg]
      refine K37.dlt_of_hi ?_
      rw [← e5h]
      omega
end
end L2.K37R
end W10
section W11
set_option autoImplicit false
set_option linter.all false
set_option maxRecDepth 100000
namespace L2.K37R
open PySem PySem.Spec PyProof.Rows C8
open K37 (S2 Pl)

/-- a promise, kept shut -/
@[irreducible] def Wr (sp : Sp) : Sp := sp
theorem wr {sp : Sp} {vs : List V} {H : Hp} {Q : VK} {E : XK} (h : sp vs H Q E) : Wr sp vs H Q E := by
  unfold Wr
  exact h
theorem un_wr {sp : Sp} {vs : List V} {H : Hp} {Q : VK} {E : XK} (h : Wr sp vs H Q E) : sp vs H Q E := by
  unfold Wr at h
  exact h
theorem cal_wr {P : Program} {w : World} {K : PySem.W.Frag} {mg : Str → Option Value} {base : Heap} {k : Nat} {x : Str} {sp : Sp} {dvs : List V} (c : Cal P w K mg base k x sp dvs) : Cal P w K mg base k x (Wr sp) dvs :=
  let ⟨f, fd, ps, ds, F, a, b, d, e⟩ := c.ex
  ⟨f, fd, ps, ds, F.imp fun _ _ _ _ h => un_wr h, a, b, d, e⟩

/-! ### the promises, told of polys -/
section
variable {p : Nat} [NeZero p] {H : Hp} {a b : Addr} {F G : S2 (Fq p)} {Q : VK} {E : XK}
theorem pr17 {p : Nat} (h : Pr p) : 1 < p ∧ p ≤ 7 := by rcases h with e | e | e | e <;> omega
theorem enc_inj {t u : Tm} (e : enc t = enc u) : t = u := by
  have e1 : ky t.1 = ky u.1 := congrArg Prod.fst e
  have e2 : V.int t.2 = V.int u.2 := congrArg Prod.snd e
  exact Prod.ext (ky_inj e1) (V.int.inj e2)
theorem YAtP.at' (h : YAtP p H a F) : ∃ ts, At H a ts ∧ Bk p ts F := h
theorem YAtP.uniq (h : YAtP p H a F) (k : YAtP p H a G) : F = G := by
  obtain ⟨ts, e, x⟩ := h
  obtain ⟨us, f, y⟩ := k
  have z := at_inj e f
  have : ts = us := by
    refine List.map_inj_right (fun t u e => ?_) |>.mp z
    exact enc_inj e
  subst this
  exact cf_ext fun q => by rw [x.co, y.co]
theorem added_y {n : Int} (hp : Pr p) (hA : YAtP p H a F) (hB : YAtP p H b G) (sA : Sm F) (sB : Sm G) (k : ∀ H' q, Same H H' → H q = none → YAtP p H' q (F + K37.kap (red n) * G) → Q (.ref q) H') :
    Wr spAdded [.int p, .ref a, .ref b, .int n] H Q E := by
  obtain ⟨ts, hA, kA⟩ := hA
  obtain ⟨us, hB, kB⟩ := hB
  exact wr ⟨p, ‹_›, a, b, ts, us, F, G, n, rfl, (pr17 hp).1, (pr17 hp).2, hA, hB, kA, kB, sA, sB, fun H' q ws s hq hw kw => k H' q s hq ⟨ws, hw, kw⟩⟩
theorem kap_one (hp : 1 < p) : K37.kap (red (p := p) 1) = 1 := by
  rw [red_one hp]
  rfl
theorem kap_neg (hp : 1 < p) : K37.kap (red (p := p) (-1)) = -1 := by
  rw [red_neg, red_one hp]
  show Pl.C (Pl.C (-1)) = _
  rw [Pl.C_neg, Pl.C_neg]
  rfl
/-- one and the other, summed -/
theorem plus_y (hp : Pr p) (hA : YAtP p H a F) (hB : YAtP p H b G) (sA : Sm F) (sB : Sm G) (k : ∀ H' q, Same H H' → H q = none → YAtP p H' q (F + G) → Q (.ref q) H') :
    Wr spAdded [.int p, .ref a, .ref b, .int 1] H Q E := added_y hp hA hB sA sB fun H' q s hq y => k H' q s hq (by
  rw [kap_one (pr17 hp).1] at y
  rw [show F + G = F + 1 * G by grind]
  exact y)
theorem minus_y (hp : Pr p) (hA : YAtP p H a F) (hB : YAtP p H b G) (sA : Sm F) (sB : Sm G) (k : ∀ H' q, Same H H' → H q = none → YAtP p H' q (F - G) → Q (.ref q) H') :
    Wr spAdded [.int p, .ref a, .ref b, .int (-1)] H Q E := added_y hp hA hB sA sB fun H' q s hq y => k H' q s hq (by
  rw [kap_neg (pr17 hp).1] at y
  rw [show F - G = F + -1 * G by grind]
  exact y)
theorem product_y {m n m' n' : Nat} (hp : Pr p) (hA : YAtP p H a F) (hB : YAtP p H b G) (sA : Bd F m n) (sB : Bd G m' n') (hl : m * n * (m' * n') ≤ 3000) (k : ∀ H' q, Same H H' → H q = none → YAtP p H' q (F * G) → Q (.ref q) H') :
    Wr spProduct [.int p, .ref a, .ref b] H Q E := by
  obtain ⟨ts, hA, kA⟩ := hA
  obtain ⟨us, hB, kB⟩ := hB
  exact wr ⟨p, ‹_›, a, b, ts, us, F, G, rfl, (pr17 hp).1, (pr17 hp).2, hA, hB, kA, kB, Nat.le_trans (Nat.mul_le_mul (kA.len sA) (kB.len sB)) hl, fun H' q ws s hq hw kw => k H' q s hq ⟨ws, hw, kw⟩⟩
theorem scaled_y {n : Int} (hp : Pr p) (hA : YAtP p H a F) (sA : Sm F) (k : ∀ H' q, Same H H' → H q = none → YAtP p H' q (K37.kap (red n) * F) → Q (.ref q) H') :
    Wr spScaled [.int p, .ref a, .int n] H Q E := by
  obtain ⟨ts, hA, kA⟩ := hA
  exact wr ⟨p, a, ts, n, rfl, (pr17 hp).1, hA, kA.nd, kA.line sA, kA.small (pr17 hp).2, fun H' q s hq hw => k H' q s hq ⟨_, hw, kA.scale n⟩⟩
theorem part_y {n : Int} (hA : YAtP p H a F) (sA : Sm F) (k : ∀ H' q, Same H H' → H q = none → YAtP p H' q (Pl.C (partZ F n)) → Q (.ref q) H') :
    Wr spPart [.ref a, .int n] H Q E := by
  obtain ⟨ts, hA, kA⟩ := hA
  exact wr ⟨a, ts, n, rfl, hA, kA.nd, kA.line sA, fun H' q s hq hw => k H' q s hq ⟨_, hw, kA.part n⟩⟩
theorem raised_y {n : Nat} (hA : YAtP p H a F) (sA : Sm F) (k : ∀ H' q, Same H H' → H q = none → YAtP p H' q (K37.mo 1 n * F) → Q (.ref q) H') :
    Wr spRaised [.ref a, .int n] H Q E := by
  obtain ⟨ts, hA, kA⟩ := hA
  exact wr ⟨a, ts, n, rfl, hA, kA.nd, kA.line sA, fun H' q s hq hw => k H' q s hq ⟨_, hw, kA.raised n⟩⟩
theorem highx_y {A : RX p} (hA : YAtP p H a (Pl.C A)) (sA : Sm (Pl.C A)) (k : ∀ H', Same H H' → Q (.int (K37.hi A)) H') :
    Wr spHighest [.ref a, .int 0] H Q E := by
  obtain ⟨ts, hA, kA⟩ := hA
  refine wr ⟨a, ts, 0, rfl, by decide, hA, kA.line sA, fun H' m s hi => ?_⟩
  rw [hiX kA hi]
  exact k H' s
theorem highy_y (hA : YAtP p H a F) (sA : Sm F) (k : ∀ H', Same H H' → Q (.int (K37.hi F)) H') :
    Wr spHighest [.ref a, .int 1] H Q E := by
  obtain ⟨ts, hA, kA⟩ := hA
  refine wr ⟨a, ts, 1, rfl, by decide, hA, kA.line sA, fun H' m s hi => ?_⟩
  rw [hiY kA hi]
  exact k H' s
theorem divide_y {A B : RX p} (hp : Pr p) (hA : YAtP p H a (Pl.C A)) (hB : YAtP p H b (Pl.C B)) (dA : K37.dlt A 64) (dB : K37.dlt B 64) (h0 : B ≠ 0)
    (k : ∀ H' q a1 a2 U R, Same H H' → H' q = some (.tup [.ref a1, .ref a2]) → H a1 = none → H a2 = none → YAtP p H' a1 (Pl.C U) → YAtP p H' a2 (Pl.C R) → A = U * B + R → K37.dlt R (K37.dg B) → K37.dlt U 64 → Q (.ref q) H') :
    Wr spDivide [.int p, .ref a, .ref b] H Q E := by
  obtain ⟨ts, hA, kA⟩ := hA
  obtain ⟨us, hB, kB⟩ := hB
  exact wr ⟨p, ‹_›, a, b, ts, us, A, B, rfl, hp, hA, hB, kA, kB, dA, dB, h0, fun H' q a1 a2 vs ws U R s hq h1 h2 e1 e2 k1 k2 eA dR dU => k H' q a1 a2 U R s hq h1 h2 ⟨vs, e1, k1⟩ ⟨ws, e2, k2⟩ eA dR dU⟩
theorem back_y {n : Int} (hp : Pr p) (hn : red (p := p) n ≠ 0) (k : ∀ H' c, Same H H' → 0 < c → c < (p : Int) → red (p := p) c * red n = 1 → Q (.int c) H') :
    Wr spBack [.int p, .int n] H Q E := wr ⟨p, ‹_›, n, rfl, hp, hn, k⟩
/-- the number with a pair of powers -/
theorem dget_y (hA : YAtP p H a F) {q : Nat × Nat} {c : Addr} {H' : Hp} (s : Same H H') (hc : PairAt H' c q) (h : cf F q ≠ 0) : DGet H' a (.ref c) (some (.int (cf F q).val)) := by
  obtain ⟨ts, hA, kA⟩ := hA
  have g := dget_book (q := q) (.inl (s _ _ hA)) hc
  have e : lk ts q = some ((cf F q).val : Int) := by
    cases x : lk ts q with
    | none => exact absurd (kA.lk_none.mp x) h
    | some z => rw [(kA.lk_some x).1]
  rw [e] at g
  exact g
theorem YAtP.nil {H : Hp} {a : Addr} (h : H a = some (.dT [])) : YAtP p H a 0 := ⟨[], h, Bk.nil⟩
theorem YAtP.eq_nil {ts : List Tm} (hA : YAtP p H a F) (h : At H a ts) : ts = [] ↔ F = 0 := by
  obtain ⟨us, hA, kA⟩ := hA
  have z := at_inj h hA
  have : ts = us := List.map_inj_right (fun t u e => enc_inj e) |>.mp z
  rw [this]
  exact kA.eq_nil
end

/-! ### a list comprehension, its values told one by one -/
theorem paired_imp {α β : Type} {G G' : α → β → Prop} (h : ∀ a b, G a b → G' a b) : ∀ {l : List α} {m : List β}, Paired G l m → Paired G' l m
  | _, _, .nil => .nil
  | _, _, .cons a b => .cons (h _ _ a) (paired_imp h b)
/-- all but the list at D stays -/
def Off (D : Addr) (H H' : Hp) : Prop := (∃ acc, H D = some (.lst acc)) ∧ ∀ c o, c ≠ D → H c = some o → H' c = some o
theorem Off.of {D : Addr} {H H' : Hp} {acc : List V} (h : H D = some (.lst acc)) (s : Same H H') : Off D H H' := ⟨⟨acc, h⟩, fun c o _ e => s c o e⟩
theorem off_upd {D : Addr} {H : Hp} {o : HO} {acc : List V} (h : H D = some (.lst acc)) : Off D H (upd H D o) := ⟨⟨acc, h⟩, fun c u h e => by
  rw [upd_ne h]
  exact e⟩
theorem Off.tup {D c : Addr} {H H' : Hp} {xs : List V} (o : Off D H H') (e : H c = some (.tup xs)) : H' c = some (.tup xs) := by
  obtain ⟨⟨acc, h⟩, k⟩ := o
  exact k c _ (ne_of e h (fun z => nomatch z)) e
theorem Off.book {D c : Addr} {H H' : Hp} {ts : List Tm} (o : Off D H H') (e : At H c ts) : At H' c ts := by
  obtain ⟨⟨acc, h⟩, k⟩ := o
  exact k c _ (ne_of e h (fun z => nomatch z)) e
theorem lc_gen {J : It} {n : Nat} {Gd : Hp → Prop} {Y : Nat → Hp → V → Hp → Prop} (wk : Walk J n Gd Y) {g : TG} {tt : TT} {te : TE} {vs : List Nat} {σ : St} {H : Hp} {D : Addr} {Qd : Hp → Prop}
    (hD : H D = none) (hn : n < sizeLine) (keep : Nat → Bool) (R : Nat → V → Hp → Prop) (hR : ∀ i v H1 H2, Off D H1 H2 → R i v H1 → R i v H2) (hG : ∀ H', Same H H' → Gd H')
    (body : ∀ i x H1 H2 (Q' : VK) (S : Hp → Prop), i < n → Same H H1 → (∃ acc, H1 D = some (.lst acc)) → Y i H1 x H2 → (∀ y H5, keep i = true → Same H1 H5 → R i y H5 → Q' y H5) → (∀ H5, keep i = false → Same H1 H5 → S H5) →
      g x (wipe σ vs) H2 fun σ2 H3 => wipe σ2 vs = wipe σ vs ∧ tt σ2 H3 fun b H4 => if b = true then te σ2 H4 Q' else S H4)
    (fin : ∀ H' xs, Same H H' → H' D = some (.lst xs) → Paired (fun v i => R i v H') xs ((List.range n).filter keep) → Qd H') :
    ∃ W : Nat → Nat → Hp → Prop, (∃ m, W 0 m (upd H D (.lst []))) ∧ ∀ i m H, W i m H →
      (J.stop i H ∧ Qd H) ∨ (J.go i H ∧ ∃ Nx : Hp → Prop, (∀ H', Nx H' → ∃ m', m' < m ∧ W (i + 1) m' H') ∧ ∀ x H', J.yld i H x H' → g x (wipe σ vs) H' fun σ2 H2 => wipe σ2 vs = wipe σ vs ∧ tt σ2 H2 fun b H3 =>
        if b = true then te σ2 H3 fun y H4 => ∃ acc, H4 D = some (.lst acc) ∧ acc.length < sizeLine ∧ Nx (upd H4 D (.lst (acc ++ [y]))) else Nx H3) := by
  refine lc_it wk (fun i H' => ∃ xs, Same H H' ∧ H' D = some (.lst xs) ∧ Paired (fun v i => R i v H') xs ((List.range i).filter keep)) ⟨[], same_upd_new hD, upd_same, .nil⟩ (fun i H' _ ⟨_, s, _⟩ => hG H' s) ?_ ?_
  · rintro i x H1 H2 hi ⟨xs, s1, d1, p1⟩ y1
    refine body i x H1 H2 _ _ hi s1 ⟨xs, d1⟩ y1 (fun y H5 hk s5 r5 => ?_) (fun H5 hk s5 => ?_)
    · refine ⟨xs, s5 _ _ d1, ?_, xs ++ [y], same_free (s1.trans s5) hD, upd_same, ?_⟩
      · have l1 := Paired.length p1
        have := List.length_filter_le keep (List.range i)
        rw [List.length_range] at this
        omega
      · rw [List.range_succ, List.filter_append, show List.filter keep [i] = [i] by simp [hk]]
        exact paired_snoc (paired_imp (fun v j e => hR _ _ _ _ (off_upd (s5 _ _ d1)) (hR _ _ _ _ (Off.of d1 s5) e)) p1) (hR _ _ _ _ (off_upd (s5 _ _ d1)) r5)
    · refine ⟨xs, s1.trans s5, s5 _ _ d1, ?_⟩
      rw [List.range_succ, List.filter_append, show List.filter keep [i] = [] by simp [hk], List.append_nil]
      exact paired_imp (fun v j e => hR _ _ _ _ (Off.of d1 s5) e) p1
  · rintro H' ⟨xs, s1, d1, p1⟩
    exact fin H' xs s1 d1 p1
end L2.K37R
end W11
section R4
set_option autoImplicit false
set_option linter.all false
set_option maxRecDepth 100000
namespace L2.K37R
open PySem PySem.Spec PyProof.Rows

section
variable {X : Cx}
/-- {k: v}, one pair, the key a tuple -/
def tDispT (tk tv : TE) : TE := fun σ H Q => ∀ d, H d = none → tk σ (upd H d (.dT [])) fun x H1 => tv σ H1 fun y H2 => H2 d = some (.dT []) ∧ ∃ b k, x = .ref b ∧ H2 b = some (.tup (k.map kV)) ∧ Q (.ref d) (upd H2 d (.dT [(k, y)]))
theorem pe_dispT {kx vx : Expr} {pos : Pos} {tk tv : TE} (hu : X.A.units < cLine) (hk : PE X kx tk) (hv : PE X vx tv) : PE X (.Dict [some kx] [vx] pos) (tDispT tk tv) := by
  refine ⟨fun pins s σ H Q I h => ?_⟩
  have hn := I.hok.fresh (Nat.le_refl s.heap.objs.size)
  have I1 := I.laid (a := s.heap.objs.size) (o := .dT []) (h' := s.heap.push { cls := .type "dict", data := .dict #[] }) (t' := s.toks) (fun _ _ q => Heap.get?_push_of_some _ q) (Nat.le_refl _) (dt_empty s.heap I.big)
  refine wpAny_Dict_any rfl rfl (by simp) (by simp) ?_
  refine pairTrees_cons_walk (thn (hk.run pins _ σ _ _ I1 (h _ hn)) fun u s1 ⟨x, H1, I2, rx, q1⟩ => thn (hv.run pins s1 σ H1 _ I2 q1) fun r s2 ⟨y, H2, I3, ry, q2⟩ => pairTrees_nil_walk ?_)
  obtain ⟨hd, b, k, rfl, hb, q⟩ := q2
  unfold storeAll
  rw [List.forIn_cons]
  refine wpAny_bind (wpAny_bind (putT hu I3 hd (by show 0 < sizeLine; decide) hb rx ry fun s' I' => wpAny_pure ?_))
  dsimp only
  rw [List.forIn_nil]
  exact wpAny_pure ⟨.ref s.heap.objs.size, _, I', rfl, q⟩

/-! ### a book beside {} -/
theorem pairs_none {prog : Program} {w : World} {A : Around} {s : Shared} {E : Value → Shared → Prop} {nm : String} {a b : Addr} {oa ob : Obj} {es : Array DictEntry} {ep eq : Nat} {Q : Bool → Shared → Prop} (ha : (a == sysModules) = false) (hb : (b == sysModules) = false)
    (ga : s.heap.get? a = some oa) (da : oa.data = .dict es ep) (gb : s.heap.get? b = some ob) (db : ob.data = .dict #[] eq) (h : Q (decide (es.size = 0)) s) :
    wpAny (model prog w) A (Builtin.Dict.samePairs nm a b) Q E s := by
  unfold Builtin.Dict.samePairs Builtin.Dict.showsAll
  rw [if_neg (by rw [ha]; decide : ¬ (a == sysModules) = true), if_neg (by rw [hb]; decide : ¬ (b == sysModules) = true)]
  refine wpAny_bind (wpAny_pure (wpAny_bind (wpAny_pure (wpAny_bind (wpAny_dictEntries ga da ?_)))))
  dsimp only
  refine wpAny_bind (wpAny_dictEntries gb db ?_)
  by_cases z : es.size = 0
  · rw [if_neg (by simp [z])]
    refine wpAny_bind (wpAny_dictEpoch ga da (wpAny_bind ?_))
    rw [decide_eq_true z] at h
    rw [Std.Legacy.Range.forIn_eq_forIn_range']
    simp only [Std.Legacy.Range.size, z, Nat.sub_zero, Nat.add_sub_cancel, Nat.div_one, List.range'_zero, List.forIn_nil]
    exact wpAny_pure (wpAny_pure h)
  · rw [if_pos (by simpa using z)]
    rw [decide_eq_false z] at h
    exact wpAny_bind (wpAny_rule (wpAny_pure h))
theorem rc_none {prog : Program} {w : World} {A : Around} {s : Shared} {E : Value → Shared → Prop} {a b : Addr} {oa ob : Obj} {es : Array DictEntry} {ep eq : Nat} {Q : Value → Shared → Prop} (ha : (a == sysModules) = false) (hb : (b == sysModules) = false)
    (ga : s.heap.get? a = some oa) (da : oa.data = .dict es ep) (gb : s.heap.get? b = some ob) (db : ob.data = .dict #[] eq) (ta : s.TypeIs (.ref a) "dict") (tb : s.TypeIs (.ref b) "dict") (hu : A.units < cLine) (h : Q (.bool (decide (es.size = 0))) s) :
    wpAny (model prog w) A (compareOp .Eq (.ref a) (.ref b)) Q E s := by
  refine wpAny_richCompare_same_room (op := .Eq) ta tb PySem.F.slot_dict_eq (wpAny_call_entry PySem.F.slot_dict_eq ta PySem.F.entry_dict_eq ?_ (PySem.F.args_dict_eq_2 _ _)) hu
  show wpAny _ _ (Builtin.Dict.dictSlotArgs "__eq__" _ >>= _) _ _ _
  unfold Builtin.Dict.dictSlotArgs
  refine wpAny_bind (wpAny_bind (wpAny_notOrdered_dict ta (wpAny_pure (wpAny_bind (wpAny_isInstance (T := "dict") tb PySem.F.sub_dict_dict ?_)))))
  simp only [Bool.not_true, Bool.false_eq_true, if_false]
  refine wpAny_bind (wpAny_pure (wpAny_bind (wpAny_pure (wpAny_bind (pairs_none ha hb ga da gb db (wpAny_pure ⟨_, rfl, (fun x => nomatch x), by simpa using h⟩))))))
theorem rc_some {prog : Program} {w : World} {A : Around} {s : Shared} {E : Value → Shared → Prop} {a b : Addr} {oa ob : Obj} {es : Array DictEntry} {ep eq : Nat} {Q : Value → Shared → Prop} (ha : (a == sysModules) = false) (hb : (b == sysModules) = false)
    (ga : s.heap.get? a = some oa) (da : oa.data = .dict es ep) (gb : s.heap.get? b = some ob) (db : ob.data = .dict #[] eq) (ta : s.TypeIs (.ref a) "dict") (tb : s.TypeIs (.ref b) "dict") (hu : A.units < cLine) (h : Q (.bool (!decide (es.size = 0))) s) :
    wpAny (model prog w) A (compareOp .NotEq (.ref a) (.ref b)) Q E s := by
  refine wpAny_richCompare_same_room (op := .NotEq) ta tb PySem.F.slot_dict_ne (wpAny_call_entry PySem.F.slot_dict_ne ta PySem.F.entry_dict_ne ?_ (PySem.F.args_dict_ne_2 _ _)) hu
  show wpAny _ _ (Builtin.Dict.dictSlotArgs "__ne__" _ >>= _) _ _ _
  unfold Builtin.Dict.dictSlotArgs
  refine wpAny_bind (wpAny_bind (wpAny_notOrdered_dict ta (wpAny_pure (wpAny_bind (wpAny_isInstance (T := "dict") tb PySem.F.sub_dict_dict ?_)))))
  simp only [Bool.not_true, Bool.false_eq_true, if_false]
  refine wpAny_bind (wpAny_pure (wpAny_bind (wpAny_pure (wpAny_bind (pairs_none ha hb ga da gb db (wpAny_pure ⟨_, rfl, (fun x => nomatch x), by simpa using h⟩))))))

def rEqE : R2 := fun x y H Q => ∃ a b ts, x = .ref a ∧ y = .ref b ∧ At H a ts ∧ H b = some (.dT []) ∧ Q (.bl (decide (ts = []))) H
def rNeE : R2 := fun x y H Q => ∃ a b ts, x = .ref a ∧ y = .ref b ∧ At H a ts ∧ H b = some (.dT []) ∧ Q (.bl (!decide (ts = []))) H
theorem none_of {H : Hp} {s : Shared} {P : Program} {w : World} (ok : HOk P w H s.heap) {a : Addr} {kvs : List (List Key × V)} (h : H a = some (.dT kvs)) :
    (a == sysModules) = false ∧ s.TypeIs (.ref a) "dict" ∧ ∃ o es ep, s.heap.get? a = some o ∧ o.data = .dict es ep ∧ es.size = kvs.length := by
  obtain ⟨_, lo, xs, rel, dd⟩ := dt_of ok h
  refine ⟨lo, dd.typeIs, ?_⟩
  obtain ⟨o, es, ep, e1, _, e3, e4, _⟩ := dd
  exact ⟨o, es, ep, e1, e3, by rw [size_of_entries e4]; exact (Paired.length rel).symm⟩
theorem op_eqE (hu : X.A.units < cLine) : OpR X (compareOp .Eq) rEqE := by
  intro pins s σ H x y v u Q I rx ry h
  obtain ⟨a, b, ts, rfl, rfl, hA, hB, q⟩ := h
  obtain rfl : v = Value.ref a := rx
  obtain rfl : u = Value.ref b := ry
  obtain ⟨l1, t1, o1, es, ep, g1, d1, z1⟩ := none_of I.hok hA
  obtain ⟨l2, t2, o2, fs, eq, g2, d2, z2⟩ := none_of I.hok hB
  have e : fs = #[] := Array.eq_empty_of_size_eq_zero z2
  rw [e] at d2
  refine rc_none l1 l2 g1 d1 g2 d2 t1 t2 hu (fin_bl I q ?_)
  rw [z1, List.length_map]
  congr 1
  exact propext List.length_eq_zero_iff.symm
theorem op_neE (hu : X.A.units < cLine) : OpR X (compareOp .NotEq) rNeE := by
  intro pins s σ H x y v u Q I rx ry h
  obtain ⟨a, b, ts, rfl, rfl, hA, hB, q⟩ := h
  obtain rfl : v = Value.ref a := rx
  obtain rfl : u = Value.ref b := ry
  obtain ⟨l1, t1, o1, es, ep, g1, d1, z1⟩ := none_of I.hok hA
  obtain ⟨l2, t2, o2, fs, eq, g2, d2, z2⟩ := none_of I.hok hB
  have e : fs = #[] := Array.eq_empty_of_size_eq_zero z2
  rw [e] at d2
  refine rc_some l1 l2 g1 d1 g2 d2 t1 t2 hu (fin_bl I q ?_)
  rw [z1, List.length_map]
  congr 2
  exact propext List.length_eq_zero_iff.symm
end
end L2.K37R
end R4
section W12
set_option autoImplicit false
set_option linter.all false
set_option maxRecDepth 100000
namespace L2.K37R
open PySem PySem.Spec PyProof.Rows C8
open K37 (S2 Pl)

section
variable {P : Program} {w : World} {K : PySem.W.Frag} {mg : Str → Option Value} {base : Heap}
theorem smC {p : Nat} [NeZero p] {A : RX p} {n : Nat} (h : K37.dlt A n) (hn : n ≤ 64) : Sm (Pl.C A) := (bd_C h).mono hn (by decide)

/-- a value that is a poly at some place -/
def VX (p : Nat) [NeZero p] (v : V) (H : Hp) (F : S2 (Fq p)) : Prop := ∃ a, v = .ref a ∧ YAtP p H a F
/-- polys in a list -/
def BL (p : Nat) [NeZero p] (H : Hp) (l : Addr) (Fs : List (S2 (Fq p))) : Prop := ∃ xs, H l = some (.lst xs) ∧ Paired (fun v F => VX p v H F) xs Fs
theorem VX.same {p : Nat} [NeZero p] {H H' : Hp} {v : V} {F : S2 (Fq p)} (s : Same H H') (h : VX p v H F) : VX p v H' F := let ⟨a, e, k⟩ := h; ⟨a, e, k.same s⟩
theorem BL.same {p : Nat} [NeZero p] {H H' : Hp} {l : Addr} {Fs : List (S2 (Fq p))} (s : Same H H') (h : BL p H l Fs) : BL p H' l Fs := let ⟨xs, e, k⟩ := h; ⟨xs, s _ _ e, paired_imp (fun _ _ q => q.same s) k⟩
theorem paired_right {α β : Type} {G : α → β → Prop} : ∀ {l : List α} {m : List β}, Paired G l m → ∀ {i : Nat} {b : β}, m[i]? = some b → ∃ a, l[i]? = some a ∧ G a b
  | _, _, .nil, i, b, h => by
    rw [List.getElem?_nil] at h
    cases h
  | _, _, .cons x y, 0, b, h => by
    rw [List.getElem?_cons_zero] at h
    cases h
    exact ⟨_, List.getElem?_cons_zero, x⟩
  | _, _, .cons x y, i + 1, b, h => by
    rw [List.getElem?_cons_succ] at h
    obtain ⟨a, e, g⟩ := paired_right y h
    exact ⟨a, by rw [List.getElem?_cons_succ]; exact e, g⟩
theorem paired_mapr {α β γ : Type} {G : α → γ → Prop} (f : β → γ) : ∀ {l : List α} {m : List β}, Paired (fun a b => G a (f b)) l m → Paired G l (m.map f)
  | _, _, .nil => .nil
  | _, _, .cons a b => .cons a (paired_mapr f b)
theorem BL.get {p : Nat} [NeZero p] {H : Hp} {l : Addr} {Fs : List (S2 (Fq p))} {xs : List V} (h : BL p H l Fs) (hx : H l = some (.lst xs)) {i : Nat} {F : S2 (Fq p)} (hF : Fs[i]? = some F) : ∃ a, xs[i]? = some (.ref a) ∧ YAtP p H a F := by
  obtain ⟨ys, e, k⟩ := h
  rw [hx] at e
  cases e
  obtain ⟨v, ev, a, rfl, y⟩ := paired_right k hF
  exact ⟨a, ev, y⟩
theorem BL.len {p : Nat} [NeZero p] {H : Hp} {l : Addr} {Fs : List (S2 (Fq p))} {xs : List V} (h : BL p H l Fs) (hx : H l = some (.lst xs)) : xs.length = Fs.length := by
  obtain ⟨ys, e, k⟩ := h
  rw [hx] at e
  cases e
  exact k.length
/-- .. not at D -/
def VY (p : Nat) [NeZero p] (D : Addr) (v : V) (H : Hp) (F : S2 (Fq p)) : Prop := ∃ a, v = .ref a ∧ a ≠ D ∧ YAtP p H a F
theorem YAtP.off {p : Nat} [NeZero p] {H H' : Hp} {a D : Addr} {F : S2 (Fq p)} (o : Off D H H') (hD : a ≠ D) (h : YAtP p H a F) : YAtP p H' a F := let ⟨ts, e, k⟩ := h; ⟨ts, o.2 _ _ hD e, k⟩
theorem YAtP.ne {p : Nat} [NeZero p] {H : Hp} {a D : Addr} {F : S2 (Fq p)} {o : HO} (h : YAtP p H a F) (hD : H D = some o) (ho : ∀ ts : List Tm, o ≠ .dT (ts.map enc)) : a ≠ D := fun z => by
  obtain ⟨ts, e, _⟩ := h
  rw [z] at e
  exact ho ts (Option.some.inj (hD.symm.trans e))
theorem lst_ne {xs : List V} : ∀ ts : List Tm, HO.lst xs ≠ .dT (ts.map enc) := fun ts z => nomatch z

theorem VY.off {p : Nat} [NeZero p] {H H' : Hp} {D : Addr} {v : V} {F : S2 (Fq p)} (o : Off D H H') (h : VY p D v H F) : VY p D v H' F := let ⟨a, e, n, k⟩ := h; ⟨a, e, n, k.off o n⟩
theorem bl_of {p : Nat} [NeZero p] {H : Hp} {D : Addr} {xs : List V} {m : List Nat} {sel : Nat → S2 (Fq p)} (e : H D = some (.lst xs)) (h : Paired (fun v i => VY p D v H (sel i)) xs m) : BL p H D (m.map sel) :=
  ⟨xs, e, paired_mapr sel (paired_imp (fun _ _ ⟨a, e, _, y⟩ => ⟨a, e, y⟩) h)⟩
theorem disp_y {tk tv : TE} {σ : St} {H : Hp} {Q : VK} (i j : Nat) (z : Int) (hk : ∀ H1 Q1, Same H H1 → (∀ H2 c, Same H1 H2 → PairAt H2 c (i, j) → Q1 (.ref c) H2) → tk σ H1 Q1) (hv : ∀ H1 Q1, Same H H1 → (∀ H2, Same H1 H2 → Q1 (.int z) H2) → tv σ H1 Q1)
    (k : ∀ H' d, Same H H' → H d = none → At H' d [((i, j), z)] → Q (.ref d) H') : tDispT tk tv σ H Q := by
  intro d hd
  have s1 := same_upd_new (o := .dT []) hd
  refine hk _ _ s1 fun H2 c s2 hc => hv _ _ (s1.trans s2) fun H3 s3 => ⟨s3 _ _ (s2 _ _ upd_same), c, ky (i, j), rfl, s3 _ _ hc, k _ d (same_free (s1.trans (s2.trans s3)) hd) hd upd_same⟩
theorem key_cc {σ : St} (i j : Nat) (H1 : Hp) (Q1 : VK) (q : ∀ H2 c, Same H1 H2 → PairAt H2 c (i, j) → Q1 (.ref c) H2) : tTup (tCons (tC (.int (i : Int))) (tCons (tC (.int (j : Int))) tNil)) σ H1 Q1 :=
  ⟨by show 2 ≤ sizeLine; decide, fun c hc => q _ c (same_upd_new hc) upd_same⟩
/-- {(i, j): z}, all written out -/
theorem disp_c {σ : St} {H : Hp} {Q : VK} (i j : Nat) (z : Int) (k : ∀ H' d, Same H H' → H d = none → At H' d [((i, j), z)] → Q (.ref d) H') : tDispT (tTup (tCons (tC (.int (i : Int))) (tCons (tC (.int (j : Int))) tNil))) (tC (.int z)) σ H Q :=
  disp_y i j z (fun H1 Q1 _ q => key_cc i j H1 Q1 q) (fun H1 Q1 _ q => q _ (Same.refl _)) k
theorem Bk.one {p : Nat} [NeZero p] (hp : 1 < p) (q : Nat × Nat) : Bk p [(q, 1)] (tm q 1) := by
  have k := Bk.put (Bk.nil (p := p)) q (c := 1) (by omega) (by omega) (tm q 1) (fun r => by
    have z : cf (0 : S2 (Fq p)) r = 0 := by
      unfold cf
      rw [Pl.co_zero, Pl.co_zero]
    rw [cf_tm, red_one hp, z])
  exact k
theorem tm_00 {p : Nat} [NeZero p] : tm (p := p) (0, 0) 1 = Pl.C 1 := cf_ext fun r => by
  rw [cf_tm, cf_C]
  show _ = if r.2 = 0 then (if r.1 = 0 then 1 else 0) else 0
  by_cases h : r = (0, 0)
  · rw [if_pos h, h]
    rfl
  · rw [if_neg h]
    by_cases h2 : r.2 = 0
    · rw [if_pos h2, if_neg (fun z => h (Prod.ext z h2))]
    · rw [if_neg h2]
theorem quot_dlt {p : Nat} [NeZero p] [K37.Fd (Fq p)] {A B U R : RX p} {n : Nat} (e : A = U * B + R) (h0 : B ≠ 0) (dR : K37.dlt R (K37.dg B)) (dA : K37.dlt A n) : K37.dlt U n := by
  by_cases u0 : U = 0
  · rw [u0]
    exact K37.dlt.zero _
  · have i1 := K37.dg_is u0
    have i2 := K37.dg_is h0
    have i3 := K37.IsD.mul i1 i2
    have c : A.co (K37.dg U + K37.dg B) ≠ 0 := by
      rw [e, Pl.co_add, dR _ (by omega)]
      have := i3.1
      intro z
      exact this (by grind)
    have lt : K37.dg U + K37.dg B < n := Nat.lt_of_not_le fun z => c (dA _ z)
    exact i1.dlt.mono (by omega)
theorem triL {p : Nat} [NeZero p] {H : Hp} {l a b c : Addr} {F G T : S2 (Fq p)} (h : H l = some (.lst [.ref a, .ref b, .ref c])) (x : YAtP p H a F) (y : YAtP p H b G) (z : YAtP p H c T) : BL p H l [F, G, T] :=
  ⟨_, h, .cons ⟨a, rfl, x⟩ (.cons ⟨b, rfl, y⟩ (.cons ⟨c, rfl, z⟩ .nil))⟩

theorem C_sub {p : Nat} [NeZero p] (A B : RX p) : Pl.C (A - B) = Pl.C A - Pl.C B := by
  rw [show A - B = A + -B by grind, Pl.C_add, Pl.C_neg]
  grind
theorem eu1 {R : Type} [Lean.Grind.CommRing R] {r0 r1 s0 s1 t0 t1 a b u : R} (e0 : r0 = s0 * a + t0 * b) (e1 : r1 = s1 * a + t1 * b) : r0 - u * r1 = (s0 - u * s1) * a + (t0 - u * t1) * b := by grind
theorem eu2 {R : Type} [Lean.Grind.CommRing R] {r0 r1 a x y u : R} (e : a = x * r0 + y * r1) : a = (y + x * u) * r1 + x * (r0 - u * r1) := by grind
theorem eu4 {R : Type} [Lean.Grind.CommRing R] {r s t a b c : R} (e : r = s * a + t * b) : c * r = c * s * a + c * t * b := by grind
theorem eu5 {R : Type} [Lean.Grind.CommRing R] {r u c d : R} (e : c * d = 1) : u * r = u * d * (c * r) := by grind
theorem eu3 {R : Type} [Lean.Grind.CommRing R] {r0 r1 r u : R} (e : r0 = u * r1 + r) : r0 - u * r1 = r := by grind
abbrev sEuclid : Stmt := top 30
def spEuclid : Sp := fun vs H Q _ => ∃ (p : Nat) (_ : NeZero p) (a b : Addr) (A B : RX p), vs = [.int p, .ref a, .ref b] ∧ Pr p ∧ YAtP p H a (Pl.C A) ∧ YAtP p H b (Pl.C B) ∧ K37.dlt A 4 ∧ K37.dlt B 4 ∧
  ∀ H' q g1 g2 g3 G S T, Same H H' → H' q = some (.tup [.ref g1, .ref g2, .ref g3]) → YAtP p H' g1 (Pl.C G) → YAtP p H' g2 (Pl.C S) → YAtP p H' g3 (Pl.C T) → K37.dlt G 4 → K37.dlt S 20 → K37.dlt T 20 →
    G = S * A + T * B → (∃ u, A = u * G) → (∃ u, B = u * G) → Q (.ref q) H'
theorem scEuclid : FnScope ["prime", "one", "other", "first", "second", "quotient", "more", "back", "here", "there", "item"] ["prime", "one", "other"] (defScope sEuclid) := ⟨rfl, rfl, rfl, by decide +kernel, rfl, by decide +kernel, by decide +kernel⟩
theorem ok_euclid {f : Addr} {fd : FuncData} (F : FnP K "euclid" sEuclid f fd) (zdict : mg "dict" = none) (zzip : mg "zip" = none) (ztup : mg "tuple" = none) (cH : Cal P w K mg base 1 "highest" (Wr spHighest) []) (cB : Cal P w K mg base 1 "back_of" (Wr spBack) []) (cA : Cal P w K mg base 1 "added" (Wr spAdded) [])
    (cP : Cal P w K mg base 1 "product" (Wr spProduct) []) (cD : Cal P w K mg base 2 "divide" (Wr spDivide) []) (cS : Cal P w K mg base 1 "scaled" (Wr spScaled) []) : FnOk P w K mg base CX0 3 f fd ["prime", "one", "other"] spEuclid := by
  refine okP F scEuclid (fun vs H Q E h => ?_) (fun cdv A outer s H vs Q E hr h => ?_)
  · obtain ⟨p, ne, a, b, A, B, rfl, _⟩ := h
    rfl
  · obtain ⟨p, ne, a, b, PA', PB, rfl, hp, hA, hB, dA, dB, k⟩ := h
    have hu := hu_of hr
    have hu1 := Nat.lt_of_succ_lt hu
    have hu2 : (A.deeper (envOfC "euclid" (defScope sEuclid) s.heap.objs.size f cdv)).units + 2 < cLine := Nat.lt_of_le_of_lt (Nat.add_le_add_left (by decide : 2 ≤ 64) _) hr.units
    have nd := scEuclid.nd
    have one : ∀ (e1 e2 : Expr) (x : Pos) (kk : Nat), NoSl (.Tuple [e1, e2] kk x) := fun _ _ _ _ _ _ => rfl
    refine ⟨_, pss_cons (ps_par (i := 3) (j := 4) rfl nd rfl rfl (by decide) rfl rfl
        (pa_cons (pe_lst (pa_cons (pe_callTy (call_dictT hu2) (by rfl) zdict (by decide +kernel) (pa_cons (pv 1) pa_nil)) (pa_cons (pe_dispT hu1 (pe_tup (pa_cons pe_int (pa_cons pe_int pa_nil))) pe_int) (pa_cons pe_dnewT pa_nil))))
          (pa_cons (pe_lst (pa_cons (pe_callTy (call_dictT hu2) (by rfl) zdict (by decide +kernel) (pa_cons (pv 2) pa_nil)) (pa_cons pe_dnewT (pa_cons (pe_dispT hu1 (pe_tup (pa_cons pe_int (pa_cons pe_int pa_nil))) pe_int) pa_nil)))) pa_nil)) (by rfl))
      (pss_cons (ps_while PassesOwn.never (pt_cmpR (op_neE hu1) (pe_il (K := K) (pv 4) pe_int) pe_dnewT (nomark _))
        (pss_cons (ps_set (i := 5) nd rfl (.inr rfl) (pe_it (K := K) (pe_c cD hr (by decide) (by rfl) (pa_cons (pv 0) (pa_cons (pe_il (K := K) (pv 3) pe_int) (pa_cons (pe_il (K := K) (pv 4) pe_int) pa_nil)))) pe_int))
        (pss_cons (ps_setLc (i := 6) (own := [("here", 8), ("there", 9)]) (g := gTup K 2 (gCons (gName 8) (gCons (gName 9) gNil))) (tt := tYes) rfl nd rfl rfl (sw_true rfl rfl rfl rfl) (pi_zip (by rfl) zzip (pa_cons (pv 3) (pa_cons (pv 4) pa_nil)))
            (blkOk_by (N := ["prime", "one", "other", "first", "second", "quotient", "more", "back", "here", "there", "item"]) (sc := defScope sEuclid) (by decide +kernel))
            (fun _ _ _ _ _ => pg_tup rfl (pgs_cons (pg_name (i := 8) nd rfl (Or.inl rfl)) (pgs_cons (pg_name (i := 9) nd rfl (Or.inl rfl)) pgs_nil))) (fun _ _ _ _ _ => pts_nil)
            (fun _ _ _ _ _ => pe_c cA (hr : Room _ _) (by decide) (by rfl) (pa_cons (pv 0) (pa_cons (pv 8) (pa_cons (pe_c cP (hr : Room _ _) (by decide) (by rfl) (pa_cons (pv 0) (pa_cons (pv 5) (pa_cons (pv 9) pa_nil)))) (pa_cons (pe_un un_neg pe_int) pa_nil))))))
        (pss_one (ps_par (i := 3) (j := 4) rfl nd rfl rfl (by decide) rfl rfl (pa_cons (pv 4) (pa_cons (pv 6) pa_nil)) (by rfl))))))
      (pss_cons (ps_if (pt_cmpR (op_eqE hu1) (pe_il (K := K) (pv 3) pe_int) pe_dnewT (nomark _)) (pss_one (ps_ret (pe_tup (pa_cons pe_dnewT (pa_cons pe_dnewT (pa_cons pe_dnewT pa_nil)))))) pss_nil)
      (pss_cons (ps_set (i := 7) nd rfl (.inr rfl) (pe_c cB hr (by decide) (by rfl) (pa_cons (pv 0) (pa_cons (pe_dget hu (pe_il (K := K) (pv 3) pe_int) (pe_tup (pa_cons (pe_c cH hr (by decide) (by rfl) (pa_cons (pe_il (K := K) (pv 3) pe_int) (pa_cons pe_int pa_nil))) (pa_cons pe_int pa_nil))) (fun _ _ => rfl)) pa_nil))))
      (pss_one (ps_ret (pe_callTy call_tuple_of (by rfl) ztup (by decide +kernel) (pa_cons (pe_lc (own := [("item", 10)]) (g := gName 10) (tt := tYes) rfl nd (pi_list (pv 3))
            (blkOk_by (N := ["prime", "one", "other", "first", "second", "quotient", "more", "back", "here", "there", "item"]) (sc := defScope sEuclid) (by decide +kernel))
            (fun _ _ _ _ _ => pg_name (i := 10) nd rfl (Or.inl rfl)) (fun _ _ _ _ _ => pts_nil) (fun _ _ _ _ _ => pe_c cS (hr : Room _ _) (by decide) (by rfl) (pa_cons (pv 0) (pa_cons (pv 10) (pa_cons (pv 7) pa_nil))))) pa_nil))))))), ?_⟩
    haveI := fd_of hp
    obtain ⟨hp1, hp7⟩ := pr17 hp
    obtain ⟨ts, hAt, kA⟩ := id hA
    obtain ⟨us, hBt, kB⟩ := id hB
    have sA := smC dA (by decide)
    have sB := smC dB (by decide)
    have one1 : Bk p [((0, 0), 1)] (Pl.C (1 : RX p)) := by
      rw [← tm_00]
      exact Bk.one hp1 _
    -- the first list
    refine ⟨_, rfl, a, _, rfl, .inl hAt, enc_keys ts, kA.hash sA, fun a1 na1 => ?_⟩
    have s1 := same_upd_new (o := .dT (ts.map enc)) na1
    have y1 : YAtP p (upd H a1 (.dT (ts.map enc))) a1 (Pl.C PA') := ⟨ts, upd_same, kA⟩
    generalize upd H a1 (.dT (ts.map enc)) = H1 at s1 y1 ⊢
    refine disp_c 0 0 1 fun H2 b1 s2 n2 e2 => ?_
    have y2 : YAtP p H2 b1 (Pl.C 1) := ⟨_, e2, one1⟩
    intro c1 nc1
    have s3 := same_upd_new (o := .dT []) nc1
    have y3 : YAtP p (upd H2 c1 (.dT [])) c1 (Pl.C 0) := .nil upd_same
    generalize upd H2 c1 (.dT []) = H3 at s3 y3 ⊢
    refine ⟨by show 3 ≤ sizeLine; decide, fun f0 nf0 => ?_⟩
    have s4 := same_upd_new (o := .lst [.ref a1, .ref b1, .ref c1]) nf0
    have L1 : BL p (upd H3 f0 (.lst [.ref a1, .ref b1, .ref c1])) f0 [Pl.C PA', Pl.C 1, Pl.C 0] := triL upd_same (y1.same (s2.trans (s3.trans s4))) (y2.same (s3.trans s4)) (y3.same s4)
    have s04 := s1.trans (s2.trans (s3.trans s4))
    generalize upd H3 f0 (.lst [.ref a1, .ref b1, .ref c1]) = H4 at s04 L1 ⊢
    -- the second
    refine ⟨_, rfl, b, _, rfl, .inl (s04 _ _ hBt), enc_keys us, kB.hash sB, fun a2 na2 => ?_⟩
    have s5 := same_upd_new (o := .dT (us.map enc)) na2
    have y5 : YAtP p (upd H4 a2 (.dT (us.map enc))) a2 (Pl.C PB) := ⟨us, upd_same, kB⟩
    generalize upd H4 a2 (.dT (us.map enc)) = H5 at s5 y5 ⊢
    intro b2 nb2
    have s6 := same_upd_new (o := .dT []) nb2
    have y6 : YAtP p (upd H5 b2 (.dT [])) b2 (Pl.C 0) := .nil upd_same
    generalize upd H5 b2 (.dT []) = H6 at s6 y6 ⊢
    refine disp_c 0 0 1 fun H7 c2 s7 n7 e7 => ?_
    have y7 : YAtP p H7 c2 (Pl.C 1) := ⟨_, e7, one1⟩
    refine ⟨by show 3 ≤ sizeLine; decide, fun g0 ng0 => ?_⟩
    have s8 := same_upd_new (o := .lst [.ref a2, .ref b2, .ref c2]) ng0
    have L2 : BL p (upd H7 g0 (.lst [.ref a2, .ref b2, .ref c2])) g0 [Pl.C PB, Pl.C 0, Pl.C 1] := triL upd_same (y5.same (s6.trans (s7.trans s8))) (y6.same (s7.trans s8)) (y7.same s8)
    have s48 := s5.trans (s6.trans (s7.trans s8))
    have s08 := s04.trans s48
    have L1 := L1.same s48
    generalize upd H7 g0 (.lst [.ref a2, .ref b2, .ref c2]) = H8 at s08 L1 L2 ⊢
    refine ⟨_, _, rfl, ?_⟩
    refine while_m (fun m σ' H' => ∃ (x y : Option V) (f g : Addr) (R0 S0 T0 R1 S1 T1 : RX p), σ' = [some (.int p), some (.ref a), some (.ref b), some (.ref f), some (.ref g), x, y, none, none, none, none] ∧ Same H H' ∧
      BL p H' f [Pl.C R0, Pl.C S0, Pl.C T0] ∧ BL p H' g [Pl.C R1, Pl.C S1, Pl.C T1] ∧ R0 = S0 * PA' + T0 * PB ∧ R1 = S1 * PA' + T1 * PB ∧ (∃ u v, PA' = u * R0 + v * R1) ∧ (∃ u v, PB = u * R0 + v * R1) ∧
      m ≤ 4 ∧ K37.dlt R0 4 ∧ K37.dlt R1 m ∧ K37.dlt S0 (16 - 3 * m) ∧ K37.dlt T0 (16 - 3 * m) ∧ K37.dlt S1 (16 - 3 * m) ∧ K37.dlt T1 (16 - 3 * m)) 4
      ⟨none, none, f0, g0, PA', 1, 0, PB, 0, 1, rfl, s08, L1, L2, by grind, by grind, ⟨1, 0, by grind⟩, ⟨0, 1, by grind⟩, Nat.le_refl _, dA, dB, (K37.dlt.C 1).mono (by decide), K37.dlt.zero _, K37.dlt.zero _, (K37.dlt.C 1).mono (by decide)⟩ ?_
    rintro m σ' H' ⟨x, y, f, g, R0, S0, T0, R1, S1, T1, rfl, sH, Lf, Lg, e0, e1, ⟨u1, v1, c1'⟩, ⟨u2, v2, c2'⟩, hm4, dR0, dR1, dS0, dT0, dS1, dT1⟩
    obtain ⟨xs, hf, pf⟩ := id Lf
    obtain ⟨ys, hg, pg⟩ := id Lg
    obtain ⟨r0, er0, yr0⟩ := Lf.get hf (i := 0) rfl
    obtain ⟨r1, er1, yr1⟩ := Lg.get hg (i := 0) rfl
    obtain ⟨rs, hr1, kr1⟩ := id yr1
    refine ⟨_, rfl, g, _, _, _, rfl, rfl, SqL.of hg, atI_nat er1, fun z hz => ?_⟩
    have sz := same_upd_new (o := .dT []) hz
    refine ⟨_, _, rs, rfl, rfl, sz _ _ hr1, upd_same, _, rfl, ?_⟩
    generalize upd H' z (.dT []) = H1' at sz ⊢
    have erz := YAtP.eq_nil yr1 hr1
    by_cases hz0 : rs = []
    · have R10 : R1 = 0 := C_inj ((erz.mp hz0).trans rfl)
      rw [decide_eq_true hz0]
      refine iteF ?_
      have sz' := sH.trans sz
      have f1 := sz _ _ hf
      have yr0' := yr0.same sz
      obtain ⟨rs0, hr0, kr0⟩ := id yr0'
      rw [R10] at c1' c2'
      have cA' : PA' = u1 * R0 := by rw [c1']; grind
      have cB' : PB = u2 * R0 := by rw [c2']; grind
      refine ⟨_, rfl, f, _, _, _, rfl, rfl, SqL.of f1, atI_nat er0, fun z2 hz2 => ?_⟩
      have sz2 := same_upd_new (o := .dT []) hz2
      refine ⟨_, _, rs0, rfl, rfl, sz2 _ _ hr0, upd_same, _, rfl, ?_⟩
      generalize upd H1' z2 (.dT []) = H2' at sz2 ⊢
      by_cases h0 : rs0 = []
      · have R00 : R0 = 0 := C_inj (((YAtP.eq_nil yr0' hr0).mp h0).trans rfl)
        rw [decide_eq_true h0]
        refine iteT ?_
        intro q1 h1 q2 h2 q3 h3
        refine ⟨by show 3 ≤ sizeLine; decide, fun q hq => ?_⟩
        have w1 := same_upd_new (o := .dT []) h1
        have w2 := same_upd_new (o := .dT []) h2
        have w3 := same_upd_new (o := .dT []) h3
        have w4 := same_upd_new (o := .tup [.ref q1, .ref q2, .ref q3]) hq
        exact k _ q q1 q2 q3 0 0 0 (sz'.trans (sz2.trans (w1.trans (w2.trans (w3.trans w4))))) upd_same (.nil (w4 _ _ (w3 _ _ (w2 _ _ upd_same)))) (.nil (w4 _ _ (w3 _ _ upd_same))) (.nil (w4 _ _ upd_same)) (K37.dlt.zero _) (K37.dlt.zero _) (K37.dlt.zero _)
          (by grind) ⟨0, by rw [cA', R00]; grind⟩ ⟨0, by rw [cB', R00]; grind⟩
      · have R00 : R0 ≠ 0 := fun z => h0 ((YAtP.eq_nil yr0' hr0).mpr (by rw [z]; rfl))
        rw [decide_eq_false h0]
        refine iteF ?_
        have i0 := K37.dg_is R00
        have f2 := sz2 _ _ f1
        have yr2 := yr0'.same sz2
        refine ⟨_, rfl, _, rfl, f, _, _, _, rfl, rfl, SqL.of f2, atI_nat er0, _, rfl, f, _, _, _, rfl, rfl, SqL.of f2, atI_nat er0, ?_⟩
        refine highx_y yr2 (smC dR0 (by decide)) fun H3 s3 => ?_
        rw [K37.hi_ne R00]
        refine ⟨by show 2 ≤ sizeLine; decide, fun c hc => ?_⟩
        have sc := same_upd_new (o := .tup [.int (K37.dg R0 : Int), .int 0]) hc
        refine ⟨r0, _, rfl, dget_y (q := (K37.dg R0, 0)) yr2 (s3.trans sc) upd_same (by rw [cf_C, if_pos rfl]; exact i0.1), ?_⟩
        have ecf : cf (Pl.C R0) (K37.dg R0, 0) = R0.co (K37.dg R0) := by rw [cf_C, if_pos rfl]
        rw [ecf]
        refine back_y hp (by rw [red_of_val]; exact i0.1) fun H4 bk s4 hb0 hb1 hb2 => ?_
        rw [red_of_val] at hb2
        have f4 := s4 _ _ (sc _ _ (s3 _ _ f2))
        have s24 := s3.trans (sc.trans s4)
        have Lf4 := (Lf.same sz).same (sz2.trans s24)
        refine ⟨_, rfl, f, rfl, ⟨_, SqL.of f4⟩, fun D hD => ?_⟩
        have dS0' : K37.dlt S0 16 := dS0.mono (by omega)
        have dT0' : K37.dlt T0 16 := dT0.mono (by omega)
        refine lc_gen (walk_list (xs := xs)) hD (by rw [Lf.len hf]; show 3 < sizeLine; decide) (fun _ => true) (fun i v H'' => VY p D v H'' (Pl.C (Pl.C (red bk) * ([R0, S0, T0][i]?).getD 0))) (fun i v _ _ o h => h.off o) (fun H'' s'' => SqL.of (s'' _ _ f4)) ?_ ?_
        · rintro i x1 H5 H6 Q' S' hi s5 ⟨acc, hacc⟩ ⟨rfl, hx1⟩ yes no
          rw [Lf.len hf] at hi
          obtain ⟨F1, g1, dF, e3⟩ : ∃ F : RX p, [Pl.C R0, Pl.C S0, Pl.C T0][i]? = some (Pl.C F) ∧ K37.dlt F 16 ∧ ([R0, S0, T0][i]?).getD 0 = F := by
            match i, hi with
            | 0, _ => exact ⟨R0, rfl, dR0.mono (by decide), rfl⟩
            | 1, _ => exact ⟨S0, rfl, dS0', rfl⟩
            | 2, _ => exact ⟨T0, rfl, dT0', rfl⟩
          obtain ⟨w1, ew1, yw1⟩ := Lf4.get f4 g1
          have ew1 := hx1.symm.trans ew1
          cases ew1
          refine ⟨wipe_set _ 10 _, tyes ⟨_, rfl, _, rfl, _, rfl, ?_⟩⟩
          refine scaled_y hp (yw1.same s5) (smC dF (by decide)) fun H7 r7 s7 hr7 y7 => ?_
          refine yes _ _ rfl s7 ⟨r7, rfl, ?_, ?_⟩
          · exact fun z => by
              rw [z, hacc] at hr7
              cases hr7
          · rw [e3, ← kap_C]
            exact y7
        · intro H5 zs s5 hz5 pz
          have Lz := bl_of hz5 pz
          rw [Lf.len hf] at Lz
          have ez : ((List.range 3).filter fun _ => true).map (fun i => Pl.C (Pl.C (red bk) * ([R0, S0, T0][i]?).getD 0)) = [Pl.C (Pl.C (red bk) * R0), Pl.C (Pl.C (red bk) * S0), Pl.C (Pl.C (red bk) * T0)] := rfl
          have Lz : BL p H5 D [Pl.C (Pl.C (red bk) * R0), Pl.C (Pl.C (red bk) * S0), Pl.C (Pl.C (red bk) * T0)] := Lz
          refine ⟨D, _, rfl, .inl ⟨SqL.of hz5, fun q hq => ?_⟩⟩
          obtain ⟨q1, e1', y1'⟩ := Lz.get hz5 (i := 0) rfl
          obtain ⟨q2, e2', y2'⟩ := Lz.get hz5 (i := 1) rfl
          obtain ⟨q3, e3', y3'⟩ := Lz.get hz5 (i := 2) rfl
          have zz : zs = [.ref q1, .ref q2, .ref q3] := by
            have ll := Lz.len hz5
            match zs, ll, e1', e2', e3' with
            | [_, _, _], _, a1, a2, a3 =>
              cases a1
              cases a2
              cases a3
              rfl
          subst zz
          have sq := same_upd_new (o := .tup [.ref q1, .ref q2, .ref q3]) hq
          refine k _ q q1 q2 q3 _ _ _ (sz'.trans (sz2.trans (s24.trans (s5.trans sq)))) upd_same (y1'.same sq) (y2'.same sq) (y3'.same sq) (dR0.Cmul _) ((dS0'.mono (by decide)).Cmul _) ((dT0'.mono (by decide)).Cmul _) ?_ ?_ ?_
          · exact eu4 e0
          · exact ⟨u1 * Pl.C (R0.co (K37.dg R0)), by rw [cA']; exact eu5 (by rw [← Pl.C_mul, hb2]; rfl)⟩
          · exact ⟨u2 * Pl.C (R0.co (K37.dg R0)), by rw [cB']; exact eu5 (by rw [← Pl.C_mul, hb2]; rfl)⟩
    · have R10 : R1 ≠ 0 := fun q => hz0 (erz.mpr (by rw [q]; rfl))
      rw [decide_eq_false hz0]
      refine iteT ?_
      refine ⟨_, fun σ'' H'' q => q, ?_⟩
      have Lf1 := Lf.same sz
      have Lg1 := Lg.same sz
      refine ⟨_, rfl, _, rfl, f, _, _, _, rfl, rfl, SqL.of (sz _ _ hf), atI_nat er0, _, rfl, g, _, _, _, rfl, rfl, SqL.of (sz _ _ hg), atI_nat er1, ?_⟩
      refine divide_y hp (yr0.same sz) (yr1.same sz) (dR0.mono (by decide)) (dR1.mono (by omega)) R10 fun H2' q a1' a2' U R s2' hq n1 n2 yU yR eR dR dU => ?_
      refine ⟨q, _, _, _, rfl, rfl, SqT.of hq, at0, ?_⟩
      have dU4 := quot_dlt eR R10 dR dR0
      have sz2 := sz.trans s2'
      refine ⟨_, rfl, _, rfl, f, g, xs, ys, rfl, SqL.of (sz2 _ _ hf), SqL.of (sz2 _ _ hg), fun D hD => ?_⟩
      have mm : K37.dg R1 < m := (K37.dg_is R10).lt_of_dlt dR1
      have pieces : ∀ i, i < 3 → ∃ F G : RX p, [Pl.C R0, Pl.C S0, Pl.C T0][i]? = some (Pl.C F) ∧ [Pl.C R1, Pl.C S1, Pl.C T1][i]? = some (Pl.C G) ∧ K37.dlt F 16 ∧ K37.dlt G 16 ∧ ([R0, S0, T0][i]?).getD 0 = F ∧ ([R1, S1, T1][i]?).getD 0 = G := by
        intro i hi
        match i, hi with
        | 0, _ => exact ⟨R0, R1, rfl, rfl, dR0.mono (by decide), dR1.mono (by omega), rfl, rfl⟩
        | 1, _ => exact ⟨S0, S1, rfl, rfl, dS0.mono (by omega), dS1.mono (by omega), rfl, rfl⟩
        | 2, _ => exact ⟨T0, T1, rfl, rfl, dT0.mono (by omega), dT1.mono (by omega), rfl, rfl⟩
      have lx := Lf.len hf
      have ly := Lg.len hg
      refine lc_gen (walk_zip (n := 3) (by rw [lx, ly]; rfl)) hD (by decide) (fun _ => true) (fun i v H'' => VY p D v H'' (Pl.C (([R0, S0, T0][i]?).getD 0 - U * ([R1, S1, T1][i]?).getD 0))) (fun i v _ _ o h => h.off o) (fun H'' s'' => ⟨SqL.of (s'' _ _ (sz2 _ _ hf)), SqL.of (s'' _ _ (sz2 _ _ hg))⟩) ?_ ?_
      · rintro i x1 H3 H4 Q' S' hi s3 ⟨acc, hacc⟩ ⟨T, v1, v2, rfl, hT, rfl, hv1, hv2⟩ yes no
        obtain ⟨F1, G1, f1, g1, dF, dG, e3, e4⟩ := pieces i hi
        obtain ⟨w1, ew1, yw1⟩ := Lf.get hf f1
        obtain ⟨w2, ew2, yw2⟩ := Lg.get hg g1
        have ew1 := hv1.symm.trans ew1
        have ew2 := hv2.symm.trans ew2
        cases ew1
        cases ew2
        have sT := same_upd_new (o := .tup [.ref w1, .ref w2]) hT
        refine ⟨T, _, rfl, SqT.of upd_same, rfl, _, _, rfl, _, _, rfl, rfl, rfl, tyes ?_⟩
        refine ⟨_, rfl, _, rfl, _, rfl, _, rfl, _, rfl, ?_⟩
        refine product_y hp (yU.same (s3.trans sT)) (yw2.same (sz2.trans (s3.trans sT))) (bd_C dU4) (bd_C dG) (by decide) fun H5 pq s5 hpq ypq => ?_
        refine ⟨_, rfl, ?_⟩
        have dUG : K37.dlt (U * G1) 19 := dU4.mul dG
        rw [← Pl.C_mul] at ypq
        refine minus_y hp (yw1.same (sz2.trans (s3.trans (sT.trans s5)))) ypq (smC dF (by decide)) (smC dUG (by decide)) fun H6 r6 s6 hr6 y6 => ?_
        refine yes _ _ rfl (sT.trans (s5.trans s6)) ⟨r6, rfl, ?_, ?_⟩
        · exact fun z => by
            rw [z] at hr6
            rw [s5 _ _ (sT _ _ hacc)] at hr6
            cases hr6
        · rw [e3, e4, C_sub]
          exact y6
      · intro H3 zs s3 hz3 pz
        have Lz := bl_of hz3 pz
        have ez : ((List.range 3).filter fun _ => true).map (fun i => Pl.C (([R0, S0, T0][i]?).getD 0 - U * ([R1, S1, T1][i]?).getD 0)) = [Pl.C (R0 - U * R1), Pl.C (S0 - U * S1), Pl.C (T0 - U * T1)] := rfl
        rw [ez] at Lz
        have sz3 := sz2.trans s3
        refine ⟨_, rfl, _, rfl, _, _, rfl, ?_⟩
        refine ⟨K37.dg R1, mm, _, _, g, D, R1, S1, T1, R0 - U * R1, S0 - U * S1, T0 - U * T1, rfl, sH.trans sz3, Lg.same sz3, Lz, e1, eu1 e0 e1, ⟨_, _, eu2 c1'⟩, ⟨_, _, eu2 c2'⟩, by omega, dR1.mono hm4, ?_, dS1.mono (by omega), dT1.mono (by omega), ?_, ?_⟩
        · rw [eu3 eR]
          exact dR
        · exact (dS0.mono (by omega)).sub ((dU4.mul dS1).mono (by omega))
        · exact (dT0.mono (by omega)).sub ((dU4.mul dT1).mono (by omega))
end
end L2.K37R
end W12
section W13
set_option autoImplicit false
set_option linter.all false
set_option maxRecDepth 100000
namespace L2.K37R
open PySem PySem.Spec PyProof.Rows C8
open K37 (S2 Pl)

/-- the built-ins' names stand free -/
structure Bare (mg : Str → Option Value) : Prop where
  int : mg "int" = none
  bool : mg "bool" = none
  tuple : mg "tuple" = none
  list : mg "list" = none
  dict : mg "dict" = none
  len : mg "len" = none
  isinstance : mg "isinstance" = none
  range : mg "range" = none
  all : mg "all" = none
  max : mg "max" = none
  min : mg "min" = none
  sum : mg "sum" = none
  abs : mg "abs" = none
  repr : mg "repr" = none
  sorted : mg "sorted" = none
  zip : mg "zip" = none
  enumerate : mg "enumerate" = none

theorem walk_zipT {K : PySem.W.Frag} {a b : Addr} {xs ys : List V} {n : Nat} (hn : n = min xs.length ys.length) : Walk (RZ.ItzT K a b) n (fun H => SqT K H a xs ∧ SqT K H b ys) (YPair (fun i => xs[i]?) (fun i => ys[i]?)) := by
  subst hn
  constructor
  · intro i H hi q
    have h1 : i < xs.length := by omega
    have h2 : i < ys.length := by omega
    exact ⟨xs, ys, xs[i], ys[i], q.1, q.2, List.getElem?_eq_getElem h1, List.getElem?_eq_getElem h2⟩
  · intro H q
    exact ⟨xs, ys, q.1, q.2, by omega⟩
  · intro i H v H' hi q y
    obtain ⟨T, x, z, h1, h2, h3, h4, h5⟩ := y
    exact ⟨T, x, z, h1, h2, h3, h4 xs q.1, h5 ys q.2⟩

section
variable {P : Program} {w : World} {K : PySem.W.Frag} {mg : Str → Option Value} {base : Heap}

abbrev sBetween : Stmt := top 9
def spBetween : Sp := fun vs H Q _ => ∃ x lo hi : Int, vs = [.int x, .int lo, .int hi] ∧ Q (.bl (decide (lo ≤ x ∧ x ≤ hi))) H
theorem scBetween : FnScope ["thing", "low", "high"] ["thing", "low", "high"] (defScope sBetween) := ⟨rfl, rfl, rfl, by decide +kernel, rfl, by decide +kernel, by decide +kernel⟩
theorem ok_between {f : Addr} {fd : FuncData} (F : FnP K "is_between" sBetween f fd) (B : Bare mg) : FnOk P w K mg base CX0 1 f fd ["thing", "low", "high"] (Wr spBetween) := by
  refine FnOk.imp (sp := spBetween) ?_ fun _ _ _ _ h => un_wr h
  refine okP F scBetween (fun vs H Q E h => ?_) (fun cdv A outer s H vs Q E hr h => ?_)
  · obtain ⟨x, lo, hi, rfl, _⟩ := h
    rfl
  · obtain ⟨x, lo, hi, rfl, k⟩ := h
    refine ⟨_, pss_one (ps_ret (pe_and (pe_callB call_isi (by rfl) B.isinstance (by decide +kernel) (pa_cons (pv 0) (pa_cons (pe_bltn (v := .ty "int") (by rfl) B.int (by decide +kernel) rfl) pa_nil)))
      (pe_and (pe_not (pe_callB call_isi (by rfl) B.isinstance (by decide +kernel) (pa_cons (pv 0) (pa_cons (pe_bltn (v := .ty "bool") (by rfl) B.bool (by decide +kernel) rfl) pa_nil))))
        (pe_one (pe_chain op_le op_le (pv 1) (pv 0) (pv 2)))))), ?_⟩
    refine ⟨_, rfl, _, _, .type "int", .type "int", true, rfl, .ty "int", .base (.int _), kit_ty (by decide +kernel), true, rfl, ?_⟩
    refine iteT ⟨_, rfl, _, _, .type "int", .type "bool", false, rfl, .ty "bool", .base (.int _), kit_ty (by decide +kernel), false, rfl, true, rfl, ?_⟩
    refine iteT ⟨_, rfl, _, rfl, _, _, rfl, rfl, _, rfl, ?_⟩
    by_cases h1 : lo ≤ x
    · rw [decide_eq_true h1]
      refine iteT ⟨_, rfl, _, _, rfl, rfl, ?_⟩
      have e : decide (x ≤ hi) = decide (lo ≤ x ∧ x ≤ hi) := decide_eq_decide.mpr ⟨fun q => ⟨h1, q⟩, fun q => q.2⟩
      show Q (.bl (decide (x ≤ hi))) H
      rw [e]
      exact k
    · rw [decide_eq_false h1]
      refine iteF ?_
      rw [decide_eq_false (fun q => h1 q.1)] at k
      exact k

abbrev sNeedPrime : Stmt := top 10
def spNeedPrime : Sp := fun vs H Q _ => ∃ p : Nat, vs = [.int p] ∧ Pr p ∧ ∀ H', Same H H' → Q .non H'
theorem scNeedPrime : FnScope ["prime"] ["prime"] (defScope sNeedPrime) := ⟨rfl, rfl, rfl, by decide +kernel, rfl, by decide +kernel, by decide +kernel⟩
theorem ok_needPrime {f : Addr} {fd : FuncData} (F : FnP K "need_prime" sNeedPrime f fd) (cI : Cal P w K mg base 1 "is_between" (Wr spBetween) []) : FnOk P w K mg base CX0 2 f fd ["prime"] (Wr spNeedPrime) := by
  refine FnOk.imp (sp := spNeedPrime) ?_ fun _ _ _ _ h => un_wr h
  refine okP F scNeedPrime (fun vs H Q E h => ?_) (fun cdv A outer s H vs Q E hr h => ?_)
  · obtain ⟨x, rfl, _⟩ := h
    rfl
  · obtain ⟨p, rfl, hp, k⟩ := h
    have nd := scNeedPrime.nd
    refine ⟨_, pss_one (ps_if (PW.pt (pw_or (pt_not (pt_val (pe_c cI hr (by decide) (by rfl) (pa_cons (pv 0) (pa_cons pe_int (pa_cons pe_int pa_nil)))))) (pw_or1 (pt_cmpR op_notIn_seq (pv 0) (pe_lst (pa_cons pe_int (pa_cons pe_int (pa_cons pe_int (pa_cons pe_int pa_nil))))) (by with_unfolding_all rfl))))) pss_never pss_nil), ?_⟩
    have h27 : (2 : Int) ≤ p ∧ (p : Int) ≤ 7 := by rcases hp with e | e | e | e <;> omega
    refine ⟨_, rfl, wr ⟨_, _, _, rfl, _, rfl, ?_⟩⟩
    rw [decide_eq_true h27]
    refine iteF ⟨_, rfl, by show 4 ≤ sizeLine; decide, fun l hl => ⟨l, _, rfl, .inl (SqL.of upd_same), rfl, rfl, _, rfl, ?_⟩⟩
    have e : inV (.int p) [.int 2, .int 3, .int 5, .int 7] = true := by
      rcases hp with e | e | e | e <;> subst e <;> decide +kernel
    rw [e]
    exact iteF (k _ (same_upd_new hl))
end
end L2.K37R
end W13
section W14
set_option autoImplicit false
set_option linter.all false
set_option maxRecDepth 100000
namespace L2.K37R
open PySem PySem.Spec PyProof.Rows C8
open K37 (S2 Pl)

def TermOk (p : Nat) (t : Tm) : Prop := 0 < t.2 ∧ t.2 < (p : Int) ∧ t.1.1 ≤ 999 ∧ t.1.2 ≤ 999
def ltK (q r : Nat × Nat) : Prop := q.1 < r.1 ∨ (q.1 = r.1 ∧ q.2 < r.2)
def SortedT (ts : List Tm) : Prop := ts.Pairwise fun t u => ltK t.1 u.1
theorem paired_all {α : Type} {xs : List V} {m : List α} {v : V} (h : Paired (fun (x : V) (_ : α) => x = v) xs m) : xs = List.replicate m.length v := by
  induction h with
  | nil => rfl
  | cons a b ih =>
    rw [List.length_cons, List.replicate_succ, ← ih, a]
theorem true_list {α : Type} {xs : List V} {m : List α} (h : Paired (fun (x : V) (_ : α) => x = .bl true) xs m) : xs = (List.replicate m.length true).map V.bl ∧ (List.replicate m.length true).all id = true := by
  refine ⟨?_, ?_⟩
  · rw [paired_all h, List.map_replicate]
  · rw [List.all_eq_true]
    intro b hb
    rw [List.eq_of_mem_replicate hb]
    rfl
section
variable {X : Cx} {e : Expr} {te : TE} {lo hi : Option Expr} {tl th : TO} {pos p2 : Pos}
/-- t[lo:hi], the written part named -/
theorem pe_slT {K : PySem.W.Frag} (he : PE X e te) (hl : PO X lo tl) (hu : PO X hi th) (hK : X.K = K := by rfl) : PE X (.Subscript e (.Slice lo hi none p2) pos) (tSl (rSlT K) te tl th) := by
  subst hK
  exact pe_slice sl_tup he hl hu
theorem op_ltK {K : PySem.W.Frag} (hu : X.A.units < cLine) (hK : X.K = K := by rfl) : OpR X (compareOp .Lt) (rLtT K) := by
  subst hK
  exact op_ltT hu
end
section
variable {P : Program} {w : World} {K : PySem.W.Frag} {mg : Str → Option Value} {base : Heap}

abbrev sIsTerm : Stmt := top 11
def spIsTerm : Sp := fun vs H Q _ => ∃ (p : Nat) (r : Addr) (t : Tm), vs = [.int p, .ref r] ∧ TermAt H r t ∧ TermOk p t ∧ Q (.bl true) H
theorem scIsTerm : FnScope ["prime", "thing"] ["prime", "thing"] (defScope sIsTerm) := ⟨rfl, rfl, rfl, by decide +kernel, rfl, by decide +kernel, by decide +kernel⟩
theorem ok_isTerm {f : Addr} {fd : FuncData} (F : FnP K "is_term" sIsTerm f fd) (B : Bare mg) (zM : ∃ t, mg "MOST_POWER" = some (.int 999 t)) (cI : Cal P w K mg base 1 "is_between" (Wr spBetween) []) : FnOk P w K mg base CX0 2 f fd ["prime", "thing"] (Wr spIsTerm) := by
  refine FnOk.imp (sp := spIsTerm) ?_ fun _ _ _ _ h => un_wr h
  refine okP F scIsTerm (fun vs H Q E h => ?_) (fun cdv A outer s H vs Q E hr h => ?_)
  · obtain ⟨p, r, t, rfl, _⟩ := h
    rfl
  · obtain ⟨p, r, t, rfl, ht, ⟨h1, h2, h3, h4⟩, k⟩ := h
    have nd := scIsTerm.nd
    obtain ⟨tM, zM⟩ := zM
    refine ⟨_, pss_cons (ps_if (PW.pt (pw_or (pt_not (pt_val (pe_callB call_isi (by rfl) B.isinstance (by decide +kernel) (pa_cons (pv 1) (pa_cons (pe_bltn (v := .ty "tuple") (by rfl) B.tuple (by decide +kernel) rfl) pa_nil)))))
        (pw_or (pt_cmpR op_ne (pe_callB call_len_seq (by rfl) B.len (by decide +kernel) (pa_cons (pv 1) pa_nil)) pe_int (nomark _))
          (pw_or1 (pt_not (pt_val (pe_c cI hr (by decide) (by rfl) (pa_cons (pe_it (K := K) (pv 1) pe_int) (pa_cons pe_int (pa_cons (pe_op op_sub (pv 0) pe_int) pa_nil))))))))))
        pss_never pss_nil)
      (pss_one (ps_ret (pe_and (pe_c cI hr (by decide) (by rfl) (pa_cons (pe_it (K := K) (pv 1) pe_int) (pa_cons pe_int (pa_cons (pe_glob (v := .int 999) (by rfl) zM ⟨_, rfl⟩) pa_nil))))
        (pe_one (pe_c cI hr (by decide) (by rfl) (pa_cons (pe_it (K := K) (pv 1) pe_int) (pa_cons pe_int (pa_cons (pe_glob (v := .int 999) (by rfl) zM ⟨_, rfl⟩) pa_nil)))))))), ?_⟩
    refine ⟨_, rfl, _, _, .type "tuple", .type "tuple", true, rfl, .ty "tuple", .base (.tup ht), kit_ty (by decide +kernel), true, rfl, ?_⟩
    refine iteF ⟨_, rfl, r, _, rfl, .inr (SqT.of ht), rfl, _, rfl, ite_neI (fun e => absurd rfl e) (fun _ => ?_)⟩
    refine ⟨_, rfl, r, _, _, _, rfl, rfl, SqT.of ht, rfl, _, rfl, _, _, rfl, rfl, wr ⟨_, _, _, rfl, _, rfl, ?_⟩⟩
    rw [decide_eq_true (by omega)]
    refine iteF ?_
    refine ⟨_, rfl, r, _, _, _, rfl, rfl, SqT.of ht, rfl, wr ⟨_, _, _, rfl, _, rfl, ?_⟩⟩
    rw [decide_eq_true (by omega)]
    refine iteT ⟨_, rfl, r, _, _, _, rfl, rfl, SqT.of ht, rfl, wr ⟨_, _, _, rfl, ?_⟩⟩
    rw [decide_eq_true (by omega)]
    exact k

abbrev sPolysRight : Stmt := top 12
def PolyR (p : Nat) (H : Hp) (a : Addr) (ts : List Tm) : Prop := PolyT H a ts ∧ (∀ t, t ∈ ts → TermOk p t) ∧ SortedT ts ∧ ts.length < sizeLine
theorem PolyR.same {p : Nat} {H H' : Hp} {a : Addr} {ts : List Tm} (s : Same H H') (h : PolyR p H a ts) : PolyR p H' a ts := ⟨h.1.same s, h.2⟩
def spPolysRight : Sp := fun vs H Q _ => ∃ (p : Nat) (a : Addr) (ts : List Tm), vs = [.int p, .ref a] ∧ PolyR p H a ts ∧ ∀ H', Same H H' → Q (.bl true) H'
theorem scPolysRight : FnScope ["prime", "thing", "term", "one", "other"] ["prime", "thing"] (defScope sPolysRight) := ⟨rfl, rfl, rfl, by decide +kernel, rfl, by decide +kernel, by decide +kernel⟩
theorem sIx_one (n m : Nat) : HT.sIx (n + 1) m (some 1) = 1 := by
  have e := HT.sIx_nat (n + 1) m 1
  rw [show min 1 (n + 1) = 1 by omega] at e
  exact e
theorem lex2 {a b c d : Int} (h : a < c ∨ (a = c ∧ b < d)) : HT.lexLt [a, b] [c, d] = true := by
  show (if a = c then (if b = d then false else decide (b < d)) else decide (a < c)) = true
  by_cases e : a = c
  · rw [if_pos e, if_neg (by omega), decide_eq_true (by omega)]
  · rw [if_neg e, decide_eq_true (by omega)]
theorem ok_polysRight {f : Addr} {fd : FuncData} (F : FnP K "polys_right" sPolysRight f fd) (B : Bare mg) (cT : Cal P w K mg base 2 "is_term" (Wr spIsTerm) []) : FnOk P w K mg base CX0 3 f fd ["prime", "thing"] (Wr spPolysRight) := by
  refine FnOk.imp (sp := spPolysRight) ?_ fun _ _ _ _ h => un_wr h
  refine okP F scPolysRight (fun vs H Q E h => ?_) (fun cdv A outer s H vs Q E hr h => ?_)
  · obtain ⟨p, a, ts, rfl, _⟩ := h
    rfl
  · obtain ⟨p, a, ts, rfl, ⟨⟨rs, hA, pr⟩, hT, hS, hL⟩, k⟩ := h
    have nd := scPolysRight.nd
    have hu := hu_of hr
    have hu1 := Nat.lt_of_succ_lt hu
    refine ⟨_, pss_cons (ps_if (PW.pt (pw_or (pt_not (pt_val (pe_callB call_isi (by rfl) B.isinstance (by decide +kernel) (pa_cons (pv 1) (pa_cons (pe_bltn (v := .ty "tuple") (by rfl) B.tuple (by decide +kernel) rfl) pa_nil)))))
        (pw_or1 (pt_not (pt_val (pe_callB (cr_all rfl) (by rfl) B.all (by decide +kernel) (pa_cons
          (pe_lc (own := [("term", 2)]) (g := gName 2) (tt := tYes) rfl nd (pi_tup (pv 1)) (blkOk_by (N := ["prime", "thing", "term", "one", "other"]) (sc := defScope sPolysRight) (by decide +kernel))
            (fun _ _ _ _ _ => pg_name (i := 2) nd rfl (Or.inl rfl)) (fun _ _ _ _ _ => pts_nil) (fun _ _ _ _ _ => pe_c cT (hr : Room _ _) (by decide) (by rfl) (pa_cons (pv 0) (pa_cons (pv 2) pa_nil)))) pa_nil)))))))
        pss_never pss_nil)
      (pss_one (ps_ret (pe_callB (cr_all rfl) (by rfl) B.all (by decide +kernel) (pa_cons
          (pe_lc (own := [("one", 3), ("other", 4)]) (g := gTup K 2 (gCons (gName 3) (gCons (gName 4) gNil))) (tt := tYes) rfl nd (RZ.pi_zipA (by rfl) B.zip (pa_cons (pv 1) (pa_cons (pe_slice sl_tupA (pv 1) (po_some pe_int) po_none) pa_nil))) (blkOk_by (N := ["prime", "thing", "term", "one", "other"]) (sc := defScope sPolysRight) (by decide +kernel))
            (fun _ _ _ _ _ => pg_tup rfl (pgs_cons (pg_name (i := 3) nd rfl (Or.inl rfl)) (pgs_cons (pg_name (i := 4) nd rfl (Or.inl rfl)) pgs_nil))) (fun _ _ _ _ _ => pts_nil)
            (fun _ _ _ _ _ => pe_cmpR (op_ltK (K := K) hu1) (pe_slT (K := K) (pv 3) po_none (po_some pe_int)) (pe_slT (K := K) (pv 4) po_none (po_some pe_int)) (nomark _))) pa_nil)))), ?_⟩
    have lrs : rs.length = ts.length := Paired.length pr
    refine ⟨_, rfl, _, _, .type "tuple", .type "tuple", true, rfl, .ty "tuple", .base (.tup hA), kit_ty (by decide +kernel), true, rfl, ?_⟩
    refine iteF ⟨_, rfl, a, rfl, ⟨_, SqT.of hA⟩, fun D hD => ?_⟩
    refine lc_gen (walk_tup (xs := rs.map V.ref)) hD (by rw [List.length_map, lrs]; exact hL) (fun _ => true) (fun i v H'' => v = .bl true) (fun i v _ _ o h => h) (fun H'' s'' => SqT.of (s'' _ _ hA)) ?_ ?_
    · rintro i x H1 H2 Q' S' hi s1 ⟨acc, hacc⟩ ⟨rfl, hx⟩ yes no
      rw [List.getElem?_map] at hx
      obtain ⟨r, hr', rfl⟩ := Option.map_eq_some_iff.mp hx
      obtain ⟨t, ht, hb⟩ := paired_at pr hr'
      exact ⟨wipe_set _ 2 _, tyes ⟨_, rfl, _, rfl, wr ⟨p, r, t, rfl, s1 _ _ hb, hT t (List.mem_of_getElem? ht), yes _ _ rfl (Same.refl _) rfl⟩⟩⟩
    intro H1 xs s1 d1 px
    obtain ⟨ex, ea⟩ := true_list px
    rw [ex] at d1
    refine ⟨D, _, rfl, SqL.of d1, _, rfl, ?_⟩
    rw [ea]
    refine iteF ?_
    have hA1 := s1 _ _ hA
    -- the second look: one beside the next
    have e2 : HT.sIx (rs.map V.ref).length (rs.map V.ref).length none = (rs.map V.ref).length := rfl
    refine ⟨_, rfl, _, rfl, _, rfl, a, _, rfl, SqT.of hA1, fun hw => ?_, fun hw b hb => ?_⟩
    · have n0 : rs = [] := by
        have h1 := hw.1
        rw [List.length_map] at h1
        cases rs with
        | nil => rfl
        | cons x y =>
          rw [List.length_cons, sIx_one] at h1
          cases h1
      subst n0
      refine ⟨a, a, [], [], rfl, .inr ⟨SqT.of hA1, SqT.of hA1, fun D2 hD2 => ?_⟩⟩
      refine lc_gen (walk_zipT (n := 0) rfl) hD2 (by decide) (fun _ => true) (fun i v H'' => v = .bl true) (fun i v _ _ o h => h) (fun H'' s'' => ⟨SqT.of (s'' _ _ hA1), SqT.of (s'' _ _ hA1)⟩) ?_ ?_
      · intro i x H2 H3 Q' S' hi
        omega
      · intro H2 ys s2 d2 py
        obtain ⟨ey, eb⟩ := true_list py
        rw [ey] at d2
        refine ⟨D2, _, rfl, SqL.of d2, ?_⟩
        rw [eb]
        exact k _ (s1.trans s2)
    · cases hrs : rs with
      | nil =>
        rw [hrs] at hw
        exact absurd ⟨rfl, rfl⟩ hw
      | cons r0 rt =>
        have cut : cutV (rs.map V.ref) (some 1) none = rt.map V.ref := by
          unfold cutV
          rw [e2, hrs, List.map_cons, List.length_cons, sIx_one, List.drop_succ_cons, List.drop_zero]
          exact List.take_of_length_le (by omega)
        have sb := same_upd_new (o := .tup (cutV (rs.map V.ref) (some 1) none)) hb
        have hB : upd H1 b (.tup (cutV (rs.map V.ref) (some 1) none)) b = some (.tup (rt.map V.ref)) := by rw [upd_same, cut]
        rw [hrs] at sb hB
        generalize upd H1 b (.tup (cutV ((r0 :: rt).map V.ref) (some 1) none)) = H2 at sb hB ⊢
        rw [hrs] at hA1 pr
        have hA2 := sb _ _ hA1
        refine ⟨a, b, _, _, rfl, .inr ⟨SqT.of hA2, SqT.of hB, fun D2 hD2 => ?_⟩⟩
        have hL2 : rt.length < sizeLine := by
          rw [← lrs, hrs, List.length_cons] at hL
          omega
        refine lc_gen (walk_zipT (n := rt.length) (by simp)) hD2 hL2 (fun _ => true) (fun i v H'' => v = .bl true) (fun i v _ _ o h => h) (fun H'' s'' => ⟨SqT.of (s'' _ _ hA2), SqT.of (s'' _ _ hB)⟩) ?_ ?_
        · rintro i x H3 H4 Q' S' hi s3 ⟨acc, hacc⟩ ⟨T, v1, v2, rfl, hT', rfl, hv1, hv2⟩ yes no
          have hv1 : ((r0 :: rt).map V.ref)[i]? = some v1 := hv1
          have hv2 : (rt.map V.ref)[i]? = some v2 := hv2
          rw [List.getElem?_map] at hv1 hv2
          obtain ⟨w1, g1, rfl⟩ := Option.map_eq_some_iff.mp hv1
          obtain ⟨w2, g2, rfl⟩ := Option.map_eq_some_iff.mp hv2
          obtain ⟨t1, k1, b1⟩ := paired_at pr g1
          obtain ⟨t2, k2, b2⟩ := paired_at pr (i := i + 1) (by rw [List.getElem?_cons_succ]; exact g2)
          have lt12 : ltK t1.1 t2.1 := by
            obtain ⟨p1, q1⟩ := List.getElem?_eq_some_iff.mp k1
            obtain ⟨p2, q2⟩ := List.getElem?_eq_some_iff.mp k2
            have := List.pairwise_iff_getElem.mp hS i (i + 1) p1 p2 (by omega)
            rw [q1, q2] at this
            exact this
          have sT := same_upd_new (o := .tup [.ref w1, .ref w2]) hT'
          have b1' := sT _ _ (s3 _ _ (sb _ _ (s1 _ _ b1)))
          have b2' := sT _ _ (s3 _ _ (sb _ _ (s1 _ _ b2)))
          have hTT : upd H3 T (.tup [.ref w1, .ref w2]) T = some (.tup [.ref w1, .ref w2]) := upd_same
          generalize upd H3 T (.tup [.ref w1, .ref w2]) = H4 at sT b1' b2' hTT ⊢
          refine ⟨T, _, rfl, SqT.of hTT, rfl, _, _, rfl, _, _, rfl, rfl, rfl, tyes ?_⟩
          refine ⟨_, rfl, _, rfl, w1, _, rfl, SqT.of b1', fun z => absurd z.2 (show ¬ (HT.sIx 3 3 (some 2) = 3) by decide), fun c1 hc1 => ?_⟩
          have sc1 := same_upd_new (o := .tup [.int (t1.1.1 : Int), .int (t1.1.2 : Int)]) hc1
          refine ⟨_, rfl, _, rfl, w2, _, rfl, SqT.of (sc1 _ _ b2'), fun z => absurd z.2 (show ¬ (HT.sIx 3 3 (some 2) = 3) by decide), fun c2 hc2 => ?_⟩
          have sc2 := same_upd_new (o := .tup [.int (t2.1.1 : Int), .int (t2.1.2 : Int)]) hc2
          refine ⟨c1, c2, [t1.1.1, t1.1.2], [t2.1.1, t2.1.2], rfl, rfl, SqT.of (sc2 _ _ upd_same), SqT.of upd_same, ?_⟩
          rw [lex2 (by rcases lt12 with z | z <;> omega)]
          exact yes _ _ rfl (sT.trans (sc1.trans sc2)) rfl
        · intro H3 ys s3 d3 py
          obtain ⟨ey, eb⟩ := true_list py
          rw [ey] at d3
          refine ⟨D2, _, rfl, SqL.of d3, ?_⟩
          rw [eb]
          exact k _ (s1.trans (sb.trans s3))
end
end L2.K37R
end W14
section W15
set_option autoImplicit false
set_option linter.all false
set_option maxRecDepth 100000
namespace L2.K37R
open PySem PySem.Spec PyProof.Rows C8
open K37 (S2 Pl)

section
variable {p : Nat} [NeZero p]
theorem Bk.perm {ts us : List Tm} {F : S2 (Fq p)} (h : Bk p ts F) (q : us.Perm ts) : Bk p us F where
  nd := (q.map (·.1)).nodup_iff.mpr h.nd
  co r := by
    have n := (q.map (·.1)).nodup_iff.mpr h.nd
    have e : lk us r = lk ts r := by
      cases x : lk ts r with
      | some c => exact lk_of_mem n (q.mem_iff.mpr (lk_mem x))
      | none =>
        rw [K37R.lk_none] at x ⊢
        exact fun z => x ((q.map (·.1)).mem_iff.mp z)
    rw [h.co, e]
  rg t ht := h.rg t (q.mem_iff.mp ht)
/-- a poly as the program tells it -/
def PolyO (p : Nat) [NeZero p] (H : Hp) (a : Addr) (F : S2 (Fq p)) : Prop := ∃ ts, PolyT H a ts ∧ Bk p ts F
/-- .. fit to be asked about -/
def PolyB (p : Nat) [NeZero p] (H : Hp) (a : Addr) (F : S2 (Fq p)) : Prop := ∃ ts, PolyR p H a ts ∧ Bk p ts F
theorem PolyO.same {H H' : Hp} {a : Addr} {F : S2 (Fq p)} (s : Same H H') (h : PolyO p H a F) : PolyO p H' a F := let ⟨ts, x, k⟩ := h; ⟨ts, x.same s, k⟩
theorem PolyB.same {H H' : Hp} {a : Addr} {F : S2 (Fq p)} (s : Same H H') (h : PolyB p H a F) : PolyB p H' a F := let ⟨ts, x, k⟩ := h; ⟨ts, x.same s, k⟩
theorem poly_y {H : Hp} {a : Addr} {F : S2 (Fq p)} {Q : VK} {E : XK} (hA : YAtP p H a F) (sA : Sm F) (k : ∀ H' q, Same H H' → PolyO p H' q F → Q (.ref q) H') : Wr spPolyOf [.ref a] H Q E := by
  obtain ⟨ts, hA, kA⟩ := hA
  exact wr ⟨a, ts, rfl, hA, kA.nd, kA.line sA, fun H' q s hw => k H' q s ⟨_, hw, kA.perm (sortT_perm ts)⟩⟩
theorem book_y {H : Hp} {a : Addr} {F : S2 (Fq p)} {Q : VK} {E : XK} (hA : PolyB p H a F) (k : ∀ H' q, Same H H' → H q = none → YAtP p H' q F → Q (.ref q) H') : Wr spBookOf [.ref a] H Q E := by
  obtain ⟨ts, hA, kA⟩ := hA
  exact wr ⟨a, ts, rfl, hA.1, kA.nd, hA.2.2.2, fun H' q s hq hw => k H' q s hq ⟨_, hw, kA⟩⟩
theorem told_y {H : Hp} {a : Addr} {F : S2 (Fq p)} {Q : VK} {E : XK} (hA : YAtP p H a F) (sA : Sm F) (k : ∀ H' q, Same H H' → PolyO p H' q F → Q (.ref q) H') : Wr spTold [.ref a] H Q E := by
  obtain ⟨ts, hA, kA⟩ := hA
  refine wr ⟨a, ts, rfl, hA, kA.nd, kA.line sA, fun t ht => ?_, fun H' q s hw => k H' q s ⟨_, hw, kA.perm (sortT_perm ts)⟩⟩
  have := sA t.1 (kA.mem ht).2
  omega
/-- highest, bounded -/
theorem high_le {H : Hp} {a : Addr} {F : S2 (Fq p)} {Q : VK} {E : XK} {n m : Nat} (s : Nat) (hs : s ≤ 1) (hA : YAtP p H a F) (sA : Sm F) (hb : Bd F (n + 1) (m + 1)) (k : ∀ H' z, Same H H' → z ≤ ((gx s (n, m) : Nat) : Int) → Q (.int z) H') : Wr spHighest [.ref a, .int s] H Q E := by
  obtain ⟨ts, hA, kA⟩ := hA
  refine wr ⟨a, ts, s, rfl, hs, hA, kA.line sA, fun H' z s' hi => k H' z s' ?_⟩
  rcases hi with ⟨_, e⟩ | ⟨⟨t, ht, e⟩, _⟩
  · omega
  · have := hb t.1 (kA.mem ht).2
    rw [e]
    have c : s = 0 ∨ s = 1 := by omega
    rcases c with c | c <;> subst c <;> show ((_ : Nat) : Int) ≤ ((_ : Nat) : Int)
    · show (t.1.1 : Int) ≤ (n : Int)
      omega
    · show (t.1.2 : Int) ≤ (m : Int)
      omega
end

section
variable {P : Program} {w : World} {K : PySem.W.Frag} {mg : Str → Option Value} {base : Heap}

abbrev sNeedPoly : Stmt := top 13
def spNeedPoly : Sp := fun vs H Q _ => ∃ (p : Nat) (a : Addr) (ts : List Tm), vs = [.int p, .ref a] ∧ PolyR p H a ts ∧ ∀ H', Same H H' → Q .non H'
theorem scNeedPoly : FnScope ["prime", "poly"] ["prime", "poly"] (defScope sNeedPoly) := ⟨rfl, rfl, rfl, by decide +kernel, rfl, by decide +kernel, by decide +kernel⟩
theorem ok_needPoly {f : Addr} {fd : FuncData} (F : FnP K "need_poly" sNeedPoly f fd) (cI : Cal P w K mg base 3 "polys_right" (Wr spPolysRight) []) : FnOk P w K mg base CX0 4 f fd ["prime", "poly"] (Wr spNeedPoly) := by
  refine FnOk.imp (sp := spNeedPoly) ?_ fun _ _ _ _ h => un_wr h
  refine okP F scNeedPoly (fun vs H Q E h => ?_) (fun cdv A outer s H vs Q E hr h => ?_)
  · obtain ⟨p, a, ts, rfl, _⟩ := h
    rfl
  · obtain ⟨p, a, ts, rfl, hA, k⟩ := h
    have nd := scNeedPoly.nd
    refine ⟨_, pss_one (ps_if (pt_not (pt_val (pe_c cI hr (by decide) (by rfl) (pa_cons (pv 0) (pa_cons (pv 1) pa_nil))))) pss_never pss_nil), ?_⟩
    exact ⟨_, rfl, _, rfl, wr ⟨p, a, ts, rfl, hA, fun H' s' => ⟨true, rfl, iteF (k _ s')⟩⟩⟩

abbrev sNeedX : Stmt := top 26
def spNeedX : Sp := fun vs H Q _ => ∃ (p : Nat) (a : Addr) (ts : List Tm), vs = [.int p, .ref a] ∧ PolyR p H a ts ∧ (∀ t, t ∈ ts → t.1.2 = 0) ∧ ∀ H', Same H H' → Q .non H'
theorem scNeedX : FnScope ["prime", "poly", "term"] ["prime", "poly"] (defScope sNeedX) := ⟨rfl, rfl, rfl, by decide +kernel, rfl, by decide +kernel, by decide +kernel⟩
theorem ok_needX {f : Addr} {fd : FuncData} (F : FnP K "need_x_poly" sNeedX f fd) (cI : Cal P w K mg base 4 "need_poly" (Wr spNeedPoly) []) : FnOk P w K mg base CX0 5 f fd ["prime", "poly"] (Wr spNeedX) := by
  refine FnOk.imp (sp := spNeedX) ?_ fun _ _ _ _ h => un_wr h
  refine okP F scNeedX (fun vs H Q E h => ?_) (fun cdv A outer s H vs Q E hr h => ?_)
  · obtain ⟨p, a, ts, rfl, _⟩ := h
    rfl
  · obtain ⟨p, a, ts, rfl, hA, hz, k⟩ := h
    have nd := scNeedX.nd
    refine ⟨_, pss_cons (ps_expr (pe_c cI hr (by decide) (by rfl) (pa_cons (pv 0) (pa_cons (pv 1) pa_nil))))
      (pss_one (ps_if (pt_cmpR (op_neD hr.units) (pe_lc (own := [("term", 2)]) (g := gName 2) rfl nd (pi_tup (pv 1)) (blkOk_by (N := ["prime", "poly", "term"]) (sc := defScope sNeedX) (by decide +kernel))
        (fun _ _ _ _ _ => pg_name (i := 2) nd rfl (Or.inl rfl)) (fun _ _ _ _ _ => pts_one (pt_cmpR op_ne (pe_it (K := K) (pv 2) pe_int) pe_int (nomark _))) (fun _ _ _ _ _ => pe_int)) (pe_lst pa_nil) (nomark _)) pss_never pss_nil)), ?_⟩
    refine ⟨_, rfl, _, rfl, wr ⟨p, a, ts, rfl, hA, fun H1 s1 => ?_⟩⟩
    obtain ⟨⟨rs, hA', pr⟩, _⟩ := id (hA.same s1)
    refine ⟨_, rfl, a, rfl, ⟨_, SqT.of hA'⟩, fun D hD => ?_⟩
    refine lc_gen (walk_tup (xs := rs.map V.ref)) hD (by rw [List.length_map, Paired.length pr]; exact hA.2.2.2) (fun _ => false) (fun i v H'' => True) (fun _ _ _ _ _ h => h) (fun H'' s'' => SqT.of (s'' _ _ hA')) ?_ ?_
    · rintro i x H2 H3 Q' S' hi s2 _ ⟨rfl, hx⟩ yes no
      rw [List.getElem?_map] at hx
      obtain ⟨r, hr', rfl⟩ := Option.map_eq_some_iff.mp hx
      obtain ⟨t, ht, hb⟩ := paired_at pr hr'
      refine ⟨wipe_set _ 2 _, _, rfl, r, _, _, _, rfl, rfl, SqT.of (s2 _ _ hb), rfl, rfl, _, rfl, ite_neI (fun e => ?_) (fun _ => no _ rfl (Same.refl _))⟩
      exact absurd (by rw [hz t (List.mem_of_getElem? ht)]; rfl) e
    · intro H2 xs s2 d2 px
      rw [List.filter_eq_nil_iff.mpr (fun _ _ z => by cases z)] at px
      cases px
      refine ⟨by show 0 ≤ sizeLine; decide, fun l hl => ?_⟩
      have sl := same_upd_new (o := .lst []) hl
      refine ⟨.list [], .list [], .lst (SqL.of (sl _ _ d2)) .nil, .lst (SqL.of upd_same) .nil, rfl, rfl, _, rfl, ?_⟩
      rw [show PyData.eqv (.list []) (.list []) = true from SeqAt.eqv_refl _ rfl]
      exact iteF (k _ (s1.trans (s2.trans sl)))
end
end L2.K37R
end W15
section W16
set_option autoImplicit false
set_option linter.all false
set_option maxRecDepth 100000
namespace L2.K37R
open PySem PySem.Spec PyProof.Rows C8
open K37 (S2 Pl)

section
variable {P : Program} {w : World} {K : PySem.W.Frag} {mg : Str → Option Value} {base : Heap}
theorem euclid_y {p : Nat} [NeZero p] {H : Hp} {a b : Addr} {PA' PB : RX p} {Q : VK} {E : XK} (hp : Pr p) (hA : YAtP p H a (Pl.C PA')) (hB : YAtP p H b (Pl.C PB)) (dA : K37.dlt PA' 4) (dB : K37.dlt PB 4)
    (k : ∀ H' q g1 g2 g3 G S T, Same H H' → H' q = some (.tup [.ref g1, .ref g2, .ref g3]) → YAtP p H' g1 (Pl.C G) → YAtP p H' g2 (Pl.C S) → YAtP p H' g3 (Pl.C T) → K37.dlt G 4 → K37.dlt S 20 → K37.dlt T 20 →
      G = S * PA' + T * PB → (∃ u, PA' = u * G) → (∃ u, PB = u * G) → Q (.ref q) H') : Wr spEuclid [.int p, .ref a, .ref b] H Q E := wr ⟨p, ‹_›, a, b, PA', PB, rfl, hp, hA, hB, dA, dB, k⟩

abbrev sCommon : Stmt := top 31
def spCommon : Sp := fun vs H Q _ => ∃ (p : Nat) (_ : NeZero p) (a b : Addr) (A B : RX p), vs = [.int p, .ref a, .ref b] ∧ Pr p ∧ PolyB p H a (Pl.C A) ∧ PolyB p H b (Pl.C B) ∧ K37.dlt A 4 ∧ K37.dlt B 4 ∧
  ∀ H' q g1 g2 g3 G S T, Same H H' → H' q = some (.tup [.ref g1, .ref g2, .ref g3]) → PolyO p H' g1 (Pl.C G) → K37.dlt G 4 → G = S * A + T * B → (∃ u, A = u * G) → (∃ u, B = u * G) → Q (.ref q) H'
theorem scCommon : FnScope ["prime", "one", "other", "item"] ["prime", "one", "other"] (defScope sCommon) := ⟨rfl, rfl, rfl, by decide +kernel, rfl, by decide +kernel, by decide +kernel⟩
theorem x_only {p : Nat} [NeZero p] {H : Hp} {a : Addr} {A : RX p} {ts : List Tm} (k : Bk p ts (Pl.C A)) : ∀ t, t ∈ ts → t.1.2 = 0 := fun t ht => by
  have c := (k.mem ht).2
  rw [cf_C] at c
  apply Classical.byContradiction
  intro z
  rw [if_neg z] at c
  exact c rfl
theorem ok_common {f : Addr} {fd : FuncData} (F : FnP K "common" sCommon f fd) (B : Bare mg) (cN : Cal P w K mg base 2 "need_prime" (Wr spNeedPrime) []) (cX : Cal P w K mg base 5 "need_x_poly" (Wr spNeedX) []) (cE : Cal P w K mg base 3 "euclid" (Wr spEuclid) [])
    (cP : Cal P w K mg base 1 "poly_of" (Wr spPolyOf) []) (cB : Cal P w K mg base 1 "book_of" (Wr spBookOf) []) : FnOk P w K mg base CX0 6 f fd ["prime", "one", "other"] (Wr spCommon) := by
  refine FnOk.imp (sp := spCommon) ?_ fun _ _ _ _ h => un_wr h
  refine okP F scCommon (fun vs H Q E h => ?_) (fun cdv A outer s H vs Q E hr h => ?_)
  · obtain ⟨p, ne, a, b, A, B, rfl, _⟩ := h
    rfl
  · obtain ⟨p, ne, a, b, PA', PB, rfl, hp, hA, hB, dA, dB, k⟩ := h
    have nd := scCommon.nd
    refine ⟨_, pss_cons (ps_expr (pe_c cN hr (by decide) (by rfl) (pa_cons (pv 0) pa_nil)))
      (pss_cons (ps_expr (pe_c cX hr (by decide) (by rfl) (pa_cons (pv 0) (pa_cons (pv 1) pa_nil))))
      (pss_cons (ps_expr (pe_c cX hr (by decide) (by rfl) (pa_cons (pv 0) (pa_cons (pv 2) pa_nil))))
      (pss_one (ps_ret (pe_callTy call_tuple_of (by rfl) B.tuple (by decide +kernel) (pa_cons (pe_lc (own := [("item", 3)]) (g := gName 3) (tt := tYes) rfl nd (pi_tup (pe_c cE hr (by decide) (by rfl) (pa_cons (pv 0) (pa_cons (pe_c cB hr (by decide) (by rfl) (pa_cons (pv 1) pa_nil)) (pa_cons (pe_c cB hr (by decide) (by rfl) (pa_cons (pv 2) pa_nil)) pa_nil)))))
          (blkOk_by (N := ["prime", "one", "other", "item"]) (sc := defScope sCommon) (by decide +kernel))
          (fun _ _ _ _ _ => pg_name (i := 3) nd rfl (Or.inl rfl)) (fun _ _ _ _ _ => pts_nil) (fun _ _ _ _ _ => pe_c cP (hr : Room _ _) (by decide) (by rfl) (pa_cons (pv 3) pa_nil))) pa_nil)))))), ?_⟩
    obtain ⟨ts, rA, kA⟩ := id hA
    obtain ⟨us, rB, kB⟩ := id hB
    refine ⟨_, rfl, wr ⟨p, rfl, hp, fun H1 s1 => ?_⟩⟩
    refine ⟨_, rfl, _, rfl, wr ⟨p, a, ts, rfl, rA.same s1, x_only (H := H) (a := a) kA, fun H2 s2 => ?_⟩⟩
    refine ⟨_, rfl, _, rfl, wr ⟨p, b, us, rfl, rB.same (s1.trans s2), x_only (H := H) (a := b) kB, fun H3 s3 => ?_⟩⟩
    have s03 := s1.trans (s2.trans s3)
    refine ⟨_, rfl, _, rfl, ?_⟩
    refine book_y (hA.same s03) fun H4 a4 s4 n4 y4 => ⟨_, rfl, ?_⟩
    refine book_y (hB.same (s03.trans s4)) fun H5 b5 s5 n5 y5 => ?_
    refine euclid_y hp (y4.same s5) y5 dA dB fun H6 q g1 g2 g3 G S T s6 hq y1 y2 y3 dG dS dT eG dv1 dv2 => ?_
    refine ⟨q, rfl, ⟨_, SqT.of hq⟩, fun D hD => ?_⟩
    let sel : Nat → S2 (Fq p) := fun i => Pl.C (([G, S, T][i]?).getD 0)
    refine lc_gen (walk_tup (xs := [.ref g1, .ref g2, .ref g3])) hD (by show 3 < sizeLine; decide) (fun _ => true) (fun i v H'' => ∃ a, v = .ref a ∧ ∃ ts rs, H'' a = some (.tup (List.map V.ref rs)) ∧ Paired (TermAt H'') rs ts ∧ Bk p ts (sel i)) (fun i v H1 H2 o ⟨a, e, ts, rs, x1, x2, x3⟩ => ⟨a, e, ts, rs, o.tup x1, paired_imp (fun _ _ q => o.tup q) x2, x3⟩) (fun H'' s'' => SqT.of (s'' _ _ hq)) ?_ ?_
    · rintro i x1 H7 H8 Q' S' hi s7 ⟨acc, hacc⟩ ⟨rfl, hx1⟩ yes no
      obtain ⟨r, er, F1, g1', dF, e3⟩ : ∃ r, [V.ref g1, V.ref g2, V.ref g3][i]? = some (.ref r) ∧ ∃ F : RX p, YAtP p H6 r (Pl.C F) ∧ K37.dlt F 20 ∧ ([G, S, T][i]?).getD 0 = F := by
        match i, hi with
        | 0, _ => exact ⟨g1, rfl, G, y1, dG.mono (by decide), rfl⟩
        | 1, _ => exact ⟨g2, rfl, S, y2, dS, rfl⟩
        | 2, _ => exact ⟨g3, rfl, T, y3, dT, rfl⟩
      have er := hx1.symm.trans er
      cases er
      refine ⟨wipe_set _ 3 _, tyes ⟨_, rfl, ?_⟩⟩
      refine poly_y (g1'.same s7) (smC dF (by decide)) fun H9 r9 s9 y9 => ?_
      obtain ⟨ts9, ⟨rs9, hr9, pr9⟩, k9⟩ := y9
      exact yes _ _ rfl s9 ⟨r9, rfl, ts9, rs9, hr9, pr9, by rw [show sel i = Pl.C F1 from congrArg Pl.C e3]; exact k9⟩
    · intro H7 zs s7 hz7 pz
      refine ⟨D, _, rfl, .inl ⟨SqL.of hz7, fun q' hq' => ?_⟩⟩
      have s' := same_upd_new (o := .tup zs) hq'
      have lz : zs.length = 3 := pz.length
      match zs, lz, pz with
      | [v1, v2, v3], _, .cons ⟨r1, e1, ts1, rs1, x1, x2, x3⟩ (.cons ⟨r2, e2, _⟩ (.cons ⟨r3, e3, _⟩ .nil)) =>
        subst e1 e2 e3
        refine k _ q' r1 r2 r3 G S T (s03.trans (s4.trans (s5.trans (s6.trans (s7.trans s'))))) upd_same ⟨ts1, PolyT.same s' ⟨rs1, x1, x2⟩, x3⟩ dG eG dv1 dv2
end
end L2.K37R
end W16
section W17
set_option autoImplicit false
set_option linter.all false
set_option maxRecDepth 100000
namespace L2.K37R
open PySem PySem.Spec PyProof.Rows C8
open K37 (S2 Pl)

/-- two polys in a row, fit to be asked about -/
def RowB (p : Nat) [NeZero p] (H : Hp) (a : Addr) (F G : S2 (Fq p)) : Prop := ∃ a1 a2, H a = some (.tup [.ref a1, .ref a2]) ∧ PolyB p H a1 F ∧ PolyB p H a2 G
theorem RowB.same {p : Nat} [NeZero p] {H H' : Hp} {a : Addr} {F G : S2 (Fq p)} (s : Same H H') (h : RowB p H a F G) : RowB p H' a F G := let ⟨x, y, e, k, l⟩ := h; ⟨x, y, s _ _ e, k.same s, l.same s⟩
section
variable {P : Program} {w : World} {K : PySem.W.Frag} {mg : Str → Option Value} {base : Heap}

abbrev sRowsRight : Stmt := top 41
def spRowsRight : Sp := fun vs H Q _ => ∃ (p : Nat) (_ : NeZero p) (a : Addr) (F G : S2 (Fq p)), vs = [.int p, .ref a] ∧ RowB p H a F G ∧ ∀ H', Same H H' → Q (.bl true) H'
theorem scRowsRight : FnScope ["prime", "thing", "poly"] ["prime", "thing"] (defScope sRowsRight) := ⟨rfl, rfl, rfl, by decide +kernel, rfl, by decide +kernel, by decide +kernel⟩
theorem ok_rowsRight {f : Addr} {fd : FuncData} (F : FnP K "rows_right" sRowsRight f fd) (B : Bare mg) (zL : ∃ t, mg "LEAST_ENTRIES" = some (.int 2 t)) (zM : ∃ t, mg "MOST_ENTRIES" = some (.int 4 t)) (cR : Cal P w K mg base 3 "polys_right" (Wr spPolysRight) []) : FnOk P w K mg base CX0 4 f fd ["prime", "thing"] (Wr spRowsRight) := by
  refine FnOk.imp (sp := spRowsRight) ?_ fun _ _ _ _ h => un_wr h
  refine okP F scRowsRight (fun vs H Q E h => ?_) (fun cdv A outer s H vs Q E hr h => ?_)
  · obtain ⟨p, ne, a, F, G, rfl, _⟩ := h
    rfl
  · obtain ⟨p, ne, a, F, G, rfl, ⟨a1, a2, hA, ⟨ts, rA, kA⟩, ⟨us, rB, kB⟩⟩, k⟩ := h
    have nd := scRowsRight.nd
    obtain ⟨tL, zL⟩ := zL
    obtain ⟨tM, zM⟩ := zM
    refine ⟨_, pss_cons (ps_if (PW.pt (pw_or (pt_not (pt_val (pe_callB call_isi (by rfl) B.isinstance (by decide +kernel) (pa_cons (pv 1) (pa_cons (pe_bltn (v := .ty "tuple") (by rfl) B.tuple (by decide +kernel) rfl) pa_nil)))))
        (pw_or1 (pt_not (pt_chain op_le op_le (pe_glob (v := .int 2) (by rfl) zL ⟨_, rfl⟩) (pe_callB call_len_seq (by rfl) B.len (by decide +kernel) (pa_cons (pv 1) pa_nil)) (pe_glob (v := .int 4) (by rfl) zM ⟨_, rfl⟩))))))
        pss_never pss_nil)
      (pss_one (ps_ret (pe_callB (cr_all rfl) (by rfl) B.all (by decide +kernel) (pa_cons
          (pe_lc (own := [("poly", 2)]) (g := gName 2) (tt := tYes) rfl nd (pi_tup (pv 1)) (blkOk_by (N := ["prime", "thing", "poly"]) (sc := defScope sRowsRight) (by decide +kernel))
            (fun _ _ _ _ _ => pg_name (i := 2) nd rfl (Or.inl rfl)) (fun _ _ _ _ _ => pts_nil) (fun _ _ _ _ _ => pe_c cR (hr : Room _ _) (by decide) (by rfl) (pa_cons (pv 0) (pa_cons (pv 2) pa_nil)))) pa_nil)))), ?_⟩
    refine ⟨_, rfl, _, _, .type "tuple", .type "tuple", true, rfl, .ty "tuple", .base (.tup hA), kit_ty (by decide +kernel), true, rfl, ?_⟩
    refine iteF ⟨_, rfl, a, _, rfl, .inr (SqT.of hA), _, _, rfl, rfl, true, rfl, iteT ⟨_, _, rfl, rfl, true, rfl, iteF ?_⟩⟩
    refine ⟨_, rfl, a, rfl, ⟨_, SqT.of hA⟩, fun D hD => ?_⟩
    refine lc_gen (walk_tup (xs := [.ref a1, .ref a2])) hD (by show 2 < sizeLine; decide) (fun _ => true) (fun i v H'' => v = .bl true) (fun i v _ _ o h => h) (fun H'' s'' => SqT.of (s'' _ _ hA)) ?_ ?_
    · rintro i x H1 H2 Q' S' hi s1 ⟨acc, hacc⟩ ⟨rfl, hx⟩ yes no
      obtain ⟨r, vs, er, pr⟩ : ∃ (r : Addr) (vs : List Tm), [V.ref a1, V.ref a2][i]? = some (.ref r) ∧ PolyR p H r vs := by
        match i, hi with
        | 0, _ => exact ⟨a1, ts, rfl, rA⟩
        | 1, _ => exact ⟨a2, us, rfl, rB⟩
      have er := hx.symm.trans er
      cases er
      exact ⟨wipe_set _ 2 _, tyes ⟨_, rfl, _, rfl, wr ⟨p, r, vs, rfl, pr.same s1, fun H3 s3 => yes _ _ rfl s3 rfl⟩⟩⟩
    · intro H1 xs s1 d1 px
      obtain ⟨ex, ea⟩ := true_list px
      rw [ex] at d1
      refine ⟨D, _, rfl, SqL.of d1, ?_⟩
      rw [ea]
      exact k _ s1

abbrev sNeedRow : Stmt := top 42
def spNeedRow : Sp := fun vs H Q _ => ∃ (p : Nat) (_ : NeZero p) (a : Addr) (F G : S2 (Fq p)), vs = [.int p, .ref a] ∧ Pr p ∧ RowB p H a F G ∧ ∀ H', Same H H' → Q .non H'
theorem scNeedRow : FnScope ["prime", "row"] ["prime", "row"] (defScope sNeedRow) := ⟨rfl, rfl, rfl, by decide +kernel, rfl, by decide +kernel, by decide +kernel⟩
theorem ok_needRow {f : Addr} {fd : FuncData} (F : FnP K "need_row" sNeedRow f fd) (cN : Cal P w K mg base 2 "need_prime" (Wr spNeedPrime) []) (cI : Cal P w K mg base 4 "rows_right" (Wr spRowsRight) []) : FnOk P w K mg base CX0 5 f fd ["prime", "row"] (Wr spNeedRow) := by
  refine FnOk.imp (sp := spNeedRow) ?_ fun _ _ _ _ h => un_wr h
  refine okP F scNeedRow (fun vs H Q E h => ?_) (fun cdv A outer s H vs Q E hr h => ?_)
  · obtain ⟨p, ne, a, F, G, rfl, _⟩ := h
    rfl
  · obtain ⟨p, ne, a, F, G, rfl, hp, hA, k⟩ := h
    have nd := scNeedRow.nd
    refine ⟨_, pss_cons (ps_expr (pe_c cN hr (by decide) (by rfl) (pa_cons (pv 0) pa_nil))) (pss_one (ps_if (pt_not (pt_val (pe_c cI hr (by decide) (by rfl) (pa_cons (pv 0) (pa_cons (pv 1) pa_nil))))) pss_never pss_nil)), ?_⟩
    exact ⟨_, rfl, wr ⟨p, rfl, hp, fun H1 s1 => ⟨_, rfl, _, rfl, wr ⟨p, ne, a, F, G, rfl, hA.same s1, fun H' s' => ⟨true, rfl, iteF (k _ (s1.trans s'))⟩⟩⟩⟩⟩

abbrev sNeedSmall : Stmt := top 43
def spNeedSmall : Sp := fun vs H Q _ => ∃ (p : Nat) (_ : NeZero p) (a : Addr) (F G : S2 (Fq p)), vs = [.ref a] ∧ RowB p H a F G ∧ Bd F 4 4 ∧ Bd G 4 4 ∧ ∀ H', Same H H' → Q .non H'
theorem scNeedSmall : FnScope ["row", "poly"] ["row"] (defScope sNeedSmall) := ⟨rfl, rfl, rfl, by decide +kernel, rfl, by decide +kernel, by decide +kernel⟩
theorem ok_needSmall {f : Addr} {fd : FuncData} (F : FnP K "need_small_row" sNeedSmall f fd) (B : Bare mg) (zM : ∃ t, mg "MOST_SMALL" = some (.int 3 t)) (cH : Cal P w K mg base 1 "highest" (Wr spHighest) []) (cB : Cal P w K mg base 1 "book_of" (Wr spBookOf) []) : FnOk P w K mg base CX0 2 f fd ["row"] (Wr spNeedSmall) := by
  refine FnOk.imp (sp := spNeedSmall) ?_ fun _ _ _ _ h => un_wr h
  refine okP F scNeedSmall (fun vs H Q E h => ?_) (fun cdv A outer s H vs Q E hr h => ?_)
  · obtain ⟨p, ne, a, F, G, rfl, _⟩ := h
    rfl
  · obtain ⟨p, ne, a, F, G, rfl, ⟨a1, a2, hA, bA, bB⟩, dF, dG, k⟩ := h
    have nd := scNeedSmall.nd
    obtain ⟨tM, zM⟩ := zM
    refine ⟨_, pss_one (ps_for PassesOwn.never rfl (pi_tup (pv 0)) (pg_name (i := 1) nd rfl (.inl rfl)) (pss_one (ps_if (pt_cmpR op_gt (pe_callB (call_max2 rfl) (by rfl) B.max (by decide +kernel)
      (pa_cons (pe_c cH hr (by decide) (by rfl) (pa_cons (pe_c cB hr (by decide) (by rfl) (pa_cons (pv 1) pa_nil)) (pa_cons pe_int pa_nil))) (pa_cons (pe_c cH hr (by decide) (by rfl) (pa_cons (pe_c cB hr (by decide) (by rfl) (pa_cons (pv 1) pa_nil)) (pa_cons pe_int pa_nil))) pa_nil)))
      (pe_glob (v := .int 3) (by rfl) zM ⟨_, rfl⟩) (nomark _)) pss_never pss_nil))), ?_⟩
    refine ⟨_, rfl, a, rfl, ⟨_, SqT.of hA⟩, ?_⟩
    refine for_it (walk_tup (xs := [.ref a1, .ref a2])) (fun n σ' H' => Same H H' ∧ ∃ x, σ' = [some (.ref a), x]) ⟨Same.refl _, none, rfl⟩ (fun _ _ _ _ q => SqT.of (q.1 _ _ hA)) ?_ (fun σ' H' q => k _ q.1)
    rintro n x σ' H1 H2 hi ⟨s1, y, rfl⟩ ⟨rfl, hx⟩
    obtain ⟨r, T, er, pr, dT⟩ : ∃ (r : Addr) (T : S2 (Fq p)), [V.ref a1, V.ref a2][n]? = some (.ref r) ∧ PolyB p H r T ∧ Bd T 4 4 := by
      match n, hi with
      | 0, _ => exact ⟨a1, F, rfl, bA, dF⟩
      | 1, _ => exact ⟨a2, G, rfl, bB, dG⟩
    have er := hx.symm.trans er
    cases er
    have sT : Sm T := dT.mono (by decide) (by decide)
    refine ⟨_, rfl, ?_⟩
    refine book_y (pr.same s1) fun H3 b3 s3 n3 y3 => ?_
    refine high_le 0 (by decide) y3 sT dT fun H4 z4 s4 h4 => ⟨_, rfl, ?_⟩
    refine book_y (pr.same (s1.trans (s3.trans s4))) fun H5 b5 s5 n5 y5 => ?_
    refine high_le 1 (by decide) y5 sT dT fun H6 z6 s6 h6 => ?_
    have h4 : z4 ≤ 3 := h4
    have h6 : z6 ≤ 3 := h6
    refine ⟨_, _, rfl, _, _, rfl, rfl, _, rfl, ?_⟩
    rw [decide_eq_false (by split <;> omega)]
    exact iteF ⟨s1.trans (s3.trans (s4.trans (s5.trans s6))), _, rfl⟩
end
end L2.K37R
end W17
section W18
set_option autoImplicit false
set_option linter.all false
set_option maxRecDepth 100000
namespace L2.K37R
open PySem PySem.Spec PyProof.Rows C8
open K37 (S2 Pl)

/-! ### the columns of a book -/
def col (j : Nat) (ws : List Tm) : List Tm := ws.filterMap (ptT (j : Int))
theorem col_snoc (j : Nat) (ws : List Tm) (t : Tm) : col j (ws ++ [t]) = if t.1.2 = j then col j ws ++ [((t.1.1, 0), t.2)] else col j ws := by
  unfold col
  rw [List.filterMap_append]
  by_cases e : t.1.2 = j
  · rw [if_pos e]
    have : ptT (j : Int) t = some ((t.1.1, 0), t.2) := if_pos (by omega)
    simp [this]
  · rw [if_neg e]
    have : ptT (j : Int) t = none := if_neg (by omega)
    simp [this]
/-- the dict of columns at C; its books are new since H0 -/
def Cols (H0 H : Hp) (C : Addr) (ws : List Tm) : Prop := ∃ kvs : List (Key × V), H C = some (.dK kvs) ∧ kvs.length ≤ ws.length ∧
  (∀ j : Nat, (col j ws = [] ∧ valV kvs (.inl (j : Int)) = none) ∨ ∃ c, valV kvs (.inl (j : Int)) = some (.ref c) ∧ At H c (col j ws) ∧ col j ws ≠ [] ∧ H0 c = none) ∧
  ∀ (i j : Nat) (c : Addr), valV kvs (.inl (i : Int)) = some (.ref c) → valV kvs (.inl (j : Int)) = some (.ref c) → i = j
theorem Cols.nil {H0 H : Hp} {C : Addr} (h : H C = some (.dK [])) : Cols H0 H C [] := ⟨[], h, Nat.le_refl _, fun j => .inl ⟨rfl, rfl⟩, fun i j c e => nomatch (show (none : Option V) = some (.ref c) from e)⟩
theorem Cols.same {H0 H H' : Hp} {C : Addr} {ws : List Tm} (s : Same H H') : Cols H0 H C ws → Cols H0 H' C ws
  | ⟨kvs, e, l, q, i⟩ => ⟨kvs, s _ _ e, l, fun j => (q j).imp id fun ⟨c, x, y, z⟩ => ⟨c, x, s _ _ y, z⟩, i⟩
theorem inlj {i j : Nat} (h : (Sum.inl (i : Int) : Key) = .inl (j : Int)) : i = j := by
  have := Sum.inl.inj h
  omega
/-- the column stands already -/
theorem Cols.more {H0 H H4 : Hp} {C c : Addr} {ws : List Tm} {t : Tm} {kvs : List (Key × V)} (h : Cols H0 H C ws) (hC : H C = some (.dK kvs)) (hc : valV kvs (.inl (t.1.2 : Int)) = some (.ref c)) (s : Same H H4) (hn : (t.1.1, 0) ∉ (col t.1.2 ws).map (·.1)) :
    At H4 c (col t.1.2 ws) ∧ H0 c = none ∧ Cols H0 (upd H4 c (.dT (putK ((col t.1.2 ws).map enc) (ky (t.1.1, 0)) (.int t.2)))) C (ws ++ [t]) := by
  obtain ⟨kvs', e, l, q, inj⟩ := h
  rw [hC] at e
  cases e
  obtain ⟨c', x1, x2, x3, x4⟩ := (q t.1.2).resolve_left fun z => by
    rw [z.2] at hc
    cases hc
  rw [hc] at x1
  cases x1
  have x2' := s _ _ x2
  refine ⟨x2', x4, kvs, ?_, by rw [List.length_append]; exact Nat.le_trans l (Nat.le_add_right _ _), fun j => ?_, inj⟩
  · have : C ≠ c := fun z => by
      have y := s _ _ hC
      rw [z] at y
      rw [show H4 c = _ from x2'] at y
      cases y
    rw [upd_ne this]
    exact s _ _ hC
  · rw [col_snoc]
    by_cases ej : t.1.2 = j
    · subst ej
      rw [if_pos rfl]
      refine .inr ⟨c, hc, ?_, by simp, x4⟩
      show upd _ _ _ c = _
      rw [upd_same, putK_enc, putM_new hn]
    · rw [if_neg ej]
      refine (q j).imp id fun ⟨d, y1, y2, y3, y4⟩ => ⟨d, y1, ?_, y3, y4⟩
      have : d ≠ c := fun z => ej (inj _ _ c hc (by rw [← z]; exact y1))
      show upd _ _ _ d = _
      rw [upd_ne this]
      exact s _ _ y2
/-- a new one -/
theorem Cols.fresh {H0 H H2 H4 : Hp} {C e : Addr} {ws : List Tm} {t : Tm} {kvs : List (Key × V)} (h : Cols H0 H C ws) (hC : H C = some (.dK kvs)) (hc : valV kvs (.inl (t.1.2 : Int)) = none) (s : Same H H2) (he : H e = none) (he0 : H0 e = none) (he2 : H2 e = some (.dT []))
    (s4 : Same (upd H2 C (.dK (putK kvs (.inl (t.1.2 : Int)) (.ref e)))) H4) :
    At H4 e [] ∧ Cols H0 (upd H4 e (.dT (putK [] (ky (t.1.1, 0)) (.int t.2)))) C (ws ++ [t]) := by
  obtain ⟨kvs', e', l, q, inj⟩ := h
  rw [hC] at e'
  cases e'
  have hCe : C ≠ e := ne_of_none hC he
  have z0 : col t.1.2 ws = [] := by
    rcases q t.1.2 with z | ⟨c, z, _⟩
    · exact z.1
    · rw [hc] at z
      cases z
  have x1 : H4 e = some (.dT []) := s4 _ _ (by rw [upd_ne hCe.symm]; exact he2)
  have ne : ∀ (j : Nat) (c : Addr), valV kvs (.inl (j : Int)) = some (.ref c) → c ≠ e := fun j c hj z => by
    rcases q j with y | ⟨d, y1, y2, _⟩
    · rw [y.2] at hj
      cases hj
    · rw [hj] at y1
      cases y1
      rw [z] at y2
      rw [show H e = _ from y2] at he
      cases he
  refine ⟨x1, putK kvs (.inl (t.1.2 : Int)) (.ref e), ?_, ?_, fun j => ?_, fun i j c hi hj => ?_⟩
  · rw [upd_ne hCe]
    exact s4 _ _ upd_same
  · have := length_putK kvs (.inl (t.1.2 : Int)) (.ref e)
    rw [List.length_append]
    exact Nat.le_trans this (Nat.add_le_add_right l 1)
  · rw [col_snoc, valV_put]
    by_cases ej : t.1.2 = j
    · subst ej
      rw [if_pos rfl, if_pos rfl, z0]
      refine .inr ⟨e, rfl, ?_, by simp, he0⟩
      show upd _ _ _ e = _
      rw [upd_same]
      rfl
    · rw [if_neg ej, if_neg (fun z => ej (inlj z).symm)]
      refine (q j).imp id fun ⟨d, y1, y2, y3, y4⟩ => ⟨d, y1, ?_, y3, y4⟩
      show upd _ _ _ d = _
      rw [upd_ne (ne j d y1)]
      refine s4 _ _ ?_
      have : d ≠ C := fun z => by
        rw [z] at y2
        rw [show H C = _ from y2] at hC
        cases hC
      rw [upd_ne this]
      exact s _ _ y2
  · rw [valV_put] at hi hj
    by_cases ei : t.1.2 = i
    · by_cases ej : t.1.2 = j
      · omega
      · rw [if_pos (by rw [ei])] at hi
        rw [if_neg (fun z => ej (inlj z).symm)] at hj
        cases hi
        exact absurd rfl (ne j e hj)
    · rw [if_neg (fun z => ei (inlj z).symm)] at hi
      by_cases ej : t.1.2 = j
      · rw [if_pos (by rw [ej])] at hj
        cases hj
        exact absurd rfl (ne i e hi)
      · rw [if_neg (fun z => ej (inlj z).symm)] at hj
        exact inj i j c hi hj
end L2.K37R
end W18
section W19
set_option autoImplicit false
set_option linter.all false
set_option maxRecDepth 100000
namespace L2.K37R
open PySem PySem.Spec PyProof.Rows C8
open K37 (S2 Pl)

section
variable {p : Nat} [NeZero p]
theorem sm_ne {A : Type} [Lean.Grind.CommRing A] {f : Nat → A} {n : Nat} (h : K37.sm n f ≠ 0) : ∃ i, i < n ∧ f i ≠ 0 := Classical.byContradiction fun z => h (K37.sm_eq_zero fun i hi => Classical.byContradiction fun y => z ⟨i, hi, y⟩)
theorem cf_neg (F : S2 (Fq p)) (q : Nat × Nat) : cf (-F) q = - cf F q := by
  unfold cf
  rw [Pl.co_neg, Pl.co_neg]
theorem co_sm {A : Type} [Lean.Grind.CommRing A] (f : Nat → Pl A) (t : Nat) : ∀ n, (K37.sm n f).co t = K37.sm n (fun i => (f i).co t)
  | 0 => Pl.co_zero t
  | n + 1 => by
    show (K37.sm n f + f n).co t = K37.sm n (fun i => (f i).co t) + (f n).co t
    rw [Pl.co_add, co_sm f t n]
theorem supp_mul {F G : S2 (Fq p)} {q : Nat × Nat} (h : cf (F * G) q ≠ 0) : ∃ r s, cf F r ≠ 0 ∧ cf G s ≠ 0 ∧ q.1 = r.1 + s.1 ∧ q.2 = r.2 + s.2 := by
  unfold cf at h
  rw [Pl.co_mul, co_sm] at h
  obtain ⟨j, hj, e⟩ := sm_ne h
  rw [Pl.co_mul] at e
  obtain ⟨i, hi, e2⟩ := sm_ne e
  refine ⟨(i, j), (q.1 - i, q.2 - j), fun z => e2 ?_, fun z => e2 ?_, by show q.1 = i + (q.1 - i); omega, by show q.2 = j + (q.2 - j); omega⟩
  · rw [show (F.co j).co i = 0 from z]
    grind
  · rw [show (G.co (q.2 - j)).co (q.1 - i) = 0 from z]
    grind
theorem supp_add {F G : S2 (Fq p)} {q : Nat × Nat} (h : cf (F + G) q ≠ 0) : cf F q ≠ 0 ∨ cf G q ≠ 0 := Classical.byContradiction fun z => by
  rw [not_or] at z
  rw [cf_add, Classical.not_not.mp z.1, Classical.not_not.mp z.2] at h
  exact h (by grind)
theorem supp_sub {F G : S2 (Fq p)} {q : Nat × Nat} (h : cf (F - G) q ≠ 0) : cf F q ≠ 0 ∨ cf G q ≠ 0 := Classical.byContradiction fun z => by
  rw [not_or] at z
  rw [cf_sub, Classical.not_not.mp z.1, Classical.not_not.mp z.2] at h
  exact h (by grind)
theorem supp_kap {c : Fq p} {F : S2 (Fq p)} {q : Nat × Nat} (h : cf (K37.kap c * F) q ≠ 0) : cf F q ≠ 0 := fun z => by
  rw [cf_kap, z] at h
  exact h (by grind)
theorem Bd.mul {F G : S2 (Fq p)} {m n m' n' : Nat} (h : Bd F m n) (k : Bd G m' n') : Bd (F * G) (m + m' - 1) (n + n' - 1) := fun q hq => by
  obtain ⟨r, s, h1, h2, e1, e2⟩ := supp_mul hq
  have := h r h1
  have := k s h2
  omega
theorem Bd.add {F G : S2 (Fq p)} {m n : Nat} (h : Bd F m n) (k : Bd G m n) : Bd (F + G) m n := fun q hq => (supp_add hq).elim (h q) (k q)
theorem Bd.sub {F G : S2 (Fq p)} {m n : Nat} (h : Bd F m n) (k : Bd G m n) : Bd (F - G) m n := fun q hq => (supp_sub hq).elim (h q) (k q)
theorem Bd.kap {F : S2 (Fq p)} {m n : Nat} (h : Bd F m n) (c : Fq p) : Bd (K37.kap c * F) m n := fun q hq => h q (supp_kap hq)
theorem Bd.zero (m n : Nat) : Bd (0 : S2 (Fq p)) m n := fun q hq => absurd (cf_zero q) hq
theorem Bd.dlt {F : S2 (Fq p)} {m n : Nat} (h : Bd F m n) : K37.dlt F n := fun j hj => Pl.ext fun i => by
  rw [Pl.co_zero]
  apply Classical.byContradiction
  intro z
  have := (h (i, j) z).2
  have : j < n := this
  omega
theorem Bd.co {F : S2 (Fq p)} {m n : Nat} (h : Bd F m n) (j : Nat) : K37.dlt (F.co j) m := fun i hi => by
  apply Classical.byContradiction
  intro z
  have := (h (i, j) z).1
  have : i < m := this
  omega
theorem bd_of {F : S2 (Fq p)} {m n : Nat} (h : K37.dlt F n) (k : ∀ j, K37.dlt (F.co j) m) : Bd F m n := fun q hq => by
  refine ⟨Nat.lt_of_not_le fun z => hq (k _ _ z), Nat.lt_of_not_le fun z => hq ?_⟩
  show (F.co q.2).co q.1 = 0
  rw [h _ z, Pl.co_zero]

/-! how many terms a book has -/
theorem nodup_on {α β : Type} {g : α → β} {l : List α} (h : l.Nodup) (hg : ∀ a, a ∈ l → ∀ b, b ∈ l → g a = g b → a = b) : (l.map g).Nodup := by
  rw [List.nodup_iff_pairwise_ne, List.pairwise_map]
  exact (List.Pairwise.imp_of_mem (fun {a b} ha hb hne e => hne (hg a ha b hb e)) (List.nodup_iff_pairwise_ne.mp h))
theorem len_by {ts : List Tm} {F : S2 (Fq p)} (h : Bk p ts F) (g : Nat × Nat → Nat × Nat) {m n : Nat} (hg : ∀ q r, cf F q ≠ 0 → cf F r ≠ 0 → g q = g r → q = r) (hb : ∀ q, cf F q ≠ 0 → (g q).1 < m ∧ (g q).2 < n) : ts.length ≤ m * n := by
  have e : ((ts.map (·.1)).map g).Nodup := nodup_on h.nd fun a ha b hb' e => hg a b (h.mem_key.mp ha) (h.mem_key.mp hb') e
  have k := box_len e (m := m) (n := n) fun q hq => by
    obtain ⟨r, hr, rfl⟩ := List.mem_map.mp hq
    exact hb r (h.mem_key.mp hr)
  rw [List.length_map, List.length_map] at k
  exact k
def Few (F : S2 (Fq p)) (n : Nat) : Prop := ∀ ts, Bk p ts F → ts.length ≤ n
theorem few_bd {F : S2 (Fq p)} {m n : Nat} (h : Bd F m n) : Few F (m * n) := fun ts k => k.len h
theorem product_n {H : Hp} {a b : Addr} {F G : S2 (Fq p)} {Q : VK} {E : XK} {m n : Nat} (hp : Pr p) (hA : YAtP p H a F) (hB : YAtP p H b G) (lA : Few F m) (lB : Few G n) (hl : m * n ≤ 3000) (k : ∀ H' q, Same H H' → H q = none → YAtP p H' q (F * G) → Q (.ref q) H') :
    Wr spProduct [.int p, .ref a, .ref b] H Q E := by
  obtain ⟨ts, hA, kA⟩ := hA
  obtain ⟨us, hB, kB⟩ := hB
  exact wr ⟨p, ‹_›, a, b, ts, us, F, G, rfl, (pr17 hp).1, (pr17 hp).2, hA, hB, kA, kB, Nat.le_trans (Nat.mul_le_mul (lA ts kA) (lB us kB)) hl, fun H' q ws s hq hw kw => k H' q s hq ⟨ws, hw, kw⟩⟩

/-- of one weight: x weighs k, y one -/
def Wt (k e : Nat) (F : S2 (Fq p)) : Prop := ∀ q, cf F q ≠ 0 → k * q.1 + q.2 = k * e
theorem Wt.mul {k e f : Nat} {F G : S2 (Fq p)} (h : Wt k e F) (g : Wt k f G) : Wt k (e + f) (F * G) := fun q hq => by
  obtain ⟨r, s, h1, h2, e1, e2⟩ := supp_mul hq
  have x := h r h1
  have y := g s h2
  rw [e1, e2, Nat.mul_add, Nat.mul_add]
  omega
theorem Wt.bound {k e : Nat} {F : S2 (Fq p)} (hk : 1 ≤ k) (h : Wt k e F) (q : Nat × Nat) (hq : cf F q ≠ 0) : q.1 ≤ e ∧ q.2 = k * (e - q.1) := by
  have x := h q hq
  have : q.1 ≤ e := by
    apply Nat.le_of_not_lt
    intro z
    have := Nat.mul_lt_mul_of_pos_left z (show 0 < k by omega)
    omega
  refine ⟨this, ?_⟩
  rw [Nat.mul_sub]
  omega
theorem Wt.few {k e : Nat} {F : S2 (Fq p)} (hk : 1 ≤ k) (h : Wt k e F) : Few F (e + 1) := fun ts kt => by
  have := len_by kt (fun q => (q.1, 0)) (m := e + 1) (n := 1) (fun q r hq hr e => ?_) (fun q hq => ?_)
  · omega
  · have e1 : q.1 = r.1 := (Prod.mk.inj e).1
    exact Prod.ext e1 (by rw [(h.bound hk q hq).2, (h.bound hk r hr).2, e1])
  · have := (h.bound hk q hq).1
    show q.1 < e + 1 ∧ 0 < 1
    omega
/-- beneath a line -/
def Und (k E : Nat) (F : S2 (Fq p)) : Prop := ∀ q, cf F q ≠ 0 → ∃ b, q.2 = k * b ∧ q.1 + b < E
theorem Wt.und {k e E : Nat} {F : S2 (Fq p)} (hk : 1 ≤ k) (h : Wt k e F) (hE : e < E) : Und k E F := fun q hq => ⟨e - q.1, (h.bound hk q hq).2, by have := (h.bound hk q hq).1; omega⟩
theorem Und.add {k E : Nat} {F G : S2 (Fq p)} (h : Und k E F) (g : Und k E G) : Und k E (F + G) := fun q hq => (supp_add hq).elim (h q) (g q)
theorem Und.kap {k E : Nat} {F : S2 (Fq p)} (h : Und k E F) (c : Fq p) : Und k E (K37.kap c * F) := fun q hq => h q (supp_kap hq)
theorem Und.mono {k E E' : Nat} {F : S2 (Fq p)} (h : Und k E F) (e : E ≤ E') : Und k E' F := fun q hq => let ⟨b, x, y⟩ := h q hq; ⟨b, x, by omega⟩
theorem Und.zero (k E : Nat) : Und k E (0 : S2 (Fq p)) := fun q hq => absurd (cf_zero q) hq
theorem Und.few {k E : Nat} {F : S2 (Fq p)} (hk : 1 ≤ k) (h : Und k E F) : Few F (E * E) := fun ts kt => by
  refine len_by kt (fun q => (q.1, q.2 / k)) (fun q r hq hr e => ?_) (fun q hq => ?_)
  · have e1 : q.1 = r.1 := (Prod.mk.inj e).1
    have e2 : q.2 / k = r.2 / k := (Prod.mk.inj e).2
    obtain ⟨b, x1, _⟩ := h q hq
    obtain ⟨c, y1, _⟩ := h r hr
    rw [x1, y1, Nat.mul_div_cancel_left _ (by omega), Nat.mul_div_cancel_left _ (by omega)] at e2
    exact Prod.ext e1 (by rw [x1, y1, e2])
  · obtain ⟨b, x1, x2⟩ := h q hq
    show q.1 < E ∧ q.2 / k < E
    rw [x1, Nat.mul_div_cancel_left _ (by omega)]
    omega
theorem Und.bd {k E : Nat} {F : S2 (Fq p)} (h : Und k E F) : Bd F E (k * E + 1) := fun q hq => by
  obtain ⟨b, x1, x2⟩ := h q hq
  have := Nat.mul_le_mul_left k (show b ≤ E by omega)
  omega
end
end L2.K37R
end W19
section W20
set_option autoImplicit false
set_option linter.all false
set_option maxRecDepth 100000
namespace L2.K37R
open PySem PySem.Spec PyProof.Rows C8
open K37 (S2 Pl)

section
variable {p : Nat} [NeZero p]
/-- the first e terms of a poly of x, one put for x -/
def Sx (o : S2 (Fq p)) (r : RX p) (e : Nat) : S2 (Fq p) := K37.sm e fun i => K37.kap (r.co i) * o ^ i
theorem Sx_succ (o : S2 (Fq p)) (r : RX p) (e : Nat) : Sx o r (e + 1) = Sx o r e + K37.kap (r.co e) * o ^ e := rfl
theorem Sx_all {o : S2 (Fq p)} {r : RX p} {e : Nat} (h : K37.dlt r e) : Sx o r e = K37.putx o r := (K37.ev_eq K37.kap_hom o h).symm
noncomputable def Tx (o : S2 (Fq p)) (F : S2 (Fq p)) (n : Nat) : S2 (Fq p) := K37.sm n fun j => K37.putx o (F.co j) * K37.Ly ^ j
theorem Tx_succ (o F : S2 (Fq p)) (n : Nat) : Tx o F (n + 1) = Tx o F n + K37.putx o (F.co n) * K37.Ly ^ n := rfl
theorem Tx_all {o F : S2 (Fq p)} {n : Nat} (h : K37.dlt F n) : Tx o F n = K37.put o K37.Ly F := (K37.ev_eq (K37.putx_hom o) K37.Ly h).symm
theorem wt_one (k : Nat) : Wt k 0 (1 : S2 (Fq p)) := fun q hq => by
  have e : (1 : S2 (Fq p)) = Pl.C 1 := rfl
  rw [e, ← tm_00, cf_tm] at hq
  by_cases h : q = (0, 0)
  · rw [h]
    rfl
  · rw [if_neg h] at hq
    exact absurd rfl hq
theorem wt_pow {k : Nat} {o : S2 (Fq p)} (h : Wt k 1 o) : ∀ e, Wt k e (o ^ e)
  | 0 => by
    rw [Lean.Grind.Semiring.pow_zero]
    exact wt_one k
  | e + 1 => by
    rw [Lean.Grind.Semiring.pow_succ]
    exact (wt_pow h e).mul h
theorem Sx_und {k : Nat} (hk : 1 ≤ k) {o : S2 (Fq p)} (h : Wt k 1 o) (r : RX p) : ∀ e, Und k e (Sx o r e)
  | 0 => Und.zero k 0
  | e + 1 => ((Sx_und hk h r e).mono (by omega)).add (((wt_pow h e).und hk (by omega)).kap _)
theorem bd_Lyp (n : Nat) : Bd (K37.Ly ^ n : S2 (Fq p)) 1 (n + 1) := fun q hq => by
  rw [K37.Ly_pow] at hq
  unfold cf at hq
  rw [K37.co_mo] at hq
  by_cases e : q.2 = n
  · rw [if_pos e] at hq
    have e1 : (1 : RX p) = Pl.C 1 := rfl
    rw [e1, Pl.co_C] at hq
    by_cases e0 : q.1 = 0
    · omega
    · rw [if_neg e0] at hq
      exact absurd rfl hq
  · rw [if_neg e, Pl.co_zero] at hq
    exact absurd rfl hq
theorem few_Lyp (n : Nat) : Few (K37.Ly ^ n : S2 (Fq p)) 1 := fun ts kt => by
  have key : ∀ q, cf (K37.Ly ^ n : S2 (Fq p)) q ≠ 0 → q = (0, n) := fun q hq => by
    have b := bd_Lyp n q hq
    rw [K37.Ly_pow] at hq
    unfold cf at hq
    rw [K37.co_mo] at hq
    by_cases e : q.2 = n
    · exact Prod.ext (by show q.1 = 0; omega) e
    · rw [if_neg e, Pl.co_zero] at hq
      exact absurd rfl hq
  exact len_by kt (fun _ => (0, 0)) (m := 1) (n := 1) (fun q r hq hr _ => by rw [key q hq, key r hr]) (fun q hq => by show 0 < 1 ∧ 0 < 1; omega)
theorem putx_und {k m : Nat} (hk : 1 ≤ k) {o : S2 (Fq p)} (h : Wt k 1 o) {r : RX p} (hr : K37.dlt r m) : Und k m (K37.putx o r) := by
  rw [← Sx_all hr]
  exact Sx_und hk h r m
theorem Tx_bd {k m : Nat} (hk : 1 ≤ k) {o F : S2 (Fq p)} (h : Wt k 1 o) (hF : ∀ j, K37.dlt (F.co j) m) : ∀ n, Bd (Tx o F n) m (k * m + n)
  | 0 => Bd.zero _ _
  | n + 1 => by
    refine ((Tx_bd hk h hF n).mono (Nat.le_refl _) (by omega)).add ?_
    exact ((putx_und hk h (hF n)).bd.mul (bd_Lyp n)).mono (by omega) (by omega)
theorem dlt_hi (r : RX p) : K37.dlt r (K37.hi r + 1).toNat := K37.dlt_of_hi (by
  have : -1 ≤ K37.hi r := by
    by_cases e : r = 0
    · rw [e, K37.hi_zero]
      omega
    · rw [K37.hi_ne e]
      omega
  omega)
theorem dlt_hi2 (F : S2 (Fq p)) : K37.dlt F (K37.hi F + 1).toNat := K37.dlt_of_hi (by
  have : -1 ≤ K37.hi F := by
    by_cases e : F = 0
    · rw [e, K37.hi_zero]
      omega
    · rw [K37.hi_ne e]
      omega
  omega)
theorem hi_lt {A : Type} [Lean.Grind.CommRing A] {F : Pl A} {n : Nat} (h : K37.dlt F n) : (K37.hi F + 1).toNat ≤ n := by
  by_cases e : F = 0
  · rw [e, K37.hi_zero]
    show (0 : Int).toNat ≤ n
    omega
  · rw [K37.hi_ne e]
    have := (K37.dg_is e).lt_of_dlt h
    omega
theorem hi_ge {A : Type} [Lean.Grind.CommRing A] (F : Pl A) : -1 ≤ K37.hi F := by
  by_cases e : F = 0
  · rw [e, K37.hi_zero]
    omega
  · rw [K37.hi_ne e]
    omega
end

theorem walk_range0 {n : Nat} : Walk (Itr 0 n) n (fun _ => True) (YFn fun i => .int (i : Int)) := walk_range.mono (fun _ h => h) fun i H x H' _ _ y => ⟨y.1, by
  rw [y.2]
  show V.int (0 + (i : Int)) = V.int (i : Int)
  rw [Int.zero_add]⟩
theorem Cols.off {H0 H : Hp} {C a : Addr} {ws : List Tm} {o o' : HO} (h : Cols H0 H C ws) (ha : H0 a = some o') (hC : C ≠ a) : Cols H0 (upd H a o) C ws := by
  obtain ⟨kvs, e, l, q, i⟩ := h
  refine ⟨kvs, by rw [upd_ne hC]; exact e, l, fun j => (q j).imp id fun ⟨c, x, y, z, u⟩ => ⟨c, x, ?_, z, u⟩, i⟩
  show upd H a o c = _
  rw [upd_ne (ne_of_none ha u).symm]
  exact y
section
variable {P : Program} {w : World} {K : PySem.W.Frag} {mg : Str → Option Value} {base : Heap}
abbrev sPutIn : Stmt := top 24
def spPutIn : Sp := fun vs H Q _ => ∃ (p : Nat) (_ : NeZero p) (a b c : Addr) (F O : S2 (Fq p)) (k m n : Nat), vs = [.int p, .ref a, .ref b, .ref c] ∧ Pr p ∧ YAtP p H a F ∧ YAtP p H b O ∧ YAtP p H c K37.Ly ∧ 1 ≤ k ∧ Wt k 1 O ∧ Bd F m n ∧ m ≤ 47 ∧ k * m + n ≤ 255 ∧
  ∀ H' q, Same H H' → H q = none → YAtP p H' q (K37.put O K37.Ly F) → Q (.ref q) H'
theorem scPutIn : FnScope ["prime", "book", "one", "other", "found", "power", "columns", "pair", "spot", "inner", "step", "exponent"] ["prime", "book", "one", "other"] (defScope sPutIn) := ⟨rfl, rfl, rfl, by decide +kernel, rfl, by decide +kernel, by decide +kernel⟩
theorem ok_putIn {f : Addr} {fd : FuncData} (F : FnP K "put_in" sPutIn f fd) (B : Bare mg) (cH : Cal P w K mg base 1 "highest" (Wr spHighest) []) (cA : Cal P w K mg base 1 "added" (Wr spAdded) []) (cA1 : Cal P w K mg base 1 "added" (Wr spAdded) [.int 1]) (cP : Cal P w K mg base 1 "product" (Wr spProduct) []) :
    FnOk P w K mg base CX0 2 f fd ["prime", "book", "one", "other"] (Wr spPutIn) := by
  refine FnOk.imp (sp := spPutIn) ?_ fun _ _ _ _ h => un_wr h
  refine okP F scPutIn (fun vs H Q E h => ?_) (fun cdv A outer s H vs Q E hr h => ?_)
  · obtain ⟨p, ne, a, b, c, F, O, k, m, n, rfl, _⟩ := h
    rfl
  · obtain ⟨p, ne, a, b, c, F, O, k, m, n, rfl, hp, hA, hB, hC, hk, wO, bF, hm, hkm, fin⟩ := h
    have hu := hu_of hr
    have hu1 := Nat.lt_of_succ_lt hu
    have nd := scPutIn.nd
    refine ⟨_, pss_cons (ps_par3 (i := 4) (j := 5) (l := 6) rfl nd rfl rfl rfl (by decide) (by decide) (by decide) rfl rfl rfl
        (pa_cons pe_dnewT (pa_cons (pe_dispT hu1 (pe_tup (pa_cons pe_int (pa_cons pe_int pa_nil))) pe_int) (pa_cons pe_dnewK pa_nil))) (by rfl))
      (pss_cons (ps_lock (ps_for PassesOwn.never rfl (pi_keys (pv 1)) (pg_name (i := 7) nd rfl (.inl rfl))
        (pss_one (ps_dput hu (pe_dsetd (pv 6) (pe_it (K := K) (pv 7) pe_int) pe_dnewT ⟨rfl, rfl, rfl, rfl⟩) (pe_tup (pa_cons (pe_it (K := K) (pv 7) pe_int) (pa_cons pe_int pa_nil))) (pe_dget hu (pv 1) (pv 7) (fun _ _ => rfl)) rfl))))
      (pss_cons (ps_for PassesOwn.never rfl (pi_range1 (by rfl) B.range (pa_cons (pe_op op_add (pe_c cH hr (by decide) (by rfl) (pa_cons (pv 1) (pa_cons pe_int pa_nil))) pe_int) pa_nil)) (pg_name (i := 8) nd rfl (.inl rfl))
        (pss_cons (ps_if (pt_cmp (pc_din hu (pv 8) (pv 6)) (by with_unfolding_all rfl))
          (pss_cons (ps_par (i := 9) (j := 10) rfl nd rfl rfl (by decide) rfl rfl (pa_cons pe_dnewT (pa_cons (pe_dispT hu1 (pe_tup (pa_cons pe_int (pa_cons pe_int pa_nil))) pe_int) pa_nil)) (by rfl))
          (pss_cons (ps_for PassesOwn.never rfl (pi_range1 (by rfl) B.range (pa_cons (pe_op op_add (pe_c cH hr (by decide) (by rfl) (pa_cons (pe_dget hu (pv 6) (pv 8) (fun _ _ => rfl)) (pa_cons pe_int pa_nil))) pe_int) pa_nil)) (pg_name (i := 11) nd rfl (.inl rfl))
            (pss_cons (ps_if (pt_cmp (pc_din hu (pe_tup (pa_cons (pv 11) (pa_cons pe_int pa_nil))) (pe_dget hu (pv 6) (pv 8) (fun _ _ => rfl))) (by with_unfolding_all rfl))
                (pss_one (ps_set (i := 9) nd rfl (.inl rfl) (pe_c cA hr (by decide) (by rfl) (pa_cons (pv 0) (pa_cons (pv 9) (pa_cons (pv 10) (pa_cons (pe_dget hu (pe_dget hu (pv 6) (pv 8) (fun _ _ => rfl)) (pe_tup (pa_cons (pv 11) (pa_cons pe_int pa_nil))) (fun _ _ => rfl)) pa_nil))))))) pss_nil)
              (pss_one (ps_set (i := 10) nd rfl (.inl rfl) (pe_c cP hr (by decide) (by rfl) (pa_cons (pv 0) (pa_cons (pv 10) (pa_cons (pv 2) pa_nil))))))))
          (pss_one (ps_set (i := 4) nd rfl (.inl rfl) (pe_c cA1 hr (by decide) (by rfl) (pa_cons (pv 0) (pa_cons (pv 4) (pa_cons (pe_c cP hr (by decide) (by rfl) (pa_cons (pv 0) (pa_cons (pv 9) (pa_cons (pv 5) pa_nil)))) pa_nil)))))))) pss_nil)
        (pss_one (ps_set (i := 5) nd rfl (.inl rfl) (pe_c cP hr (by decide) (by rfl) (pa_cons (pv 0) (pa_cons (pv 5) (pa_cons (pv 3) pa_nil))))))))
      (pss_one (ps_ret (pv 4))))), ?_⟩
    haveI := fd_of hp
    obtain ⟨hp1, hp7⟩ := pr17 hp
    obtain ⟨ts, hAt, kA⟩ := id hA
    have sF : Sm F := bF.mono (by omega) (by omega)
    have one1 : Bk p [((0, 0), 1)] (1 : S2 (Fq p)) := by
      have := Bk.one (p := p) hp1 (0, 0)
      rw [tm_00] at this
      exact this
    intro D0 hD0
    have s1 := same_upd_new (o := .dT []) hD0
    have y1 : YAtP p (upd H D0 (.dT [])) D0 0 := .nil upd_same
    generalize upd H D0 (.dT []) = H1 at s1 y1 ⊢
    refine disp_c 0 0 1 fun H2 P0 s2 n2 e2 => ?_
    have y2 : YAtP p H2 P0 1 := ⟨_, e2, one1⟩
    intro C hC0
    have s3 := same_upd_new (o := .dK []) hC0
    have hC3 : upd H2 C (.dK []) C = some (.dK []) := upd_same
    have nC : H C = none := by
      cases w : H C with
      | none => rfl
      | some o =>
        rw [s2 _ _ (s1 _ _ w)] at hC0
        cases hC0
    have y1 := y1.same (s2.trans s3)
    have y2 := y2.same s3
    have s03 := s1.trans (s2.trans s3)
    generalize upd H2 C (.dK []) = H3 at s03 hC3 y1 y2 ⊢
    refine ⟨_, _, _, rfl, ?_⟩
    -- the columns
    have hA3 := s03 _ _ hAt
    refine for_book (i := 7) (j := 1) (a := a) (ts := ts) (fun n' σ' H' => ∃ x : Option V, σ' = [some (.int p), some (.ref a), some (.ref b), some (.ref c), some (.ref D0), some (.ref P0), some (.ref C), x, none, none, none, none] ∧
      (∀ d o, d ≠ a → d ≠ C → H3 d = some o → H' d = some o) ∧ Cols H3 H' C (ts.take n')) rfl hA3 ?_ ?_ ?_
    · intro od
      refine ⟨none, rfl, fun d o h1 h2 e => by rw [upd_ne h1]; exact e, ?_⟩
      rw [List.take_zero]
      refine Cols.nil ?_
      have : C ≠ a := fun z => by
        rw [z] at hC3
        rw [show H3 a = _ from hA3] at hC3
        cases hC3
      rw [upd_ne this]
      exact hC3
    · rintro n' t σ' H' pb ht ⟨od, hl⟩ ⟨x, rfl, ho, hc⟩ hpb D' nx
      have hm' := List.mem_of_getElem? ht
      obtain ⟨kvs, hCk, hlen, hcol, hinj⟩ := id hc
      have lk' : kvs.length < sizeLine := by
        have h1 := List.length_take_le' n' ts
        have h2 := kA.line sF
        omega
      have tk : ts.take (n' + 1) = ts.take n' ++ [t] := by
        rw [List.take_add_one, ht]
        rfl
      have nw : (t.1.1, 0) ∉ (col t.1.2 (ts.take n')).map (·.1) := by
        have hh := filterMap_nodup_pre (f := ptT (t.1.2 : Int)) (ts := ts) (nodup_part kA.nd _) ht (t' := ((t.1.1, 0), t.2)) (if_pos rfl)
        exact hh
      have hCa : C ≠ a := fun z => by
        rw [z, hl] at hCk
        cases hCk
      refine ⟨_, rfl, _, rfl, a, _, rfl, dget_mem (rd_keep ⟨od, hl⟩ (Same.refl _)) hpb kA.nd hm', ?_⟩
      refine ⟨_, rfl, C, rfl, .inl ⟨kvs, .inl hCk⟩, _, rfl, pb, _, _, _, rfl, rfl, SqT.of hpb, at1, fun e he => ?_⟩
      have se := same_upd_new (o := .dT []) he
      have key : ∀ (H5 : Hp) (g : Addr), H5 pb = some (.tup [.int (t.1.1 : Int), .int (t.1.2 : Int)]) →
          (∀ H6 q, Same H5 H6 → H6 q = some (.tup [.int (t.1.1 : Int), .int 0]) → ∃ H7, DPut H6 g (.ref q) (.int t.2) H7 ∧ D'.nx [some (.int p), some (.ref a), some (.ref b), some (.ref c), some (.ref D0), some (.ref P0), some (.ref C), some (.ref pb), none, none, none, none] H7) →
          tTup (tCons (tOp (rIxT K) (tVar 7) (tC (.int 0))) (tCons (tC (.int 0)) tNil)) [some (.int p), some (.ref a), some (.ref b), some (.ref c), some (.ref D0), some (.ref P0), some (.ref C), some (.ref pb), none, none, none, none] H5 fun y H6 => ∃ g' H7, V.ref g = .ref g' ∧ DPut H6 g' y (.int t.2) H7 ∧ D'.nx [some (.int p), some (.ref a), some (.ref b), some (.ref c), some (.ref D0), some (.ref P0), some (.ref C), some (.ref pb), none, none, none, none] H7 := by
        intro H5 g hp5 go
        refine ⟨_, rfl, pb, _, _, _, rfl, rfl, SqT.of hp5, at0, by show 2 ≤ sizeLine; decide, fun q hq => ?_⟩
        obtain ⟨H7, d7, nx7⟩ := go _ q (same_upd_new hq) upd_same
        exact ⟨g, H7, rfl, d7, nx7⟩
      refine ⟨kvs, .inl (t.1.2 : Int), se _ _ hCk, rfl, lk', fun v hv => ?_, fun hv => ?_⟩
      · -- it stands
        obtain ⟨d, d1, d2, d3, d4⟩ := (hcol t.1.2).resolve_left fun z => by
          rw [z.2] at hv
          cases hv
        rw [hv] at d1
        cases d1
        refine key _ d (se _ _ hpb) fun H6 q s6 hq => ?_
        obtain ⟨w1, w2, w3⟩ := hc.more hCk hv (se.trans s6) nw
        refine ⟨_, .inr ⟨_, ky (t.1.1, 0), q, w1, rfl, hq, ?_, rfl⟩, ?_⟩
        · rw [List.length_map]
          have h1 := List.length_filterMap_le (ptT (t.1.2 : Int)) (ts.take n')
          have h2 := List.length_take_le' n' ts
          have h3 := kA.line sF
          show (col t.1.2 (ts.take n')).length < _
          unfold col
          omega
        · have hda : d ≠ a := fun z => by
            rw [z, hA3] at w2
            cases w2
          refine nx _ _ ?_ ⟨_, rfl, fun d' o h1 h2 e' => ?_, by rw [tk]; exact w3⟩
          · rw [upd_ne hda.symm, hl]
            exact s6 _ _ (se _ _ hl)
          · rw [upd_ne (ne_of_none e' w2)]
            exact s6 _ _ (se _ _ (ho d' o h1 h2 e'))
      · -- a new one
        have heC : e ≠ C := (ne_of_none hCk he).symm
        have he3 : H3 e = none := by
          cases w : H3 e with
          | none => rfl
          | some o =>
            by_cases h1 : e = a
            · rw [h1, hl] at he
              cases he
            · rw [ho e o h1 heC w] at he
              cases he
        refine key _ e (by
          have : pb ≠ C := fun z => by
            rw [z] at hpb
            rw [show H' C = _ from hpb] at hCk
            cases hCk
          rw [upd_ne this]
          exact se _ _ hpb) fun H6 q s6 hq => ?_
        obtain ⟨w1, w3⟩ := hc.fresh hCk hv se he he3 upd_same s6
        refine ⟨_, .inr ⟨[], ky (t.1.1, 0), q, w1, rfl, hq, by show 0 < sizeLine; decide, rfl⟩, ?_⟩
        have hea : e ≠ a := fun z => by
          rw [z, hl] at he
          cases he
        refine nx _ _ ?_ ⟨_, rfl, fun d' o h1 h2 e' => ?_, by rw [tk]; exact w3⟩
        · rw [upd_ne hea.symm, hl]
          exact s6 _ _ (by rw [upd_ne hCa.symm]; exact se _ _ hl)
        · rw [upd_ne (ne_of_none e' he3)]
          exact s6 _ _ (by rw [upd_ne h2]; exact se _ _ (ho d' o h1 h2 e'))
    · rintro σ' H' ⟨od, hl⟩ ⟨x, rfl, ho, hc⟩
      rw [List.take_length] at hc
      have hCa : C ≠ a := fun z => by
        rw [z] at hC3
        rw [show H3 a = _ from hA3] at hC3
        cases hC3
      have keep : ∀ d o, d ≠ C → H3 d = some o → upd H' a (.dT (ts.map enc)) d = some o := fun d o h1 e' => by
        by_cases hda : d = a
        · rw [hda] at e' ⊢
          rw [upd_same, ← e', hA3]
        · rw [upd_ne hda]
          exact ho d o hda h1 e'
      have s0 : Same H (upd H' a (.dT (ts.map enc))) := fun d o e' => keep d o (ne_of_none e' nC) (s03 _ _ e')
      have hc := hc.off (o := .dT (ts.map enc)) hA3 hCa
      have book : ∀ {d : Addr} {G : S2 (Fq p)}, YAtP p H3 d G → YAtP p (upd H' a (.dT (ts.map enc))) d G := fun {d G} ⟨us, e', k'⟩ => ⟨us, keep d _ (ne_of e' hC3 (fun z => nomatch z)) e', k'⟩
      have y1 := book y1
      have y2 := book y2
      have nD0 := hD0
      generalize upd H' a (.dT (ts.map enc)) = H4 at s0 hc y1 y2 ⊢
      obtain ⟨kvs, hCk, -, hcol, -⟩ := id hc
      refine ⟨_, rfl, ?_⟩
      refine highy_y (hA.same s0) sF fun H5 s5 => ⟨_, _, rfl, rfl, ?_⟩
      have hN : (K37.hi F + 1).toNat ≤ n := hi_lt bF.dlt
      have hg := hi_ge F
      refine ⟨_, rfl, by omega, by omega, ?_⟩
      generalize hNN : (K37.hi F + 1).toNat = N at hN
      have dFN : K37.dlt F N := by
        rw [← hNN]
        exact dlt_hi2 F
      refine for_it walk_range0 (fun j σ' H' => ∃ (fq pq : Addr) (x7 x8 x9 x10 x11 : Option V), σ' = [some (.int p), some (.ref a), some (.ref b), some (.ref c), some (.ref fq), some (.ref pq), some (.ref C), x7, x8, x9, x10, x11] ∧ Same H4 H' ∧ H fq = none ∧ YAtP p H' fq (Tx O F j) ∧ YAtP p H' pq (K37.Ly ^ j))
        ⟨D0, P0, x, none, none, none, none, rfl, s5, hD0, y1.same s5, by rw [Lean.Grind.Semiring.pow_zero]; exact y2.same s5⟩ (fun _ _ _ _ _ => True.intro) ?_ ?_
      · rintro j xj σ' H6' H6 hj ⟨fq, pq, x7, x8, x9, x10, x11, rfl, s6, nfq, yf, yp⟩ ⟨rfl, rfl⟩
        have hC6 := s6 _ _ hCk
        have yc6 := hC.same (s0.trans s6)
        have pcol : Bk p (col j ts) (Pl.C (F.co j)) := kA.part (j : Int)
        have fewP := few_Lyp (p := p) j
        have fewL : Few (K37.Ly : S2 (Fq p)) 1 := by
          have := few_Lyp (p := p) 1
          rw [Lean.Grind.Semiring.pow_one] at this
          exact this
        have bT : ∀ i, i ≤ n → Sm (Tx O F i) := fun i hi => (Tx_bd hk wO (fun j => bF.co j) i).mono (by omega) (by omega)
        have eL : (K37.Ly ^ j * K37.Ly : S2 (Fq p)) = K37.Ly ^ (j + 1) := (Lean.Grind.Semiring.pow_succ _ _).symm
        rcases hcol j with ⟨z1, z2⟩ | ⟨g, g1, g2, g3, g4⟩
        · refine ⟨_, rfl, _, rfl, C, valV kvs (.inl (j : Int)), rfl, DGet.k (k := .inl (j : Int)) hC6, _, rfl, ?_⟩
          rw [z2]
          refine iteF ?_
          refine ⟨_, rfl, _, rfl, _, rfl, ?_⟩
          refine product_n hp yp yc6 fewP fewL (by decide) fun H8 q8 s8 n8 y8 => ?_
          rw [eL] at y8
          have r0 : F.co j = 0 := C_inj ((pcol.eq_nil.mp z1).trans rfl)
          have eT : Tx O F (j + 1) = Tx O F j := by
            rw [Tx_succ, r0, show K37.putx O (0 : RX p) = 0 from K37.ev_zero K37.kap_hom O]
            grind
          exact ⟨fq, q8, _, _, _, _, _, rfl, s6.trans s8, nfq, by rw [eT]; exact yf.same s8, y8⟩
        · refine ⟨_, rfl, _, rfl, C, valV kvs (.inl (j : Int)), rfl, DGet.k (k := .inl (j : Int)) hC6, _, rfl, ?_⟩
          rw [g1]
          refine iteT ?_
          intro I0 hI0
          have t1 := same_upd_new (o := .dT []) hI0
          have yi : YAtP p (upd H6 I0 (.dT [])) I0 0 := .nil upd_same
          generalize upd H6 I0 (.dT []) = H7 at t1 yi ⊢
          refine disp_c 0 0 1 fun H8 S0 t2 n8 e8 => ?_
          have ys : YAtP p H8 S0 1 := ⟨_, e8, one1⟩
          refine ⟨_, _, rfl, ?_⟩
          have yi := yi.same t2
          have t02 := s6.trans (t1.trans t2)
          have dget : ∀ {H9}, Same H4 H9 → DGet H9 C (.int (j : Int)) (some (.ref g)) := fun {H9} w => by
            have := DGet.k (k := .inl (j : Int)) (w _ _ hCk)
            rw [g1] at this
            exact this
          have yg4 : YAtP p H4 g (Pl.C (F.co j)) := ⟨_, g2, pcol⟩
          have dr : K37.dlt (F.co j) m := bF.co j
          refine ⟨_, rfl, _, rfl, C, _, rfl, dget t02, ?_⟩
          refine highx_y (yg4.same t02) ((bd_C dr).mono (by omega) (by decide)) fun H9 t3 => ⟨_, _, rfl, rfl, ?_⟩
          have hM := hi_lt dr
          have hgr := hi_ge (F.co j)
          refine ⟨_, rfl, by omega, by omega, ?_⟩
          generalize hMM : (K37.hi (F.co j) + 1).toNat = M at hM
          have drM : K37.dlt (F.co j) M := by
            rw [← hMM]
            exact dlt_hi (F.co j)
          have t03 := t02.trans t3
          refine for_it walk_range0 (fun e σ' H' => ∃ (iq sq : Addr) (x11 : Option V), σ' = [some (.int p), some (.ref a), some (.ref b), some (.ref c), some (.ref fq), some (.ref pq), some (.ref C), x7, some (.int (j : Int)), some (.ref iq), some (.ref sq), x11] ∧ Same H9 H' ∧ YAtP p H' iq (Sx O (F.co j) e) ∧ YAtP p H' sq (O ^ e))
            ⟨I0, S0, x11, rfl, Same.refl _, yi.same t3, by rw [Lean.Grind.Semiring.pow_zero]; exact ys.same t3⟩ (fun _ _ _ _ _ => True.intro) ?_ ?_
          · rintro e xe σ' H10' H10 he ⟨iq, sq, x11', rfl, s10, yi10, ys10⟩ ⟨rfl, rfl⟩
            have t10 := t03.trans s10
            have yb10 := hB.same (s0.trans t10)
            have eO : O ^ e * O = O ^ (e + 1) := (Lean.Grind.Semiring.pow_succ _ _).symm
            have fewS := (wt_pow wO e).few hk
            have fewO := wO.few hk
            have fewSO : (e + 1) * (1 + 1) ≤ 3000 := by omega
            have lastIn : ∀ (iq' : Addr) (H11 : Hp), Same H10 H11 → YAtP p H11 iq' (Sx O (F.co j) (e + 1)) → ∀ (q' : VK), (∀ H12 q, Same H11 H12 → YAtP p H12 q (O ^ (e + 1)) → q' (.ref q) H12) →
                Wr spProduct [.int p, .ref sq, .ref b] H11 q' E0 := by
              intro iq' H11 w1 w2 q' w3
              refine product_n hp (ys10.same w1) (yb10.same w1) fewS fewO fewSO fun H12 q12 s12 n12 y12 => w3 _ _ s12 ?_
              rw [eO] at y12
              exact y12
            refine ⟨_, rfl, by show 2 ≤ sizeLine; decide, fun c1 hc1 => ?_⟩
            have u1 := same_upd_new (o := .tup [.int (e : Int), .int 0]) hc1
            have hp1' : PairAt (upd H10 c1 (.tup [.int (e : Int), .int 0])) c1 (e, 0) := upd_same
            generalize upd H10 c1 (.tup [.int (e : Int), .int 0]) = H11 at u1 hp1' ⊢
            have t11 := t10.trans u1
            have gg := g2
            refine ⟨_, rfl, _, rfl, C, _, rfl, dget t11, ?_⟩
            have dg1 := dget_book (q := (e, 0)) (.inl (t11 _ _ g2)) hp1'
            refine ⟨g, _, rfl, dg1, _, rfl, ?_⟩
            have ecf : cf (Pl.C (F.co j)) (e, 0) = (F.co j).co e := by rw [cf_C, if_pos rfl]
            cases hlk : lk (col j ts) (e, 0) with
            | none =>
              refine iteF ?_
              have z0 : (F.co j).co e = 0 := by
                rw [← ecf]
                exact pcol.lk_none.mp hlk
              have eS : Sx O (F.co j) (e + 1) = Sx O (F.co j) e := by
                rw [Sx_succ, z0, show K37.kap (0 : Fq p) = 0 from K37.kap_hom.zero]
                grind
              refine ⟨_, rfl, _, rfl, _, rfl, ?_⟩
              refine lastIn iq H11 u1 (by rw [eS]; exact yi10.same u1) _ fun H12 q12 s12 y12 => ?_
              exact ⟨iq, q12, _, rfl, s10.trans (u1.trans s12), by rw [eS]; exact yi10.same (u1.trans s12), y12⟩
            | some z =>
              refine iteT ?_
              have zc : (F.co j).co e = red z := by
                rw [← ecf, pcol.co, hlk]
                rfl
              refine ⟨_, rfl, _, rfl, _, rfl, _, rfl, _, rfl, C, _, rfl, dget t11, _, rfl, by show 2 ≤ sizeLine; decide, fun c2 hc2 => ?_⟩
              have u2 := same_upd_new (o := .tup [.int (e : Int), .int 0]) hc2
              have dg2 := dget_book (q := (e, 0)) (.inl (u2 _ _ (t11 _ _ g2))) (show PairAt (upd H11 c2 (.tup [.int (e : Int), .int 0])) c2 (e, 0) from upd_same)
              rw [hlk] at dg2
              refine ⟨g, _, rfl, dg2, ?_⟩
              have u12 := u1.trans u2
              have bS : Sm (Sx O (F.co j) e) := (Sx_und hk wO (F.co j) e).bd.mono (by omega) (by
                have := Nat.mul_le_mul_left k (show e ≤ m by omega)
                omega)
              have bO : Sm (O ^ e) := (((wt_pow wO e).und (E := e + 1) hk (by omega)).bd).mono (by omega) (by
                have := Nat.mul_le_mul_left k (show e + 1 ≤ m by omega)
                omega)
              refine added_y hp (yi10.same u12) (ys10.same u12) bS bO fun H12 q12 s12 n12 y12 => ?_
              rw [← zc, ← Sx_succ] at y12
              refine ⟨_, rfl, _, rfl, _, rfl, ?_⟩
              refine lastIn q12 H12 (u12.trans s12) y12 _ fun H13 q13 s13 y13 => ?_
              exact ⟨q12, q13, _, rfl, s10.trans (u12.trans (s12.trans s13)), y12.same s13, y13⟩
          · rintro σ' H10 ⟨iq, sq, x11', rfl, s10, yi10, ys10⟩
            rw [Sx_all drM] at yi10
            have t10 := t03.trans s10
            have t6 : Same H6 H10 := t1.trans (t2.trans (t3.trans s10))
            refine ⟨_, rfl, _, rfl, _, rfl, _, rfl, _, rfl, ?_⟩
            have uU := putx_und hk wO dr
            have mm : m * m * 1 ≤ 3000 := by
              have := Nat.mul_le_mul hm hm
              omega
            refine product_n hp yi10 (yp.same t6) (uU.few hk) fewP mm fun H11 q11 s11 n11 y11 => ?_
            have bI : Sm (K37.putx O (F.co j) * K37.Ly ^ j) := (uU.bd.mul (bd_Lyp j)).mono (by omega) (by omega)
            refine plus_y hp (yf.same (t6.trans s11)) y11 (bT j (by omega)) bI fun H12 q12 s12 n12 y12 => ?_
            rw [← Tx_succ] at y12
            refine ⟨_, rfl, _, rfl, _, rfl, ?_⟩
            have t12 := t6.trans (s11.trans s12)
            refine product_n hp (yp.same t12) (yc6.same t12) fewP fewL (by decide) fun H13 q13 s13 n13 y13 => ?_
            rw [eL] at y13
            have n12' : H q12 = none := by
              cases w : H q12 with
              | none => rfl
              | some o =>
                rw [s11 _ _ (t6 _ _ (s6 _ _ (s0 _ _ w)))] at n12
                cases n12
            exact ⟨q12, q13, _, _, _, _, _, rfl, s6.trans (t12.trans s13), n12', y12.same s13, y13⟩
      · rintro σ' H6 ⟨fq, pq, x7, x8, x9, x10, x11, rfl, s6, nfq, yf, yp⟩
        rw [Tx_all dFN] at yf
        exact ⟨_, rfl, fin _ fq (s0.trans s6) nfq yf⟩
end
end L2.K37R
end W20
section W21
set_option autoImplicit false
set_option linter.all false
set_option maxRecDepth 100000
namespace L2.K37R
open PySem PySem.Spec PyProof.Rows C8
open K37 (S2 Pl)

/-- a turn of the plane -/
inductive Tn where
  | non : Tn
  | swap : Tn
  | slide (k : Nat) : Tn
  | back (k : Nat) : Tn
noncomputable def act {p : Nat} [NeZero p] : Tn → S2 (Fq p) → S2 (Fq p)
  | .non, F => F
  | .swap, F => K37.put K37.Ly K37.Lx F
  | .slide k, F => K37.put (K37.Lx + K37.Ly ^ k) K37.Ly F
  | .back k, F => K37.put (K37.Lx - K37.Ly ^ k) K37.Ly F
def Tn.about : Tn → Tn
  | .non => .non
  | .swap => .swap
  | .slide k => .back k
  | .back k => .slide k
theorem about_act {p : Nat} [NeZero p] (t : Tn) (F : S2 (Fq p)) : act t.about (act t F) = F := by
  cases t with
  | non => rfl
  | swap => exact K37.swap_swap F
  | slide k => exact K37.slide_back k F
  | back k => exact K37.back_slide k F
/-- a turn as a value -/
def TnAt (K : PySem.W.Frag) (H : Hp) (v : V) : Tn → Prop
  | .non => v = .non
  | .swap => ∃ a, v = .ref a ∧ SqT K H a [.str "swap"]
  | .slide k => ∃ a, v = .ref a ∧ SqT K H a [.str "slide", .int (k : Int)]
  | .back k => ∃ a, v = .ref a ∧ SqT K H a [.str "back", .int (k : Int)]
theorem sqT_same {K : PySem.W.Frag} {H H' : Hp} {a : Addr} {xs : List V} (s : Same H H') (h : SqT K H a xs) : SqT K H' a xs := h.imp (fun r => r.imp (fun e => s _ _ e) fun ⟨o, e⟩ => ⟨o, s _ _ e⟩) id
theorem TnAt.same {K : PySem.W.Frag} {H H' : Hp} {v : V} {t : Tn} (s : Same H H') (h : TnAt K H v t) : TnAt K H' v t := by
  cases t with
  | non => exact h
  | swap => exact let ⟨a, e, q⟩ := h; ⟨a, e, sqT_same s q⟩
  | slide k => exact let ⟨a, e, q⟩ := h; ⟨a, e, sqT_same s q⟩
  | back k => exact let ⟨a, e, q⟩ := h; ⟨a, e, sqT_same s q⟩
section
variable {X : Cx}
theorem op_eqDK {K : PySem.W.Frag} (hu : X.A.units + 64 < cLine) (hK : X.K = K := by rfl) : OpR X (compareOp .Eq) (rEqD K) := by
  subst hK
  exact op_eqD hu
end
theorem dp1 {K : PySem.W.Frag} {H : Hp} {a : Addr} {z : Str} (h : SqT K H a [.str z]) : Dp K H (.ref a) (.tuple [.str z]) := .tup h (.cons (.str z) .nil)
theorem dp2 {K : PySem.W.Frag} {H : Hp} {a : Addr} {z : Str} {k : Int} (h : SqT K H a [.str z, .int k]) : Dp K H (.ref a) (.tuple [.str z, .int k]) := .tup h (.cons (.str z) (.cons (.int k) .nil))
section
variable {p : Nat} [NeZero p]
theorem tm_Lx : tm (p := p) (1, 0) 1 = K37.Lx := cf_ext fun r => by
  rw [cf_tm]
  unfold K37.Lx
  rw [cf_C]
  by_cases h : r = (1, 0)
  · rw [if_pos h, h, if_pos rfl, K37.co_mo, if_pos rfl]
  · rw [if_neg h]
    by_cases h2 : r.2 = 0
    · rw [if_pos h2, K37.co_mo, if_neg (fun z => h (Prod.ext z h2))]
    · rw [if_neg h2]
theorem tm_Ly (k : Nat) : tm (p := p) (0, k) 1 = K37.Ly ^ k := cf_ext fun r => by
  rw [cf_tm, K37.Ly_pow]
  unfold cf
  rw [K37.co_mo]
  by_cases h : r = (0, k)
  · rw [if_pos h, h, if_pos rfl]
    rfl
  · rw [if_neg h]
    by_cases h2 : r.2 = k
    · rw [if_pos h2, show (1 : RX p) = Pl.C 1 from rfl, Pl.co_C, if_neg (fun z => h (Prod.ext z h2))]
    · rw [if_neg h2, Pl.co_zero]
theorem wt_x (k : Nat) : Wt k 1 (K37.Lx : S2 (Fq p)) := fun q hq => by
  rw [← tm_Lx, cf_tm] at hq
  by_cases h : q = (1, 0)
  · rw [h]
    rfl
  · rw [if_neg h] at hq
    exact absurd rfl hq
theorem wt_y (k : Nat) : Wt k 1 (K37.Ly ^ k : S2 (Fq p)) := fun q hq => by
  rw [← tm_Ly, cf_tm] at hq
  by_cases h : q = (0, k)
  · rw [h]
    show k * 0 + k = k * 1
    omega
  · rw [if_neg h] at hq
    exact absurd rfl hq
theorem Wt.add {k e : Nat} {F G : S2 (Fq p)} (h : Wt k e F) (g : Wt k e G) : Wt k e (F + G) := fun q hq => (supp_add hq).elim (h q) (g q)
theorem Wt.sub {k e : Nat} {F G : S2 (Fq p)} (h : Wt k e F) (g : Wt k e G) : Wt k e (F - G) := fun q hq => (supp_sub hq).elim (h q) (g q)
theorem cf_swap (F : S2 (Fq p)) (q : Nat × Nat) : cf (K37.put K37.Ly K37.Lx F) q = cf F (q.2, q.1) := K37.swap_co F q.1 q.2
theorem Bk.swap {ts : List Tm} {F : S2 (Fq p)} (h : Bk p ts F) : Bk p (ts.map fun t => ((t.1.2, t.1.1), t.2)) (K37.put K37.Ly K37.Lx F) :=
  h.map (fun t => ((t.1.2, t.1.1), t.2)) (fun q => (q.2, q.1)) (fun _ => rfl) (fun a b e => by
    have := Prod.mk.inj e
    exact Prod.ext this.2 this.1) (fun q => cf_swap F _) fun r hr => ⟨(r.2, r.1), rfl⟩
theorem plain_iff (F : S2 (Fq p)) : (F ≠ 0 ∧ K37.hi (partZ F (K37.hi F)) = 0) ↔ (F ≠ 0 ∧ K37.hi (F.co (K37.dg F)) = 0) := by
  refine and_congr_right fun h => ?_
  rw [K37.hi_ne h]
  unfold partZ
  rw [if_pos (by omega)]
  rfl
end
/-- the highest part is a number -/
def Plain {p : Nat} [NeZero p] (F : S2 (Fq p)) : Prop := F ≠ 0 ∧ K37.hi (F.co (K37.dg F)) = 0

section
variable {P : Program} {w : World} {K : PySem.W.Frag} {mg : Str → Option Value} {base : Heap}
abbrev sPlain : Stmt := top 36
def spPlain : Sp := fun vs H Q _ => ∃ (p : Nat) (_ : NeZero p) (a : Addr) (F : S2 (Fq p)), vs = [.ref a] ∧ YAtP p H a F ∧ Sm F ∧ ∀ H' c, Same H H' → (c = true ↔ Plain F) → Q (.bl c) H'
theorem scPlain : FnScope ["book"] ["book"] (defScope sPlain) := ⟨rfl, rfl, rfl, by decide +kernel, rfl, by decide +kernel, by decide +kernel⟩
theorem ok_plain {f : Addr} {fd : FuncData} (F : FnP K "plain" sPlain f fd) (cH : Cal P w K mg base 1 "highest" (Wr spHighest) []) (cP : Cal P w K mg base 1 "part_at" (Wr spPart) []) : FnOk P w K mg base CX0 2 f fd ["book"] (Wr spPlain) := by
  refine FnOk.imp (sp := spPlain) ?_ fun _ _ _ _ h => un_wr h
  refine okP F scPlain (fun vs H Q E h => ?_) (fun cdv A outer s H vs Q E hr h => ?_)
  · obtain ⟨p, ne, a, F, rfl, _⟩ := h
    rfl
  · obtain ⟨p, ne, a, F, rfl, hA, sF, k⟩ := h
    have nd := scPlain.nd
    have hu1 := Nat.lt_of_succ_lt (hu_of hr)
    refine ⟨_, pss_one (ps_ret (pe_and (pe_cmpR (op_neE hu1) (pv 0) pe_dnewT (nomark _)) (pe_one (pe_cmpR op_eq (pe_c cH hr (by decide) (by rfl) (pa_cons (pe_c cP hr (by decide) (by rfl) (pa_cons (pv 0) (pa_cons (pe_c cH hr (by decide) (by rfl) (pa_cons (pv 0) (pa_cons pe_int pa_nil))) pa_nil))) (pa_cons pe_int pa_nil))) pe_int (nomark _))))), ?_⟩
    obtain ⟨ts, hAt, kA⟩ := id hA
    refine ⟨_, rfl, fun e he => ?_⟩
    have se := same_upd_new (o := .dT []) he
    refine ⟨a, e, ts, rfl, rfl, se _ _ hAt, upd_same, _, rfl, ?_⟩
    by_cases h0 : ts = []
    · rw [decide_eq_true h0]
      refine iteF (k _ _ se ⟨(fun z => nomatch z), fun z => absurd (kA.eq_nil.mp h0) z.1⟩)
    · have F0 : F ≠ 0 := fun z => h0 (kA.eq_nil.mpr z)
      rw [decide_eq_false h0]
      refine iteT ⟨_, rfl, _, rfl, ?_⟩
      refine highy_y (hA.same se) sF fun H2 s2 => ?_
      refine part_y ((hA.same se).same s2) sF fun H3 q3 s3 n3 y3 => ?_
      have sP : Sm (Pl.C (partZ F (K37.hi F))) := by
        refine smC (n := 64) ?_ (Nat.le_refl _)
        unfold partZ
        split
        · exact sF.co _
        · exact K37.dlt.zero _
      refine highx_y y3 sP fun H4 s4 => ?_
      refine ⟨rfl, ?_⟩
      refine k _ _ (se.trans (s2.trans (s3.trans s4))) ?_
      rw [dec_int]
      show _ ↔ (F ≠ 0 ∧ _)
      rw [← plain_iff, decide_eq_true_iff]
      exact ⟨fun z => ⟨F0, z⟩, fun z => z.2⟩

abbrev sAbout : Stmt := top 35
def spAbout (K : PySem.W.Frag) : Sp := fun vs H Q _ => ∃ (v : V) (t : Tn), vs = [v] ∧ TnAt K H v t ∧ t ≠ .non ∧ ∀ H' v', Same H H' → TnAt K H' v' t.about → Q v' H'
theorem scAbout : FnScope ["turn"] ["turn"] (defScope sAbout) := ⟨rfl, rfl, rfl, by decide +kernel, rfl, by decide +kernel, by decide +kernel⟩
theorem eqv_ss : PyData.eqv (.tuple [.str "swap"]) (.tuple [.str "swap"]) = true := SeqAt.eqv_refl _ (by decide +kernel)
theorem eqv_sk (z : Str) (k : Int) : PyData.eqv (.tuple [.str z, .int k]) (.tuple [.str "swap"]) = false := by
  simp [PyData.eqv, PyData.eqvAll]
theorem sh1 (z : Str) (h : PyData.strOk z = true) : SeqAt.shaped (.tuple [.str z]) = true := by
  simp [SeqAt.shaped, PyData.canLay0, PyData.canLayAll0, PyData.depth, PyData.depthAll, h]
theorem sh2 (z : Str) (k : Int) (h : PyData.strOk z = true) : SeqAt.shaped (.tuple [.str z, .int k]) = true := by
  simp [SeqAt.shaped, PyData.canLay0, PyData.canLayAll0, PyData.depth, PyData.depthAll, h]
theorem ok_about {f : Addr} {fd : FuncData} (F : FnP K "about" sAbout f fd) : FnOk P w K mg base CX0 1 f fd ["turn"] (Wr (spAbout K)) := by
  refine FnOk.imp (sp := spAbout K) ?_ fun _ _ _ _ h => un_wr h
  refine okP F scAbout (fun vs H Q E h => ?_) (fun cdv A outer s H vs Q E hr h => ?_)
  · obtain ⟨v, t, rfl, _⟩ := h
    rfl
  · obtain ⟨v, t, rfl, ht, h0, k⟩ := h
    have nd := scAbout.nd
    refine ⟨_, pss_cons (ps_if (pt_cmpR (op_eqDK (K := K) hr.units) (pv 0) (pe_tup (pa_cons pe_str pa_nil)) (nomark _)) (pss_one (ps_ret (pv 0))) pss_nil)
      (pss_one (ps_ret (pe_tup (pa_cons (pe_ifExp (pt_cmpR op_eq (pe_it (K := K) (pv 0) pe_int) pe_str (nomark _)) pe_str pe_str) (pa_cons (pe_it (K := K) (pv 0) pe_int) pa_nil))))), ?_⟩
    cases t with
    | non => exact absurd rfl h0
    | swap =>
      obtain ⟨a, rfl, hq⟩ := ht
      refine ⟨_, rfl, by show 1 ≤ sizeLine; decide, fun c hc => ?_⟩
      have sc := same_upd_new (o := .tup [.str "swap"]) hc
      refine ⟨_, _, dp1 (sqT_same sc hq), dp1 (SqT.of upd_same), sh1 _ (by decide +kernel), sh1 _ (by decide +kernel), _, rfl, ?_⟩
      rw [eqv_ss]
      exact iteT ⟨_, rfl, k _ _ sc ⟨a, rfl, sqT_same sc hq⟩⟩
    | slide n =>
      obtain ⟨a, rfl, hq⟩ := ht
      refine ⟨_, rfl, by show 1 ≤ sizeLine; decide, fun c hc => ?_⟩
      have sc := same_upd_new (o := .tup [.str "swap"]) hc
      have hq' := sqT_same sc hq
      refine ⟨_, _, dp2 hq', dp1 (SqT.of upd_same), sh2 _ _ (by decide +kernel), sh1 _ (by decide +kernel), _, rfl, ?_⟩
      rw [eqv_sk]
      refine iteF ⟨_, rfl, a, _, _, _, rfl, rfl, hq', at0, rfl, _, rfl, ?_⟩
      rw [decide_eq_true rfl]
      refine iteT ⟨_, rfl, a, _, _, _, rfl, rfl, hq', at1, by show 2 ≤ sizeLine; decide, fun q hq2 => ?_⟩
      exact k _ _ (sc.trans (same_upd_new hq2)) ⟨q, rfl, SqT.of upd_same⟩
    | back n =>
      obtain ⟨a, rfl, hq⟩ := ht
      refine ⟨_, rfl, by show 1 ≤ sizeLine; decide, fun c hc => ?_⟩
      have sc := same_upd_new (o := .tup [.str "swap"]) hc
      have hq' := sqT_same sc hq
      refine ⟨_, _, dp2 hq', dp1 (SqT.of upd_same), sh2 _ _ (by decide +kernel), sh1 _ (by decide +kernel), _, rfl, ?_⟩
      rw [eqv_sk]
      refine iteF ⟨_, rfl, a, _, _, _, rfl, rfl, hq', at0, rfl, _, rfl, ?_⟩
      rw [decide_eq_false (fun z => absurd (V.str.inj z) (by decide +kernel))]
      refine iteF ⟨_, rfl, a, _, _, _, rfl, rfl, hq', at1, by show 2 ≤ sizeLine; decide, fun q hq2 => ?_⟩
      exact k _ _ (sc.trans (same_upd_new hq2)) ⟨q, rfl, SqT.of upd_same⟩

abbrev sTurnBook : Stmt := top 34
/-- a turn that this book can bear -/
def Okt : Tn → Nat → Nat → Prop
  | .non, _, _ => False
  | .swap, m, n => m ≤ 256 ∧ n ≤ 64
  | .slide k, m, n => (1 ≤ k ∧ k ≤ 250) ∧ m ≤ 47 ∧ k * m + n ≤ 255
  | .back k, m, n => (1 ≤ k ∧ k ≤ 250) ∧ m ≤ 47 ∧ k * m + n ≤ 255
def spTurnBook (K : PySem.W.Frag) : Sp := fun vs H Q _ => ∃ (p : Nat) (_ : NeZero p) (a : Addr) (v : V) (t : Tn) (F : S2 (Fq p)) (m n : Nat), vs = [.int p, .ref a, v] ∧ Pr p ∧ YAtP p H a F ∧ TnAt K H v t ∧ Okt t m n ∧ Sm F ∧ Bd F m n ∧
  ∀ H' q, Same H H' → H q = none → YAtP p H' q (act t F) → Q (.ref q) H'
theorem scTurnBook : FnScope ["prime", "book", "turn", "number", "pair"] ["prime", "book", "turn"] (defScope sTurnBook) := ⟨rfl, rfl, rfl, by decide +kernel, rfl, by decide +kernel, by decide +kernel⟩
theorem putIn_y {p : Nat} [NeZero p] {H : Hp} {a b c : Addr} {F O : S2 (Fq p)} {k m n : Nat} {Q : VK} {E : XK} (hp : Pr p) (hA : YAtP p H a F) (hB : YAtP p H b O) (hC : YAtP p H c K37.Ly) (hk : 1 ≤ k) (wO : Wt k 1 O) (bF : Bd F m n) (hm : m ≤ 47) (hkm : k * m + n ≤ 255)
    (fin : ∀ H' q, Same H H' → H q = none → YAtP p H' q (K37.put O K37.Ly F) → Q (.ref q) H') : Wr spPutIn [.int p, .ref a, .ref b, .ref c] H Q E := wr ⟨p, ‹_›, a, b, c, F, O, k, m, n, rfl, hp, hA, hB, hC, hk, wO, bF, hm, hkm, fin⟩
theorem ok_turnBook {f : Addr} {fd : FuncData} (F : FnP K "turn_book" sTurnBook f fd) (cA : Cal P w K mg base 1 "added" (Wr spAdded) []) (cP : Cal P w K mg base 2 "put_in" (Wr spPutIn) []) : FnOk P w K mg base CX0 3 f fd ["prime", "book", "turn"] (Wr (spTurnBook K)) := by
  refine FnOk.imp (sp := spTurnBook K) ?_ fun _ _ _ _ h => un_wr h
  refine okP F scTurnBook (fun vs H Q E h => ?_) (fun cdv A outer s H vs Q E hr h => ?_)
  · obtain ⟨p, ne, a, v, t, F, m, n, rfl, _⟩ := h
    rfl
  · obtain ⟨p, ne, a, v, t, F, m, n, rfl, hp, hA, ht, ok, sF, bF, fin⟩ := h
    have nd := scTurnBook.nd
    have hu := hu_of hr
    have hu1 := Nat.lt_of_succ_lt hu
    refine ⟨_, pss_cons (ps_if (pt_cmpR (op_eqDK (K := K) hr.units) (pv 2) (pe_tup (pa_cons pe_str pa_nil)) (nomark _)) (pss_one (ps_ret (pe_lock (pe_dcT (own := [("pair", 4)]) (g := gName 4) (tt := tYes) hu1 rfl nd (pi_keys (pv 1)) (blkOk_by (N := ["prime", "book", "turn", "number", "pair"]) (sc := defScope sTurnBook) (by decide +kernel))
          (fun _ _ _ _ _ => pg_name (i := 4) nd rfl (Or.inl rfl)) (fun _ _ _ _ _ => pts_nil) (fun _ _ _ _ _ => pe_tup (pa_cons (pe_it (K := K) (pv 4) pe_int) (pa_cons (pe_it (K := K) (pv 4) pe_int) pa_nil))) (fun _ _ _ _ _ => pe_dget hu (pv 1) (pv 4) (fun _ _ => rfl)))))) pss_nil)
      (pss_cons (ps_set (i := 3) nd rfl (.inl rfl) (pe_ifExp (pt_cmpR op_eq (pe_it (K := K) (pv 2) pe_int) pe_str (nomark _)) pe_int (pe_un un_neg pe_int)))
      (pss_one (ps_ret (pe_c cP hr (by decide) (by rfl) (pa_cons (pv 0) (pa_cons (pv 1) (pa_cons (pe_c cA hr (by decide) (by rfl) (pa_cons (pv 0) (pa_cons (pe_dispT hu1 (pe_tup (pa_cons pe_int (pa_cons pe_int pa_nil))) pe_int)
        (pa_cons (pe_dispT hu1 (pe_tup (pa_cons pe_int (pa_cons (pe_it (K := K) (pv 2) pe_int) pa_nil))) pe_int) (pa_cons (pv 3) pa_nil))))) (pa_cons (pe_dispT hu1 (pe_tup (pa_cons pe_int (pa_cons pe_int pa_nil))) pe_int) pa_nil)))))))), ?_⟩
    obtain ⟨hp1, hp7⟩ := pr17 hp
    obtain ⟨ts, hAt, kA⟩ := id hA
    have yx : ∀ {H' d}, At H' d [((1, 0), 1)] → YAtP p H' d K37.Lx := fun {H' d} h => ⟨_, h, by
      rw [← tm_Lx]
      exact Bk.one hp1 _⟩
    have yy : ∀ {H' d} (k : Nat), At H' d [((0, k), 1)] → YAtP p H' d (K37.Ly ^ k) := fun {H' d} k h => ⟨_, h, by
      rw [← tm_Ly]
      exact Bk.one hp1 _⟩
    have yy1 : ∀ {H' d}, At H' d [((0, 1), 1)] → YAtP p H' d K37.Ly := fun {H' d} h => by
      have := yy 1 h
      rw [Lean.Grind.Semiring.pow_one] at this
      exact this
    have go : ∀ (z : Str) (k : Nat) (num : Int) (O : S2 (Fq p)) (c : Addr) (H1 : Hp), Same H H1 → SqT K H1 c [.str z, .int (k : Int)] → (1 ≤ k ∧ k ≤ 250) → m ≤ 47 → k * m + n ≤ 255 → O = K37.Lx + K37.kap (red num) * K37.Ly ^ k → Wt k 1 O → (∀ H' q, Same H H' → H q = none → YAtP p H' q (K37.put O K37.Ly F) → Q (.ref q) H') →
        tRet (tCall (Wr spPutIn) [] E0 (tCons (tVar 0) (tCons (tVar 1) (tCons (tCall (Wr spAdded) [] E0 (tCons (tVar 0) (tCons (tDispT (tTup (tCons (tC (.int 1)) (tCons (tC (.int 0)) tNil))) (tC (.int 1))) (tCons (tDispT (tTup (tCons (tC (.int 0)) (tCons (tOp (rIxT K) (tVar 2) (tC (.int 1))) tNil))) (tC (.int 1))) (tCons (tVar 3) tNil)))))
          (tCons (tDispT (tTup (tCons (tC (.int 0)) (tCons (tC (.int 1)) tNil))) (tC (.int 1))) tNil))))) { nx := fun _ H' => Q .non H', rt := Q } [some (.int p), some (.ref a), some (.ref c), some (.int num), none] H1 := by
      intro z k num O c H1 s1 hq hk hm hkm eO wO fin
      refine ⟨_, rfl, _, rfl, _, rfl, ?_⟩
      refine disp_c 1 0 1 fun H2 d2 s2 n2 e2 => ?_
      have y2 := yx e2
      refine disp_y 0 k 1 (fun H3 Q3 s3 q3 => ⟨_, rfl, c, _, _, _, rfl, rfl, sqT_same (s2.trans s3) hq, at1, by show 2 ≤ sizeLine; decide, fun e he => q3 _ e (same_upd_new he) upd_same⟩) (fun H3 Q3 s3 q3 => q3 _ (Same.refl _)) fun H4 d4 s4 n4 e4 => ?_
      have y4 := yy k e4
      refine ⟨_, rfl, ?_⟩
      have b1 : Sm (K37.Lx : S2 (Fq p)) := by
        have := ((wt_x (p := p) 1).und (E := 2) (by decide) (by decide)).bd
        exact this.mono (by decide) (by decide)
      have b2 : Sm (K37.Ly ^ k : S2 (Fq p)) := (bd_Lyp k).mono (by decide) (by omega)
      refine added_y hp (y2.same s4) y4 b1 b2 fun H5 d5 s5 n5 y5 => ?_
      rw [← eO] at y5
      refine disp_c 0 1 1 fun H6 d6 s6 n6 e6 => ?_
      have s16 := s1.trans (s2.trans (s4.trans (s5.trans s6)))
      exact putIn_y hp (hA.same s16) (y5.same s6) (yy1 e6) hk.1 wO bF hm hkm fun H7 q s7 hq7 y7 => fin H7 q (s16.trans s7) (by
        cases w : H q with
        | none => rfl
        | some o =>
          rw [s16 _ _ w] at hq7
          cases hq7) y7
    cases t with
    | non => exact ok.elim
    | swap =>
      obtain ⟨c, rfl, hq⟩ := ht
      refine ⟨_, rfl, by show 1 ≤ sizeLine; decide, fun d hd => ?_⟩
      have sc := same_upd_new (o := .tup [.str "swap"]) hd
      refine ⟨_, _, dp1 (sqT_same sc hq), dp1 (SqT.of upd_same), sh1 _ (by decide +kernel), sh1 _ (by decide +kernel), _, rfl, ?_⟩
      rw [eqv_ss]
      refine iteT ?_
      refine dcT_all (i := 4) (j := 1) (fun t => ((t.1.2, t.1.1), t.2)) rfl (sc _ _ hAt) (kA.line sF) kA.swap.nd ?_ ?_
      · intro t H2 b R htm hfr hoth hb go2
        refine ⟨_, rfl, b, _, _, _, rfl, rfl, SqT.of hb, at1, _, rfl, b, _, _, _, rfl, rfl, SqT.of hb, at0, by show 2 ≤ sizeLine; decide, fun e he => ?_⟩
        have se := same_upd_new (o := .tup [.int (t.1.2 : Int), .int (t.1.1 : Int)]) he
        exact ⟨_, rfl, _, rfl, a, _, rfl, dget_mem (rd_keep hfr se) (se _ _ hb) kA.nd htm, go2 _ e se upd_same⟩
      · intro H' q s' hq' hA'
        exact fin H' q (sc.trans s') (by
          cases w : H q with
          | none => rfl
          | some o =>
            rw [sc _ _ w] at hq'
            cases hq') ⟨_, hA', kA.swap⟩
    | slide k =>
      obtain ⟨c, rfl, hq⟩ := ht
      refine ⟨_, rfl, by show 1 ≤ sizeLine; decide, fun d hd => ?_⟩
      have sc := same_upd_new (o := .tup [.str "swap"]) hd
      refine ⟨_, _, dp2 (sqT_same sc hq), dp1 (SqT.of upd_same), sh2 _ _ (by decide +kernel), sh1 _ (by decide +kernel), _, rfl, ?_⟩
      rw [eqv_sk]
      refine iteF ⟨_, rfl, c, _, _, _, rfl, rfl, sqT_same sc hq, at0, rfl, _, rfl, ?_⟩
      rw [decide_eq_true rfl]
      refine iteT ?_
      refine go _ k 1 (K37.Lx + K37.Ly ^ k) c _ sc (sqT_same sc hq) ok.1 ok.2.1 ok.2.2 ?_ ((wt_x k).add (wt_y k)) fin
      rw [kap_one hp1]
      grind
    | back k =>
      obtain ⟨c, rfl, hq⟩ := ht
      refine ⟨_, rfl, by show 1 ≤ sizeLine; decide, fun d hd => ?_⟩
      have sc := same_upd_new (o := .tup [.str "swap"]) hd
      refine ⟨_, _, dp2 (sqT_same sc hq), dp1 (SqT.of upd_same), sh2 _ _ (by decide +kernel), sh1 _ (by decide +kernel), _, rfl, ?_⟩
      rw [eqv_sk]
      refine iteF ⟨_, rfl, c, _, _, _, rfl, rfl, sqT_same sc hq, at0, rfl, _, rfl, ?_⟩
      rw [decide_eq_false (fun z => absurd (V.str.inj z) (by decide +kernel))]
      refine iteF ⟨_, rfl, ?_⟩
      refine go _ k (-1) (K37.Lx - K37.Ly ^ k) c _ sc (sqT_same sc hq) ok.1 ok.2.1 ok.2.2 ?_ ((wt_x k).sub (wt_y k)) fin
      rw [kap_neg hp1]
      grind
end
end L2.K37R
end W21
section W22
set_option autoImplicit false
set_option linter.all false
set_option maxRecDepth 100000
namespace L2.K37R
open PySem PySem.Spec PyProof.Rows C8
open K37 (S2 Pl)

section
variable {p : Nat} [NeZero p]
theorem one_neX [K37.Fd (Fq p)] : (1 : RX p) ≠ 0 := fun z => by
  have k : (Pl.C (1 : Fq p)).co 0 = (0 : RX p).co 0 := congrArg (fun f : RX p => f.co 0) z
  rw [Pl.co_C0, Pl.co_zero] at k
  exact K37.Fd.nz (A := Fq p) k
theorem raised_yi {H : Hp} {a : Addr} {F : S2 (Fq p)} {Q : VK} {E : XK} {z : Int} {n : Nat} (hz : z = (n : Int)) (hA : YAtP p H a F) (sA : Sm F) (k : ∀ H' q, Same H H' → H q = none → YAtP p H' q (K37.mo 1 n * F) → Q (.ref q) H') : Wr spRaised [.ref a, .int z] H Q E := by
  subst hz
  exact raised_y hA sA k
theorem bd_lift {R : S2 (Fq p)} {w j k e : Nat} (h : Bd R w j) (he : k ≤ e) : Bd (K37.mo 1 k * Pl.C (R.co e)) w (k + 1) := fun q hq => by
  unfold cf at hq
  rw [K37.co_mo_mul] at hq
  by_cases h1 : q.2 < k
  · rw [if_pos h1, Pl.co_zero] at hq
    exact absurd rfl hq
  · rw [if_neg h1, Pl.co_C] at hq
    by_cases h2 : q.2 - k = 0
    · rw [if_pos h2] at hq
      refine ⟨?_, by omega⟩
      apply Nat.lt_of_not_le
      intro z
      have : (R.co e).co q.1 = 0 := (h.co e) _ z
      exact hq (by
        rw [show (1 : RX p) * R.co e = R.co e by grind]
        exact this)
    · rw [if_neg h2] at hq
      exact absurd (by rw [show (1 : RX p) * 0 = 0 by grind, Pl.co_zero]) hq
theorem few_lift {R : S2 (Fq p)} {w j k e : Nat} (h : Bd R w j) (he : k ≤ e) : Few (K37.mo 1 k * Pl.C (R.co e)) w := fun ts kt => by
  have key : ∀ q, cf (K37.mo 1 k * Pl.C (R.co e)) q ≠ 0 → q.1 < w ∧ q.2 = k := fun q hq => by
    have b := bd_lift h he q hq
    unfold cf at hq
    rw [K37.co_mo_mul] at hq
    by_cases h1 : q.2 < k
    · rw [if_pos h1, Pl.co_zero] at hq
      exact absurd rfl hq
    · omega
  have := len_by kt (fun q => (q.1, 0)) (m := w) (n := 1) (fun q r hq hr e => Prod.ext (Prod.mk.inj e).1 ((key q hq).2.trans (key r hr).2.symm)) (fun q hq => by
    have := (key q hq).1
    show q.1 < w ∧ 0 < 1
    omega)
  omega
theorem step_co {R G : S2 (Fq p)} {D e i : Nat} (hD : D ≤ e) (hG : G.co D = 1) (dG : K37.dlt G (D + 1)) (hR : ∀ i, e < i → R.co i = 0) (hi : e ≤ i) : (R - K37.mo 1 (e - D) * Pl.C (R.co e) * G).co i = 0 := by
  have e1 : K37.mo 1 (e - D) * Pl.C (R.co e) * G = K37.mo 1 (e - D) * (Pl.C (R.co e) * G) := by grind
  rw [Pl.co_sub, e1, K37.co_mo_mul, if_neg (by omega), Pl.co_Cmul]
  by_cases h : i = e
  · rw [h, show e - (e - D) = D by omega, hG]
    grind
  · rw [hR i (by omega), dG _ (by omega)]
    grind
end

section
variable {P : Program} {w : World} {K : PySem.W.Frag} {mg : Str → Option Value} {base : Heap}
abbrev sDivY : Stmt := top 45
def spDivY : Sp := fun vs H Q _ => ∃ (p : Nat) (_ : NeZero p) (a b : Addr) (F G : S2 (Fq p)) (D m n g : Nat), vs = [.int p, .ref a, .ref b] ∧ Pr p ∧ YAtP p H a F ∧ YAtP p H b G ∧ G.co D = 1 ∧ Bd G (g + 1) (D + 1) ∧ Bd F m n ∧ g < 64 ∧ D < 255 ∧ n ≤ 255 ∧ m + (n - D) * g ≤ 63 ∧ 63 * ((g + 1) * (D + 1)) ≤ 3000 ∧
  ∀ H' q a1 a2 U R, Same H H' → H' q = some (.tup [.ref a1, .ref a2]) → H a1 = none → H a2 = none → YAtP p H' a1 U → YAtP p H' a2 R → F = U * G + R → Bd R (m + (n - D) * g) D → Bd U (m + (n - D) * g) n → Q (.ref q) H'
theorem scDivY : FnScope ["prime", "one", "other", "quotient", "rest", "tall", "step", "lifted"] ["prime", "one", "other"] (defScope sDivY) := ⟨rfl, rfl, rfl, by decide +kernel, rfl, by decide +kernel, by decide +kernel⟩
theorem ok_divY {f : Addr} {fd : FuncData} (F : FnP K "divide_in_y" sDivY f fd) (B : Bare mg) (cH : Cal P w K mg base 1 "highest" (Wr spHighest) []) (cR : Cal P w K mg base 1 "raised" (Wr spRaised) []) (cPt : Cal P w K mg base 1 "part_at" (Wr spPart) []) (cA : Cal P w K mg base 1 "added" (Wr spAdded) []) (cA1 : Cal P w K mg base 1 "added" (Wr spAdded) [.int 1])
    (cP : Cal P w K mg base 1 "product" (Wr spProduct) []) : FnOk P w K mg base CX0 2 f fd ["prime", "one", "other"] (Wr spDivY) := by
  refine FnOk.imp (sp := spDivY) ?_ fun _ _ _ _ h => un_wr h
  refine okP F scDivY (fun vs H Q E h => ?_) (fun cdv A outer s H vs Q E hr h => ?_)
  · obtain ⟨p, ne, a, b, F, G, D, m, n, g, rfl, _⟩ := h
    rfl
  · obtain ⟨p, ne, a, b, F, G, D, m, n, g, rfl, hp, hA, hB, hG, bG, bF, hg, hD, hn, hW, hT, k⟩ := h
    have nd := scDivY.nd
    have hu2 : (A.deeper (envOfC "divide_in_y" (defScope sDivY) s.heap.objs.size f cdv)).units + 2 < cLine := Nat.lt_of_le_of_lt (Nat.add_le_add_left (by decide : 2 ≤ 64) _) hr.units
    refine ⟨_, pss_cons (ps_par3 (i := 3) (j := 4) (l := 5) rfl nd rfl rfl rfl (by decide) (by decide) (by decide) rfl rfl rfl
        (pa_cons pe_dnewT (pa_cons (pe_callTy (call_dictT hu2) (by rfl) B.dict (by decide +kernel) (pa_cons (pv 1) pa_nil)) (pa_cons (pe_c cH hr (by decide) (by rfl) (pa_cons (pv 2) (pa_cons pe_int pa_nil))) pa_nil))) (by rfl))
      (pss_cons (ps_while PassesOwn.never (pt_cmpR op_ge (pe_c cH hr (by decide) (by rfl) (pa_cons (pv 4) (pa_cons pe_int pa_nil))) (pv 5) (nomark _))
        (pss_cons (ps_set (i := 6) nd rfl (.inl rfl) (pe_op op_sub (pe_c cH hr (by decide) (by rfl) (pa_cons (pv 4) (pa_cons pe_int pa_nil))) (pv 5)))
        (pss_cons (ps_set (i := 7) nd rfl (.inl rfl) (pe_c cR hr (by decide) (by rfl) (pa_cons (pe_c cPt hr (by decide) (by rfl) (pa_cons (pv 4) (pa_cons (pe_op op_add (pv 6) (pv 5)) pa_nil))) (pa_cons (pv 6) pa_nil))))
        (pss_cons (ps_set (i := 3) nd rfl (.inl rfl) (pe_c cA1 hr (by decide) (by rfl) (pa_cons (pv 0) (pa_cons (pv 3) (pa_cons (pv 7) pa_nil)))))
        (pss_one (ps_set (i := 4) nd rfl (.inl rfl) (pe_c cA hr (by decide) (by rfl) (pa_cons (pv 0) (pa_cons (pv 4) (pa_cons (pe_c cP hr (by decide) (by rfl) (pa_cons (pv 0) (pa_cons (pv 7) (pa_cons (pv 2) pa_nil)))) (pa_cons (pe_un un_neg pe_int) pa_nil)))))))))))
      (pss_one (ps_ret (pe_tup (pa_cons (pv 3) (pa_cons (pv 4) pa_nil)))))), ?_⟩
    haveI := fd_of hp
    obtain ⟨ts, hAt, kA⟩ := id hA
    have m0 : m ≤ 63 := by
      have := Nat.zero_le ((n - D) * g)
      omega
    have sF : Sm F := bF.mono (by omega) (by omega)
    have sG : Sm G := bG.mono (by omega) (by omega)
    have isG : K37.IsD G D := ⟨by
      rw [hG]
      exact one_neX, fun i hi => bG.dlt i (by omega)⟩
    intro q0 hq0
    have s1 := same_upd_new (o := .dT []) hq0
    have y1 : YAtP p (upd H q0 (.dT [])) q0 0 := .nil upd_same
    generalize upd H q0 (.dT []) = H1 at s1 y1 ⊢
    refine ⟨_, rfl, a, _, rfl, .inl (s1 _ _ hAt), enc_keys ts, kA.hash sF, fun r0 hr0 => ?_⟩
    have s2 := same_upd_new (o := .dT (ts.map enc)) hr0
    have y2 : YAtP p (upd H1 r0 (.dT (ts.map enc))) r0 F := ⟨ts, upd_same, kA⟩
    have nr0 : H r0 = none := by
      cases w : H r0 with
      | none => rfl
      | some o =>
        rw [s1 _ _ w] at hr0
        cases hr0
    generalize upd H1 r0 (.dT (ts.map enc)) = H2 at s2 y2 ⊢
    have s02 := s1.trans s2
    refine ⟨_, rfl, ?_⟩
    refine highy_y (hB.same s02) sG fun H3 s3 => ⟨_, _, _, rfl, ?_⟩
    rw [K37.hi_ne isG.ne, isG.dg]
    have s03 := s02.trans s3
    refine while_m (fun j σ' H' => ∃ (x y : Option V) (u r : Addr) (U R : S2 (Fq p)), σ' = [some (.int p), some (.ref a), some (.ref b), some (.ref u), some (.ref r), some (.int (D : Int)), x, y] ∧ Same H H' ∧ H u = none ∧ H r = none ∧ YAtP p H' u U ∧ YAtP p H' r R ∧ F = U * G + R ∧ j ≤ n ∧ n - j ≤ n - D ∧
        Bd R (m + (n - j) * g) j ∧ Bd U (m + (n - D) * g) n) n ⟨none, none, q0, r0, 0, F, rfl, s03, hq0, nr0, (y1.same s2).same s3, y2.same s3, by grind, Nat.le_refl _, by omega, bF.mono (Nat.le_add_right _ _) (Nat.le_refl _), Bd.zero _ _⟩ ?_
    rintro j σ' H' ⟨x, y, u, r, U, R, rfl, s4, nu, nr, yu, yr, eF, hj, hjD, bR, bU⟩
    have wj : m + (n - j) * g ≤ m + (n - D) * g := Nat.add_le_add_left (Nat.mul_le_mul_right g hjD) m
    have sR : Sm R := bR.mono (by omega) (by omega)
    refine ⟨_, rfl, ?_⟩
    refine highy_y yr sR fun H5 s5 => ⟨_, rfl, _, _, rfl, rfl, _, rfl, ?_⟩
    by_cases hc : (D : Int) ≤ K37.hi R
    · rw [decide_eq_true hc]
      refine iteT ⟨_, fun σ'' H'' q => q, ?_⟩
      have R0 : R ≠ 0 := fun z => by
        rw [z, K37.hi_zero] at hc
        omega
      have isR := K37.dg_is R0
      rw [K37.hi_ne R0] at hc
      generalize he : K37.dg R = e at isR hc
      have hDe : D ≤ e := by omega
      have hej : e < j := isR.lt_of_dlt bR.dlt
      refine ⟨_, rfl, ?_⟩
      refine highy_y (yr.same s5) sR fun H6 s6 => ⟨_, rfl, _, _, rfl, rfl, ?_⟩
      rw [K37.hi_ne R0, he]
      have ed : (e : Int) - (D : Int) = ((e - D : Nat) : Int) := by omega
      have s46 := s5.trans s6
      refine ⟨_, rfl, _, rfl, _, rfl, _, _, rfl, rfl, ?_⟩
      refine part_y (yr.same s46) sR fun H7 q7 s7 n7 y7 => ⟨_, rfl, ?_⟩
      have ep : partZ R ((e : Int) - (D : Int) + (D : Int)) = R.co e := by
        unfold partZ
        rw [if_pos (by omega)]
        congr 1
        omega
      rw [ep] at y7
      refine raised_yi (n := e - D) ed y7 (smC (bR.co e) (by omega)) fun H8 q8 s8 n8 y8 => ?_
      have bL := bd_lift bR (show e - D ≤ e by omega)
      have fL := few_lift bR (show e - D ≤ e by omega)
      have sL : Sm (K37.mo 1 (e - D) * Pl.C (R.co e)) := bL.mono (by omega) (by omega)
      have s48 := s46.trans (s7.trans s8)
      refine ⟨_, rfl, _, rfl, _, rfl, ?_⟩
      refine plus_y hp (yu.same s48) y8 (bU.mono (by omega) (by omega)) sL fun H9 q9 s9 n9 y9 => ?_
      refine ⟨_, rfl, _, rfl, _, rfl, _, rfl, _, rfl, ?_⟩
      have s49 := s48.trans s9
      refine product_n hp (y8.same s9) (hB.same (s4.trans s49)) fL (few_bd bG) (Nat.le_trans (Nat.mul_le_mul_right _ (by omega)) hT) fun H10 q10 s10 n10 y10 => ⟨_, rfl, ?_⟩
      have wj2 : m + (n - j) * g + g ≤ m + (n - e) * g := by
        have := Nat.mul_le_mul_right g (show n - j + 1 ≤ n - e by omega)
        rw [Nat.add_mul] at this
        omega
      have wj3 : m + (n - e) * g ≤ m + (n - D) * g := Nat.add_le_add_left (Nat.mul_le_mul_right g (by omega)) m
      have bLG : Bd (K37.mo 1 (e - D) * Pl.C (R.co e) * G) (m + (n - e) * g) (e + 1) := (bL.mul bG).mono (by omega) (by omega)
      refine minus_y hp (yr.same (s49.trans s10)) y10 sR (bLG.mono (by omega) (by omega)) fun H11 q11 s11 n11 y11 => ?_
      have s411 := s49.trans (s10.trans s11)
      have fresh : ∀ {q : Addr} {H'' : Hp}, Same H' H'' → H'' q = none → H q = none := fun {q H''} ss nn => by
        cases w : H q with
        | none => rfl
        | some o =>
          rw [ss _ _ (s4 _ _ w)] at nn
          cases nn
      refine ⟨e, hej, _, _, q9, q11, U + K37.mo 1 (e - D) * Pl.C (R.co e), R - K37.mo 1 (e - D) * Pl.C (R.co e) * G, rfl, s4.trans s411, fresh s48 n9, fresh (s49.trans s10) n11, y9.same (s10.trans s11), y11, ?_, by omega, by omega, ?_, ?_⟩
      · rw [eF]
        grind
      · refine bd_of (fun i hi => step_co hDe hG bG.dlt isR.2 hi) fun i => ?_
        exact ((bR.mono (m' := m + (n - e) * g) (n' := j) (by omega) (Nat.le_refl _)).mono (Nat.le_refl _) (show j ≤ j + e + 1 by omega)).sub (bLG.mono (Nat.le_refl _) (show e + 1 ≤ j + e + 1 by omega)) |>.co i
      · exact bU.add (bL.mono (by omega) (by omega))
    · rw [decide_eq_false hc]
      refine iteF ?_
      refine ⟨_, rfl, _, rfl, by show 2 ≤ sizeLine; decide, fun q hq => ?_⟩
      have sq := same_upd_new (o := .tup [.ref u, .ref r]) hq
      refine k _ q u r U R ((s4.trans s5).trans sq) upd_same nu nr ((yu.same s5).same sq) ((yr.same s5).same sq) eF ?_ bU
      refine bd_of (K37.dlt_of_hi (by omega)) fun i => (bR.mono wj (Nat.le_refl _)).co i
end
end L2.K37R
end W22
section R5
set_option autoImplicit false
set_option linter.all false
set_option maxRecDepth 100000
namespace L2.K37R
open PySem PySem.Spec PyProof.Rows

section
variable {prog : Program} {w : World} {K : Type} [DecidableEq K] {knd : KeyKind prog w K} {A : Around} {E : Value → Shared → Prop} {s : Shared}
/-- a pair put under a hash -/
theorem put_hashed {d : Addr} {kd : List (K × Value)} {k : K} {y v : Value} {Q : Unit → Shared → Prop} (hy : knd.is k y = true) (hm : s.heap.DictOf knd d kd) (z : kd.length ≤ sizeLine)
    (fin : ∀ h', h'.DictOf knd d (stored kd k v) → Heap.SameBut d s.heap h' → Q () { s with heap := h' }) : wpAny (model prog w) A (dictPut d (knd.hash k) y v) Q E s := by
  obtain ⟨ob, fs, n, g1, g2, g3, g4, g5, g6⟩ := hm
  have hs : fs.size ≤ sizeLine := by
    have e1 := g5.length
    rw [Array.length_toList] at e1
    omega
  have look : (fs.findIdx? fun e => knd.is k e.key) = kd.findIdx? fun p => decide (p.1 = k) := by
    rw [← g5.findIdx k]
    cases fs
    simp
  unfold dictPut
  refine wpAny_bind (wpAny_dictFind_of hy g1 g3 g4 ?_)
  cases q : fs.findIdx? fun e => knd.is k e.key with
  | some i =>
    have q2 : (fs.toList.findIdx? fun e => knd.is k e.key) = some i := by
      rw [← q]
      cases fs
      simp
    have st : stored kd k v = kd.map fun p => if p.1 = k then (p.1, v) else p := if_pos (any_of_findIdx_some (look ▸ q))
    refine wpAny_updateDict g1 g3 (fin _ ⟨_, _, n, Heap.get?_update_self _ g1 (Obj.isFreed_of_dict (Obj.data_mapDict g3 _)), g2.mapDict _, Obj.data_mapDict g3 _, g4.modify _ _, ?_, ?_⟩ (Heap.SameBut.update ..))
    · rw [st, Array.toList_modify]
      exact g5.modify g6 q2 v
    · rw [st, keys_map_store]
      exact g6
  | none =>
    have new : k ∉ kd.map (·.1) := not_mem_of_findIdx_none (look ▸ q)
    have st : stored kd k v = kd ++ [(k, v)] := if_neg fun c => by
      rw [List.any_eq_true] at c
      obtain ⟨p, hp, e⟩ := c
      exact new (List.mem_map.mpr ⟨p, hp, of_decide_eq_true e⟩)
    refine wpAny_updateDictKeys (hz := hs) g1 g3 (fin _ ⟨_, _, n + 1, Heap.get?_update_self _ g1 (Obj.isFreed_of_dict (Obj.data_mapDictKeys g3 _)), g2.mapDictKeys _, Obj.data_mapDictKeys g3 _, g4.push hy _, ?_, ?_⟩ (Heap.SameBut.update ..))
    · rw [st, Array.toList_push]
      exact g5.append hy (knd.hash k) v
    · rw [st, List.map_append, List.nodup_append]
      refine ⟨g6, by simp, fun a ha b hb e => new ?_⟩
      rw [List.map_cons, List.map_nil, List.mem_singleton] at hb
      have hb : b = k := hb
      rw [← hb, ← e]
      exact ha
/-- a dict of one pair merged into another -/
theorem merge_one {d a : Addr} {kd : List (K × Value)} {k : K} {v : Value} {Q : Unit → Shared → Prop} (hr : ∀ k y, knd.is k y = true → ∀ b, y ≠ .ref b) (ha : (a == sysModules) = false) (hda : d ≠ a) (da : s.heap.DictOf knd a [(k, v)]) (dd : s.heap.DictOf knd d kd) (z : kd.length ≤ sizeLine)
    (fin : ∀ h', h'.DictOf knd d (stored kd k v) → Heap.SameBut d s.heap h' → Q () { s with heap := h' }) : wpAny (model prog w) A (mergeMapping d (.ref a) false) Q E s := by
  have ty := da.typeIs
  obtain ⟨oa, es, n, a1, a2, a3, a4, a5, a6⟩ := id da
  obtain ⟨od, fs, m, d1, d2, d3, d4, d5, d6⟩ := id dd
  obtain ⟨e0, rfl, e1, e2⟩ : ∃ e0, es = #[e0] ∧ knd.is k e0.key = true ∧ e0.val = v := by
    obtain ⟨l⟩ := es
    cases a5 with
    | cons h1 h2 t =>
      cases t
      exact ⟨_, rfl, h1, h2⟩
  have e3 : e0.hash = knd.hash k := by
    obtain ⟨k', h1, h2⟩ := a4 e0 (by simp)
    rw [h2, knd.inj _ _ _ h1 e1]
  unfold mergeMapping
  refine wpAny_bind (wpAny_isInstance ty PySem.F.sub_dict_dict ?_)
  simp only [if_true]
  refine wpAny_bind (wpAny_specialOf ty PySem.F.slot_dict_iter.lookup (wpAny_bind (wpAny_pure ?_)))
  simp only [beq_self_eq_true]
  rw [if_neg (by rw [ha]; exact Bool.false_ne_true)]
  refine wpAny_bind (wpAny_dictEntries d1 d3 ?_)
  have nr := hr k e0.key e1
  have body : wpAny (model prog w) A (forIn (#[e0] : Array DictEntry) PUnit.unit fun (e : DictEntry) (_ : PUnit) =>
      (match e.key with
        | Value.ref _ => do
          if (← specialOf e.key (Str.ofString "__eq__")) != some (.builtin "object.__eq__") then
            if ((#[e0] : Array DictEntry).filter (·.hash == e.hash)).size > 1 then unsupported "dict.merge-into-an-empty-dict:keys-of-equal-hash"
          pure (ForInStep.yield PUnit.unit)
        | _ => pure (ForInStep.yield PUnit.unit) : Sem (ForInStep PUnit))) (fun _ s' => s' = s) E s := by
    rw [← Array.forIn_toList]
    show wpAny _ _ (forIn [e0] _ _) _ _ _
    rw [List.forIn_cons]
    generalize e0.key = y at nr ⊢
    cases y with
    | ref b => exact absurd rfl (nr b)
    | _ => exact wpAny_bind (wpAny_pure (by
        show wpAny _ _ (forIn [] _ _) _ _ _
        rw [List.forIn_nil]
        exact wpAny_pure rfl))
  have tail : wpAny (model prog w) A (do
      let size := (← dictEntries a).size
      let epoch ← dictEpoch a
      for i in List.range size do
        let some e := (← dictEntries a)[i]? | unsupported "dict.changed-during-merge"
        holding [e.key, e.val] do
          if false then
            if (← dictFind d e.key e.hash).isSome then rule "dict.merge.duplicate-key"; raiseNew (← newExc (.type "KeyError") [e.key])
          dictPut d e.hash e.key e.val
        if (← dictEpoch a) != epoch then unsupported "dict.changed-during-merge") Q E s := by
    refine wpAny_bind (wpAny_dictEntries a1 a3 (wpAny_bind (wpAny_dictEpoch a1 a3 ?_)))
    show wpAny _ _ (forIn (List.range 1) _ _ >>= _) _ _ _
    refine wpAny_bind ?_
    rw [show List.range 1 = [0] from rfl, List.forIn_cons]
    refine wpAny_bind (wpAny_bind (wpAny_dictEntries a1 a3 ?_))
    show wpAny _ _ (holding [e0.key, e0.val] _ >>= _) _ _ _
    refine wpAny_bind (wpAny_holding ?_)
    simp only [Bool.false_eq_true, if_false]
    rw [show (#[e0] : Array DictEntry)[0] = e0 from rfl, e3, e2]
    refine put_hashed e1 dd z fun h' dd' sb => ?_
    have a1' : h'.get? a = some oa := (sb.2 a (fun z => hda z.symm)).trans a1
    refine wpAny_bind (wpAny_dictEpoch a1' a3 ?_)
    rw [if_neg (by simp)]
    refine wpAny_pure ?_
    show wpAny _ _ (forIn [] _ _) _ _ _
    rw [List.forIn_nil]
    exact wpAny_pure (wpAny_pure (fin h' dd' sb))
  by_cases hf : fs.isEmpty = true
  · rw [if_pos hf]
    refine wpAny_bind (wpAny_dictEntries a1 a3 (wpAny_bind (wpAny_mono body (fun _ s' e => ?_) fun _ _ e => e)))
    subst e
    exact tail
  · rw [if_neg hf]
    exact tail
end
/-- one {..} with two stars: the steps -/
def mrg (d : Addr) (v : Sem Value) : Sem Unit := do
  let m ← holding [.ref d] v
  (((holding [.ref d, m] (mergeMapping d m false)).onRaise fun x => do let _ ← holding [.ref d, m, x] (runValue (.builtin "proto.let_go" {}))).tryCatch fun e => do
    if ← isInstance e (.type "AttributeError") then
      rule "dict.display.not-a-mapping"; raiseError "TypeError" s!"'{← typeNameOf m}' object is not a mapping"
    throw e).onRaise fun x => do let _ ← holding [.ref d, x] (runValue (.builtin "proto.let_go" {}))
theorem display2 (t u : Sem Value) : dictDisplay [(none, t), (none, u)] = (do
    let d ← alloc { cls := .type "dict", data := .dict #[] }
    mrg d t
    mrg d u
    pure (.ref d)) := by
  unfold dictDisplay mrg
  simp only [List.forIn_cons, List.forIn_nil, List.isEmpty_nil, if_true, pure_bind, bind_assoc]
section
variable {X : Cx} {pos : Pos}
theorem mix_val {P : Program} {w : World} (k : Key) (y : Value) (h : (mixKind P w).is k y = true) (b : Addr) : y ≠ .ref b := fun e => by
  have := (mixKind P w).byValue k y h
  rw [e] at this
  exact Bool.false_ne_true this
theorem mrg_ok {pins : List (Addr × Obj)} {σ : St} {H : Hp} {s : Shared} {a : Expr} {ta : TE} {d : Addr} {R : VK} {Q : Unit → Shared → Prop} (ha : PE X a ta) (I : Inv X pins σ H s) (q : ta σ H R)
    (hR : ∀ x H1, R x H1 → ∃ c kd k v, x = .ref c ∧ H1 c = some (.dK [(k, v)]) ∧ H1 d = some (.dK kd) ∧ d ≠ c ∧ kd.length < sizeLine ∧ ∀ s', Inv X pins σ (upd H1 d (.dK (putK kd k v))) s' → Q () s') :
    wpAny (model X.prog X.w) X.A (mrg d (do let x ← eval a X.env; standAt pos; pure x)) Q X.xe s := by
  unfold mrg
  refine wpAny_bind (wpAny_holding (wpAny_bind (thn (ha.run pins s σ H _ I q) fun u s1 ⟨x, H1, I1, rx, q1⟩ => wpAny_bind (wpAny_standAt (wpAny_pure ?_)))))
  obtain ⟨c, kd, k, v, ex, hc, hd, dc, hz, fin⟩ := hR x H1 q1
  subst ex
  obtain rfl : u = Value.ref c := rx
  obtain ⟨zl, lo, vs, rel, dd⟩ := dk_of I1.hok hd
  obtain ⟨_, la, va, ra, da⟩ := dk_of I1.hok hc
  obtain ⟨u2, rfl, r2⟩ : ∃ u2, va = [(k, u2)] ∧ RelV v u2 := by
    cases ra with
    | @cons _ b _ _ h t =>
      cases t
      obtain ⟨b1, b2⟩ := b
      have e1 : k = b1 := h.1
      subst e1
      exact ⟨b2, rfl, h.2⟩
  have hv : vs.length ≤ sizeLine := by
    rw [← rel.length]
    exact zl
  refine wpAny_onRaise (wpAny_tryCatch (wpAny_onRaise (wpAny_holding (merge_one mix_val la dc da dd hv fun h' dd' sb => fin _ ?_))))
  have l2 : (putK kd k v).length ≤ sizeLine := by
    have := length_putK kd k v
    omega
  have he : ∃ o, h'.get? d = some o := let ⟨o, _, _, h, _⟩ := dd'; ⟨o, h⟩
  exact d_write (t' := s1.toks) I1 (by rw [hd]; exact True.intro) sb he (dk_new l2 lo (rel.put k r2) dd')
/-- {**a, **b}, one pair in each, under the same key -/
def tMrg2 (ta tb : TE) : TE := fun σ H Q => ∀ d, H d = none → ta σ (upd H d (.dK [])) fun x H1 => ∃ c k v, x = .ref c ∧ H1 c = some (.dK [(k, v)]) ∧ H1 d = some (.dK []) ∧ d ≠ c ∧
  tb σ (upd H1 d (.dK [(k, v)])) fun y H2 => ∃ e v2, y = .ref e ∧ H2 e = some (.dK [(k, v2)]) ∧ H2 d = some (.dK [(k, v)]) ∧ d ≠ e ∧ Q (.ref d) (upd H2 d (.dK [(k, v2)]))
theorem pe_star2 {a b : Expr} {ta tb : TE} (ha : PE X a ta) (hb : PE X b tb) : PE X (.Dict [none, none] [a, b] pos) (tMrg2 ta tb) := by
  refine ⟨fun pins s σ H Q I h => ?_⟩
  have hn := I.hok.fresh (Nat.le_refl s.heap.objs.size)
  have I1 := I.laid (a := s.heap.objs.size) (o := .dK []) (h' := s.heap.push { cls := .type "dict", data := .dict #[] }) (t' := s.toks) (fun _ _ q => Heap.get?_push_of_some _ q) (Nat.le_refl _) (dk_empty s.heap I.big)
  rw [arm_eval_Dict]
  refine wpAny_bind (wpAny_standAt ?_)
  show wpAny _ _ (dictDisplay [(none, do let x ← eval a X.env; standAt pos; pure x), (none, do let x ← eval b X.env; standAt pos; pure x)]) _ _ _
  rw [display2]
  refine wpAny_bind (wpAny_alloc (wpAny_bind (mrg_ok ha I1 (h _ hn) fun x H1 ⟨c, k, v, ex, hc, hd, dc, q⟩ => ⟨c, [], k, v, ex, hc, hd, dc, by show 0 < sizeLine; decide, fun s1 I2 => ?_⟩)))
  refine wpAny_bind (mrg_ok hb I2 q fun y H2 ⟨e, v2, ey, he, hd2, de, q2⟩ => ⟨e, [(k, v)], k, v2, ey, he, hd2, de, by show 1 < sizeLine; decide, fun s2 I3 => ?_⟩)
  have ep : putK [(k, v)] k v2 = [(k, v2)] := by simp [putK]
  rw [ep] at I3
  exact wpAny_pure ⟨.ref s.heap.objs.size, _, I3, rfl, q2⟩
end
end L2.K37R
end R5
section W23
set_option autoImplicit false
set_option linter.all false
set_option maxRecDepth 100000
namespace L2.K37R
open PySem PySem.Spec PyProof.Rows C8
open K37 (S2 Pl)

/-- a row: a poly, and by what the other entry went into it -/
def RowAt (p : Nat) [NeZero p] (H : Hp) (r : Addr) (R T : S2 (Fq p)) : Prop := ∃ b d c, H r = some (.tup [.ref b, .ref d]) ∧ YAtP p H b R ∧ H d = some (.dK [(.inl 0, .ref c)]) ∧ YAtP p H c T
theorem RowAt.same {p : Nat} [NeZero p] {H H' : Hp} {r : Addr} {R T : S2 (Fq p)} (s : Same H H') : RowAt p H r R T → RowAt p H' r R T
  | ⟨b, d, c, e, x, f, y⟩ => ⟨b, d, c, s _ _ e, x.same s, s _ _ f, y.same s⟩
theorem Off.dict {D c : Addr} {H H' : Hp} {kvs : List (Key × V)} (o : Off D H H') (e : H c = some (.dK kvs)) : H' c = some (.dK kvs) := by
  obtain ⟨⟨acc, h⟩, k⟩ := o
  exact k c _ (ne_of e h (fun z => nomatch z)) e
theorem YAtP.offD {p : Nat} [NeZero p] {H H' : Hp} {a D : Addr} {F : S2 (Fq p)} (o : Off D H H') : YAtP p H a F → YAtP p H' a F
  | ⟨ts, e, k⟩ => ⟨ts, o.book e, k⟩
theorem RowAt.off {p : Nat} [NeZero p] {H H' : Hp} {r D : Addr} {R T : S2 (Fq p)} (o : Off D H H') : RowAt p H r R T → RowAt p H' r R T
  | ⟨b, d, c, e, x, f, y⟩ => ⟨b, d, c, o.tup e, x.offD o, o.dict f, y.offD o⟩
section
variable {P : Program} {w : World} {K : PySem.W.Frag} {mg : Str → Option Value} {base : Heap}
abbrev sRowLess : Stmt := top 49
def spRowLess : Sp := fun vs H Q _ => ∃ (p : Nat) (_ : NeZero p) (a b c : Addr) (q : RX p) (R T R' T' : S2 (Fq p)) (u v x : Nat), vs = [.int p, .ref a, .ref b, .ref c] ∧ Pr p ∧ RowAt p H a R T ∧ YAtP p H b (Pl.C q) ∧ RowAt p H c R' T' ∧ Sm R ∧ Sm T ∧ Sm (Pl.C q * R') ∧ Sm (Pl.C q * T') ∧
  Few (Pl.C q) u ∧ Few R' v ∧ Few T' x ∧ u * v ≤ 3000 ∧ u * x ≤ 3000 ∧ ∀ H' r, Same H H' → RowAt p H' r (R - Pl.C q * R') (T - Pl.C q * T') → Q (.ref r) H'
theorem scRowLess : FnScope ["prime", "row", "factor", "other", "multiples", "spot", "more"] ["prime", "row", "factor", "other"] (defScope sRowLess) := ⟨rfl, rfl, rfl, by decide +kernel, rfl, by decide +kernel, by decide +kernel⟩
theorem ok_rowLess {f : Addr} {fd : FuncData} (F : FnP K "row_less" sRowLess f fd) (B : Bare mg) (cA : Cal P w K mg base 1 "added" (Wr spAdded) []) (cP : Cal P w K mg base 1 "product" (Wr spProduct) []) : FnOk P w K mg base CX0 2 f fd ["prime", "row", "factor", "other"] (Wr spRowLess) := by
  refine FnOk.imp (sp := spRowLess) ?_ fun _ _ _ _ h => un_wr h
  refine okP F scRowLess (fun vs H Q E h => ?_) (fun cdv A outer s H vs Q E hr h => ?_)
  · obtain ⟨p, ne, a, b, c, q, R, T, R', T', u, v, x, rfl, _⟩ := h
    rfl
  · obtain ⟨p, ne, a, b, c, q, R, T, R', T', u, v, x, rfl, hp, hA, hB, hC, sR, sT, sqR, sqT, fq, fR, fT, huv, hux, k⟩ := h
    have nd := scRowLess.nd
    have hu := hu_of hr
    refine ⟨_, pss_cons (ps_set (i := 4) nd rfl (.inl rfl) pe_dnewK)
      (pss_cons (ps_for PassesOwn.never rfl (pi_list (pe_callB (call_sortedDI rfl) (by rfl) B.sorted (by decide +kernel) (pa_cons (pe_star2 (pe_it (K := K) (pv 1) pe_int) (pe_it (K := K) (pv 3) pe_int)) pa_nil))) (pg_name (i := 5) nd rfl (.inl rfl))
        (pss_cons (ps_set (i := 6) nd rfl (.inl rfl) (pe_c cP hr (by decide) (by rfl) (pa_cons (pv 0) (pa_cons (pv 2) (pa_cons (pe_dget2 hu (pe_it (K := K) (pv 3) pe_int) (pv 5) pe_dnewT ⟨rfl, rfl, rfl, rfl⟩) pa_nil)))))
        (pss_one (ps_dput hu (pv 4) (pv 5) (pe_c cA hr (by decide) (by rfl) (pa_cons (pv 0) (pa_cons (pe_dget2 hu (pe_it (K := K) (pv 1) pe_int) (pv 5) pe_dnewT ⟨rfl, rfl, rfl, rfl⟩) (pa_cons (pv 6) (pa_cons (pe_un un_neg pe_int) pa_nil))))) rfl))))
      (pss_one (ps_ret (pe_tup (pa_cons (pe_c cA hr (by decide) (by rfl) (pa_cons (pv 0) (pa_cons (pe_it (K := K) (pv 1) pe_int) (pa_cons (pe_c cP hr (by decide) (by rfl) (pa_cons (pv 0) (pa_cons (pv 2) (pa_cons (pe_it (K := K) (pv 3) pe_int) pa_nil)))) (pa_cons (pe_un un_neg pe_int) pa_nil))))) (pa_cons (pv 4) pa_nil)))))), ?_⟩
    obtain ⟨b1, d1, c1, ha, yb1, hd1, yc1⟩ := hA
    obtain ⟨b2, d2, c2, hc, yb2, hd2, yc2⟩ := hC
    intro M hM
    have s1 := same_upd_new (o := .dK []) hM
    have hM1 : upd H M (.dK []) M = some (.dK []) := upd_same
    generalize upd H M (.dK []) = H1 at s1 hM1 ⊢
    intro U hU
    have s2 := same_upd_new (o := .dK []) hU
    have dc1 : U ≠ d1 := fun z => by
      rw [z, s1 _ _ hd1] at hU
      cases hU
    have dc2 : U ≠ d2 := fun z => by
      rw [z, s1 _ _ hd2] at hU
      cases hU
    have cc1 : U ≠ c := fun z => by
      rw [z, s1 _ _ hc] at hU
      cases hU
    refine ⟨_, rfl, a, _, _, _, rfl, rfl, SqT.of (s2 _ _ (s1 _ _ ha)), at1, d1, _, _, rfl, s2 _ _ (s1 _ _ hd1), upd_same, dc1, ?_⟩
    refine ⟨_, rfl, c, _, _, _, rfl, rfl, SqT.of (by rw [upd_ne cc1.symm]; exact s2 _ _ (s1 _ _ hc)), at1, d2, _, rfl, by rw [upd_ne dc2.symm]; exact s2 _ _ (s1 _ _ hd2), upd_same, dc2, ?_⟩
    have s3 : Same H1 (upd (upd (upd H1 U (.dK [])) U (.dK [(.inl 0, .ref c1)])) U (.dK [(.inl 0, .ref c2)])) := same_free (same_free s2 hU) hU
    have hU3 : upd (upd (upd H1 U (.dK [])) U (.dK [(.inl 0, .ref c1)])) U (.dK [(.inl 0, .ref c2)]) U = some (.dK [(.inl 0, .ref c2)]) := upd_same
    generalize upd (upd (upd H1 U (.dK [])) U (.dK [(.inl 0, .ref c1)])) U (.dK [(.inl 0, .ref c2)]) = H3 at s3 hU3 ⊢
    refine ⟨U, _, [0], rfl, .inl hU3, rfl, by decide, fun ys l perm srt hl => ?_⟩
    obtain rfl : ys = [0] := List.perm_singleton.mp perm
    have s4 := same_upd_new (o := .lst [.int 0]) hl
    have hl4 : upd H3 l (.lst [.int 0]) l = some (.lst [.int 0]) := upd_same
    refine ⟨l, rfl, ⟨_, SqL.of hl4⟩, ?_⟩
    have s14 := s3.trans s4
    have hM4 := s14 _ _ hM1
    have s04 := s1.trans s14
    refine for_it (walk_list (xs := [.int 0])) (fun n σ' H' => Same H H' ∧ ∃ x5 x6, σ' = [some (.int p), some (.ref a), some (.ref b), some (.ref c), some (.ref M), x5, x6] ∧ H' l = some (.lst [.int 0]) ∧ ((n = 0 ∧ H' M = some (.dK [])) ∨ (n = 1 ∧ ∃ m, H' M = some (.dK [(.inl 0, .ref m)]) ∧ YAtP p H' m (T - Pl.C q * T'))))
      ⟨s04, none, none, rfl, hl4, .inl ⟨rfl, hM4⟩⟩ (fun _ _ _ _ w => let ⟨_, _, _, _, w, _⟩ := w; SqL.of w) ?_ ?_
    · rintro n y σ' H5' H5 hn ⟨s5, x5, x6, rfl, hl5, hM5⟩ ⟨rfl, hy⟩
      have n0 : n = 0 := Nat.lt_one_iff.mp hn
      subst n0
      cases hy
      have hM5 : H5 M = some (.dK []) := hM5.elim (fun w => w.2) fun w => absurd w.1 (by decide)
      refine ⟨_, rfl, _, rfl, _, rfl, c, _, _, _, rfl, rfl, SqT.of (s5 _ _ hc), at1, d2, rfl, .inl ⟨_, .inl (s5 _ _ hd2)⟩, _, rfl, fun e he => ?_⟩
      have s6 := same_upd_new (o := .dT []) he
      refine ⟨_, DGet.k (k := .inl 0) (s6 _ _ (s5 _ _ hd2)), ?_⟩
      have s56 := s5.trans s6
      have hM6 := s6 _ _ hM5
      have hl6 := s6 _ _ hl5
      generalize upd H5 e (.dT []) = H6 at s6 s56 hM6 hl6 ⊢
      refine product_n hp (hB.same s56) (yc2.same s56) fq fT hux fun H7 q7 s7 n7 y7 => ?_
      have s57 := s56.trans s7
      refine ⟨_, rfl, _, rfl, a, _, _, _, rfl, rfl, SqT.of (s57 _ _ ha), at1, d1, rfl, .inl ⟨_, .inl (s57 _ _ hd1)⟩, _, rfl, fun e2 he2 => ?_⟩
      have s8 := same_upd_new (o := .dT []) he2
      refine ⟨_, DGet.k (k := .inl 0) (s8 _ _ (s57 _ _ hd1)), ?_⟩
      have s58 := s57.trans s8
      have y8 := y7.same s8
      have hM8 := s8 _ _ (s7 _ _ hM6)
      have hl8 := s8 _ _ (s7 _ _ hl6)
      generalize upd H7 e2 (.dT []) = H8 at s8 s58 y8 hM8 hl8 ⊢
      refine ⟨_, rfl, _, rfl, ?_⟩
      refine minus_y hp (yc1.same s58) y8 sT sqT fun H9 q9 s9 n9 y9 => ?_
      have hM9 := s9 _ _ hM8
      refine ⟨_, rfl, _, rfl, M, _, rfl, .inl ⟨[], .inl 0, hM9, rfl, by show 0 < sizeLine; decide, rfl⟩, ?_⟩
      refine ⟨same_free (s58.trans s9) hM, _, _, rfl, ?_, .inr ⟨rfl, q9, by rw [upd_same]; rfl, ?_⟩⟩
      · rw [upd_ne (ne_of (s9 _ _ hl8) hM9 (fun z => nomatch z))]
        exact s9 _ _ hl8
      · obtain ⟨ts, et, kt⟩ := y9
        exact ⟨ts, by
          show upd _ _ _ q9 = _
          rw [upd_ne (ne_of et hM9 (fun z => nomatch z))]
          exact et, kt⟩
    · rintro σ' H5 ⟨s5, x5, x6, rfl, hl5, hM5⟩
      obtain ⟨m, hM5, ym⟩ := (hM5.resolve_left fun w => absurd w.1 (by decide)).2
      refine ⟨_, rfl, _, rfl, a, _, _, _, rfl, rfl, SqT.of (s5 _ _ ha), at0, _, rfl, _, rfl, _, rfl, c, _, _, _, rfl, rfl, SqT.of (s5 _ _ hc), at0, ?_⟩
      refine product_n hp (hB.same s5) (yb2.same s5) fq fR huv fun H6 q6 s6 n6 y6 => ⟨_, rfl, ?_⟩
      refine minus_y hp (yb1.same (s5.trans s6)) y6 sR sqR fun H7 q7 s7 n7 y7 => ⟨_, rfl, by show 2 ≤ sizeLine; decide, fun r hr' => ?_⟩
      have s8 := same_upd_new (o := .tup [.ref q7, .ref M]) hr'
      have s68 := s6.trans (s7.trans s8)
      exact k _ r (s5.trans s68) ⟨q7, M, m, upd_same, y7.same s8, s68 _ _ hM5, ym.same s68⟩
end
end L2.K37R
end W23
section R6
set_option autoImplicit false
set_option linter.all false
set_option maxRecDepth 100000
namespace L2.K37R
open PySem PySem.Spec PyProof.Rows
section
variable {X : Cx} {K : PySem.W.Frag}
def rEqL (K : PySem.W.Frag) : R2 := fun x y H Q => ∃ a b xs, x = .ref a ∧ y = .ref b ∧ SqL K H a xs ∧ SqL K H b [] ∧ Q (.bl xs.isEmpty) H
def rNeL (K : PySem.W.Frag) : R2 := fun x y H Q => ∃ a b xs, x = .ref a ∧ y = .ref b ∧ SqL K H a xs ∧ SqL K H b [] ∧ Q (.bl (!xs.isEmpty)) H
/-- a list beside [] -/
theorem op_eqL (hu : X.A.units + 64 < cLine) (hK : X.K = K := by rfl) : OpR X (compareOp .Eq) (rEqL K) := by
  subst hK
  intro pins s σ H x y v u Q I rx ry h
  obtain ⟨a, b, xs, rfl, rfl, hA, hB, q⟩ := h
  cases xs with
  | nil =>
    refine op_eqD hu pins s σ H _ _ v u Q I rx ry ⟨.list [], .list [], .lst hA .nil, .lst hB .nil, rfl, rfl, ?_⟩
    rw [show PyData.eqv (.list []) (.list []) = true from SeqAt.eqv_refl _ rfl]
    exact q
  | cons z zs =>
    obtain rfl : v = Value.ref a := rx
    obtain rfl : u = Value.ref b := ry
    obtain ⟨i1, r1, p1, _⟩ := I.list hA
    obtain ⟨i2, r2, p2, _⟩ := I.list hB
    cases r2
    refine SeqAt.eq_list_lengthsAt p1.isList p2.isList ?_ (by omega) ⟨.bl false, H, I, rfl, q⟩
    have := r1.length
    rw [List.length_cons] at this
    simp only [List.size_toArray, List.length_nil, bne_iff_ne]
    omega
theorem op_neL (hu : X.A.units + 64 < cLine) (hK : X.K = K := by rfl) : OpR X (compareOp .NotEq) (rNeL K) := by
  subst hK
  intro pins s σ H x y v u Q I rx ry h
  obtain ⟨a, b, xs, rfl, rfl, hA, hB, q⟩ := h
  cases xs with
  | nil =>
    refine op_neD hu pins s σ H _ _ v u Q I rx ry ⟨.list [], .list [], .lst hA .nil, .lst hB .nil, rfl, rfl, ?_⟩
    rw [show PyData.eqv (.list []) (.list []) = true from SeqAt.eqv_refl _ rfl]
    exact q
  | cons z zs =>
    obtain rfl : v = Value.ref a := rx
    obtain rfl : u = Value.ref b := ry
    obtain ⟨i1, r1, p1, _⟩ := I.list hA
    obtain ⟨i2, r2, p2, _⟩ := I.list hB
    cases r2
    refine SeqAt.RcNeAt.lists_lengths p1.isList p2.isList ?_ (by omega) _ _ _ _ ⟨.bl true, H, I, rfl, q⟩
    have := r1.length
    rw [List.length_cons] at this
    simp only [List.size_toArray, List.length_nil, bne_iff_ne]
    omega
end
end L2.K37R
end R6
section W24
set_option autoImplicit false
set_option linter.all false
set_option maxRecDepth 100000
namespace L2.K37R
open PySem PySem.Spec PyProof.Rows C8
open K37 (S2 Pl)

section
variable {p : Nat} [NeZero p]
abbrev Rw (p : Nat) [NeZero p] := S2 (Fq p) × S2 (Fq p)
def VR (p : Nat) [NeZero p] (v : V) (H : Hp) (x : Rw p) : Prop := ∃ r, v = .ref r ∧ RowAt p H r x.1 x.2
def LR (p : Nat) [NeZero p] (H : Hp) (l : Addr) (xs : List (Rw p)) : Prop := ∃ vs, H l = some (.lst vs) ∧ Paired (fun v x => VR p v H x) vs xs
theorem VR.same {H H' : Hp} {v : V} {x : Rw p} (s : Same H H') (h : VR p v H x) : VR p v H' x := let ⟨r, e, k⟩ := h; ⟨r, e, k.same s⟩
theorem VR.off {H H' : Hp} {D : Addr} {v : V} {x : Rw p} (o : Off D H H') (h : VR p v H x) : VR p v H' x := let ⟨r, e, k⟩ := h; ⟨r, e, k.off o⟩
theorem LR.same {H H' : Hp} {l : Addr} {xs : List (Rw p)} (s : Same H H') (h : LR p H l xs) : LR p H' l xs := let ⟨vs, e, k⟩ := h; ⟨vs, s _ _ e, paired_imp (fun _ _ q => q.same s) k⟩
theorem LR.off {H H' : Hp} {l D : Addr} {xs : List (Rw p)} (o : Off D H H') (hl : l ≠ D) (h : LR p H l xs) : LR p H' l xs := let ⟨vs, e, k⟩ := h; ⟨vs, o.2 _ _ hl e, paired_imp (fun _ _ q => q.off o) k⟩
noncomputable def nz {A : Type} [Lean.Grind.CommRing A] (F : Pl A) : Bool := @decide (F ≠ 0) (Classical.propDecidable _)
theorem nz_iff {A : Type} [Lean.Grind.CommRing A] {F : Pl A} : nz F = true ↔ F ≠ 0 := by
  unfold nz
  exact @decide_eq_true_iff _ (Classical.propDecidable _)
theorem nz_not {A : Type} [Lean.Grind.CommRing A] {F : Pl A} : (!nz F) = true ↔ F = 0 := by
  by_cases h : F = 0
  · have n : nz F = false := by
      cases e : nz F with
      | true => exact absurd h (nz_iff.mp e)
      | false => rfl
    rw [n]
    exact ⟨fun _ => h, fun _ => rfl⟩
  · rw [nz_iff.mpr h]
    exact ⟨fun z => absurd z (by decide), fun z => absurd z h⟩
theorem range_getD {α : Type} (xs : List α) (d : α) : (List.range xs.length).map (fun i => xs.getD i d) = xs := List.ext_getElem (by simp) fun i h1 h2 => by simp [List.getD, List.getElem?_eq_getElem h2]
theorem filter_range {α : Type} (xs : List α) (d : α) (f : α → Bool) : ((List.range xs.length).filter (fun i => f (xs.getD i d))).map (fun i => xs.getD i d) = xs.filter f := by
  have e : xs.filter f = ((List.range xs.length).map (fun i => xs.getD i d)).filter f := by rw [range_getD]
  rw [e, List.filter_map]
  rfl
theorem lr_of {H : Hp} {D : Addr} {vs : List V} {xs : List (Rw p)} {d : Rw p} {f : Rw p → Bool} (e : H D = some (.lst vs)) (h : Paired (fun v i => VR p v H (xs.getD i d)) vs ((List.range xs.length).filter fun i => f (xs.getD i d))) : LR p H D (xs.filter f) :=
  ⟨vs, e, by
    have k := paired_mapr (fun i => xs.getD i d) (G := fun v x => VR p v H x) h
    rw [filter_range] at k
    exact k⟩
theorem partZ_nat (F : S2 (Fq p)) (k : Nat) : partZ F (k : Int) = F.co k := by
  unfold partZ
  rw [if_pos (by omega)]
  rfl
theorem quot_dlt2 [K37.Fd (Fq p)] {A B U R : RX p} {n : Nat} (e : A = U * B + R) (h0 : B ≠ 0) (dR : K37.dlt R (K37.dg B)) (dA : K37.dlt A n) : K37.dlt U (n - K37.dg B) := by
  by_cases u0 : U = 0
  · rw [u0]
    exact K37.dlt.zero _
  · have i1 := K37.dg_is u0
    have i3 := K37.IsD.mul i1 (K37.dg_is h0)
    have c : A.co (K37.dg U + K37.dg B) ≠ 0 := by
      rw [e, Pl.co_add, dR _ (by omega)]
      have := i3.1
      intro z
      exact this (by grind)
    have lt : K37.dg U + K37.dg B < n := Nat.lt_of_not_le fun z => c (dA _ z)
    exact i1.dlt.mono (by omega)
/-! spans -/
theorem sp_step (L x : S2 (Fq p)) (q : RX p) (o : List (S2 (Fq p))) : K37.SpEq (L :: x :: o) (L :: (x - Pl.C q * L) :: o) := by
  refine .of (fun a ha => ?_) fun a ha => ?_
  · rcases List.mem_cons.mp ha with e | ha
    · rw [e]
      exact K37.Sp.mem (by simp)
    · rcases List.mem_cons.mp ha with e | ha
      · rw [e]
        have h1 : K37.Sp (L :: (x - Pl.C q * L) :: o) (x - Pl.C q * L) := K37.Sp.mem (by simp)
        have h2 : K37.Sp (L :: (x - Pl.C q * L) :: o) (Pl.C q * L) := K37.Sp.smul q (K37.Sp.mem (by simp))
        have h3 := K37.Sp.add h1 h2
        rw [show x - Pl.C q * L + Pl.C q * L = x by grind] at h3
        exact h3
      · exact K37.Sp.mem (by simp [ha])
  · rcases List.mem_cons.mp ha with e | ha
    · rw [e]
      exact K37.Sp.mem (by simp)
    · rcases List.mem_cons.mp ha with e | ha
      · rw [e]
        exact K37.Sp.sub (K37.Sp.mem (by simp)) (K37.Sp.smul q (K37.Sp.mem (by simp)))
      · exact K37.Sp.mem (by simp [ha])
theorem sp_zero (o : List (S2 (Fq p))) : K37.SpEq (0 :: o) o := .of (fun a ha => by
  rcases List.mem_cons.mp ha with e | ha
  · rw [e]
    exact K37.Sp.zero _
  · exact K37.Sp.mem ha) fun a ha => K37.Sp.mem (List.mem_cons_of_mem _ ha)

/-- how long the while goes on -/
noncomputable def mu (k : Nat) (xs : List (Rw p)) : Nat := (xs.map fun x => K37.dg (x.1.co k) + 1).sum
theorem mu_le {k d : Nat} : ∀ {xs : List (Rw p)}, (∀ x, x ∈ xs → K37.dg (x.1.co k) + 1 ≤ d) → mu k xs ≤ xs.length * d
  | [], _ => Nat.zero_le _
  | x :: xs, h => by
    have h1 := h x (by simp)
    have h2 := mu_le (xs := xs) fun y hy => h y (by simp [hy])
    unfold mu at h2 ⊢
    rw [List.map_cons, List.sum_cons, List.length_cons, Nat.add_mul]
    omega
theorem mu_ge {k d : Nat} : ∀ {xs : List (Rw p)}, (∀ x, x ∈ xs → d ≤ K37.dg (x.1.co k) + 1) → xs.length * d ≤ mu k xs
  | [], _ => by
    rw [List.length_nil, Nat.zero_mul]
    exact Nat.zero_le _
  | x :: xs, h => by
    have h1 := h x (by simp)
    have h2 := mu_ge (xs := xs) fun y hy => h y (by simp [hy])
    unfold mu at h2 ⊢
    rw [List.map_cons, List.sum_cons, List.length_cons, Nat.add_mul]
    omega
theorem mu_cons (k : Nat) (x : Rw p) (xs : List (Rw p)) : mu k (x :: xs) = K37.dg (x.1.co k) + 1 + mu k xs := by
  unfold mu
  rw [List.map_cons, List.sum_cons]
theorem mu_perm {k : Nat} {xs ys : List (Rw p)} (h : xs.Perm ys) : mu k xs = mu k ys := (h.map _).sum_nat

/-- the while's state -/
structure PInv (p : Nat) [NeZero p] (k D δ τ δ' τ' : Nat) (xs bs cs : List (Rw p)) : Prop where
  sp : K37.SpEq (xs.map (·.1)) (bs.map (·.1) ++ cs.map (·.1))
  len : bs.length + cs.length ≤ xs.length
  bz : ∀ x, x ∈ bs → x.1.co k ≠ 0
  bb : ∀ x, x ∈ bs → Bd x.1 (δ' + 1) (k + 1) ∧ Bd x.2 (τ' + 1) D
  tm : bs.length ≤ 1 ∨ (2 ≤ xs.length ∧ ∃ tm, tm ≤ δ ∧ ∀ x, x ∈ bs → K37.dlt (x.1.co k) (tm + 1) ∧ Bd x.1 (2 * δ - tm + 1) (k + 1) ∧ Bd x.2 (τ + δ - tm + 1) D)
  cb : ∀ x, x ∈ cs → Bd x.1 (δ' + 1) k ∧ Bd x.2 (τ' + 1) D
theorem bd_down {F : S2 (Fq p)} {m k : Nat} (h : Bd F m (k + 1)) (z : F.co k = 0) : Bd F m k := fun q hq => by
  have := h q hq
  refine ⟨this.1, ?_⟩
  apply Nat.lt_of_le_of_ne (by omega)
  intro e
  apply hq
  show (F.co q.2).co q.1 = 0
  rw [e, z, Pl.co_zero]
theorem PInv.start {k D δ τ δ' τ' : Nat} {xs : List (Rw p)} (hx : ∀ x, x ∈ xs → Bd x.1 (δ + 1) (k + 1) ∧ Bd x.2 (τ + 1) D) (h1 : δ ≤ δ') (h2 : τ ≤ τ') : PInv p k D δ τ δ' τ' xs (xs.filter fun x => nz (x.1.co k)) (xs.filter fun x => !nz (x.1.co k)) where
  sp := by
    rw [← List.map_append]
    refine .perm fun a => ?_
    simp only [List.mem_map, List.mem_append, List.mem_filter]
    constructor
    · rintro ⟨x, hx, e⟩
      cases h : nz (x.1.co k) with
      | true => exact ⟨x, .inl ⟨hx, h⟩, e⟩
      | false => exact ⟨x, .inr ⟨hx, by simp [h]⟩, e⟩
    · rintro ⟨x, hx | hx, e⟩
      · exact ⟨x, hx.1, e⟩
      · exact ⟨x, hx.1, e⟩
  len := by
    have := (List.filter_append_perm (fun x : Rw p => nz (x.1.co k)) xs).length_eq
    rw [List.length_append] at this
    exact Nat.le_of_eq this
  bz x hx' := nz_iff.mp (List.mem_filter.mp hx').2
  bb x hx' := by
    obtain ⟨a, b⟩ := hx x (List.mem_filter.mp hx').1
    exact ⟨a.mono (by omega) (Nat.le_refl _), b.mono (by omega) (Nat.le_refl _)⟩
  tm := by
    by_cases h : xs.length ≤ 1
    · exact .inl (Nat.le_trans (List.length_filter_le _ _) h)
    · refine .inr ⟨by omega, δ, Nat.le_refl _, fun x hx' => ?_⟩
      obtain ⟨a, b⟩ := hx x (List.mem_filter.mp hx').1
      exact ⟨a.co k, a.mono (by omega) (Nat.le_refl _), b.mono (by omega) (Nat.le_refl _)⟩
  cb x hx' := by
    obtain ⟨a, b⟩ := hx x (List.mem_filter.mp hx').1
    have z := nz_not.mp (List.mem_filter.mp hx').2
    exact ⟨(bd_down a z).mono (by omega) (Nat.le_refl _), b.mono (by omega) (Nat.le_refl _)⟩
/-- the for's state -/
structure JInv (p : Nat) [NeZero p] (k D δ τ δ' τ' d : Nat) (L : Rw p) (bs cs0 : List (Rw p)) (n : Nat) (ms cs : List (Rw p)) : Prop where
  sp : K37.SpEq (L.1 :: (bs.map (·.1) ++ cs0.map (·.1))) (L.1 :: ((bs.drop n).map (·.1) ++ (ms.map (·.1) ++ cs.map (·.1))))
  len : ms.length + cs.length ≤ n + cs0.length
  le : ms.length ≤ n
  mz : ∀ x, x ∈ ms → x.1.co k ≠ 0 ∧ K37.dlt (x.1.co k) d ∧ Bd x.1 (2 * δ - d + 1) (k + 1) ∧ Bd x.2 (τ + δ - d + 1) D
  cb : ∀ x, x ∈ cs → Bd x.1 (δ' + 1) k ∧ Bd x.2 (τ' + 1) D
theorem JInv.start {k D δ τ δ' τ' d : Nat} {L : Rw p} {bs cs0 : List (Rw p)} (h : ∀ x, x ∈ cs0 → Bd x.1 (δ' + 1) k ∧ Bd x.2 (τ' + 1) D) : JInv p k D δ τ δ' τ' d L bs cs0 0 [] cs0 :=
  ⟨.refl _, by simp, Nat.le_refl _, (fun x hx => nomatch hx), h⟩
theorem JInv.turn {k D δ τ δ' τ' d n : Nat} {L x y : Rw p} {bs cs0 ms cs : List (Rw p)} {q : RX p} (h : JInv p k D δ τ δ' τ' d L bs cs0 n ms cs) (hx : bs[n]? = some x) (hy : y.1 = x.1 - Pl.C q * L.1) (dy : K37.dlt (y.1.co k) d)
    (b1 : Bd y.1 (2 * δ - d + 1) (k + 1)) (b2 : Bd y.2 (τ + δ - d + 1) D) (e1 : 2 * δ ≤ δ') (e2 : τ + δ ≤ τ') :
    (y.1.co k ≠ 0 → JInv p k D δ τ δ' τ' d L bs cs0 (n + 1) (ms ++ [y]) cs) ∧ (y.1.co k = 0 → JInv p k D δ τ δ' τ' d L bs cs0 (n + 1) ms (cs ++ [y])) ∧ (y.1 = 0 → JInv p k D δ τ δ' τ' d L bs cs0 (n + 1) ms cs) := by
  have hn := (List.getElem?_eq_some_iff.mp hx).1
  have dr : bs.drop n = x :: bs.drop (n + 1) := by
    rw [List.drop_eq_getElem_cons hn, (List.getElem?_eq_some_iff.mp hx).2]
  have st : K37.SpEq (L.1 :: (bs.map (·.1) ++ cs0.map (·.1))) (L.1 :: y.1 :: ((bs.drop (n + 1)).map (·.1) ++ (ms.map (·.1) ++ cs.map (·.1)))) := by
    refine h.sp.trans ?_
    rw [dr, List.map_cons, List.cons_append, hy]
    exact sp_step _ _ q _
  refine ⟨fun hz => ⟨st.trans (.perm fun a => ?_), ?_, ?_, fun z hz' => ?_, h.cb⟩, fun hz => ⟨st.trans (.perm fun a => ?_), ?_, Nat.le_succ_of_le h.le, h.mz, fun z hz' => ?_⟩, fun hz => ⟨st.trans ?_, ?_, Nat.le_succ_of_le h.le, h.mz, h.cb⟩⟩
  · simp only [List.mem_cons, List.mem_append, List.map_append, List.map_cons, List.map_nil, List.not_mem_nil, or_false]
    grind
  · have := h.len
    rw [List.length_append, List.length_singleton]
    omega
  · have := h.le
    rw [List.length_append, List.length_singleton]
    omega
  · rcases List.mem_append.mp hz' with m | m
    · exact h.mz z m
    · rw [List.mem_singleton.mp m]
      exact ⟨hz, dy, b1, b2⟩
  · simp only [List.mem_cons, List.mem_append, List.map_append, List.map_cons, List.map_nil, List.not_mem_nil, or_false]
    grind
  · have := h.len
    rw [List.length_append, List.length_singleton]
    omega
  · rcases List.mem_append.mp hz' with m | m
    · exact h.cb z m
    · rw [List.mem_singleton.mp m]
      exact ⟨(bd_down b1 hz).mono (by omega) (Nat.le_refl _), b2.mono (by omega) (Nat.le_refl _)⟩
  · rw [hz]
    refine (K37.SpEq.perm (k := 0 :: L.1 :: ((bs.drop (n + 1)).map (·.1) ++ (ms.map (·.1) ++ cs.map (·.1)))) fun a => ?_).trans (sp_zero _)
    simp only [List.mem_cons]
    grind
  · have := h.len
    omega
theorem JInv.stop {k D δ τ δ' τ' tm : Nat} {L : Rw p} {xs bs bs' cs0 ms cs : List (Rw p)} (P0 : PInv p k D δ τ δ' τ' xs bs cs0) (h2 : 2 ≤ bs.length) (h2x : 2 ≤ xs.length) (hp : bs.Perm (L :: bs')) (ht : tm ≤ δ)
    (hb : ∀ x, x ∈ bs → K37.dlt (x.1.co k) (tm + 1) ∧ Bd x.1 (2 * δ - tm + 1) (k + 1) ∧ Bd x.2 (τ + δ - tm + 1) D) (hL : ∀ x, x ∈ bs → K37.dg (L.1.co k) ≤ K37.dg (x.1.co k))
    (e1 : 2 * δ ≤ δ') (e2 : τ + δ ≤ τ') (h : JInv p k D δ τ δ' τ' (K37.dg (L.1.co k)) L bs' cs0 bs'.length ms cs) : PInv p k D δ τ δ' τ' xs (L :: ms) cs ∧ mu k (L :: ms) < mu k bs := by
  have mL : L ∈ bs := hp.mem_iff.mpr (by simp)
  obtain ⟨l1, l2, l3⟩ := hb L mL
  have zL := P0.bz L mL
  have isL := K37.dg_is zL
  have dm : K37.dg (L.1.co k) < tm + 1 := isL.lt_of_dlt l1
  have len' : bs.length = bs'.length + 1 := by
    rw [hp.length_eq, List.length_cons]
  refine ⟨⟨?_, ?_, ?_, ?_, .inr ⟨h2x, K37.dg (L.1.co k), by omega, ?_⟩, h.cb⟩, ?_⟩
  · refine P0.sp.trans ((K37.SpEq.perm fun a => ?_).trans (h.sp.trans (.perm fun a => ?_)))
    · have e : ∀ a, a ∈ bs.map (·.1) ↔ a ∈ (L :: bs').map (·.1) := fun a => (hp.map (·.1)).mem_iff
      simp only [List.mem_append, e, List.map_cons, List.mem_cons]
      grind
    · rw [List.drop_length]
      simp only [List.map_nil, List.nil_append, List.map_cons, List.cons_append]
  · have := h.len
    have := P0.len
    rw [List.length_cons]
    omega
  · intro x hx
    rcases List.mem_cons.mp hx with e | hx
    · rw [e]
      exact zL
    · exact (h.mz x hx).1
  · intro x hx
    rcases List.mem_cons.mp hx with e | hx
    · rw [e]
      exact P0.bb L mL
    · obtain ⟨_, _, a, b⟩ := h.mz x hx
      exact ⟨a.mono (by omega) (Nat.le_refl _), b.mono (by omega) (Nat.le_refl _)⟩
  · intro x hx
    rcases List.mem_cons.mp hx with e | hx
    · rw [e]
      exact ⟨isL.dlt, l2.mono (by omega) (Nat.le_refl _), l3.mono (by omega) (Nat.le_refl _)⟩
    · obtain ⟨_, a, b, c⟩ := h.mz x hx
      exact ⟨a.mono (by omega), b, c⟩
  · rw [mu_perm hp, mu_cons, mu_cons]
    have a := mu_le (k := k) (d := K37.dg (L.1.co k)) (xs := ms) fun x hx => by
      obtain ⟨z, y, _⟩ := h.mz x hx
      have := (K37.dg_is z).lt_of_dlt y
      omega
    have b := mu_ge (k := k) (d := K37.dg (L.1.co k) + 1) (xs := bs') fun x hx => by
      have := hL x (hp.mem_iff.mpr (by simp [hx]))
      omega
    have c := Nat.mul_le_mul_right (K37.dg (L.1.co k)) h.le
    rw [Nat.mul_add, Nat.mul_one] at b
    omega
end
end L2.K37R
end W24
section W25
set_option autoImplicit false
set_option linter.all false
set_option maxRecDepth 100000
namespace L2.K37R
open PySem PySem.Spec PyProof.Rows C8
open K37 (S2 Pl)
theorem paired_eq {α : Type} {g : α → V} {us : List V} {m : List α} (h : Paired (fun v i => v = g i) us m) : us = m.map g := by
  induction h with
  | nil => rfl
  | cons a b ih => rw [List.map_cons, ← ih, a]
theorem paired_erase {α β : Type} {G : α → β → Prop} : ∀ (j : Nat) {l : List α} {m : List β}, Paired G l m → Paired G (l.eraseIdx j) (m.eraseIdx j)
  | _, _, _, .nil => .nil
  | 0, _, _, .cons a b => b
  | j + 1, _, _, .cons a b => .cons a (paired_erase j b)
theorem erase_perm {α : Type} {x : α} : ∀ (j : Nat) {l : List α}, l[j]? = some x → l.Perm (x :: l.eraseIdx j)
  | _, [], h => by
    rw [List.getElem?_nil] at h
    cases h
  | 0, y :: l, h => by
    rw [List.getElem?_cons_zero] at h
    rw [Option.some.inj h]
    exact .refl _
  | j + 1, y :: l, h => by
    rw [List.getElem?_cons_succ] at h
    exact ((erase_perm j h).cons y).trans (.swap x y _)
theorem filter_all (n : Nat) : ((List.range n).filter fun _ => true) = List.range n := List.filter_eq_self.mpr fun _ _ => rfl
theorem map_getD {α β : Type} (g : α → β) (xs : List α) (d : α) : (List.range xs.length).map (fun i => g (xs.getD i d)) = xs.map g := by
  have e := congrArg (List.map g) (range_getD xs d)
  rw [List.map_map] at e
  exact e
theorem first_at {α : Type} [DecidableEq α] {m : α} : ∀ {ns : List α}, m ∈ ns → ∃ j, ns[j]? = some m ∧ ∀ (i : Nat) (z : α), i < j → ns[i]? = some z → z ≠ m
  | x :: ns, h => by
    by_cases e : x = m
    · exact ⟨0, by rw [List.getElem?_cons_zero, e], fun i z hi => absurd hi (Nat.not_lt_zero i)⟩
    · obtain ⟨j, hj, hf⟩ := first_at (ns := ns) ((List.mem_cons.mp h).resolve_left fun z => e z.symm)
      refine ⟨j + 1, by rw [List.getElem?_cons_succ]; exact hj, fun i z hi hz => ?_⟩
      cases i with
      | zero =>
        rw [List.getElem?_cons_zero] at hz
        rw [← Option.some.inj hz]
        exact e
      | succ i =>
        rw [List.getElem?_cons_succ] at hz
        exact hf i z (by omega) hz
section
variable {P : Program} {w : World} {K : PySem.W.Frag} {mg : Str → Option Value} {base : Heap}
abbrev sPivotAt : Stmt := top 50
abbrev nPivotAt : List Str := ["prime", "line", "power", "row", "busy", "rest", "degrees", "least", "more", "factor", "lower"]
def spPivotAt : Sp := fun vs H Q _ => ∃ (p : Nat) (_ : NeZero p) (l : Addr) (k D δ τ δ' τ' : Nat) (xs : List (Rw p)), vs = [.int p, .ref l, .int k] ∧ Pr p ∧ LR p H l xs ∧ (∀ x, x ∈ xs → Bd x.1 (δ + 1) (k + 1) ∧ Bd x.2 (τ + 1) D) ∧ xs.length ≤ 100 ∧ δ ≤ δ' ∧ τ ≤ τ' ∧ δ' ≤ 62 ∧ τ' ≤ 62 ∧ D ≤ 255 ∧ k < 255 ∧
  (2 ≤ xs.length → 2 * δ ≤ δ' ∧ τ + δ ≤ τ' ∧ (δ + 1) * ((δ' + 1) * (k + 1)) ≤ 3000 ∧ (δ + 1) * ((τ' + 1) * D) ≤ 3000) ∧
  ∀ H' q v l2 ws rest, Same H H' → H' q = some (.tup [v, .ref l2]) → LR p H' l2 rest → (ws = [] ∧ v = .non ∨ ∃ x, ws = [x] ∧ VR p v H' x ∧ x.1.co k ≠ 0 ∧ Bd x.1 (δ' + 1) (k + 1) ∧ Bd x.2 (τ' + 1) D) → K37.SpEq (xs.map (·.1)) (ws.map (·.1) ++ rest.map (·.1)) → ws.length + rest.length ≤ xs.length →
    (∀ x, x ∈ rest → Bd x.1 (δ' + 1) k ∧ Bd x.2 (τ' + 1) D) → (ws = [] → ∀ x, x ∈ rest → Bd x.1 (δ + 1) k ∧ Bd x.2 (τ + 1) D) → Q (.ref q) H'
theorem scPivotAt : FnScope nPivotAt ["prime", "line", "power"] (defScope sPivotAt) := ⟨rfl, rfl, rfl, by decide +kernel, rfl, by decide +kernel, by decide +kernel⟩
theorem ok_pivotAt {f : Addr} {fd : FuncData} (F : FnP K "pivot_at" sPivotAt f fd) (B : Bare mg) (cH : Cal P w K mg base 1 "highest" (Wr spHighest) []) (cPt : Cal P w K mg base 1 "part_at" (Wr spPart) []) (cD : Cal P w K mg base 2 "divide" (Wr spDivide) []) (cR : Cal P w K mg base 2 "row_less" (Wr spRowLess) []) :
    FnOk P w K mg base CX0 3 f fd ["prime", "line", "power"] (Wr spPivotAt) := by
  refine FnOk.imp (sp := spPivotAt) ?_ fun _ _ _ _ h => un_wr h
  refine okP F scPivotAt (fun vs H Q E h => ?_) (fun cdv A outer s H vs Q E hr h => ?_)
  · obtain ⟨p, ne, l, k, D, δ, τ, δ', τ', xs, rfl, _⟩ := h
    rfl
  · obtain ⟨p, ne, l, k, D, δ, τ, δ', τ', xs, rfl, hp, hLx, hx, hlx, h1, h2, h3, h4, hD, hk, hd2, fin⟩ := h
    have nd := scPivotAt.nd
    have hu := hu_of hr
    have hu1 := Nat.lt_of_succ_lt hu
    refine ⟨_, pss_cons (ps_setLc (i := 4) (own := [("row", 3)]) (g := gName 3) rfl nd rfl rfl (sw_true rfl rfl rfl rfl) (pi_list (pv 1)) (blkOk_by (N := nPivotAt) (sc := defScope sPivotAt) (by decide +kernel))
        (fun _ _ _ _ _ => pg_name (i := 3) nd rfl (Or.inl rfl)) (fun _ _ _ _ _ => pts_one (pt_cmpR (op_neE hu1) (pe_c cPt (hr : Room _ _) (by decide) (by rfl) (pa_cons (pe_it (K := K) (pv 3) pe_int) (pa_cons (pv 2) pa_nil))) pe_dnewT (nomark _))) (fun _ _ _ _ _ => pv 3))
      (pss_cons (ps_setLc (i := 5) (own := [("row", 3)]) (g := gName 3) rfl nd rfl rfl (sw_true rfl rfl rfl rfl) (pi_list (pv 1)) (blkOk_by (N := nPivotAt) (sc := defScope sPivotAt) (by decide +kernel))
        (fun _ _ _ _ _ => pg_name (i := 3) nd rfl (Or.inl rfl)) (fun _ _ _ _ _ => pts_one (pt_cmpR (op_eqE hu1) (pe_c cPt (hr : Room _ _) (by decide) (by rfl) (pa_cons (pe_it (K := K) (pv 3) pe_int) (pa_cons (pv 2) pa_nil))) pe_dnewT (nomark _))) (fun _ _ _ _ _ => pv 3))
      (pss_cons (ps_while PassesOwn.never (pt_cmpR op_gt (pe_callB call_len_seq (by rfl) B.len (by decide +kernel) (pa_cons (pv 4) pa_nil)) pe_int (nomark _))
        (pss_cons (ps_setLc (i := 6) (own := [("row", 3)]) (g := gName 3) (tt := tYes) rfl nd rfl rfl (sw_true rfl rfl rfl rfl) (pi_list (pv 4)) (blkOk_by (N := nPivotAt) (sc := defScope sPivotAt) (by decide +kernel))
          (fun _ _ _ _ _ => pg_name (i := 3) nd rfl (Or.inl rfl)) (fun _ _ _ _ _ => pts_nil) (fun _ _ _ _ _ => pe_c cH (hr : Room _ _) (by decide) (by rfl) (pa_cons (pe_c cPt (hr : Room _ _) (by decide) (by rfl) (pa_cons (pe_it (K := K) (pv 3) pe_int) (pa_cons (pv 2) pa_nil))) (pa_cons pe_int pa_nil))))
        (pss_cons (ps_par (i := 7) (j := 8) rfl nd rfl rfl (by decide) rfl rfl (pa_cons (pe_bm PySem.F.plainAttrs_list PySem.F.slot_list_pop PySem.F.type_list_pop mt_popAt (pv 4) (pa_cons (pe_bm PySem.F.plainAttrs_list PySem.F.slot_list_index PySem.F.type_list_index mt_index (pv 6) (pa_cons (pe_callB (cr_min rfl) (by rfl) B.min (by decide +kernel) (pa_cons (pv 6) pa_nil)) pa_nil)) pa_nil)) (pa_cons (pe_lst pa_nil) pa_nil)) (by rfl))
        (pss_cons (ps_for PassesOwn.never rfl (pi_list (pv 4)) (pg_name (i := 3) nd rfl (.inl rfl))
          (pss_cons (ps_set (i := 9) nd rfl (.inl rfl) (pe_it (K := K) (pe_c cD hr (by decide) (by rfl) (pa_cons (pv 0) (pa_cons (pe_c cPt hr (by decide) (by rfl) (pa_cons (pe_it (K := K) (pv 3) pe_int) (pa_cons (pv 2) pa_nil))) (pa_cons (pe_c cPt hr (by decide) (by rfl) (pa_cons (pe_it (K := K) (pv 7) pe_int) (pa_cons (pv 2) pa_nil))) pa_nil)))) pe_int))
          (pss_cons (ps_set (i := 10) nd rfl (.inl rfl) (pe_c cR hr (by decide) (by rfl) (pa_cons (pv 0) (pa_cons (pv 3) (pa_cons (pv 9) (pa_cons (pv 7) pa_nil))))))
          (pss_one (ps_if (pt_cmpR (op_neE hu1) (pe_c cPt hr (by decide) (by rfl) (pa_cons (pe_it (K := K) (pv 10) pe_int) (pa_cons (pv 2) pa_nil))) pe_dnewT (nomark _))
            (pss_one (ps_expr (pe_bm PySem.F.plainAttrs_list PySem.F.slot_list_append PySem.F.type_list_append mt_append (pv 8) (pa_cons (pv 10) pa_nil))))
            (pss_one (ps_if (pt_cmpR (op_neE hu1) (pe_it (K := K) (pv 10) pe_int) pe_dnewT (nomark _))
              (pss_one (ps_expr (pe_bm PySem.F.plainAttrs_list PySem.F.slot_list_append PySem.F.type_list_append mt_append (pv 5) (pa_cons (pv 10) pa_nil)))) pss_nil)))))))
        (pss_one (ps_set (i := 4) nd rfl (.inl rfl) (pe_lst (pa_cons (pv 7) (StX.pa_star (pv 8) pa_nil)))))))))
      (pss_one (ps_ret (pe_tup (pa_cons (pe_ifExp (pt_cmpR (op_neL (K := K) hr.units) (pv 4) (pe_lst pa_nil) (nomark _)) (pe_il (K := K) (pv 4) pe_int) pe_non) (pa_cons (pv 5) pa_nil))))))), ?_⟩
    haveI := fd_of hp
    obtain ⟨vs, hvl, pvl⟩ := id hLx
    have lvs : vs.length = xs.length := pvl.length
    have sz : vs.length < sizeLine := sm_line (by omega)
    have smx : ∀ x, x ∈ xs → Sm x.1 := fun x m => (hx x m).1.mono (by omega) (by omega)
    -- a row of the list, by its place
    have at_ : ∀ {H'} (i : Nat) (v : V), Same H H' → vs[i]? = some v → ∃ (r b d : Addr) (x : Rw p), v = .ref r ∧ xs[i]? = some x ∧ xs.getD i (0, 0) = x ∧ x ∈ xs ∧ H' r = some (.tup [.ref b, .ref d]) ∧ YAtP p H' b x.1 ∧ RowAt p H' r x.1 x.2 := by
      intro H' i v s' hv
      obtain ⟨x, ex, r, rfl, b, d, c, e1, e2, e3, e4⟩ := paired_at pvl hv
      exact ⟨r, b, d, x, rfl, ex, by rw [List.getD, ex]; rfl, List.mem_of_getElem? ex, s' _ _ e1, e2.same s', RowAt.same s' ⟨b, d, c, e1, e2, e3, e4⟩⟩
    refine ⟨_, rfl, l, rfl, ⟨_, SqL.of hvl⟩, fun D1 hD1 => ?_⟩
    refine lc_gen (walk_list (xs := vs)) hD1 sz (fun i => nz ((xs.getD i (0, 0)).1.co k)) (fun i v H'' => VR p v H'' (xs.getD i (0, 0))) (fun i v _ _ o w => w.off o) (fun H'' s'' => SqL.of (s'' _ _ hvl)) ?_ ?_
    · rintro i v H1' H1 Q' S' hi s1 ⟨acc, hacc⟩ ⟨rfl, hv⟩ yes no
      obtain ⟨r, b, d, x, rfl, ex, eg, mx, e1, e2, e3⟩ := at_ i v s1 hv
      rw [eg] at yes no
      refine ⟨wipe_set _ 3 _, _, rfl, r, _, _, _, rfl, rfl, SqT.of e1, at0, _, rfl, ?_⟩
      refine part_y e2 (smx x mx) fun H2 q2 s2 n2 y2 => fun e he => ?_
      rw [partZ_nat] at y2
      have s3 := same_upd_new (o := .dT []) he
      obtain ⟨ts, et, kt⟩ := id y2
      refine ⟨_, _, ts, rfl, rfl, s3 _ _ et, upd_same, _, rfl, ?_⟩
      have s23 := s2.trans s3
      by_cases z : ts = []
      · have z0 : x.1.co k = 0 := C_inj ((kt.eq_nil.mp z).trans rfl)
        rw [decide_eq_true z]
        refine iteF (no _ ?_ s23)
        have := nz_not.mpr z0
        simpa using this
      · have z0 : x.1.co k ≠ 0 := fun w => z (kt.eq_nil.mpr (by rw [w]; rfl))
        rw [decide_eq_false z]
        exact iteT ⟨_, rfl, yes _ _ (nz_iff.mpr z0) s23 ⟨r, rfl, e3.same s23⟩⟩
    intro H1 us s1 du pu
    rw [lvs] at pu
    have Lb := lr_of (f := fun x : Rw p => nz (x.1.co k)) du pu
    refine ⟨_, rfl, l, rfl, ⟨_, SqL.of (s1 _ _ hvl)⟩, fun D2 hD2 => ?_⟩
    refine lc_gen (walk_list (xs := vs)) hD2 sz (fun i => !nz ((xs.getD i (0, 0)).1.co k)) (fun i v H'' => VR p v H'' (xs.getD i (0, 0))) (fun i v _ _ o w => w.off o) (fun H'' s'' => SqL.of (s'' _ _ (s1 _ _ hvl))) ?_ ?_
    · rintro i v H1' H2 Q' S' hi s2 ⟨acc, hacc⟩ ⟨rfl, hv⟩ yes no
      obtain ⟨r, b, d, x, rfl, ex, eg, mx, e1, e2, e3⟩ := at_ i v (s1.trans s2) hv
      rw [eg] at yes no
      refine ⟨wipe_set _ 3 _, _, rfl, r, _, _, _, rfl, rfl, SqT.of e1, at0, _, rfl, ?_⟩
      refine part_y e2 (smx x mx) fun H3 q2 s3 n2 y2 => fun e he => ?_
      rw [partZ_nat] at y2
      have s4 := same_upd_new (o := .dT []) he
      obtain ⟨ts, et, kt⟩ := id y2
      refine ⟨_, _, ts, rfl, rfl, s4 _ _ et, upd_same, _, rfl, ?_⟩
      have s34 := s3.trans s4
      by_cases z : ts = []
      · have z0 : x.1.co k = 0 := C_inj ((kt.eq_nil.mp z).trans rfl)
        rw [decide_eq_true z]
        exact iteT ⟨_, rfl, yes _ _ (nz_not.mpr z0) s34 ⟨r, rfl, e3.same s34⟩⟩
      · have z0 : x.1.co k ≠ 0 := fun w => z (kt.eq_nil.mpr (by rw [w]; rfl))
        rw [decide_eq_false z]
        refine iteF (no _ ?_ s34)
        rw [nz_iff.mpr z0]
        rfl
    intro H2 ws s2 dw pw
    rw [lvs] at pw
    have Lc := lr_of (f := fun x : Rw p => !nz (x.1.co k)) dw pw
    have Lb := Lb.same s2
    have nD1 := hD1
    have nD2 : H D2 = none := by
      cases w : H D2 with
      | none => rfl
      | some o =>
        rw [s1 _ _ w] at hD2
        cases hD2
    have hDD : D1 ≠ D2 := ne_of_none du hD2
    have inv0 := PInv.start hx h1 h2
    have s02 := s1.trans s2
    refine while_m (fun m σ' H' => ∃ (x3 : Option V) (bl cl : Addr) (x6 x7 x8 x9 x10 : Option V) (bs cs : List (Rw p)), σ' = [some (.int p), some (.ref l), some (.int (k : Int)), x3, some (.ref bl), some (.ref cl), x6, x7, x8, x9, x10] ∧ Same H H' ∧ H bl = none ∧ H cl = none ∧ bl ≠ cl ∧
        LR p H' bl bs ∧ LR p H' cl cs ∧ PInv p k D δ τ δ' τ' xs bs cs ∧ (bs = [] → ∀ x, x ∈ cs → Bd x.1 (δ + 1) k ∧ Bd x.2 (τ + 1) D) ∧ m = mu k bs) (mu k (xs.filter fun x => nz (x.1.co k)))
      ⟨none, D1, D2, none, none, none, none, none, _, _, rfl, s02, nD1, nD2, hDD, Lb, Lc, inv0, fun _ x m => ⟨bd_down (hx x (List.mem_filter.mp m).1).1 (nz_not.mp (List.mem_filter.mp m).2), (hx x (List.mem_filter.mp m).1).2⟩, rfl⟩ ?_
    rintro m σ' H' ⟨x3, bl, cl, x6, x7, x8, x9, x10, bs, cs, rfl, sH, nbl, ncl, hbc, Lb, Lc, inv, non, rfl⟩
    obtain ⟨bv, hbv, pbv⟩ := id Lb
    obtain ⟨cv, hcv, pcv⟩ := id Lc
    have lbv : bv.length = bs.length := pbv.length
    refine ⟨_, rfl, bl, bv, rfl, .inl (SqL.of hbv), _, _, rfl, rfl, _, rfl, ?_⟩
    by_cases hgt : bv.length ≤ 1
    · rw [decide_eq_false (by omega)]
      refine iteF ?_
      cases pbv with
      | nil =>
        refine ⟨_, rfl, by show 0 ≤ sizeLine; decide, fun e he => ?_⟩
        have se := same_upd_new (o := .lst []) he
        refine ⟨bl, e, [], rfl, rfl, SqL.of (se _ _ hbv), SqL.of upd_same, _, rfl, ?_⟩
        refine iteF ⟨_, rfl, by show 2 ≤ sizeLine; decide, fun q hq => ?_⟩
        have sq := same_upd_new (o := .tup [.non, .ref cl]) hq
        exact fin _ q .non cl [] cs (sH.trans (se.trans sq)) upd_same (Lc.same (se.trans sq)) (.inl ⟨rfl, rfl⟩) inv.sp inv.len inv.cb non
      | @cons v x bv' bs' hv t =>
        obtain ⟨r, rfl, hv⟩ := hv
        have l0 : bv' = [] := List.length_eq_zero_iff.mp (by
          rw [List.length_cons] at hgt
          omega)
        subst l0
        cases t
        refine ⟨_, rfl, by show 0 ≤ sizeLine; decide, fun e he => ?_⟩
        have se := same_upd_new (o := .lst []) he
        refine ⟨bl, e, _, rfl, rfl, SqL.of (se _ _ hbv), SqL.of upd_same, _, rfl, ?_⟩
        refine iteT ⟨_, rfl, bl, _, _, _, rfl, rfl, SqL.of (se _ _ hbv), rfl, _, rfl, by show 2 ≤ sizeLine; decide, fun q hq => ?_⟩
        have sq := same_upd_new (o := .tup [.ref r, .ref cl]) hq
        have m0 : x ∈ [x] := by simp
        exact fin _ q (.ref r) cl [x] cs (sH.trans (se.trans sq)) upd_same (Lc.same (se.trans sq)) (.inr ⟨x, rfl, ⟨r, rfl, hv.same (se.trans sq)⟩, inv.bz x m0, (inv.bb x m0).1, (inv.bb x m0).2⟩) inv.sp inv.len inv.cb (fun z => nomatch z)
    · rw [decide_eq_true (by omega)]
      refine iteT ⟨_, fun σ'' H'' q => q, ?_⟩
      obtain ⟨hx2, tm, htm, hb⟩ := inv.tm.resolve_left (by omega)
      obtain ⟨g1, g2, g3, g4⟩ := hd2 hx2
      have smb : ∀ x, x ∈ bs → Sm x.1 := fun x m => (inv.bb x m).1.mono (by omega) (by omega)
      have bvz : bv.length < sizeLine := sm_line (by
        have := inv.len
        omega)
      refine ⟨_, rfl, bl, rfl, ⟨_, SqL.of hbv⟩, fun DD hDD => ?_⟩
      refine lc_gen (walk_list (xs := bv)) hDD bvz (fun _ => true) (fun i v H'' => v = .int (K37.hi ((bs.getD i (0, 0)).1.co k))) (fun i v _ _ o w => w) (fun H'' s'' => SqL.of (s'' _ _ hbv)) ?_ ?_
      · rintro i v H1' H3 Q' S' hi s3 ⟨acc, hacc⟩ ⟨rfl, hv⟩ yes no
        obtain ⟨x, ex, r, rfl, b, d, c, e1, e2, e3, e4⟩ := paired_at pbv hv
        have mx := List.mem_of_getElem? ex
        refine ⟨wipe_set _ 3 _, tyes ⟨_, rfl, r, _, _, _, rfl, rfl, SqT.of (s3 _ _ e1), at0, _, rfl, ?_⟩⟩
        refine part_y (e2.same s3) (smb x mx) fun H4 q4 s4 n4 y4 => ?_
        rw [partZ_nat] at y4
        refine highx_y y4 (smC ((inv.bb x mx).1.co k) (by omega)) fun H5 s5 => ?_
        exact yes _ _ rfl (s4.trans s5) (by rw [List.getD, ex]; rfl)
      intro H3 us s3 du pu
      rw [lbv] at pu
      have eus : us = (bs.map fun x => K37.hi (x.1.co k)).map V.int := by
        have a := paired_eq pu
        rw [filter_all, map_getD (fun x : Rw p => V.int (K37.hi (x.1.co k)))] at a
        rw [a, List.map_map]
        rfl
      rw [eus] at du
      generalize hns : bs.map (fun x => K37.hi (x.1.co k)) = ns at du
      have lns : ns.length = bs.length := by rw [← hns, List.length_map]
      have hbv3 := s3 _ _ hbv
      refine ⟨_, rfl, .inl ⟨rfl, _, SqL.of hbv3⟩, _, rfl, .inl ⟨rfl, _, SqL.of du⟩, _, rfl, DD, ns, rfl, SqL.of du, by omega, fun mn hmn hle => ?_⟩
      obtain ⟨j, hj, hfst⟩ := first_at hmn
      have jl : j < ns.length := (List.getElem?_eq_some_iff.mp hj).1
      refine ⟨DD, ns.map V.int, .int mn, j, .int mn, rfl, rfl, SqL.of du, rfl, ?_, by rw [List.getElem?_map, hj]; rfl, by show (mn == mn) = true; exact beq_self_eq_true _, ?_, ?_⟩
      · rw [List.all_eq_true]
        intro v hv
        obtain ⟨z, _, rfl⟩ := List.mem_map.mp hv
        rfl
      · intro i z' hi hz
        rw [List.getElem?_map] at hz
        obtain ⟨z, hz2, rfl⟩ := Option.map_eq_some_iff.mp hz
        show (z == mn) = false
        exact beq_eq_false_iff_ne.mpr (hfst i z hi hz2)
      have jb : j < bs.length := by omega
      have jv : j < bv.length := by omega
      have j100 : j ≤ 100 := by
        have := inv.len
        omega
      obtain ⟨L, hLj⟩ : ∃ L, bs[j]? = some L := ⟨_, List.getElem?_eq_getElem jb⟩
      have mL := List.mem_of_getElem? hLj
      obtain ⟨lv, hlv, rL, elv, hrL⟩ := paired_right pbv hLj
      subst elv
      have eL : K37.hi (L.1.co k) = mn := by
        rw [← hns, List.getElem?_map, hLj] at hj
        exact Option.some.inj hj
      have zL := inv.bz L mL
      have hmin : ∀ x, x ∈ bs → K37.dg (L.1.co k) ≤ K37.dg (x.1.co k) := fun x hx => by
        have a := hle _ (by rw [← hns]; exact List.mem_map.mpr ⟨x, hx, rfl⟩)
        rw [← eL, K37.hi_ne zL, K37.hi_ne (inv.bz x hx)] at a
        omega
      refine ⟨bl, bv, (j : Int), j, _, rfl, rfl, hbv3, by omega, by omega, by
        rw [PySem.seqIndex_of (by omega) (by omega), Int.toNat_natCast], hlv, ?_⟩
      have s3' : Same H (upd H3 bl (.lst (bv.eraseIdx j))) := same_free (sH.trans s3) nbl
      have off3 := off_upd (o := .lst (bv.eraseIdx j)) hbv3
      have hL4 : RowAt p (upd H3 bl (.lst (bv.eraseIdx j))) rL L.1 L.2 := (hrL.same s3).off off3
      have perm : bs.Perm (L :: bs.eraseIdx j) := erase_perm j hLj
      have pbv4 : Paired (fun v x => VR p v (upd H3 bl (.lst (bv.eraseIdx j))) x) (bv.eraseIdx j) (bs.eraseIdx j) := by
        have a := paired_erase j pbv
        exact paired_imp (fun _ _ q => (q.same s3).off off3) a
      have Lc4 : LR p (upd H3 bl (.lst (bv.eraseIdx j))) cl cs := (Lc.same s3).off off3 hbc.symm
      have hbl4 : upd H3 bl (.lst (bv.eraseIdx j)) bl = some (.lst (bv.eraseIdx j)) := upd_same
      generalize upd H3 bl (.lst (bv.eraseIdx j)) = H4 at s3' hL4 pbv4 Lc4 hbl4 ⊢
      generalize hbs' : bs.eraseIdx j = bs' at perm pbv4
      generalize hbv' : bv.eraseIdx j = bv' at pbv4 hbl4
      refine ⟨by show 0 ≤ sizeLine; decide, fun M hM => ?_⟩
      refine ⟨_, _, rfl, ?_⟩
      have s5 := same_upd_new (o := .lst []) hM
      have nM : H M = none := by
        cases w : H M with
        | none => rfl
        | some o =>
          rw [s3' _ _ w] at hM
          cases hM
      have hMb : M ≠ bl := (ne_of_none hbl4 hM).symm
      have hMc : M ≠ cl := by
        obtain ⟨cv', hcv', _⟩ := id Lc4
        exact (ne_of_none hcv' hM).symm
      have LM : LR p (upd H4 M (.lst [])) M [] := ⟨[], upd_same, .nil⟩
      have hbl5 := s5 _ _ hbl4
      have hL5 := hL4.same s5
      have pbv5 := paired_imp (fun _ _ q => q.same s5) pbv4
      have Lc5 := Lc4.same s5
      have s05 := s3'.trans s5
      generalize upd H4 M (.lst []) = H5 at s05 LM hbl5 hL5 pbv5 Lc5 ⊢
      have lbv' : bv'.length = bs'.length := pbv5.length
      have lbs' : bs'.length ≤ 100 := by
        have a := perm.length_eq
        have b := inv.len
        rw [List.length_cons] at a
        omega
      have jst : JInv p k D δ τ δ' τ' (K37.dg (L.1.co k)) L bs' cs 0 [] cs := JInv.start inv.cb
      obtain ⟨lb1, lb2, lb3⟩ := hb L mL
      have isL := K37.dg_is zL
      have ddm : K37.dg (L.1.co k) < tm + 1 := isL.lt_of_dlt lb1
      generalize hdd : K37.dg (L.1.co k) = d at jst isL ddm
      refine ⟨_, rfl, bl, rfl, ⟨_, SqL.of hbl5⟩, ?_⟩
      refine for_it (walk_list (xs := bv')) (fun n σ' H' => ∃ (x3 x9 x10 : Option V) (ms cs' : List (Rw p)), σ' = [some (.int p), some (.ref l), some (.int (k : Int)), x3, some (.ref bl), some (.ref cl), some (.ref DD), some (.ref rL), some (.ref M), x9, x10] ∧ Same H H' ∧
          H' bl = some (.lst bv') ∧ LR p H' M ms ∧ LR p H' cl cs' ∧ RowAt p H' rL L.1 L.2 ∧ Paired (fun v x => VR p v H' x) bv' bs' ∧ JInv p k D δ τ δ' τ' d L bs' cs n ms cs')
        ⟨x3, x9, x10, [], cs, rfl, s05, hbl5, LM, Lc5, hL5, pbv5, jst⟩ (fun n σ' H' _ w => let ⟨_, _, _, _, _, _, _, w, _⟩ := w; SqL.of w) ?_ ?_
      · rintro n v σ' H6' H6 hn ⟨x3', x9', x10', ms, cs', rfl, s6, hbl6, LM6, Lc6, hL6, pb6, jv6⟩ ⟨rfl, hv⟩
        obtain ⟨x, ex, r, rfl, hxr⟩ := paired_at pb6 hv
        have mx' : x ∈ bs' := List.mem_of_getElem? ex
        have mx : x ∈ bs := perm.mem_iff.mpr (by simp [mx'])
        obtain ⟨xb1, xb2, xb3⟩ := hb x mx
        obtain ⟨b1, d1, c1, e1, y1, f1, z1⟩ := id hxr
        obtain ⟨b2, d2, c2, e2, y2, f2, z2⟩ := id hL6
        refine ⟨_, rfl, _, rfl, r, _, _, _, rfl, rfl, SqT.of e1, at0, _, rfl, ?_⟩
        refine part_y y1 (smb x mx) fun H7 q7 s7 n7 y7 => ?_
        rw [partZ_nat] at y7
        refine ⟨_, rfl, rL, _, _, _, rfl, rfl, SqT.of (s7 _ _ e2), at0, _, rfl, ?_⟩
        refine part_y (y2.same s7) (smb L mL) fun H8 q8 s8 n8 y8 => ?_
        rw [partZ_nat] at y8
        refine divide_y hp (y7.same s8) y8 (xb1.mono (by omega)) (lb1.mono (by omega)) zL fun H9 q9 a1 a2 U R s9 hq9 _ _ yU yR eR dR _ => ?_
        rw [hdd] at dR
        have dU : K37.dlt U (tm + 1 - d) := by
          have := quot_dlt2 eR zL (by rw [hdd]; exact dR) xb1
          rw [hdd] at this
          exact this
        refine ⟨q9, _, _, _, rfl, rfl, SqT.of hq9, at0, ?_⟩
        have s79 := s7.trans (s8.trans s9)
        have bU := bd_C dU
        have bP1 : Bd (Pl.C U * L.1) (2 * δ - d + 1) (k + 1) := (bU.mul lb2).mono (by omega) (by omega)
        have bP2 : Bd (Pl.C U * L.2) (τ + δ - d + 1) D := (bU.mul lb3).mono (by omega) (by omega)
        have fU : Few (Pl.C U) (δ + 1) := fun ts kt => by
          have := few_bd bU ts kt
          omega
        have fL1 : Few L.1 ((δ' + 1) * (k + 1)) := fun ts kt => by
          have a := few_bd lb2 ts kt
          have b := Nat.mul_le_mul_right (k + 1) (show 2 * δ - tm + 1 ≤ δ' + 1 by omega)
          omega
        have fL2 : Few L.2 ((τ' + 1) * D) := fun ts kt => by
          have a := few_bd lb3 ts kt
          have b := Nat.mul_le_mul_right D (show τ + δ - tm + 1 ≤ τ' + 1 by omega)
          omega
        have sx2 : Sm x.2 := xb3.mono (by omega) (by omega)
        refine ⟨_, rfl, _, rfl, _, rfl, _, rfl, wr ⟨p, ne, r, a1, rL, U, x.1, x.2, L.1, L.2, _, _, _, rfl, hp, hxr.same s79, yU, hL6.same s79, smb x mx, sx2, bP1.mono (by omega) (by omega), bP2.mono (by omega) (by omega), fU, fL1, fL2, g3, g4, fun H10 y s10 hy => ?_⟩⟩
        have yz : (x.1 - Pl.C U * L.1).co k = R := by
          rw [Pl.co_sub, Pl.co_Cmul, eR]
          grind
        have bY1 : Bd (x.1 - Pl.C U * L.1) (2 * δ - d + 1) (k + 1) := (xb2.mono (by omega) (Nat.le_refl _)).sub bP1
        have bY2 : Bd (x.2 - Pl.C U * L.2) (τ + δ - d + 1) D := (xb3.mono (by omega) (Nat.le_refl _)).sub bP2
        obtain ⟨t1, t2, t3⟩ := jv6.turn (y := (x.1 - Pl.C U * L.1, x.2 - Pl.C U * L.2)) ex rfl (by rw [yz]; exact dR) bY1 bY2 g1 g2
        have s610 : Same H6 H10 := s79.trans s10
        have sY : Sm (x.1 - Pl.C U * L.1) := bY1.mono (by omega) (by omega)
        obtain ⟨b3, d3, c3, e3, y3, f3, z3⟩ := id hy
        refine ⟨_, rfl, y, _, _, _, rfl, rfl, SqT.of e3, at0, _, rfl, ?_⟩
        refine part_y y3 sY fun H11 q11 s11 n11 y11 => fun e he => ?_
        rw [partZ_nat, yz] at y11
        have s12 := same_upd_new (o := .dT []) he
        obtain ⟨ts, et, kt⟩ := id y11
        refine ⟨_, _, ts, rfl, rfl, s12 _ _ et, upd_same, _, rfl, ?_⟩
        have s612 := s610.trans (s11.trans s12)
        have hy12 := hy.same (s11.trans s12)
        generalize upd H11 e (.dT []) = H12 at s12 s612 hy12 ⊢
        have LM12 := LM6.same s612
        have Lc12 := Lc6.same s612
        have hL12 := hL6.same s612
        have pb12 := paired_imp (fun _ _ q => q.same s612) pb6
        have hbl12 := s612 _ _ hbl6
        have sH12 := s6.trans s612
        obtain ⟨mv, hmv, pmv⟩ := id LM12
        obtain ⟨cv', hcv', pcv'⟩ := id Lc12
        have lmv : mv.length ≤ 100 := by
          rw [pmv.length]
          have := jv6.le
          have : n < bv'.length := hn
          omega
        have lcv : cv'.length ≤ 300 := by
          rw [pcv'.length]
          have a := jv6.len
          have b := inv.len
          have : n < bv'.length := hn
          omega
        by_cases z : ts = []
        · have z0 : R = 0 := C_inj ((kt.eq_nil.mp z).trans rfl)
          rw [decide_eq_true z]
          refine iteF ?_
          obtain ⟨b4, d4, c4, e4, y4, f4, z4⟩ := id hy12
          refine ⟨_, rfl, y, _, _, _, rfl, rfl, SqT.of e4, at0, fun e' he' => ?_⟩
          have s13 := same_upd_new (o := .dT []) he'
          obtain ⟨us', eu, ku⟩ := id y4
          refine ⟨_, _, us', rfl, rfl, s13 _ _ eu, upd_same, _, rfl, ?_⟩
          have hy13 := hy12.same s13
          have LM13 := LM12.same s13
          have hcv13 := s13 _ _ hcv'
          have Lc13 := Lc12.same s13
          have hL13 := hL12.same s13
          have pb13 := paired_imp (fun _ _ q => q.same s13) pb12
          have hbl13 := s13 _ _ hbl12
          have sH13 := sH12.trans s13
          generalize upd H12 e' (.dT []) = H13 at s13 hy13 LM13 hcv13 Lc13 hL13 pb13 hbl13 sH13 ⊢
          by_cases w : us' = []
          · have w0 : x.1 - Pl.C U * L.1 = 0 := ku.eq_nil.mp w
            rw [decide_eq_true w]
            refine iteF ?_
            exact ⟨_, _, _, ms, cs', rfl, sH13, hbl13, LM13, Lc13, hL13, pb13, t3 w0⟩
          · rw [decide_eq_false w]
            refine iteT ?_
            have off := off_upd (o := .lst (cv' ++ [.ref y])) hcv13
            refine ⟨_, rfl, .inl ⟨rfl, _, SqL.of hcv13⟩, _, rfl, cl, cv', _, rfl, rfl, hcv13, sm_line (by omega), ?_⟩
            obtain ⟨cv13, hc13, pc13⟩ := Lc13
            rw [hcv13] at hc13
            cases hc13
            refine ⟨_, _, _, ms, cs' ++ [_], rfl, same_free sH13 ncl, by rw [upd_ne hbc]; exact hbl13, LM13.off off hMc, ⟨_, upd_same, paired_snoc (paired_imp (fun _ _ q => q.off off) pc13) ⟨y, rfl, hy13.off off⟩⟩, hL13.off off, paired_imp (fun _ _ q => q.off off) pb13, t2 (by rw [yz]; exact z0)⟩
        · have z0 : R ≠ 0 := fun w => z (kt.eq_nil.mpr (by rw [w]; rfl))
          rw [decide_eq_false z]
          refine iteT ?_
          have off := off_upd (o := .lst (mv ++ [.ref y])) hmv
          refine ⟨_, rfl, .inl ⟨rfl, _, SqL.of hmv⟩, _, rfl, M, mv, _, rfl, rfl, hmv, sm_line (by omega), ?_⟩
          exact ⟨_, _, _, ms ++ [_], cs', rfl, same_free sH12 nM, by rw [upd_ne hMb.symm]; exact hbl12, ⟨_, upd_same, paired_snoc (paired_imp (fun _ _ q => q.off off) pmv) ⟨y, rfl, hy12.off off⟩⟩, Lc12.off off hMc.symm, hL12.off off, paired_imp (fun _ _ q => q.off off) pb12, t1 (by rw [yz]; exact z0)⟩
      · rintro σ' H6 ⟨x3', x9', x10', ms, cs', rfl, s6, hbl6, LM6, Lc6, hL6, pb6, jv6⟩
        obtain ⟨mv, hmv, pmv⟩ := id LM6
        rw [lbv', ← hdd] at jv6
        obtain ⟨inv', mlt⟩ := JInv.stop inv (by omega) hx2 perm htm hb hmin g1 g2 jv6
        have lmv : mv.length ≤ 100 := by
          rw [pmv.length]
          have := jv6.le
          omega
        refine ⟨_, rfl, _, rfl, M, mv, rfl, .inr (SqL.of hmv), ?_⟩
        refine ⟨Nat.le_of_lt (sm_line (by
          rw [List.length_cons, List.length_append, List.length_nil]
          omega)), fun B' hB' => ?_⟩
        have sB := same_upd_new (o := .lst (.ref rL :: (mv ++ []))) hB'
        have nB : H B' = none := by
          cases w : H B' with
          | none => rfl
          | some o =>
            rw [s6 _ _ w] at hB'
            cases hB'
        have hBc : B' ≠ cl := by
          obtain ⟨cv', hcv', _⟩ := id Lc6
          exact (ne_of_none hcv' hB').symm
        refine ⟨_, mlt, _, B', cl, _, _, _, _, _, L :: ms, cs', rfl, s6.trans sB, nB, ncl, hBc, ⟨_, upd_same, ?_⟩, Lc6.same sB, inv', (fun z => nomatch z), rfl⟩
        rw [List.append_nil] at sB ⊢
        exact .cons ⟨rL, rfl, hL6.same sB⟩ (paired_imp (fun _ _ q => q.same sB) pmv)
end
end L2.K37R
end W25
section W26
set_option autoImplicit false
set_option linter.all false
set_option maxRecDepth 100000
namespace L2.K37R
open PySem PySem.Spec PyProof.Rows C8
open K37 (S2 Pl)

section
variable {p : Nat} [NeZero p]
theorem divY_y {H : Hp} {a b : Addr} {F G : S2 (Fq p)} {D m n g : Nat} {Q : VK} {E : XK} (hp : Pr p) (hA : YAtP p H a F) (hB : YAtP p H b G) (hG : G.co D = 1) (bG : Bd G (g + 1) (D + 1)) (bF : Bd F m n) (hg : g < 64) (hD : D < 255) (hn : n ≤ 255) (hW : m + (n - D) * g ≤ 63) (hT : 63 * ((g + 1) * (D + 1)) ≤ 3000)
    (k : ∀ H' q a1 a2 U R, Same H H' → H' q = some (.tup [.ref a1, .ref a2]) → H a1 = none → H a2 = none → YAtP p H' a1 U → YAtP p H' a2 R → F = U * G + R → Bd R (m + (n - D) * g) D → Bd U (m + (n - D) * g) n → Q (.ref q) H') : Wr spDivY [.int p, .ref a, .ref b] H Q E :=
  wr ⟨p, ‹_›, a, b, F, G, D, m, n, g, rfl, hp, hA, hB, hG, bG, bF, hg, hD, hn, hW, hT, k⟩
/-- a pivot and the place of its row -/
abbrev Pv (p : Nat) [NeZero p] := Option (Rw p × Addr)
/-- the dict of pivots after t powers, from the highest -/
def fnd (D : Nat) (pv : Nat → Pv p) (t : Nat) : List (Key × V) := (List.range t).filterMap fun i => (pv i).map fun y => ((.inl ((D - 1 - i : Nat) : Int) : Key), V.ref y.2)
def pws (pv : Nat → Pv p) (t : Nat) : List (S2 (Fq p)) := (List.range t).map fun i => match pv i with | none => 0 | some y => y.1.1
def GoodP (H : Hp) (D : Nat) (pv : Nat → Pv p) (t : Nat) : Prop := ∀ i, i < t → ∀ y, pv i = some y → RowAt p H y.2 y.1.1 y.1.2 ∧ y.1.1.co (D - 1 - i) ≠ 0 ∧ Bd y.1.1 63 (D - 1 - i + 1) ∧ Bd y.1.2 23 D
theorem GoodP.same {H H' : Hp} {D : Nat} {pv : Nat → Pv p} {t : Nat} (s : Same H H') (h : GoodP H D pv t) : GoodP H' D pv t := fun i hi y hy => let ⟨a, b⟩ := h i hi y hy; ⟨a.same s, b⟩
theorem GoodP.off {H H' : Hp} {D A : Nat} {pv : Nat → Pv p} {t : Nat} (o : ∀ r R T, RowAt p H r R T → RowAt p H' r R T) (h : GoodP H D pv t) : GoodP H' D pv t := fun i hi y hy => let ⟨a, b⟩ := h i hi y hy; ⟨o _ _ _ a, b⟩
/-- how far the numbers may have grown when n rows are left -/
def Lv (D n δ τ : Nat) : Prop := (n ≤ 1 ∧ δ ≤ 62 ∧ τ ≤ 22) ∨ (D = 2 ∧ n ≤ 2 ∧ δ ≤ 22 ∧ τ = 0) ∨ (D = 3 ∧ n ≤ 3 ∧ δ ≤ 6 ∧ τ = 0) ∨ (D = 3 ∧ n ≤ 2 ∧ δ ≤ 12 ∧ τ ≤ 6)
theorem Lv.step {D n δ τ k : Nat} (h : Lv D n δ τ) (hk : k < D) : ∃ δ' τ', δ ≤ δ' ∧ τ ≤ τ' ∧ δ' ≤ 62 ∧ τ' ≤ 22 ∧ (2 ≤ n → 2 * δ ≤ δ' ∧ τ + δ ≤ τ' ∧ (δ + 1) * ((δ' + 1) * (k + 1)) ≤ 3000 ∧ (δ + 1) * ((τ' + 1) * D) ≤ 3000) ∧ (∀ n', n' + 1 ≤ n → Lv D n' δ' τ') := by
  have mul : ∀ a b c a' b' c' : Nat, a ≤ a' → b ≤ b' → c ≤ c' → a * (b * c) ≤ a' * (b' * c') := fun a b c a' b' c' x y z => Nat.mul_le_mul x (Nat.mul_le_mul y z)
  rcases h with ⟨h1, h2, h3⟩ | ⟨h1, h2, h3, h4⟩ | ⟨h1, h2, h3, h4⟩ | ⟨h1, h2, h3, h4⟩
  · exact ⟨δ, τ, Nat.le_refl _, Nat.le_refl _, h2, h3, fun z => by omega, fun n' hn => .inl ⟨by omega, h2, h3⟩⟩
  · subst h1 h4
    exact ⟨44, 22, by omega, by omega, by omega, by omega, fun _ => ⟨by omega, by omega, Nat.le_trans (mul _ _ _ 23 45 2 (by omega) (by omega) (by omega)) (by decide), Nat.le_trans (mul _ _ _ 23 23 2 (by omega) (by omega) (by omega)) (by decide)⟩, fun n' hn => .inl ⟨by omega, by omega, by omega⟩⟩
  · subst h1 h4
    exact ⟨12, 6, by omega, by omega, by omega, by omega, fun _ => ⟨by omega, by omega, Nat.le_trans (mul _ _ _ 7 13 3 (by omega) (by omega) (by omega)) (by decide), Nat.le_trans (mul _ _ _ 7 7 3 (by omega) (by omega) (by omega)) (by decide)⟩, fun n' hn => .inr (.inr (.inr ⟨rfl, by omega, by omega, by omega⟩))⟩
  · subst h1
    exact ⟨24, 18, by omega, by omega, by omega, by omega, fun _ => ⟨by omega, by omega, Nat.le_trans (mul _ _ _ 13 25 3 (by omega) (by omega) (by omega)) (by decide), Nat.le_trans (mul _ _ _ 13 19 3 (by omega) (by omega) (by omega)) (by decide)⟩, fun n' hn => .inl ⟨by omega, by omega, by omega⟩⟩
theorem Lv.mono {D n n' δ τ : Nat} (h : Lv D n δ τ) (hn : n' ≤ n) : Lv D n' δ τ := by
  rcases h with ⟨h1, h2, h3⟩ | ⟨h1, h2, h3, h4⟩ | ⟨h1, h2, h3, h4⟩ | ⟨h1, h2, h3, h4⟩
  · exact .inl ⟨by omega, h2, h3⟩
  · exact .inr (.inl ⟨h1, by omega, h3, h4⟩)
  · exact .inr (.inr (.inl ⟨h1, by omega, h3, h4⟩))
  · exact .inr (.inr (.inr ⟨h1, by omega, h3, h4⟩))
theorem Lv.le {D n δ τ : Nat} (h : Lv D n δ τ) : δ ≤ 62 := by
  rcases h with ⟨h1, h2, h3⟩ | ⟨h1, h2, h3, h4⟩ | ⟨h1, h2, h3, h4⟩ | ⟨h1, h2, h3, h4⟩ <;> omega
theorem bd_raise {G : S2 (Fq p)} {m n : Nat} (h : Bd G m n) (k : Nat) : Bd (K37.mo 1 k * G) m (n + k) := fun q hq => by
  unfold cf at hq
  rw [K37.co_mo_mul] at hq
  by_cases h1 : q.2 < k
  · rw [if_pos h1, Pl.co_zero] at hq
    exact absurd rfl hq
  · rw [if_neg h1, show (1 : RX p) * G.co (q.2 - k) = G.co (q.2 - k) by grind] at hq
    have := h (q.1, q.2 - k) hq
    have h2 : q.1 < m := this.1
    have h3 : q.2 - k < n := this.2
    omega
/-- the rows that the elimination begins with -/
structure Rows0 (p : Nat) [NeZero p] (F G : S2 (Fq p)) (D δ k : Nat) (xs : List (Rw p)) : Prop where
  all : ∀ i, i < k → ∃ u : S2 (Fq p), K37.Sp (xs.map (·.1)) (K37.mo 1 i * G - u * F)
  id : ∀ x, x ∈ xs → K37.Id F G x.1
  bd : ∀ x, x ∈ xs → Bd x.1 (δ + 1) D ∧ Bd x.2 1 D
  len : xs.length ≤ k
theorem sp_app {l m : List (S2 (Fq p))} {z : S2 (Fq p)} (h : K37.Sp l z) : K37.Sp (l ++ m) z := K37.Sp.le (fun a ha => K37.Sp.mem (List.mem_append_left _ ha)) h
theorem Rows0.skip {F G U : S2 (Fq p)} {D δ k : Nat} {xs : List (Rw p)} (h : Rows0 p F G D δ k xs) (e : K37.mo 1 k * G = U * F + 0) : Rows0 p F G D δ (k + 1) xs := ⟨fun i hi => by
  by_cases c : i = k
  · subst c
    refine ⟨U, ?_⟩
    rw [show K37.mo 1 i * G - U * F = 0 by grind]
    exact K37.Sp.zero _
  · exact h.all i (by omega), h.id, h.bd, Nat.le_succ_of_le h.len⟩
theorem Rows0.more {F G U R T : S2 (Fq p)} {D δ k : Nat} {xs : List (Rw p)} (h : Rows0 p F G D δ k xs) (e : K37.mo 1 k * G = U * F + R) (bR : Bd R (δ + 1) D) (bT : Bd T 1 D) : Rows0 p F G D δ (k + 1) (xs ++ [(R, T)]) := ⟨fun i hi => by
  rw [List.map_append]
  by_cases c : i = k
  · subst c
    refine ⟨U, ?_⟩
    rw [show K37.mo 1 i * G - U * F = R by grind]
    exact K37.Sp.mem (by simp)
  · obtain ⟨u, hu⟩ := h.all i (by omega)
    exact ⟨u, sp_app hu⟩, fun x hx => by
  rcases List.mem_append.mp hx with m | m
  · exact h.id x m
  · rw [List.mem_singleton.mp m]
    exact ⟨-U, K37.mo 1 k, by show R = _; grind⟩, fun x hx => by
  rcases List.mem_append.mp hx with m | m
  · exact h.bd x m
  · rw [List.mem_singleton.mp m]
    exact ⟨bR, bT⟩, by
  have := h.len
  rw [List.length_append, List.length_singleton]
  omega⟩
/-- one more pivot, or none -/
def setP (pv : Nat → Pv p) (t : Nat) (y : Pv p) : Nat → Pv p := fun i => if i = t then y else pv i
theorem row_upd {H : Hp} {FD : Addr} {D t : Nat} {pv : Nat → Pv p} {kvs : List (Key × V)} (hf : H FD = some (.dK (fnd D pv t))) (gp : GoodP H D pv t) {r : Addr} {R T : S2 (Fq p)} (h : RowAt p H r R T) : RowAt p (upd H FD (.dK kvs)) r R T := by
  obtain ⟨b, d, c, e1, ⟨ts, e2, k2⟩, e3, ⟨us, e4, k4⟩⟩ := h
  have dn : d ≠ FD := fun z => by
    rw [z, hf] at e3
    have e5 : fnd D pv t = [(.inl 0, .ref c)] := by
      injection e3 with e3
      injection e3 with e3
    have m : ((.inl 0 : Key), V.ref c) ∈ fnd D pv t := by
      rw [e5]
      simp
    unfold fnd at m
    obtain ⟨i, hi, e6⟩ := List.mem_filterMap.mp m
    rw [List.mem_range] at hi
    obtain ⟨y, hy, e7⟩ := Option.map_eq_some_iff.mp e6
    have e8 : y.2 = c := V.ref.inj (Prod.mk.inj e7).2
    obtain ⟨⟨b', d', c', w1, _⟩, _⟩ := gp i hi y hy
    rw [e8, show H c = _ from e4] at w1
    cases w1
  have u : ∀ {x : Addr} {o : HO}, x ≠ FD → H x = some o → upd H FD (.dK kvs) x = some o := fun {x o} n e => by
    rw [upd_ne n]
    exact e
  exact ⟨b, d, c, u (ne_of e1 hf (fun z => nomatch z)) e1, ⟨ts, u (ne_of e2 hf (fun z => nomatch z)) e2, k2⟩, u dn e3, ⟨us, u (ne_of e4 hf (fun z => nomatch z)) e4, k4⟩⟩
theorem fm_congr {α β : Type} {f g : α → Option β} : ∀ {l : List α}, (∀ i, i ∈ l → f i = g i) → l.filterMap f = l.filterMap g
  | [], _ => rfl
  | x :: l, h => by
    rw [List.filterMap_cons, List.filterMap_cons, h x (by simp), fm_congr (l := l) fun i hi => h i (by simp [hi])]
theorem fnd_set (D : Nat) (pv : Nat → Pv p) (t : Nat) (y : Pv p) : fnd D (setP pv t y) (t + 1) = fnd D pv t ++ (match y with | none => [] | some y => [((.inl ((D - 1 - t : Nat) : Int) : Key), V.ref y.2)]) := by
  unfold fnd
  rw [List.range_succ, List.filterMap_append]
  congr 1
  · refine fm_congr fun i hi => ?_
    rw [List.mem_range] at hi
    unfold setP
    rw [if_neg (by omega)]
  · unfold setP
    cases y <;> simp
theorem pws_set (pv : Nat → Pv p) (t : Nat) (y : Pv p) : pws (setP pv t y) (t + 1) = pws pv t ++ [match y with | none => 0 | some y => y.1.1] := by
  unfold pws
  rw [List.range_succ, List.map_append]
  congr 1
  · refine List.map_congr_left fun i hi => ?_
    rw [List.mem_range] at hi
    unfold setP
    rw [if_neg (by omega)]
  · unfold setP
    simp
theorem fnd_new {D t : Nat} (pv : Nat → Pv p) (ht : t < D) : valV (fnd D pv t) (.inl ((D - 1 - t : Nat) : Int)) = none := by
  cases e : valV (fnd D pv t) (.inl ((D - 1 - t : Nat) : Int)) with
  | none => rfl
  | some v =>
    have m := valV_in e
    obtain ⟨kv, hk, e2⟩ := List.mem_map.mp m
    unfold fnd at hk
    obtain ⟨i, hi, e3⟩ := List.mem_filterMap.mp hk
    rw [List.mem_range] at hi
    obtain ⟨y, _, e4⟩ := Option.map_eq_some_iff.mp e3
    rw [← e4] at e2
    have := Sum.inl.inj e2
    omega
theorem GoodP.set {H : Hp} {D t : Nat} {pv : Nat → Pv p} {y : Pv p} (h : GoodP H D pv t) (hy : ∀ z, y = some z → RowAt p H z.2 z.1.1 z.1.2 ∧ z.1.1.co (D - 1 - t) ≠ 0 ∧ Bd z.1.1 63 (D - 1 - t + 1) ∧ Bd z.1.2 23 D) : GoodP H D (setP pv t y) (t + 1) := fun i hi z hz => by
  unfold setP at hz
  by_cases c : i = t
  · rw [if_pos c] at hz
    rw [c]
    exact hy z hz
  · rw [if_neg c] at hz
    exact h i (by omega) z hz
end
section
variable {P : Program} {w : World} {K : PySem.W.Frag} {mg : Str → Option Value} {base : Heap}
theorem walk_rangeD {n : Nat} : Walk (Itc ((n : Int) - 1) (-1) n) n (fun _ => True) (YFn fun i => .int ((n - 1 - i : Nat) : Int)) := walk_rangeC.mono (fun _ h => h) fun i H x H' hi _ y => ⟨y.1, by
  rw [y.2]
  show V.int (((n : Int) - 1) + (i : Int) * (-1)) = V.int ((n - 1 - i : Nat) : Int)
  congr 1
  omega⟩
abbrev sPivots : Stmt := top 51
abbrev nPivots : List Str := ["prime", "first", "others", "line", "found", "spot", "book", "power", "rest", "pivot"]
def spPivots : Sp := fun vs H Q _ => ∃ (p : Nat) (_ : NeZero p) (a l : Addr) (F G : S2 (Fq p)) (D m n g δ : Nat), vs = [.int p, .ref a, .ref l] ∧ Pr p ∧ YAtP p H a F ∧ BL p H l [G] ∧ F.co D = 1 ∧ Bd F (g + 1) (D + 1) ∧ Bd G m n ∧ g < 63 ∧ 1 ≤ n ∧ n + D ≤ 255 ∧ m + (n - 1) * g ≤ δ + 1 ∧ Lv D D δ 0 ∧ 63 * ((g + 1) * (D + 1)) ≤ 3000 ∧
  ∀ H' q (pv : Nat → Pv p), Same H H' → H' q = some (.dK (fnd D pv D)) → GoodP H' D pv D → (∀ k, k < D → ∃ u : S2 (Fq p), K37.Sp (pws pv D) (K37.mo 1 k * G - u * F)) → (∀ z, K37.Sp (pws pv D) z → K37.Id F G z) → Q (.ref q) H'
theorem scPivots : FnScope nPivots ["prime", "first", "others"] (defScope sPivots) := ⟨rfl, rfl, rfl, by decide +kernel, rfl, by decide +kernel, by decide +kernel⟩
theorem ok_pivots {f : Addr} {fd : FuncData} (F : FnP K "pivots_of" sPivots f fd) (B : Bare mg) (cH : Cal P w K mg base 1 "highest" (Wr spHighest) []) (cR : Cal P w K mg base 1 "raised" (Wr spRaised) []) (cD : Cal P w K mg base 2 "divide_in_y" (Wr spDivY) []) (cP : Cal P w K mg base 3 "pivot_at" (Wr spPivotAt) []) :
    FnOk P w K mg base CX0 4 f fd ["prime", "first", "others"] (Wr spPivots) := by
  refine FnOk.imp (sp := spPivots) ?_ fun _ _ _ _ h => un_wr h
  refine okP F scPivots (fun vs H Q E h => ?_) (fun cdv A outer s H vs Q E hr h => ?_)
  · obtain ⟨p, ne, a, l, F, G, D, m, n, g, δ, rfl, _⟩ := h
    rfl
  · obtain ⟨p, ne, a, l, F, G, D, m, n, g, δ, rfl, hp, hA, hL, hF, bF, bG, hg, hn1, hnD, hδ, lv, hT, fin⟩ := h
    have nd := scPivots.nd
    have hu := hu_of hr
    have hu1 := Nat.lt_of_succ_lt hu
    refine ⟨_, pss_cons (ps_par (i := 3) (j := 4) rfl nd rfl rfl (by decide) rfl rfl (pa_cons (pe_lst pa_nil) (pa_cons pe_dnewK pa_nil)) (by rfl))
      (pss_cons (ps_for PassesOwn.never rfl (pi_enum (by rfl) B.enumerate (pa_cons (pv 2) pa_nil)) (pg_tup rfl (pgs_cons (pg_name (i := 5) nd rfl (.inl rfl)) (pgs_cons (pg_name (i := 6) nd rfl (.inl rfl)) pgs_nil)))
        (pss_one (ps_for PassesOwn.never rfl (pi_range1 (by rfl) B.range (pa_cons (pe_c cH hr (by decide) (by rfl) (pa_cons (pv 1) (pa_cons pe_int pa_nil))) pa_nil)) (pg_name (i := 7) nd rfl (.inl rfl))
          (pss_cons (ps_set (i := 8) nd rfl (.inl rfl) (pe_it (K := K) (pe_c cD hr (by decide) (by rfl) (pa_cons (pv 0) (pa_cons (pe_c cR hr (by decide) (by rfl) (pa_cons (pv 6) (pa_cons (pv 7) pa_nil))) (pa_cons (pv 1) pa_nil)))) pe_int))
          (pss_one (ps_if (pt_cmpR (op_neE hu1) (pv 8) pe_dnewT (nomark _))
            (pss_one (ps_expr (pe_bm PySem.F.plainAttrs_list PySem.F.slot_list_append PySem.F.type_list_append mt_append (pv 3) (pa_cons (pe_tup (pa_cons (pv 8) (pa_cons (pe_disp (pps_cons (pv 5) (pe_dispT hu1 (pe_tup (pa_cons pe_int (pa_cons (pv 7) pa_nil))) pe_int) pps_nil) rfl rfl (by simp) (by simp)) pa_nil))) pa_nil)))) pss_nil))))))
      (pss_cons (ps_for PassesOwn.never rfl (pi_range3 (by rfl) B.range (pa_cons (pe_op op_sub (pe_c cH hr (by decide) (by rfl) (pa_cons (pv 1) (pa_cons pe_int pa_nil))) pe_int) (pa_cons (pe_un un_neg pe_int) (pa_cons (pe_un un_neg pe_int) pa_nil)))) (pg_name (i := 7) nd rfl (.inl rfl))
        (pss_cons (ps_asg (pe_c cP hr (by decide) (by rfl) (pa_cons (pv 0) (pa_cons (pv 3) (pa_cons (pv 7) pa_nil)))) (pg_tup rfl (pgs_cons (pg_name (i := 9) nd rfl (.inl rfl)) (pgs_cons (pg_name (i := 3) nd rfl (.inl rfl)) pgs_nil))))
        (pss_one (ps_if (pt_cmp (pc_notN (pv 9)) (by with_unfolding_all rfl)) (pss_one (ps_dput hu (pv 4) (pv 7) (pv 9) rfl)) pss_nil))))
      (pss_one (ps_ret (pv 4))))), ?_⟩
    haveI := fd_of hp
    obtain ⟨hp1, hp7⟩ := pr17 hp
    have δ62 := lv.le
    have D3 : D ≤ 3 := by
      rcases lv with ⟨q, _⟩ | ⟨q, _⟩ | ⟨q, _⟩ | ⟨q, _⟩ <;> omega
    obtain ⟨xs, hl, pxs⟩ := id hL
    obtain ⟨b, rfl, yb⟩ : ∃ b, xs = [.ref b] ∧ YAtP p H b G := by
      cases pxs with
      | cons h t =>
        cases t
        obtain ⟨b, rfl, y⟩ := h
        exact ⟨b, rfl, y⟩
    have m62 : m ≤ 63 := by
      have := Nat.zero_le ((n - 1) * g)
      omega
    have sG : Sm G := bG.mono (by omega) (by omega)
    have sF : Sm F := bF.mono (by omega) (by omega)
    have isF : K37.IsD F D := ⟨by
      rw [hF]
      exact one_neX, fun i hi => bF.dlt i (by omega)⟩
    have hiF : K37.hi F = (D : Int) := by rw [K37.hi_ne isF.ne, isF.dg]
    refine ⟨by show 0 ≤ sizeLine; decide, fun LN hLN => ?_⟩
    have nLN := hLN
    have s1 := same_upd_new (o := .lst []) hLN
    have hl1 : upd H LN (.lst []) LN = some (.lst []) := upd_same
    generalize upd H LN (.lst []) = H1 at s1 hl1 ⊢
    intro FD hFD
    have s2 := same_upd_new (o := .dK []) hFD
    have hf2 : upd H1 FD (.dK []) FD = some (.dK []) := upd_same
    have hl2 := s2 _ _ hl1
    have nFD : H FD = none := by
      cases w : H FD with
      | none => rfl
      | some o =>
        rw [s1 _ _ w] at hFD
        cases hFD
    have s02 := s1.trans s2
    generalize upd H1 FD (.dK []) = H2 at s02 hf2 hl2 ⊢
    refine ⟨_, _, rfl, ?_⟩
    refine ⟨_, rfl, l, _, rfl, SqL.of (s02 _ _ hl), ?_⟩
    refine for_it (walk_enum (xs := [.ref b])) (fun j σ' H' => ∃ (x5 x6 x7 x8 x9 : Option V) (rs : List (Rw p)), σ' = [some (.int p), some (.ref a), some (.ref l), some (.ref LN), some (.ref FD), x5, x6, x7, x8, x9] ∧ Same H H' ∧ H' FD = some (.dK []) ∧ LR p H' LN rs ∧ ((j = 0 ∧ rs = []) ∨ (j = 1 ∧ Rows0 p F G D δ D rs)))
      ⟨none, none, none, none, none, [], rfl, s02, hf2, ⟨[], hl2, .nil⟩, .inl ⟨rfl, rfl⟩⟩ (fun _ _ _ _ w => let ⟨_, _, _, _, _, _, _, w, _⟩ := w; SqL.of (w _ _ hl)) ?_ ?_
    · rintro j v σ' H3' H3 hj ⟨x5, x6, x7, x8, x9, rs, rfl, s3, hf3, Ln3, hrs⟩ ⟨T, v1, v2, rfl, hT', rfl, hv1, hv2⟩
      have j0 : j = 0 := Nat.lt_one_iff.mp hj
      subst j0
      cases hv1
      cases hv2
      obtain rfl : rs = [] := hrs.elim (fun w => w.2) fun w => absurd w.1 (by decide)
      have sT := same_upd_new (o := .tup [.int ((0 : Nat) : Int), .ref b]) hT'
      refine ⟨T, _, rfl, SqT.of upd_same, rfl, _, _, rfl, _, _, rfl, rfl, ?_⟩
      have hf4 := sT _ _ hf3
      have Ln4 := Ln3.same sT
      have s04 := s3.trans sT
      generalize upd H3' T (.tup [.int ((0 : Nat) : Int), .ref b]) = H4 at sT hf4 Ln4 s04 ⊢
      refine ⟨_, rfl, ?_⟩
      refine highy_y (hA.same s04) sF fun H5 s5 => ?_
      rw [hiF]
      refine ⟨_, rfl, by omega, by omega, ?_⟩
      rw [Int.toNat_natCast]
      refine for_it walk_range0 (fun k σ' H' => ∃ (x7 x8 x9 : Option V) (rs : List (Rw p)), σ' = [some (.int p), some (.ref a), some (.ref l), some (.ref LN), some (.ref FD), some (.int ((0 : Nat) : Int)), some (.ref b), x7, x8, x9] ∧ Same H H' ∧ H' FD = some (.dK []) ∧ LR p H' LN rs ∧ Rows0 p F G D δ k rs)
        ⟨x7, x8, x9, [], rfl, s04.trans s5, s5 _ _ hf4, Ln4.same s5, ⟨fun i hi => absurd hi (Nat.not_lt_zero i), (fun x hx => nomatch hx), (fun x hx => nomatch hx), Nat.le_refl _⟩⟩ (fun _ _ _ _ _ => True.intro) ?_ ?_
      · rintro k v σ' H6' H6 hk ⟨x7', x8', x9', rs, rfl, s6, hf6, Ln6, R0⟩ ⟨rfl, rfl⟩
        refine ⟨_, rfl, _, rfl, _, rfl, ?_⟩
        refine raised_y (yb.same s6) sG fun H7 q7 s7 n7 y7 => ⟨_, rfl, ?_⟩
        have bg : m + (n + k - D) * g ≤ δ + 1 := by
          have := Nat.mul_le_mul_right g (show n + k - D ≤ n - 1 by omega)
          omega
        refine divY_y hp y7 (hA.same (s6.trans s7)) hF bF (bd_raise bG k) (by omega) (by omega) (by omega) (by omega) hT fun H8 q8 a1 a2 U R s8 hq8 _ _ yU yR eR bR bU => ?_
        refine ⟨q8, _, _, _, rfl, rfl, SqT.of hq8, at1, ?_⟩
        refine ⟨_, rfl, fun e he => ?_⟩
        have s9 := same_upd_new (o := .dT []) he
        obtain ⟨ts, et, kt⟩ := id yR
        refine ⟨_, _, ts, rfl, rfl, s9 _ _ et, upd_same, _, rfl, ?_⟩
        have s69 := s7.trans (s8.trans s9)
        have hf9 := s69 _ _ hf6
        have Ln9 := Ln6.same s69
        have yR9 := yR.same s9
        have s09 := s6.trans s69
        generalize upd H8 e (.dT []) = H9 at s9 s69 hf9 Ln9 yR9 s09 ⊢
        by_cases z : ts = []
        · have z0 : R = 0 := kt.eq_nil.mp z
          rw [decide_eq_true z]
          refine iteF ?_
          rw [z0] at eR
          exact ⟨_, _, _, rs, rfl, s09, hf9, Ln9, R0.skip eR⟩
        · rw [decide_eq_false z]
          refine iteT ?_
          obtain ⟨rv, hrv, prv⟩ := id Ln9
          have lrv : rv.length ≤ 3 := by
            rw [prv.length]
            have := R0.len
            omega
          refine ⟨_, rfl, .inl ⟨rfl, _, SqL.of hrv⟩, _, rfl, fun d hd => ?_⟩
          have s10 := same_upd_new (o := .dK []) hd
          have hd10 : upd H9 d (.dK []) d = some (.dK []) := upd_same
          generalize hH10 : upd H9 d (.dK []) = H10 at s10 hd10 ⊢
          refine ⟨_, rfl, ?_⟩
          refine disp_y 0 k 1 (fun H3 Q3 s3 q3 => ⟨_, rfl, by show 2 ≤ sizeLine; decide, fun e he => q3 _ e (same_upd_new he) upd_same⟩) (fun H3 Q3 s3 q3 => q3 _ (Same.refl _)) fun H11 c11 s11 n11 e11 => ?_
          have y11 : YAtP p H11 c11 (K37.Ly ^ k) := ⟨_, e11, by
            rw [← tm_Ly]
            exact Bk.one hp1 _⟩
          refine ⟨s11 _ _ hd10, [(.inl 0, .ref c11)], rfl, by show 1 ≤ 15; decide, ?_⟩
          have s12 : Same H9 (upd H11 d (.dK (mergeK [] [(.inl 0, .ref c11)]))) := same_free (s10.trans s11) hd
          have hd12 : upd H11 d (.dK (mergeK [] [(.inl 0, .ref c11)])) d = some (.dK [(.inl 0, .ref c11)]) := upd_same
          have y12 : YAtP p (upd H11 d (.dK (mergeK [] [(.inl 0, .ref c11)]))) c11 (K37.Ly ^ k) := by
            obtain ⟨us, eu, ku⟩ := y11
            have hd11 := s11 _ _ hd10
            exact ⟨us, by
              show upd _ _ _ c11 = _
              rw [upd_ne (ne_of eu hd11 (fun z => nomatch z))]
              exact eu, ku⟩
          generalize upd H11 d (.dK (mergeK [] [(.inl 0, .ref c11)])) = H12 at s12 hd12 y12 ⊢
          refine ⟨by show 2 ≤ sizeLine; decide, fun r hr' => ?_⟩
          have s13 := same_upd_new (o := .tup [.ref a2, .ref d]) hr'
          have row : RowAt p (upd H12 r (.tup [.ref a2, .ref d])) r R (K37.Ly ^ k) := ⟨a2, d, c11, upd_same, yR9.same (s12.trans s13), s13 _ _ hd12, y12.same s13⟩
          have s913 := s12.trans s13
          have hrv13 := s913 _ _ hrv
          have hf13 := s913 _ _ hf9
          have prv13 := paired_imp (fun _ _ q => q.same s913) prv
          have s013 := s09.trans s913
          generalize upd H12 r (.tup [.ref a2, .ref d]) = H13 at row hrv13 hf13 prv13 s013 ⊢
          have off := off_upd (o := .lst (rv ++ [.ref r])) hrv13
          refine ⟨LN, rv, _, rfl, rfl, hrv13, sm_line (by omega), ?_⟩
          refine ⟨_, _, _, rs ++ [(R, K37.Ly ^ k)], rfl, same_free s013 nLN, off.dict hf13, ⟨_, upd_same, paired_snoc (paired_imp (fun _ _ q => q.off off) prv13) ⟨r, rfl, row.off off⟩⟩, R0.more eR (bR.mono bg (Nat.le_refl _)) ((bd_Lyp k).mono (Nat.le_refl _) (by omega))⟩
      · rintro σ' H6 ⟨x7', x8', x9', rs, rfl, s6, hf6, Ln6, R0⟩
        exact ⟨_, _, _, _, _, rs, rfl, s6, hf6, Ln6, .inr ⟨rfl, R0⟩⟩
    · rintro σ' H3 ⟨x5, x6, x7, x8, x9, rs, rfl, s3, hf3, Ln3, hrs⟩
      have R0 := (hrs.resolve_left fun w => absurd w.1 (show ¬ (1 = 0) by decide)).2
      refine ⟨_, rfl, ?_⟩
      refine highy_y (hA.same s3) sF fun H4 s4 => ⟨_, _, rfl, rfl, _, rfl, _, rfl, _, _, _, D, rfl, ?_, ?_⟩
      · rw [hiF]
        have := RgC.neg (i := (D : Int) - 1) (j := -1) (by omega) (by omega) (by omega) (by omega)
        rw [show ((D : Int) - 1 - -1).toNat = D by omega] at this
        exact this
      rw [hiF]
      have lrs : rs.length ≤ D := R0.len
      refine for_it walk_rangeD (fun t σ' H' => ∃ (x5 x6 x7 x8 x9 : Option V) (ln : Addr) (pv : Nat → Pv p) (ys : List (Rw p)) (δ τ : Nat), σ' = [some (.int p), some (.ref a), some (.ref l), some (.ref ln), some (.ref FD), x5, x6, x7, x8, x9] ∧ Same H H' ∧ H' FD = some (.dK (fnd D pv t)) ∧
          LR p H' ln ys ∧ GoodP H' D pv t ∧ K37.SpEq (rs.map (·.1)) (pws pv t ++ ys.map (·.1)) ∧ Lv D ys.length δ τ ∧ (∀ x, x ∈ ys → Bd x.1 (δ + 1) (D - t) ∧ Bd x.2 (τ + 1) D))
        ⟨x5, x6, x7, x8, x9, LN, fun _ => none, rs, δ, 0, rfl, s3.trans s4, s4 _ _ hf3, Ln3.same s4, fun i hi => absurd hi (Nat.not_lt_zero i), .refl _, lv.mono lrs, fun x hx => R0.bd x hx⟩ (fun _ _ _ _ _ => True.intro) ?_ ?_
      · rintro t v σ' H5' H5 ht ⟨x5, x6, x7, x8, x9, ln, pv, ys, δ1, τ1, rfl, s5, hf5, Ln5, gp5, sp5, lv5, bd5⟩ ⟨rfl, rfl⟩
        have ek : D - t = D - 1 - t + 1 := by omega
        rw [ek] at bd5
        obtain ⟨δ2, τ2, q1, q2, q3, q4, q5, q6⟩ := lv5.step (show D - 1 - t < D by omega)
        have ly : ys.length ≤ 100 := by
          rcases lv5 with ⟨q, _⟩ | ⟨_, q, _⟩ | ⟨_, q, _⟩ | ⟨_, q, _⟩ <;> omega
        have newkey := fnd_new pv ht
        generalize hk : D - 1 - t = k at bd5 q5 newkey
        refine ⟨_, rfl, _, rfl, _, rfl, wr ⟨p, ne, ln, k, D, δ1, τ1, δ2, τ2, ys, ?_, hp, Ln5, bd5, ly, q1, q2, q3, by omega, by omega, by omega, q5, ?_⟩⟩
        · show [V.int (p : Int), V.ref ln, V.int ((D - 1 - t : Nat) : Int)] = _
          rw [hk]
        intro H6 q v l2 ws rest s6 hq Lr hws sp len bdr bd0
        refine ⟨q, _, rfl, SqT.of hq, rfl, _, _, rfl, _, _, rfl, rfl, ?_⟩
        have hf6 := s6 _ _ hf5
        have s06 := s5.trans s6
        rcases hws with ⟨rfl, rfl⟩ | ⟨x, rfl, ⟨r, rfl, hrow⟩, xz, xb1, xb2⟩
        · refine ⟨_, rfl, _, rfl, ?_⟩
          refine iteF ?_
          refine ⟨_, _, _, _, _, l2, setP pv t none, rest, δ1, τ1, rfl, s06, ?_, Lr, (gp5.same s6).set (fun z hz => nomatch hz), ?_, lv5.mono (by simpa using len), fun x hx => ?_⟩
          · rw [fnd_set, List.append_nil]
            exact hf6
          · rw [pws_set]
            refine sp5.trans ((K37.SpEq.append (.refl _) sp).trans (.of (fun z hz => ?_) fun z hz => ?_))
            · refine K37.Sp.mem ?_
              simp only [List.mem_append, List.map_nil, List.nil_append] at hz ⊢
              grind
            · simp only [List.mem_append, List.mem_singleton] at hz
              rcases hz with (m | m) | m
              · exact K37.Sp.mem (by simp [m])
              · rw [m]
                exact K37.Sp.zero _
              · exact K37.Sp.mem (by simp only [List.mem_append, List.map_nil, List.nil_append]; exact .inr m)
          · have := bd0 rfl x hx
            rw [show D - (t + 1) = k by omega]
            exact this
        · refine ⟨_, rfl, _, rfl, ?_⟩
          refine iteT ?_
          refine ⟨_, rfl, _, rfl, _, rfl, FD, _, rfl, .inl ⟨_, .inl (k : Int), hf6, ?_, ?_, rfl⟩, ?_⟩
          · show V.int ((D - 1 - t : Nat) : Int) = V.int (k : Int)
            rw [hk]
          · refine sm_line (Nat.le_trans (List.length_filterMap_le _ _) ?_)
            rw [List.length_range]
            omega
          rw [putK_new _ newkey]
          have gp6 := gp5.same s6
          have keep : ∀ r' R' T', RowAt p H6 r' R' T' → RowAt p (upd H6 FD (.dK (fnd D pv t ++ [(.inl (k : Int), .ref r)]))) r' R' T' := fun r' R' T' w => row_upd hf6 gp6 w
          refine ⟨_, _, _, _, _, l2, setP pv t (some (x, r)), rest, δ2, τ2, rfl, same_free s06 nFD, ?_, ?_, (gp6.off (A := FD) keep).set (fun z hz => ?_), ?_, q6 _ (by simpa [Nat.add_comm] using len), fun y hy => ?_⟩
          · rw [upd_same, fnd_set, hk]
          · obtain ⟨rv, hrv, prv⟩ := Lr
            refine ⟨rv, by rw [upd_ne (ne_of hrv hf6 (fun z => nomatch z))]; exact hrv, paired_imp (fun _ _ q => ?_) prv⟩
            obtain ⟨r', e', w'⟩ := q
            exact ⟨r', e', keep _ _ _ w'⟩
          · cases hz
            rw [hk]
            exact ⟨keep _ _ _ hrow, xz, xb1.mono (by omega) (Nat.le_refl _), xb2.mono (by omega) (Nat.le_refl _)⟩
          · rw [pws_set]
            refine sp5.trans ((K37.SpEq.append (.refl _) sp).trans (.perm fun z => ?_))
            simp only [List.mem_append, List.map_cons, List.map_nil, List.mem_cons, List.not_mem_nil, or_false]
            grind
          · have := bdr y hy
            rw [show D - (t + 1) = k by omega]
            exact this
      · rintro σ' H5 ⟨x5, x6, x7, x8, x9, ln, pv, ys, δ1, τ1, rfl, s5, hf5, Ln5, gp5, sp5, lv5, bd5⟩
        refine ⟨_, rfl, ?_⟩
        have yz : ∀ x, x ∈ ys → x.1 = 0 := fun x hx => by
          have := (bd5 x hx).1
          rw [Nat.sub_self] at this
          exact K37.dlt_zero_iff.mp this.dlt
        have spz : K37.SpEq (rs.map (·.1)) (pws pv D) := sp5.trans (.of (fun z hz => by
          rcases List.mem_append.mp hz with m | m
          · exact K37.Sp.mem m
          · obtain ⟨x, hx, e⟩ := List.mem_map.mp m
            rw [← e, yz x hx]
            exact K37.Sp.zero _) fun z hz => K37.Sp.mem (List.mem_append_left _ hz))
        refine fin _ FD pv s5 hf5 gp5 (fun k hk => ?_) fun z hz => ?_
        · obtain ⟨u, hu'⟩ := R0.all k hk
          exact ⟨u, (spz _).mp hu'⟩
        · refine K37.Id.span (fun a ha => ?_) ((spz z).mpr hz)
          obtain ⟨x, hx, e⟩ := List.mem_map.mp ha
          rw [← e]
          exact R0.id x hx
end
end L2.K37R
end W26
section W27
set_option autoImplicit false
set_option linter.all false
set_option maxRecDepth 100000
namespace L2.K37R
open PySem PySem.Spec PyProof.Rows C8
open K37 (S2 Pl)

section
variable {P : Program} {w : World} {K : PySem.W.Frag} {mg : Str → Option Value} {base : Heap}
theorem YAtP.fresh {H H' : Hp} {q : Addr} (s : Same H H') (h : H' q = none) : H q = none := by
  cases w : H q with
  | none => rfl
  | some o =>
    rw [s _ _ w] at h
    cases h
abbrev sNumberIn : Stmt := top 52
def spNumberIn : Sp := fun vs H Q _ => ∃ (p : Nat) (_ : NeZero p) (a : Addr) (F : S2 (Fq p)), vs = [.int p, .ref a] ∧ Pr p ∧ YAtP p H a F ∧ Sm F ∧ F ≠ 0 ∧ cf F (0, K37.dg F) ≠ 0 ∧
  ∀ H' c, Same H H' → 0 < c → c < (p : Int) → red (p := p) c * cf F (0, K37.dg F) = 1 → Q (.int c) H'
theorem scNumberIn : FnScope ["prime", "book"] ["prime", "book"] (defScope sNumberIn) := ⟨rfl, rfl, rfl, by decide +kernel, rfl, by decide +kernel, by decide +kernel⟩
theorem ok_numberIn {f : Addr} {fd : FuncData} (F : FnP K "number_in" sNumberIn f fd) (cH : Cal P w K mg base 1 "highest" (Wr spHighest) []) (cB : Cal P w K mg base 1 "back_of" (Wr spBack) []) : FnOk P w K mg base CX0 2 f fd ["prime", "book"] (Wr spNumberIn) := by
  refine FnOk.imp (sp := spNumberIn) ?_ fun _ _ _ _ h => un_wr h
  refine okP F scNumberIn (fun vs H Q E h => ?_) (fun cdv A outer s H vs Q E hr h => ?_)
  · obtain ⟨p, ne, a, F, rfl, _⟩ := h
    rfl
  · obtain ⟨p, ne, a, F, rfl, hp, hA, sF, F0, hz, k⟩ := h
    have hu := hu_of hr
    have nd := scNumberIn.nd
    have ns : ∀ (e1 e2 : Expr) (x : Pos) (kk : Nat), NoSl (.Tuple [e1, e2] kk x) := fun _ _ _ _ _ _ => rfl
    refine ⟨_, pss_one (ps_ret (pe_c cB hr (by decide) (by rfl) (pa_cons (pv 0) (pa_cons (pe_dget hu (pv 1) (pe_tup (pa_cons pe_int (pa_cons (pe_c cH hr (by decide) (by rfl) (pa_cons (pv 1) (pa_cons pe_int pa_nil))) pa_nil))) (fun _ _ => rfl)) pa_nil)))), ?_⟩
    refine ⟨_, rfl, _, rfl, _, rfl, ?_⟩
    refine highy_y hA sF fun H1 s1 => ?_
    rw [K37.hi_ne F0]
    refine ⟨by show 2 ≤ sizeLine; decide, fun c hc => ?_⟩
    have sc := same_upd_new (o := .tup [.int 0, .int (K37.dg F : Int)]) hc
    refine ⟨a, _, rfl, dget_y (q := (0, K37.dg F)) hA (s1.trans sc) upd_same hz, ?_⟩
    refine back_y hp (by rw [red_of_val]; exact hz) fun H2 c2 s2 h0 h1 h2 => ?_
    rw [red_of_val] at h2
    exact k _ _ (s1.trans (sc.trans s2)) h0 h1 h2

abbrev sTurned : Stmt := top 47
def spTurned (K : PySem.W.Frag) : Sp := fun vs H Q _ => ∃ (p : Nat) (_ : NeZero p) (l : Addr) (v : V) (t : Tn) (Fs : List (S2 (Fq p))), vs = [.int p, .ref l, v] ∧ Pr p ∧ BL p H l Fs ∧ Fs.length ≤ 100 ∧ TnAt K H v t ∧ (t ≠ .non → ∀ F, F ∈ Fs → Sm F ∧ ∃ m n, Okt t m n ∧ Bd F m n) ∧
  ∀ H' q, Same H H' → BL p H' q (Fs.map (act t)) → Q (.ref q) H'
theorem scTurned : FnScope ["prime", "books", "turn", "book"] ["prime", "books", "turn"] (defScope sTurned) := ⟨rfl, rfl, rfl, by decide +kernel, rfl, by decide +kernel, by decide +kernel⟩
theorem ok_turned {f : Addr} {fd : FuncData} (F : FnP K "turned_books" sTurned f fd) (cT : Cal P w K mg base 3 "turn_book" (Wr (spTurnBook K)) []) : FnOk P w K mg base CX0 4 f fd ["prime", "books", "turn"] (Wr (spTurned K)) := by
  refine FnOk.imp (sp := spTurned K) ?_ fun _ _ _ _ h => un_wr h
  refine okP F scTurned (fun vs H Q E h => ?_) (fun cdv A outer s H vs Q E hr h => ?_)
  · obtain ⟨p, ne, l, v, t, Fs, rfl, _⟩ := h
    rfl
  · obtain ⟨p, ne, l, v, t, Fs, rfl, hp, hL, hl, ht, ok, k⟩ := h
    have nd := scTurned.nd
    obtain ⟨xs, hxs, pxs⟩ := id hL
    have lxs : xs.length = Fs.length := pxs.length
    refine ⟨_, pss_one (ps_ret (pe_ifExp (pt_cmp (pc_isN (pv 2)) (by with_unfolding_all rfl)) (pv 1) (pe_lc (own := [("book", 3)]) (g := gName 3) (tt := tYes) rfl nd (pi_list (pv 1)) (blkOk_by (N := ["prime", "books", "turn", "book"]) (sc := defScope sTurned) (by decide +kernel))
      (fun _ _ _ _ _ => pg_name (i := 3) nd rfl (Or.inl rfl)) (fun _ _ _ _ _ => pts_nil) (fun _ _ _ _ _ => pe_c cT (hr : Room _ _) (by decide) (by rfl) (pa_cons (pv 0) (pa_cons (pv 3) (pa_cons (pv 2) pa_nil))))))), ?_⟩
    refine ⟨_, rfl, _, rfl, ?_⟩
    by_cases hv : v = .non
    · have t0 : t = .non := by
        cases t with
        | non => rfl
        | swap =>
          obtain ⟨a, e, _⟩ := ht
          rw [hv] at e
          cases e
        | slide n =>
          obtain ⟨a, e, _⟩ := ht
          rw [hv] at e
          cases e
        | back n =>
          obtain ⟨a, e, _⟩ := ht
          rw [hv] at e
          cases e
      rw [decide_eq_true hv]
      refine iteT ⟨_, rfl, k _ l (Same.refl _) ?_⟩
      rw [t0]
      have : Fs.map (act Tn.non) = Fs := List.map_id' _
      rw [this]
      exact hL
    · have t0 : t ≠ .non := fun z => by
        rw [z] at ht
        exact hv ht
      rw [decide_eq_false hv]
      refine iteF ⟨_, rfl, l, rfl, ⟨_, SqL.of hxs⟩, fun D hD => ?_⟩
      refine lc_gen (walk_list (xs := xs)) hD (sm_line (by omega)) (fun _ => true) (fun i v H'' => VY p D v H'' (act t (Fs.getD i 0))) (fun i v _ _ o w => w.off o) (fun H'' s'' => SqL.of (s'' _ _ hxs)) ?_ ?_
      · rintro i x H1' H1 Q' S' hi s1 ⟨acc, hacc⟩ ⟨rfl, hx⟩ yes no
        obtain ⟨F1, e1, a, rfl, ya⟩ := paired_at pxs hx
        obtain ⟨sF, m, n, okt, bF⟩ := ok t0 F1 (List.mem_of_getElem? e1)
        refine ⟨wipe_set _ 3 _, tyes ⟨_, rfl, _, rfl, _, rfl, wr ⟨p, ne, a, v, t, F1, m, n, rfl, hp, ya.same s1, ht.same s1, okt, sF, bF, fun H2 q s2 n2 y2 => ?_⟩⟩⟩
        refine yes _ _ rfl s2 ⟨q, rfl, fun z => ?_, ?_⟩
        · rw [z, hacc] at n2
          cases n2
        · rw [List.getD, e1]
          exact y2
      · intro H1 zs s1 dz pz
        have L := bl_of dz pz
        rw [lxs, filter_all, map_getD (fun F => act t F)] at L
        exact k _ D s1 L
end
end L2.K37R
end W27
section W28
set_option autoImplicit false
set_option linter.all false
set_option maxRecDepth 100000
namespace L2.K37R
open PySem PySem.Spec PyProof.Rows C8
open K37 (S2 Pl)

theorem BL.one {p : Nat} [NeZero p] {H : Hp} {l : Addr} {F : S2 (Fq p)} (h : BL p H l [F]) : ∃ a, H l = some (.lst [.ref a]) ∧ YAtP p H a F := by
  obtain ⟨xs, e, k⟩ := h
  cases k with
  | cons a t =>
    cases t
    obtain ⟨a, rfl, y⟩ := a
    exact ⟨a, e, y⟩
section
variable {P : Program} {w : World} {K : PySem.W.Frag} {mg : Str → Option Value} {base : Heap}
abbrev sSumOf : Stmt := top 46
def spSumOf : Sp := fun vs H Q _ => ∃ (p : Nat) (_ : NeZero p) (l m : Addr) (U G : S2 (Fq p)) (u v : Nat), vs = [.int p, .ref l, .ref m] ∧ Pr p ∧ BL p H l [U] ∧ BL p H m [G] ∧ Few U u ∧ Few G v ∧ u * v ≤ 3000 ∧ Sm (U * G) ∧ ∀ H' q, Same H H' → YAtP p H' q (U * G) → Q (.ref q) H'
theorem scSumOf : FnScope ["prime", "one", "other", "found", "here", "there"] ["prime", "one", "other"] (defScope sSumOf) := ⟨rfl, rfl, rfl, by decide +kernel, rfl, by decide +kernel, by decide +kernel⟩
theorem ok_sumOf {f : Addr} {fd : FuncData} (F : FnP K "sum_of" sSumOf f fd) (B : Bare mg) (cA1 : Cal P w K mg base 1 "added" (Wr spAdded) [.int 1]) (cP : Cal P w K mg base 1 "product" (Wr spProduct) []) : FnOk P w K mg base CX0 2 f fd ["prime", "one", "other"] (Wr spSumOf) := by
  refine FnOk.imp (sp := spSumOf) ?_ fun _ _ _ _ h => un_wr h
  refine okP F scSumOf (fun vs H Q E h => ?_) (fun cdv A outer s H vs Q E hr h => ?_)
  · obtain ⟨p, ne, l, m, U, G, u, v, rfl, _⟩ := h
    rfl
  · obtain ⟨p, ne, l, m, U, G, u, v, rfl, hp, hU, hG, fU, fG, huv, sUG, k⟩ := h
    have nd := scSumOf.nd
    refine ⟨_, pss_cons (ps_set (i := 3) nd rfl (.inl rfl) pe_dnewT)
      (pss_cons (ps_for PassesOwn.never rfl (pi_zip (by rfl) B.zip (pa_cons (pv 1) (pa_cons (pv 2) pa_nil))) (pg_tup rfl (pgs_cons (pg_name (i := 4) nd rfl (.inl rfl)) (pgs_cons (pg_name (i := 5) nd rfl (.inl rfl)) pgs_nil)))
        (pss_one (ps_set (i := 3) nd rfl (.inl rfl) (pe_c cA1 hr (by decide) (by rfl) (pa_cons (pv 0) (pa_cons (pv 3) (pa_cons (pe_c cP hr (by decide) (by rfl) (pa_cons (pv 0) (pa_cons (pv 4) (pa_cons (pv 5) pa_nil)))) pa_nil)))))))
      (pss_one (ps_ret (pv 3)))), ?_⟩
    obtain ⟨a, hl, ya⟩ := hU.one
    obtain ⟨b, hm, yb⟩ := hG.one
    intro e he
    have s1 := same_upd_new (o := .dT []) he
    have y1 : YAtP p (upd H e (.dT [])) e 0 := .nil upd_same
    generalize upd H e (.dT []) = H1 at s1 y1 ⊢
    refine ⟨_, rfl, _, rfl, l, m, _, _, rfl, SqL.of (s1 _ _ hl), SqL.of (s1 _ _ hm), ?_⟩
    refine for_it (walk_zip (xs := [.ref a]) (ys := [.ref b]) (n := 1) rfl) (fun j σ' H' => ∃ (q : Addr) (x4 x5 : Option V), σ' = [some (.int p), some (.ref l), some (.ref m), some (.ref q), x4, x5] ∧ Same H H' ∧ ((j = 0 ∧ YAtP p H' q 0) ∨ (j = 1 ∧ YAtP p H' q (U * G))))
      ⟨e, none, none, rfl, s1, .inl ⟨rfl, y1⟩⟩ (fun _ _ _ _ w => let ⟨_, _, _, _, w, _⟩ := w; ⟨SqL.of (w _ _ hl), SqL.of (w _ _ hm)⟩) ?_ ?_
    · rintro j x σ' H2' H2 hj ⟨q, x4, x5, rfl, s2, hq⟩ ⟨T, v1, v2, rfl, hT, rfl, hv1, hv2⟩
      have j0 : j = 0 := Nat.lt_one_iff.mp hj
      subst j0
      cases hv1
      cases hv2
      have y2 := (hq.resolve_right fun w => absurd w.1 (show ¬ (0 = 1) by decide)).2
      have sT := same_upd_new (o := .tup [.ref a, .ref b]) hT
      have s3 := s2.trans sT
      refine ⟨T, _, rfl, SqT.of upd_same, rfl, _, _, rfl, _, _, rfl, rfl, _, rfl, _, rfl, _, rfl, _, rfl, _, rfl, ?_⟩
      refine product_n hp (ya.same s3) (yb.same s3) fU fG huv fun H4 q4 s4 n4 y4 => ?_
      refine plus_y hp ((y2.same sT).same s4) y4 (Bd.zero _ _) sUG fun H5 q5 s5 n5 y5 => ?_
      rw [show (0 : S2 (Fq p)) + U * G = U * G by grind] at y5
      exact ⟨q5, _, _, rfl, s3.trans (s4.trans s5), .inr ⟨rfl, y5⟩⟩
    · rintro σ' H2 ⟨q, x4, x5, rfl, s2, hq⟩
      exact ⟨_, rfl, k _ q s2 (hq.resolve_left fun w => absurd w.1 (show ¬ (1 = 0) by decide)).2⟩
end
end L2.K37R
end W28
section W29
set_option autoImplicit false
set_option linter.all false
set_option maxRecDepth 100000
namespace L2.K37R
open PySem PySem.Spec PyProof.Rows C8
open K37 (S2 Pl)
section
variable {P : Program} {w : World} {K : PySem.W.Frag} {mg : Str → Option Value} {base : Heap}
abbrev sFilled : Stmt := top 53
abbrev nFilled : List Str := ["prime", "first", "others", "multiples", "found", "left", "spot"]
def spFilled : Sp := fun vs H Q _ => ∃ (p : Nat) (_ : NeZero p) (a l d c : Addr) (F G T : S2 (Fq p)) (D m n g t : Nat), vs = [.int p, .ref a, .ref l, .ref d] ∧ Pr p ∧ YAtP p H a F ∧ BL p H l [G] ∧ H d = some (.dK [(.inl 0, .ref c)]) ∧ YAtP p H c T ∧ F.co D = 1 ∧ Bd F (g + 1) (D + 1) ∧ Bd G m n ∧ Bd T t D ∧ g < 63 ∧ 1 ≤ m ∧ 1 ≤ n ∧ 1 ≤ t ∧ 1 ≤ D ∧ n + D ≤ 255 ∧
  t + m - 1 + (n - 1) * g ≤ 63 ∧ 63 * ((g + 1) * (D + 1)) ≤ 3000 ∧ t * D * (m * n) ≤ 3000 ∧ ∀ H' q U R, Same H H' → BL p H' q [U, R] → Bd U (t + m - 1 + (n - 1) * g) (n + D - 1) → Bd R t D → Q (.ref q) H'
theorem scFilled : FnScope nFilled ["prime", "first", "others", "multiples"] (defScope sFilled) := ⟨rfl, rfl, rfl, by decide +kernel, rfl, by decide +kernel, by decide +kernel⟩
theorem ok_filled {f : Addr} {fd : FuncData} (F : FnP K "filled_up" sFilled f fd) (B : Bare mg) (cA : Cal P w K mg base 1 "added" (Wr spAdded) []) (cD : Cal P w K mg base 2 "divide_in_y" (Wr spDivY) []) (cS : Cal P w K mg base 2 "sum_of" (Wr spSumOf) []) : FnOk P w K mg base CX0 3 f fd ["prime", "first", "others", "multiples"] (Wr spFilled) := by
  refine FnOk.imp (sp := spFilled) ?_ fun _ _ _ _ h => un_wr h
  refine okP F scFilled (fun vs H Q E h => ?_) (fun cdv A outer s H vs Q E hr h => ?_)
  · obtain ⟨p, ne, a, l, d, c, F, G, T, D, m, n, g, t, rfl, _⟩ := h
    rfl
  · obtain ⟨p, ne, a, l, d, c, F, G, T, D, m, n, g, t, rfl, hp, hA, hL, hd, hT, hF, bF, bG, bT, hg, hm1, hn1, ht1, hD1, hnD, hW, hX, hY, k⟩ := h
    have nd := scFilled.nd
    have hu := hu_of hr
    have hu1 := Nat.lt_of_succ_lt hu
    refine ⟨_, pss_cons (ps_setLc (i := 4) (own := [("spot", 6)]) (g := gName 6) (tt := tYes) rfl nd rfl rfl (sw_true rfl rfl rfl rfl) (pi_range1 (by rfl) B.range (pa_cons (pe_callB call_len_seq (by rfl) B.len (by decide +kernel) (pa_cons (pv 2) pa_nil)) pa_nil)) (blkOk_by (N := nFilled) (sc := defScope sFilled) (by decide +kernel))
        (fun _ _ _ _ _ => pg_name (i := 6) nd rfl (Or.inl rfl)) (fun _ _ _ _ _ => pts_nil)
        (fun _ _ _ _ _ => pe_it (K := K) (pe_c cD (hr : Room _ _) (by decide) (by rfl) (pa_cons (pv 0) (pa_cons (pe_dget2 hu (pv 3) (pv 6) pe_dnewT ⟨rfl, rfl, rfl, rfl⟩) (pa_cons (pv 1) pa_nil)))) pe_int))
      (pss_cons (ps_set (i := 5) nd rfl (.inl rfl) (pe_c cA hr (by decide) (by rfl) (pa_cons (pv 0) (pa_cons (pe_dispT hu1 (pe_tup (pa_cons pe_int (pa_cons pe_int pa_nil))) pe_int) (pa_cons (pe_c cS hr (by decide) (by rfl) (pa_cons (pv 0) (pa_cons (pv 4) (pa_cons (pv 2) pa_nil)))) (pa_cons (pe_un un_neg pe_int) pa_nil))))))
      (pss_one (ps_ret (pe_lst (pa_cons (pe_it (K := K) (pe_c cD hr (by decide) (by rfl) (pa_cons (pv 0) (pa_cons (pv 5) (pa_cons (pv 1) pa_nil)))) pe_int) (StX.pa_star (pv 4) pa_nil)))))), ?_⟩
    obtain ⟨hp1, hp7⟩ := pr17 hp
    obtain ⟨b, hl, yb⟩ := hL.one
    have t63 : t + m ≤ 64 := by
      have := Nat.zero_le ((n - 1) * g)
      omega
    refine ⟨_, rfl, l, _, rfl, .inl (SqL.of hl), 1, rfl, by decide, by decide, fun D1 hD1' => ?_⟩
    refine lc_gen walk_range0 hD1' (by decide) (fun _ => true) (fun i v H'' => ∃ R, VY p D1 v H'' R ∧ Bd R t D) (fun i v _ _ o ⟨R, w, z⟩ => ⟨R, w.off o, z⟩) (fun _ _ => True.intro) ?_ ?_
    · rintro i v H1' H1 Q' S' hi s1 ⟨acc, hacc⟩ ⟨rfl, rfl⟩ yes no
      obtain rfl : i = 0 := Nat.lt_one_iff.mp hi
      refine ⟨wipe_set _ 6 _, tyes ⟨_, rfl, _, rfl, d, rfl, .inl ⟨_, .inl (s1 _ _ hd)⟩, _, rfl, fun e he => ?_⟩⟩
      have s2 := same_upd_new (o := .dT []) he
      refine ⟨_, DGet.k (k := .inl 0) (s2 _ _ (s1 _ _ hd)), _, rfl, ?_⟩
      have s12 := s1.trans s2
      refine divY_y hp (hT.same s12) (hA.same s12) hF bF bT (by omega) (by omega) (by omega) (by
        rw [Nat.sub_self, Nat.zero_mul]
        omega) hX fun H3 q3 a1 a2 U R s3 hq3 n1 n2 yU yR eR bR bU => ?_
      rw [Nat.sub_self, Nat.zero_mul, Nat.add_zero] at bR
      refine ⟨q3, _, _, _, rfl, rfl, SqT.of hq3, at1, yes _ _ rfl (s2.trans s3) ⟨R, ⟨a2, rfl, fun z => ?_, yR⟩, bR⟩⟩
      rw [z, s2 _ _ hacc] at n2
      cases n2
    intro H1 zs s1 dz pz
    obtain ⟨r0, R0, rfl, yr, bR0⟩ : ∃ r0 R0, zs = [.ref r0] ∧ YAtP p H1 r0 R0 ∧ Bd R0 t D := by
      have pz : Paired (fun v i => ∃ R, VY p D1 v H1 R ∧ Bd R t D) zs [0] := pz
      cases pz with
      | cons x y =>
        cases y
        obtain ⟨R, ⟨r, rfl, _, yr⟩, z⟩ := x
        exact ⟨r, R, rfl, yr, z⟩
    have LB : BL p H1 D1 [R0] := ⟨_, dz, .cons ⟨r0, rfl, yr⟩ .nil⟩
    refine ⟨_, rfl, ?_⟩
    refine disp_c 0 0 1 fun H2 d2 s2 n2 e2 => ?_
    have y2 : YAtP p H2 d2 (1 : S2 (Fq p)) := ⟨_, e2, by
      have := Bk.one (p := p) hp1 (0, 0)
      rw [tm_00] at this
      exact this⟩
    have s12 := s1.trans s2
    have bRG : Bd (R0 * G) (t + m - 1) (n + D - 1) := (bR0.mul bG).mono (Nat.le_refl _) (by omega)
    have b1 : Bd (1 : S2 (Fq p)) 1 1 := by
      have := bd_C (A := (1 : RX p)) (K37.dlt.C 1)
      exact this
    refine ⟨_, rfl, _, rfl, _, rfl, wr ⟨p, ne, D1, l, R0, G, _, _, rfl, hp, LB.same s2, hL.same s12, few_bd bR0, few_bd bG, hY, bRG.mono (by omega) (by omega), fun H3 q3 s3 y3 => ⟨_, rfl, ?_⟩⟩⟩
    refine minus_y hp (y2.same s3) y3 (b1.mono (by decide) (by decide)) (bRG.mono (by omega) (by omega)) fun H4 q4 s4 n4 y4 => ?_
    have s14 := s12.trans (s3.trans s4)
    have bL : Bd (1 - R0 * G) (t + m - 1) (n + D - 1) := (b1.mono (by omega) (by omega)).sub bRG
    refine ⟨_, rfl, _, rfl, _, rfl, ?_⟩
    have en : n + D - 1 - D = n - 1 := by omega
    refine divY_y hp y4 (hA.same s14) hF bF bL (by omega) (by omega) (by omega) (by rw [en]; exact hW) hX fun H5 q5 a1 a2 U R s5 hq5 n1 n2' yU yR eR bR bU => ?_
    rw [en] at bU
    refine ⟨q5, _, _, _, rfl, rfl, SqT.of hq5, at0, ?_⟩
    have s25 := s2.trans (s3.trans (s4.trans s5))
    refine ⟨_, rfl, D1, _, rfl, .inr (SqL.of (s25 _ _ dz)), by show 2 ≤ sizeLine; decide, fun q hq => ?_⟩
    have sq := same_upd_new (o := .lst [.ref a1, .ref r0]) hq
    exact k _ q U R0 ((s14.trans s5).trans sq) ⟨_, upd_same, .cons ⟨a1, rfl, yU.same sq⟩ (.cons ⟨r0, rfl, yr.same (s25.trans sq)⟩ .nil)⟩ bU bR0
end
end L2.K37R
end W29
section R7
set_option autoImplicit false
set_option linter.all false
set_option maxRecDepth 100000
namespace L2.K37R
open PySem PySem.Spec PyProof.Rows PySem.W
theorem lt_tr : ∀ {x y z : List Int}, listLt x y = true → listLt y z = true → listLt x z = true
  | [], [], _, h, _ => nomatch h
  | [], _ :: _, [], _, h => nomatch h
  | [], _ :: _, _ :: _, _, _ => rfl
  | _ :: _, [], _, h, _ => nomatch h
  | _ :: _, _ :: _, [], _, h => nomatch h
  | a :: x, b :: y, c :: z, h1, h2 => by
    unfold listLt at h1 h2 ⊢
    by_cases e1 : a = b
    · rw [if_pos e1] at h1
      by_cases e2 : b = c
      · rw [if_pos e2] at h2
        rw [if_pos (e1.trans e2)]
        exact lt_tr h1 h2
      · rw [if_neg e2] at h2
        rw [if_neg (fun z => e2 (e1.symm.trans z)), e1]
        exact h2
    · rw [if_neg e1] at h1
      have h1' : a < b := of_decide_eq_true h1
      by_cases e2 : b = c
      · rw [if_neg (fun z => e1 (z.trans e2.symm)), ← e2]
        exact h1
      · rw [if_neg e2] at h2
        have h2' : b < c := of_decide_eq_true h2
        rw [if_neg (by omega)]
        exact decide_eq_true (by omega : a < c)
theorem lt_ir : ∀ x : List Int, listLt x x = false
  | [] => rfl
  | a :: x => by
    unfold listLt
    rw [if_pos rfl]
    exact lt_ir x
theorem lt_tot : ∀ x y : List Int, listLt x y = true ∨ x = y ∨ listLt y x = true
  | [], [] => .inr (.inl rfl)
  | [], _ :: _ => .inl rfl
  | _ :: _, [] => .inr (.inr rfl)
  | a :: x, b :: y => by
    unfold listLt
    by_cases e : a = b
    · rw [if_pos e, if_pos e.symm, e]
      exact (lt_tot x y).imp id (.imp (fun z => by rw [z]) id)
    · rw [if_neg e, if_neg (fun z => e z.symm)]
      by_cases l : a < b
      · exact .inl (decide_eq_true l)
      · exact .inr (.inr (decide_eq_true (by omega)))
theorem minOf_le : ∀ (xs : List (Tup Int)) (x : Tup Int), (minOf x xs = x ∨ minOf x xs ∈ xs) ∧ listLt x.items (minOf x xs).items = false ∧ ∀ y, y ∈ xs → listLt y.items (minOf x xs).items = false
  | [], x => ⟨.inl rfl, lt_ir _, fun y h => nomatch h⟩
  | y :: ys, x => by
    have e : minOf x (y :: ys) = minOf (if DatumOrd.lt y x = true then y else x) ys := rfl
    rw [e]
    by_cases h : DatumOrd.lt y x = true
    · rw [if_pos h]
      obtain ⟨a, b, c⟩ := minOf_le ys y
      have h' : listLt y.items x.items = true := h
      refine ⟨.inr ?_, ?_, fun z hz => ?_⟩
      · rcases a with a | a
        · rw [a]
          simp
        · simp [a]
      · cases q : listLt x.items (minOf y ys).items with
        | false => rfl
        | true =>
          rw [lt_tr h' q] at b
          cases b
      · rcases List.mem_cons.mp hz with m | m
        · rw [m]
          exact b
        · exact c z m
    · rw [if_neg h]
      obtain ⟨a, b, c⟩ := minOf_le ys x
      refine ⟨a.imp id fun m => List.mem_cons_of_mem _ m, b, fun z hz => ?_⟩
      rcases List.mem_cons.mp hz with m | m
      · rw [m]
        cases q : listLt y.items (minOf x ys).items with
        | false => rfl
        | true =>
          rcases a with a | a
          · rw [a] at q
            exact absurd q h
          · rcases lt_tot x.items (minOf x ys).items with u | u | u
            · rw [u] at b
              cases b
            · rw [← u] at q
              exact absurd q h
            · exact absurd (lt_tr q u) h
      · exact c z m
end L2.K37R
end R7
section R8
set_option autoImplicit false
set_option linter.all false
set_option maxRecDepth 100000
namespace L2.K37R
open PySem PySem.Spec PyProof.Rows PySem.W
section
variable {X : Cx}
theorem dpAll_ints {K : PySem.W.Frag} {H : Hp} : ∀ t : List Int, DpAll K H (t.map V.int) (t.map PyData.int)
  | [] => .nil
  | a :: t => .cons (.int a) (dpAll_ints t)
theorem tup_int_inj {t u : List Int} (h : PyData.tuple (t.map PyData.int) = PyData.tuple (u.map PyData.int)) : t = u := by
  injection h with h
  exact List.map_inj_right (fun a b e => PyData.int.inj e) |>.mp h
/-- min of a list of tuples of ints -/
theorem cr_minT (hc : X.calm = true) (hu : X.A.units + 64 < cLine) : CallR X (.builtin "min") (fun xs H Q => ∃ (a : Addr) (rs : List Addr) (ts : List (List Int)), xs = [.ref a] ∧ H a = some (.lst (rs.map V.ref)) ∧ Paired (fun r t => H r = some (.tup (t.map V.int))) rs ts ∧ ts ≠ [] ∧
    ∀ (i : Nat) (r : Addr) (t : List Int), rs[i]? = some r → ts[i]? = some t → (∀ u, u ∈ ts → listLt u t = false) → Q (.ref r) H) := by
  intro pins s σ H xs us Q I r q
  obtain ⟨a, rs, ts, rfl, ha, pr, h0, q⟩ := q
  obtain ⟨u, rfl, rx⟩ := vals1 r
  cases rx
  obtain ⟨its, rv, pl, hz⟩ := I.list (SqL.of ha)
  have ei : its = rs.map Value.ref := by
    have : ∀ (rs : List Addr) (its : List Value), Vals (rs.map V.ref) its → its = rs.map Value.ref := fun rs => by
      induction rs with
      | nil =>
        intro its h
        cases h
        rfl
      | cons r rs ih =>
        intro its h
        cases h with
        | cons x y =>
          rw [List.map_cons, ← ih _ y]
          congr 1
    exact this rs its rv
  have one : ∀ (r : Addr) (t : List Int), H r = some (.tup (t.map V.int)) → Holds s.heap (.ref r) (Tup.mk t) := fun r t e => by
    obtain ⟨as, ra⟩ := Dp.reads I _ _ _ (Dp.tup (SqT.of e) (dpAll_ints t)) (show RelV (.ref r) (.ref r) from rfl)
    exact ⟨as, ra⟩
  have all : ∀ {rs : List Addr} {ts : List (List Int)}, Paired (fun r t => H r = some (.tup (t.map V.int))) rs ts → HoldAll s.heap (rs.map Value.ref) (ts.map Tup.mk) := fun {rs ts} h => by
    induction h with
    | nil => exact .nil
    | cons x y ih => exact .cons (one _ _ x) ih
  obtain ⟨t0, tr, rfl⟩ : ∃ t0 tr, ts = t0 :: tr := by
    cases ts with
    | nil => exact absurd rfl h0
    | cons x y => exact ⟨x, y, rfl⟩
  refine min_list_datum (α := Tup Int) (x := ⟨t0⟩) (xs := tr.map Tup.mk) (I.ok.hd hc) pl.isList (by
    rw [show its.toArray.toList = its from by simp, ei]
    exact all pr) (by
      have : Datum.depth (Tup Int) ≤ 10 := by decide
      omega) fun i v h' tk hi hv hk => ?_
  have hi : its[i]? = some v := by simpa using hi
  rw [ei, List.getElem?_map] at hi
  obtain ⟨r, hr, rfl⟩ := Option.map_eq_some_iff.mp hi
  obtain ⟨t, ht, hh⟩ := paired_get pr hr
  obtain ⟨bs, rb⟩ := hv
  obtain ⟨as, ra⟩ := (one r t hh).keeps hk
  have e : PyData.tuple (t.map PyData.int) = PyData.tuple ((minOf (Tup.mk t0) (tr.map Tup.mk)).items.map PyData.int) := (PySem.Reads.unique ra _ _ rb).1
  have et := tup_int_inj e
  obtain ⟨m1, m2, m3⟩ := minOf_le (tr.map Tup.mk) ⟨t0⟩
  refine ⟨.ref r, H, I.kept (t' := tk) hk, rfl, q i r t hr ht fun u hu' => ?_⟩
  rw [et]
  rcases List.mem_cons.mp hu' with z | z
  · rw [z]
    exact m2
  · exact m3 ⟨u⟩ (List.mem_map.mpr ⟨u, z, rfl⟩)
end
end L2.K37R
end R8
section W30
set_option autoImplicit false
set_option linter.all false
set_option maxRecDepth 100000
namespace L2.K37R
open PySem PySem.Spec PyProof.Rows C8
open K37 (S2 Pl)
section
variable {p : Nat} [NeZero p]
theorem put_bd {k m n : Nat} (hk : 1 ≤ k) {o F : S2 (Fq p)} (h : Wt k 1 o) (bF : Bd F m n) : Bd (K37.put o K37.Ly F) m (k * m + n) := by
  rw [← Tx_all bF.dlt]
  exact Tx_bd hk h (fun j => bF.co j) n
theorem swap_bd {m n : Nat} {F : S2 (Fq p)} (bF : Bd F m n) : Bd (K37.put K37.Ly K37.Lx F) n m := fun q hq => by
  rw [cf_swap] at hq
  exact (bF _ hq).symm
theorem slide_bd {m n k : Nat} (hk : 1 ≤ k) {F : S2 (Fq p)} (bF : Bd F m n) : Bd (act (.slide k) F) m (k * m + n) := put_bd hk ((wt_x k).add (wt_y k)) bF
theorem back_bd {m n k : Nat} (hk : 1 ≤ k) {F : S2 (Fq p)} (bF : Bd F m n) : Bd (act (.back k) F) m (k * m + n) := put_bd hk ((wt_x k).sub (wt_y k)) bF
end
section
variable {P : Program} {w : World} {K : PySem.W.Frag} {mg : Str → Option Value} {base : Heap}
abbrev sBest : Stmt := top 48
abbrev nBest : List Str := ["prime", "books", "some", "turns", "order", "turn", "turned", "spot", "tall", "book"]
theorem scBest : FnScope nBest ["prime", "books"] (defScope sBest) := ⟨rfl, rfl, rfl, by decide +kernel, rfl, by decide +kernel, by decide +kernel⟩
/-- the turns in their order -/
def tn : Nat → Tn
  | 0 => .non
  | 1 => .swap
  | i + 2 => .slide (i + 1)
/-- what is told of a plain book under a turn -/
noncomputable def sco {p : Nat} [NeZero p] (Fs : List (S2 (Fq p))) (i s : Nat) : List Int := [K37.hi (act (tn i) (Fs.getD s 0)), (i : Int), (s : Int)]
theorem tn_bd {p : Nat} [NeZero p] {i : Nat} (hi : i < 6) {F : S2 (Fq p)} (bF : Bd F 4 4) : Bd (act (tn i) F) 4 24 := by
  match i, hi with
  | 0, _ => exact bF.mono (by decide) (by decide)
  | 1, _ => exact (swap_bd bF).mono (by decide) (by decide)
  | i + 2, hi => exact (slide_bd (k := i + 1) (by omega) bF).mono (by decide) (by omega)
theorem tn_ok {i : Nat} (hi : i < 6) (h0 : tn i ≠ .non) : Okt (tn i) 4 4 := by
  match i, hi with
  | 0, _ => exact absurd rfl h0
  | 1, _ => exact ⟨by decide, by decide⟩
  | i + 2, hi => exact ⟨⟨by omega, by omega⟩, by decide, by omega⟩
theorem sqT_off {K : PySem.W.Frag} {H H' : Hp} {D a : Addr} {xs : List V} (o : Off D H H') (h : SqT K H a xs) : SqT K H' a xs := h.imp (fun r => r.imp (fun e => o.tup e) fun ⟨od, e⟩ => ⟨od, by
  obtain ⟨⟨acc, hd⟩, k⟩ := o
  exact k a _ (ne_of e hd (fun z => nomatch z)) e⟩) id
theorem TnAt.off {K : PySem.W.Frag} {H H' : Hp} {D : Addr} {v : V} {t : Tn} (o : Off D H H') (h : TnAt K H v t) : TnAt K H' v t := by
  cases t with
  | non => exact h
  | swap => exact let ⟨a, e, q⟩ := h; ⟨a, e, sqT_off o q⟩
  | slide k => exact let ⟨a, e, q⟩ := h; ⟨a, e, sqT_off o q⟩
  | back k => exact let ⟨a, e, q⟩ := h; ⟨a, e, sqT_off o q⟩
/-- tuples of ints in a list -/
def LT (H : Hp) (a : Addr) (ts : List (List Int)) : Prop := ∃ rs : List Addr, H a = some (.lst (rs.map V.ref)) ∧ Paired (fun r (t : List Int) => H r = some (.tup (t.map V.int))) rs ts
theorem LT.same {H H' : Hp} {a : Addr} {ts : List (List Int)} (s : Same H H') (h : LT H a ts) : LT H' a ts := let ⟨rs, e, k⟩ := h; ⟨rs, s _ _ e, paired_imp (fun _ _ q => s _ _ q) k⟩
theorem refs_of {α : Type} {G : Addr → α → Prop} : ∀ {zs : List V} {m : List α}, Paired (fun v i => ∃ r, v = V.ref r ∧ G r i) zs m → ∃ rs : List Addr, zs = rs.map V.ref ∧ Paired G rs m
  | _, _, .nil => ⟨[], rfl, .nil⟩
  | _, _, .cons ⟨r, e, g⟩ t => let ⟨rs, e', g'⟩ := refs_of t; ⟨r :: rs, by rw [e, e']; rfl, .cons g g'⟩
theorem paired_app {α β : Type} {G : α → β → Prop} : ∀ {l : List α} {m : List β} {l' : List α} {m' : List β}, Paired G l m → Paired G l' m' → Paired G (l ++ l') (m ++ m')
  | _, _, _, _, .nil, h => h
  | _, _, _, _, .cons a b, h => .cons a (paired_app b h)
/-- the plain books under the first j turns, all told -/
def Told {p : Nat} [NeZero p] (Fs : List (S2 (Fq p))) (j : Nat) (ts : List (List Int)) : Prop :=
  (∀ t, t ∈ ts → ∃ i s, i < j ∧ s < Fs.length ∧ Plain (act (tn i) (Fs.getD s 0)) ∧ t = sco Fs i s) ∧ ∀ i s, i < j → s < Fs.length → Plain (act (tn i) (Fs.getD s 0)) → sco Fs i s ∈ ts
def spBest (K : PySem.W.Frag) : Sp := fun vs H Q _ => ∃ (p : Nat) (_ : NeZero p) (l : Addr) (Fs : List (S2 (Fq p))), vs = [.int p, .ref l] ∧ Pr p ∧ BL p H l Fs ∧ Fs.length ≤ 4 ∧ (∀ F, F ∈ Fs → Bd F 4 4) ∧ (∃ i s, i < 6 ∧ s < Fs.length ∧ Plain (act (tn i) (Fs.getD s 0))) ∧
  ∀ H' q v l2 i s, Same H H' → H' q = some (.tup [v, .ref l2, .int ((s : Nat) : Int)]) → TnAt K H' v (tn i) → BL p H' l2 (Fs.map (act (tn i))) → i < 6 → s < Fs.length → Plain (act (tn i) (Fs.getD s 0)) →
    (∀ i' s', i' < 6 → s' < Fs.length → Plain (act (tn i') (Fs.getD s' 0)) → PySem.W.listLt (sco Fs i' s') (sco Fs i s) = false) → Q (.ref q) H'
theorem ok_best {f : Addr} {fd : FuncData} (F : FnP K "best_turn" sBest f fd) (B : Bare mg) (TU : Addr) (zT : mg "TURNS" = some (.ref TU)) (kT : ∀ H, ∃ vs, SqT K H TU vs ∧ vs.length = 6 ∧ ∀ i v, vs[i]? = some v → TnAt K H v (tn i)) (cH : Cal P w K mg base 1 "highest" (Wr spHighest) []) (cPl : Cal P w K mg base 2 "plain" (Wr spPlain) []) (cT : Cal P w K mg base 4 "turned_books" (Wr (spTurned K)) []) :
    FnOk P w K mg base CX0 5 f fd ["prime", "books"] (Wr (spBest K)) := by
  refine FnOk.imp (sp := spBest K) ?_ fun _ _ _ _ h => un_wr h
  refine okP F scBest (fun vs H Q E h => ?_) (fun cdv A outer s H vs Q E hr h => ?_)
  · obtain ⟨p, ne, l, Fs, rfl, _⟩ := h
    rfl
  · obtain ⟨p, ne_, l, Fs, rfl, hp, hL, hl4, hb, hex, fin⟩ := h
    have nd := scBest.nd
    have hu := hu_of hr
    refine ⟨_, pss_cons (ps_par (i := 2) (j := 3) rfl nd rfl rfl (by decide) rfl rfl (pa_cons (pe_lst pa_nil) (pa_cons (pe_callTy call_list_of (by rfl) B.list (by decide +kernel) (pa_cons (pe_glob (v := .ref TU) (by rfl) zT rfl) pa_nil)) pa_nil)) (by rfl))
      (pss_cons (ps_while PassesOwn.never (pt_cmpR (op_eqL (K := K) hr.units) (pv 2) (pe_lst pa_nil) (nomark _))
        (pss_cons (ps_for PassesOwn.never rfl (pi_enum (by rfl) B.enumerate (pa_cons (pv 3) pa_nil)) (pg_tup rfl (pgs_cons (pg_name (i := 4) nd rfl (.inr rfl)) (pgs_cons (pg_name (i := 5) nd rfl (.inl rfl)) pgs_nil)))
          (pss_cons (ps_set (i := 6) nd rfl (.inl rfl) (pe_c cT hr (by decide) (by rfl) (pa_cons (pv 0) (pa_cons (pv 1) (pa_cons (pv 5) pa_nil)))))
          (pss_one (ps_set (i := 2) nd rfl (.inl rfl) (pe_op op_cat (pv 2) (pe_lc (own := [("spot", 7), ("book", 9)]) (g := gTup K 2 (gCons (gName 7) (gCons (gName 9) gNil))) rfl nd (pi_enum (by rfl) B.enumerate (pa_cons (pv 6) pa_nil)) (blkOk_by (N := nBest) (sc := defScope sBest) (by decide +kernel))
            (fun _ _ _ _ _ => pg_tup rfl (pgs_cons (pg_name (i := 7) nd rfl (Or.inl rfl)) (pgs_cons (pg_name (i := 9) nd rfl (Or.inl rfl)) pgs_nil))) (fun _ _ _ _ _ => pts_one (pt_val (pe_c cPl (hr : Room _ _) (by decide) (by rfl) (pa_cons (pv 9) pa_nil))))
            (fun _ _ _ _ _ => pe_tup (pa_cons (pe_c cH (hr : Room _ _) (by decide) (by rfl) (pa_cons (pv 9) (pa_cons pe_int pa_nil))) (pa_cons (pv 4) (pa_cons (pv 7) pa_nil))))))))))
        (pss_one (ps_expr (pe_bm PySem.F.plainAttrs_list PySem.F.slot_list_append PySem.F.type_list_append mt_append (pv 3) (pa_cons (pe_tup (pa_cons pe_str (pa_cons (pe_op op_sub (pe_callB call_len_seq (by rfl) B.len (by decide +kernel) (pa_cons (pv 3) pa_nil)) pe_int) pa_nil))) pa_nil))))))
      (pss_cons (ps_asg (pe_callB (cr_minT rfl hr.units) (by rfl) B.min (by decide +kernel) (pa_cons (pv 2) pa_nil)) (pg_tup rfl (pgs_cons (pg_name (i := 8) nd rfl (.inl rfl)) (pgs_cons (pg_name (i := 4) nd rfl (.inr rfl)) (pgs_cons (pg_name (i := 7) nd rfl (.inl rfl)) pgs_nil)))))
      (pss_one (ps_ret (pe_tup (pa_cons (pe_il (K := K) (pv 3) (pv 4)) (pa_cons (pe_c cT hr (by decide) (by rfl) (pa_cons (pv 0) (pa_cons (pv 1) (pa_cons (pe_il (K := K) (pv 3) (pv 4)) pa_nil)))) (pa_cons (pv 7) pa_nil)))))))), ?_⟩
    obtain ⟨xs, hxs, pxs⟩ := id hL
    refine ⟨by show 0 ≤ sizeLine; decide, fun SM hSM => ?_⟩
    have s1 := same_upd_new (o := .lst []) hSM
    have hs1 : upd H SM (.lst []) SM = some (.lst []) := upd_same
    generalize upd H SM (.lst []) = H1 at s1 hs1 ⊢
    obtain ⟨tv, htv, ltv, atv⟩ := kT H1
    refine ⟨TU, tv, rfl, .inr htv, fun TL hTL => ?_⟩
    have hs2' := hs1
    have s2 := same_upd_new (o := .lst tv) hTL
    have ht2 : upd H1 TL (.lst tv) TL = some (.lst tv) := upd_same
    have at2 : ∀ i v, tv[i]? = some v → TnAt K (upd H1 TL (.lst tv)) v (tn i) := fun i v e => (atv i v e).same s2
    have hs2 := s2 _ _ hs1
    have nSM := hSM
    have nTL : H TL = none := YAtP.fresh s1 hTL
    have s02 := s1.trans s2
    generalize upd H1 TL (.lst tv) = H2 at s02 ht2 at2 hs2 ⊢
    refine ⟨_, _, rfl, ?_⟩
    refine while_m (fun m σ' H' => ∃ (sm : Addr) (x4 x5 x6 x7 x8 x9 : Option V) (ts : List (List Int)) (tv' : List V), σ' = [some (.int p), some (.ref l), some (.ref sm), some (.ref TL), x4, x5, x6, x7, x8, x9] ∧ Same H H' ∧ H' TL = some (.lst tv') ∧ (∀ i v, i < 6 → tv'[i]? = some v → TnAt K H' v (tn i)) ∧ 6 ≤ tv'.length ∧ sm ≠ TL ∧ LT H' sm ts ∧
        ((m = 1 ∧ ts = [] ∧ tv' = tv) ∨ (m = 0 ∧ Told Fs 6 ts))) 1
      ⟨SM, none, none, none, none, none, none, [], tv, rfl, s02, ht2, fun i v _ e => at2 i v e, by omega, ne_of_none hs2' hTL, ⟨[], hs2, .nil⟩, .inl ⟨rfl, rfl, rfl⟩⟩ ?_
    rintro m σ' H3 ⟨sm, x4, x5, x6, x7, x8, x9, ts, tv', rfl, s3, ht3, at3, l6, nST, ⟨rs, hrs, prs⟩, hm⟩
    refine ⟨_, rfl, by show 0 ≤ sizeLine; decide, fun e he => ?_⟩
    have se := same_upd_new (o := .lst []) he
    refine ⟨sm, e, _, rfl, rfl, SqL.of (se _ _ hrs), SqL.of upd_same, _, rfl, ?_⟩
    have s03 := s3.trans se
    have ht4 := se _ _ ht3
    have hrs4 := se _ _ hrs
    have prs4 := paired_imp (fun _ _ q => se _ _ q) prs
    have at4 : ∀ i v, i < 6 → tv'[i]? = some v → TnAt K (upd H3 e (.lst [])) v (tn i) := fun i v hi ev => (at3 i v hi ev).same se
    generalize upd H3 e (.lst []) = H4 at se s03 ht4 hrs4 prs4 at4 ⊢
    rcases hm with ⟨rfl, rfl, rfl⟩ | ⟨rfl, told⟩
    · cases prs4
      refine iteT ⟨_, fun σ'' H'' q => q, ?_⟩
      refine ⟨_, rfl, TL, tv', rfl, SqL.of ht4, ?_⟩
      refine for_it (walk_enum (xs := tv')) (fun j σ' H' => ∃ (sm : Addr) (x4 x5 x6 x7 x8 x9 : Option V) (ts : List (List Int)), σ' = [some (.int p), some (.ref l), some (.ref sm), some (.ref TL), x4, x5, x6, x7, x8, x9] ∧ Same H H' ∧ Same H4 H' ∧ sm ≠ TL ∧ LT H' sm ts ∧ Told Fs j ts ∧ ts.length ≤ j * 4)
        ⟨sm, x4, x5, x6, x7, x8, x9, [], rfl, s03, Same.refl _, nST, ⟨[], hrs4, .nil⟩, ⟨(fun t ht => nomatch ht), fun i s' hi => absurd hi (Nat.not_lt_zero i)⟩, Nat.zero_le _⟩ (fun _ _ _ _ w => let ⟨_, _, _, _, _, _, _, _, _, _, w, _, _⟩ := w; SqL.of (w _ _ ht4)) ?_ ?_
      · rintro j x σ' H5' H5 hj ⟨sm', x4, x5, x6, x7, x8, x9, ts, rfl, s5, s45, nsm, ⟨rs', hrs', prs'⟩, told, lts⟩ ⟨T, v1, v2, rfl, hT, rfl, hv1, hv2⟩
        have hj6 : j < 6 := by omega
        cases hv1
        have hTn := ((at4 j v2 hj6 hv2).same s45)
        have sT := same_upd_new (o := .tup [.int (j : Int), v2]) hT
        refine ⟨T, _, rfl, SqT.of upd_same, rfl, _, _, rfl, _, _, rfl, rfl, _, rfl, _, rfl, _, rfl, ?_⟩
        refine wr ⟨p, ne_, l, v2, tn j, Fs, rfl, hp, (hL.same s5).same sT, by omega, hTn.same sT, fun h0 F hF => ⟨(hb F hF).mono (by decide) (by decide), 4, 4, tn_ok hj6 h0, hb F hF⟩, fun H6 q6 s6 L6 => ?_⟩
        have s56 := sT.trans s6
        obtain ⟨ys, hys, pys⟩ := id L6
        have lys : ys.length = Fs.length := by
          rw [pys.length, List.length_map]
        refine ⟨_, rfl, _, rfl, q6, ys, rfl, SqL.of hys, fun D hD => ?_⟩
        refine lc_gen (walk_enum (xs := ys)) hD (sm_line (by omega)) (fun i => @decide (Plain (act (tn j) (Fs.getD i 0))) (Classical.propDecidable _)) (fun i v H'' => ∃ r, v = .ref r ∧ H'' r = some (.tup ((sco Fs j i).map V.int))) (fun i v _ _ o ⟨r, e, w⟩ => ⟨r, e, o.tup w⟩) (fun H'' s'' => SqL.of (s'' _ _ hys)) ?_ ?_
        · rintro i y H7 H8 Q' S' hi s7 ⟨acc, hacc⟩ ⟨T2, w1, w2, rfl, hT2, rfl, hw1, hw2⟩ yes no
          cases hw1
          obtain ⟨F1, e1, a, rfl, ya⟩ := paired_at pys hw2
          have sT2 := same_upd_new (o := .tup [.int (i : Int), .ref a]) hT2
          rw [List.getElem?_map] at e1
          obtain ⟨F0, e0, rfl⟩ := Option.map_eq_some_iff.mp e1
          have eg : Fs.getD i 0 = F0 := by rw [List.getD, e0]; rfl
          have bF := tn_bd hj6 (hb F0 (List.mem_of_getElem? e0))
          have sF : Sm (act (tn j) F0) := bF.mono (by decide) (by decide)
          rw [eg] at yes no
          refine ⟨T2, _, rfl, SqT.of upd_same, rfl, _, _, rfl, _, _, rfl, rfl, rfl, _, rfl, ?_⟩
          refine wr ⟨p, ne_, a, _, rfl, (ya.same s7).same sT2, sF, fun H9 c s9 hc => ⟨c, rfl, ?_⟩⟩
          cases c with
          | true =>
            refine iteT ⟨_, rfl, ?_⟩
            refine highy_y (((ya.same s7).same sT2).same s9) sF fun H10 s10 => ⟨_, rfl, _, rfl, by show 3 ≤ sizeLine; decide, fun r hr' => ?_⟩
            refine yes _ _ (@decide_eq_true _ (Classical.propDecidable _) (hc.mp rfl)) (sT2.trans (s9.trans (s10.trans (same_upd_new hr')))) ⟨r, rfl, ?_⟩
            rw [upd_same]
            unfold sco
            rw [eg]
            rfl
          | false =>
            exact iteF (no _ (@decide_eq_false _ (Classical.propDecidable _) (fun z => absurd (hc.mpr z) (by decide))) (sT2.trans s9))
        · intro H7 zs s7 dz pz
          have s17 := sT.trans (s6.trans s7)
          obtain ⟨rz, rfl, prz⟩ := refs_of pz
          have lz := prz.length
          have lf := List.length_filter_le (fun i => @decide (Plain (act (tn j) (Fs.getD i 0))) (Classical.propDecidable _)) (List.range ys.length)
          rw [List.length_range] at lf
          have lr := prs'.length
          refine ⟨sm', D, _, _, rfl, rfl, s17 _ _ hrs', dz, Nat.le_of_lt (sm_line ?_), fun n hn => ?_⟩
          · rw [List.length_map, List.length_map]
            omega
          · have sn := same_upd_new (o := .lst (rs'.map V.ref ++ rz.map V.ref)) hn
            have s2n := s17.trans sn
            refine ⟨n, _, _, _, _, _, _, ts ++ ((List.range ys.length).filter fun i => @decide (Plain (act (tn j) (Fs.getD i 0))) (Classical.propDecidable _)).map (sco Fs j), rfl, s5.trans s2n, s45.trans s2n, ne_of_none (s17 _ _ (s45 _ _ ht4)) hn |>.symm, ⟨rs' ++ rz, ?_, ?_⟩, ⟨fun t ht => ?_, fun i s' hi hs' hP => ?_⟩, ?_⟩
            · rw [upd_same, List.map_append]
            · exact paired_app (paired_imp (fun _ _ q => s2n _ _ q) prs') (paired_mapr _ (paired_imp (fun _ _ q => sn _ _ q) prz))
            · rcases List.mem_append.mp ht with h | h
              · obtain ⟨i, s', h1, h2⟩ := told.1 t h
                exact ⟨i, s', by omega, h2⟩
              · obtain ⟨s', h1, h2⟩ := List.mem_map.mp h
                obtain ⟨h3, h4⟩ := List.mem_filter.mp h1
                rw [List.mem_range] at h3
                exact ⟨j, s', by omega, by omega, @of_decide_eq_true _ (Classical.propDecidable _) h4, h2.symm⟩
            · by_cases e : i = j
              · rw [e] at hP ⊢
                exact List.mem_append_right _ (List.mem_map.mpr ⟨s', List.mem_filter.mpr ⟨List.mem_range.mpr (by omega), @decide_eq_true _ (Classical.propDecidable _) hP⟩, rfl⟩)
              · exact List.mem_append_left _ (told.2 i s' (by omega) hs' hP)
            · rw [List.length_append, List.length_map]
              omega
      · rintro σ' H5 ⟨sm', x4, x5, x6, x7, x8, x9, ts, rfl, s5, s45, nsm, Ls, told, _⟩
        rw [ltv] at told
        have ht5 := s45 _ _ ht4
        refine ⟨_, rfl, .inl ⟨rfl, _, SqL.of ht5⟩, _, rfl, TL, _, rfl, .inl (SqL.of ht5), _, _, rfl, rfl, by show 2 ≤ sizeLine; decide, fun c hc => ?_⟩
        have sc := same_upd_new (o := .tup [.str "slide", .int ((tv'.length : Int) - 1)]) hc
        have ht6 := sc _ _ ht5
        refine ⟨TL, _, _, rfl, rfl, ht6, sm_line (by omega), ?_⟩
        have off := off_upd (o := .lst (tv' ++ [.ref c])) ht6
        obtain ⟨rz, hrz, prz⟩ := Ls
        refine ⟨0, by decide, sm', x4, x5, x6, x7, x8, x9, ts, tv' ++ [.ref c], rfl, same_free (s5.trans sc) nTL, upd_same, fun i v hi ev => ?_, by rw [List.length_append]; omega, nsm, ⟨rz, by rw [upd_ne nsm]; exact sc _ _ hrz, paired_imp (fun _ _ q => off.tup (sc _ _ q)) prz⟩, .inr ⟨rfl, told⟩⟩
        rw [List.getElem?_append_left (by omega)] at ev
        exact ((at4 i v hi ev).same (s45.trans sc)).off off
    · have ne : rs ≠ [] := fun z => by
        obtain ⟨i, s', hi, hs', hP⟩ := hex
        have := told.2 i s' hi hs' hP
        have l0 := prs4.length
        rw [z] at l0
        rw [List.length_eq_zero_iff.mp l0.symm] at this
        cases this
      have eb : (rs.map V.ref).isEmpty = false := by
        cases rs with
        | nil => exact absurd rfl ne
        | cons a b => rfl
      rw [eb]
      refine iteF ?_
      refine ⟨_, rfl, sm, rs, ts, rfl, hrs4, prs4, fun z => ?_, fun i r t hr ht hmin => ?_⟩
      · have l0 := prs4.length
        rw [z] at l0
        exact ne (List.length_eq_zero_iff.mp l0)
      · obtain ⟨i0, s0, hi0, hs0, hP0, rfl⟩ := told.1 t (List.mem_of_getElem? ht)
        obtain ⟨t', et', hr'⟩ := paired_get prs4 hr
        rw [ht] at et'
        cases et'
        refine ⟨r, _, rfl, SqT.of hr', rfl, _, _, rfl, _, _, rfl, _, _, rfl, rfl, ?_⟩
        obtain ⟨v, hv⟩ : ∃ v, tv'[i0]? = some v := ⟨_, List.getElem?_eq_getElem (by omega)⟩
        have hTn := at4 i0 v hi0 hv
        refine ⟨_, rfl, _, rfl, TL, _, _, _, rfl, rfl, SqL.of ht4, atI_nat hv, _, rfl, _, rfl, _, rfl, _, rfl, TL, _, _, _, rfl, rfl, SqL.of ht4, atI_nat hv, ?_⟩
        refine wr ⟨p, ne_, l, v, tn i0, Fs, rfl, hp, hL.same s03, by omega, hTn, fun h0 F hF => ⟨(hb F hF).mono (by decide) (by decide), 4, 4, tn_ok hi0 h0, hb F hF⟩, fun H5 q5 s5 L5 => ?_⟩
        refine ⟨_, rfl, by show 3 ≤ sizeLine; decide, fun q hq => ?_⟩
        have sq := same_upd_new (o := .tup [v, .ref q5, .int (s0 : Int)]) hq
        refine fin _ q v q5 i0 s0 (s03.trans (s5.trans sq)) upd_same (hTn.same (s5.trans sq)) (L5.same sq) hi0 hs0 hP0 fun i' s' hi' hs' hP' => ?_
        exact hmin _ (told.2 i' s' hi' hs' hP')
end
end L2.K37R
end W30
section W31
set_option autoImplicit false
set_option linter.all false
set_option maxRecDepth 100000
/-! What best_turn picks, and its bounds; the pivots as a triangular list. -/
namespace L2.K37R
open PySem PySem.Spec PyProof.Rows C8 PySem.W
open K37 (S2 Pl)
section
variable {p : Nat} [NeZero p]
theorem sm_cf {f : Nat → S2 (Fq p)} {q : Nat × Nat} : ∀ {n : Nat}, cf (K37.sm n f) q ≠ 0 → ∃ i, i < n ∧ cf (f i) q ≠ 0
  | 0, h => absurd (cf_zero q) h
  | n + 1, h => by
    by_cases e : cf (f n) q = 0
    · have : cf (K37.sm n f) q ≠ 0 := fun z => h (by
        show cf (K37.sm n f + f n) q = 0
        rw [cf_add, z, e]
        grind)
      obtain ⟨i, hi, q⟩ := sm_cf this
      exact ⟨i, by omega, q⟩
    · exact ⟨n, by omega, e⟩
/-- what a slide makes of a term -/
theorem slide_sup {k : Nat} {o : S2 (Fq p)} (h : Wt k 1 o) {F : S2 (Fq p)} {q : Nat × Nat} (hq : cf (K37.put o K37.Ly F) q ≠ 0) : ∃ i j, cf F (i, j) ≠ 0 ∧ j ≤ q.2 ∧ k * q.1 + (q.2 - j) = k * i := by
  obtain ⟨n, hn⟩ := K37.exists_dlt F
  rw [← Tx_all hn] at hq
  obtain ⟨j, hj, hq⟩ := sm_cf hq
  rw [Pl.mul_comm', K37.Ly_pow] at hq
  unfold cf at hq
  rw [K37.co_mo_mul] at hq
  by_cases lt : q.2 < j
  · rw [if_pos lt] at hq
    exact absurd (Pl.co_zero _) hq
  · rw [if_neg lt] at hq
    obtain ⟨m, hm⟩ := K37.exists_dlt (F.co j)
    have hq : cf (K37.putx o (F.co j)) (q.1, q.2 - j) ≠ 0 := fun z => hq (by
      have z : ((K37.putx o (F.co j)).co (q.2 - j)).co q.1 = 0 := z
      rw [show (1 : RX p) * (K37.putx o (F.co j)).co (q.2 - j) = (K37.putx o (F.co j)).co (q.2 - j) by grind, z])
    rw [← Sx_all hm] at hq
    obtain ⟨i, hi, hq'⟩ := sm_cf hq
    rw [cf_kap] at hq'
    exact ⟨i, j, fun z => hq' (by
      have z : (F.co j).co i = 0 := z
      rw [z]
      grind), by omega, wt_pow h i (q.1, q.2 - j) fun z => hq' (by rw [z]; grind)⟩
theorem slide_bd2 {k : Nat} (hk : 1 ≤ k) {F : S2 (Fq p)} {m n : Nat} (h : ∀ i j, cf F (i, j) ≠ 0 → i < m ∧ k * i + j < n) : Bd (act (.slide k) F) m n := fun q hq => by
  obtain ⟨i, j, h1, h2, h3⟩ := slide_sup ((wt_x k).add (wt_y k)) hq
  obtain ⟨h4, h5⟩ := h i j h1
  have h6 : q.1 ≤ i := Nat.le_of_mul_le_mul_left (show k * q.1 ≤ k * i by omega) (by omega)
  have h7 : k * q.1 + q.2 = k * i + j := by omega
  have := Nat.zero_le (k * q.1)
  exact ⟨by omega, by omega⟩
/-- the row's make: one poly plain with y in it, the other not nothing; or two x-polys -/
def PlainR (f g : S2 (Fq p)) : Prop := ∃ (d : Nat) (c : Fq p), 1 ≤ d ∧ d ≤ 3 ∧ c ≠ 0 ∧ Bd f 3 (d + 1) ∧ f.co d = Pl.C c ∧ Bd g 3 3 ∧ g ≠ 0
def XR (f g : S2 (Fq p)) : Prop := ∃ a b : RX p, f = Pl.C a ∧ g = Pl.C b ∧ K37.dlt a 4 ∧ K37.dlt b 4 ∧ ¬ (a = 0 ∧ b = 0)
def RowH (A B : S2 (Fq p)) : Prop := PlainR A B ∨ PlainR B A ∨ XR A B
/-- the turn and the poly that best_turn picks -/
def Pick (Fs : List (S2 (Fq p))) (i s : Nat) : Prop := i < 6 ∧ s < Fs.length ∧ Plain (act (tn i) (Fs.getD s 0)) ∧ ∀ i' s', i' < 6 → s' < Fs.length → Plain (act (tn i') (Fs.getD s' 0)) → listLt (sco Fs i' s') (sco Fs i s) = false
structure Fit (F G : S2 (Fq p)) (D m n g δ : Nat) : Prop where
  hi : K37.hi F = (D : Int)
  bF : Bd F (g + 1) (D + 1)
  bG : Bd G m n
  g3 : g ≤ 3
  m1 : 1 ≤ m
  m4 : m ≤ 4
  n1 : 1 ≤ n
  n11 : n ≤ 11
  dl : m + (n - 1) * g ≤ δ + 1
  lv : Lv D D δ 0
  bk : 23 + m - 1 + (n - 1) * g ≤ 47
  pr : 23 * D * (m * n) ≤ 3000
theorem lt2 {a b : Int} {i s j t : Int} (h : listLt [a, i, s] [b, j, t] = false) : b < a ∨ (b = a ∧ j ≤ i) := by
  unfold listLt at h
  by_cases e : a = b
  · rw [if_pos e] at h
    unfold listLt at h
    by_cases e2 : i = j
    · exact .inr ⟨e.symm, by omega⟩
    · rw [if_neg e2] at h
      have := of_decide_eq_false h
      exact .inr ⟨e.symm, by omega⟩
  · rw [if_neg e] at h
    have := of_decide_eq_false h
    exact .inl (by omega)
theorem PlainR.plain {f g : S2 (Fq p)} (h : PlainR f g) : Plain f ∧ ∃ d : Nat, 1 ≤ d ∧ d ≤ 3 ∧ K37.hi f = (d : Int) := by
  obtain ⟨d, c, h1, h3, hc, bf, top, _⟩ := h
  have hd : K37.IsD f d := ⟨by
    rw [top]
    intro z
    have : (Pl.C c : RX p).co 0 = 0 := by rw [z, Pl.co_zero]
    exact hc this, fun i hi => bf.dlt i (by omega)⟩
  have h0 : K37.IsD (Pl.C c : RX p) 0 := ⟨hc, fun i hi => by rw [Pl.co_C, if_neg (by omega)]⟩
  refine ⟨⟨hd.ne, ?_⟩, d, h1, h3, ?_⟩
  · rw [hd.dg, top, K37.hi_ne h0.ne, h0.dg]
    rfl
  · rw [K37.hi_ne hd.ne, hd.dg]
theorem hi_nn {A : Type} [Lean.Grind.CommRing A] {F : Pl A} (h : F ≠ 0) : K37.hi F = (K37.dg F : Int) := K37.hi_ne h
theorem bd_dg {F : S2 (Fq p)} {m n D : Nat} (b : Bd F m n) (h : K37.hi F = (D : Int)) : Bd F m (D + 1) ∧ (F ≠ 0 → D < n) := by
  refine ⟨bd_of (K37.dlt_of_hi (by omega)) b.co, fun h0 => ?_⟩
  rw [K37.hi_ne h0] at h
  have := (K37.dg_is h0).lt_of_dlt b.dlt
  omega
theorem Lv.of2 {D δ : Nat} (hD : D ≤ 2) (hδ : δ ≤ 22) : Lv D D δ 0 := by
  by_cases h : D = 2
  · exact .inr (.inl ⟨h, by omega, hδ, rfl⟩)
  · exact .inl ⟨by omega, by omega, by omega⟩
theorem le23 {a b c d : Nat} (h1 : a ≤ b) (h2 : c ≤ d) (h3 : 23 * b * d ≤ 3000) : 23 * a * c ≤ 3000 := Nat.le_trans (Nat.mul_le_mul (Nat.mul_le_mul_left _ h1) h2) h3
/-- the bounds, for a row with a plain poly -/
theorem fit_plain {f g F G : S2 (Fq p)} {i : Nat} (h : PlainR f g) (hi : i < 6) (hF : F = act (tn i) f ∧ G = act (tn i) g ∨ F = act (tn i) g ∧ G = act (tn i) f) (P : Plain F) {d : Nat} (hd : K37.hi f = (d : Int)) (le : K37.hi F < (d : Int) ∨ (K37.hi F = (d : Int) ∧ i = 0)) : ∃ D m n g δ, Fit F G D m n g δ := by
  obtain ⟨d', c, h1, h3, hc, bf, top, bg, g0⟩ := h
  have dd : d = d' := by
    have hd' : K37.IsD f d' := ⟨by
      rw [top]
      intro z
      have : (Pl.C c : RX p).co 0 = 0 := by rw [z, Pl.co_zero]
      exact hc this, fun i hi => bf.dlt i (by omega)⟩
    rw [K37.hi_ne hd'.ne, hd'.dg] at hd
    omega
  subst dd
  have hFD : K37.hi F = (K37.dg F : Int) := hi_nn P.1
  generalize K37.dg F = D at hFD
  have D3 : D ≤ d := by omega
  match i, hi with
  | 0, _ =>
    have bf4 : Bd f 3 4 := bf.mono (Nat.le_refl _) (by omega)
    rcases hF with ⟨e1, e2⟩ | ⟨e1, e2⟩
    · have e1 : F = f := e1
      have e2 : G = g := e2
      subst e1
      subst e2
      obtain ⟨b1, _⟩ := bd_dg bf4 hFD
      refine ⟨D, 3, 3, 2, 6, hFD, b1, bg, by decide, by decide, by decide, by decide, by decide, by decide, ?_, by decide, le23 (b := 3) (by omega) (Nat.le_refl _) (by decide)⟩
      by_cases e3 : D = 3
      · exact .inr (.inr (.inl ⟨e3, by omega, by omega, rfl⟩))
      · exact .of2 (by omega) (by omega)
    · have e1 : F = g := e1
      have e2 : G = f := e2
      subst e1
      subst e2
      obtain ⟨b1, b2⟩ := bd_dg bg hFD
      have b2 := b2 g0
      exact ⟨D, 3, 4, 2, 8, hFD, b1, bf4, by decide, by decide, by decide, by decide, by decide, by decide, .of2 (by omega) (by omega), by decide, le23 (b := 2) (by omega) (Nat.le_refl _) (by decide)⟩
  | 1, _ =>
    have sw : ∀ z : S2 (Fq p), Bd z 3 4 → Bd (act (tn 1) z) 4 3 := fun z h => swap_bd h
    obtain ⟨bF, bG⟩ : Bd F 4 3 ∧ Bd G 4 3 := by
      rcases hF with ⟨e1, e2⟩ | ⟨e1, e2⟩
      · rw [e1, e2]
        exact ⟨sw _ (bf.mono (Nat.le_refl _) (by omega)), sw _ (bg.mono (Nat.le_refl _) (by omega))⟩
      · rw [e1, e2]
        exact ⟨sw _ (bg.mono (Nat.le_refl _) (by omega)), sw _ (bf.mono (Nat.le_refl _) (by omega))⟩
    obtain ⟨b1, b2⟩ := bd_dg bF hFD
    have b2 := b2 P.1
    exact ⟨D, 4, 3, 3, 9, hFD, b1, bG, by decide, by decide, by decide, by decide, by decide, by decide, .of2 (by omega) (by omega), by decide, le23 (b := 2) (by omega) (Nat.le_refl _) (by decide)⟩
  | i + 2, hi =>
    have wf : ∀ a b, cf f (a, b) ≠ 0 → a < 3 ∧ (i + 1) * a + b < 11 := fun a b h => by
      obtain ⟨q1, q2⟩ := bf (a, b) h
      refine ⟨q1, ?_⟩
      have q1 : a < 3 := q1
      have q2 : b < d + 1 := q2
      by_cases e : b = d
      · have : a = 0 := by
          have h' : (f.co b).co a ≠ 0 := h
          rw [e, top, Pl.co_C] at h'
          by_cases z : a = 0
          · exact z
          · rw [if_neg z] at h'
            exact absurd rfl h'
        rw [this]
        omega
      · have := Nat.mul_le_mul (show i + 1 ≤ 4 by omega) (show a ≤ 2 by omega)
        omega
    have wg : ∀ a b, cf g (a, b) ≠ 0 → a < 3 ∧ (i + 1) * a + b < 11 := fun a b h => by
      obtain ⟨q1, q2⟩ := bg (a, b) h
      refine ⟨q1, ?_⟩
      have q1 : a < 3 := q1
      have q2 : b < 3 := q2
      have := Nat.mul_le_mul (show i + 1 ≤ 4 by omega) (show a ≤ 2 by omega)
      omega
    obtain ⟨bF, bG⟩ : Bd F 3 11 ∧ Bd G 3 11 := by
      rcases hF with ⟨e1, e2⟩ | ⟨e1, e2⟩
      · rw [e1, e2]
        exact ⟨slide_bd2 (by omega) wf, slide_bd2 (by omega) wg⟩
      · rw [e1, e2]
        exact ⟨slide_bd2 (by omega) wg, slide_bd2 (by omega) wf⟩
    obtain ⟨b1, b2⟩ := bd_dg bF hFD
    have D2 : D ≤ 2 := by
      rcases le with h | ⟨_, h⟩
      · omega
      · omega
    exact ⟨D, 3, 11, 2, 22, hFD, b1, bG, by decide, by decide, by decide, by decide, by decide, by decide, .of2 D2 (by omega), by decide, le23 (b := 2) D2 (Nat.le_refl _) (by decide)⟩
theorem fit_x {a b : RX p} {F G : S2 (Fq p)} {i : Nat} (da : K37.dlt a 4) (db : K37.dlt b 4) (hi : i ≤ 1) (hF : F = act (tn i) (Pl.C a)) (hG : G = act (tn i) (Pl.C b)) (P : Plain F) : ∃ D m n g δ, Fit F G D m n g δ := by
  have hFD : K37.hi F = (K37.dg F : Int) := hi_nn P.1
  generalize hDD : K37.dg F = D at hFD
  match i, hi with
  | 0, _ =>
    have hF : F = Pl.C a := hF
    have hG : G = Pl.C b := hG
    have D0 : D = 0 := by
      have := (K37.dg_is P.1).lt_of_dlt (n := 1) (by rw [hF]; exact K37.dlt.C a)
      omega
    subst D0
    have h2 := P.2
    rw [hDD] at h2
    refine ⟨0, 4, 1, 0, 3, hFD, bd_of (K37.dlt_of_hi (by omega)) fun j => ?_, by rw [hG]; exact bd_C db, by decide, by decide, by decide, by decide, by decide, by decide, .of2 (by omega) (by omega), by decide, by decide⟩
    by_cases j0 : j = 0
    · rw [j0]
      exact K37.dlt_of_hi (by omega)
    · rw [hF, Pl.co_C, if_neg j0]
      exact K37.dlt.zero _
  | 1, _ =>
    have bF : Bd F 1 4 := by
      rw [hF]
      exact swap_bd (bd_C da)
    have bG : Bd G 1 4 := by
      rw [hG]
      exact swap_bd (bd_C db)
    obtain ⟨b1, b2⟩ := bd_dg bF hFD
    have b2 := b2 P.1
    refine ⟨D, 1, 4, 0, 0, hFD, b1, bG, by decide, by decide, by decide, by decide, by decide, by decide, ?_, by decide, le23 (b := 3) (by omega) (Nat.le_refl _) (by decide)⟩
    by_cases e3 : D = 3
    · exact .inr (.inr (.inl ⟨e3, by omega, by omega, rfl⟩))
    · exact .of2 (by omega) (by omega)
/-- an x-poly swapped is plain, as high as its degree; slid it is as high at least -/
theorem swap_x {a : RX p} (h : a ≠ 0) : Plain (act (tn 1) (Pl.C a)) ∧ K37.hi (act (tn 1) (Pl.C a)) = (K37.dg a : Int) := by
  have ha := K37.dg_is h
  have co : ∀ j i, ((act (tn 1) (Pl.C a)).co j).co i = if i = 0 then a.co j else 0 := fun j i => by
    have e : ((act (tn 1) (Pl.C a)).co j).co i = ((Pl.C a : S2 (Fq p)).co i).co j := K37.swap_co _ i j
    rw [e, Pl.co_C]
    split
    · rfl
    · exact Pl.co_zero _
  have hd : K37.IsD (act (tn 1) (Pl.C a)) (K37.dg a) := ⟨fun z => by
    have := co (K37.dg a) 0
    rw [z, if_pos rfl, Pl.co_zero] at this
    exact ha.1 this.symm, fun j hj => Pl.ext fun i => by
    rw [co, Pl.co_zero, ha.2 j hj]
    split <;> rfl⟩
  have h0 : K37.IsD ((act (tn 1) (Pl.C a)).co (K37.dg a)) 0 := ⟨by
    rw [co, if_pos rfl]
    exact ha.1, fun i hi => by
    rw [co, if_neg (by omega)]⟩
  refine ⟨⟨hd.ne, ?_⟩, ?_⟩
  · rw [hd.dg, K37.hi_ne h0.ne, h0.dg]
    rfl
  · rw [K37.hi_ne hd.ne, hd.dg]
theorem slide_x {a : RX p} {k : Nat} (hk : 1 ≤ k) (h : a ≠ 0) (h0 : act (.slide k) (Pl.C a) ≠ 0) : (K37.dg a : Int) ≤ K37.hi (act (.slide k) (Pl.C a)) := by
  have := K37.slide_high hk (K37.dg_is h) (n := K37.dg (act (.slide k) (Pl.C a)) + 1) (K37.dg_is h0).dlt
  rw [K37.hi_ne h0]
  omega
theorem act_hom (t : Tn) : K37.Hom (act (p := p) t) := by
  cases t with
  | non => exact K37.Hom.id
  | swap => exact K37.put_hom _ _
  | slide k => exact K37.put_hom _ _
  | back k => exact K37.put_hom _ _
theorem act_zero (t : Tn) : act (p := p) t 0 = 0 := (act_hom t).zero
/-- there is something to pick -/
theorem pick_ex {A B : S2 (Fq p)} (h : RowH A B) : ∃ i s, i < 6 ∧ s < [A, B].length ∧ Plain (act (tn i) ([A, B].getD s 0)) := by
  rcases h with h | h | ⟨a, b, rfl, rfl, _, _, h⟩
  · exact ⟨0, 0, by decide, Nat.zero_lt_two, h.plain.1⟩
  · exact ⟨0, 1, by decide, Nat.one_lt_two, h.plain.1⟩
  · by_cases ha : a = 0
    · exact ⟨1, 1, by decide, Nat.one_lt_two, (swap_x fun hb => h ⟨ha, hb⟩).1⟩
    · exact ⟨1, 0, by decide, Nat.zero_lt_two, (swap_x ha).1⟩
/-- the bounds of what is picked -/
theorem pick_fit {A B : S2 (Fq p)} {i s : Nat} (h : RowH A B) (k : Pick [A, B] i s) : ∃ D m n g δ, Fit (act (tn i) ([A, B].getD s 0)) (act (tn i) ([A, B].getD (1 - s) 0)) D m n g δ := by
  obtain ⟨hi, hs', P, mn⟩ := k
  have hs : s = 0 ∨ s = 1 := by
    have : s < 2 := hs'
    omega
  clear hs'
  rcases h with h | h | ⟨a, b, rfl, rfl, da, db, hab⟩
  · obtain ⟨P0, d, d1, d3, hd⟩ := h.plain
    have l := lt2 (mn 0 0 (by decide) (by decide : 0 < 2) P0)
    refine fit_plain h hi ?_ P hd ?_
    · rcases hs with rfl | rfl
      · exact .inl ⟨rfl, rfl⟩
      · exact .inr ⟨rfl, rfl⟩
    · have l : _ < K37.hi A ∨ (_ = K37.hi A ∧ _) := l
      rw [hd] at l
      exact l.imp id fun z => ⟨z.1, by omega⟩
  · obtain ⟨P0, d, d1, d3, hd⟩ := h.plain
    have l := lt2 (mn 0 1 (by decide) (by decide : 1 < 2) P0)
    refine fit_plain h hi ?_ P hd ?_
    · rcases hs with rfl | rfl
      · exact .inr ⟨rfl, rfl⟩
      · exact .inl ⟨rfl, rfl⟩
    · have l : _ < K37.hi B ∨ (_ = K37.hi B ∧ _) := l
      rw [hd] at l
      exact l.imp id fun z => ⟨z.1, by omega⟩
  · have i1 : i ≤ 1 := Nat.le_of_not_lt fun hi2 => by
      obtain ⟨k, rfl⟩ : ∃ k, i = k + 2 := ⟨i - 2, by omega⟩
      obtain ⟨c, ec⟩ : ∃ c : RX p, [(Pl.C a : S2 (Fq p)), Pl.C b].getD s 0 = Pl.C c := by
        rcases hs with rfl | rfl
        · exact ⟨a, rfl⟩
        · exact ⟨b, rfl⟩
      have c0 : c ≠ 0 := fun z => by
        rw [ec, z] at P
        exact P.1 (act_zero _)
      have q1 := swap_x c0
      have l := lt2 (mn 1 s (by decide) (by show s < 2; omega) (by rw [ec]; exact q1.1))
      rw [ec] at l P
      have q2 : (K37.dg c : Int) ≤ K37.hi (act (tn (k + 2)) (Pl.C c)) := slide_x (by omega) c0 P.1
      rw [q1.2] at l
      rcases l with l | ⟨l, l2⟩
      · omega
      · omega
    rcases hs with rfl | rfl
    · exact fit_x da db i1 rfl rfl P
    · exact fit_x db da i1 rfl rfl P
end
end L2.K37R
end W31
section W32
set_option autoImplicit false
set_option linter.all false
set_option maxRecDepth 100000
/-! The pivots as a triangular list: the size that they tell. -/
namespace L2.K37R
open PySem PySem.Spec PyProof.Rows C8 PySem.W
open K37 (S2 Pl)
section
variable {p : Nat} [NeZero p]
theorem tr_of : ∀ {l : List (S2 (Fq p))}, (∀ (i : Nat) (z : S2 (Fq p)), l[i]? = some z → K37.dlt z (l.length - i)) → K37.Tr l
  | [], _ => trivial
  | a :: l, h => ⟨h 0 a rfl, tr_of fun i z e => (h (i + 1) z e).mono (by rw [List.length_cons]; omega)⟩
theorem full_of : ∀ {l : List (S2 (Fq p))}, (∀ (i : Nat) (z : S2 (Fq p)), l[i]? = some z → z.co (l.length - 1 - i) ≠ 0) → K37.Full l
  | [], _ => trivial
  | a :: l, h => ⟨h 0 a rfl, full_of fun i z e => by
    have := h (i + 1) z e
    rw [List.length_cons, show l.length + 1 - 1 - (i + 1) = l.length - 1 - i by omega] at this
    exact this⟩
theorem full_get : ∀ {l : List (S2 (Fq p))}, K37.Full l → ∀ (i : Nat) (z : S2 (Fq p)), l[i]? = some z → z.co (l.length - 1 - i) ≠ 0
  | a :: l, h, 0, z, e => by
    cases e
    exact h.1
  | a :: l, h, i + 1, z, e => by
    have := full_get h.2 i z e
    rw [List.length_cons, show l.length + 1 - 1 - (i + 1) = l.length - 1 - i by omega]
    exact this
theorem td_sum [K37.Fd (Fq p)] : ∀ l : List (S2 (Fq p)), K37.td l = ((List.range l.length).map fun i => K37.dg ((l.getD i 0).co (l.length - 1 - i))).sum
  | [] => rfl
  | a :: l => by
    have ih := td_sum l
    rw [List.length_cons, List.range_succ_eq_map, List.map_cons, List.sum_cons, List.map_map]
    show K37.dg (a.co l.length) + K37.td l = _
    rw [ih]
    congr 2
    refine List.map_congr_left fun i _ => ?_
    show K37.dg ((l.getD i 0).co (l.length - 1 - i)) = K37.dg (((a :: l).getD (i + 1) 0).co (l.length + 1 - 1 - (i + 1)))
    rw [show l.length + 1 - 1 - (i + 1) = l.length - 1 - i by omega]
    rfl
/-- the pivot of a place, nothing if there is none -/
def wv (pv : Nat → Pv p) (i : Nat) : S2 (Fq p) := match pv i with | none => 0 | some y => y.1.1
theorem pws_wv (pv : Nat → Pv p) (t : Nat) : pws pv t = (List.range t).map (wv pv) := rfl
theorem pws_len (pv : Nat → Pv p) (t : Nat) : (pws pv t).length = t := by rw [pws_wv, List.length_map, List.length_range]
theorem pws_get {pv : Nat → Pv p} {t i : Nat} {z : S2 (Fq p)} (h : (pws pv t)[i]? = some z) : i < t ∧ z = wv pv i := by
  rw [pws_wv, List.getElem?_map] at h
  obtain ⟨j, e, rfl⟩ := Option.map_eq_some_iff.mp h
  obtain ⟨h1, h2⟩ := List.getElem?_eq_some_iff.mp e
  rw [List.length_range] at h1
  rw [List.getElem_range] at h2
  exact ⟨h1, by rw [h2]⟩
/-- all there -/
def allP (pv : Nat → Pv p) (D : Nat) : Prop := ∀ i, i < D → pv i ≠ none
/-- what the walk knows of the pivots -/
def GoodQ (D : Nat) (pv : Nat → Pv p) : Prop := ∀ i, i < D → ∀ y, pv i = some y → y.1.1.co (D - 1 - i) ≠ 0 ∧ Bd y.1.1 63 (D - 1 - i + 1) ∧ Bd y.1.2 23 D
theorem GoodP.q {H : Hp} {D : Nat} {pv : Nat → Pv p} (h : GoodP H D pv D) : GoodQ D pv := fun i hi y e => (h i hi y e).2
noncomputable def psum (pv : Nat → Pv p) (D : Nat) : Nat := ((List.range D).map fun i => K37.dg ((wv pv i).co (D - 1 - i))).sum
theorem piv_tr {D : Nat} {pv : Nat → Pv p} (g : GoodQ D pv) : K37.Tr (pws pv D) := tr_of fun i z e => by
  obtain ⟨hi, rfl⟩ := pws_get e
  rw [pws_len]
  unfold wv
  split
  · exact K37.dlt.zero _
  · rename_i y ey
    exact (g i hi y ey).2.1.dlt.mono (by omega)
theorem piv_full {D : Nat} {pv : Nat → Pv p} (g : GoodQ D pv) : K37.Full (pws pv D) ↔ allP pv D := by
  constructor
  · intro h i hi e
    have hl : i < (pws pv D).length := by
      rw [pws_len]
      exact hi
    have := full_get h i _ (List.getElem?_eq_getElem hl)
    obtain ⟨_, e2⟩ := pws_get (List.getElem?_eq_getElem hl)
    rw [e2] at this
    unfold wv at this
    rw [e] at this
    exact this (Pl.co_zero _)
  · intro h
    refine full_of fun i z e => ?_
    obtain ⟨hi, rfl⟩ := pws_get e
    rw [pws_len]
    unfold wv
    split
    · rename_i ey
      exact absurd ey (h i hi)
    · rename_i y ey
      exact (g i hi y ey).1
theorem piv_td [K37.Fd (Fq p)] (D : Nat) (pv : Nat → Pv p) : K37.td (pws pv D) = psum pv D := by
  rw [td_sum, pws_len]
  unfold psum
  congr 1
  refine List.map_congr_left fun i hi => ?_
  rw [List.mem_range] at hi
  have hl : i < (pws pv D).length := by
    rw [pws_len]
    exact hi
  have e := List.getElem?_eq_getElem hl
  obtain ⟨_, e2⟩ := pws_get e
  rw [List.getD, e, Option.getD_some, e2]
/-- all numbers of the field -/
def els (p : Nat) : List (Fq p) := List.finRange p
theorem els_all (a : Fq p) : a ∈ els p := List.mem_finRange a
theorem els_nodup (p : Nat) : (els p).Nodup := List.nodup_finRange p
theorem els_len (p : Nat) : (els p).length = p := List.length_finRange
open Classical in
theorem piv_size {F G : S2 (Fq p)} {D : Nat} {pv : Nat → Pv p} (hp : Pr p) (hF : F.co D = 1) (dF : K37.dlt F (D + 1)) (g : GoodQ D pv) (h1 : ∀ k, k < D → ∃ u : S2 (Fq p), K37.Sp (pws pv D) (K37.mo 1 k * G - u * F)) (h2 : ∀ z, K37.Sp (pws pv D) z → K37.Id F G z) :
    K37.Size p (K37.Id F G) (if allP pv D then some (psum pv D) else none) := by
  haveI := fd_of hp
  have hu : F.co D * 1 = 1 := by rw [hF]; grind
  have t := piv_tr g
  have h2' : ∀ a, a ∈ pws pv D → K37.Id F G a := fun a ha => h2 a (K37.Sp.mem ha)
  have h3 : ∀ a, a ∈ pws pv D → K37.dlt a D := fun a ha => by
    have := t.dlt_mem a ha
    rw [pws_len] at this
    exact this
  have key := K37.tri_size els_all (els_nodup p) (K37.Id.isSub F G) t (by
    rw [pws_len]
    exact fun z hz => K37.rest_rows dF hu h1 h2' h3 z hz) (by
    rw [pws_len]
    exact fun z => K37.red_rows dF hu G z)
  rw [els_len] at key
  by_cases a : allP pv D
  · rw [if_pos a]
    have f := (piv_full g).mpr a
    rw [if_neg ((K37.tp_full _).mpr f), K37.tp_dg _ f, piv_td] at key
    exact key
  · rw [if_neg a]
    rw [if_pos (Classical.not_not.mp fun z => a ((piv_full g).mp ((K37.tp_full _).mp z)))] at key
    exact key
/-! the dict of pivots -/
def yv (pv : Nat → Pv p) (i : Nat) : Rw p × Addr := (pv i).getD ((0, 0), 0)
theorem fnd_all {D : Nat} {pv : Nat → Pv p} (a : allP pv D) : fnd D pv D = (List.range D).map fun i => ((.inl ((D - 1 - i : Nat) : Int) : Key), V.ref (yv pv i).2) := by
  unfold fnd
  rw [← List.filterMap_eq_map]
  refine fm_congr fun i hi => ?_
  rw [List.mem_range] at hi
  cases e : pv i with
  | none => exact absurd e (a i hi)
  | some y =>
    show some _ = some ((.inl ((D - 1 - i : Nat) : Int) : Key), V.ref (yv pv i).2)
    unfold yv
    rw [e]
    rfl
theorem filterMap_lt {α β : Type} {f : α → Option β} : ∀ {l : List α} {a : α}, a ∈ l → f a = none → (l.filterMap f).length < l.length
  | b :: l, a, h, e => by
    rcases List.mem_cons.mp h with rfl | h
    · rw [List.filterMap_cons_none e]
      have := List.length_filterMap_le f l
      rw [List.length_cons]
      omega
    · have := filterMap_lt h e
      rw [List.filterMap_cons]
      split
      · rw [List.length_cons]
        omega
      · rw [List.length_cons, List.length_cons]
        omega
theorem fnd_some {D : Nat} {pv : Nat → Pv p} (a : ¬ allP pv D) : (fnd D pv D).length < D := by
  obtain ⟨i, hi⟩ := Classical.not_forall.mp a
  have hi' : i < D ∧ pv i = none := by
    by_cases h : i < D
    · exact ⟨h, Classical.not_not.mp fun z => hi fun _ => z⟩
    · exact absurd (fun z => absurd z h) hi
  have := filterMap_lt (f := fun i => (pv i).map fun y => ((.inl ((D - 1 - i : Nat) : Int) : Key), V.ref y.2)) (List.mem_range.mpr hi'.1) (by
    show Option.map _ (pv i) = none
    rw [hi'.2]
    rfl)
  rw [List.length_range] at this
  exact this
theorem yv_wv {pv : Nat → Pv p} {i : Nat} (h : pv i ≠ none) : pv i = some (yv pv i) ∧ wv pv i = (yv pv i).1.1 := by
  unfold yv wv
  cases e : pv i with
  | none => exact absurd e h
  | some y => exact ⟨rfl, rfl⟩
theorem fnd_get {D : Nat} {pv : Nat → Pv p} (a : allP pv D) {i : Nat} (hi : i < D) : valV (fnd D pv D) (.inl ((D - 1 - i : Nat) : Int)) = some (.ref (yv pv i).2) := by
  rw [fnd_all a]
  have : ∀ l : List Nat, (∀ j, j ∈ l → j < D) → i ∈ l → valV (l.map fun i => ((.inl ((D - 1 - i : Nat) : Int) : Key), V.ref (yv pv i).2)) (.inl ((D - 1 - i : Nat) : Int)) = some (.ref (yv pv i).2) := by
    intro l
    induction l with
    | nil => exact fun _ h => nomatch h
    | cons b l ih =>
      intro hl h
      rw [List.map_cons]
      by_cases e : b = i
      · rw [e]
        exact valV_pos rfl
      · rw [valV_neg fun z => e (by
          have z := inlj z
          have := hl b (by simp)
          omega)]
        exact ih (fun j hj => hl j (by simp [hj])) ((List.mem_cons.mp h).resolve_left fun z => e z.symm)
  exact this _ (fun j hj => List.mem_range.mp hj) (List.mem_range.mpr hi)
end
end L2.K37R
end W32
section W33
set_option autoImplicit false
set_option linter.all false
set_option maxRecDepth 100000
/-! rest_size_of -/
namespace L2.K37R
open PySem PySem.Spec PyProof.Rows C8 PySem.W
open K37 (S2 Pl)
section
variable {X : Cx} {e : Expr} {te : TE} {lo hi : Option Expr} {tl th : TO} {pos p2 : Pos}
/-- xs[lo:hi], the written part named -/
theorem pe_slL {K : PySem.W.Frag} (he : PE X e te) (hl : PO X lo tl) (hu : PO X hi th) (hK : X.K = K := by rfl) : PE X (.Subscript e (.Slice lo hi none p2) pos) (tSl (rSlL K) te tl th) := by
  subst hK
  exact pe_slice sl_list he hl hu
end
theorem cut_y {K : PySem.W.Frag} {σ : St} {H : Hp} {Q : VK} {i j : Nat} {l a0 a1 : Addr} {s : Nat} (hi : σ[i]? = some (some (.ref l))) (hj : σ[j]? = some (some (.int (s : Int)))) (hs : s < 2) (hl : H l = some (.lst [.ref a0, .ref a1]))
    (k : ∀ H' q, Same H H' → H' q = some (.lst [.ref (if s = 0 then a1 else a0)]) → Q (.ref q) H') :
    tOp rCat (tSl (rSlL K) (tVar i) tNoPart (tPart (tVar j))) (tSl (rSlL K) (tVar i) (tPart (tOp (rI0 fun i j => .int (i + j)) (tVar j) (tC (.int 1)))) tNoPart) σ H Q := by
  refine ⟨_, hi, _, hj, _, rfl, l, _, rfl, SqL.of hl, fun p hp => ?_⟩
  have s1 := same_upd_new (o := .lst (cutV [.ref a0, .ref a1] none (some (s : Int)))) hp
  have h1 : upd H p (.lst (cutV [.ref a0, .ref a1] none (some (s : Int)))) p = some (.lst (if s = 0 then [] else [.ref a0])) := by
    rw [upd_same]
    match s, hs with
    | 0, _ => rfl
    | 1, _ => rfl
  generalize upd H p (.lst (cutV [.ref a0, .ref a1] none (some (s : Int)))) = H1 at s1 h1 ⊢
  refine ⟨_, hi, _, hj, _, _, rfl, rfl, _, rfl, l, _, rfl, SqL.of (s1 _ _ hl), fun q hq => ?_⟩
  have s2 := same_upd_new (o := .lst (cutV [.ref a0, .ref a1] (some ((s : Int) + 1)) none)) hq
  have h2 : upd H1 q (.lst (cutV [.ref a0, .ref a1] (some ((s : Int) + 1)) none)) q = some (.lst (if s = 0 then [.ref a1] else [])) := by
    rw [upd_same]
    match s, hs with
    | 0, _ => rfl
    | 1, _ => rfl
  generalize upd H1 q (.lst (cutV [.ref a0, .ref a1] (some ((s : Int) + 1)) none)) = H2 at s2 h2 ⊢
  refine ⟨p, q, _, _, rfl, rfl, s2 _ _ h1, h2, ?_, fun r hr => ?_⟩
  · match s, hs with
    | 0, _ => exact (by decide : 1 ≤ sizeLine)
    | 1, _ => exact (by decide : 1 ≤ sizeLine)
  · refine k _ r (s1.trans (s2.trans (same_upd_new hr))) ?_
    rw [upd_same]
    match s, hs with
    | 0, _ => rfl
    | 1, _ => rfl
section
variable {p : Nat} [NeZero p]
theorem BL.two {H : Hp} {l : Addr} {A B : S2 (Fq p)} (h : BL p H l [A, B]) : ∃ a b, H l = some (.lst [.ref a, .ref b]) ∧ YAtP p H a A ∧ YAtP p H b B := by
  obtain ⟨xs, e, k⟩ := h
  cases k with
  | cons a t =>
    cases t with
    | cons b t =>
      cases t
      obtain ⟨a, rfl, y⟩ := a
      obtain ⟨b, rfl, z⟩ := b
      exact ⟨a, b, e, y, z⟩
theorem plain_top {F : S2 (Fq p)} (h : Plain F) : F.co (K37.dg F) = Pl.C (cf F (0, K37.dg F)) ∧ cf F (0, K37.dg F) ≠ 0 := by
  obtain ⟨h0, h1⟩ := h
  have c0 : F.co (K37.dg F) ≠ 0 := (K37.dg_is h0).1
  have d := K37.dg_is c0
  rw [K37.hi_ne c0] at h1
  rw [show K37.dg (F.co (K37.dg F)) = 0 by omega] at d
  refine ⟨Pl.ext fun i => ?_, d.1⟩
  rw [Pl.co_C]
  split
  · rename_i e
    rw [e]
    rfl
  · rename_i e
    exact d.2 i (by omega)
/-- what is picked, made to begin with 1 -/
theorem first_of {F : S2 (Fq p)} {c : Fq p} (h : Plain F) (hc : c * cf F (0, K37.dg F) = 1) : (K37.kap c * F).co (K37.dg F) = 1 ∧ K37.dg (K37.kap c * F) = K37.dg F ∧ K37.kap c * F ≠ 0 := by
  have co : ∀ j, (K37.kap c * F).co j = Pl.C c * F.co j := fun j => by
    show (Pl.C (Pl.C c) * F).co j = _
    rw [Pl.co_Cmul]
  have t : (K37.kap c * F).co (K37.dg F) = 1 := by
    rw [co, (plain_top h).1, ← Pl.C_mul, hc]
    rfl
  have d : K37.IsD (K37.kap c * F) (K37.dg F) := ⟨by
    rw [t]
    intro z
    have c1 : (1 : Fq p) = 0 := congrArg (fun x : RX p => x.co 0) z
    refine (plain_top h).2 ?_
    have : cf F (0, K37.dg F) = cf F (0, K37.dg F) * 1 := by grind
    rw [this, c1]
    grind, fun i hi => by
    rw [co, (K37.dg_is h.1).2 i hi]
    grind⟩
  exact ⟨t, d.dg, d.ne⟩
theorem about_about (t : Tn) : t.about.about = t := by cases t <;> rfl
theorem act_about (t : Tn) (F : S2 (Fq p)) : act t (act t.about F) = F := by
  have := about_act t.about F
  rw [about_about] at this
  exact this
theorem size_first {F G : S2 (Fq p)} {c d : Fq p} (h : c * d = 1) {o : Option Nat} (x : K37.Size p (K37.Id (K37.kap c * F) G) o) : K37.Size p (K37.Id F G) o := by
  refine x.congr fun z => ⟨fun y => y.unit (a := K37.kap c) (b := 1) rfl (by grind), fun y => y.unit (a := K37.kap d) (b := 1) ?_ (by grind)⟩
  have e : K37.kap d * K37.kap c = (1 : S2 (Fq p)) := by
    rw [← K37.kap_hom.mul, show d * c = 1 by grind]
    rfl
  have : K37.kap d * (K37.kap c * F) = F := by
    rw [← Pl.mul_assoc', e]
    grind
  rw [this]
theorem size_turn (hp : Pr p) {A B : S2 (Fq p)} {t : Tn} {c d : Fq p} (h : c * d = 1) {o : Option Nat} (x : K37.Size p (K37.Id (K37.kap c * act t A) (act t B)) o) : K37.Size p (K37.Id A B) o := by
  haveI := fd_of hp
  exact (size_first h x).hom (act_hom t) (act_hom t.about) (act_about t) (about_act t)
theorem size_pick (hp : Pr p) {A B : S2 (Fq p)} {i s : Nat} {c d : Fq p} (h : c * d = 1) (hs : s < 2) {o : Option Nat} (x : K37.Size p (K37.Id (K37.kap c * act (tn i) ([A, B].getD s 0)) (act (tn i) ([A, B].getD (1 - s) 0))) o) : K37.Size p (K37.Id A B) o := by
  have hs : s = 0 ∨ s = 1 := by omega
  rcases hs with rfl | rfl
  · have x : K37.Size p (K37.Id (K37.kap c * act (tn i) A) (act (tn i) B)) o := x
    exact size_turn hp h x
  · have x : K37.Size p (K37.Id (K37.kap c * act (tn i) B) (act (tn i) A)) o := x
    exact (size_turn hp h x).congr fun z => ⟨fun q => q.comm, fun q => q.comm⟩
theorem rowh_bd {A B : S2 (Fq p)} (h : RowH A B) : Bd A 4 4 ∧ Bd B 4 4 := by
  have one : ∀ {f g : S2 (Fq p)}, PlainR f g → Bd f 4 4 ∧ Bd g 4 4 := fun ⟨d, c, _, h3, _, b1, _, b2, _⟩ => ⟨b1.mono (by decide) (by omega), b2.mono (by decide) (by decide)⟩
  rcases h with h | h | ⟨a, b, rfl, rfl, da, db, _⟩
  · exact one h
  · exact (one h).symm
  · exact ⟨(bd_C da).mono (by decide) (by decide), (bd_C db).mono (by decide) (by decide)⟩
theorem rowh_ne {A B : S2 (Fq p)} (h : RowH A B) : ¬ (A = 0 ∧ B = 0) := by
  rcases h with h | h | ⟨a, b, rfl, rfl, da, db, n⟩
  · exact fun z => h.plain.1.1 z.1
  · exact fun z => h.plain.1.1 z.2
  · exact fun z => n ⟨C_inj z.1, C_inj z.2⟩
theorem size_zero (hp : Pr p) : K37.Size p (K37.Id (0 : S2 (Fq p)) 0) none := by
  haveI := fd_of hp
  have := K37.x_size (a := (0 : RX p)) (b := 0) (c := 0) (s := 0) (t := 0) (by grind) ⟨0, by grind⟩ ⟨0, by grind⟩ p
  rw [K37.hi_zero, if_neg (by decide)] at this
  exact this
end
/-- a number or None -/
def ov : Option Nat → V
  | none => .non
  | some n => .int (n : Int)
section
variable {P : Program} {w : World} {K : PySem.W.Frag} {mg : Str → Option Value} {base : Heap}
theorem all_two {p : Nat} [NeZero p] {A B : S2 (Fq p)} {xs : List V} (h : Paired (fun v i => v = V.bl (@decide ([A, B].getD i 0 = 0) (Classical.propDecidable _))) xs ((List.range 2).filter fun _ => true)) : ∃ bs : List Bool, xs = bs.map V.bl ∧ (bs.all id = true ↔ A = 0 ∧ B = 0) := by
  have e := paired_eq h
  refine ⟨[@decide (A = 0) (Classical.propDecidable _), @decide (B = 0) (Classical.propDecidable _)], e, ?_⟩
  simp
abbrev sRestOf : Stmt := top 57
abbrev nRestOf : List Str := ["prime", "books", "turn", "turned", "place", "first", "pivots", "book", "power"]
def spRestOf : Sp := fun vs H Q _ => ∃ (p : Nat) (_ : NeZero p) (l : Addr) (A B : S2 (Fq p)), vs = [.int p, .ref l] ∧ Pr p ∧ BL p H l [A, B] ∧ (RowH A B ∨ (A = 0 ∧ B = 0)) ∧ ∀ H' o, Same H H' → K37.Size p (K37.Id A B) o → Q (ov o) H'
theorem scRestOf : FnScope nRestOf ["prime", "books"] (defScope sRestOf) := ⟨rfl, rfl, rfl, by decide +kernel, rfl, by decide +kernel, by decide +kernel⟩
theorem ok_restOf {f : Addr} {fd : FuncData} (F : FnP K "rest_size_of" sRestOf f fd) (B : Bare mg) (cH : Cal P w K mg base 1 "highest" (Wr spHighest) []) (cPt : Cal P w K mg base 1 "part_at" (Wr spPart) []) (cS : Cal P w K mg base 1 "scaled" (Wr spScaled) []) (cN : Cal P w K mg base 2 "number_in" (Wr spNumberIn) [])
    (cB : Cal P w K mg base 5 "best_turn" (Wr (spBest K)) []) (cP : Cal P w K mg base 4 "pivots_of" (Wr spPivots) []) : FnOk P w K mg base CX0 6 f fd ["prime", "books"] (Wr spRestOf) := by
  refine FnOk.imp (sp := spRestOf) ?_ fun _ _ _ _ h => un_wr h
  refine okP F scRestOf (fun vs H Q E h => ?_) (fun cdv A outer s H vs Q E hr h => ?_)
  · obtain ⟨p, ne, l, A, B, rfl, _⟩ := h
    rfl
  · obtain ⟨p, ne, l, A, B', rfl, hp, hL, hR, fin⟩ := h
    have nd := scRestOf.nd
    have hu := hu_of hr
    have hu1 := Nat.lt_of_succ_lt hu
    refine ⟨_, pss_cons (ps_if (pt_val (pe_callB (cr_all rfl) (by rfl) B.all (by decide +kernel) (pa_cons (pe_lc (own := [("book", 7)]) (g := gName 7) (tt := tYes) rfl nd (pi_list (pv 1)) (blkOk_by (N := nRestOf) (sc := defScope sRestOf) (by decide +kernel))
        (fun _ _ _ _ _ => pg_name (i := 7) nd rfl (Or.inl rfl)) (fun _ _ _ _ _ => pts_nil) (fun _ _ _ _ _ => pe_cmpR (op_eqE hu1) (pv 7) pe_dnewT (nomark _))) pa_nil))) (pss_one (ps_ret pe_non)) pss_nil)
      (pss_cons (ps_asg (pe_c cB hr (by decide) (by rfl) (pa_cons (pv 0) (pa_cons (pv 1) pa_nil))) (pg_tup rfl (pgs_cons (pg_name (i := 2) nd rfl (.inl rfl)) (pgs_cons (pg_name (i := 3) nd rfl (.inl rfl)) (pgs_cons (pg_name (i := 4) nd rfl (.inl rfl)) pgs_nil)))))
      (pss_cons (ps_set (i := 5) nd rfl (.inl rfl) (pe_c cS hr (by decide) (by rfl) (pa_cons (pv 0) (pa_cons (pe_il (K := K) (pv 3) (pv 4)) (pa_cons (pe_c cN hr (by decide) (by rfl) (pa_cons (pv 0) (pa_cons (pe_il (K := K) (pv 3) (pv 4)) pa_nil))) pa_nil)))))
      (pss_cons (ps_set (i := 6) nd rfl (.inr rfl) (pe_c cP hr (by decide) (by rfl) (pa_cons (pv 0) (pa_cons (pv 5) (pa_cons (pe_op op_cat (pe_slL (K := K) (pv 3) po_none (po_some (pv 4))) (pe_slL (K := K) (pv 3) (po_some (pe_op op_add (pv 4) pe_int)) po_none)) pa_nil)))))
      (pss_cons (ps_if (pt_cmpR op_lt (pe_callB call_lenD (by rfl) B.len (by decide +kernel) (pa_cons (pv 6) pa_nil)) (pe_c cH hr (by decide) (by rfl) (pa_cons (pv 5) (pa_cons pe_int pa_nil))) (nomark _)) (pss_one (ps_ret pe_non)) pss_nil)
      (pss_one (ps_ret (pe_callB (cr_sum rfl) (by rfl) B.sum (by decide +kernel) (pa_cons (pe_lock (pe_lc (own := [("power", 8)]) (g := gName 8) (tt := tYes) rfl nd (pi_keys (pv 6)) (blkOk_by (N := nRestOf) (sc := defScope sRestOf) (by decide +kernel))
        (fun _ _ _ _ _ => pg_name (i := 8) nd rfl (Or.inl rfl)) (fun _ _ _ _ _ => pts_nil)
        (fun _ _ _ _ _ => pe_c cH (hr : Room _ _) (by decide) (by rfl) (pa_cons (pe_c cPt (hr : Room _ _) (by decide) (by rfl) (pa_cons (pe_it (K := K) (pe_dget hu (pv 6) (pv 8) (fun _ _ => rfl)) pe_int) (pa_cons (pv 8) pa_nil))) (pa_cons pe_int pa_nil))))) pa_nil)))))))), ?_⟩
    haveI := fd_of hp
    obtain ⟨a, b, hl, ya, yb⟩ := hL.two
    refine ⟨_, rfl, l, rfl, ⟨_, SqL.of hl⟩, fun D hD => ?_⟩
    refine lc_gen (walk_list (xs := [.ref a, .ref b])) hD (by show 2 < sizeLine; decide) (fun _ => true) (fun i v H'' => v = V.bl (@decide ([A, B'].getD i 0 = 0) (Classical.propDecidable _))) (fun _ _ _ _ _ h => h) (fun H'' s'' => SqL.of (s'' _ _ hl)) ?_ ?_
    · rintro i x H1' H1 Q' S' hi s1 ⟨acc, hacc⟩ ⟨rfl, hx⟩ yes no
      obtain ⟨c, rfl, ts, et, kt⟩ : ∃ c, x = .ref c ∧ YAtP p H1 c ([A, B'].getD i 0) := by
        match i, hi, hx with
        | 0, _, hx =>
          cases hx
          exact ⟨a, rfl, ya.same s1⟩
        | 1, _, hx =>
          cases hx
          exact ⟨b, rfl, yb.same s1⟩
      refine ⟨wipe_set _ 7 _, tyes ⟨_, rfl, fun e he => ?_⟩⟩
      have se := same_upd_new (o := .dT []) he
      exact ⟨_, _, ts, rfl, rfl, se _ _ et, upd_same, yes _ _ rfl se (congrArg V.bl (decide_eq_decide.mpr kt.eq_nil))⟩
    intro H1 zs s1 dz pz
    obtain ⟨bs, rfl, hb⟩ := all_two pz
    refine ⟨D, bs, rfl, SqL.of dz, _, rfl, ?_⟩
    by_cases h0 : A = 0 ∧ B' = 0
    · rw [hb.mpr h0]
      refine iteT (fin _ none s1 ?_)
      rw [h0.1, h0.2]
      exact size_zero hp
    rw [Bool.eq_false_iff.mpr fun z => h0 (hb.mp z)]
    refine iteF ?_
    have hR := hR.resolve_right h0
    obtain ⟨b4A, b4B⟩ := rowh_bd hR
    have hL1 := hL.same s1
    refine ⟨_, rfl, _, rfl, wr ⟨p, ne, l, _, rfl, hp, hL1, by show 2 ≤ 4; decide, fun F hF => ?_, pick_ex hR, fun H2 q v l2 i s s2 hq htn L2 hi hs hP hmin => ?_⟩⟩
    · rcases List.mem_cons.mp hF with e | e
      · rw [e]
        exact b4A
      · rw [List.mem_singleton.mp e]
        exact b4B
    have hs2 : s < 2 := hs
    obtain ⟨D0, m, n, g, δ, fit⟩ := pick_fit hR ⟨hi, hs, hP, hmin⟩
    refine ⟨q, _, rfl, SqT.of hq, rfl, _, _, rfl, _, _, rfl, _, _, rfl, rfl, ?_⟩
    have back := fun {c d : Fq p} {o : Option Nat} (e : c * d = 1) (x : K37.Size p (K37.Id (K37.kap c * act (tn i) ([A, B'].getD s 0)) (act (tn i) ([A, B'].getD (1 - s) 0))) o) => size_pick hp e hs2 x
    have L2' : BL p H2 l2 [act (tn i) A, act (tn i) B'] := L2
    obtain ⟨a0, a1, hl2, y0, y1⟩ := L2'.two
    obtain ⟨c, hc, yF, yG⟩ : ∃ c, [V.ref a0, V.ref a1][s]? = some (.ref c) ∧ YAtP p H2 c (act (tn i) ([A, B'].getD s 0)) ∧ YAtP p H2 (if s = 0 then a1 else a0) (act (tn i) ([A, B'].getD (1 - s) 0)) := by
      have h01 : s = 0 ∨ s = 1 := by omega
      clear hs hP hmin fit back
      rcases h01 with rfl | rfl
      · exact ⟨a0, rfl, y0, y1⟩
      · exact ⟨a1, rfl, y1, y0⟩
    clear hmin hs
    generalize act (tn i) ([A, B'].getD s 0) = F0 at back yF hP fit
    generalize act (tn i) ([A, B'].getD (1 - s) 0) = G0 at back yG fit
    have dgF : K37.dg F0 = D0 := by
      have := fit.hi
      rw [K37.hi_ne hP.1] at this
      omega
    have D3 : D0 ≤ 3 := by
      rcases fit.lv with ⟨z, _⟩ | ⟨z, _⟩ | ⟨z, _⟩ | ⟨z, _⟩ <;> omega
    have g3 := fit.g3
    have sF : Sm F0 := fit.bF.mono (by omega) (by omega)
    refine ⟨_, rfl, _, rfl, _, rfl, l2, _, _, _, rfl, rfl, SqL.of hl2, atI_nat hc, _, rfl, _, rfl, _, rfl, l2, _, _, _, rfl, rfl, SqL.of hl2, atI_nat hc, ?_⟩
    refine wr ⟨p, ne, c, F0, rfl, hp, yF, sF, hP.1, (plain_top hP).2, fun H3 k s3 k0 k1 k2 => ?_⟩
    obtain ⟨f1, f2, f3⟩ := first_of hP k2
    rw [dgF] at f1 f2
    refine scaled_y hp (yF.same s3) sF fun H4 q4 s4 n4 y4 => ?_
    have s24 := s3.trans s4
    have bF1 : Bd (K37.kap (red k) * F0) (g + 1) (D0 + 1) := fit.bF.kap _
    have back := fun {o : Option Nat} (x : K37.Size p (K37.Id (K37.kap (red k) * F0) G0) o) => back k2 x
    generalize K37.kap (red k) * F0 = F1 at f1 f2 f3 y4 bF1 back
    have sF1 : Sm F1 := bF1.mono (by omega) (by omega)
    have n11 := fit.n11
    have n1 := fit.n1
    refine ⟨_, rfl, _, rfl, ?_⟩
    refine cut_y (K := K) (i := 3) (j := 4) rfl rfl hs2 (s24 _ _ hl2) fun H5 l5 s5 hl5 => ?_
    refine wr ⟨p, ne, q4, l5, F1, G0, D0, m, n, g, δ, rfl, hp, y4.same s5, ⟨_, hl5, .cons ⟨_, rfl, yG.same (s24.trans s5)⟩ .nil⟩, f1, bF1, fit.bG, by omega, n1, by omega, fit.dl, fit.lv, ?_, fun H6 q6 pv s6 hq6 gp h1 h2 => ?_⟩
    · have := Nat.mul_le_mul (show g + 1 ≤ 4 by omega) (show D0 + 1 ≤ 4 by omega)
      omega
    have y6 := (y4.same s5).same s6
    refine ⟨_, rfl, q6, _, rfl, hq6, _, rfl, ?_⟩
    refine highy_y y6 sF1 fun H7 s7 => ?_
    rw [K37.hi_ne f3, f2]
    refine ⟨_, _, rfl, rfl, _, rfl, ?_⟩
    have key := back (piv_size hp f1 bF1.dlt gp.q h1 h2)
    have s07 := s1.trans (s2.trans (s24.trans (s5.trans (s6.trans s7))))
    by_cases al : allP pv D0
    · rw [if_pos al] at key
      have ln : (fnd D0 pv D0).length = D0 := by rw [fnd_all al, List.length_map, List.length_range]
      rw [decide_eq_false (by omega)]
      refine iteF ?_
      have hq7 := s7 _ _ hq6
      have gp7 := gp.same s7
      refine ⟨q6, _, hq7, True.intro, fun od => ⟨.ref q6, rfl, q6, od, rfl, .inl ⟨_, upd_same, fun D hD => ?_⟩⟩⟩
      have hDq : D ≠ q6 := fun e => by
        rw [e, upd_same] at hD
        cases hD
      have other : ∀ {c : Addr} {o : HO}, c ≠ q6 → H7 c = some o → upd H7 q6 (.frz od (.dK (fnd D0 pv D0))) c = some o := fun {c o} n e => by
        rw [upd_ne n]
        exact e
      have hz : upd H7 q6 (.frz od (.dK (fnd D0 pv D0))) q6 = some (.frz od (.dK (fnd D0 pv D0))) := upd_same
      refine lc_gen (walk_keys (kvs := fnd D0 pv D0)) hD (by rw [ln]; exact sm_line (by omega)) (fun _ => true) (fun i v _ => v = .int ((K37.dg ((wv pv i).co (D0 - 1 - i)) : Nat) : Int)) (fun _ _ _ _ _ h => h) (fun H'' s'' => s'' _ _ hz) ?_ ?_
      · rintro i x H1' H8 Q' S' hi s8 ⟨acc, hacc⟩ ⟨rfl, kk, v, hk, rfl⟩ yes no
        rw [ln] at hi
        have ek : kk = .inl ((D0 - 1 - i : Nat) : Int) := by
          rw [fnd_all al, List.getElem?_map, List.getElem?_range hi] at hk
          cases hk
          rfl
        subst ek
        have hg : DGet H8 q6 (kV (.inl ((D0 - 1 - i : Nat) : Int))) (some (.ref (yv pv i).2)) := .inl ⟨_, _, .inr ⟨od, s8 _ _ hz⟩, rfl, (fnd_get al hi).symm⟩
        obtain ⟨ep, ew⟩ := yv_wv (al i hi)
        obtain ⟨⟨rb, rd, rc, r1, ⟨us, r2, r3⟩, r4, r5⟩, nzc, bdw, _⟩ := gp7 i hi _ ep
        have hr8 : H8 (yv pv i).2 = some (.tup [.ref rb, .ref rd]) := s8 _ _ (other (ne_of r1 hq7 (fun z => nomatch z)) r1)
        have hb8 : YAtP p H8 rb (yv pv i).1.1 := ⟨us, s8 _ _ (other (ne_of r2 hq7 (fun z => nomatch z)) r2), r3⟩
        rw [ew] at yes
        generalize (yv pv i).1.1 = W at nzc bdw hb8 yes
        have pz : partZ W ((D0 - 1 - i : Nat) : Int) = W.co (D0 - 1 - i) := partZ_nat _ _
        refine ⟨wipe_set _ 8 _, tyes ⟨_, rfl, _, rfl, q6, _, rfl, hg, _, _, _, _, rfl, rfl, SqT.of hr8, at0, _, rfl, ?_⟩⟩
        refine part_y (n := ((D0 - 1 - i : Nat) : Int)) hb8 (bdw.mono (by omega) (by omega)) fun H9 q9 s9 n9 y9 => ?_
        rw [pz] at y9
        refine highx_y y9 (smC (bdw.co _) (by omega)) fun H10 s10 => ?_
        exact yes _ _ rfl (s9.trans s10) (by rw [K37.hi_ne nzc])
      · intro H8 zs s8 dz pz
        have ez := paired_eq pz
        rw [filter_all, ln] at ez
        have same : Same H7 (upd H8 q6 (.dK (fnd D0 pv D0))) := fun c o e => by
          by_cases hc : c = q6
          · rw [hc] at e ⊢
            rw [upd_same, ← e, hq7]
          · rw [upd_ne hc]
            exact s8 _ _ (other hc e)
        refine ⟨s8 _ _ hz, D, ((List.range D0).map fun i => ((K37.dg ((wv pv i).co (D0 - 1 - i)) : Nat) : Int)), rfl, SqL.of ?_, ?_⟩
        · rw [upd_ne hDq, dz, ez, List.map_map]
          rfl
        · have es : ((List.range D0).map fun i => ((K37.dg ((wv pv i).co (D0 - 1 - i)) : Nat) : Int)).sum = ((psum pv D0 : Nat) : Int) := by
            unfold psum
            generalize List.range D0 = l
            induction l with
            | nil => rfl
            | cons x l ih =>
              rw [List.map_cons, List.map_cons, List.sum_cons, List.sum_cons, ih]
              omega
          rw [es]
          exact fin _ (some (psum pv D0)) (s07.trans same) key
    · rw [if_neg al] at key
      have := fnd_some al
      rw [decide_eq_true (by omega)]
      exact iteT (fin _ none s07 key)
end
end L2.K37R
end W33
section R9
set_option autoImplicit false
set_option linter.all false
set_option maxRecDepth 100000
/-! name = {..} on one line, the name a local -/
namespace L2.K37R
open PySem PySem.Spec PyProof.Rows
theorem swd_true {kx vx : Expr} {gs : List Comprehension} {scope : Scope} {pos py : Pos} {y : Str} {l : Nat} {env : Env} (hk : env.scope.kind = .function) (hy : env.scope.names.lookup y = some .local) (hl : (py.line == pos.line) = true)
    (ha : (scope.names.any fun (n, k) => n == y && (k == .local || k == .cell)) = false) : swapsWith (.DictComp kx vx gs scope pos) (some (.Name y py)) l env = pure true := by
  have ky : env.kindOf y = some .local := hy
  have hb : env.blockKind = .function := by
    unfold Env.blockKind
    rw [hk]
    rfl
  unfold swapsWith
  simp only [hb, ky, ha, Expr.pos, hl]
  rfl
section
variable {X : Cx}
theorem ps_setDc {i : Nat} {y : Str} {py : Pos} {kx vx tg iter : Expr} {ifs : List Expr} {scope : Scope} {own : List (Str × Nat)} {pos spos : Pos} {wi : TI} {g : TG} {tt : TT} {tk tv : TE} (hc : X.calm = true) (hN : X.N.Nodup) (hy : X.N[i]? = some y) (hyl : X.env.scope.names.lookup y = some .local)
    (hsw : swapsWith (.DictComp kx vx [⟨tg, iter, ifs, 0⟩] scope pos) (some (.Name y py)) spos.line X.env = pure true) (hi : PI X tg iter wi) (ok : BlkOk X.N X.env.scope scope own)
    (hg : BlkPG X scope tg g) (ht : BlkPT X scope ifs tt) (hk : BlkPE X scope kx tk) (he : BlkPE X scope vx tv) (hs : ∀ x, foldedSetIterable iter X.env x = pure x := by intro _; rfl) :
    PS X (.Assign [.Name y py] (.DictComp kx vx [⟨tg, iter, ifs, 0⟩] scope pos) spos) (tAsg (tDc wi g tt tk tv (own.map (·.2))) (gName i)) := by
  refine ⟨fun pins s σ H D I h => ?_⟩
  rw [exec_Assign_Name_used _ _ _ _ hsw]
  refine wpAny_bind (wpAny_standAt (wpAny_bind ?_))
  show wpAny _ X.A (do let _ ← comprehension (.DictComp kx vx [⟨tg, iter, ifs, 0⟩] scope pos) scope X.env (firstIterPos [⟨tg, iter, ifs, 0⟩] pos) newDict false (eval iter X.env) (some (assign (.Name y py) X.env))) _ _ s
  have h : tDc wi g tt tk tv (own.map (·.2)) σ H (fun x H1 => gName i x σ H1 D.nx) := h
  refine wpAny_bind (thn (dc_core (Qf := fun _ s' => SP X pins D .next s') hc hN I hi ok hg ht hk he hs h fun L C s' m H' I' q hn f => ?_) fun _ s' hq => wpAny_pure (wpAny_pure hq))
  show wpAny _ _ (assign (.Name y py) X.env (.ref L)) _ _ _
  refine wpAny_assign_Name (store_ok2 (v := V.ref L) I' hN hy (.inl hyl) rfl (fun s2 I2 ⟨a, sb, ha⟩ => ?_) (.inr hyl))
  obtain ⟨f0, f1, f2, f3, f4, f5⟩ := f
  have haC : C ≠ a := by
    rcases ha with z | z
    · rw [z]
      exact f1
    · exact fun e => f4 y a z e.symm
  refine ⟨m, hn.sameBut sb haC, fun h3 sb3 => ?_⟩
  exact ⟨_, H', I2.turned (t' := s2.toks) (fun b o hb e => (sb3.2 b hb).trans e) f0 f1 f3 f4 f5, q⟩
theorem ps_setDcT {i : Nat} {y : Str} {py : Pos} {kx vx tg iter : Expr} {ifs : List Expr} {scope : Scope} {own : List (Str × Nat)} {pos spos : Pos} {wi : TI} {g : TG} {tt : TT} {tk tv : TE} (hu : X.A.units < cLine) (hc : X.calm = true) (hN : X.N.Nodup) (hy : X.N[i]? = some y) (hyl : X.env.scope.names.lookup y = some .local)
    (hsw : swapsWith (.DictComp kx vx [⟨tg, iter, ifs, 0⟩] scope pos) (some (.Name y py)) spos.line X.env = pure true) (hi : PI X tg iter wi) (ok : BlkOk X.N X.env.scope scope own)
    (hg : BlkPG X scope tg g) (ht : BlkPT X scope ifs tt) (hk : BlkPE X scope kx tk) (he : BlkPE X scope vx tv) (hs : ∀ x, foldedSetIterable iter X.env x = pure x := by intro _; rfl) :
    PS X (.Assign [.Name y py] (.DictComp kx vx [⟨tg, iter, ifs, 0⟩] scope pos) spos) (tAsg (tDcT wi g tt tk tv (own.map (·.2))) (gName i)) := by
  refine ⟨fun pins s σ H D I h => ?_⟩
  rw [exec_Assign_Name_used _ _ _ _ hsw]
  refine wpAny_bind (wpAny_standAt (wpAny_bind ?_))
  show wpAny _ X.A (do let _ ← comprehension (.DictComp kx vx [⟨tg, iter, ifs, 0⟩] scope pos) scope X.env (firstIterPos [⟨tg, iter, ifs, 0⟩] pos) newDict false (eval iter X.env) (some (assign (.Name y py) X.env))) _ _ s
  have h : tDcT wi g tt tk tv (own.map (·.2)) σ H (fun x H1 => gName i x σ H1 D.nx) := h
  refine wpAny_bind (thn (dcT_core (Qf := fun _ s' => SP X pins D .next s') hu hc hN I hi ok hg ht hk he hs h fun L C s' m H' I' q hn f => ?_) fun _ s' hq => wpAny_pure (wpAny_pure hq))
  show wpAny _ _ (assign (.Name y py) X.env (.ref L)) _ _ _
  refine wpAny_assign_Name (store_ok2 (v := V.ref L) I' hN hy (.inl hyl) rfl (fun s2 I2 ⟨a, sb, ha⟩ => ?_) (.inr hyl))
  obtain ⟨f0, f1, f2, f3, f4, f5⟩ := f
  have haC : C ≠ a := by
    rcases ha with z | z
    · rw [z]
      exact f1
    · exact fun e => f4 y a z e.symm
  refine ⟨m, hn.sameBut sb haC, fun h3 sb3 => ?_⟩
  exact ⟨_, H', I2.turned (t' := s2.toks) (fun b o hb e => (sb3.2 b hb).trans e) f0 f1 f3 f4 f5, q⟩
end
end L2.K37R
end R9
section W34
set_option autoImplicit false
set_option linter.all false
set_option maxRecDepth 100000
/-! ones_of -/
namespace L2.K37R
open PySem PySem.Spec PyProof.Rows C8 PySem.W
open K37 (S2 Pl)
section
variable {p : Nat} [NeZero p]
theorem fnd_val (D : Nat) (pv : Nat → Pv p) {i : Nat} (hi : i < D) : valV (fnd D pv D) (.inl ((D - 1 - i : Nat) : Int)) = (pv i).map fun y => V.ref y.2 := by
  unfold fnd
  have : ∀ l : List Nat, (∀ j, j ∈ l → j < D) → l.Nodup → valV (l.filterMap fun i => (pv i).map fun y => ((.inl ((D - 1 - i : Nat) : Int) : Key), V.ref y.2)) (.inl ((D - 1 - i : Nat) : Int)) = if i ∈ l then (pv i).map fun y => V.ref y.2 else none := by
    intro l
    induction l with
    | nil => exact fun _ _ => rfl
    | cons b l ih =>
      intro hl hn
      have ih := ih (fun j hj => hl j (by simp [hj])) (List.nodup_cons.mp hn).2
      have hb := hl b (by simp)
      by_cases e : b = i
      · subst e
        rw [if_pos (by simp)]
        have nb : b ∉ l := (List.nodup_cons.mp hn).1
        rw [if_neg nb] at ih
        cases eb : pv b with
        | none =>
          rw [List.filterMap_cons_none (by rw [eb]; rfl)]
          exact ih
        | some y =>
          rw [List.filterMap_cons_some (b := ((.inl ((D - 1 - b : Nat) : Int) : Key), V.ref y.2)) (by rw [eb]; rfl)]
          exact valV_pos rfl
      · have ei : (i ∈ b :: l) ↔ i ∈ l := by
          rw [List.mem_cons]
          exact ⟨fun h => h.resolve_left fun z => e z.symm, .inr⟩
        simp only [ei]
        cases eb : pv b with
        | none =>
          rw [List.filterMap_cons_none (by rw [eb]; rfl)]
          exact ih
        | some y =>
          rw [List.filterMap_cons_some (b := ((.inl ((D - 1 - b : Nat) : Int) : Key), V.ref y.2)) (by rw [eb]; rfl), valV_neg fun z => e (by
            have z := inlj z
            omega)]
          exact ih
  rw [this _ (fun j hj => List.mem_range.mp hj) List.nodup_range, if_pos (List.mem_range.mpr hi)]
open Classical in
theorem last_no {D : Nat} {pv : Nat → Pv p} (hD : 1 ≤ D) (h : ∀ y, pv (D - 1) = some y → 0 < K37.dg (y.1.1.co 0)) : (if allP pv D then some (psum pv D) else none) ≠ some 0 := by
  by_cases a : allP pv D
  · rw [if_pos a]
    obtain ⟨e1, e2⟩ := yv_wv (a (D - 1) (by omega))
    have l := h _ e1
    have : K37.dg ((wv pv (D - 1)).co (D - 1 - (D - 1))) ≤ psum pv D := K37.le_sum_mem (List.mem_map.mpr ⟨D - 1, List.mem_range.mpr (by omega), rfl⟩)
    rw [e2, Nat.sub_self] at this
    intro z
    have := Option.some.inj z
    omega
  · rw [if_neg a]
    exact fun z => nomatch z
theorem last_yes {F G : S2 (Fq p)} {D : Nat} {pv : Nat → Pv p} (hp : Pr p) (hD : 1 ≤ D) (g : GoodQ D pv) (h2 : ∀ z, K37.Sp (pws pv D) z → K37.Id F G z) {y : Rw p × Addr} (hy : pv (D - 1) = some y) (h0 : K37.dg (y.1.1.co 0) = 0) : K37.Size p (K37.Id F G) (some 0) := by
  haveI := fd_of hp
  obtain ⟨nz, bd, _⟩ := g (D - 1) (by omega) y hy
  rw [Nat.sub_self] at nz bd
  obtain ⟨b, hb⟩ := K37.unit_of_dg nz h0
  have w1 : y.1.1 = Pl.C (y.1.1.co 0) := Pl.ext fun i => by
    rw [Pl.co_C]
    split
    · rename_i e
      rw [e]
    · rename_i e
      exact bd.dlt i (by omega)
  have m : K37.Id F G y.1.1 := h2 _ (K37.Sp.mem (by
    rw [pws_wv]
    refine List.mem_map.mpr ⟨D - 1, List.mem_range.mpr (by omega), ?_⟩
    unfold wv
    rw [hy]))
  refine K37.one_of (K37.Id.isSub F G) (fun z => ?_) p
  have e : z = (z * Pl.C b) * y.1.1 := by
    rw [w1, Pl.mul_assoc', ← Pl.C_mul, show b * y.1.1.co 0 = 1 by rw [Pl.mul_comm']; exact hb]
    show z = z * 1
    grind
  rw [e]
  exact m.mul _
theorem num_size {F G : S2 (Fq p)} (hp : Pr p) (h : F.co 0 = 1) (d : K37.dlt F 1) : K37.Size p (K37.Id F G) (some 0) := by
  have k := piv_size (G := G) (pv := fun _ => none) (D := 0) hp h d (fun i hi => absurd hi (Nat.not_lt_zero i)) (fun k hk => absurd hk (Nat.not_lt_zero k)) (fun z hz => by
    have hz : z = 0 := hz
    rw [hz]
    exact (K37.Id.isSub F G).zero)
  have a : allP (p := p) (fun _ => none) 0 := fun i hi => absurd hi (Nat.not_lt_zero i)
  rw [if_pos a] at k
  exact k
theorem Bk.num {c : Int} (q : Nat × Nat) (h0 : 0 < c) (h1 : c < p) : Bk p [(q, c)] (tm q (red c)) := by
  have k := Bk.put (Bk.nil (p := p)) q h0 h1 (tm q (red c)) (fun r => by
    rw [cf_tm, cf_zero])
  exact k
theorem bd_tm (q : Nat × Nat) (c : Fq p) : Bd (tm q c) (q.1 + 1) (q.2 + 1) := fun r hr => by
  rw [cf_tm] at hr
  by_cases e : r = q
  · rw [e]
    exact ⟨Nat.lt_succ_self _, Nat.lt_succ_self _⟩
  · rw [if_neg e] at hr
    exact absurd rfl hr
end
theorem join_y {K : PySem.W.Frag} {σ : St} {H : Hp} {Q : VK} {i j : Nat} {q u1 u2 : Addr} {s : Nat} {te : TE} {R : Hp → Addr → Prop} (hi : σ[i]? = some (some (.ref q))) (hj : σ[j]? = some (some (.int (s : Int)))) (hs : s < 2) (hq : H q = some (.lst [.ref u1, .ref u2])) (hR : ∀ H1 H2 c, Same H1 H2 → R H1 c → R H2 c)
    (hT : ∀ (H1 : Hp) (Q1 : VK), Same H H1 → (∀ H2 r c, Same H1 H2 → H2 r = some (.lst [.ref c]) → R H2 c → Q1 (.ref r) H2) → te σ H1 Q1)
    (k : ∀ H' r c, Same H H' → H' r = some (.lst (if s = 0 then [.ref c, .ref u2] else [.ref u2, .ref c])) → R H' c → Q (.ref r) H') :
    tOp rCat (tOp rCat (tSl (rSlL K) (tVar i) (tPart (tC (.int 1))) (tPart (tOp (rI0 fun i j => .int (i + j)) (tVar j) (tC (.int 1))))) te) (tSl (rSlL K) (tVar i) (tPart (tOp (rI0 fun i j => .int (i + j)) (tVar j) (tC (.int 1)))) tNoPart) σ H Q := by
  refine ⟨_, hi, _, rfl, _, hj, _, _, rfl, rfl, _, rfl, q, _, rfl, SqL.of hq, fun p hp => ?_⟩
  have s1 := same_upd_new (o := .lst (cutV [.ref u1, .ref u2] (some 1) (some ((s : Int) + 1)))) hp
  have h1 : upd H p (.lst (cutV [.ref u1, .ref u2] (some 1) (some ((s : Int) + 1)))) p = some (.lst (if s = 0 then [] else [.ref u2])) := by
    rw [upd_same]
    match s, hs with
    | 0, _ => rfl
    | 1, _ => rfl
  generalize upd H p (.lst (cutV [.ref u1, .ref u2] (some 1) (some ((s : Int) + 1)))) = H1 at s1 h1 ⊢
  refine hT _ _ s1 fun H2 r c s2 hr hc => ?_
  have h2 := s2 _ _ h1
  refine ⟨p, r, _, _, rfl, rfl, h2, hr, ?_, fun t ht => ?_⟩
  · match s, hs with
    | 0, _ => exact (by decide : 1 ≤ sizeLine)
    | 1, _ => exact (by decide : 2 ≤ sizeLine)
  have s3 := same_upd_new (o := .lst ((if s = 0 then [] else [.ref u2]) ++ [.ref c])) ht
  have h3 : upd H2 t (.lst ((if s = 0 then [] else [.ref u2]) ++ [.ref c])) t = some (.lst ((if s = 0 then [] else [.ref u2]) ++ [.ref c])) := upd_same
  generalize upd H2 t (.lst ((if s = 0 then [] else [.ref u2]) ++ [.ref c])) = H3 at s3 h3 ⊢
  have s13 := s1.trans (s2.trans s3)
  refine ⟨_, hi, _, hj, _, _, rfl, rfl, _, rfl, q, _, rfl, SqL.of (s13 _ _ hq), fun v hv => ?_⟩
  have s4 := same_upd_new (o := .lst (cutV [.ref u1, .ref u2] (some ((s : Int) + 1)) none)) hv
  have h4 : upd H3 v (.lst (cutV [.ref u1, .ref u2] (some ((s : Int) + 1)) none)) v = some (.lst (if s = 0 then [.ref u2] else [])) := by
    rw [upd_same]
    match s, hs with
    | 0, _ => rfl
    | 1, _ => rfl
  generalize upd H3 v (.lst (cutV [.ref u1, .ref u2] (some ((s : Int) + 1)) none)) = H4 at s4 h4 ⊢
  refine ⟨t, v, _, _, rfl, rfl, s4 _ _ h3, h4, ?_, fun x hx => ?_⟩
  · match s, hs with
    | 0, _ => exact (by decide : 2 ≤ sizeLine)
    | 1, _ => exact (by decide : 2 ≤ sizeLine)
  have s5 := same_upd_new (o := .lst ((if s = 0 then [] else [.ref u2]) ++ [.ref c] ++ (if s = 0 then [.ref u2] else []))) hx
  refine k _ x c (s13.trans (s4.trans s5)) ?_ (hR _ _ _ (s3.trans (s4.trans s5)) hc)
  rw [upd_same]
  match s, hs with
  | 0, _ => rfl
  | 1, _ => rfl
theorem tnat_non {K : PySem.W.Frag} {H : Hp} {v : V} {t : Tn} (h : TnAt K H v t) : v = .non ↔ t = .non := by
  cases t with
  | non => exact ⟨fun _ => rfl, fun _ => h⟩
  | swap =>
    obtain ⟨a, e, _⟩ := h
    exact ⟨fun z => (by rw [e] at z; cases z), fun z => (by cases z)⟩
  | slide n =>
    obtain ⟨a, e, _⟩ := h
    exact ⟨fun z => (by rw [e] at z; cases z), fun z => (by cases z)⟩
  | back n =>
    obtain ⟨a, e, _⟩ := h
    exact ⟨fun z => (by rw [e] at z; cases z), fun z => (by cases z)⟩
theorem ab_ok {p : Nat} [NeZero p] {i : Nat} (hi : i < 6) (h0 : tn i ≠ .non) : Okt (tn i).about 47 13 ∧ ∀ F : S2 (Fq p), Bd F 47 13 → Sm (act (tn i).about F) := by
  match i, hi with
  | 0, _ => exact absurd rfl h0
  | 1, _ => exact ⟨⟨by decide, by decide⟩, fun F h => (swap_bd h).mono (by decide) (by decide)⟩
  | i + 2, hi => exact ⟨⟨⟨by omega, by omega⟩, by decide, by omega⟩, fun F h => (back_bd (k := i + 1) (by omega) h).mono (by decide) (by omega)⟩
section
variable {P : Program} {w : World} {K : PySem.W.Frag} {mg : Str → Option Value} {base : Heap}
abbrev sOnesOf : Stmt := top 54
abbrev nOnesOf : List Str := ["prime", "books", "turn", "turned", "spot", "back", "first", "others", "last", "number", "multiples", "found", "book", "place"]
def spOnesOf : Sp := fun vs H Q _ => ∃ (p : Nat) (_ : NeZero p) (l : Addr) (A B : S2 (Fq p)), vs = [.int p, .ref l] ∧ Pr p ∧ BL p H l [A, B] ∧ RowH A B ∧
  (∀ H', Same H H' → ¬ K37.Size p (K37.Id A B) (some 0) → Q .non H') ∧ (∀ H' q U V, Same H H' → BL p H' q [U, V] → Sm U → Sm V → K37.Size p (K37.Id A B) (some 0) → Q (.ref q) H')
theorem scOnesOf : FnScope nOnesOf ["prime", "books"] (defScope sOnesOf) := ⟨rfl, rfl, rfl, by decide +kernel, rfl, by decide +kernel, by decide +kernel⟩
set_option maxHeartbeats 4000000 in
theorem ok_onesOf {f : Addr} {fd : FuncData} (F : FnP K "ones_of" sOnesOf f fd) (B : Bare mg) (cH : Cal P w K mg base 1 "highest" (Wr spHighest) []) (cS : Cal P w K mg base 1 "scaled" (Wr spScaled) []) (cN : Cal P w K mg base 2 "number_in" (Wr spNumberIn) [])
    (cB : Cal P w K mg base 5 "best_turn" (Wr (spBest K)) []) (cP : Cal P w K mg base 4 "pivots_of" (Wr spPivots) []) (cF : Cal P w K mg base 3 "filled_up" (Wr spFilled) []) (cT : Cal P w K mg base 3 "turn_book" (Wr (spTurnBook K)) []) (cA : Cal P w K mg base 1 "about" (Wr (spAbout K)) []) :
    FnOk P w K mg base CX0 6 f fd ["prime", "books"] (Wr spOnesOf) := by
  refine FnOk.imp (sp := spOnesOf) ?_ fun _ _ _ _ h => un_wr h
  refine okP F scOnesOf (fun vs H Q E h => ?_) (fun cdv A outer s H vs Q E hr h => ?_)
  · obtain ⟨p, ne, l, A, B, rfl, _⟩ := h
    rfl
  · obtain ⟨p, ne, l, A, B', rfl, hp, hL, hR, kno, kyes⟩ := h
    have nd := scOnesOf.nd
    have hu := hu_of hr
    have hu1 := Nat.lt_of_succ_lt hu
    refine ⟨_, pss_cons (ps_if (pt_val (pe_callB (cr_all rfl) (by rfl) B.all (by decide +kernel) (pa_cons (pe_lc (own := [("book", 12)]) (g := gName 12) (tt := tYes) rfl nd (pi_list (pv 1)) (blkOk_by (N := nOnesOf) (sc := defScope sOnesOf) (by decide +kernel))
        (fun _ _ _ _ _ => pg_name (i := 12) nd rfl (Or.inl rfl)) (fun _ _ _ _ _ => pts_nil) (fun _ _ _ _ _ => pe_cmpR (op_eqE hu1) (pv 12) pe_dnewT (nomark _))) pa_nil))) (pss_one (ps_ret pe_non)) pss_nil)
      (pss_cons (ps_asg (pe_c cB hr (by decide) (by rfl) (pa_cons (pv 0) (pa_cons (pv 1) pa_nil))) (pg_tup rfl (pgs_cons (pg_name (i := 2) nd rfl (.inr rfl)) (pgs_cons (pg_name (i := 3) nd rfl (.inl rfl)) (pgs_cons (pg_name (i := 4) nd rfl (.inr rfl)) pgs_nil)))))
      (pss_cons (ps_set (i := 5) nd rfl (.inr rfl) (pe_c cN hr (by decide) (by rfl) (pa_cons (pv 0) (pa_cons (pe_il (K := K) (pv 3) (pv 4)) pa_nil))))
      (pss_cons (ps_par (i := 6) (j := 7) rfl nd rfl rfl (by decide) rfl rfl (pa_cons (pe_c cS hr (by decide) (by rfl) (pa_cons (pv 0) (pa_cons (pe_il (K := K) (pv 3) (pv 4)) (pa_cons (pv 5) pa_nil))))
          (pa_cons (pe_op op_cat (pe_slL (K := K) (pv 3) po_none (po_some (pv 4))) (pe_slL (K := K) (pv 3) (po_some (pe_op op_add (pv 4) pe_int)) po_none)) pa_nil)) (by rfl))
      (pss_cons (ps_if (pt_cmpR op_eq (pe_c cH hr (by decide) (by rfl) (pa_cons (pv 6) (pa_cons pe_int pa_nil))) pe_int (nomark _))
        (pss_one (ps_ret (pe_lc (own := [("place", 13)]) (g := gName 13) (tt := tYes) rfl nd (pi_range1 (by rfl) B.range (pa_cons (pe_callB call_len_seq (by rfl) B.len (by decide +kernel) (pa_cons (pv 1) pa_nil)) pa_nil)) (blkOk_by (N := nOnesOf) (sc := defScope sOnesOf) (by decide +kernel))
          (fun _ _ _ _ _ => pg_name (i := 13) nd rfl (Or.inl rfl)) (fun _ _ _ _ _ => pts_nil)
          (fun _ _ _ _ _ => pe_ifExp (pt_cmpR op_eq (pv 13) (pv 4) (nomark _)) (pe_dispT hu1 (pe_tup (pa_cons pe_int (pa_cons pe_int pa_nil))) (pv 5)) pe_dnewT)))) pss_nil)
      (pss_cons (ps_set (i := 8) nd rfl (.inr rfl) (pe_dget1 hu (pe_c cP hr (by decide) (by rfl) (pa_cons (pv 0) (pa_cons (pv 6) (pa_cons (pv 7) pa_nil)))) pe_int ⟨rfl, rfl, rfl, rfl⟩))
      (pss_cons (ps_if (PW.pt (pw_or (pt_cmp (pc_isN (pv 8)) (by with_unfolding_all rfl)) (pw_or1 (pt_cmpR op_gt (pe_c cH hr (by decide) (by rfl) (pa_cons (pe_it (K := K) (pv 8) pe_int) (pa_cons pe_int pa_nil))) pe_int (nomark _))))) (pss_one (ps_ret pe_non)) pss_nil)
      (pss_cons (ps_set (i := 9) nd rfl (.inr rfl) (pe_c cN hr (by decide) (by rfl) (pa_cons (pv 0) (pa_cons (pe_it (K := K) (pv 8) pe_int) pa_nil))))
      (pss_cons (ps_lock (ps_setDc (i := 10) (own := [("place", 13)]) (g := gName 13) (tt := tYes) rfl nd rfl rfl (swd_true rfl rfl rfl rfl) (pi_keys (pe_it (K := K) (pv 8) pe_int)) (blkOk_by (N := nOnesOf) (sc := defScope sOnesOf) (by decide +kernel))
          (fun _ _ _ _ _ => pg_name (i := 13) nd rfl (Or.inl rfl)) (fun _ _ _ _ _ => pts_nil) (fun _ _ _ _ _ => pv 13)
          (fun _ _ _ _ _ => pe_c cS (hr : Room _ _) (by decide) (by rfl) (pa_cons (pv 0) (pa_cons (pe_dget hu (pe_it (K := K) (pv 8) pe_int) (pv 13) (fun _ _ => rfl)) (pa_cons (pv 9) pa_nil))))))
      (pss_cons (ps_set (i := 11) nd rfl (.inl rfl) (pe_c cF hr (by decide) (by rfl) (pa_cons (pv 0) (pa_cons (pv 6) (pa_cons (pv 7) (pa_cons (pv 10) pa_nil))))))
      (pss_cons (ps_set (i := 11) nd rfl (.inl rfl) (pe_op op_cat (pe_op op_cat (pe_slL (K := K) (pv 11) (po_some pe_int) (po_some (pe_op op_add (pv 4) pe_int))) (pe_lst (pa_cons (pe_c cS hr (by decide) (by rfl) (pa_cons (pv 0) (pa_cons (pe_il (K := K) (pv 11) pe_int) (pa_cons (pv 5) pa_nil)))) pa_nil)))
          (pe_slL (K := K) (pv 11) (po_some (pe_op op_add (pv 4) pe_int)) po_none)))
      (pss_one (ps_ret (pe_ifExp (pt_cmp (pc_isN (pv 2)) (by with_unfolding_all rfl)) (pv 11) (pe_lc (own := [("book", 12)]) (g := gName 12) (tt := tYes) rfl nd (pi_list (pv 11)) (blkOk_by (N := nOnesOf) (sc := defScope sOnesOf) (by decide +kernel))
        (fun _ _ _ _ _ => pg_name (i := 12) nd rfl (Or.inl rfl)) (fun _ _ _ _ _ => pts_nil) (fun _ _ _ _ _ => pe_c cT (hr : Room _ _) (by decide) (by rfl) (pa_cons (pv 0) (pa_cons (pv 12) (pa_cons (pe_c cA (hr : Room _ _) (by decide) (by rfl) (pa_cons (pv 2) pa_nil)) pa_nil)))))))))))))))))), ?_⟩
    haveI := fd_of hp
    obtain ⟨a, b, hl, ya, yb⟩ := hL.two
    refine ⟨_, rfl, l, rfl, ⟨_, SqL.of hl⟩, fun D hD => ?_⟩
    refine lc_gen (walk_list (xs := [.ref a, .ref b])) hD (by show 2 < sizeLine; decide) (fun _ => true) (fun i v H'' => v = V.bl (@decide ([A, B'].getD i 0 = 0) (Classical.propDecidable _))) (fun _ _ _ _ _ h => h) (fun H'' s'' => SqL.of (s'' _ _ hl)) ?_ ?_
    · rintro i x H1' H1 Q' S' hi s1 ⟨acc, hacc⟩ ⟨rfl, hx⟩ yes no
      obtain ⟨c, rfl, ts, et, kt⟩ : ∃ c, x = .ref c ∧ YAtP p H1 c ([A, B'].getD i 0) := by
        match i, hi, hx with
        | 0, _, hx =>
          cases hx
          exact ⟨a, rfl, ya.same s1⟩
        | 1, _, hx =>
          cases hx
          exact ⟨b, rfl, yb.same s1⟩
      refine ⟨wipe_set _ 12 _, tyes ⟨_, rfl, fun e he => ?_⟩⟩
      have se := same_upd_new (o := .dT []) he
      exact ⟨_, _, ts, rfl, rfl, se _ _ et, upd_same, yes _ _ rfl se (congrArg V.bl (decide_eq_decide.mpr kt.eq_nil))⟩
    intro H1 zs s1 dz pz
    obtain ⟨bs, rfl, hb⟩ := all_two pz
    refine ⟨D, bs, rfl, SqL.of dz, _, rfl, ?_⟩
    rw [Bool.eq_false_iff.mpr fun z => rowh_ne hR (hb.mp z)]
    refine iteF ?_
    obtain ⟨b4A, b4B⟩ := rowh_bd hR
    have hL1 := hL.same s1
    refine ⟨_, rfl, _, rfl, wr ⟨p, ne, l, _, rfl, hp, hL1, by show 2 ≤ 4; decide, fun F hF => ?_, pick_ex hR, fun H2 q v l2 i s s2 hq htn L2 hi hs hP hmin => ?_⟩⟩
    · rcases List.mem_cons.mp hF with e | e
      · rw [e]
        exact b4A
      · rw [List.mem_singleton.mp e]
        exact b4B
    have hs2 : s < 2 := hs
    obtain ⟨D0, m, n, g, δ, fit⟩ := pick_fit hR ⟨hi, hs, hP, hmin⟩
    refine ⟨q, _, rfl, SqT.of hq, rfl, _, _, rfl, _, _, rfl, _, _, rfl, rfl, ?_⟩
    have back := fun {c d : Fq p} {o : Option Nat} (e : c * d = 1) (x : K37.Size p (K37.Id (K37.kap c * act (tn i) ([A, B'].getD s 0)) (act (tn i) ([A, B'].getD (1 - s) 0))) o) => size_pick hp e hs2 x
    have L2' : BL p H2 l2 [act (tn i) A, act (tn i) B'] := L2
    obtain ⟨a0, a1, hl2, y0, y1⟩ := L2'.two
    obtain ⟨c, hc, yF, yG⟩ : ∃ c, [V.ref a0, V.ref a1][s]? = some (.ref c) ∧ YAtP p H2 c (act (tn i) ([A, B'].getD s 0)) ∧ YAtP p H2 (if s = 0 then a1 else a0) (act (tn i) ([A, B'].getD (1 - s) 0)) := by
      have h01 : s = 0 ∨ s = 1 := by omega
      clear hs hP hmin fit back
      rcases h01 with rfl | rfl
      · exact ⟨a0, rfl, y0, y1⟩
      · exact ⟨a1, rfl, y1, y0⟩
    clear hmin hs
    generalize act (tn i) ([A, B'].getD s 0) = F0 at back yF hP fit
    generalize act (tn i) ([A, B'].getD (1 - s) 0) = G0 at back yG fit
    have dgF : K37.dg F0 = D0 := by
      have := fit.hi
      rw [K37.hi_ne hP.1] at this
      omega
    have D3 : D0 ≤ 3 := by
      rcases fit.lv with ⟨z, _⟩ | ⟨z, _⟩ | ⟨z, _⟩ | ⟨z, _⟩ <;> omega
    have g3 := fit.g3
    have sF : Sm F0 := fit.bF.mono (by omega) (by omega)
    refine ⟨_, rfl, _, rfl, _, rfl, l2, _, _, _, rfl, rfl, SqL.of hl2, atI_nat hc, ?_⟩
    refine wr ⟨p, ne, c, F0, rfl, hp, yF, sF, hP.1, (plain_top hP).2, fun H3 k s3 k0 k1 k2 => ?_⟩
    obtain ⟨f1, f2, f3⟩ := first_of hP k2
    rw [dgF] at f1 f2
    refine ⟨_, rfl, _, rfl, _, rfl, l2, _, _, _, rfl, rfl, SqL.of (s3 _ _ hl2), atI_nat hc, _, rfl, ?_⟩
    refine scaled_y hp (yF.same s3) sF fun H4 q4 s4 n4 y4 => ?_
    have s24 := s3.trans s4
    have bF1 : Bd (K37.kap (red k) * F0) (g + 1) (D0 + 1) := fit.bF.kap _
    have back := fun {o : Option Nat} (x : K37.Size p (K37.Id (K37.kap (red k) * F0) G0) o) => back k2 x
    generalize K37.kap (red k) * F0 = F1 at f1 f2 f3 y4 bF1 back
    have sF1 : Sm F1 := bF1.mono (by omega) (by omega)
    have n11 := fit.n11
    have n1 := fit.n1
    refine cut_y (K := K) (i := 3) (j := 4) rfl rfl hs2 (s24 _ _ hl2) fun H5 l5 s5 hl5 => ?_
    refine ⟨_, _, rfl, _, rfl, ?_⟩
    refine highy_y (y4.same s5) sF1 fun H6 s6 => ?_
    rw [K37.hi_ne f3, f2]
    refine ⟨rfl, _, rfl, ?_⟩
    have s26 := s24.trans (s5.trans s6)
    have s06 := s1.trans (s2.trans s26)
    by_cases z0 : D0 = 0
    · subst z0
      refine ite_eqI (fun _ => ?_) fun z => absurd rfl z
      have hl6 := (hL.same s06)
      obtain ⟨a', b', hl6, _, _⟩ := hl6.two
      refine ⟨_, rfl, l, _, rfl, .inl (SqL.of hl6), 2, rfl, by decide, by decide, fun D1 hD1 => ?_⟩
      refine lc_gen walk_range0 hD1 (by decide) (fun _ => true) (fun i v H'' => ∃ U : S2 (Fq p), VY p D1 v H'' U ∧ Sm U) (fun i v _ _ o ⟨U, w, z⟩ => ⟨U, w.off o, z⟩) (fun _ _ => True.intro) ?_ ?_
      · rintro j v' H1' H7 Q' S' hj s7 ⟨acc, hacc⟩ ⟨rfl, rfl⟩ yes no
        refine ⟨wipe_set _ 13 _, tyes ⟨_, rfl, _, rfl, rfl, _, rfl, ?_⟩⟩
        refine ite_eqI (fun _ => ?_) fun _ => ?_
        · refine disp_y 0 0 k (fun H1 Q1 _ q => key_cc 0 0 H1 Q1 q) (fun H1 Q1 _ q => ⟨_, rfl, q _ (Same.refl _)⟩) fun H8 d s8 n8 e8 => ?_
          exact yes _ _ rfl s8 ⟨tm (0, 0) (red k), ⟨d, rfl, (fun z => by
            rw [z, hacc] at n8
            cases n8), ⟨_, e8, Bk.num _ k0 k1⟩⟩, (bd_tm _ _).mono (by decide) (by decide)⟩
        · intro e he
          exact yes _ _ rfl (same_upd_new he) ⟨0, ⟨e, rfl, (fun z => by
            rw [z, hacc] at he
            cases he), .nil upd_same⟩, Bd.zero _ _⟩
      · intro H7 zs s7 dz pz
        have pz : Paired (fun v i => ∃ U : S2 (Fq p), VY p D1 v H7 U ∧ Sm U) zs [0, 1] := pz
        cases pz with
        | cons x t =>
          cases t with
          | cons y t =>
            cases t
            obtain ⟨U, ⟨u, rfl, _, yu⟩, sU⟩ := x
            obtain ⟨V', ⟨u', rfl, _, yu'⟩, sV⟩ := y
            exact kyes _ D1 U V' (s06.trans s7) ⟨_, dz, .cons ⟨u, rfl, yu⟩ (.cons ⟨u', rfl, yu'⟩ .nil)⟩ sU sV (back (num_size hp f1 bF1.dlt))
    refine ite_eqI (fun z => absurd z (by omega)) fun _ => ?_
    have y46 := (y4.same s5).same s6
    have hl56 := s6 _ _ hl5
    have yG6 := yG.same s26
    have pr0 : 63 * ((g + 1) * (D0 + 1)) ≤ 3000 := by
      have := Nat.mul_le_mul (show g + 1 ≤ 4 by omega) (show D0 + 1 ≤ 4 by omega)
      omega
    have LG6 : BL p H6 l5 [G0] := ⟨_, hl56, .cons ⟨_, rfl, yG6⟩ .nil⟩
    refine ⟨_, rfl, _, rfl, _, rfl, wr ⟨p, ne, q4, l5, F1, G0, D0, m, n, g, δ, rfl, hp, y46, LG6, f1, bF1, fit.bG, by omega, n1, by omega, fit.dl, fit.lv, pr0, fun H7 q7 pv s7 hq7 gp h1 h2 => ?_⟩⟩
    have s07 := s06.trans s7
    have key := back (piv_size hp f1 bF1.dlt gp.q h1 h2)
    have gv := fnd_val D0 pv (show D0 - 1 < D0 by omega)
    rw [show D0 - 1 - (D0 - 1) = 0 by omega] at gv
    refine ⟨q7, rfl, .inl ⟨_, .inl hq7⟩, _, DGet.k (k := .inl 0) hq7, ?_⟩
    rw [show valV (fnd D0 pv D0) (.inl 0) = _ from gv]
    have nope : (∀ y, pv (D0 - 1) = some y → 0 < K37.dg (y.1.1.co 0)) → ¬ K37.Size p (K37.Id A B') (some 0) := fun h z => last_no (by omega) h (K37.Size.unique (K37.Id.isSub A B') (by have := (pr17 hp).1; omega) key z)
    generalize ev : ((pv (D0 - 1)).map fun y => V.ref y.2).getD V.non = lv
    cases epv : pv (D0 - 1) with
    | none =>
      obtain rfl : lv = .non := by
        rw [← ev, epv]
        rfl
      refine ⟨_, rfl, _, rfl, ?_⟩
      refine iteT (iteT (kno _ s07 (nope fun y hy => ?_)))
      rw [epv] at hy
      cases hy
    | some y =>
      obtain rfl : lv = .ref y.2 := by
        rw [← ev, epv]
        rfl
      clear ev
      obtain ⟨⟨rb, rd, rc, r1, r2, r3, r4⟩, nzc, bdw, bdT⟩ := gp (D0 - 1) (by omega) y epv
      rw [Nat.sub_self] at nzc bdw
      refine ⟨_, rfl, _, rfl, ?_⟩
      refine iteF ?_
      have yW : y.1.1 = Pl.C (y.1.1.co 0) := Pl.ext fun i => by
        rw [Pl.co_C]
        split
        · rename_i e
          rw [e]
        · rename_i e
          exact bdw.dlt i (by omega)
      refine ⟨_, rfl, _, _, _, _, rfl, rfl, SqT.of r1, at0, ?_⟩
      have yes1 := fun e => last_yes hp (by omega) gp.q h2 epv e
      have nope1 : 0 < K37.dg (y.1.1.co 0) → ¬ K37.Size p (K37.Id A B') (some 0) := fun h => nope fun y' hy => by
        rw [epv] at hy
        cases hy
        exact h
      have dR : K37.dlt (y.1.1.co 0) 63 := bdw.co 0
      have yW8 : YAtP p H7 rb (Pl.C (y.1.1.co 0)) := by
        rw [← yW]
        exact r2
      generalize y.1.1.co 0 = R at yes1 nope1 dR yW8 nzc
      generalize y.1.2 = T at r4 bdT
      generalize y.2 = ry at r1 ⊢
      refine highx_y yW8 (smC dR (by decide)) fun H8 s8 => ?_
      refine ⟨_, _, rfl, rfl, _, rfl, ?_⟩
      rw [K37.hi_ne nzc]
      by_cases pos : 0 < K37.dg R
      · rw [decide_eq_true (by omega)]
        exact iteT (kno _ (s07.trans s8) (nope1 pos))
      rw [decide_eq_false (by omega)]
      refine iteF ?_
      have dR0 : K37.dg R = 0 := by omega
      have yes1 := yes1 dR0
      have iR := K37.dg_is nzc
      rw [dR0] at iR
      have CR0 : (Pl.C R : S2 (Fq p)) ≠ 0 := fun z => nzc (C_inj z)
      have dC : K37.dg (Pl.C R : S2 (Fq p)) = 0 := by
        have := (K37.dg_is CR0).lt_of_dlt (K37.dlt.C R)
        omega
      refine ⟨_, rfl, _, rfl, _, _, _, _, rfl, rfl, SqT.of (s8 _ _ r1), at0, ?_⟩
      refine wr ⟨p, ne, rb, Pl.C R, rfl, hp, yW8.same s8, smC dR (by decide), CR0, ?_, fun H9 nb s9 b0 b1 b2 => ?_⟩
      · rw [dC, cf_C, if_pos rfl]
        exact iR.1
      have s79 := s8.trans s9
      have hd9 := s79 _ _ r3
      refine ⟨rd, _, hd9, True.intro, fun od => ?_⟩
      have other : ∀ {c : Addr} {o : HO}, c ≠ rd → H9 c = some o → upd H9 rd (.frz od (.dK [(.inl 0, .ref rc)])) c = some o := fun {c o} n e => by
        rw [upd_ne n]
        exact e
      have hz : upd H9 rd (.frz od (.dK [(.inl 0, .ref rc)])) rd = some (.frz od (.dK [(.inl 0, .ref rc)])) := upd_same
      have r1z := other (ne_of (s79 _ _ r1) hd9 (fun z => nomatch z)) (s79 _ _ r1)
      have yTz : YAtP p (upd H9 rd (.frz od (.dK [(.inl 0, .ref rc)]))) rc T := by
        obtain ⟨us, w1, w2⟩ := r4
        exact ⟨us, other (ne_of (s79 _ _ w1) hd9 (fun z => nomatch z)) (s79 _ _ w1), w2⟩
      refine ⟨_, rfl, _, _, _, _, rfl, rfl, SqT.of r1z, at1, rd, od, rfl, .inl ⟨_, hz, fun D hD => ?_⟩⟩
      have hDr : D ≠ rd := fun e => by
        rw [e, hz] at hD
        cases hD
      have same : ∀ H', Same (upd H9 rd (.frz od (.dK [(.inl 0, .ref rc)]))) H' → Same H9 (upd H' rd (.dK [(.inl 0, .ref rc)])) := fun H' s' c o e => by
        by_cases hc : c = rd
        · rw [hc] at e ⊢
          rw [upd_same, ← e, hd9]
        · rw [upd_ne hc]
          exact s' _ _ (other hc e)
      have bdT' : Sm T := bdT.mono (by decide) (by omega)
      generalize upd H9 rd (.frz od (.dK [(.inl 0, .ref rc)])) = Hz at hz r1z yTz hD same
      refine dc_it (walk_keys (kvs := [(.inl 0, .ref rc)])) (fun i H' => Same Hz H' ∧ ((i = 0 ∧ H' D = some (.dK [])) ∨ (i = 1 ∧ ∃ c2, H' D = some (.dK [(.inl 0, .ref c2)]) ∧ YAtP p H' c2 (K37.kap (red nb) * T)))) ⟨same_upd_new hD, .inl ⟨rfl, upd_same⟩⟩ (fun i H' _ w => w.1 _ _ hz) ?_ ?_
      · rintro i x H1' H10 hi ⟨s10, hst⟩ ⟨rfl, kk, v', hk, rfl⟩
        obtain rfl : i = 0 := Nat.lt_one_iff.mp hi
        cases hk
        have hD10 := (hst.resolve_right fun w => absurd w.1 (show ¬ (0 = 1) by decide)).2
        refine ⟨wipe_set _ 13 _, tyes ⟨_, rfl, _, rfl, _, rfl, ?_⟩⟩
        have r10 := s10 _ _ r1z
        have g10 : DGet H10 rd (.int 0) (some (.ref rc)) := .inl ⟨[(.inl 0, .ref rc)], .inl 0, .inr ⟨od, s10 _ _ hz⟩, rfl, rfl⟩
        refine ⟨ry, [.ref rb, .ref rd], _, .ref rd, rfl, rfl, SqT.of r10, at1, ?_⟩
        refine ⟨_, rfl, ?_⟩
        refine ⟨rd, _, rfl, g10, _, rfl, ?_⟩
        refine scaled_y hp (yTz.same s10) bdT' fun H11 q11 s11 n11 y11 => ?_
        have hD11 := s11 _ _ hD10
        refine ⟨[], .inl 0, rfl, hD11, by decide, same_free (s10.trans s11) hD, .inr ⟨rfl, q11, upd_same, ?_⟩⟩
        obtain ⟨us, w1, w2⟩ := y11
        exact ⟨us, by
          show upd _ _ _ _ = _
          rw [upd_ne (ne_of w1 hD11 (fun z => nomatch z))]
          exact w1, w2⟩
      · rintro H10 ⟨s10, hst⟩
        obtain ⟨_, c2, hD10, y10⟩ := hst.resolve_left fun w => absurd w.1 (show ¬ (1 = 0) by decide)
        refine ⟨s10 _ _ hz, ?_⟩
        have s9n := same _ s10
        have hDn : upd H10 rd (.dK [(.inl 0, .ref rc)]) D = some (.dK [(.inl 0, .ref c2)]) := by
          rw [upd_ne hDr]
          exact hD10
        have yTn : YAtP p (upd H10 rd (.dK [(.inl 0, .ref rc)])) c2 (K37.kap (red nb) * T) := by
          obtain ⟨us, w1, w2⟩ := y10
          exact ⟨us, by
            show upd _ _ _ _ = _
            rw [upd_ne (ne_of w1 (s10 _ _ hz) (fun z => nomatch z))]
            exact w1, w2⟩
        have bT : Bd (K37.kap (red nb) * T) 23 D0 := bdT.kap _
        generalize K37.kap (red nb) * T = T1 at yTn bT
        generalize upd H10 rd (.dK [(.inl 0, .ref rc)]) = H11 at s9n hDn yTn ⊢
        have s711 := s79.trans s9n
        have s611 := s7.trans s711
        have bk := fit.bk
        refine ⟨_, rfl, _, rfl, _, rfl, _, rfl, wr ⟨p, ne, q4, l5, D, c2, F1, G0, T1, D0, m, n, g, 23, rfl, hp, y46.same s611, LG6.same s611, hDn, yTn, f1, bF1, fit.bG, bT, by omega, fit.m1, n1, by decide, by omega, by omega, by omega, pr0, fit.pr, fun H12 q12 U R' s12 L12 bU bR => ?_⟩⟩
        obtain ⟨u1, u2, hl12, yU, yR⟩ := L12.two
        have m4 := fit.m4
        have bU : Bd U 47 13 := bU.mono (by omega) (by omega)
        have sU : Sm U := bU.mono (by decide) (by decide)
        have bR : Bd R' 47 13 := bR.mono (by decide) (by omega)
        refine join_y (K := K) (i := 11) (j := 4) (R := fun H' c => YAtP p H' c (K37.kap (red k) * U)) rfl rfl hs2 hl12 (fun _ _ _ s h => h.same s) (fun H13 Q13 s13 q13 => ?_) fun H14 q14 c14 s14 hq14 y14 => ?_
        · refine ⟨_, rfl, _, rfl, q12, _, _, _, rfl, rfl, SqL.of (s13 _ _ hl12), at0, _, rfl, ?_⟩
          refine scaled_y hp (yU.same s13) sU fun H14 q14 s14 n14 y14 => ?_
          refine ⟨by show 1 ≤ sizeLine; decide, fun l hl => ?_⟩
          have sl := same_upd_new (o := .lst [.ref q14]) hl
          exact q13 _ l q14 (s14.trans sl) upd_same (y14.same sl)
        have bkU : Bd (K37.kap (red k) * U) 47 13 := bU.kap _
        generalize K37.kap (red k) * U = U1 at y14 bkU
        have yR14 := yR.same s14
        obtain ⟨X, Y, x, y', hq14, yX, yY, bX, bY⟩ : ∃ (X Y : S2 (Fq p)) (x y : Addr), H14 q14 = some (.lst [.ref x, .ref y]) ∧ YAtP p H14 x X ∧ YAtP p H14 y Y ∧ Bd X 47 13 ∧ Bd Y 47 13 := by
          by_cases s0 : s = 0
          · rw [if_pos s0] at hq14
            exact ⟨U1, R', c14, u2, hq14, y14, yR14, bkU, bR⟩
          · rw [if_neg s0] at hq14
            exact ⟨R', U1, u2, c14, hq14, yR14, y14, bR, bkU⟩
        have s2e : Same H2 H14 := s26.trans (s611.trans (s12.trans s14))
        have s0e : Same H H14 := s06.trans (s611.trans (s12.trans s14))
        have yes2 := back yes1
        refine ⟨_, rfl, _, rfl, ?_⟩
        have htn14 := htn.same s2e
        have L14 : BL p H14 q14 [X, Y] := ⟨_, hq14, .cons ⟨x, rfl, yX⟩ (.cons ⟨y', rfl, yY⟩ .nil)⟩
        by_cases hv : v = .non
        · rw [decide_eq_true hv]
          exact iteT ⟨_, rfl, kyes _ q14 X Y s0e L14 (bX.mono (by decide) (by decide)) (bY.mono (by decide) (by decide)) yes2⟩
        · rw [decide_eq_false hv]
          have t0 : tn i ≠ .non := fun z => hv ((tnat_non htn14).mpr z)
          obtain ⟨okt, smt⟩ := ab_ok (p := p) hi t0
          refine iteF ⟨_, rfl, q14, rfl, ⟨_, SqL.of hq14⟩, fun D2 hD2 => ?_⟩
          refine lc_gen (walk_list (xs := [.ref x, .ref y'])) hD2 (by show 2 < sizeLine; decide) (fun _ => true) (fun i v H'' => ∃ U : S2 (Fq p), VY p D2 v H'' U ∧ Sm U) (fun i v _ _ o ⟨U, w, z⟩ => ⟨U, w.off o, z⟩) (fun H'' s'' => SqL.of (s'' _ _ hq14)) ?_ ?_
          · rintro j xx H1' H15 Q' S' hj s15 ⟨acc, hacc⟩ ⟨rfl, hx⟩ yes no
            obtain ⟨c, Z, rfl, yc, bZ⟩ : ∃ (c : Addr) (Z : S2 (Fq p)), xx = .ref c ∧ YAtP p H15 c Z ∧ Bd Z 47 13 := by
              match j, hj, hx with
              | 0, _, hx =>
                cases hx
                exact ⟨x, X, rfl, yX.same s15, bX⟩
              | 1, _, hx =>
                cases hx
                exact ⟨y', Y, rfl, yY.same s15, bY⟩
            refine ⟨wipe_set _ 12 _, tyes ⟨_, rfl, _, rfl, _, rfl, wr ⟨v, tn i, rfl, htn14.same s15, t0, fun H16 v' s16 ht16 => ?_⟩⟩⟩
            refine wr ⟨p, ne, c, v', (tn i).about, Z, 47, 13, rfl, hp, yc.same s16, ht16, okt, bZ.mono (by decide) (by decide), bZ, fun H17 q17 s17 n17 y17 => ?_⟩
            exact yes _ _ rfl (s16.trans s17) ⟨_, ⟨q17, rfl, (fun z => by
              rw [z, s16 _ _ hacc] at n17
              cases n17), y17⟩, smt Z bZ⟩
          · intro H15 zs s15 dz pz
            have pz : Paired (fun v i => ∃ U : S2 (Fq p), VY p D2 v H15 U ∧ Sm U) zs [0, 1] := pz
            cases pz with
            | cons x1 t =>
              cases t with
              | cons x2 t =>
                cases t
                obtain ⟨U, ⟨u, rfl, _, yu⟩, sU⟩ := x1
                obtain ⟨V', ⟨u', rfl, _, yu'⟩, sV⟩ := x2
                exact kyes _ D2 U V' (s0e.trans s15) ⟨_, dz, .cons ⟨u, rfl, yu⟩ (.cons ⟨u', rfl, yu'⟩ .nil)⟩ sU sV yes2
end
end L2.K37R
end W34
section W35
set_option autoImplicit false
set_option linter.all false
set_option maxRecDepth 100000
/-! ones, rest_size -/
namespace L2.K37R
open PySem PySem.Spec PyProof.Rows C8 PySem.W
open K37 (S2 Pl)
section
variable {P : Program} {w : World} {K : PySem.W.Frag} {mg : Str → Option Value} {base : Heap}
abbrev sRestSize : Stmt := top 58
abbrev nRestSize : List Str := ["prime", "row", "poly"]
def spRestSize : Sp := fun vs H Q _ => ∃ (p : Nat) (_ : NeZero p) (a : Addr) (A B : S2 (Fq p)), vs = [.int p, .ref a] ∧ Pr p ∧ RowB p H a A B ∧ (RowH A B ∨ (A = 0 ∧ B = 0)) ∧ ∀ H' o, Same H H' → K37.Size p (K37.Id A B) o → Q (ov o) H'
theorem scRestSize : FnScope nRestSize ["prime", "row"] (defScope sRestSize) := ⟨rfl, rfl, rfl, by decide +kernel, rfl, by decide +kernel, by decide +kernel⟩
theorem ok_restSize {f : Addr} {fd : FuncData} (F : FnP K "rest_size" sRestSize f fd) (cN : Cal P w K mg base 5 "need_row" (Wr spNeedRow) []) (cS : Cal P w K mg base 2 "need_small_row" (Wr spNeedSmall) []) (cB : Cal P w K mg base 1 "book_of" (Wr spBookOf) []) (cO : Cal P w K mg base 6 "rest_size_of" (Wr spRestOf) []) :
    FnOk P w K mg base CX0 7 f fd ["prime", "row"] (Wr spRestSize) := by
  refine FnOk.imp (sp := spRestSize) ?_ fun _ _ _ _ h => un_wr h
  refine okP F scRestSize (fun vs H Q E h => ?_) (fun cdv A outer s H vs Q E hr h => ?_)
  · obtain ⟨p, ne, a, A, B, rfl, _⟩ := h
    rfl
  · obtain ⟨p, ne, a, A, B, rfl, hp, hA, hR, k⟩ := h
    have nd := scRestSize.nd
    refine ⟨_, pss_cons (ps_expr (pe_c cN hr (by decide) (by rfl) (pa_cons (pv 0) (pa_cons (pv 1) pa_nil))))
      (pss_cons (ps_expr (pe_c cS hr (by decide) (by rfl) (pa_cons (pv 1) pa_nil)))
      (pss_one (ps_ret (pe_c cO hr (by decide) (by rfl) (pa_cons (pv 0) (pa_cons (pe_lc (own := [("poly", 2)]) (g := gName 2) (tt := tYes) rfl nd (pi_tup (pv 1)) (blkOk_by (N := nRestSize) (sc := defScope sRestSize) (by decide +kernel))
        (fun _ _ _ _ _ => pg_name (i := 2) nd rfl (Or.inl rfl)) (fun _ _ _ _ _ => pts_nil) (fun _ _ _ _ _ => pe_c cB (hr : Room _ _) (by decide) (by rfl) (pa_cons (pv 2) pa_nil))) pa_nil)))))), ?_⟩
    have b4 : Bd A 4 4 ∧ Bd B 4 4 := by
      rcases hR with h | ⟨rfl, rfl⟩
      · exact rowh_bd h
      · exact ⟨Bd.zero _ _, Bd.zero _ _⟩
    refine ⟨_, rfl, _, rfl, wr ⟨p, ne, a, A, B, rfl, hp, hA, fun H1 s1 => ?_⟩⟩
    refine ⟨_, rfl, wr ⟨p, ne, a, A, B, rfl, hA.same s1, b4.1, b4.2, fun H2 s2 => ?_⟩⟩
    have s02 := s1.trans s2
    obtain ⟨a1, a2, ha, q1, q2⟩ := hA.same s02
    refine ⟨_, rfl, _, rfl, a, rfl, ⟨_, SqT.of ha⟩, fun D hD => ?_⟩
    refine lc_gen (walk_tup (xs := [.ref a1, .ref a2])) hD (by show 2 < sizeLine; decide) (fun _ => true) (fun i v H'' => VY p D v H'' ([A, B].getD i 0)) (fun i v _ _ o h => h.off o) (fun H'' s'' => SqT.of (s'' _ _ ha)) ?_ ?_
    · rintro i x H1' H3 Q' S' hi s3 ⟨acc, hacc⟩ ⟨rfl, hx⟩ yes no
      obtain ⟨c, rfl, pc⟩ : ∃ c, x = .ref c ∧ PolyB p H3 c ([A, B].getD i 0) := by
        match i, hi, hx with
        | 0, _, hx =>
          cases hx
          exact ⟨a1, rfl, q1.same s3⟩
        | 1, _, hx =>
          cases hx
          exact ⟨a2, rfl, q2.same s3⟩
      refine ⟨wipe_set _ 2 _, tyes ⟨_, rfl, ?_⟩⟩
      refine book_y pc fun H4 q4 s4 n4 y4 => yes _ _ rfl s4 ⟨q4, rfl, fun z => ?_, y4⟩
      rw [z, hacc] at n4
      cases n4
    · intro H3 zs s3 dz pz
      have L : BL p H3 D [A, B] := bl_of dz pz
      exact wr ⟨p, ne, D, A, B, rfl, hp, L, hR, fun H4 o s4 ho => k _ o (s02.trans (s3.trans s4)) ho⟩
abbrev sOnes : Stmt := top 55
abbrev nOnes : List Str := ["prime", "row", "found", "poly", "book"]
def spOnes : Sp := fun vs H Q _ => ∃ (p : Nat) (_ : NeZero p) (a : Addr) (A B : S2 (Fq p)), vs = [.int p, .ref a] ∧ Pr p ∧ RowB p H a A B ∧ RowH A B ∧
  (∀ H', Same H H' → ¬ K37.Size p (K37.Id A B) (some 0) → Q .non H') ∧ (∀ H' q, Same H H' → K37.Size p (K37.Id A B) (some 0) → Q (.ref q) H')
theorem scOnes : FnScope nOnes ["prime", "row"] (defScope sOnes) := ⟨rfl, rfl, rfl, by decide +kernel, rfl, by decide +kernel, by decide +kernel⟩
theorem ok_ones {f : Addr} {fd : FuncData} (F : FnP K "ones" sOnes f fd) (B : Bare mg) (cN : Cal P w K mg base 5 "need_row" (Wr spNeedRow) []) (cS : Cal P w K mg base 2 "need_small_row" (Wr spNeedSmall) []) (cB : Cal P w K mg base 1 "book_of" (Wr spBookOf) []) (cO : Cal P w K mg base 6 "ones_of" (Wr spOnesOf) []) (cP : Cal P w K mg base 1 "poly_of" (Wr spPolyOf) []) :
    FnOk P w K mg base CX0 7 f fd ["prime", "row"] (Wr spOnes) := by
  refine FnOk.imp (sp := spOnes) ?_ fun _ _ _ _ h => un_wr h
  refine okP F scOnes (fun vs H Q E h => ?_) (fun cdv A outer s H vs Q E hr h => ?_)
  · obtain ⟨p, ne, a, A, B, rfl, _⟩ := h
    rfl
  · obtain ⟨p, ne, a, A, B', rfl, hp, hA, hR, kno, kyes⟩ := h
    have nd := scOnes.nd
    refine ⟨_, pss_cons (ps_expr (pe_c cN hr (by decide) (by rfl) (pa_cons (pv 0) (pa_cons (pv 1) pa_nil))))
      (pss_cons (ps_expr (pe_c cS hr (by decide) (by rfl) (pa_cons (pv 1) pa_nil)))
      (pss_cons (ps_set (i := 2) nd rfl (.inl rfl) (pe_c cO hr (by decide) (by rfl) (pa_cons (pv 0) (pa_cons (pe_lc (own := [("poly", 3)]) (g := gName 3) (tt := tYes) rfl nd (pi_tup (pv 1)) (blkOk_by (N := nOnes) (sc := defScope sOnes) (by decide +kernel))
        (fun _ _ _ _ _ => pg_name (i := 3) nd rfl (Or.inl rfl)) (fun _ _ _ _ _ => pts_nil) (fun _ _ _ _ _ => pe_c cB (hr : Room _ _) (by decide) (by rfl) (pa_cons (pv 3) pa_nil))) pa_nil))))
      (pss_one (ps_ret (pe_ifExp (pt_cmp (pc_isN (pv 2)) (by with_unfolding_all rfl)) pe_non (pe_callTy call_tuple_of (by rfl) B.tuple (by decide +kernel) (pa_cons (pe_lc (own := [("book", 4)]) (g := gName 4) (tt := tYes) rfl nd (pi_list (pv 2)) (blkOk_by (N := nOnes) (sc := defScope sOnes) (by decide +kernel))
        (fun _ _ _ _ _ => pg_name (i := 4) nd rfl (Or.inl rfl)) (fun _ _ _ _ _ => pts_nil) (fun _ _ _ _ _ => pe_c cP (hr : Room _ _) (by decide) (by rfl) (pa_cons (pv 4) pa_nil))) pa_nil))))))), ?_⟩
    have b4 := rowh_bd hR
    refine ⟨_, rfl, _, rfl, wr ⟨p, ne, a, A, B', rfl, hp, hA, fun H1 s1 => ?_⟩⟩
    refine ⟨_, rfl, wr ⟨p, ne, a, A, B', rfl, hA.same s1, b4.1, b4.2, fun H2 s2 => ?_⟩⟩
    have s02 := s1.trans s2
    obtain ⟨a1, a2, ha, q1, q2⟩ := hA.same s02
    refine ⟨_, rfl, _, rfl, a, rfl, ⟨_, SqT.of ha⟩, fun D hD => ?_⟩
    refine lc_gen (walk_tup (xs := [.ref a1, .ref a2])) hD (by show 2 < sizeLine; decide) (fun _ => true) (fun i v H'' => VY p D v H'' ([A, B'].getD i 0)) (fun i v _ _ o h => h.off o) (fun H'' s'' => SqT.of (s'' _ _ ha)) ?_ ?_
    · rintro i x H1' H3 Q' S' hi s3 ⟨acc, hacc⟩ ⟨rfl, hx⟩ yes no
      obtain ⟨c, rfl, pc⟩ : ∃ c, x = .ref c ∧ PolyB p H3 c ([A, B'].getD i 0) := by
        match i, hi, hx with
        | 0, _, hx =>
          cases hx
          exact ⟨a1, rfl, q1.same s3⟩
        | 1, _, hx =>
          cases hx
          exact ⟨a2, rfl, q2.same s3⟩
      refine ⟨wipe_set _ 3 _, tyes ⟨_, rfl, ?_⟩⟩
      refine book_y pc fun H4 q4 s4 n4 y4 => yes _ _ rfl s4 ⟨q4, rfl, fun z => ?_, y4⟩
      rw [z, hacc] at n4
      cases n4
    · intro H3 zs s3 dz pz
      have L : BL p H3 D [A, B'] := bl_of dz pz
      have s03 := s02.trans s3
      refine wr ⟨p, ne, D, A, B', rfl, hp, L, hR, fun H4 s4 hn => ?_, fun H4 q U V' s4 L4 sU sV hy => ?_⟩
      · exact ⟨_, rfl, _, rfl, iteT (kno _ (s03.trans s4) hn)⟩
      · obtain ⟨u, v, hq, yu, yv⟩ := L4.two
        refine ⟨_, rfl, _, rfl, iteF ⟨_, rfl, _, rfl, ⟨_, SqL.of hq⟩, fun D2 hD2 => ?_⟩⟩
        refine lc_gen (walk_list (xs := [.ref u, .ref v])) hD2 (by show 2 < sizeLine; decide) (fun _ => true) (fun i v H'' => True) (fun _ _ _ _ _ h => h) (fun H'' s'' => SqL.of (s'' _ _ hq)) ?_ ?_
        · rintro i x H1' H5 Q' S' hi s5 ⟨acc, hacc⟩ ⟨rfl, hx⟩ yes no
          obtain ⟨c, Z, rfl, yc, sZ⟩ : ∃ (c : Addr) (Z : S2 (Fq p)), x = .ref c ∧ YAtP p H5 c Z ∧ Sm Z := by
            match i, hi, hx with
            | 0, _, hx =>
              cases hx
              exact ⟨u, U, rfl, yu.same s5, sU⟩
            | 1, _, hx =>
              cases hx
              exact ⟨v, V', rfl, yv.same s5, sV⟩
          refine ⟨wipe_set _ 4 _, tyes ⟨_, rfl, ?_⟩⟩
          exact poly_y yc sZ fun H6 q6 s6 _ => yes _ _ rfl s6 True.intro
        · intro H5 zs s5 dz _
          exact ⟨D2, _, rfl, .inl ⟨SqL.of dz, fun q hq => kyes _ q (s03.trans (s4.trans (s5.trans (same_upd_new hq)))) hy⟩⟩
end
end L2.K37R
end W35
section W36
set_option autoImplicit false
set_option linter.all false
set_option maxRecDepth 100000
/-! sylvester -/
namespace L2.K37R
open PySem PySem.Spec PyProof.Rows C8 PySem.W
open K37 (S2 Pl)
section
variable {p : Nat} [NeZero p]
theorem BL.off {H H' : Hp} {D l : Addr} {Fs : List (S2 (Fq p))} (o : Off D H H') (hl : l ≠ D) (h : BL p H l Fs) : BL p H' l Fs := by
  obtain ⟨xs, e, k⟩ := h
  exact ⟨xs, o.2 _ _ hl e, paired_imp (fun v F ⟨a, e, y⟩ => ⟨a, e, y.offD o⟩) k⟩
/-- a row in a table whose list stands at D -/
def VB (p : Nat) [NeZero p] (D : Addr) (v : V) (H : Hp) (Fs : List (S2 (Fq p))) : Prop := ∃ r, v = .ref r ∧ r ≠ D ∧ BL p H r Fs
theorem VB.off {H H' : Hp} {D : Addr} {v : V} {Fs : List (S2 (Fq p))} (o : Off D H H') (h : VB p D v H Fs) : VB p D v H' Fs := let ⟨r, e, n, k⟩ := h; ⟨r, e, n, k.off o n⟩
theorem VB.same {H H' : Hp} {D : Addr} {v : V} {Fs : List (S2 (Fq p))} (s : Same H H') (h : VB p D v H Fs) : VB p D v H' Fs := let ⟨r, e, n, k⟩ := h; ⟨r, e, n, k.same s⟩
/-- row i of a table -/
def rowX (M : Nat) (A : Nat → Nat → RX p) (i : Nat) : List (S2 (Fq p)) := (List.range M).map fun j => Pl.C (A i j)
/-- a table of x-polys: N rows of M -/
def Tab (p : Nat) [NeZero p] (H : Hp) (q : Addr) (N M : Nat) (A : Nat → Nat → RX p) : Prop := ∃ vs, H q = some (.lst vs) ∧ Paired (fun v i => VB p q v H (rowX M A i)) vs (List.range N)
theorem Tab.same {H H' : Hp} {q : Addr} {N M : Nat} {A : Nat → Nat → RX p} (s : Same H H') (h : Tab p H q N M A) : Tab p H' q N M A := let ⟨vs, e, k⟩ := h; ⟨vs, s _ _ e, paired_imp (fun _ _ q => q.same s) k⟩
/-- Sylvester's table -/
noncomputable def sylA (m n : Nat) (f g : S2 (Fq p)) (i j : Nat) : RX p := (if i < n then K37.mo 1 (n - 1 - i) * f else K37.mo 1 (m - 1 - (i - n)) * g).co (m + n - 1 - j)
theorem partZ_sub (F : S2 (Fq p)) (j k : Nat) : partZ F ((j : Int) - (k : Int)) = (K37.mo 1 k * F).co j := by
  rw [K37.co_mo_mul]
  unfold partZ
  by_cases h : j < k
  · rw [if_neg (by omega), if_pos h]
  · rw [if_pos (by omega), if_neg h, show ((j : Int) - (k : Int)).toNat = j - k by omega]
    grind
end
section
variable {P : Program} {w : World} {K : PySem.W.Frag} {mg : Str → Option Value} {base : Heap}
abbrev sSyl : Stmt := top 60
abbrev nSyl : List Str := ["one", "other", "tall", "wide", "rows", "lifted", "book", "power", "step", "column"]
def spSyl : Sp := fun vs H Q _ => ∃ (p : Nat) (_ : NeZero p) (a b : Addr) (f g : S2 (Fq p)) (m n : Nat), vs = [.ref a, .ref b] ∧ YAtP p H a f ∧ YAtP p H b g ∧ K37.hi f = (m : Int) ∧ K37.hi g = (n : Int) ∧ m ≤ 3 ∧ n ≤ 3 ∧ Sm f ∧ Sm g ∧
  ∀ H' q, Same H H' → Tab p H' q (m + n) (m + n) (sylA m n f g) → Q (.ref q) H'
theorem scSyl : FnScope nSyl ["one", "other"] (defScope sSyl) := ⟨rfl, rfl, rfl, by decide +kernel, rfl, by decide +kernel, by decide +kernel⟩
theorem lc_down {n : Nat} (hn : n ≤ 100) : RgC ((n : Int) - 1) (-1) (-1) n := by
  have := RgC.neg (i := (n : Int) - 1) (j := -1) (by omega) (by omega) (by omega) (by omega)
  rw [show ((n : Int) - 1 - -1).toNat = n by omega] at this
  exact this
theorem ok_syl {f : Addr} {fd : FuncData} (F : FnP K "sylvester" sSyl f fd) (B : Bare mg) (cH : Cal P w K mg base 1 "highest" (Wr spHighest) []) (cPt : Cal P w K mg base 1 "part_at" (Wr spPart) []) :
    FnOk P w K mg base CX0 2 f fd ["one", "other"] (Wr spSyl) := by
  refine FnOk.imp (sp := spSyl) ?_ fun _ _ _ _ h => un_wr h
  refine okP F scSyl (fun vs H Q E h => ?_) (fun cdv A outer s H vs Q E hr h => ?_)
  · obtain ⟨p, ne, a, b, f, g, m, n, rfl, _⟩ := h
    rfl
  · obtain ⟨p, ne, a, b, f, g, m, n, rfl, ya, yb, hf, hg, hm, hn, sf, sg, k⟩ := h
    have nd := scSyl.nd
    refine ⟨_, pss_cons (ps_par3 (i := 2) (j := 3) (l := 4) rfl nd rfl rfl rfl (by decide) (by decide) (by decide) rfl rfl rfl (pa_cons (pe_c cH hr (by decide) (by rfl) (pa_cons (pv 0) (pa_cons pe_int pa_nil))) (pa_cons (pe_c cH hr (by decide) (by rfl) (pa_cons (pv 1) (pa_cons pe_int pa_nil))) (pa_cons (pe_lst pa_nil) pa_nil))) (by rfl))
      (pss_cons (ps_set (i := 5) nd rfl (.inl rfl) (pe_op op_cat
          (pe_lc (own := [("step", 8)]) (g := gName 8) (tt := tYes) rfl nd (pi_range3 (by rfl) B.range (pa_cons (pe_op op_sub (pv 3) pe_int) (pa_cons (pe_un un_neg pe_int) (pa_cons (pe_un un_neg pe_int) pa_nil)))) (blkOk_by (N := nSyl) (sc := defScope sSyl) (by decide +kernel))
            (fun _ _ _ _ _ => pg_name (i := 8) nd rfl (Or.inl rfl)) (fun _ _ _ _ _ => pts_nil) (fun _ _ _ _ _ => pe_tup (pa_cons (pv 0) (pa_cons (pv 8) pa_nil))))
          (pe_lc (own := [("step", 8)]) (g := gName 8) (tt := tYes) rfl nd (pi_range3 (by rfl) B.range (pa_cons (pe_op op_sub (pv 2) pe_int) (pa_cons (pe_un un_neg pe_int) (pa_cons (pe_un un_neg pe_int) pa_nil)))) (blkOk_by (N := nSyl) (sc := defScope sSyl) (by decide +kernel))
            (fun _ _ _ _ _ => pg_name (i := 8) nd rfl (Or.inl rfl)) (fun _ _ _ _ _ => pts_nil) (fun _ _ _ _ _ => pe_tup (pa_cons (pv 1) (pa_cons (pv 8) pa_nil))))))
      (pss_cons (ps_for PassesOwn.never rfl (pi_list (pv 5)) (pg_tup rfl (pgs_cons (pg_name (i := 6) nd rfl (.inr rfl)) (pgs_cons (pg_name (i := 7) nd rfl (.inr rfl)) pgs_nil)))
        (pss_one (ps_expr (pe_bm PySem.F.plainAttrs_list PySem.F.slot_list_append PySem.F.type_list_append mt_append (pv 4) (pa_cons (pe_lc (own := [("column", 9)]) (g := gName 9) (tt := tYes) rfl nd
            (pi_range3 (by rfl) B.range (pa_cons (pe_op op_sub (pe_op op_add (pv 2) (pv 3)) pe_int) (pa_cons (pe_un un_neg pe_int) (pa_cons (pe_un un_neg pe_int) pa_nil)))) (blkOk_by (N := nSyl) (sc := defScope sSyl) (by decide +kernel))
            (fun _ _ _ _ _ => pg_name (i := 9) nd rfl (Or.inl rfl)) (fun _ _ _ _ _ => pts_nil) (fun _ _ _ _ _ => pe_c cPt (hr : Room _ _) (by decide) (by rfl) (pa_cons (pv 6) (pa_cons (pe_op op_sub (pv 9) (pv 7)) pa_nil)))) pa_nil)))))
      (pss_one (ps_ret (pv 4))))), ?_⟩
    refine ⟨_, rfl, ?_⟩
    refine highy_y ya sf fun H1 s1 => ⟨_, rfl, ?_⟩
    refine highy_y (yb.same s1) sg fun H2 s2 => ?_
    rw [hf, hg]
    refine ⟨by show 0 ≤ sizeLine; decide, fun RL hRL => ?_⟩
    have s3 := same_upd_new (o := .lst []) hRL
    have hl3 : upd H2 RL (.lst []) RL = some (.lst []) := upd_same
    have nRL : H RL = none := YAtP.fresh (s1.trans s2) hRL
    have s03 := s1.trans (s2.trans s3)
    generalize upd H2 RL (.lst []) = H3 at s3 hl3 s03 ⊢
    refine ⟨_, _, _, rfl, ?_⟩
    refine ⟨_, rfl, _, _, rfl, rfl, _, rfl, _, rfl, _, _, _, n, rfl, lc_down (by omega), fun D1 hD1 => ?_⟩
    refine lc_gen walk_rangeD hD1 (sm_line (by omega)) (fun _ => true) (fun i v H'' => ∃ r, v = .ref r ∧ H'' r = some (.tup [.ref a, .int ((n - 1 - i : Nat) : Int)])) (fun i v _ _ o ⟨r, e, w⟩ => ⟨r, e, o.tup w⟩) (fun _ _ => True.intro) ?_ ?_
    · rintro i v H1' H4 Q' S' hi s4 ⟨acc, hacc⟩ ⟨rfl, rfl⟩ yes no
      exact ⟨wipe_set _ 8 _, tyes ⟨_, rfl, _, rfl, by show 2 ≤ sizeLine; decide, fun r hr' => yes _ _ rfl (same_upd_new hr') ⟨r, rfl, upd_same⟩⟩⟩
    intro H4 zs s4 dz pz
    obtain ⟨r1, rfl, p1⟩ := refs_of pz
    refine ⟨_, rfl, _, _, rfl, rfl, _, rfl, _, rfl, _, _, _, m, rfl, lc_down (by omega), fun D2 hD2 => ?_⟩
    refine lc_gen walk_rangeD hD2 (sm_line (by omega)) (fun _ => true) (fun i v H'' => ∃ r, v = .ref r ∧ H'' r = some (.tup [.ref b, .int ((m - 1 - i : Nat) : Int)])) (fun i v _ _ o ⟨r, e, w⟩ => ⟨r, e, o.tup w⟩) (fun _ _ => True.intro) ?_ ?_
    · rintro i v H1' H5 Q' S' hi s5 ⟨acc, hacc⟩ ⟨rfl, rfl⟩ yes no
      exact ⟨wipe_set _ 8 _, tyes ⟨_, rfl, _, rfl, by show 2 ≤ sizeLine; decide, fun r hr' => yes _ _ rfl (same_upd_new hr') ⟨r, rfl, upd_same⟩⟩⟩
    intro H5 zs s5 dz2 pz2
    obtain ⟨r2, rfl, p2⟩ := refs_of pz2
    have l1 : r1.length = n := by rw [p1.length, filter_all, List.length_range]
    have l2 : r2.length = m := by rw [p2.length, filter_all, List.length_range]
    refine ⟨D1, D2, _, _, rfl, rfl, s5 _ _ dz, dz2, Nat.le_of_lt (sm_line (by rw [List.length_map, List.length_map]; omega)), fun L5 hL5 => ?_⟩
    have nLR : L5 ≠ RL := (ne_of_none (s5 _ _ (s4 _ _ hl3)) hL5).symm
    have s6 := same_upd_new (o := .lst (r1.map V.ref ++ r2.map V.ref)) hL5
    have h6 : upd H5 L5 (.lst (r1.map V.ref ++ r2.map V.ref)) L5 = some (.lst ((r1 ++ r2).map V.ref)) := by
      rw [upd_same, List.map_append]
    have hl6 := s6 _ _ (s5 _ _ (s4 _ _ hl3))
    have info : ∀ (j : Nat) (r : Addr), (r1 ++ r2)[j]? = some r → upd H5 L5 (.lst (r1.map V.ref ++ r2.map V.ref)) r = some (.tup [.ref (if j < n then a else b), .int (((if j < n then n - 1 - j else m - 1 - (j - n)) : Nat) : Int)]) := fun j r e => by
      by_cases h : j < n
      · rw [if_pos h, if_pos h]
        rw [List.getElem?_append_left (by omega)] at e
        obtain ⟨i, ei, q⟩ := paired_get p1 e
        rw [filter_all, List.getElem?_range h] at ei
        cases ei
        exact s6 _ _ (s5 _ _ q)
      · rw [if_neg h, if_neg h]
        rw [List.getElem?_append_right (by omega), l1] at e
        obtain ⟨i, ei, q⟩ := paired_get p2 e
        have hj : j - n < m := by
          have := (List.getElem?_eq_some_iff.mp e).1
          omega
        rw [filter_all, List.getElem?_range hj] at ei
        cases ei
        exact s6 _ _ q
    have lr : (r1 ++ r2).length = m + n := by
      rw [List.length_append]
      omega
    have s06 := s03.trans (s4.trans (s5.trans s6))
    generalize upd H5 L5 (.lst (r1.map V.ref ++ r2.map V.ref)) = H6 at s06 h6 hl6 info ⊢
    generalize r1 ++ r2 = rs at h6 info lr
    refine ⟨_, rfl, L5, rfl, ⟨_, SqL.of h6⟩, ?_⟩
    refine for_it (walk_list (xs := rs.map V.ref)) (fun j σ' H' => ∃ (x6 x7 : Option V) (vs : List V), σ' = [some (.ref a), some (.ref b), some (.int (m : Int)), some (.int (n : Int)), some (.ref RL), some (.ref L5), x6, x7, none, none] ∧ Same H H' ∧ H' L5 = some (.lst (rs.map V.ref)) ∧
        (∀ (j : Nat) (r : Addr), rs[j]? = some r → H' r = some (.tup [.ref (if j < n then a else b), .int (((if j < n then n - 1 - j else m - 1 - (j - n)) : Nat) : Int)])) ∧ H' RL = some (.lst vs) ∧ Paired (fun v i => VB p RL v H' (rowX (m + n) (sylA m n f g) i)) vs (List.range j))
      ⟨none, none, [], rfl, s06, h6, info, hl6, .nil⟩ (fun _ _ _ _ ⟨_, _, _, _, _, w, _⟩ => SqL.of w) ?_ ?_
    · rintro j x σ' H7' H7 hj ⟨x6, x7, vs, rfl, s7, h7, info7, hl7, pv7⟩ ⟨rfl, hx⟩
      rw [List.length_map, lr] at hj
      have lv7 := pv7.length
      rw [List.length_range] at lv7
      obtain ⟨r, hr', rfl⟩ : ∃ r, rs[j]? = some r ∧ x = .ref r := by
        rw [List.getElem?_map] at hx
        obtain ⟨r, e, z⟩ := Option.map_eq_some_iff.mp hx
        exact ⟨r, e, z.symm⟩
      refine ⟨r, _, rfl, SqT.of (info7 j r hr'), rfl, _, _, rfl, _, _, rfl, rfl, ?_⟩
      refine ⟨_, rfl, .inl ⟨rfl, _, SqL.of hl7⟩, ?_⟩
      refine ⟨_, rfl, _, rfl, _, _, rfl, rfl, _, _, rfl, rfl, _, rfl, _, rfl, _, _, _, m + n, rfl, ?_, ?_⟩
      · rw [show (m : Int) + (n : Int) - 1 = ((m + n : Nat) : Int) - 1 by omega]
        exact lc_down (by omega)
      rw [show (m : Int) + (n : Int) - 1 = ((m + n : Nat) : Int) - 1 by omega]
      intro D hD
      obtain ⟨W, hW, yW, sW, eW⟩ : ∃ W : S2 (Fq p), (∀ c, sylA m n f g j c = (K37.mo 1 (if j < n then n - 1 - j else m - 1 - (j - n)) * W).co (m + n - 1 - c)) ∧ YAtP p H7 (if j < n then a else b) W ∧ Sm W ∧ True := by
        by_cases h : j < n
        · rw [if_pos h, if_pos h]
          exact ⟨f, fun c => by unfold sylA; rw [if_pos h], ya.same s7, sf, True.intro⟩
        · rw [if_neg h, if_neg h]
          exact ⟨g, fun c => by unfold sylA; rw [if_neg h], yb.same s7, sg, True.intro⟩
      generalize (if j < n then a else b) = bk at yW
      generalize (if j < n then n - 1 - j else m - 1 - (j - n)) = pw at hW
      refine lc_gen walk_rangeD hD (sm_line (by omega)) (fun _ => true) (fun i v H'' => VY p D v H'' (Pl.C (sylA m n f g j i))) (fun i v _ _ o h => h.off o) (fun _ _ => True.intro) ?_ ?_
      · rintro i v H1' H8 Q' S' hi s8 ⟨acc, hacc⟩ ⟨rfl, rfl⟩ yes no
        refine ⟨wipe_set _ 9 _, tyes ⟨_, rfl, _, rfl, _, rfl, _, _, rfl, rfl, ?_⟩⟩
        refine part_y (n := ((m + n - 1 - i : Nat) : Int) - (pw : Int)) (yW.same s8) sW fun H9 q9 s9 n9 y9 => yes _ _ rfl s9 ⟨q9, rfl, fun z => ?_, ?_⟩
        · rw [z, hacc] at n9
          cases n9
        · rw [partZ_sub, ← hW] at y9
          exact y9
      · intro H8 zs s8 dz pz
        have L8 : BL p H8 D (rowX (m + n) (sylA m n f g) j) := by
          have := bl_of dz pz
          rw [filter_all] at this
          exact this
        have hl8 := s8 _ _ hl7
        have off := off_upd (o := .lst (vs ++ [.ref D])) hl8
        have nD : D ≠ RL := (ne_of_none hl7 hD).symm
        refine ⟨RL, vs, _, rfl, rfl, hl8, sm_line (by omega), _, _, vs ++ [.ref D], rfl, same_free (s7.trans s8) nRL, off.2 _ _ nLR (s8 _ _ h7), fun i r' e => off.tup (s8 _ _ (info7 i r' e)), upd_same, ?_⟩
        rw [List.range_succ]
        exact paired_snoc (paired_imp (fun v i q => (q.same s8).off off) pv7) ⟨D, rfl, nD, L8.off off nD⟩
    · rintro σ' H7 ⟨x6, x7, vs, rfl, s7, h7, info7, hl7, pv7⟩
      rw [List.length_map, lr] at pv7
      exact ⟨_, rfl, k _ RL s7 ⟨vs, hl7, pv7⟩⟩
end
end L2.K37R
end W36
section W37
set_option autoImplicit false
set_option linter.all false
set_option maxRecDepth 100000
/-! tables that are written: det_of's state -/
namespace L2.K37R
open PySem PySem.Spec PyProof.Rows C8 PySem.W
open K37 (S2 Pl)
section
variable {p : Nat} [NeZero p]
theorem sg_dlt : ∀ k : Nat, K37.dlt (K37.sg k : RX p) 1
  | 0 => K37.dlt.C 1
  | k + 1 => (sg_dlt k).neg
theorem ls_dlt {d : List (K37.Vc (RX p)) → RX p} {n e : Nat} (hd : ∀ l : List (K37.Vc (RX p)), (∀ r, r ∈ l → ∀ c, c < n + 1 → K37.dlt (r c) 3) → K37.dlt (d l) e) (he : 1 ≤ e) : ∀ (l P : List (K37.Vc (RX p))), (∀ r, r ∈ P ∨ r ∈ l → ∀ c, c < n + 1 → K37.dlt (r c) 3) → K37.dlt (K37.ls d n P l) (e + 2)
  | [], _, _ => K37.dlt.zero _
  | r :: l, P, h => by
    have h1 := ls_dlt hd he l (P ++ [r]) (fun x hx c hc => h x (by
      rcases hx with hx | hx
      · rcases List.mem_append.mp hx with q | q
        · exact .inl q
        · exact .inr (by rw [List.mem_singleton.mp q]; exact List.mem_cons_self ..)
      · exact .inr (List.mem_cons_of_mem _ hx)) c hc)
    have h2 := hd (P ++ l) (fun x hx c hc => h x (by
      rcases List.mem_append.mp hx with q | q
      · exact .inl q
      · exact .inr (List.mem_cons_of_mem _ q)) c hc)
    have h3 := h r (.inr (List.mem_cons_self ..)) n (Nat.lt_succ_self n)
    have h4 := ((sg_dlt (p := p) l.length).mul h3).mul h2
    show K37.dlt (K37.sg l.length * r n * d (P ++ l) + K37.ls d n (P ++ [r]) l) (e + 2)
    exact (h4.mono (by omega)).add h1
theorem dt_dlt : ∀ (n : Nat) (l : List (K37.Vc (RX p))), (∀ r, r ∈ l → ∀ c, c < n → K37.dlt (r c) 3) → K37.dlt (K37.dt n l) (2 * n + 1)
  | 0, l, _ => K37.dlt.C 1
  | n + 1, l, h => by
    have := ls_dlt (d := K37.dt n) (n := n) (e := 2 * n + 1) (fun l' h' => dt_dlt n l' fun r hr c hc => h' r hr c (by omega)) (by omega) l [] (fun r hr c hc => by
      rcases hr with hr | hr
      · cases hr
      · exact h r hr c hc)
    exact this
theorem mnr_dlt {A : Nat → Nat → RX p} (h : ∀ i j, K37.dlt (A i j) 3) (s i j : Nat) : K37.dlt (K37.mnr s A i j) (2 * s + 3) := by
  refine (dt_dlt (s + 1) _ fun r hr c hc => ?_).mono (by omega)
  obtain ⟨a, _, e⟩ := List.mem_map.mp hr
  rw [← e]
  show K37.dlt (if c < s then A a c else A a j) 3
  split
  · exact h _ _
  · exact h _ _
theorem bf_dlt {A : Nat → Nat → RX p} (h : ∀ i j, K37.dlt (A i j) 3) : ∀ s : Nat, K37.dlt (K37.bf s A) (2 * s + 1)
  | 0 => K37.dlt.C 1
  | s + 1 => (mnr_dlt h s s s).mono (by omega)
theorem dn_dlt {A : Nat → Nat → RX p} (h : ∀ i j, K37.dlt (A i j) 3) (n : Nat) : K37.dlt (K37.dn n A) (2 * n + 1) :=
  dt_dlt n _ fun r hr c _ => by
    obtain ⟨a, _, e⟩ := List.mem_map.mp hr
    rw [← e]
    exact h _ _
/-- a division that comes out -/
theorem exact_div [K37.Fd (Fq p)] {X b U R : RX p} (hb : b ≠ 0) (e : X * b = U * b + R) (d : K37.dlt R (K37.dg b)) : U = X := by
  apply Classical.byContradiction
  intro h
  have n0 : X - U ≠ 0 := fun z => h (by
    have : X = U := by grind
    exact this.symm)
  have er : R = (X - U) * b := by grind
  have i := K37.IsD.mul (K37.dg_is n0) (K37.dg_is hb)
  rw [← er] at i
  exact i.1 (d _ (by omega))
theorem swp_dlt {A : Nat → Nat → RX p} (h : ∀ i j, K37.dlt (A i j) 3) (s t : Nat) : ∀ i j, K37.dlt (K37.swp s t A i j) 3 := fun i j => by
  unfold K37.swp
  split
  · exact h _ _
  · split
    · exact h _ _
    · exact h _ _
/-- what stands in the table in the midst of step s: done up to row a, column c -/
def Ent (N s a c : Nat) (B E : Nat → Nat → RX p) : Prop := ∀ i j, s ≤ i → i < N → s ≤ j → j < N → E i j = if s < i ∧ s < j ∧ (i < a ∨ (i = a ∧ j < c)) then K37.mnr (s + 1) B i j else K37.mnr s B i j
theorem Ent.start {N s : Nat} {B E : Nat → Nat → RX p} (h : ∀ i j, s ≤ i → i < N → s ≤ j → j < N → E i j = K37.mnr s B i j) : Ent N s (s + 1) (s + 1) B E := fun i j h1 h2 h3 h4 => by
  rw [if_neg (by omega)]
  exact h i j h1 h2 h3 h4
theorem Ent.row {N s a : Nat} {B E : Nat → Nat → RX p} (h : Ent N s a N B E) : Ent N s (a + 1) (s + 1) B E := fun i j h1 h2 h3 h4 => by
  rw [h i j h1 h2 h3 h4]
  by_cases c : s < i ∧ s < j ∧ (i < a ∨ (i = a ∧ j < N))
  · rw [if_pos c, if_pos (by omega)]
  · rw [if_neg c, if_neg (by omega)]
theorem Ent.stop {N s : Nat} {B E : Nat → Nat → RX p} (h : Ent N s N (s + 1) B E) : ∀ i j, s + 1 ≤ i → i < N → s + 1 ≤ j → j < N → E i j = K37.mnr (s + 1) B i j := fun i j h1 h2 h3 h4 => by
  rw [h i j (by omega) h2 (by omega) h4, if_pos (by omega)]
/-- one entry written -/
def setE (E : Nat → Nat → RX p) (a c : Nat) (w : RX p) : Nat → Nat → RX p := fun i j => if i = a ∧ j = c then w else E i j
theorem Ent.set {N s a c : Nat} {B E : Nat → Nat → RX p} (h : Ent N s a c B E) (ha : s < a) (hc : s < c) {w : RX p} (e : w = K37.mnr (s + 1) B a c) : Ent N s a (c + 1) B (setE E a c w) := fun i j h1 h2 h3 h4 => by
  unfold setE
  by_cases q : i = a ∧ j = c
  · rw [if_pos q, if_pos (by omega), e, q.1, q.2]
  · rw [if_neg q, h i j h1 h2 h3 h4]
    by_cases c' : s < i ∧ s < j ∧ (i < a ∨ (i = a ∧ j < c))
    · rw [if_pos c', if_pos (by omega)]
    · rw [if_neg c', if_neg (by omega)]
/-- the table at T: N rows, each at a place of its own -/
structure TM (p : Nat) [NeZero p] (H0 H : Hp) (T : Addr) (N : Nat) (rs : Nat → Addr) (E : Nat → Nat → RX p) : Prop where
  hT : H T = some (.lst ((List.range N).map fun i => V.ref (rs i)))
  inj : ∀ i j, i < N → j < N → rs i = rs j → i = j
  nT : ∀ i, i < N → rs i ≠ T
  new : H0 T = none ∧ ∀ i, i < N → H0 (rs i) = none
  row : ∀ i, i < N → BL p H (rs i) (rowX N E i)
theorem TM.same {H0 H H' : Hp} {T : Addr} {N : Nat} {rs : Nat → Addr} {E : Nat → Nat → RX p} (h : TM p H0 H T N rs E) (s : Same H H') : TM p H0 H' T N rs E :=
  ⟨s _ _ h.hT, h.inj, h.nT, h.new, fun i hi => (h.row i hi).same s⟩
theorem rowX_len (M : Nat) (A : Nat → Nat → RX p) (i : Nat) : (rowX M A i).length = M := by
  unfold rowX
  rw [List.length_map, List.length_range]
theorem rowX_get {M : Nat} (A : Nat → Nat → RX p) (i : Nat) {j : Nat} (h : j < M) : (rowX M A i)[j]? = some (Pl.C (A i j)) := by
  unfold rowX
  rw [List.getElem?_map, List.getElem?_range h]
  rfl
theorem TM.get {H0 H : Hp} {T : Addr} {N : Nat} {rs : Nat → Addr} {E : Nat → Nat → RX p} (h : TM p H0 H T N rs E) {i j : Nat} (hi : i < N) (hj : j < N) : ∃ xs a, ((List.range N).map fun i => V.ref (rs i))[i]? = some (.ref (rs i)) ∧ H (rs i) = some (.lst xs) ∧ xs.length = N ∧ xs[j]? = some (.ref a) ∧ YAtP p H a (Pl.C (E i j)) := by
  obtain ⟨xs, e, k⟩ := h.row i hi
  have ln := k.length
  rw [rowX_len] at ln
  obtain ⟨v, e2, a, e3, y⟩ := paired_right k (rowX_get E i hj)
  refine ⟨xs, a, ?_, e, ln, by rw [e2, e3], y⟩
  rw [List.getElem?_map, List.getElem?_range hi]
  rfl
theorem paired_set {α β : Type} {G : α → β → Prop} : ∀ {l : List α} {m : List β} (j : Nat) {a : α} {b : β}, Paired G l m → G a b → Paired G (l.set j a) (m.set j b)
  | _, _, _, _, _, .nil, _ => .nil
  | _, _, 0, _, _, .cons x t, g => .cons g t
  | _, _, j + 1, _, _, .cons x t, g => .cons x (paired_set j t g)
theorem upd_off {H : Hp} {r : Addr} {xs : List V} {o : HO} (h : H r = some (.lst xs)) : Off r H (upd H r o) := off_upd h
theorem TM.set {H0 H : Hp} {T : Addr} {N : Nat} {rs : Nat → Addr} {E : Nat → Nat → RX p} (h : TM p H0 H T N rs E) {i j : Nat} (hi : i < N) (hj : j < N) {xs : List V} (hx : H (rs i) = some (.lst xs)) {c : Addr} {w : RX p} (hc : YAtP p H c (Pl.C w)) : TM p H0 (upd H (rs i) (.lst (xs.set j (.ref c)))) T N rs (setE E i j w) := by
  have off := off_upd (o := .lst (xs.set j (.ref c))) hx
  refine ⟨off.2 _ _ (h.nT i hi).symm h.hT, h.inj, h.nT, h.new, fun k hk => ?_⟩
  by_cases e : k = i
  · subst e
    obtain ⟨ys, e1, pk⟩ := h.row k hk
    rw [hx] at e1
    cases e1
    refine ⟨_, upd_same, ?_⟩
    have es : rowX N (setE E k j w) k = (rowX N E k).set j (Pl.C w) := by
      unfold rowX
      refine List.ext_getElem (by simp) fun n h1 h2 => ?_
      rw [List.getElem_set]
      simp only [List.getElem_map, List.getElem_range]
      unfold setE
      by_cases q : j = n
      · rw [if_pos q, if_pos ⟨rfl, q.symm⟩]
      · rw [if_neg q, if_neg fun z => q z.2.symm]
    rw [es]
    exact paired_set j (paired_imp (fun v F ⟨a, e, y⟩ => ⟨a, e, y.offD off⟩) pk) ⟨c, rfl, hc.offD off⟩
  · have es : rowX N (setE E i j w) k = rowX N E k := by
      unfold rowX
      refine List.map_congr_left fun n _ => ?_
      unfold setE
      rw [if_neg fun z => e z.1]
    rw [es]
    exact (h.row k hk).off off fun z => e (h.inj _ _ hk hi z)
def swf (s t : Nat) (f : Nat → Addr) : Nat → Addr := fun r => if r = s then f t else if r = t then f s else f r
theorem swf_lt {N s t i : Nat} (hs : s < N) (ht : t < N) (hi : i < N) : (if i = s then t else if i = t then s else i) < N := by
  split
  · exact ht
  · split
    · exact hs
    · exact hi
theorem swf_eq (s t : Nat) (f : Nat → Addr) (i : Nat) : swf s t f i = f (if i = s then t else if i = t then s else i) := by
  unfold swf
  split
  · rfl
  · split <;> rfl
theorem swp_eq (s t : Nat) (A : Nat → Nat → RX p) (i j : Nat) : K37.swp s t A i j = A (if i = s then t else if i = t then s else i) j := by
  unfold K37.swp
  split
  · rfl
  · split <;> rfl
theorem swi_inj {s t i j : Nat} (h : (if i = s then t else if i = t then s else i) = if j = s then t else if j = t then s else j) : i = j := by
  by_cases a : i = s
  · rw [if_pos a] at h
    by_cases b : j = s
    · omega
    · rw [if_neg b] at h
      split at h <;> omega
  · rw [if_neg a] at h
    by_cases b : j = s
    · rw [if_pos b] at h
      split at h <;> omega
    · rw [if_neg b] at h
      split at h <;> split at h <;> omega
theorem TM.swap {H0 H : Hp} {T : Addr} {N : Nat} {rs : Nat → Addr} {E : Nat → Nat → RX p} (h : TM p H0 H T N rs E) {s t : Nat} (hs : s < N) (ht : t < N) {H' : Hp} (hH : H' T = some (.lst ((((List.range N).map fun i => V.ref (rs i)).set s (.ref (rs t))).set t (.ref (rs s))))) (ho : ∀ c o, c ≠ T → H c = some o → H' c = some o) : TM p H0 H' T N (swf s t rs) (K37.swp s t E) := by
  have off : Off T H H' := ⟨⟨_, h.hT⟩, ho⟩
  refine ⟨?_, fun i j hi hj e => ?_, fun i hi => ?_, ⟨h.new.1, fun i hi => ?_⟩, fun i hi => ?_⟩
  · rw [hH]
    congr 2
    refine List.ext_getElem (by simp) fun n h1 h2 => ?_
    rw [List.getElem_set, List.getElem_set]
    simp only [List.getElem_map, List.getElem_range]
    unfold swf
    by_cases a : t = n
    · rw [if_pos a]
      subst a
      by_cases b : t = s
      · rw [if_pos b, b]
      · rw [if_neg b, if_pos rfl]
    · rw [if_neg a]
      by_cases b : s = n
      · rw [if_pos b, if_pos b.symm]
      · rw [if_neg b, if_neg fun z => b z.symm, if_neg fun z => a z.symm]
  · rw [swf_eq, swf_eq] at e
    exact swi_inj (h.inj _ _ (swf_lt hs ht hi) (swf_lt hs ht hj) e)
  · rw [swf_eq]
    exact h.nT _ (swf_lt hs ht hi)
  · rw [swf_eq]
    exact h.new.2 _ (swf_lt hs ht hi)
  · have e : rowX N (K37.swp s t E) i = rowX N E (if i = s then t else if i = t then s else i) := by
      unfold rowX
      refine List.map_congr_left fun n _ => ?_
      rw [swp_eq]
    rw [swf_eq, e]
    exact (h.row _ (swf_lt hs ht hi)).off off (h.nT _ (swf_lt hs ht hi))
/-- the state between two steps -/
structure DS (p : Nat) [NeZero p] (A : Nat → Nat → RX p) (N s : Nat) (B : Nat → Nat → RX p) (sgn : Int) : Prop where
  dl : ∀ i j, K37.dlt (B i j) 3
  nz : K37.bf s B ≠ 0
  sg : (sgn = 1 ∧ K37.dn N A = K37.dn N B) ∨ (sgn = -1 ∧ K37.dn N A = - K37.dn N B)
theorem DS.swap {A B : Nat → Nat → RX p} {N s t : Nat} {sgn : Int} (h : DS p A N s B sgn) (hN : N ≤ 4) (st : s < t) (ht : t < N) : DS p A N s (K37.swp s t B) (-sgn) := by
  refine ⟨swp_dlt h.dl s t, by rw [K37.bf_swp B st]; exact h.nz, ?_⟩
  rw [K37.dn_swp hN st ht B]
  rcases h.sg with ⟨a, b⟩ | ⟨a, b⟩
  · exact .inr ⟨by rw [a], by rw [b]; grind⟩
  · exact .inl ⟨by rw [a]; rfl, by rw [b]⟩
theorem swap_ent {N s t : Nat} {B E : Nat → Nat → RX p} (st : s < t) (ht : t < N) (h : ∀ i j, s ≤ i → i < N → s ≤ j → j < N → E i j = K37.mnr s B i j) : ∀ i j, s ≤ i → i < N → s ≤ j → j < N → K37.swp s t E i j = K37.mnr s (K37.swp s t B) i j := fun i j h1 h2 h3 h4 => by
  rw [swp_eq, K37.mnr_swp B st]
  refine h _ j ?_ ?_ h3 h4
  · split
    · omega
    · split <;> omega
  · exact swf_lt (by omega) ht h2
end
end L2.K37R
end W37
section W38
set_option autoImplicit false
set_option linter.all false
set_option maxRecDepth 100000
/-! det_of -/
namespace L2.K37R
open PySem PySem.Spec PyProof.Rows C8 PySem.W
open K37 (S2 Pl)
section
variable {X : Cx} {e : Expr} {te : TE} {p pos : Pos}
def rListOf (K : PySem.W.Frag) : List V → Hp → VK → Prop := fun xs H Q => ∃ p ys, xs = [.ref p] ∧ (SqL K H p ys ∨ SqT K H p ys) ∧ ∀ l, H l = none → Q (.ref l) (upd H l (.lst ys))
/-- list(e), the written part named -/
theorem pe_listOf {K : PySem.W.Frag} (hg : Gl X "list") (hm : X.mg "list" = none) (he : PE X e te) (hK : X.K = K := by rfl) (h1 : starEach [e] X.env = (false, eval e X.env) :: starEach [] X.env := by rfl) (hpl : (backTo pos (starEach [] X.env)).any (·.1) = false := by rfl) : PE X (.Call (.Name "list" p) [e] [] pos) (tCB (rListOf K) (tCons te tNil)) := by
  subst hK
  exact pe_callTy call_list_of hg hm (by decide +kernel) (pa_cons he pa_nil (hs := h1)) (by decide) (by decide) h1 hpl
end
section
variable {P : Program} {w : World} {K : PySem.W.Frag} {mg : Str → Option Value} {base : Heap}
theorem walk_rangeN {a n : Nat} : Walk (Itr (a : Int) n) n (fun _ => True) (YFn fun i => .int ((a + i : Nat) : Int)) := walk_range.mono (fun _ h => h) fun i H x H' _ _ y => ⟨y.1, by
  rw [y.2]
  show V.int ((a : Int) + (i : Int)) = V.int ((a + i : Nat) : Int)
  congr 1⟩
/-- what holds behind a statement, told in between -/
def tVia (t : TS) : TS := fun D σ H => ∃ M : St → Hp → Prop, t { D with nx := M } σ H ∧ ∀ σ' H', M σ' H' → D.nx σ' H'
theorem ps_via {X : Cx} {st : Stmt} {t : TS} (h : PS X st t) : PS X st (tVia t) := ⟨fun pins s σ H D I ⟨M, q1, q2⟩ => thn (h.run pins s σ H _ I q1) fun r s' hq => by
  cases r with
  | next => exact let ⟨σ', H', i, m⟩ := hq; ⟨σ', H', i, q2 _ _ m⟩
  | brk => exact hq
  | cont => exact hq
  | ret u => exact hq⟩
theorem ixN_nat {n k : Nat} (h : k < n) : ixN n (k : Int) = some k := by
  unfold ixN
  rw [if_pos (by omega), if_pos (by omega)]
  simp
theorem bare_if {K : PySem.W.Frag} {xs : List V} (h : xs ≠ []) : xs.isEmpty = false := by
  cases xs with
  | nil => exact absurd rfl h
  | cons a b => rfl
abbrev sDet : Stmt := top 61
abbrev nDet : List Str := ["prime", "rows", "table", "before", "sign", "step", "spot", "spots", "column", "straight", "worth", "row"]
def spDet : Sp := fun vs H Q _ => ∃ (p : Nat) (_ : NeZero p) (a : Addr) (N : Nat) (A : Nat → Nat → RX p), vs = [.int p, .ref a] ∧ Pr p ∧ Tab p H a N N A ∧ N ≤ 4 ∧ (∀ i j, K37.dlt (A i j) 3) ∧ ∀ H' q, Same H H' → YAtP p H' q (Pl.C (K37.dn N A)) → Q (.ref q) H'
theorem scDet : FnScope nDet ["prime", "rows"] (defScope sDet) := ⟨rfl, rfl, rfl, by decide +kernel, rfl, by decide +kernel, by decide +kernel⟩
set_option maxHeartbeats 4000000 in
theorem ok_det {f : Addr} {fd : FuncData} (F : FnP K "det_of" sDet f fd) (B : Bare mg) (cA : Cal P w K mg base 1 "added" (Wr spAdded) []) (cP : Cal P w K mg base 1 "product" (Wr spProduct) []) (cS : Cal P w K mg base 1 "scaled" (Wr spScaled) []) (cD : Cal P w K mg base 2 "divide" (Wr spDivide) []) :
    FnOk P w K mg base CX0 3 f fd ["prime", "rows"] (Wr spDet) := by
  refine FnOk.imp (sp := spDet) ?_ fun _ _ _ _ h => un_wr h
  refine okP F scDet (fun vs H Q E h => ?_) (fun cdv A outer s H vs Q E hr h => ?_)
  · obtain ⟨p, ne, a, N, A, rfl, _⟩ := h
    rfl
  · obtain ⟨p, ne, a, N, MA, rfl, hp, hA, hN, dA, k⟩ := h
    have nd := scDet.nd
    have hu := hu_of hr
    have hu1 := Nat.lt_of_succ_lt hu
    refine ⟨_, pss_cons (ps_asg (pe_tup (pa_cons (pe_lc (own := [("row", 11)]) (g := gName 11) (tt := tYes) rfl nd (pi_list (pv 1)) (blkOk_by (N := nDet) (sc := defScope sDet) (by decide +kernel))
          (fun _ _ _ _ _ => pg_name (i := 11) nd rfl (Or.inl rfl)) (fun _ _ _ _ _ => pts_nil) (fun _ _ _ _ _ => pe_listOf (K := K) (by rfl) B.list (pv 11)))
        (pa_cons (pe_dispT hu1 (pe_tup (pa_cons pe_int (pa_cons pe_int pa_nil))) pe_int) (pa_cons pe_int pa_nil)))) (pg_tup rfl (pgs_cons (pg_name (i := 2) nd rfl (.inr rfl)) (pgs_cons (pg_name (i := 3) nd rfl (.inl rfl)) (pgs_cons (pg_name (i := 4) nd rfl (.inl rfl)) pgs_nil)))))
      (pss_cons (ps_if (pt_cmpR (op_eqL (K := K) hr.units) (pv 2) (pe_lst pa_nil) (nomark _)) (pss_one (ps_ret (pv 3))) pss_nil)
      (pss_cons (ps_for PassesOwn.never rfl (pi_range1 (by rfl) B.range (pa_cons (pe_op op_sub (pe_callB call_len_seq (by rfl) B.len (by decide +kernel) (pa_cons (pv 2) pa_nil)) pe_int) pa_nil)) (pg_name (i := 5) nd rfl (.inr rfl))
        (pss_cons (ps_setLc (i := 7) (own := [("spot", 6)]) (g := gName 6) rfl nd rfl rfl (sw_true rfl rfl rfl rfl) (pi_range2 (by rfl) B.range (pa_cons (pv 5) (pa_cons (pe_callB call_len_seq (by rfl) B.len (by decide +kernel) (pa_cons (pv 2) pa_nil)) pa_nil))) (blkOk_by (N := nDet) (sc := defScope sDet) (by decide +kernel))
          (fun _ _ _ _ _ => pg_name (i := 6) nd rfl (Or.inl rfl)) (fun _ _ _ _ _ => pts_one (pt_cmpR (op_neE hu1) (pe_il (K := K) (pe_il (K := K) (pv 2) (pv 6)) (pv 5)) pe_dnewT (nomark _))) (fun _ _ _ _ _ => pv 6))
        (pss_cons (ps_if (pt_cmpR (op_eqL (K := K) hr.units) (pv 7) (pe_lst pa_nil) (nomark _)) (pss_one (ps_ret pe_dnewT)) pss_nil)
        (pss_cons (ps_via (ps_if (pt_cmpR op_ne (pe_il (K := K) (pv 7) pe_int) (pv 5) (nomark _))
          (pss_one (ps_asg (pe_tup (pa_cons (pe_il (K := K) (pv 2) (pe_il (K := K) (pv 7) pe_int)) (pa_cons (pe_il (K := K) (pv 2) (pv 5)) (pa_cons (pe_un un_neg (pv 4)) pa_nil))))
            (pg_tup rfl (pgs_cons (pg_sub (pv 2) (pv 5) set_list) (pgs_cons (pg_sub (pv 2) (pe_il (K := K) (pv 7) pe_int) set_list) (pgs_cons (pg_name (i := 4) nd rfl (.inl rfl)) pgs_nil)))))) pss_nil))
        (pss_cons (ps_for PassesOwn.never rfl (pi_range2 (by rfl) B.range (pa_cons (pe_op op_add (pv 5) pe_int) (pa_cons (pe_callB call_len_seq (by rfl) B.len (by decide +kernel) (pa_cons (pv 2) pa_nil)) pa_nil))) (pg_name (i := 6) nd rfl (.inl rfl))
          (pss_one (ps_for PassesOwn.never rfl (pi_range2 (by rfl) B.range (pa_cons (pe_op op_add (pv 5) pe_int) (pa_cons (pe_callB call_len_seq (by rfl) B.len (by decide +kernel) (pa_cons (pv 2) pa_nil)) pa_nil))) (pg_name (i := 8) nd rfl (.inl rfl))
            (pss_cons (ps_set (i := 9) nd rfl (.inl rfl) (pe_c cP hr (by decide) (by rfl) (pa_cons (pv 0) (pa_cons (pe_il (K := K) (pe_il (K := K) (pv 2) (pv 6)) (pv 8)) (pa_cons (pe_il (K := K) (pe_il (K := K) (pv 2) (pv 5)) (pv 5)) pa_nil)))))
            (pss_cons (ps_set (i := 10) nd rfl (.inl rfl) (pe_c cA hr (by decide) (by rfl) (pa_cons (pv 0) (pa_cons (pv 9) (pa_cons (pe_c cP hr (by decide) (by rfl) (pa_cons (pv 0) (pa_cons (pe_il (K := K) (pe_il (K := K) (pv 2) (pv 6)) (pv 5)) (pa_cons (pe_il (K := K) (pe_il (K := K) (pv 2) (pv 5)) (pv 8)) pa_nil)))) (pa_cons (pe_un un_neg pe_int) pa_nil))))))
            (pss_one (ps_asg (pe_it (K := K) (pe_c cD hr (by decide) (by rfl) (pa_cons (pv 0) (pa_cons (pv 10) (pa_cons (pv 3) pa_nil)))) pe_int) (pg_sub (pe_il (K := K) (pv 2) (pv 6)) (pv 8) set_list))))))))
        (pss_one (ps_set (i := 3) nd rfl (.inl rfl) (pe_il (K := K) (pe_il (K := K) (pv 2) (pv 5)) (pv 5)))))))))
      (pss_one (ps_ret (pe_c cS hr (by decide) (by rfl) (pa_cons (pv 0) (pa_cons (pe_il (K := K) (pe_il (K := K) (pv 2) (pe_un un_neg pe_int)) (pe_un un_neg pe_int)) (pa_cons (pv 4) pa_nil)))))))), ?_⟩
    haveI := fd_of hp
    obtain ⟨hp1, hp7⟩ := pr17 hp
    obtain ⟨vs, ha, pvs⟩ := id hA
    have lvs : vs.length = N := by rw [pvs.length, List.length_range]
    refine ⟨_, rfl, a, rfl, ⟨_, SqL.of ha⟩, fun D hD => ?_⟩
    refine lc_it (walk_list (xs := vs)) (fun i H' => ∃ g : Nat → Addr, Same H H' ∧ H' D = some (.lst ((List.range i).map fun j => V.ref (g j))) ∧ (∀ x y, x < i → y < i → g x = g y → x = y) ∧ (∀ x, x < i → g x ≠ D ∧ H (g x) = none ∧ BL p H' (g x) (rowX N MA x)))
      ⟨fun _ => 0, same_upd_new hD, upd_same, fun x _ hx => absurd hx (Nat.not_lt_zero x), fun x hx => absurd hx (Nat.not_lt_zero x)⟩ (fun i H' _ ⟨_, s, _⟩ => SqL.of (s _ _ ha)) ?_ ?_
    · rintro i x H1' H1 hi ⟨g, s1, h1, inj, old⟩ ⟨rfl, hx⟩
      obtain ⟨j, ej, r, rfl, nr, ys, hy, py⟩ := paired_at pvs hx
      rw [lvs] at hi
      rw [List.getElem?_range hi] at ej
      cases ej
      refine ⟨wipe_set _ 11 _, tyes ⟨_, rfl, r, ys, rfl, .inl (SqL.of (s1 _ _ hy)), fun l hl => ?_⟩⟩
      have s2 := same_upd_new (o := .lst ys) hl
      have ll : upd H1 l (.lst ys) l = some (.lst ys) := upd_same
      have nl : ∀ x, x < i → g x ≠ l := fun x hx => by
        obtain ⟨_, _, zs, e, _⟩ := old x hx
        exact ne_of_none e hl
      have nlD : l ≠ D := (ne_of_none h1 hl).symm
      have nH : H l = none := YAtP.fresh s1 hl
      have pyl : Paired (fun v F => VX p v (upd H1 l (.lst ys)) F) ys (rowX N MA i) := paired_imp (fun _ _ q => q.same (s1.trans s2)) py
      generalize upd H1 l (.lst ys) = H2 at s2 ll pyl ⊢
      have h2 := s2 _ _ h1
      have off := off_upd (o := .lst ((List.range i).map (fun j => V.ref (g j)) ++ [.ref l])) h2
      refine ⟨_, h2, sm_line (by rw [List.length_map, List.length_range]; omega), fun x => if x = i then l else g x, same_free (s1.trans s2) hD, ?_, fun x y hx hy e => ?_, fun x hx => ?_⟩
      · rw [upd_same, List.range_succ, List.map_append]
        congr 3
        · refine List.map_congr_left fun x hx => ?_
          rw [List.mem_range] at hx
          show V.ref (g x) = V.ref (if x = i then l else g x)
          rw [if_neg (by omega)]
        · show [V.ref l] = [V.ref (if i = i then l else g i)]
          rw [if_pos rfl]
      · have e : (if x = i then l else g x) = if y = i then l else g y := e
        by_cases ex : x = i
        · by_cases ey : y = i
          · omega
          · rw [if_pos ex, if_neg ey] at e
            exact absurd e.symm (nl y (by omega))
        · by_cases ey : y = i
          · rw [if_neg ex, if_pos ey] at e
            exact absurd e (nl x (by omega))
          · rw [if_neg ex, if_neg ey] at e
            exact inj x y (by omega) (by omega) e
      · show (if x = i then l else g x) ≠ D ∧ H (if x = i then l else g x) = none ∧ BL p _ (if x = i then l else g x) (rowX N MA x)
        by_cases ex : x = i
        · rw [if_pos ex, ex]
          have L : BL p H2 l (rowX N MA i) := ⟨ys, ll, pyl⟩
          exact ⟨nlD, nH, L.off off nlD⟩
        · rw [if_neg ex]
          obtain ⟨q1, q2, q3⟩ := old x (by omega)
          exact ⟨q1, q2, (q3.same s2).off off q1⟩
    rintro H1 ⟨g, s1, h1, inj, old⟩
    rw [lvs] at h1 inj old
    refine disp_c 0 0 1 fun H2 b2 s2 n2 e2 => ?_
    refine ⟨by show 3 ≤ sizeLine; decide, fun t ht => ?_⟩
    have s3 := same_upd_new (o := .tup [.ref D, .ref b2, .int 1]) ht
    have ht3 : upd H2 t (.tup [.ref D, .ref b2, .int 1]) t = some (.tup [.ref D, .ref b2, .int 1]) := upd_same
    have s13 := s2.trans s3
    have tm3 : TM p H (upd H2 t (.tup [.ref D, .ref b2, .int 1])) D N g MA := ⟨s13 _ _ h1, inj, fun i hi => (old i hi).1, ⟨hD, fun i hi => (old i hi).2.1⟩, fun i hi => (old i hi).2.2.same s13⟩
    have yb3 : YAtP p (upd H2 t (.tup [.ref D, .ref b2, .int 1])) b2 (Pl.C 1) := ⟨_, s3 _ _ e2, by
      rw [← tm_00]
      exact Bk.one hp1 _⟩
    have s03 := s1.trans s13
    generalize upd H2 t (.tup [.ref D, .ref b2, .int 1]) = H3 at ht3 tm3 yb3 s03 ⊢
    refine ⟨t, _, rfl, SqT.of ht3, rfl, _, _, rfl, _, _, rfl, _, _, rfl, rfl, ?_⟩
    refine ⟨_, rfl, by show 0 ≤ sizeLine; decide, fun e he => ?_⟩
    have s4 := same_upd_new (o := .lst []) he
    refine ⟨D, e, _, rfl, rfl, SqL.of (s4 _ _ tm3.hT), SqL.of upd_same, _, rfl, ?_⟩
    have tm4 := tm3.same s4
    have yb4 := yb3.same s4
    have s04 := s03.trans s4
    generalize upd H3 e (.lst []) = H4 at tm4 yb4 s04 ⊢
    by_cases N0 : N = 0
    · subst N0
      exact iteT ⟨_, rfl, k _ b2 s04 yb4⟩
    have ne0 : (((List.range N).map fun i => V.ref (g i)) : List V).isEmpty = false := by
      cases w : (List.range N).map fun i => V.ref (g i) with
      | nil =>
        have := congrArg List.length w
        rw [List.length_map, List.length_range] at this
        exact absurd this N0
      | cons x l => rfl
    rw [ne0]
    refine iteF ?_
    have lenT : ∀ f : Nat → Addr, ((List.range N).map fun i => V.ref (f i)).length = N := fun f => by rw [List.length_map, List.length_range]
    refine ⟨_, rfl, D, _, rfl, .inl (SqL.of tm4.hT), _, _, rfl, rfl, ((N - 1 : Nat) : Int), ?_, by omega, by omega, ?_⟩
    · rw [lenT]
      show [V.int ((N : Int) - 1)] = _
      rw [show (N : Int) - 1 = ((N - 1 : Nat) : Int) by omega]
    rw [Int.toNat_natCast]
    refine for_it walk_range0 (fun s σ' H' => ∃ (x5 x6 x7 x8 x9 x10 : Option V) (bf : Addr) (sgn : Int) (rs : Nat → Addr) (B E : Nat → Nat → RX p), σ' = [some (.int p), some (.ref a), some (.ref D), some (.ref bf), some (.int sgn), x5, x6, x7, x8, x9, x10, none] ∧ Same H H' ∧ TM p H H' D N rs E ∧ DS p MA N s B sgn ∧
        YAtP p H' bf (Pl.C (K37.bf s B)) ∧ (∀ i j, s ≤ i → i < N → s ≤ j → j < N → E i j = K37.mnr s B i j))
      ⟨none, none, none, none, none, none, b2, 1, g, MA, MA, rfl, s04, tm4, ⟨dA, one_neX, .inl ⟨rfl, rfl⟩⟩, yb4, fun i j _ _ _ _ => (K37.mnr0 MA i j).symm⟩ (fun _ _ _ _ _ => True.intro) ?_ ?_
    · rintro s v σ' H5' H5 hs ⟨x5, x6, x7, x8, x9, x10, bf, sgn, rs, B', E', rfl, s5, tm5, ds5, yb5, ent5⟩ ⟨rfl, rfl⟩
      have hsN : s + 1 < N := by omega
      have hT5 := tm5.hT
      refine ⟨_, rfl, _, rfl, D, _, rfl, .inl (SqL.of hT5), (s : Int), (N : Int), by rw [lenT], ⟨by omega, by omega, by omega, by omega⟩, fun D2 hD2 => ?_⟩
      rw [show ((N : Int) - (s : Int)).toNat = N - s by omega]
      refine lc_gen (walk_rangeN (a := s) (n := N - s)) hD2 (sm_line (by omega)) (fun i => nz (E' (s + i) s)) (fun i v _ => v = .int ((s + i : Nat) : Int)) (fun _ _ _ _ _ h => h) (fun _ _ => True.intro) ?_ ?_
      · rintro i v H1' H6 Q' S' hi s6 ⟨acc, hacc⟩ ⟨rfl, rfl⟩ yes no
        obtain ⟨xs, c, e1, e2, e3, e4, yc⟩ := tm5.get (i := s + i) (j := s) (by omega) (by omega)
        obtain ⟨ts, et, kt⟩ := yc.same s6
        refine ⟨wipe_set _ 6 _, ⟨_, rfl, _, rfl, D, _, _, _, rfl, rfl, SqL.of (s6 _ _ hT5), atI_nat e1, _, rfl, rs (s + i), xs, _, _, rfl, rfl, SqL.of (s6 _ _ e2), atI_nat e4, fun e he => ?_⟩⟩
        have se := same_upd_new (o := .dT []) he
        refine ⟨_, _, ts, rfl, rfl, se _ _ et, upd_same, _, rfl, ?_⟩
        have eC : ts = [] ↔ E' (s + i) s = 0 := kt.eq_nil.trans ⟨fun z => C_inj (z.trans rfl), fun z => by rw [z]; rfl⟩
        by_cases z : ts = []
        · rw [decide_eq_true z]
          refine iteF (no _ ?_ se)
          rw [Bool.eq_false_iff]
          exact fun w => nz_iff.mp w (eC.mp z)
        · rw [decide_eq_false z]
          exact iteT ⟨_, rfl, yes _ _ (nz_iff.mpr fun w => z (eC.mpr w)) se rfl⟩
      intro H6 zs s6 dz pz
      have ez := paired_eq pz
      have s06 := s5.trans s6
      refine ⟨_, rfl, by show 0 ≤ sizeLine; decide, fun e he => ?_⟩
      have s7 := same_upd_new (o := .lst []) he
      refine ⟨D2, e, _, rfl, rfl, SqL.of (s7 _ _ dz), SqL.of upd_same, _, rfl, ?_⟩
      have dz7 := s7 _ _ dz
      have s67 := s6.trans s7
      have tm7 := tm5.same s67
      have yb7 := yb5.same s67
      have s07 := s06.trans s7
      generalize upd H6 e (.lst []) = H7 at dz7 tm7 yb7 s07 ⊢
      cases hf : (List.range (N - s)).filter fun i => nz (E' (s + i) s) with
      | nil =>
        rw [hf] at ez
        rw [ez]
        refine iteT fun q hq => k _ q (s07.trans (same_upd_new hq)) ?_
        have z : K37.dn N B' = 0 := K37.dn_zero hN hsN B' ds5.nz fun i h1 h2 => by
          rw [← ent5 i s h1 h2 (Nat.le_refl _) (by omega)]
          have nm : (i - s) ∉ (List.range (N - s)).filter fun i => nz (E' (s + i) s) := by
            rw [hf]
            exact List.not_mem_nil
          have : nz (E' (s + (i - s)) s) ≠ true := fun w => nm (List.mem_filter.mpr ⟨List.mem_range.mpr (by omega), w⟩)
          rw [show s + (i - s) = i by omega] at this
          exact Classical.not_not.mp fun w => this (nz_iff.mpr w)
        have z2 : K37.dn N MA = 0 := by
          rcases ds5.sg with ⟨_, w⟩ | ⟨_, w⟩
          · rw [w, z]
          · rw [w, z]
            grind
        rw [z2]
        exact .nil upd_same
      | cons i0 rest =>
        have m0 : i0 ∈ (List.range (N - s)).filter fun i => nz (E' (s + i) s) := by
          rw [hf]
          exact List.mem_cons_self ..
        obtain ⟨m1, m2⟩ := List.mem_filter.mp m0
        rw [List.mem_range] at m1
        have nzt := nz_iff.mp m2
        rw [hf, List.map_cons] at ez
        have hz0 : atI zs 0 = some (V.int ((s + i0 : Nat) : Int)) := by
          rw [ez]
          exact atI_nat (j := 0) rfl
        rw [bare_if (K := K) (xs := zs) (by rw [ez]; exact fun z => nomatch z)]
        refine iteF ?_
        refine ⟨fun σ' H' => ∃ (sgn2 : Int) (rs2 : Nat → Addr) (B2 E2 : Nat → Nat → RX p), σ' = [some (.int p), some (.ref a), some (.ref D), some (.ref bf), some (.int sgn2), some (.int (s : Int)), x6, some (.ref D2), x8, x9, x10, none] ∧ Same H H' ∧ TM p H H' D N rs2 E2 ∧ DS p MA N s B2 sgn2 ∧
          YAtP p H' bf (Pl.C (K37.bf s B2)) ∧ (∀ i j, s ≤ i → i < N → s ≤ j → j < N → E2 i j = K37.mnr s B2 i j) ∧ E2 s s ≠ 0, ?_, ?_⟩
        · refine ⟨_, rfl, D2, zs, _, _, rfl, rfl, SqL.of dz7, hz0, _, rfl, rfl, _, rfl, ?_⟩
          refine ite_neI (fun hne => ?_) fun heq => ?_
          · have st : s < s + i0 := by omega
            have ht : s + i0 < N := by omega
            generalize s + i0 = t at hz0 nzt hne st ht
            obtain ⟨_, _, et1, _⟩ := tm7.get (i := t) (j := s) ht (by omega)
            obtain ⟨_, _, es1, _⟩ := tm7.get (i := s) (j := s) (by omega) (by omega)
            have nD2 : D2 ≠ D := (ne_of_none hT5 hD2).symm
            refine ⟨_, rfl, _, rfl, D2, zs, _, _, rfl, rfl, SqL.of dz7, hz0, D, _, _, _, rfl, rfl, SqL.of tm7.hT, atI_nat et1, _, rfl, _, rfl, D, _, _, _, rfl, rfl, SqL.of tm7.hT, atI_nat es1, _, rfl, _, rfl, by show 3 ≤ sizeLine; decide, fun q hq => ?_⟩
            have s8 := same_upd_new (o := .tup [.ref (rs t), .ref (rs s), .int (-sgn)]) hq
            have hq8 : upd H7 q (.tup [.ref (rs t), .ref (rs s), .int (-sgn)]) q = some (.tup [.ref (rs t), .ref (rs s), .int (-sgn)]) := upd_same
            have tm8 := tm7.same s8
            have yb8 := yb7.same s8
            have dz8 := s8 _ _ dz7
            have s08 := s07.trans s8
            generalize upd H7 q (.tup [.ref (rs t), .ref (rs s), .int (-sgn)]) = H8 at hq8 tm8 yb8 dz8 s08 ⊢
            have h9 : ∀ o, upd H8 D o D2 = some (.lst zs) := fun o => by
              rw [upd_ne nD2]
              exact dz8
            refine ⟨q, _, rfl, SqT.of hq8, rfl, _, _, rfl, _, rfl, _, rfl, D, _, _, s, rfl, rfl, tm8.hT, ixN_nat (by rw [lenT]; omega), ?_⟩
            refine ⟨_, _, rfl, _, rfl, _, rfl, D2, zs, _, _, rfl, rfl, SqL.of (h9 _), hz0, D, _, _, t, rfl, rfl, upd_same, ixN_nat (by rw [List.length_set, lenT]; omega), ?_⟩
            have off := off_upd (o := .lst ((((List.range N).map fun i => V.ref (rs i)).set s (.ref (rs t))).set t (.ref (rs s)))) tm8.hT
            have e2 : ∀ c : Addr, upd (upd H8 D (.lst (((List.range N).map fun i => V.ref (rs i)).set s (.ref (rs t))))) D (.lst ((((List.range N).map fun i => V.ref (rs i)).set s (.ref (rs t))).set t (.ref (rs s)))) c = upd H8 D (.lst ((((List.range N).map fun i => V.ref (rs i)).set s (.ref (rs t))).set t (.ref (rs s)))) c := fun c => by
              by_cases hc : c = D
              · rw [hc, upd_same, upd_same]
              · rw [upd_ne hc, upd_ne hc, upd_ne hc]
            rw [funext e2]
            refine ⟨_, _, rfl, rfl, -sgn, swf s t rs, K37.swp s t B', K37.swp s t E', rfl, same_free s08 hD, tm8.swap (by omega) ht upd_same off.2, ds5.swap hN st ht, ?_, swap_ent st ht ent5, ?_⟩
            · rw [K37.bf_swp B' st]
              exact yb8.offD off
            · rw [swp_eq, if_pos rfl]
              exact nzt
          · have i00 : i0 = 0 := by omega
            subst i00
            exact ⟨sgn, rs, B', E', rfl, s07, tm7, ds5, yb7, ent5, nzt⟩
        · rintro σ' H8 ⟨sgn2, rs2, B2, E2, rfl, s8, tm8, ds8, yb8, ent8, nz8⟩
          refine ⟨_, rfl, _, _, rfl, rfl, _, rfl, D, _, rfl, .inl (SqL.of tm8.hT), ((s + 1 : Nat) : Int), (N : Int), by rw [lenT]; rfl, ⟨by omega, by omega, by omega, by omega⟩, ?_⟩
          rw [show ((N : Int) - ((s + 1 : Nat) : Int)).toNat = N - (s + 1) by omega]
          have bnd : ∀ i j, Bd (Pl.C (K37.mnr s B2 i j)) 7 1 := fun i j => (bd_C (mnr_dlt ds8.dl s i j)).mono (by omega) (Nat.le_refl _)
          have lt7 : ∀ i j, K37.dlt (K37.mnr s B2 i j) 7 := fun i j => (mnr_dlt ds8.dl s i j).mono (by omega)
          refine for_it (walk_rangeN (a := s + 1) (n := N - (s + 1))) (fun i σ' H' => ∃ (x6 x8 x9 x10 : Option V) (E3 : Nat → Nat → RX p), σ' = [some (.int p), some (.ref a), some (.ref D), some (.ref bf), some (.int sgn2), some (.int (s : Int)), x6, some (.ref D2), x8, x9, x10, none] ∧ Same H H' ∧ TM p H H' D N rs2 E3 ∧ YAtP p H' bf (Pl.C (K37.bf s B2)) ∧ Ent N s (s + 1 + i) (s + 1) B2 E3)
            ⟨x6, x8, x9, x10, E2, rfl, s8, tm8, yb8, Ent.start ent8⟩ (fun _ _ _ _ _ => True.intro) ?_ ?_
          · rintro i v σ' H9' H9 hi ⟨x6', x8', x9', x10', E3, rfl, s9, tm9, yb9, ent9⟩ ⟨rfl, rfl⟩
            refine ⟨_, rfl, _, _, rfl, rfl, _, rfl, D, _, rfl, .inl (SqL.of tm9.hT), ((s + 1 : Nat) : Int), (N : Int), by rw [lenT]; rfl, ⟨by omega, by omega, by omega, by omega⟩, ?_⟩
            rw [show ((N : Int) - ((s + 1 : Nat) : Int)).toNat = N - (s + 1) by omega]
            refine for_it (walk_rangeN (a := s + 1) (n := N - (s + 1))) (fun j σ' H' => ∃ (x8 x9 x10 : Option V) (E3 : Nat → Nat → RX p), σ' = [some (.int p), some (.ref a), some (.ref D), some (.ref bf), some (.int sgn2), some (.int (s : Int)), some (.int ((s + 1 + i : Nat) : Int)), some (.ref D2), x8, x9, x10, none] ∧ Same H H' ∧ TM p H H' D N rs2 E3 ∧ YAtP p H' bf (Pl.C (K37.bf s B2)) ∧ Ent N s (s + 1 + i) (s + 1 + j) B2 E3)
              ⟨x8', x9', x10', E3, rfl, s9, tm9, yb9, ent9⟩ (fun _ _ _ _ _ => True.intro) ?_ ?_
            · rintro j v σ' H10' H10 hj ⟨y8, y9, y10, E4, rfl, s10, tm10, yb10, ent10⟩ ⟨rfl, rfl⟩
              have hr1 : s + 1 + i < N := by omega
              have hc1 : s + 1 + j < N := by omega
              have sr : s < s + 1 + i := by omega
              have sc : s < s + 1 + j := by omega
              have w1 : E4 (s + 1 + i) (s + 1 + j) = K37.mnr s B2 (s + 1 + i) (s + 1 + j) := by rw [ent10 (s + 1 + i) (s + 1 + j) (by omega) hr1 (by omega) hc1, if_neg (by omega)]
              have w2 : E4 s s = K37.mnr s B2 s s := by rw [ent10 s s (by omega) (by omega) (by omega) (by omega), if_neg (by omega)]
              have w3 : E4 (s + 1 + i) s = K37.mnr s B2 (s + 1 + i) s := by rw [ent10 (s + 1 + i) s (by omega) hr1 (by omega) (by omega), if_neg (by omega)]
              have w4 : E4 s (s + 1 + j) = K37.mnr s B2 s (s + 1 + j) := by rw [ent10 s (s + 1 + j) (by omega) (by omega) (by omega) hc1, if_neg (by omega)]
              obtain ⟨xr, c1, er, hxr, lxr, ec1, y1⟩ := tm10.get (i := (s + 1 + i)) (j := (s + 1 + j)) hr1 hc1
              obtain ⟨xs', c2, es, hxs, lxs, ec2, y2⟩ := tm10.get (i := s) (j := s) (by omega) (by omega)
              obtain ⟨xr', c3, _, hxr', _, ec3, y3⟩ := tm10.get (i := (s + 1 + i)) (j := s) hr1 (by omega)
              obtain ⟨xs'', c4, _, hxs', _, ec4, y4⟩ := tm10.get (i := s) (j := (s + 1 + j)) (by omega) hc1
              rw [hxr] at hxr'
              cases hxr'
              rw [hxs] at hxs'
              cases hxs'
              rw [w1] at y1
              rw [w2] at y2
              rw [w3] at y3
              rw [w4] at y4
              have hT10 := tm10.hT
              refine ⟨_, rfl, _, rfl, _, rfl, D, _, _, _, rfl, rfl, SqL.of hT10, atI_nat er, _, rfl, rs2 (s + 1 + i), xr, _, _, rfl, rfl, SqL.of hxr, atI_nat ec1, _, rfl, _, rfl, D, _, _, _, rfl, rfl, SqL.of hT10, atI_nat es, _, rfl, rs2 s, xs', _, _, rfl, rfl, SqL.of hxs, atI_nat ec2, ?_⟩
              refine product_y hp y1 y2 (bnd _ _) (bnd _ _) (by decide) fun H11 q11 s11 n11 y11 => ?_
              refine ⟨_, rfl, _, rfl, _, rfl, _, rfl, _, rfl, D, _, _, _, rfl, rfl, SqL.of (s11 _ _ hT10), atI_nat er, _, rfl, rs2 (s + 1 + i), xr, _, _, rfl, rfl, SqL.of (s11 _ _ hxr), atI_nat ec3, _, rfl, _, rfl, D, _, _, _, rfl, rfl, SqL.of (s11 _ _ hT10), atI_nat es, _, rfl, rs2 s, xs', _, _, rfl, rfl, SqL.of (s11 _ _ hxs), atI_nat ec4, ?_⟩
              refine product_y hp (y3.same s11) (y4.same s11) (bnd _ _) (bnd _ _) (by decide) fun H12 q12 s12 n12 y12 => ⟨_, rfl, ?_⟩
              rw [← Pl.C_mul] at y11 y12
              have d11 : K37.dlt (K37.mnr s B2 (s + 1 + i) (s + 1 + j) * K37.mnr s B2 s s) 13 := (lt7 _ _).mul (lt7 _ _)
              have d12 : K37.dlt (K37.mnr s B2 (s + 1 + i) s * K37.mnr s B2 s (s + 1 + j)) 13 := (lt7 _ _).mul (lt7 _ _)
              refine minus_y hp (y11.same s12) y12 (smC d11 (by decide)) (smC d12 (by decide)) fun H13 q13 s13 n13 y13 => ?_
              rw [← C_sub, ← K37.bstep (by omega) B2 (s + 1 + i) (s + 1 + j)] at y13
              have s1013 := s11.trans (s12.trans s13)
              have dW : K37.dlt (K37.mnr (s + 1) B2 (s + 1 + i) (s + 1 + j) * K37.bf s B2) 64 := ((mnr_dlt ds8.dl (s + 1) (s + 1 + i) (s + 1 + j)).mul (bf_dlt ds8.dl s)).mono (by omega)
              refine ⟨_, rfl, _, rfl, _, rfl, ?_⟩
              refine divide_y hp y13 (yb10.same s1013) dW ((bf_dlt ds8.dl s).mono (by omega)) ds8.nz fun H14 q14 a1 a2 U R s14 hq14 n1 n2 yU yR eR dR dU => ?_
              have s1014 := s1013.trans s14
              have eU := exact_div ds8.nz eR dR
              refine ⟨q14, _, _, _, rfl, rfl, SqT.of hq14, at0, ?_⟩
              refine ⟨_, rfl, _, rfl, D, _, _, _, rfl, rfl, SqL.of (s1014 _ _ hT10), atI_nat er, _, rfl, rs2 (s + 1 + i), xr, _, (s + 1 + j), rfl, rfl, s1014 _ _ hxr, ixN_nat (by rw [lxr]; exact hc1), ?_⟩
              have tm14 := tm10.same s1014
              have off := off_upd (o := .lst (xr.set (s + 1 + j) (.ref a1))) (s1014 _ _ hxr)
              exact ⟨_, _, _, setE E4 (s + 1 + i) (s + 1 + j) U, rfl, same_free (s10.trans s1014) (tm10.new.2 (s + 1 + i) hr1), tm14.set hr1 hc1 (s1014 _ _ hxr) yU, (yb10.same s1014).offD off, ent10.set sr sc eU⟩
            · rintro σ' H10 ⟨y8, y9, y10, E4, rfl, s10, tm10, yb10, ent10⟩
              rw [show s + 1 + (N - (s + 1)) = N by omega] at ent10
              exact ⟨_, y8, y9, y10, E4, rfl, s10, tm10, yb10, ent10.row⟩
          · rintro σ' H9 ⟨y6, y8, y9, y10, E3, rfl, s9, tm9, yb9, ent9⟩
            rw [show s + 1 + (N - (s + 1)) = N by omega] at ent9
            have ess : E3 s s = K37.bf (s + 1) B2 := by
              rw [ent9 s s (Nat.le_refl _) (by omega) (Nat.le_refl _) (by omega), if_neg (by omega)]
              rfl
            have ess2 : E2 s s = K37.bf (s + 1) B2 := ent8 s s (Nat.le_refl _) (by omega) (Nat.le_refl _) (by omega)
            obtain ⟨xs, c, e1, e2, e3, e4, yc⟩ := tm9.get (i := s) (j := s) (by omega) (by omega)
            rw [ess] at yc
            refine ⟨_, rfl, _, rfl, D, _, _, _, rfl, rfl, SqL.of tm9.hT, atI_nat e1, _, rfl, rs2 s, xs, _, _, rfl, rfl, SqL.of e2, atI_nat e4, ?_⟩
            exact ⟨_, _, _, _, _, _, c, sgn2, rs2, B2, E3, rfl, s9, tm9, ⟨ds8.dl, by rw [← ess2]; exact nz8, ds8.sg⟩, yc, ent9.stop⟩
    · rintro σ' H5 ⟨x5, x6, x7, x8, x9, x10, bf, sgn, rs, B', E', rfl, s5, tm5, ds5, yb5, ent5⟩
      obtain ⟨xs, c, e1, e2, e3, e4, yc⟩ := tm5.get (i := N - 1) (j := N - 1) (by omega) (by omega)
      have last : ∀ {l : List V} {v : V}, l.length = N → l[N - 1]? = some v → atI l (-1) = some v := fun {l v} hl hv => by
        have hd := List.dropLast_concat_getLast (l := l) (fun z => by rw [z] at hl; exact N0 hl.symm)
        have : l.getLast (fun z => by rw [z] at hl; exact N0 hl.symm) = v := by
          rw [List.getLast_eq_getElem]
          rw [hl.symm] at hv
          have := List.getElem?_eq_some_iff.mp hv
          exact this.2
        rw [this] at hd
        rw [← hd]
        exact atI_last _ _
      refine ⟨_, rfl, _, rfl, _, rfl, D, _, _, _, rfl, rfl, SqL.of tm5.hT, last (lenT rs) e1, _, rfl, rs (N - 1), xs, _, _, rfl, rfl, SqL.of e2, last e3 e4, _, rfl, ?_⟩
      have ed : E' (N - 1) (N - 1) = K37.dn N B' := by
        rw [ent5 _ _ (Nat.le_refl _) (by omega) (Nat.le_refl _) (by omega), K37.dn_mnr, show N - 1 + 1 = N by omega]
      rw [ed] at yc
      refine scaled_y hp yc (smC (dn_dlt ds5.dl N) (by omega)) fun H6 q6 s6 n6 y6 => ?_
      refine k _ q6 (s5.trans s6) ?_
      rcases ds5.sg with ⟨e1, e2⟩ | ⟨e1, e2⟩
      · rw [e2]
        rw [e1, kap_one hp1] at y6
        have : (1 : S2 (Fq p)) * Pl.C (K37.dn N B') = Pl.C (K37.dn N B') := Pl.one_mul' _
        rw [this] at y6
        exact y6
      · rw [e2]
        rw [e1, kap_neg hp1] at y6
        have : (-1 : S2 (Fq p)) * Pl.C (K37.dn N B') = Pl.C (-K37.dn N B') := by
          rw [Pl.C_neg]
          grind
        rw [this] at y6
        exact y6
end
end L2.K37R
end W38
section W39
set_option autoImplicit false
set_option linter.all false
set_option maxRecDepth 100000
/-! cofactor -/
namespace L2.K37R
open PySem PySem.Spec PyProof.Rows C8 PySem.W
open K37 (S2 Pl)
def sh (s i : Nat) : Nat := if i < s then i else i + 1
theorem filter_ne : ∀ N, N < 6 → ∀ s, s < N → ((List.range N).filter fun i => decide (i ≠ s)) = (List.range (N - 1)).map (sh s) := by decide +kernel
theorem erase_sh : ∀ N, N < 6 → ∀ s, s < N → (List.range N).eraseIdx s = (List.range (N - 1)).map (sh s) := by decide +kernel
theorem erase_map {α β : Type} (f : α → β) : ∀ (l : List α) (s : Nat), (l.map f).eraseIdx s = (l.eraseIdx s).map f
  | [], _ => rfl
  | a :: l, 0 => rfl
  | a :: l, s + 1 => congrArg (f a :: ·) (erase_map f l s)
theorem paired_take {α β : Type} {G : α → β → Prop} : ∀ (n : Nat) {l : List α} {m : List β}, Paired G l m → Paired G (l.take n) (m.take n)
  | 0, _, _, _ => .nil
  | n + 1, _, _, .nil => .nil
  | n + 1, _, _, .cons x t => .cons x (paired_take n t)
theorem paired_unmap {α β γ : Type} {G : α → γ → Prop} (f : β → γ) : ∀ {m : List β} {l : List α}, Paired G l (m.map f) → Paired (fun a b => G a (f b)) l m
  | [], _, .nil => .nil
  | b :: m, _, .cons x t => .cons x (paired_unmap f t)
section
variable {p : Nat} [NeZero p]
/-- the table without row s -/
def del (s : Nat) (A : Nat → Nat → RX p) : Nat → Nat → RX p := fun i j => A (sh s i) j
theorem del_dlt {A : Nat → Nat → RX p} (h : ∀ i j, K37.dlt (A i j) 3) (s : Nat) : ∀ i j, K37.dlt (del s A i j) 3 := fun i j => h _ _
/-- the cofactor of the last item of row s -/
def cof (N : Nat) (A : Nat → Nat → RX p) (s : Nat) : RX p := K37.sg (N - 1 - s) * K37.dn (N - 1) (del s A)
theorem cof_dlt {A : Nat → Nat → RX p} (h : ∀ i j, K37.dlt (A i j) 3) {N : Nat} (hN : N ≤ 5) (s : Nat) : K37.dlt (cof N A s) 9 :=
  ((sg_dlt _).mul (dn_dlt (del_dlt h s) (N - 1))).mono (by omega)
theorem sg_par : ∀ k : Nat, (K37.sg k : RX p) = if k % 2 = 1 then -1 else 1
  | 0 => rfl
  | k + 1 => by
    show - K37.sg k = _
    rw [sg_par k]
    by_cases h : k % 2 = 1
    · rw [if_pos h, if_neg (by omega)]
      grind
    · rw [if_neg h, if_pos (by omega)]
/-- the sum over the rows -/
theorem dn_cof {N : Nat} (h1 : 1 ≤ N) (hN : N ≤ 5) (A : Nat → Nat → RX p) : K37.sm N (fun s => cof N A s * A s (N - 1)) = K37.dn N A := by
  obtain ⟨n, rfl⟩ : ∃ n, N = n + 1 := ⟨N - 1, by omega⟩
  show _ = K37.dt (n + 1) ((List.range (n + 1)).map A)
  rw [K37.dt_sum, List.length_map, List.length_range]
  refine K37.sm_congr fun s hs => ?_
  have e1 : ((List.range (n + 1)).map A).getD s (fun _ => 0) = A s := by
    rw [K37.getD_range_map, if_pos hs]
  have e2 : ((List.range (n + 1)).map A).eraseIdx s = (List.range n).map (del s A) := by
    rw [erase_map, erase_sh (n + 1) (by omega) s hs, List.map_map]
    rfl
  rw [e1, e2]
  show K37.sg (n + 1 - 1 - s) * K37.dn (n + 1 - 1) (del s A) * A s (n + 1 - 1) = K37.sg (n + 1 - 1 - s) * A s n * K37.dt n ((List.range n).map (del s A))
  rw [show n + 1 - 1 = n by omega]
  show K37.sg (n - s) * K37.dt n ((List.range n).map (del s A)) * A s n = _
  grind
end
section
variable {P : Program} {w : World} {K : PySem.W.Frag} {mg : Str → Option Value} {base : Heap}
abbrev sCof : Stmt := top 62
abbrev nCof : List Str := ["prime", "rows", "spot", "others", "sign", "number", "row"]
def spCof : Sp := fun vs H Q _ => ∃ (p : Nat) (_ : NeZero p) (a : Addr) (N s : Nat) (A : Nat → Nat → RX p), vs = [.int p, .ref a, .int (s : Int)] ∧ Pr p ∧ Tab p H a N N A ∧ s < N ∧ N ≤ 5 ∧ (∀ i j, K37.dlt (A i j) 3) ∧ ∀ H' q, Same H H' → YAtP p H' q (Pl.C (cof N A s)) → Q (.ref q) H'
theorem scCof : FnScope nCof ["prime", "rows", "spot"] (defScope sCof) := ⟨rfl, rfl, rfl, by decide +kernel, rfl, by decide +kernel, by decide +kernel⟩
set_option maxHeartbeats 1000000 in
theorem ok_cof {f : Addr} {fd : FuncData} (F : FnP K "cofactor" sCof f fd) (B : Bare mg) (cS : Cal P w K mg base 1 "scaled" (Wr spScaled) []) (cD : Cal P w K mg base 3 "det_of" (Wr spDet) []) :
    FnOk P w K mg base CX0 4 f fd ["prime", "rows", "spot"] (Wr spCof) := by
  refine FnOk.imp (sp := spCof) ?_ fun _ _ _ _ h => un_wr h
  refine okP F scCof (fun vs H Q E h => ?_) (fun cdv A outer s H vs Q E hr h => ?_)
  · obtain ⟨p, ne, a, N, s, A, rfl, _⟩ := h
    rfl
  · obtain ⟨p, ne, a, N, st, MA, rfl, hp, hA, hs, hN, dA, k⟩ := h
    have nd := scCof.nd
    refine ⟨_, pss_cons (ps_setLc (i := 3) (own := [("number", 5), ("row", 6)]) (g := gTup K 2 (gCons (gName 5) (gCons (gName 6) gNil))) rfl nd rfl rfl (sw_true rfl rfl rfl rfl) (pi_enum (by rfl) B.enumerate (pa_cons (pv 1) pa_nil)) (blkOk_by (N := nCof) (sc := defScope sCof) (by decide +kernel))
          (fun _ _ _ _ _ => pg_tup rfl (pgs_cons (pg_name (i := 5) nd rfl (Or.inl rfl)) (pgs_cons (pg_name (i := 6) nd rfl (Or.inl rfl)) pgs_nil))) (fun _ _ _ _ _ => pts_one (pt_cmpR op_ne (pv 5) (pv 2) (nomark _)))
          (fun _ _ _ _ _ => pe_slL (K := K) (pv 6) po_none (po_some (pe_un un_neg pe_int))))
      (pss_cons (ps_set (i := 4) nd rfl (.inl rfl) (pe_ifExp (pt_cmpR op_eq (pe_op op_mod (pe_op op_sub (pe_op op_add (pv 2) (pe_callB call_len_seq (by rfl) B.len (by decide +kernel) (pa_cons (pv 1) pa_nil))) pe_int) pe_int) pe_int (nomark _)) (pe_un un_neg pe_int) pe_int))
      (pss_one (ps_ret (pe_c cS hr (by decide) (by rfl) (pa_cons (pv 0) (pa_cons (pe_c cD hr (by decide) (by rfl) (pa_cons (pv 0) (pa_cons (pv 3) pa_nil))) (pa_cons (pv 4) pa_nil))))))), ?_⟩
    obtain ⟨hp1, hp7⟩ := pr17 hp
    obtain ⟨vs, ha, pvs⟩ := id hA
    have lvs : vs.length = N := by rw [pvs.length, List.length_range]
    refine ⟨_, rfl, a, _, rfl, SqL.of ha, fun D hD => ?_⟩
    refine lc_gen (walk_enum (xs := vs)) hD (sm_line (by omega)) (fun i => decide (i ≠ st)) (fun i v H'' => VB p D v H'' (rowX (N - 1) MA i)) (fun i v _ _ o h => h.off o) (fun H'' s'' => SqL.of (s'' _ _ ha)) ?_ ?_
    · rintro i x H1 H2 Q' S' hi s1 ⟨acc, hacc⟩ ⟨T, v1, v2, rfl, hT, rfl, hv1, hv2⟩ yes no
      cases hv1
      rw [lvs] at hi
      obtain ⟨j, ej, r, rfl, nr, ys, hy, py⟩ := paired_at pvs hv2
      rw [List.getElem?_range hi] at ej
      cases ej
      have sT := same_upd_new (o := .tup [.int (i : Int), .ref r]) hT
      refine ⟨T, _, rfl, SqT.of upd_same, rfl, _, _, rfl, _, _, rfl, rfl, rfl, _, rfl, _, rfl, rfl, _, rfl, ?_⟩
      refine ite_neI (fun h => ?_) fun h => ?_
      · have hne : i ≠ st := by omega
        refine ⟨_, rfl, _, rfl, _, rfl, r, ys, rfl, SqL.of (sT _ _ (s1 _ _ hy)), fun l hl => ?_⟩
        have sl := same_upd_new (o := .lst (cutV ys none (some (-1)))) hl
        have lys : ys.length = N := by rw [py.length, rowX_len]
        have ec : cutV ys none (some (-1)) = ys.take (N - 1) := by
          have e1 : HT.sIx ys.length ys.length (some (-1)) = N - 1 := by
            show (if (-1 : Int) < 0 then ((-1 : Int) + (ys.length : Int)).toNat else min (-1 : Int).toNat ys.length) = N - 1
            rw [if_pos (by decide), lys]
            omega
          show (ys.drop 0).take (HT.sIx ys.length ys.length (some (-1)) - 0) = _
          rw [e1, List.drop_zero, Nat.sub_zero]
        refine yes _ _ (decide_eq_true hne) (sT.trans sl) ⟨l, rfl, (ne_of_none (sT _ _ hacc) hl).symm, ys.take (N - 1), by rw [upd_same, ec], ?_⟩
        have et : rowX (N - 1) MA i = (rowX N MA i).take (N - 1) := by
          unfold rowX
          rw [← List.map_take, List.take_range]
          congr 2
          omega
        rw [et]
        exact paired_take _ (paired_imp (fun _ _ q => q.same (s1.trans (sT.trans sl))) py)
      · exact no _ (decide_eq_false (by omega)) sT
    · intro H1 zs s1 dz pz
      rw [lvs, filter_ne N (by omega) st hs] at pz
      have tab : Tab p H1 D (N - 1) (N - 1) (del st MA) := ⟨zs, dz, paired_unmap (sh st) pz⟩
      refine ⟨_, rfl, _, rfl, a, _, rfl, .inl (SqL.of (s1 _ _ ha)), _, _, rfl, rfl, _, _, rfl, rfl, _, _, rfl, rfl, (by show (0 : Int) < 2; decide), rfl, _, rfl, ?_⟩
      have fin : ∀ (H2 : Hp) (q : Addr) (z : Int), Same H1 H2 → YAtP p H2 q (K37.kap (red z) * Pl.C (K37.dn (N - 1) (del st MA))) → (K37.kap (red z) = Pl.C (K37.sg (N - 1 - st) : RX p)) → Q (.ref q) H2 := fun H2 q z s2 y e => by
        rw [e, ← Pl.C_mul] at y
        exact k _ q (s1.trans s2) y
      have dl : K37.dlt (K37.dn (N - 1) (del st MA)) 64 := (dn_dlt (del_dlt dA st) (N - 1)).mono (by omega)
      refine ite_eqI (fun h => ?_) fun h => ?_
      · rw [lvs] at h
        refine ⟨_, rfl, _, rfl, _, rfl, _, rfl, wr ⟨p, ne, D, N - 1, del st MA, rfl, hp, tab, by omega, del_dlt dA st, fun H2 q2 s2 y2 => ⟨_, rfl, ?_⟩⟩⟩
        refine scaled_y hp y2 (smC dl (by decide)) fun H3 q3 s3 n3 y3 => fin _ q3 (-1) (s2.trans s3) y3 ?_
        rw [kap_neg hp1, sg_par, if_pos (by omega), Pl.C_neg]
        rfl
      · rw [lvs] at h
        refine ⟨_, rfl, _, rfl, _, rfl, wr ⟨p, ne, D, N - 1, del st MA, rfl, hp, tab, by omega, del_dlt dA st, fun H2 q2 s2 y2 => ⟨_, rfl, ?_⟩⟩⟩
        refine scaled_y hp y2 (smC dl (by decide)) fun H3 q3 s3 n3 y3 => fin _ q3 1 (s2.trans s3) y3 ?_
        rw [kap_one hp1, sg_par, if_neg (by omega)]
        rfl
end
end L2.K37R
end W39
section W40
set_option autoImplicit false
set_option linter.all false
set_option maxRecDepth 100000
/-! resultant_of -/
namespace L2.K37R
open PySem PySem.Spec PyProof.Rows C8 PySem.W
open K37 (S2 Pl)
section
variable {p : Nat} [NeZero p]
theorem sm_dlt {f : Nat → RX p} {d : Nat} (h : ∀ i, K37.dlt (f i) d) : ∀ n, K37.dlt (K37.sm n f) d
  | 0 => K37.dlt.zero d
  | n + 1 => (sm_dlt h n).add (h n)
theorem sylA_dlt {m n : Nat} {f g : S2 (Fq p)} (hf : ∀ j, K37.dlt (f.co j) 3) (hg : ∀ j, K37.dlt (g.co j) 3) (i j : Nat) : K37.dlt (sylA m n f g i j) 3 := by
  have one : ∀ (k : Nat) (F : S2 (Fq p)), (∀ j, K37.dlt (F.co j) 3) → ∀ c, K37.dlt ((K37.mo 1 k * F).co c) 3 := fun k F h c => by
    rw [K37.co_mo_mul]
    split
    · exact K37.dlt.zero _
    · have e : (1 : RX p) * F.co (c - k) = F.co (c - k) := by grind
      rw [e]
      exact h _
  unfold sylA
  split
  · exact one _ _ hf _
  · exact one _ _ hg _
/-- the resultant -/
noncomputable def rsl (m n : Nat) (f g : S2 (Fq p)) : RX p := K37.dn (m + n) (sylA m n f g)
end
section
variable {P : Program} {w : World} {K : PySem.W.Frag} {mg : Str → Option Value} {base : Heap}
/-- what is known of a value, told in between -/
def tViaE (t : TE) : TE := fun σ H Q => ∃ M : VK, t σ H M ∧ ∀ v H', M v H' → Q v H'
theorem pe_via {X : Cx} {e : Expr} {t : TE} (h : PE X e t) : PE X e (tViaE t) := ⟨fun pins s σ H Q I ⟨M, q1, q2⟩ => thn (h.run pins s σ H M I q1) fun u s' ⟨v, H', i, r, m⟩ => ⟨v, H', i, r, q2 _ _ m⟩⟩
/-- last item, by -1 -/
theorem atI_end {l : List V} {N : Nat} {v : V} (h1 : 1 ≤ N) (hl : l.length = N) (hv : l[N - 1]? = some v) : atI l (-1) = some v := by
  have nn : l ≠ [] := fun z => by
    rw [z] at hl
    have : (0 : Nat) = N := hl
    omega
  have hd := List.dropLast_concat_getLast nn
  have : l.getLast nn = v := by
    rw [List.getLast_eq_getElem]
    rw [hl.symm] at hv
    exact (List.getElem?_eq_some_iff.mp hv).2
  rw [this] at hd
  rw [← hd]
  exact atI_last _ _
abbrev sResOf : Stmt := top 63
abbrev nResOf : List Str := ["prime", "one", "other", "rows", "tall", "wide", "first", "second", "found", "spot", "worth", "power", "lifted", "pair"]
def spResOf : Sp := fun vs H Q _ => ∃ (p : Nat) (_ : NeZero p) (a b : Addr) (f g : S2 (Fq p)) (m n : Nat), vs = [.int p, .ref a, .ref b] ∧ Pr p ∧ YAtP p H a f ∧ YAtP p H b g ∧ K37.hi f = (m : Int) ∧ K37.hi g = (n : Int) ∧ 1 ≤ m ∧ m ≤ 3 ∧ n ≤ 2 ∧ Bd f 3 4 ∧ Bd g 3 4 ∧
  ∀ H' q a1 a2 a3 F1 F2, Same H H' → H' q = some (.tup [.ref a1, .ref a2, .ref a3]) → YAtP p H' a1 (Pl.C (rsl m n f g)) → YAtP p H' a2 F1 → YAtP p H' a3 F2 → Sm (Pl.C (rsl m n f g)) → Sm F1 → Sm F2 → Q (.ref q) H'
theorem scResOf : FnScope nResOf ["prime", "one", "other"] (defScope sResOf) := ⟨rfl, rfl, rfl, by decide +kernel, rfl, by decide +kernel, by decide +kernel⟩
set_option maxHeartbeats 4000000 in
theorem ok_resOf {f : Addr} {fd : FuncData} (F : FnP K "resultant_of" sResOf f fd) (B : Bare mg) (cH : Cal P w K mg base 1 "highest" (Wr spHighest) []) (cA1 : Cal P w K mg base 1 "added" (Wr spAdded) [.int 1]) (cP : Cal P w K mg base 1 "product" (Wr spProduct) []) (cY : Cal P w K mg base 2 "sylvester" (Wr spSyl) []) (cC : Cal P w K mg base 4 "cofactor" (Wr spCof) []) :
    FnOk P w K mg base CX0 5 f fd ["prime", "one", "other"] (Wr spResOf) := by
  refine FnOk.imp (sp := spResOf) ?_ fun _ _ _ _ h => un_wr h
  refine okP F scResOf (fun vs H Q E h => ?_) (fun cdv A outer s H vs Q E hr h => ?_)
  · obtain ⟨p, ne, a, b, f, g, m, n, rfl, _⟩ := h
    rfl
  · obtain ⟨p, ne, a, b, f, g, m, n, rfl, hp, ya, yb, hf, hg, m1, m3, n2, bf, bg, k⟩ := h
    have nd := scResOf.nd
    have hu := hu_of hr
    have hu1 := Nat.lt_of_succ_lt hu
    refine ⟨_, pss_cons (ps_par3 (i := 3) (j := 4) (l := 5) rfl nd rfl rfl rfl (by decide) (by decide) (by decide) rfl rfl rfl (pa_cons (pe_c cY hr (by decide) (by rfl) (pa_cons (pv 1) (pa_cons (pv 2) pa_nil))) (pa_cons (pe_c cH hr (by decide) (by rfl) (pa_cons (pv 1) (pa_cons pe_int pa_nil))) (pa_cons (pe_c cH hr (by decide) (by rfl) (pa_cons (pv 2) (pa_cons pe_int pa_nil))) pa_nil))) (by rfl))
      (pss_cons (ps_par3 (i := 6) (j := 7) (l := 8) rfl nd rfl rfl rfl (by decide) (by decide) (by decide) rfl rfl rfl (pa_cons pe_dnewT (pa_cons pe_dnewT (pa_cons pe_dnewT pa_nil))) (by rfl))
      (pss_cons (ps_for PassesOwn.never rfl (pi_range1 (by rfl) B.range (pa_cons (pe_op op_add (pv 4) (pv 5)) pa_nil)) (pg_name (i := 9) nd rfl (.inl rfl))
        (pss_cons (ps_asg (pe_tup (pa_cons (pe_c cC hr (by decide) (by rfl) (pa_cons (pv 0) (pa_cons (pv 3) (pa_cons (pv 9) pa_nil)))) (pa_cons (pe_via (pe_ifExp (pt_cmpR op_lt (pv 9) (pv 5) (nomark _)) (pe_op op_sub (pe_op op_sub (pv 5) pe_int) (pv 9)) (pe_op op_sub (pe_op op_sub (pe_op op_add (pv 4) (pv 5)) pe_int) (pv 9)))) pa_nil)))
            (pg_tup rfl (pgs_cons (pg_name (i := 10) nd rfl (.inr rfl)) (pgs_cons (pg_name (i := 11) nd rfl (.inr rfl)) pgs_nil))))
        (pss_cons (ps_lock (ps_setDcT (i := 12) (own := [("pair", 13)]) (g := gName 13) (tt := tYes) hu1 rfl nd rfl rfl (swd_true rfl rfl rfl rfl) (pi_keys (pv 10)) (blkOk_by (N := nResOf) (sc := defScope sResOf) (by decide +kernel))
            (fun _ _ _ _ _ => pg_name (i := 13) nd rfl (Or.inl rfl)) (fun _ _ _ _ _ => pts_nil) (fun _ _ _ _ _ => pe_tup (pa_cons (pe_it (K := K) (pv 13) pe_int) (pa_cons (pv 11) pa_nil))) (fun _ _ _ _ _ => pe_dget hu (pv 10) (pv 13) (fun _ _ => rfl))))
        (pss_cons (ps_via (ps_if (pt_cmpR op_lt (pv 9) (pv 5) (nomark _)) (pss_one (ps_set (i := 6) nd rfl (.inl rfl) (pe_c cA1 hr (by decide) (by rfl) (pa_cons (pv 0) (pa_cons (pv 6) (pa_cons (pv 12) pa_nil))))))
            (pss_one (ps_set (i := 7) nd rfl (.inl rfl) (pe_c cA1 hr (by decide) (by rfl) (pa_cons (pv 0) (pa_cons (pv 7) (pa_cons (pv 12) pa_nil))))))))
        (pss_one (ps_set (i := 8) nd rfl (.inl rfl) (pe_c cA1 hr (by decide) (by rfl) (pa_cons (pv 0) (pa_cons (pv 8) (pa_cons (pe_c cP hr (by decide) (by rfl) (pa_cons (pv 0) (pa_cons (pv 10) (pa_cons (pe_il (K := K) (pe_il (K := K) (pv 3) (pv 9)) (pe_un un_neg pe_int)) pa_nil)))) pa_nil))))))))))
      (pss_one (ps_ret (pe_tup (pa_cons (pv 8) (pa_cons (pv 6) (pa_cons (pv 7) pa_nil)))))))), ?_⟩
    obtain ⟨hp1, hp7⟩ := pr17 hp
    have sf : Sm f := bf.mono (by decide) (by decide)
    have sg : Sm g := bg.mono (by decide) (by decide)
    have dA := sylA_dlt (m := m) (n := n) (f := f) (g := g) bf.co bg.co
    refine ⟨_, rfl, _, rfl, wr ⟨p, ne, a, b, f, g, m, n, rfl, ya, yb, hf, hg, m3, by omega, sf, sg, fun H1 R s1 tab1 => ?_⟩⟩
    refine ⟨_, rfl, ?_⟩
    refine highy_y (ya.same s1) sf fun H2 s2 => ⟨_, rfl, ?_⟩
    refine highy_y (yb.same (s1.trans s2)) sg fun H3 s3 => ?_
    rw [hf, hg]
    have s03 := s1.trans (s2.trans s3)
    have tab3 := tab1.same (s2.trans s3)
    refine ⟨_, _, _, rfl, ?_⟩
    intro q6 h6 q7 h7 q8 h8
    have t6 := same_upd_new (o := .dT []) h6
    have t7 := same_upd_new (o := .dT []) h7
    have t8 := same_upd_new (o := .dT []) h8
    have y6 : YAtP p (upd (upd (upd H3 q6 (.dT [])) q7 (.dT [])) q8 (.dT [])) q6 0 := .nil (t8 _ _ (t7 _ _ upd_same))
    have y7 : YAtP p (upd (upd (upd H3 q6 (.dT [])) q7 (.dT [])) q8 (.dT [])) q7 0 := .nil (t8 _ _ upd_same)
    have y8 : YAtP p (upd (upd (upd H3 q6 (.dT [])) q7 (.dT [])) q8 (.dT [])) q8 0 := .nil upd_same
    have s04 := s03.trans (t6.trans (t7.trans t8))
    have tab4 := tab3.same (t6.trans (t7.trans t8))
    generalize upd (upd (upd H3 q6 (.dT [])) q7 (.dT [])) q8 (.dT []) = H4 at y6 y7 y8 s04 tab4 ⊢
    refine ⟨_, _, _, rfl, ?_⟩
    refine ⟨_, rfl, _, rfl, _, _, rfl, rfl, ((m + n : Nat) : Int), rfl, by omega, by omega, ?_⟩
    rw [Int.toNat_natCast]
    generalize hN : m + n = N at tab4 dA
    have hN1 : 1 ≤ N := by omega
    have hN5 : N ≤ 5 := by omega
    generalize hMA : sylA m n f g = MA at tab4 dA
    refine for_it walk_range0 (fun j σ' H' => ∃ (x9 x10 x11 x12 : Option V) (q6 q7 q8 : Addr) (F1 F2 : S2 (Fq p)), σ' = [some (.int p), some (.ref a), some (.ref b), some (.ref R), some (.int (m : Int)), some (.int (n : Int)), some (.ref q6), some (.ref q7), some (.ref q8), x9, x10, x11, x12, none] ∧ Same H H' ∧ Same H4 H' ∧
        YAtP p H' q6 F1 ∧ YAtP p H' q7 F2 ∧ YAtP p H' q8 (Pl.C (K37.sm j fun s => cof N MA s * MA s (N - 1))) ∧ Bd F1 9 3 ∧ Bd F2 9 3)
      ⟨none, none, none, none, q6, q7, q8, 0, 0, rfl, s04, .refl _, y6, y7, y8, Bd.zero _ _, Bd.zero _ _⟩ (fun _ _ _ _ _ => True.intro) ?_ ?_
    · rintro j v σ' H5' H5 hj ⟨x9, x10, x11, x12, q6, q7, q8, F1, F2, rfl, s5, s45, y6, y7, y8, b1, b2⟩ ⟨rfl, rfl⟩
      have tab5 := tab4.same s45
      refine ⟨_, rfl, _, rfl, _, rfl, wr ⟨p, ne, R, N, j, MA, rfl, hp, tab5, hj, hN5, dA, fun H6 qw s6 yw => ?_⟩⟩
      have dw := cof_dlt dA hN5 j
      refine ⟨fun v H' => H' = H6 ∧ ∃ pw : Nat, pw ≤ 2 ∧ v = .int (pw : Int), ?_, ?_⟩
      · refine ⟨_, rfl, _, rfl, _, _, rfl, rfl, _, rfl, ?_⟩
        by_cases h : j < n
        · rw [decide_eq_true (by omega)]
          refine iteT ⟨_, rfl, _, _, rfl, rfl, _, rfl, _, _, rfl, rfl, rfl, n - 1 - j, by omega, ?_⟩
          show V.int ((n : Int) - 1 - (j : Int)) = V.int ((n - 1 - j : Nat) : Int)
          rw [show (n : Int) - 1 - (j : Int) = ((n - 1 - j : Nat) : Int) by omega]
        · rw [decide_eq_false (by omega)]
          refine iteF ⟨_, rfl, _, rfl, _, _, rfl, rfl, _, _, rfl, rfl, _, rfl, _, _, rfl, rfl, rfl, N - 1 - j, by omega, ?_⟩
          show V.int ((m : Int) + (n : Int) - 1 - (j : Int)) = V.int ((N - 1 - j : Nat) : Int)
          rw [show (m : Int) + (n : Int) - 1 - (j : Int) = ((N - 1 - j : Nat) : Int) by omega]
      rintro v H' ⟨rfl, pw, hpw, rfl⟩
      refine ⟨by show 2 ≤ sizeLine; decide, fun t ht => ?_⟩
      have st := same_upd_new (o := .tup [.ref qw, .int (pw : Int)]) ht
      refine ⟨t, _, rfl, SqT.of upd_same, rfl, _, _, rfl, _, _, rfl, rfl, ?_⟩
      have s57 := s6.trans st
      have yw7 := yw.same st
      generalize upd H' t (.tup [.ref qw, .int (pw : Int)]) = H7 at s57 yw7 ⊢
      obtain ⟨ts, hts, kts⟩ := id yw7
      have xo := x_only (H := H7) (a := qw) kts
      have ef : ts.map (fun t => (((t.1.1, pw), t.2) : Tm)) = ts.map (rsT pw) := List.map_congr_left fun t ht => by
        have := xo t ht
        show ((t.1.1, pw), t.2) = ((t.1.1, t.1.2 + pw), t.2)
        rw [this, Nat.zero_add]
      have hb := kts.raised pw
      have smw := smC dw (by decide)
      show tLockE _ _ _ (fun v H' => _)
      refine dcT_all (i := 13) (j := 10) (fun t => ((t.1.1, pw), t.2)) rfl hts (kts.line smw) (by rw [ef]; exact hb.nd) (fun t H2 b R' ht' ha ho hb' yes => ?_) (fun H8 q8' s8 n8 h8 => ?_)
      · refine ⟨_, rfl, b, _, _, _, rfl, rfl, SqT.of hb', at0, _, rfl, by show 2 ≤ sizeLine; decide, fun c hc => ?_⟩
        exact ⟨_, rfl, _, rfl, qw, _, rfl, dget_mem (rd_keep ha (same_upd_new hc)) (same_upd_new hc _ _ hb') kts.nd ht', yes _ c (same_upd_new hc) upd_same⟩
      rw [ef] at h8
      have y12 : YAtP p H8 q8' (K37.mo 1 pw * Pl.C (cof N MA j)) := ⟨_, h8, hb⟩
      have bl : Bd (K37.mo 1 pw * Pl.C (cof N MA j)) 9 3 := (bd_raise (bd_C dw) pw).mono (Nat.le_refl _) (by omega)
      have slm : Sm (K37.mo 1 pw * Pl.C (cof N MA j)) := bl.mono (by decide) (by decide)
      generalize K37.mo 1 pw * Pl.C (cof N MA j) = L at y12 bl slm
      have s58 := s57.trans s8
      have y6 := y6.same s58
      have y7 := y7.same s58
      have sF1 : Sm F1 := b1.mono (by decide) (by decide)
      have sF2 : Sm F2 := b2.mono (by decide) (by decide)
      refine ⟨fun σ' H' => ∃ (q6 q7 : Addr) (F1 F2 : S2 (Fq p)), σ' = [some (.int (p : Int)), some (.ref a), some (.ref b), some (.ref R), some (.int (m : Int)), some (.int (n : Int)), some (.ref q6), some (.ref q7), some (.ref q8), some (.int (j : Int)), some (.ref qw), some (.int (pw : Int)), some (.ref q8'), none] ∧ Same H8 H' ∧
        YAtP p H' q6 F1 ∧ YAtP p H' q7 F2 ∧ Bd F1 9 3 ∧ Bd F2 9 3, ?_, ?_⟩
      · refine ⟨_, rfl, _, rfl, _, _, rfl, rfl, _, rfl, ?_⟩
        by_cases h : j < n
        · rw [decide_eq_true (by omega)]
          refine iteT ⟨_, rfl, _, rfl, _, rfl, ?_⟩
          refine plus_y hp y6 y12 sF1 slm fun H9 q9 s9 n9 y9 => ?_
          exact ⟨q9, q7, _, F2, rfl, s9, y9, y7.same s9, b1.add bl, b2⟩
        · rw [decide_eq_false (by omega)]
          refine iteF ⟨_, rfl, _, rfl, _, rfl, ?_⟩
          refine plus_y hp y7 y12 sF2 slm fun H9 q9 s9 n9 y9 => ?_
          exact ⟨q6, q9, F1, _, rfl, s9, y6.same s9, y9, b1, b2.add bl⟩
      rintro σ' H9 ⟨q6, q7, F1, F2, rfl, s9, y6, y7, b1, b2⟩
      have s59 := s58.trans s9
      have tab9 := tab5.same s59
      obtain ⟨vs, hvs, pvs⟩ := id tab9
      obtain ⟨v, ev, r, rfl, nr, xs, hxs, pxs⟩ := paired_right pvs (List.getElem?_range hj)
      have lxs : xs.length = N := by rw [pxs.length, rowX_len]
      obtain ⟨v, ev2, c, rfl, yc⟩ := paired_right pxs (rowX_get MA j (show N - 1 < N by omega))
      refine ⟨_, rfl, _, rfl, _, rfl, _, rfl, _, rfl, _, rfl, R, vs, _, _, rfl, rfl, SqL.of hvs, atI_nat ev, _, rfl, r, xs, _, _, rfl, rfl, SqL.of hxs, atI_end hN1 lxs ev2, ?_⟩
      refine product_y hp (yw7.same (s8.trans s9)) yc (bd_C dw) (bd_C (dA _ _)) (by decide) fun H10 q10 s10 n10 y10 => ?_
      rw [← Pl.C_mul] at y10
      have dp : ∀ i, K37.dlt (cof N MA i * MA i (N - 1)) 11 := fun i => (cof_dlt dA hN5 i).mul (dA _ _)
      refine plus_y hp ((y8.same s59).same s10) y10 (smC (sm_dlt dp j) (by decide)) (smC (dp j) (by decide)) fun H11 q11 s11 n11 y11 => ?_
      rw [← Pl.C_add] at y11
      have s911 := s10.trans s11
      exact ⟨_, _, _, _, q6, q7, q11, F1, F2, rfl, s5.trans (s59.trans s911), s45.trans (s59.trans s911), y6.same s911, y7.same s911, y11, b1, b2⟩
    · rintro σ' H5 ⟨x9, x10, x11, x12, q6, q7, q8, F1, F2, rfl, s5, s45, y6, y7, y8, b1, b2⟩
      refine ⟨_, rfl, _, rfl, _, rfl, by show 3 ≤ sizeLine; decide, fun q hq => ?_⟩
      have sq := same_upd_new (o := .tup [.ref q8, .ref q6, .ref q7]) hq
      rw [dn_cof hN1 hN5, ← hMA, ← hN] at y8
      have dr : K37.dlt (rsl m n f g) 11 := (dn_dlt (by rw [hMA]; exact dA) (m + n)).mono (by omega)
      exact k _ q q8 q6 q7 F1 F2 (s5.trans sq) upd_same (y8.same sq) (y6.same sq) (y7.same sq) (smC dr (by decide)) (b1.mono (by decide) (by decide)) (b2.mono (by decide) (by decide))
end
end L2.K37R
end W40
section W41
set_option autoImplicit false
set_option linter.all false
set_option maxRecDepth 100000
/-! resultant -/
namespace L2.K37R
open PySem PySem.Spec PyProof.Rows C8 PySem.W
open K37 (S2 Pl)
def dtm (t : Tm) : PyData := .tuple [.int (t.1.1 : Int), .int (t.1.2 : Int), .int t.2]
def dpoly (ts : List Tm) : PyData := .tuple (ts.map dtm)
theorem dtm_lay (t : Tm) : PyData.canLay0 (dtm t) = true := by simp only [dtm, PyData.canLay0, PyData.canLayAll0, Bool.and_self]
theorem dall_lay : ∀ ts : List Tm, PyData.canLayAll0 (ts.map dtm) = true
  | [] => by simp only [List.map_nil, PyData.canLayAll0]
  | t :: ts => by
    rw [List.map_cons, PyData.canLayAll0, dtm_lay, dall_lay ts]
    rfl
theorem dtm_depth (t : Tm) : (dtm t).depth = 1 := by simp [dtm, PyData.depth, PyData.depthAll]
theorem dall_depth : ∀ ts : List Tm, PyData.depthAll (ts.map dtm) ≤ 2
  | [] => by simp [PyData.depthAll]
  | t :: ts => by
    have := dall_depth ts
    rw [List.map_cons, PyData.depthAll, dtm_depth]
    omega
theorem dpoly_shaped (ts : List Tm) : SeqAt.shaped (dpoly ts) = true := by
  unfold SeqAt.shaped dpoly
  have h1 : (PyData.tuple (ts.map dtm)).canLay0 = true := by
    rw [PyData.canLay0]
    exact dall_lay ts
  have h2 : (PyData.tuple (ts.map dtm)).depth ≤ 64 := by
    rw [PyData.depth]
    have := dall_depth ts
    omega
  rw [h1, decide_eq_true h2]
  rfl
theorem nil_shaped : SeqAt.shaped (.tuple []) = true := dpoly_shaped []
theorem dpoly_eqv (ts : List Tm) : PyData.eqv (dpoly ts) (.tuple []) = decide (ts = []) := by
  cases ts with
  | nil => simp [dpoly, PyData.eqv, PyData.eqvAll]
  | cons t ts => simp [dpoly, PyData.eqv, PyData.eqvAll]
theorem dp_term {K : PySem.W.Frag} {H : Hp} {r : Addr} {t : Tm} (h : TermAt H r t) : Dp K H (.ref r) (dtm t) := .tup (SqT.of h) (.cons (.int _) (.cons (.int _) (.cons (.int _) .nil)))
theorem dp_terms {K : PySem.W.Frag} {H : Hp} : ∀ {rs : List Addr} {ts : List Tm}, Paired (TermAt H) rs ts → DpAll K H (rs.map V.ref) (ts.map dtm)
  | _, _, .nil => .nil
  | _, _, .cons x t => .cons (dp_term x) (dp_terms t)
theorem dp_poly {K : PySem.W.Frag} {H : Hp} {a : Addr} {ts : List Tm} (h : PolyT H a ts) : Dp K H (.ref a) (dpoly ts) := let ⟨rs, e, k⟩ := h; .tup (SqT.of e) (dp_terms k)
theorem dp_nil {K : PySem.W.Frag} {H : Hp} {a : Addr} (h : H a = some (.tup [])) : Dp K H (.ref a) (.tuple []) := .tup (SqT.of h) .nil
section
variable {X : Cx}
theorem op_neDK {K : PySem.W.Frag} (hu : X.A.units + 64 < cLine) (hK : X.K = K := by rfl) : OpR X (compareOp .NotEq) (rNeD K) := by
  subst hK
  exact op_neD hu
end
section
variable {P : Program} {w : World} {K : PySem.W.Frag} {mg : Str → Option Value} {base : Heap}
abbrev sRes : Stmt := top 64
abbrev nRes : List Str := ["prime", "one", "other", "poly", "first", "second", "book"]
def spRes : Sp := fun vs H Q _ => ∃ (p : Nat) (_ : NeZero p) (a b : Addr) (f g : S2 (Fq p)) (m n : Nat), vs = [.int p, .ref a, .ref b] ∧ Pr p ∧ PolyB p H a f ∧ PolyB p H b g ∧ K37.hi f = (m : Int) ∧ K37.hi g = (n : Int) ∧ 1 ≤ m ∧ m ≤ 3 ∧ n ≤ 2 ∧ Bd f 3 4 ∧ Bd g 3 4 ∧
  ∀ H' q a1 a2 a3, Same H H' → H' q = some (.tup [.ref a1, .ref a2, .ref a3]) → PolyO p H' a1 (Pl.C (rsl m n f g)) → Q (.ref q) H'
theorem scRes : FnScope nRes ["prime", "one", "other"] (defScope sRes) := ⟨rfl, rfl, rfl, by decide +kernel, rfl, by decide +kernel, by decide +kernel⟩
set_option maxHeartbeats 1000000 in
theorem ok_res {f : Addr} {fd : FuncData} (F : FnP K "resultant" sRes f fd) (B : Bare mg) (cN : Cal P w K mg base 2 "need_prime" (Wr spNeedPrime) []) (cO : Cal P w K mg base 4 "need_poly" (Wr spNeedPoly) []) (cB : Cal P w K mg base 1 "book_of" (Wr spBookOf) []) (cH : Cal P w K mg base 1 "highest" (Wr spHighest) []) (cR : Cal P w K mg base 5 "resultant_of" (Wr spResOf) []) (cT : Cal P w K mg base 2 "told" (Wr spTold) []) :
    FnOk P w K mg base CX0 6 f fd ["prime", "one", "other"] (Wr spRes) := by
  refine FnOk.imp (sp := spRes) ?_ fun _ _ _ _ h => un_wr h
  refine okP F scRes (fun vs H Q E h => ?_) (fun cdv A outer s H vs Q E hr h => ?_)
  · obtain ⟨p, ne, a, b, f, g, m, n, rfl, _⟩ := h
    rfl
  · obtain ⟨p, ne, a, b, f, g, m, n, rfl, hp, ya, yb, hf, hg, m1, m3, n2, bf, bg, k⟩ := h
    have nd := scRes.nd
    have hu := hu_of hr
    refine ⟨_, pss_cons (ps_expr (pe_c cN hr (by decide) (by rfl) (pa_cons (pv 0) pa_nil)))
      (pss_cons (ps_for PassesOwn.never rfl (pi_list (pe_lst (pa_cons (pv 1) (pa_cons (pv 2) pa_nil)))) (pg_name (i := 3) nd rfl (.inl rfl))
        (pss_cons (ps_expr (pe_c cO hr (by decide) (by rfl) (pa_cons (pv 0) (pa_cons (pv 3) pa_nil))))
        (pss_one (ps_if (pt_cmpR (op_eqDK (K := K) hr.units) (pv 3) (pe_tup pa_nil) (nomark _)) pss_never pss_nil))))
      (pss_cons (ps_par (i := 4) (j := 5) rfl nd rfl rfl (by decide) rfl rfl (pa_cons (pe_c cB hr (by decide) (by rfl) (pa_cons (pv 1) pa_nil)) (pa_cons (pe_c cB hr (by decide) (by rfl) (pa_cons (pv 2) pa_nil)) pa_nil)) (by rfl))
      (pss_cons (ps_if (pt_cmpR op_eq (pe_op op_add (pe_c cH hr (by decide) (by rfl) (pa_cons (pv 4) (pa_cons pe_int pa_nil))) (pe_c cH hr (by decide) (by rfl) (pa_cons (pv 5) (pa_cons pe_int pa_nil)))) pe_int (nomark _)) pss_never pss_nil)
      (pss_one (ps_ret (pe_callTy call_tuple_of (by rfl) B.tuple (by decide +kernel) (pa_cons (pe_lc (own := [("book", 6)]) (g := gName 6) (tt := tYes) rfl nd (pi_tup (pe_c cR hr (by decide) (by rfl) (pa_cons (pv 0) (pa_cons (pv 4) (pa_cons (pv 5) pa_nil)))))
          (blkOk_by (N := nRes) (sc := defScope sRes) (by decide +kernel)) (fun _ _ _ _ _ => pg_name (i := 6) nd rfl (Or.inl rfl)) (fun _ _ _ _ _ => pts_nil) (fun _ _ _ _ _ => pe_c cT (hr : Room _ _) (by decide) (by rfl) (pa_cons (pv 6) pa_nil))) pa_nil))))))), ?_⟩
    have f0 : f ≠ 0 := fun z => by
      rw [z, K37.hi_zero] at hf
      omega
    have g0 : g ≠ 0 := fun z => by
      rw [z, K37.hi_zero] at hg
      omega
    have sf : Sm f := bf.mono (by decide) (by decide)
    have sg : Sm g := bg.mono (by decide) (by decide)
    refine ⟨_, rfl, wr ⟨p, rfl, hp, fun H1 s1 => ?_⟩⟩
    refine ⟨_, rfl, _, rfl, by show 2 ≤ sizeLine; decide, fun L hL => ?_⟩
    have s2 := same_upd_new (o := .lst [.ref a, .ref b]) hL
    have hL2 : upd H1 L (.lst [.ref a, .ref b]) L = some (.lst [.ref a, .ref b]) := upd_same
    have s02 := s1.trans s2
    generalize upd H1 L (.lst [.ref a, .ref b]) = H2 at hL2 s02 ⊢
    refine ⟨L, rfl, ⟨_, SqL.of hL2⟩, ?_⟩
    refine for_it (walk_list (xs := [.ref a, .ref b])) (fun j σ' H' => ∃ x3 : Option V, σ' = [some (.int (p : Int)), some (.ref a), some (.ref b), x3, none, none, none] ∧ Same H H' ∧ Same H2 H') ⟨none, rfl, s02, .refl _⟩ (fun _ _ _ _ ⟨_, _, _, w⟩ => SqL.of (w _ _ hL2)) ?_ ?_
    · rintro j x σ' H3' H3 hj ⟨x3, rfl, s3, s23⟩ ⟨rfl, hx⟩
      obtain ⟨c, Z, rfl, ⟨ts, pr, kts⟩, z0⟩ : ∃ (c : Addr) (Z : S2 (Fq p)), x = .ref c ∧ PolyB p H3 c Z ∧ Z ≠ 0 := by
        match j, hj, hx with
        | 0, _, hx =>
          cases hx
          exact ⟨a, f, rfl, ya.same s3, f0⟩
        | 1, _, hx =>
          cases hx
          exact ⟨b, g, rfl, yb.same s3, g0⟩
      refine ⟨_, rfl, _, rfl, wr ⟨p, c, ts, rfl, pr, fun H4 s4 => ?_⟩⟩
      refine ⟨_, rfl, by show 0 ≤ sizeLine; decide, fun t ht => ?_⟩
      have s5 := same_upd_new (o := .tup []) ht
      refine ⟨dpoly ts, .tuple [], dp_poly (pr.1.same (s4.trans s5)), dp_nil upd_same, dpoly_shaped ts, nil_shaped, _, rfl, ?_⟩
      rw [dpoly_eqv, decide_eq_false fun z => z0 (kts.eq_nil.mp z)]
      exact iteF ⟨_, rfl, s3.trans (s4.trans s5), s23.trans (s4.trans s5)⟩
    · rintro σ' H3 ⟨x3, rfl, s3, s23⟩
      refine ⟨_, rfl, ?_⟩
      refine book_y (ya.same s3) fun H4 q4 s4 n4 y4 => ⟨_, rfl, ?_⟩
      refine book_y (yb.same (s3.trans s4)) fun H5 q5 s5 n5 y5 => ⟨_, _, rfl, _, rfl, ?_⟩
      have y45 := y4.same s5
      refine highy_y y45 sf fun H6 s6 => ⟨_, rfl, ?_⟩
      refine highy_y (y5.same s6) sg fun H7 s7 => ?_
      rw [hf, hg]
      refine ⟨_, _, rfl, rfl, rfl, _, rfl, ?_⟩
      refine ite_eqI (fun z => ?_) fun _ => ?_
      · have z : (m : Int) + (n : Int) = 0 := z
        omega
      have s67 := s6.trans s7
      have s07 := s3.trans (s4.trans (s5.trans s67))
      refine ⟨_, rfl, _, rfl, _, rfl, wr ⟨p, ne, q4, q5, f, g, m, n, rfl, hp, y45.same s67, y5.same s67, hf, hg, m1, m3, n2, bf, bg, fun H8 q8 a1 a2 a3 F1 F2 s8 hq8 z1 z2 z3 w1 w2 w3 => ?_⟩⟩
      refine ⟨q8, rfl, ⟨_, SqT.of hq8⟩, fun D hD => ?_⟩
      refine lc_gen (walk_tup (xs := [.ref a1, .ref a2, .ref a3])) hD (by show 3 < sizeLine; decide) (fun _ => true) (fun i v H'' => ∃ a, v = .ref a ∧ ∃ ts rs, H'' a = some (.tup (List.map V.ref rs)) ∧ Paired (TermAt H'') rs ts ∧ Bk p ts ([Pl.C (rsl m n f g), F1, F2].getD i 0)) (fun i v H1 H2 o ⟨a, e, ts, rs, x1, x2, x3⟩ => ⟨a, e, ts, rs, o.tup x1, paired_imp (fun _ _ q => o.tup q) x2, x3⟩) (fun H'' s'' => SqT.of (s'' _ _ hq8)) ?_ ?_
      · rintro i x1 H9' H9 Q' S' hi s9 ⟨acc, hacc⟩ ⟨rfl, hx1⟩ yes no
        obtain ⟨c, rfl, yc, sc⟩ : ∃ c : Addr, x1 = .ref c ∧ YAtP p H9 c ([Pl.C (rsl m n f g), F1, F2].getD i 0) ∧ Sm ([Pl.C (rsl m n f g), F1, F2].getD i 0) := by
          match i, hi, hx1 with
          | 0, _, hx1 =>
            cases hx1
            exact ⟨a1, rfl, z1.same s9, w1⟩
          | 1, _, hx1 =>
            cases hx1
            exact ⟨a2, rfl, z2.same s9, w2⟩
          | 2, _, hx1 =>
            cases hx1
            exact ⟨a3, rfl, z3.same s9, w3⟩
        refine ⟨wipe_set _ 6 _, tyes ⟨_, rfl, ?_⟩⟩
        refine told_y yc sc fun H10 q10 s10 ⟨ts, ⟨rs, e1, e2⟩, e3⟩ => ?_
        exact yes _ _ rfl s10 ⟨q10, rfl, ts, rs, e1, e2, e3⟩
      · intro H9 zs s9 dz pz
        have pz : Paired (fun v i => ∃ a, v = V.ref a ∧ ∃ ts rs, H9 a = some (.tup (List.map V.ref rs)) ∧ Paired (TermAt H9) rs ts ∧ Bk p ts ([Pl.C (rsl m n f g), F1, F2].getD i 0)) zs [0, 1, 2] := pz
        cases pz with
        | cons x t =>
          cases t with
          | cons y t =>
            cases t with
            | cons z t =>
              cases t
              obtain ⟨u1, rfl, ts, rs, e1, e2, e3⟩ := x
              obtain ⟨u2, rfl, _⟩ := y
              obtain ⟨u3, rfl, _⟩ := z
              refine ⟨D, _, rfl, .inl ⟨SqL.of dz, fun q hq => ?_⟩⟩
              have sq := same_upd_new (o := .tup [.ref u1, .ref u2, .ref u3]) hq
              have P0 : PolyO p H9 u1 (Pl.C (rsl m n f g)) := ⟨ts, ⟨rs, e1, e2⟩, e3⟩
              exact k _ q u1 u2 u3 (s07.trans (s8.trans (s9.trans sq))) upd_same (P0.same sq)
end
end L2.K37R
end W41
section R10
set_option autoImplicit false
set_option linter.all false
set_option maxRecDepth 100000
/-! dict(xs) of a list of pairs whose keys are pairs of powers -/
namespace L2.K37R
open PySem PySem.Spec PyProof.Rows
theorem Paired_get' {α β : Type} {G : α → β → Prop} : ∀ {l : List α} {m : List β}, Paired G l m → ∀ b, b ∈ m → ∃ a, a ∈ l ∧ G a b
  | _, _, .cons r t, b, hb => by
    rcases List.mem_cons.mp hb with e | e
    · subst e
      exact ⟨_, List.mem_cons_self .., r⟩
    · obtain ⟨a, ha, g⟩ := Paired_get' t b e
      exact ⟨a, List.mem_cons_of_mem _ ha, g⟩
section
variable {X : Cx}
/-- an item: (key, number), the key a tuple -/
abbrev ItemAt (H : Hp) (r : Addr) (t : Tm) : Prop := ∃ q, H r = some (.tup [.ref q, .int t.2]) ∧ H q = some (.tup ((ky t.1).map kV))
theorem items_of {pins : List (Addr × Obj)} {σ : St} {H : Hp} {s : Shared} (I : Inv X pins σ H s) : ∀ {ps : List Addr} {ts : List Tm}, Paired (ItemAt H) ps ts →
    ∃ m : List (List Key × Addr × Value), KT H (ts.map enc) m ∧ m.length = ps.length ∧ (m.map (·.1)) = ts.map (fun t => ky t.1) ∧ ∀ (j : Nat) (x : List Key × Addr × Value), m[j]? = some x → ∃ r, ps[j]? = some r ∧ s.heap.IsTuple r #[.ref x.2.1, x.2.2]
  | _, _, .nil => ⟨[], .nil, rfl, rfl, fun j x e => by simp at e⟩
  | _, _, .cons (a := r) (b := t) ⟨q, h1, h2⟩ tl => by
    obtain ⟨m, k1, k2, k3, k4⟩ := items_of I tl
    obtain ⟨its, rv, ht, _⟩ := I.tuple (SqT.of h1)
    obtain ⟨u, y, ei, ru, ry⟩ := vals2 rv
    subst ei
    cases (show u = Value.ref q from ru)
    refine ⟨(ky t.1, q, y) :: m, .cons ⟨rfl, h2, ry⟩ k1, by rw [List.length_cons, List.length_cons, k2], by rw [List.map_cons, List.map_cons, k3], fun j x e => ?_⟩
    cases j with
    | zero =>
      have e' : (ky t.1, q, y) = x := Option.some.inj e
      subst e'
      exact ⟨r, rfl, ht⟩
    | succ j =>
      obtain ⟨b, e1, e2⟩ := k4 j x (by simpa using e)
      exact ⟨b, by simpa using e1, e2⟩
theorem refs_at' : ∀ {ps : List Addr} {us : List Value}, Vals (ps.map V.ref) us → us = ps.map Value.ref
  | [], us, r => by
    rw [List.map_nil] at r
    cases r
    rfl
  | p :: ps, us, r => by
    rw [List.map_cons] at r
    cases r with
    | cons h t =>
      cases h
      rw [List.map_cons, ← refs_at' t]
theorem call_dictPT {K : PySem.W.Frag} (hc : X.calm = true) (hu : X.A.units + 2 < cLine) (hK : X.K = K := by rfl) : CallR X (.type "dict") (fun xs H Q => ∃ (a : Addr) (ps : List Addr) (ts : List Tm), xs = [.ref a] ∧ SqL K H a (ps.map V.ref) ∧ Paired (ItemAt H) ps ts ∧ (ts.map (·.1)).Nodup ∧
    ∀ p, H p = none → Q (.ref p) (upd H p (.dT (ts.map enc)))) := by
  subst hK
  intro pins s σ H xs us Q I r q
  obtain ⟨a, ps, ts, rfl, hq, hp, hn, q⟩ := q
  obtain ⟨u, rfl, rx⟩ := vals1 r
  cases rx
  obtain ⟨its, rv, pl, hz⟩ := I.list hq
  have ei := refs_at' rv
  subst ei
  rw [List.length_map] at hz
  obtain ⟨m, k1, k2, k3, k4⟩ := items_of I hp
  obtain ⟨o, n, ho, hc', hd, hdat⟩ := pl
  have hlen : (ts.map enc).length ≤ sizeLine := by
    rw [k1.length, k2]
    exact hz
  have nod : (m.map (·.1)).Nodup := by
    rw [k3]
    have : (ts.map fun t => ky t.1) = (ts.map (·.1)).map ky := by
      rw [List.map_map]
      rfl
    rw [this]
    exact List.Pairwise.map ky (fun a b h z => h (ky_inj z)) hn
  let prs : List (Value × Value) := m.map fun x => (.ref x.2.1, x.2.2)
  have lp : prs.length = ps.length := by
    show (m.map _).length = _
    rw [List.length_map, k2]
  have hm : (s.heap.objs.size == sysModules) = false := beq_eq_false_iff_ne.mpr (Nat.ne_of_gt I.big)
  have new : H s.heap.objs.size = none := I.hok.fresh (Nat.le_refl _)
  refine call_dict_pairsH (knd := tupleKind (mixKind X.prog X.w)) (ps := m) (PairArg.list a (ps.map Value.ref).toArray (fun j => ps.getD j 0) prs) (I.ok.hd hc) hu ⟨⟨o, n, ho, hc', hd, hdat⟩, ?_, ?_⟩ ⟨?_, ?_⟩ ?_ (by rw [lp]; exact hz) fun h' tk d' keep => ?_
  · rw [List.size_toArray, List.length_map, lp]
  · intro j k v e
    have e : (m.map fun x => ((Value.ref x.2.1 : Value), x.2.2))[j]? = some (k, v) := e
    rw [List.getElem?_map] at e
    obtain ⟨x, ex, e2⟩ := Option.map_eq_some_iff.mp e
    obtain ⟨r, er, ir⟩ := k4 j x ex
    injection e2 with e3 e4
    subst e3
    subst e4
    have eg : ps.getD j 0 = r := by rw [List.getD, er]; rfl
    refine ⟨?_, ?_⟩
    · show (ps.map Value.ref).toArray[j]? = some (.ref (ps.getD j 0))
      rw [eg]
      simp [er]
    · show PySem.PairAt s.heap (ps.getD j 0) _ _
      rw [eg]
      exact .inl ir
  · rw [lp, k2]
  · intro i key v e
    have e : (m.map fun x => ((Value.ref x.2.1 : Value), x.2.2))[i]? = some (key, v) := e
    rw [List.getElem?_map] at e
    obtain ⟨x, ex, e2⟩ := Option.map_eq_some_iff.mp e
    injection e2 with e3 e4
    subst e3
    subst e4
    exact ⟨x.1, x.2.1, ex, rfl⟩
  · intro h' hk x hx
    obtain ⟨e, _, g⟩ := Paired_get' k1 x hx
    obtain ⟨g1, g2, g3⟩ := g
    rw [← g1]
    refine tupleKind_stays.stays (fun b oo vs nn eb _ => hk b oo (Nat.ne_of_lt (Heap.lt_size eb)) (by simp) eb) (key_of I.hok g2)
  · rw [PySem.storedAllH_nil_of_nodup m nod] at d'
    obtain ⟨ob, es, ep, e1, e2, e3, e4, _, e5⟩ := d'
    refine ⟨.ref s.heap.objs.size, upd H s.heap.objs.size (.dT (ts.map enc)), I.laid (t' := tk) (fun b u e => keep b u (by simp) e) (Nat.le_refl _) ⟨hlen, hm, m, k1.keeps fun c zs ec => ?_, ob, es, ep, e1, e2, e3, e4, e5⟩, rfl, q _ new⟩
    rw [upd_ne (ne_of_none ec new)]
    exact ec
end
end L2.K37R
end R10
section W42
set_option autoImplicit false
set_option linter.all false
set_option maxRecDepth 100000
/-! the law's drawing -/
namespace L2.K37R
open PySem PySem.Spec PyProof.Rows C8 PySem.W
open K37 (S2 Pl)
/-- the state of the drawing: its dict at S, the large numbers at L, the cells at C, t turns so far -/
def LS (H : Hp) (S L C : Addr) (t : Nat) : Prop := ∃ (left : Int) (ls cs : List Int), H S = some (.dK [(.inr "large", .ref L), (.inr "cells", .ref C), (.inr "left", .int left), (.inr "turn", .int (t : Int))]) ∧ H L = some (.lst (ls.map V.int)) ∧ H C = some (.lst (cs.map V.int)) ∧ L ≠ C ∧ ls.length ≤ 63 ∧ cs.length ≤ 63
/-- all but the state stays -/
def Fr (S L : Addr) (H H' : Hp) : Prop := ∀ c o, c ≠ S → c ≠ L → H c = some o → H' c = some o
theorem Fr.refl (S L : Addr) (H : Hp) : Fr S L H H := fun _ _ _ _ e => e
theorem Fr.trans {S L : Addr} {H H1 H2 : Hp} (a : Fr S L H H1) (b : Fr S L H1 H2) : Fr S L H H2 := fun c o h1 h2 e => b c o h1 h2 (a c o h1 h2 e)
theorem Fr.of {S L : Addr} {H H' : Hp} (s : Same H H') : Fr S L H H' := fun c o _ _ e => s c o e
theorem Fr.same {S L : Addr} {H H1 H2 : Hp} (a : Fr S L H H1) (s : Same H1 H2) : Fr S L H H2 := a.trans (.of s)
theorem sqL_same {K : PySem.W.Frag} {H H' : Hp} {a : Addr} {xs : List V} (s : Same H H') (h : SqL K H a xs) : SqL K H' a xs := h.imp (fun r => r.imp (fun e => s _ _ e) fun ⟨o, e⟩ => ⟨o, s _ _ e⟩) id
theorem LS.same {H H' : Hp} {S L C : Addr} {t : Nat} (s : Same H H') (h : LS H S L C t) : LS H' S L C t := let ⟨l, ls, cs, a, b, c, d⟩ := h; ⟨l, ls, cs, s _ _ a, s _ _ b, s _ _ c, d⟩
section
variable {P : Program} {w : World} {K : PySem.W.Frag} {mg : Str → Option Value} {base : Heap}
abbrev sBegun : Stmt := top 66
abbrev nBegun : List Str := ["_law_script", "_law_cells_here", "_law_large", "_law_cell"]
def spBegun (K : PySem.W.Frag) : Sp := fun vs H Q _ => ∃ (l : Addr) (ns : List Int), vs = [.ref l] ∧ SqL K H l (ns.map V.int) ∧ ns.length ≤ 63 ∧ ∀ H' S L C, Same H H' → LS H' S L C 0 → H S = none → H L = none → Q (.ref S) H'
theorem scBegun : FnScope nBegun ["_law_script"] (defScope sBegun) := ⟨rfl, rfl, rfl, by decide +kernel, rfl, by decide +kernel, by decide +kernel⟩
theorem ok_begun {f : Addr} {fd : FuncData} (F : FnP K "_law_begun" sBegun f fd) (B : Bare mg) : FnOk P w K mg base CX0 1 f fd ["_law_script"] (Wr (spBegun K)) := by
  refine FnOk.imp (sp := spBegun K) ?_ fun _ _ _ _ h => un_wr h
  refine okP F scBegun (fun vs H Q E h => ?_) (fun cdv A outer s H vs Q E hr h => ?_)
  · obtain ⟨l, ns, rfl, _⟩ := h
    rfl
  · obtain ⟨l, ns, rfl, hl, ln, k⟩ := h
    have nd := scBegun.nd
    refine ⟨_, pss_cons (ps_setLc (i := 1) (own := [("_law_cell", 3)]) (g := gName 3) (tt := tYes) rfl nd rfl rfl (sw_true rfl rfl rfl rfl) (pi_list (pv 0)) (blkOk_by (N := nBegun) (sc := defScope sBegun) (by decide +kernel))
        (fun _ _ _ _ _ => pg_name (i := 3) nd rfl (Or.inl rfl)) (fun _ _ _ _ _ => pts_nil) (fun _ _ _ _ _ => pe_callB call_abs (by rfl) B.abs (by decide +kernel) (pa_cons (pv 3) pa_nil)))
      (pss_cons (ps_setLc (i := 2) (own := [("_law_cell", 3)]) (g := gName 3) rfl nd rfl rfl (sw_true rfl rfl rfl rfl) (pi_list (pv 1)) (blkOk_by (N := nBegun) (sc := defScope sBegun) (by decide +kernel))
        (fun _ _ _ _ _ => pg_name (i := 3) nd rfl (Or.inl rfl)) (fun _ _ _ _ _ => pts_one (pt_cmpR op_ge (pv 3) (pe_op op_pow pe_int pe_int) (nomark _))) (fun _ _ _ _ _ => pe_op op_sub (pv 3) (pe_op op_pow pe_int pe_int)))
      (pss_one (ps_ret (pe_disp (pps_cons pe_str (pv 2) (pps_cons pe_str (pv 1) (pps_cons pe_str pe_int (pps_cons pe_str pe_int pps_nil)))) rfl rfl (by simp) (by simp))))), ?_⟩
    refine ⟨_, rfl, l, rfl, ⟨_, hl⟩, fun D hD => ?_⟩
    refine lc_gen (walk_list (xs := ns.map V.int)) hD (sm_line (by rw [List.length_map]; omega)) (fun _ => true) (fun i v _ => v = .int (if ns.getD i 0 < 0 then - ns.getD i 0 else ns.getD i 0)) (fun _ _ _ _ _ h => h) (fun H'' s'' => sqL_same s'' hl) ?_ ?_
    · rintro i x H1' H1 Q' S' hi s1 ⟨acc, hacc⟩ ⟨rfl, hx⟩ yes no
      rw [List.getElem?_map] at hx
      obtain ⟨z, ez, rfl⟩ := Option.map_eq_some_iff.mp hx
      refine ⟨wipe_set _ 3 _, tyes ⟨_, rfl, z, rfl, yes _ _ rfl (Same.refl _) ?_⟩⟩
      rw [List.getD, ez]
      rfl
    intro H1 zs s1 dz pz
    obtain ⟨cs, rfl, lcs⟩ : ∃ cs : List Int, zs = cs.map V.int ∧ cs.length = ns.length := by
      have e := paired_eq pz
      rw [filter_all, List.length_map] at e
      exact ⟨(List.range ns.length).map fun i => if ns.getD i 0 < 0 then - ns.getD i 0 else ns.getD i 0, by rw [e, List.map_map]; rfl, by rw [List.length_map, List.length_range]⟩
    have p18 : CPow 10 18 := ⟨by decide, by decide, by decide⟩
    refine ⟨_, rfl, D, rfl, ⟨_, SqL.of dz⟩, fun D2 hD2 => ?_⟩
    refine lc_gen (walk_list (xs := cs.map V.int)) hD2 (sm_line (by rw [List.length_map]; omega)) (fun i => decide ((10 : Int) ^ 18 ≤ cs.getD i 0)) (fun i v _ => ∃ z : Int, v = .int z) (fun _ _ _ _ _ h => h) (fun H'' s'' => SqL.of (s'' _ _ dz)) ?_ ?_
    · rintro i x H1' H2 Q' S' hi s2 ⟨acc, hacc⟩ ⟨rfl, hx⟩ yes no
      rw [List.getElem?_map] at hx
      obtain ⟨z, ez, rfl⟩ := Option.map_eq_some_iff.mp hx
      have eg : cs.getD i 0 = z := by rw [List.getD, ez]; rfl
      rw [eg] at yes no
      refine ⟨wipe_set _ 3 _, _, rfl, _, _, rfl, rfl, p18, _, _, rfl, rfl, _, rfl, ?_⟩
      by_cases h : (10 : Int) ^ 18 ≤ z
      · have h' : z ≥ (10 : Int) ^ (18 : Int).toNat := h
        rw [decide_eq_true h']
        exact iteT ⟨_, rfl, _, _, rfl, rfl, p18, _, _, rfl, rfl, yes _ _ (decide_eq_true h) (Same.refl _) ⟨_, rfl⟩⟩
      · have h' : ¬ z ≥ (10 : Int) ^ (18 : Int).toNat := h
        rw [decide_eq_false h']
        exact iteF (no _ (decide_eq_false h) (Same.refl _))
    intro H2 ys s2 dy py
    obtain ⟨ls, rfl⟩ : ∃ ls : List Int, ys = ls.map V.int := by
      have : ∀ {ys : List V} {m : List Nat}, Paired (fun v (_ : Nat) => ∃ z : Int, v = V.int z) ys m → ∃ ls : List Int, ys = ls.map V.int := by
        intro ys m h
        induction h with
        | nil => exact ⟨[], rfl⟩
        | cons x t ih =>
          obtain ⟨z, rfl⟩ := x
          obtain ⟨ls, rfl⟩ := ih
          exact ⟨z :: ls, rfl⟩
      exact this py
    have lls : ls.length ≤ 63 := by
      have := py.length
      have h2 := List.length_filter_le (fun i => decide ((10 : Int) ^ 18 ≤ cs.getD i 0)) (List.range (cs.map V.int).length)
      have e : (cs.map V.int).length = cs.length := List.length_map _
      rw [List.length_range, e] at h2
      rw [e, List.length_map] at this
      omega
    intro d hd
    have s3 := same_upd_new (o := .dK []) hd
    refine ⟨_, rfl, _, rfl, upd_same, [(.inr "large", .ref D2), (.inr "cells", .ref D), (.inr "left", .int 0), (.inr "turn", .int 0)], rfl, by show 4 ≤ 15; decide, ?_⟩
    have s4 : Same H2 (upd (upd H2 d (.dK [])) d (.dK (mergeK [] [(.inr "large", .ref D2), (.inr "cells", .ref D), (.inr "left", .int 0), (.inr "turn", .int 0)]))) := same_free s3 hd
    have nDD : D2 ≠ D := (ne_of_none dz hD2).symm
    exact k _ d D2 D (s1.trans (s2.trans s4)) ⟨0, ls, cs, upd_same, s4 _ _ dy, s4 _ _ (s2 _ _ dz), nDD, lls, by omega⟩ (YAtP.fresh (s1.trans s2) hd) (YAtP.fresh s1 hD2)
end
end L2.K37R
end W42
section W43
set_option autoImplicit false
set_option linter.all false
set_option maxRecDepth 100000
/-! _law_draw -/
namespace L2.K37R
open PySem PySem.Spec PyProof.Rows C8 PySem.W
open K37 (S2 Pl)
def stK (L C : Addr) (left t : Int) : List (Key × V) := [(.inr "large", .ref L), (.inr "cells", .ref C), (.inr "left", .int left), (.inr "turn", .int t)]
theorem st_large (L C : Addr) (l t : Int) : valV (stK L C l t) (.inr "large") = some (.ref L) := valV_pos rfl
theorem st_cells (L C : Addr) (l t : Int) : valV (stK L C l t) (.inr "cells") = some (.ref C) := by
  unfold stK
  rw [valV_neg (show ¬ ((.inr "large" : Key)) = .inr "cells" by decide +kernel)]
  exact valV_pos rfl
theorem st_left (L C : Addr) (l t : Int) : valV (stK L C l t) (.inr "left") = some (.int l) := by
  unfold stK
  rw [valV_neg (show ¬ ((.inr "large" : Key)) = .inr "left" by decide +kernel), valV_neg (show ¬ ((.inr "cells" : Key)) = .inr "left" by decide +kernel)]
  exact valV_pos rfl
theorem st_turn (L C : Addr) (l t : Int) : valV (stK L C l t) (.inr "turn") = some (.int t) := by
  unfold stK
  rw [valV_neg (show ¬ ((.inr "large" : Key)) = .inr "turn" by decide +kernel), valV_neg (show ¬ ((.inr "cells" : Key)) = .inr "turn" by decide +kernel), valV_neg (show ¬ ((.inr "left" : Key)) = .inr "turn" by decide +kernel)]
  exact valV_pos rfl
theorem kne1 : ¬ ((.inr "large" : Key)) = .inr "left" := by decide +kernel
theorem kne2 : ¬ ((.inr "cells" : Key)) = .inr "left" := by decide +kernel
theorem kne3 : ¬ ((.inr "turn" : Key)) = .inr "left" := by decide +kernel
theorem kne4 : ¬ ((.inr "large" : Key)) = .inr "turn" := by decide +kernel
theorem kne5 : ¬ ((.inr "cells" : Key)) = .inr "turn" := by decide +kernel
theorem kne6 : ¬ ((.inr "left" : Key)) = .inr "turn" := by decide +kernel
theorem put_left (L C : Addr) (l t x : Int) : putK (stK L C l t) (.inr "left") (.int x) = stK L C x t := by
  unfold putK stK
  rw [if_pos (by simp)]
  simp only [List.map_cons, List.map_nil]
  rw [if_neg kne1, if_neg kne2, if_pos True.intro, if_neg kne3]
theorem put_turn (L C : Addr) (l t x : Int) : putK (stK L C l t) (.inr "turn") (.int x) = stK L C l x := by
  unfold putK stK
  rw [if_pos (by simp)]
  simp only [List.map_cons, List.map_nil]
  rw [if_neg kne4, if_neg kne5, if_neg kne6, if_pos True.intro]
section
variable {P : Program} {w : World} {K : PySem.W.Frag} {mg : Str → Option Value} {base : Heap}
abbrev sDraw : Stmt := top 67
abbrev nDraw : List Str := ["_law_state", "_law_size_here", "_law_found", "_law_turn", "_law_cell", "_law_mixed_here"]
def spDraw : Sp := fun vs H Q _ => ∃ (S L C : Addr) (t k : Nat), vs = [.ref S, .int (k : Int)] ∧ LS H S L C t ∧ 1 ≤ k ∧ k ≤ 1000000 ∧ t ≤ 100000 ∧ ∀ H' (d t' : Nat), Fr S L H H' → LS H' S L C t' → t' ≤ t + 1 → d < k → Q (.int (d : Int)) H'
theorem scDraw : FnScope nDraw ["_law_state", "_law_size_here"] (defScope sDraw) := ⟨rfl, rfl, rfl, by decide +kernel, rfl, by decide +kernel, by decide +kernel⟩
set_option maxHeartbeats 1000000 in
theorem ok_draw {f : Addr} {fd : FuncData} (F : FnP K "_law_draw" sDraw f fd) (B : Bare mg) : FnOk P w K mg base CX0 1 f fd ["_law_state", "_law_size_here"] (Wr spDraw) := by
  refine FnOk.imp (sp := spDraw) ?_ fun _ _ _ _ h => un_wr h
  refine okP F scDraw (fun vs H Q E h => ?_) (fun cdv A outer s H vs Q E hr h => ?_)
  · obtain ⟨S, L, C, t, k, rfl, _⟩ := h
    rfl
  · obtain ⟨S, L, C, t, n, rfl, ⟨left, ls, cs, hS, hL, hC, hLC, l63, c63⟩, n1, n6, t5, k⟩ := h
    have nd := scDraw.nd
    have hu := hu_of hr
    refine ⟨_, pss_cons (ps_via (ps_while PassesOwn.never (PW.pt (pw_and (pt_cmpR op_eq (pe_dget hu (pv 0) pe_str (fun _ _ => rfl)) pe_int (nomark _)) (pw_and1 (pt_cmpR (op_neL (K := K) hr.units) (pe_dget hu (pv 0) pe_str (fun _ _ => rfl)) (pe_lst pa_nil) (nomark _)))))
        (pss_one (ps_dput hu (pv 0) pe_str (pe_bm PySem.F.plainAttrs_list PySem.F.slot_list_pop PySem.F.type_list_pop mt_popAt (pe_dget hu (pv 0) pe_str (fun _ _ => rfl)) (pa_cons pe_int pa_nil)) rfl))))
      (pss_cons (ps_if (pt_cmpR op_gt (pe_dget hu (pv 0) pe_str (fun _ _ => rfl)) pe_int (nomark _))
        (pss_cons (ps_set (i := 2) nd rfl (.inl rfl) (pe_op op_mod (pe_callTy call_int1 (by rfl) B.int (by decide +kernel) (pa_cons (pe_dget hu (pv 0) pe_str (fun _ _ => rfl)) pa_nil)) (pv 1)))
        (pss_cons (ps_dput hu (pv 0) pe_str (pe_op op_fdiv (pe_dget hu (pv 0) pe_str (fun _ _ => rfl)) (pv 1)) rfl) (pss_one (ps_ret (pv 2))))) pss_nil)
      (pss_cons (ps_set (i := 3) nd rfl (.inl rfl) (pe_op op_add (pe_dget hu (pv 0) pe_str (fun _ _ => rfl)) pe_int))
      (pss_cons (ps_dput hu (pv 0) pe_str (pv 3) rfl)
      (pss_cons (ps_set (i := 4) nd rfl (.inl rfl) (pe_via (pe_ifExp (pt_cmpR (op_neL (K := K) hr.units) (pe_dget hu (pv 0) pe_str (fun _ _ => rfl)) (pe_lst pa_nil) (nomark _))
          (pe_il (K := K) (pe_dget hu (pv 0) pe_str (fun _ _ => rfl)) (pe_op op_mod (pe_callTy call_int1 (by rfl) B.int (by decide +kernel) (pa_cons (pv 3) pa_nil)) (pe_callB call_len_seq (by rfl) B.len (by decide +kernel) (pa_cons (pe_dget hu (pv 0) pe_str (fun _ _ => rfl)) pa_nil)))) pe_int)))
      (pss_cons (ps_set (i := 5) nd rfl (.inl rfl) (pe_op op_mod (pe_callTy call_int1 (by rfl) B.int (by decide +kernel) (pa_cons (pe_op op_pow (pe_op op_add (pe_op op_add (pe_op op_mod (pe_callTy call_int1 (by rfl) B.int (by decide +kernel) (pa_cons (pv 4) pa_nil)) pe_int) (pe_op op_mul pe_int (pv 3))) pe_int) pe_int) pa_nil)) pe_int))
      (pss_one (ps_ret (pe_op op_mod (pe_callTy call_int1 (by rfl) B.int (by decide +kernel) (pa_cons (pe_op op_fdiv (pe_op op_mod (pe_callTy call_int1 (by rfl) B.int (by decide +kernel) (pa_cons (pe_op op_pow (pe_op op_add (pv 5) (pe_op op_mul pe_int (pv 3))) pe_int) pa_nil)) pe_int) pe_int) pa_nil)) (pv 1))))))))), ?_⟩
    have gl : ∀ {H' : Hp} {l t : Int}, H' S = some (.dK (stK L C l t)) → DGet H' S (.str "left") (some (.int l)) := fun {H' l t} e => by
      rw [← st_left L C l t]
      exact DGet.k (k := .inr "left") e
    have gL : ∀ {H' : Hp} {l t : Int}, H' S = some (.dK (stK L C l t)) → DGet H' S (.str "large") (some (.ref L)) := fun {H' l t} e => by
      rw [← st_large L C l t]
      exact DGet.k (k := .inr "large") e
    have gC : ∀ {H' : Hp} {l t : Int}, H' S = some (.dK (stK L C l t)) → DGet H' S (.str "cells") (some (.ref C)) := fun {H' l t} e => by
      rw [← st_cells L C l t]
      exact DGet.k (k := .inr "cells") e
    have gT : ∀ {H' : Hp} {l t : Int}, H' S = some (.dK (stK L C l t)) → DGet H' S (.str "turn") (some (.int t)) := fun {H' l t} e => by
      rw [← st_turn L C l t]
      exact DGet.k (k := .inr "turn") e
    refine ⟨fun σ' H' => ∃ (left : Int) (ls : List Int), σ' = [some (.ref S), some (.int (n : Int)), none, none, none, none] ∧ Fr S L H H' ∧ H' S = some (.dK (stK L C left t)) ∧ H' L = some (.lst (ls.map V.int)) ∧ H' C = some (.lst (cs.map V.int)) ∧ ls.length ≤ 63, ?_, ?_⟩
    · refine while_m (fun m σ' H' => ∃ (left : Int) (ls : List Int), σ' = [some (.ref S), some (.int (n : Int)), none, none, none, none] ∧ Fr S L H H' ∧ H' S = some (.dK (stK L C left t)) ∧ H' L = some (.lst (ls.map V.int)) ∧ H' C = some (.lst (cs.map V.int)) ∧ ls.length = m ∧ m ≤ 63) ls.length
        ⟨left, ls, rfl, Fr.refl _ _ _, hS, hL, hC, rfl, l63⟩ ?_
      rintro m σ' H1 ⟨left, ls, rfl, fr1, hS1, hL1, hC1, rfl, l63⟩
      have out : ∀ H2, Same H1 H2 → ∃ (left : Int) (ls : List Int), [some (V.ref S), some (.int (n : Int)), none, none, none, none] = [some (.ref S), some (.int (n : Int)), none, none, none, none] ∧ Fr S L H H2 ∧ H2 S = some (.dK (stK L C left t)) ∧ H2 L = some (.lst (ls.map V.int)) ∧ H2 C = some (.lst (cs.map V.int)) ∧ ls.length ≤ 63 :=
        fun H2 s2 => ⟨left, ls, rfl, fr1.same s2, s2 _ _ hS1, s2 _ _ hL1, s2 _ _ hC1, l63⟩
      refine ⟨_, rfl, S, _, rfl, gl hS1, rfl, _, rfl, ?_⟩
      refine ite_eqI (fun h0 => ?_) fun h0 => ?_
      · refine ⟨_, rfl, S, _, rfl, gL hS1, by show 0 ≤ sizeLine; decide, fun e he => ?_⟩
        have se := same_upd_new (o := .lst []) he
        refine ⟨L, e, _, rfl, rfl, SqL.of (se _ _ hL1), SqL.of upd_same, _, rfl, ?_⟩
        have o2 := out _ se
        have hS2 := se _ _ hS1
        have hL2 := se _ _ hL1
        have hC2 := se _ _ hC1
        have fr2 := fr1.same se
        generalize upd H1 e (.lst []) = H2 at o2 hS2 hL2 hC2 fr2 ⊢
        cases ls with
        | nil => exact iteF o2
        | cons y r =>
          refine iteT ⟨_, fun σ'' H'' q => q, ?_⟩
          refine ⟨_, rfl, S, _, rfl, gL hS2, .inl ⟨rfl, _, SqL.of hL2⟩, L, _, 0, 0, _, rfl, rfl, hL2, by decide, by decide, ?_, rfl, ?_⟩
          · show seqIndex? 0 ((y :: r).map V.int).length = some 0
            rw [seqIndex_of (by decide) (by rw [List.length_map, List.length_cons]; omega)]
            rfl
          have nS : S ≠ L := ne_of hS2 hL2 (fun z => nomatch z)
          have nC : C ≠ L := fun z => hLC z.symm
          have el : ((y :: r).map V.int).eraseIdx 0 = r.map V.int := rfl
          rw [el]
          have hS3 : upd H2 L (.lst (r.map V.int)) S = some (.dK (stK L C left t)) := by
            rw [upd_ne nS]
            exact hS2
          have hC3 : upd H2 L (.lst (r.map V.int)) C = some (.lst (cs.map V.int)) := by
            rw [upd_ne nC]
            exact hC2
          have hL3 : upd H2 L (.lst (r.map V.int)) L = some (.lst (r.map V.int)) := upd_same
          have fr3 : Fr S L H (upd H2 L (.lst (r.map V.int))) := fr2.trans fun c o _ h e => by
            rw [upd_ne h]
            exact e
          generalize upd H2 L (.lst (r.map V.int)) = H3 at hS3 hC3 hL3 fr3 ⊢
          refine ⟨_, rfl, S, _, rfl, .inl ⟨_, .inr "left", hS3, rfl, (by decide : 4 < sizeLine), rfl⟩, ?_⟩
          rw [put_left]
          have nCS : C ≠ S := ne_of hC3 hS3 (fun z => nomatch z)
          exact ⟨r.length, by rw [List.length_cons]; omega, y, r, rfl, fr3.trans fun c o h _ e => by rw [upd_ne h]; exact e, upd_same, by rw [upd_ne nS.symm]; exact hL3, by rw [upd_ne nCS]; exact hC3, rfl, by rw [List.length_cons] at l63; omega⟩
      · exact iteF (out _ (Same.refl _))
    rintro σ' H1 ⟨left, ls, rfl, fr1, hS1, hL1, hC1, l63⟩
    have np : (0 : Int) < (n : Int) := by omega
    refine ⟨_, rfl, S, _, rfl, gl hS1, _, _, rfl, rfl, _, rfl, ?_⟩
    have nLS : L ≠ S := ne_of hL1 hS1 (fun z => nomatch z)
    have nCS : C ≠ S := ne_of hC1 hS1 (fun z => nomatch z)
    have fin : ∀ (H2 : Hp) (l2 z : Int) (t2 : Nat), Fr S L H H2 → H2 S = some (.dK (stK L C l2 (t2 : Int))) → H2 L = some (.lst (ls.map V.int)) → H2 C = some (.lst (cs.map V.int)) → t2 ≤ t + 1 → Q (.int (z % (n : Int))) H2 := fun H2 l2 z t2 f2 a b c ht => by
      have h1 := Int.emod_nonneg z (show (n : Int) ≠ 0 by omega)
      have h2 := Int.emod_lt_of_pos z np
      have := k H2 (z % (n : Int)).toNat t2 f2 ⟨l2, ls, cs, a, b, c, hLC, l63, c63⟩ ht (by omega)
      rw [Int.toNat_of_nonneg h1] at this
      exact this
    by_cases hl : left > 0
    · rw [decide_eq_true hl]
      refine iteT ⟨_, rfl, S, _, rfl, gl hS1, .inl ⟨_, rfl, _, rfl, _, _, rfl, rfl, np, ?_⟩⟩
      refine ⟨_, rfl, S, _, rfl, gl hS1, _, rfl, _, _, rfl, rfl, ⟨np, by omega⟩, _, rfl, S, _, rfl, .inl ⟨_, .inr "left", hS1, rfl, (by decide : 4 < sizeLine), rfl⟩, ?_⟩
      rw [put_left]
      refine ⟨_, rfl, fin _ _ left t (fr1.trans fun c o h _ e => by rw [upd_ne h]; exact e) upd_same (by rw [upd_ne nLS]; exact hL1) (by rw [upd_ne nCS]; exact hC1) (by omega)⟩
    rw [decide_eq_false hl]
    refine iteF ?_
    refine ⟨_, rfl, S, _, rfl, gT hS1, _, _, rfl, rfl, ?_⟩
    refine ⟨_, rfl, _, rfl, S, _, rfl, .inl ⟨_, .inr "turn", hS1, rfl, (by decide : 4 < sizeLine), rfl⟩, ?_⟩
    rw [put_turn]
    have hS2 : upd H1 S (.dK (stK L C left ((t : Int) + 1))) S = some (.dK (stK L C left ((t + 1 : Nat) : Int))) := upd_same
    have hL2 : upd H1 S (.dK (stK L C left ((t : Int) + 1))) L = some (.lst (ls.map V.int)) := by
      rw [upd_ne nLS]
      exact hL1
    have hC2 : upd H1 S (.dK (stK L C left ((t : Int) + 1))) C = some (.lst (cs.map V.int)) := by
      rw [upd_ne nCS]
      exact hC1
    have fr2 : Fr S L H (upd H1 S (.dK (stK L C left ((t : Int) + 1)))) := fr1.trans fun c o h _ e => by
      rw [upd_ne h]
      exact e
    generalize upd H1 S (.dK (stK L C left ((t : Int) + 1))) = H2 at hS2 hL2 hC2 fr2 ⊢
    refine ⟨fun v H' => Same H2 H' ∧ ∃ z : Int, v = .int z, ?_, ?_⟩
    · refine ⟨_, rfl, S, _, rfl, gC hS2, by show 0 ≤ sizeLine; decide, fun e he => ?_⟩
      have se := same_upd_new (o := .lst []) he
      refine ⟨C, e, _, rfl, rfl, SqL.of (se _ _ hC2), SqL.of upd_same, _, rfl, ?_⟩
      have hS3 := se _ _ hS2
      have hC3 := se _ _ hC2
      generalize upd H2 e (.lst []) = H3 at se hS3 hC3 ⊢
      cases cs with
      | nil => exact iteF ⟨se, 0, rfl⟩
      | cons y r =>
        have lp : (0 : Int) < (((y :: r).map V.int).length : Int) := by
          rw [List.length_map, List.length_cons]
          omega
        have em : ((t : Int) + 1) % (((y :: r).map V.int).length : Int) = (((t + 1) % ((y :: r).map V.int).length : Nat) : Int) := by
          rw [Int.natCast_emod]
          rfl
        have jl : (t + 1) % ((y :: r).map V.int).length < ((y :: r).map V.int).length := Nat.mod_lt _ (by omega)
        obtain ⟨zz, hzz⟩ : ∃ zz : Int, atI ((y :: r).map V.int) (((t : Int) + 1) % (((y :: r).map V.int).length : Int)) = some (V.int zz) := by
          rw [em]
          have jl' : (t + 1) % ((y :: r).map V.int).length < (y :: r).length := by
            rw [List.length_map] at jl ⊢
            exact jl
          exact ⟨_, atI_nat (by rw [List.getElem?_map, List.getElem?_eq_getElem jl']; rfl)⟩
        exact iteT ⟨_, rfl, S, _, rfl, gC hS3, _, rfl, .inl ⟨_, rfl, _, rfl, S, _, rfl, gC hS3, C, _, rfl, .inl (SqL.of hC3), _, _, rfl, rfl, lp, C, _, _, _, rfl, rfl, SqL.of hC3, hzz, se, zz, rfl⟩⟩
    rintro v H3 ⟨s3, z, rfl⟩
    have hS3 := s3 _ _ hS2
    have hL3 := s3 _ _ hL2
    have hC3 := s3 _ _ hC2
    have fr3 := fr2.same s3
    have b1 := Int.emod_nonneg z (show (2147483563 : Int) ≠ 0 by decide)
    have b2 := Int.emod_lt_of_pos z (show (0 : Int) < 2147483563 by decide)
    refine ⟨_, rfl, .inl ⟨_, rfl, _, _, rfl, rfl, (by show (0 : Int) < 2147483563; decide), _, rfl, _, _, rfl, rfl, .inl ⟨by decide, by decide⟩, _, _, rfl, rfl, _, _, rfl, rfl, _, _, rfl, rfl, ⟨by decide, by decide, ?_⟩, .inl ⟨_, rfl, _, _, rfl, rfl, (by show (0 : Int) < 2147483629; decide), ?_⟩⟩⟩
    · omega
    generalize (z % 2147483563 + 40692 * ((t : Int) + 1) + 24681) ^ (3 : Int).toNat = X
    have b3 := Int.emod_nonneg X (show (2147483629 : Int) ≠ 0 by decide)
    have b4 := Int.emod_lt_of_pos X (show (0 : Int) < 2147483629 by decide)
    refine ⟨_, rfl, _, rfl, _, _, rfl, rfl, .inl ⟨by decide, by decide⟩, _, _, rfl, rfl, _, _, rfl, rfl, ⟨by decide, by decide, ?_⟩, .inl ⟨_, rfl, _, _, rfl, rfl, (by show (0 : Int) < 2147483579; decide), _, _, rfl, rfl, ⟨by decide, by decide⟩, .inl ⟨_, rfl, _, rfl, _, _, rfl, rfl, np, ?_⟩⟩⟩
    · omega
    exact fin _ left _ (t + 1) fr3 hS3 hL3 hC3 (Nat.le_refl _)
end
end L2.K37R
end W43
section W44
set_option autoImplicit false
set_option linter.all false
set_option maxRecDepth 100000
/-! _law_pick, _law_mixed, _law_prime, _law_high -/
namespace L2.K37R
open PySem PySem.Spec PyProof.Rows C8 PySem.W
open K37 (S2 Pl)
theorem LS.ups {H : Hp} {S L C : Addr} {t : Nat} {a : Addr} {o : HO} (h : LS H S L C t) (h1 : a ≠ S) (h2 : a ≠ L) (h3 : a ≠ C) : LS (upd H a o) S L C t := by
  obtain ⟨l, ls, cs, e1, e2, e3, d⟩ := h
  exact ⟨l, ls, cs, by rw [upd_ne h1.symm]; exact e1, by rw [upd_ne h2.symm]; exact e2, by rw [upd_ne h3.symm]; exact e3, d⟩
theorem LS.fresh {H : Hp} {S L C : Addr} {t : Nat} {a : Addr} (h : LS H S L C t) (n : H a = none) : a ≠ S ∧ a ≠ L ∧ a ≠ C := by
  obtain ⟨l, ls, cs, e1, e2, e3, d⟩ := h
  exact ⟨(ne_of_none e1 n).symm, (ne_of_none e2 n).symm, (ne_of_none e3 n).symm⟩
theorem LS.nS {H : Hp} {S L C : Addr} {t : Nat} {a : Addr} {o : HO} (h : LS H S L C t) (e : H a = some o) (ho : ∀ ks : List (Key × V), o ≠ .dK ks) : a ≠ S := by
  obtain ⟨l, ls, cs, e1, _⟩ := h
  exact ne_of e e1 (ho _)
section
variable {P : Program} {w : World} {K : PySem.W.Frag} {mg : Str → Option Value} {base : Heap}
abbrev sPick : Stmt := top 68
def spPick : Sp := fun vs H Q _ => ∃ (S L C l : Addr) (t : Nat) (xs : List V), vs = [.ref S, .ref l] ∧ LS H S L C t ∧ H l = some (.lst xs) ∧ l ≠ L ∧ 1 ≤ xs.length ∧ xs.length ≤ 1000 ∧ t ≤ 100000 ∧ ∀ H' (d t' : Nat) x, Fr S L H H' → LS H' S L C t' → t' ≤ t + 1 → xs[d]? = some x → Q x H'
theorem scPick : FnScope ["_law_state", "_law_several"] ["_law_state", "_law_several"] (defScope sPick) := ⟨rfl, rfl, rfl, by decide +kernel, rfl, by decide +kernel, by decide +kernel⟩
theorem ok_pick {f : Addr} {fd : FuncData} (F : FnP K "_law_pick" sPick f fd) (B : Bare mg) (cD : Cal P w K mg base 1 "_law_draw" (Wr spDraw) []) : FnOk P w K mg base CX0 2 f fd ["_law_state", "_law_several"] (Wr spPick) := by
  refine FnOk.imp (sp := spPick) ?_ fun _ _ _ _ h => un_wr h
  refine okP F scPick (fun vs H Q E h => ?_) (fun cdv A outer s H vs Q E hr h => ?_)
  · obtain ⟨S, L, C, l, t, xs, rfl, _⟩ := h
    rfl
  · obtain ⟨S, L, C, l, t, xs, rfl, ls, hl, nl, n1, n2, t5, k⟩ := h
    have nd := scPick.nd
    refine ⟨_, pss_one (ps_ret (pe_il (K := K) (pv 1) (pe_c cD hr (by decide) (by rfl) (pa_cons (pv 0) (pa_cons (pe_callB call_len_seq (by rfl) B.len (by decide +kernel) (pa_cons (pv 1) pa_nil)) pa_nil))))), ?_⟩
    have nS : l ≠ S := ls.nS hl (fun _ z => nomatch z)
    refine ⟨_, rfl, _, rfl, _, rfl, l, _, rfl, .inl (SqL.of hl), wr ⟨S, L, C, t, xs.length, rfl, ls, n1, by omega, t5, fun H1 d t' f1 ls1 ht hd => ?_⟩⟩
    exact ⟨l, xs, _, _, rfl, rfl, SqL.of (f1 _ _ nS nl hl), atI_nat (List.getElem?_eq_getElem hd), k _ d t' _ f1 ls1 ht (List.getElem?_eq_getElem hd)⟩
abbrev sPrime : Stmt := top 70
def spPrime : Sp := fun vs H Q _ => ∃ (S L C : Addr) (t : Nat), vs = [.ref S] ∧ LS H S L C t ∧ t ≤ 100000 ∧ ∀ H' (p t' : Nat), Fr S L H H' → LS H' S L C t' → t' ≤ t + 1 → Pr p → Q (.int (p : Int)) H'
theorem scPrime : FnScope ["_law_state"] ["_law_state"] (defScope sPrime) := ⟨rfl, rfl, rfl, by decide +kernel, rfl, by decide +kernel, by decide +kernel⟩
theorem ok_prime {f : Addr} {fd : FuncData} (F : FnP K "_law_prime" sPrime f fd) (cP : Cal P w K mg base 2 "_law_pick" (Wr spPick) []) : FnOk P w K mg base CX0 3 f fd ["_law_state"] (Wr spPrime) := by
  refine FnOk.imp (sp := spPrime) ?_ fun _ _ _ _ h => un_wr h
  refine okP F scPrime (fun vs H Q E h => ?_) (fun cdv A outer s H vs Q E hr h => ?_)
  · obtain ⟨S, L, C, t, rfl, _⟩ := h
    rfl
  · obtain ⟨S, L, C, t, rfl, ls, t5, k⟩ := h
    have nd := scPrime.nd
    refine ⟨_, pss_one (ps_ret (pe_c cP hr (by decide) (by rfl) (pa_cons (pv 0) (pa_cons (pe_lst (pa_cons pe_int (pa_cons pe_int (pa_cons pe_int (pa_cons pe_int pa_nil))))) pa_nil)))), ?_⟩
    refine ⟨_, rfl, by show 4 ≤ sizeLine; decide, fun l hl => ?_⟩
    have sl := same_upd_new (o := .lst [.int 2, .int 3, .int 5, .int 7]) hl
    obtain ⟨n1, n2, n3⟩ := ls.fresh hl
    refine wr ⟨S, L, C, l, t, _, rfl, ls.same sl, upd_same, n2, by decide, by decide, t5, fun H1 d t' x f1 ls1 ht hd => ?_⟩
    have f2 : Fr S L H H1 := (Fr.of sl).trans f1
    match d, hd with
    | 0, hd =>
      cases hd
      exact k _ 2 t' f2 ls1 ht (.inl rfl)
    | 1, hd =>
      cases hd
      exact k _ 3 t' f2 ls1 ht (.inr (.inl rfl))
    | 2, hd =>
      cases hd
      exact k _ 5 t' f2 ls1 ht (.inr (.inr (.inl rfl)))
    | 3, hd =>
      cases hd
      exact k _ 7 t' f2 ls1 ht (.inr (.inr (.inr rfl)))
abbrev sMixed : Stmt := top 69
abbrev nMixed : List Str := ["_law_state", "_law_several", "_law_left", "_law_found"]
def spMixed : Sp := fun vs H Q _ => ∃ (S L C l : Addr) (t : Nat) (xs : List V), vs = [.ref S, .ref l] ∧ LS H S L C t ∧ H l = some (.lst xs) ∧ l ≠ L ∧ xs.length ≤ 1000 ∧ t + xs.length ≤ 100000 ∧ ∀ H' (t' : Nat) q ys, Fr S L H H' → LS H' S L C t' → t' ≤ t + xs.length → H' q = some (.lst ys) → ys.Perm xs → H q = none → Q (.ref q) H'
theorem scMixed : FnScope nMixed ["_law_state", "_law_several"] (defScope sMixed) := ⟨rfl, rfl, rfl, by decide +kernel, rfl, by decide +kernel, by decide +kernel⟩
theorem ok_mixed {f : Addr} {fd : FuncData} (F : FnP K "_law_mixed" sMixed f fd) (B : Bare mg) (cD : Cal P w K mg base 1 "_law_draw" (Wr spDraw) []) : FnOk P w K mg base CX0 2 f fd ["_law_state", "_law_several"] (Wr spMixed) := by
  refine FnOk.imp (sp := spMixed) ?_ fun _ _ _ _ h => un_wr h
  refine okP F scMixed (fun vs H Q E h => ?_) (fun cdv A outer s H vs Q E hr h => ?_)
  · obtain ⟨S, L, C, l, t, xs, rfl, _⟩ := h
    rfl
  · obtain ⟨S, L, C, l, t, xs, rfl, ls, hl, nl, n2, t5, k⟩ := h
    have nd := scMixed.nd
    refine ⟨_, pss_cons (ps_par (i := 2) (j := 3) rfl nd rfl rfl (by decide) rfl rfl (pa_cons (pe_listOf (K := K) (by rfl) B.list (pv 1)) (pa_cons (pe_lst pa_nil) pa_nil)) (by rfl))
      (pss_cons (ps_while PassesOwn.never (pt_cmpR (op_neL (K := K) hr.units) (pv 2) (pe_lst pa_nil) (nomark _))
        (pss_one (ps_expr (pe_bm PySem.F.plainAttrs_list PySem.F.slot_list_append PySem.F.type_list_append mt_append (pv 3) (pa_cons (pe_bm PySem.F.plainAttrs_list PySem.F.slot_list_pop PySem.F.type_list_pop mt_popAt (pv 2)
          (pa_cons (pe_c cD hr (by decide) (by rfl) (pa_cons (pv 0) (pa_cons (pe_callB call_len_seq (by rfl) B.len (by decide +kernel) (pa_cons (pv 2) pa_nil)) pa_nil))) pa_nil)) pa_nil)))))
      (pss_one (ps_ret (pv 3)))), ?_⟩
    refine ⟨_, rfl, l, xs, rfl, .inl (SqL.of hl), fun l1 h1 => ?_⟩
    have s1 := same_upd_new (o := .lst xs) h1
    have e1 : upd H l1 (.lst xs) l1 = some (.lst xs) := upd_same
    generalize upd H l1 (.lst xs) = H1 at s1 e1 ⊢
    refine ⟨by show 0 ≤ sizeLine; decide, fun l2 h2 => ?_⟩
    have s2 := same_upd_new (o := .lst []) h2
    have e2 : upd H1 l2 (.lst []) l2 = some (.lst []) := upd_same
    have e1' := s2 _ _ e1
    have n12 : l1 ≠ l2 := ne_of_none e1 h2
    have h2' : H l2 = none := YAtP.fresh s1 h2
    have s02 := s1.trans s2
    generalize upd H1 l2 (.lst []) = H2 at s02 e2 e1' ⊢
    obtain ⟨a1, a2, a3⟩ := ls.fresh h1
    obtain ⟨b1, b2, b3⟩ := ls.fresh h2'
    refine ⟨_, _, rfl, ?_⟩
    refine while_m (fun m σ' H' => ∃ (xs1 ys1 : List V) (t' : Nat), σ' = [some (.ref S), some (.ref l), some (.ref l1), some (.ref l2)] ∧ Fr S L H H' ∧ LS H' S L C t' ∧ H' l1 = some (.lst xs1) ∧ H' l2 = some (.lst ys1) ∧ (xs1 ++ ys1).Perm xs ∧ xs1.length = m ∧ t' + m ≤ t + xs.length) xs.length
      ⟨xs, [], t, rfl, .of s02, ls.same s02, e1', e2, by rw [List.append_nil], rfl, Nat.le_refl _⟩ ?_
    rintro m σ' H3 ⟨xs1, ys1, t', rfl, f3, ls3, e3, e4, pm, rfl, ht⟩
    have lpm := pm.length_eq
    rw [List.length_append] at lpm
    refine ⟨_, rfl, by show 0 ≤ sizeLine; decide, fun e he => ?_⟩
    have se := same_upd_new (o := .lst []) he
    refine ⟨l1, e, _, rfl, rfl, SqL.of (se _ _ e3), SqL.of upd_same, _, rfl, ?_⟩
    have f4 := f3.same se
    have ls4 := ls3.same se
    have e5 := se _ _ e3
    have e6 := se _ _ e4
    generalize upd H3 e (.lst []) = H4 at f4 ls4 e5 e6 ⊢
    by_cases hx : xs1 = []
    · subst hx
      exact iteF ⟨_, rfl, k _ t' l2 ys1 f4 ls4 (by simp at ht; omega) e6 pm h2'⟩
    · rw [bare_if (K := K) hx]
      refine iteT ⟨_, fun σ'' H'' q => q, ?_⟩
      have lp : 1 ≤ xs1.length := by
        cases xs1 with
        | nil => exact absurd rfl hx
        | cons _ _ => simp
      refine ⟨_, rfl, .inl ⟨rfl, _, SqL.of e6⟩, _, rfl, .inl ⟨rfl, _, SqL.of e5⟩, _, rfl, _, rfl, l1, _, rfl, .inl (SqL.of e5), wr ⟨S, L, C, t', xs1.length, rfl, ls4, lp, by omega, by omega, fun H5 d t2 f5 ls5 ht2 hd => ?_⟩⟩
      have e7 := f5 _ _ a1 a2 e5
      have e8 := f5 _ _ b1 b2 e6
      have f45 := f4.trans f5
      refine ⟨l1, xs1, _, d, xs1[d], rfl, rfl, e7, by omega, by omega, ?_, List.getElem?_eq_getElem hd, ?_⟩
      · rw [seqIndex_of (by omega) (by omega), Int.toNat_natCast]
      have fr1 : Fr S L H (upd H5 l1 (.lst (xs1.eraseIdx d))) := fun c o q1 q2 e => by
        rw [upd_ne (ne_of_none e h1)]
        exact f45 c o q1 q2 e
      have ls6 := ls5.ups (a := l1) (o := .lst (xs1.eraseIdx d)) a1 a2 a3
      have e9 : upd H5 l1 (.lst (xs1.eraseIdx d)) l2 = some (.lst ys1) := by
        rw [upd_ne n12.symm]
        exact e8
      have e10 : upd H5 l1 (.lst (xs1.eraseIdx d)) l1 = some (.lst (xs1.eraseIdx d)) := upd_same
      generalize upd H5 l1 (.lst (xs1.eraseIdx d)) = H6 at fr1 ls6 e9 e10 ⊢
      refine ⟨l2, ys1, _, rfl, rfl, e9, sm_line (by omega), ?_⟩
      have le := len_erase xs1 d
      have pe := erase_perm d (List.getElem?_eq_getElem hd)
      have lpe := pe.length_eq
      rw [List.length_cons] at lpe
      refine ⟨(xs1.eraseIdx d).length, by omega, xs1.eraseIdx d, ys1 ++ [xs1[d]], t2, rfl, fun c o q1 q2 e => ?_, ls6.ups b1 b2 b3, by rw [upd_ne n12]; exact e10, upd_same, ?_, rfl, by omega⟩
      · rw [upd_ne (ne_of_none e h2')]
        exact fr1 c o q1 q2 e
      · refine List.Perm.trans ?_ pm
        rw [← List.append_assoc]
        refine (List.perm_append_comm (l₁ := xs1.eraseIdx d ++ ys1) (l₂ := [xs1[d]])).trans ?_
        show (xs1[d] :: (xs1.eraseIdx d ++ ys1)).Perm (xs1 ++ ys1)
        rw [← List.cons_append]
        exact List.Perm.append_right ys1 pe.symm
abbrev sHigh : Stmt := top 75
abbrev nHigh : List Str := ["_law_poly_here", "_law_spot", "_law_term"]
def spHigh : Sp := fun vs H Q _ => ∃ (p : Nat) (_ : NeZero p) (a : Addr) (R : RX p), vs = [.ref a, .int 0] ∧ PolyO p H a (Pl.C R) ∧ K37.dlt R 64 ∧ ∀ H', Same H H' → Q (.int (K37.hi R)) H'
theorem scHigh : FnScope nHigh ["_law_poly_here", "_law_spot"] (defScope sHigh) := ⟨rfl, rfl, rfl, by decide +kernel, rfl, by decide +kernel, by decide +kernel⟩
theorem ok_lhigh {f : Addr} {fd : FuncData} (F : FnP K "_law_high" sHigh f fd) (B : Bare mg) : FnOk P w K mg base CX0 1 f fd ["_law_poly_here", "_law_spot"] (Wr spHigh) := by
  refine FnOk.imp (sp := spHigh) ?_ fun _ _ _ _ h => un_wr h
  refine okP F scHigh (fun vs H Q E h => ?_) (fun cdv A outer s H vs Q E hr h => ?_)
  · obtain ⟨p, ne, a, R, rfl, _⟩ := h
    rfl
  · obtain ⟨p, ne, a, R, rfl, ⟨ts, ⟨rs, ha, pr⟩, kt⟩, dR, k⟩ := h
    have nd := scHigh.nd
    refine ⟨_, pss_one (ps_ret (pe_callB (cr_max rfl) (by rfl) B.max (by decide +kernel) (pa_cons (pe_op op_cat (pe_lst (pa_cons (pe_un un_neg pe_int) pa_nil)) (pe_lc (own := [("_law_term", 2)]) (g := gName 2) (tt := tYes) rfl nd (pi_tup (pv 0)) (blkOk_by (N := nHigh) (sc := defScope sHigh) (by decide +kernel))
        (fun _ _ _ _ _ => pg_name (i := 2) nd rfl (Or.inl rfl)) (fun _ _ _ _ _ => pts_nil) (fun _ _ _ _ _ => pe_it (K := K) (pv 2) (pv 1)))) pa_nil))), ?_⟩
    have lts : ts.length ≤ 16384 := kt.len_sm (smC dR (by decide))
    have lrs := pr.length
    refine ⟨_, rfl, by show 1 ≤ sizeLine; decide, fun l1 h1 => ?_⟩
    have s1 := same_upd_new (o := .lst [.int (-1)]) h1
    have e1 : upd H l1 (.lst [.int (-1)]) l1 = some (.lst [.int (-1)]) := upd_same
    generalize upd H l1 (.lst [.int (-1)]) = H1 at s1 e1 ⊢
    refine ⟨_, rfl, a, rfl, ⟨_, SqT.of (s1 _ _ ha)⟩, fun D hD => ?_⟩
    refine lc_gen (walk_tup (xs := rs.map V.ref)) hD (sm_line (by rw [List.length_map]; omega)) (fun _ => true) (fun i v _ => v = .int ((ts.map fun t => (t.1.1 : Int)).getD i 0)) (fun _ _ _ _ _ h => h) (fun H'' s'' => SqT.of (s'' _ _ (s1 _ _ ha))) ?_ ?_
    · rintro i x H2' H2 Q' S' hi s2 ⟨acc, hacc⟩ ⟨rfl, hx⟩ yes no
      rw [List.getElem?_map] at hx
      obtain ⟨r, er, rfl⟩ := Option.map_eq_some_iff.mp hx
      obtain ⟨t, et, ht⟩ := paired_get pr er
      refine ⟨wipe_set _ 2 _, tyes ⟨_, rfl, _, rfl, r, _, _, _, rfl, rfl, SqT.of (s2 _ _ (s1 _ _ ht)), rfl, yes _ _ rfl (Same.refl _) ?_⟩⟩
      rw [List.getD, List.getElem?_map, et]
      rfl
    · intro H2 zs s2 dz pz
      have ez := paired_eq pz
      have el : (rs.map V.ref).length = (ts.map fun t => (t.1.1 : Int)).length := by rw [List.length_map, List.length_map, lrs]
      rw [filter_all, el] at ez
      rw [show (fun i => V.int ((ts.map fun t => (t.1.1 : Int)).getD i 0)) = (fun i => V.int ((ts.map fun t => (t.1.1 : Int)).getD i 0)) from rfl, map_getD V.int (ts.map fun t => (t.1.1 : Int)) 0] at ez
      refine ⟨l1, D, _, _, rfl, rfl, s2 _ _ e1, dz, ?_, fun q hq => ?_⟩
      · rw [ez, List.length_map, List.length_map]
        exact Nat.le_of_lt (sm_line (by show 1 + ts.length ≤ 100000; omega))
      refine ⟨q, -1 :: ts.map (fun t => (t.1.1 : Int)), rfl, SqL.of ?_, by simp, fun m hm hle => ?_⟩
      · rw [upd_same, ez]
        rfl
      · have ih : IsHi 0 ts m := by
          by_cases h0 : ts = []
          · subst h0
            rw [List.mem_singleton.mp hm]
            exact .inl ⟨rfl, rfl⟩
          · refine .inr ⟨?_, fun t ht => hle _ (List.mem_cons_of_mem _ (List.mem_map.mpr ⟨t, ht, rfl⟩))⟩
            rcases List.mem_cons.mp hm with e | e
            · cases ts with
              | nil => exact absurd rfl h0
              | cons t r =>
                have := hle (t.1.1 : Int) (by simp)
                omega
            · obtain ⟨t, ht, e⟩ := List.mem_map.mp e
              exact ⟨t, ht, e.symm⟩
        rw [hiX kt ih]
        exact k _ (s1.trans (s2.trans (same_upd_new hq)))
end
end L2.K37R
end W44
section W45
set_option autoImplicit false
set_option linter.all false
set_option maxRecDepth 100000
/-! _law_dict, _law_poly_of, _law_added, _law_plus -/
namespace L2.K37R
open PySem PySem.Spec PyProof.Rows C8 PySem.W
open K37 (S2 Pl)
theorem ItemAt.off {H H' : Hp} {D : Addr} {r : Addr} {t : Tm} (o : Off D H H') (h : ItemAt H r t) : ItemAt H' r t := let ⟨q, e1, e2⟩ := h; ⟨q, o.tup e1, o.tup e2⟩
theorem ItemAt.same {H H' : Hp} {r : Addr} {t : Tm} (s : Same H H') (h : ItemAt H r t) : ItemAt H' r t := let ⟨q, e1, e2⟩ := h; ⟨q, s _ _ e1, s _ _ e2⟩
def t0 : Tm := ((0, 0), 0)
/-- items told by their index are items -/
theorem items_idx {H : Hp} {rs : List Addr} {ts : List Tm} {n : Nat} (hn : n = ts.length) {keep : Nat → Bool} (h : Paired (fun r i => ItemAt H r (ts.getD i t0)) rs ((List.range n).filter keep)) : Paired (ItemAt H) rs (((List.range n).filter keep).map fun i => ts.getD i t0) := paired_mapr _ h
section
variable {X : Cx}
theorem op_catTK {K : PySem.W.Frag} (hK : X.K = K := by rfl) : OpR X (binaryOp .Add) (rCatT K) := by
  subst hK
  exact op_catT
theorem hu2_of {k : Nat} {A : Around} (hr : Room k A) : A.units + 2 < cLine := Nat.lt_of_le_of_lt (Nat.add_le_add_left (by decide : 2 ≤ 64) _) hr.units
end
/-- a comprehension over a book that makes items -/
theorem lc_items {i j : Nat} {a : Addr} {ts : List Tm} {σ : St} {H : Hp} {Q : VK} {tt : TT} {te : TE} (hj : σ[j]? = some (some (.ref a))) (hA : At H a ts) (hL : ts.length < sizeLine) (keep : Tm → Bool)
    (body : ∀ (t : Tm) (H2 : Hp) (b : Addr) (Q' : VK) (S : Hp → Prop), t ∈ ts → (∃ od, H2 a = some (.frz od (.dT (ts.map enc)))) → PairAt H2 b t.1 →
      (∀ r H5, keep t = true → Same H2 H5 → ItemAt H5 r t → Q' (.ref r) H5) → (∀ H5, keep t = false → Same H2 H5 → S H5) →
      tt ((wipe σ [i]).set i (some (.ref b))) H2 fun c H3 => if c = true then te ((wipe σ [i]).set i (some (.ref b))) H3 Q' else S H3)
    (fin : ∀ H' q rs, Same H H' → H q = none → H' q = some (.lst (rs.map V.ref)) → Paired (ItemAt H') rs (ts.filter keep) → Q (.ref q) H') :
    tLockE (tLc (iKeys (tVar j)) (gName i) tt te [i]) σ H Q := by
  refine ⟨a, _, hA, True.intro, fun od => ⟨.ref a, hj, a, od, rfl, .inr ⟨ts.map enc, upd_same, fun D hD => ?_⟩⟩⟩
  have hDa : D ≠ a := fun e => by
    rw [e, upd_same] at hD
    cases hD
  have hD0 : H D = none := by
    rw [upd_ne hDa] at hD
    exact hD
  have hz : upd H a (.frz od (.dT (ts.map enc))) a = some (.frz od (.dT (ts.map enc))) := upd_same
  have hk : ∀ c o, c ≠ a → H c = some o → upd H a (.frz od (.dT (ts.map enc))) c = some o := fun c o h e => by
    rw [upd_ne h]
    exact e
  generalize upd H a (.frz od (.dT (ts.map enc))) = Hz at hz hk hD ⊢
  refine lc_gen (walk_keysT (d := a) (o := od) (kvs := ts.map enc)) hD (by rw [List.length_map]; exact hL) (fun i => keep (ts.getD i t0)) (fun i v H'' => ∃ r, v = .ref r ∧ ItemAt H'' r (ts.getD i t0)) (fun i v _ _ o ⟨r, e, w⟩ => ⟨r, e, w.off o⟩) (fun H'' s'' => s'' _ _ hz) ?_ ?_
  · rintro n x H1 H2 Q' S' hi s1 ⟨acc, hacc⟩ ⟨rfl, k, v, b, hk', rfl, hb⟩ yes no
    obtain ⟨t, ht, rfl, rfl⟩ := get_enc hk'
    have eg : ts.getD n t0 = t := by rw [List.getD, ht]; rfl
    rw [eg] at yes no
    exact ⟨wipe_set σ i _, body t H2 b Q' S' (List.mem_of_getElem? ht) ⟨od, s1 _ _ hz⟩ hb (fun r H5 h1 h2 h3 => yes _ H5 h1 h2 ⟨r, rfl, h3⟩) no⟩
  · intro H1 zs s1 dz pz
    obtain ⟨rs, rfl, pr⟩ := refs_of pz
    have lk : (ts.map enc).length = ts.length := List.length_map _
    rw [lk] at pr
    have same : Same H (upd H1 a (.dT (ts.map enc))) := fun c o e => by
      by_cases hc : c = a
      · rw [hc] at e ⊢
        rw [upd_same, ← e, hA]
      · rw [upd_ne hc]
        exact s1 _ _ (hk c o hc e)
    refine ⟨s1 _ _ hz, fin _ D rs same hD0 (by rw [upd_ne hDa]; exact dz) ?_⟩
    have p2 := paired_mapr (fun i => ts.getD i t0) pr
    rw [filter_range ts t0 keep] at p2
    refine paired_imp (fun r t h => ?_) p2
    obtain ⟨q, e1, e2⟩ := h
    have ha := s1 _ _ hz
    exact ⟨q, by rw [upd_ne (ne_of e1 ha (fun z => nomatch z))]; exact e1, by rw [upd_ne (ne_of e2 ha (fun z => nomatch z))]; exact e2⟩
section
variable {P : Program} {w : World} {K : PySem.W.Frag} {mg : Str → Option Value} {base : Heap}
abbrev sLDict : Stmt := top 71
abbrev nLDict : List Str := ["_law_poly_here", "_law_term"]
def spLDict : Sp := fun vs H Q _ => ∃ (a : Addr) (ts : List Tm), vs = [.ref a] ∧ PolyT H a ts ∧ (ts.map (·.1)).Nodup ∧ ts.length ≤ 1000 ∧ ∀ H' q, Same H H' → H q = none → At H' q ts → Q (.ref q) H'
theorem scLDict : FnScope nLDict ["_law_poly_here"] (defScope sLDict) := ⟨rfl, rfl, rfl, by decide +kernel, rfl, by decide +kernel, by decide +kernel⟩
theorem ok_ldict {f : Addr} {fd : FuncData} (F : FnP K "_law_dict" sLDict f fd) (B : Bare mg) : FnOk P w K mg base CX0 1 f fd ["_law_poly_here"] (Wr spLDict) := by
  refine FnOk.imp (sp := spLDict) ?_ fun _ _ _ _ h => un_wr h
  refine okP F scLDict (fun vs H Q E h => ?_) (fun cdv A outer s H vs Q E hr h => ?_)
  · obtain ⟨a, ts, rfl, _⟩ := h
    rfl
  · obtain ⟨a, ts, rfl, ⟨rs, ha, pr⟩, nt, lt, k⟩ := h
    have nd := scLDict.nd
    refine ⟨_, pss_one (ps_ret (pe_callTy (call_dictPT (K := K) rfl (hu2_of hr)) (by rfl) B.dict (by decide +kernel) (pa_cons (pe_lc (own := [("_law_term", 1)]) (g := gName 1) (tt := tYes) rfl nd (pi_tup (pv 0)) (blkOk_by (N := nLDict) (sc := defScope sLDict) (by decide +kernel))
        (fun _ _ _ _ _ => pg_name (i := 1) nd rfl (Or.inl rfl)) (fun _ _ _ _ _ => pts_nil) (fun _ _ _ _ _ => pe_tup (pa_cons (pe_tup (pa_cons (pe_it (K := K) (pv 1) pe_int) (pa_cons (pe_it (K := K) (pv 1) pe_int) pa_nil))) (pa_cons (pe_it (K := K) (pv 1) pe_int) pa_nil)))) pa_nil))), ?_⟩
    have lrs := pr.length
    refine ⟨_, rfl, a, rfl, ⟨_, SqT.of ha⟩, fun D hD => ?_⟩
    refine lc_gen (walk_tup (xs := rs.map V.ref)) hD (sm_line (by rw [List.length_map]; omega)) (fun _ => true) (fun i v H'' => ∃ r, v = .ref r ∧ ItemAt H'' r (ts.getD i t0)) (fun i v _ _ o ⟨r, e, w⟩ => ⟨r, e, w.off o⟩) (fun H'' s'' => SqT.of (s'' _ _ ha)) ?_ ?_
    · rintro i x H1' H1 Q' S' hi s1 ⟨acc, hacc⟩ ⟨rfl, hx⟩ yes no
      rw [List.getElem?_map] at hx
      obtain ⟨r, er, rfl⟩ := Option.map_eq_some_iff.mp hx
      obtain ⟨t, et, ht⟩ := paired_get pr er
      have eg : ts.getD i t0 = t := by rw [List.getD, et]; rfl
      rw [eg] at yes
      have ht1 := s1 _ _ ht
      refine ⟨wipe_set _ 1 _, tyes ⟨_, rfl, r, _, _, _, rfl, rfl, SqT.of ht1, rfl, _, rfl, r, _, _, _, rfl, rfl, SqT.of ht1, rfl, by show 2 ≤ sizeLine; decide, fun q hq => ?_⟩⟩
      have sq := same_upd_new (o := .tup [.int (t.1.1 : Int), .int (t.1.2 : Int)]) hq
      refine ⟨_, rfl, r, _, _, _, rfl, rfl, SqT.of (sq _ _ ht1), rfl, by show 2 ≤ sizeLine; decide, fun c hc => ?_⟩
      have sc := same_upd_new (o := .tup [.ref q, .int t.2]) hc
      exact yes _ _ rfl (sq.trans sc) ⟨c, rfl, q, upd_same, sc _ _ upd_same⟩
    · intro H1 zs s1 dz pz
      obtain ⟨cs, rfl, pc⟩ := refs_of pz
      have e : (rs.map V.ref).length = ts.length := by rw [List.length_map, lrs]
      rw [filter_all, e] at pc
      have p2 := paired_mapr (fun i => ts.getD i t0) pc
      rw [range_getD] at p2
      exact ⟨D, cs, ts, rfl, SqL.of dz, p2, nt, fun q hq => k _ q (s1.trans (same_upd_new hq)) (YAtP.fresh s1 hq) upd_same⟩
end
end L2.K37R
end W45
section W46
set_option autoImplicit false
set_option linter.all false
set_option maxRecDepth 100000
/-! _law_poly_of, _law_added, _law_plus -/
namespace L2.K37R
open PySem PySem.Spec PyProof.Rows C8 PySem.W
open K37 (S2 Pl)
section
variable {p : Nat} [NeZero p]
theorem BkZ.clean {ws : List Tm} {F : S2 (Fq p)} (h : BkZ p ws F) (hr : ∀ t, t ∈ ws → 0 ≤ t.2 ∧ t.2 < (p : Int)) : Bk p (ws.filter fun t => decide (t.2 ≠ 0)) F := by
  have k := h.reduce
  have e : ws.filterMap (mdT p) = ws.filter fun t => decide (t.2 ≠ 0) := by
    rw [← List.filterMap_eq_filter]
    refine fm_congr fun t ht => ?_
    obtain ⟨h0, h1⟩ := hr t ht
    unfold mdT
    rw [Int.emod_eq_of_lt h0 h1]
    by_cases z : t.2 = 0
    · rw [if_neg (not_not_intro z)]
      simp [Option.guard, z]
    · rw [if_pos z]
      simp [Option.guard, z]
  rw [e] at k
  exact k
end
theorem sortT_sorted {ts : List Tm} (h : (ts.map (·.1)).Nodup) : SortedT (sortT ts) := by
  have s : (sortT ts).Pairwise fun a b => leT a b = true := List.pairwise_mergeSort (le := leT) (fun a b c h1 h2 => by
    unfold leT at *
    have h1 := of_decide_eq_true h1
    have h2 := of_decide_eq_true h2
    exact decide_eq_true (by omega)) (fun a b => by
    unfold leT
    by_cases h : ((a.1.1 : Int) < b.1.1 ∨ ((a.1.1 : Int) = b.1.1 ∧ (a.1.2 : Int) ≤ b.1.2))
    · rw [decide_eq_true h]
      rfl
    · rw [decide_eq_true (p := ((b.1.1 : Int) < a.1.1 ∨ ((b.1.1 : Int) = a.1.1 ∧ (b.1.2 : Int) ≤ a.1.2))) (by omega)]
      simp) ts
  have n : ((sortT ts).map (·.1)).Nodup := ((sortT_perm ts).map _).nodup_iff.mpr h
  have n2 : (sortT ts).Pairwise fun a b => a.1 ≠ b.1 := by
    have := n
    unfold List.Nodup at this
    rw [List.pairwise_map] at this
    exact this
  refine (s.and n2).imp fun {a b} ⟨h1, h2⟩ => ?_
  unfold leT at h1
  have h1 := of_decide_eq_true h1
  unfold ltK
  by_cases e : a.1.1 < b.1.1
  · exact .inl e
  · refine .inr ⟨by omega, ?_⟩
    apply Nat.lt_of_le_of_ne (by omega)
    exact fun z => h2 (Prod.ext (by omega) z)
section
variable {P : Program} {w : World} {K : PySem.W.Frag} {mg : Str → Option Value} {base : Heap}
abbrev sLPoly : Stmt := top 72
abbrev nLPoly : List Str := ["_law_told", "_law_pair"]
def spLPoly : Sp := fun vs H Q _ => ∃ (a : Addr) (ts : List Tm), vs = [.ref a] ∧ At H a ts ∧ (ts.map (·.1)).Nodup ∧ ts.length ≤ 1000 ∧ ∀ H' q, Same H H' → PolyT H' q (sortT ts) → Q (.ref q) H'
theorem scLPoly : FnScope nLPoly ["_law_told"] (defScope sLPoly) := ⟨rfl, rfl, rfl, by decide +kernel, rfl, by decide +kernel, by decide +kernel⟩
theorem ok_lpolyOf {f : Addr} {fd : FuncData} (F : FnP K "_law_poly_of" sLPoly f fd) (B : Bare mg) : FnOk P w K mg base CX0 1 f fd ["_law_told"] (Wr spLPoly) := by
  refine FnOk.imp (sp := spLPoly) ?_ fun _ _ _ _ h => un_wr h
  refine okP F scLPoly (fun vs H Q E h => ?_) (fun cdv A outer s H vs Q E hr h => ?_)
  · obtain ⟨a, ts, rfl, _⟩ := h
    rfl
  · obtain ⟨a, ts, rfl, hA, hN, hL, k⟩ := h
    have hu := hu_of hr
    have nd := scLPoly.nd
    refine ⟨_, pss_one (ps_ret (pe_callTy call_tuple_of (by rfl) B.tuple (by decide +kernel) (pa_cons
      (pe_lc (own := [("_law_pair", 1)]) (g := gName 1) (tt := tYes) rfl nd (pi_list (pe_callB (cr_sortedBook rfl (hu10 hr)) (by rfl) B.sorted (by decide +kernel) (pa_cons (pv 0) pa_nil))) (blkOk_by (N := nLPoly) (sc := defScope sLPoly) (by decide +kernel))
        (fun _ _ _ _ _ => pg_name (i := 1) nd rfl (Or.inl rfl)) (fun _ _ _ _ _ => pts_nil)
        (fun _ _ _ _ _ => pe_op (op_catTK (K := K)) (pv 1) (pe_tup (pa_cons (pe_dget hu (pv 0) (pv 1) (fun _ _ => rfl)) pa_nil)))) pa_nil))), ?_⟩
    refine ⟨_, rfl, a, ts, rfl, .inl hA, fun l rs hl pr => ⟨l, rfl, ⟨_, SqL.of upd_same⟩, fun D hD => ?_⟩⟩
    have sl : Same H (upd H l (.lst (rs.map V.ref))) := same_upd_new hl
    have len : rs.length = (sortT ts).length := Paired.length pr
    have lts := (sortT_perm ts).length_eq
    have hl1 : upd H l (.lst (rs.map V.ref)) l = some (.lst (rs.map V.ref)) := upd_same
    generalize upd H l (.lst (rs.map V.ref)) = H1 at sl hl1 hD pr ⊢
    refine lc_gen (walk_list (xs := rs.map V.ref)) hD (sm_line (by rw [List.length_map]; omega)) (fun _ => true) (fun i v H'' => ∃ r, v = .ref r ∧ TermAt H'' r ((sortT ts).getD i t0)) (fun i v _ _ o ⟨r, e, w⟩ => ⟨r, e, o.tup w⟩) (fun H'' s'' => SqL.of (s'' _ _ hl1)) ?_ ?_
    · rintro n x H1' H2 Q' S' hi s1 ⟨acc, hacc⟩ ⟨rfl, hx⟩ yes no
      rw [List.getElem?_map] at hx
      obtain ⟨r, hr', rfl⟩ := Option.map_eq_some_iff.mp hx
      obtain ⟨t, ht, hb⟩ := paired_at pr hr'
      have hmt : t ∈ ts := sortT_mem.mp (List.mem_of_getElem? ht)
      have eg : (sortT ts).getD n t0 = t := by rw [List.getD, ht]; rfl
      rw [eg] at yes
      have hb2 : PairAt H2 r t.1 := s1 _ _ (sl _ _ hb)
      have hA2 : At H2 a ts := s1 _ _ (sl _ _ hA)
      refine ⟨wipe_set _ 1 _, tyes ⟨_, rfl, _, rfl, _, rfl, a, _, rfl, dget_mem (.inl hA2) hb2 hN hmt, by show 1 ≤ sizeLine; decide, fun u hu' => ?_⟩⟩
      have su := same_upd_new (o := .tup [.int t.2]) hu'
      refine ⟨r, u, _, _, rfl, rfl, SqT.of (su _ _ hb2), SqT.of upd_same, (fun z => nomatch z), by show 3 ≤ sizeLine; decide, (fun z => nomatch z), fun _ c hc => ?_⟩
      exact yes _ _ rfl (su.trans (same_upd_new hc)) ⟨c, rfl, upd_same⟩
    · intro H2 zs s2 dz pz
      obtain ⟨cs, rfl, pc⟩ := refs_of pz
      have e : (rs.map V.ref).length = (sortT ts).length := by rw [List.length_map, len]
      rw [filter_all, e] at pc
      have p2 := paired_mapr (fun i => (sortT ts).getD i t0) pc
      rw [range_getD] at p2
      refine ⟨D, _, rfl, .inl ⟨SqL.of dz, fun q hq => ?_⟩⟩
      have sq := same_upd_new (o := .tup (cs.map V.ref)) hq
      exact k _ q (sl.trans (s2.trans sq)) ⟨cs, upd_same, paired_imp (fun _ _ h => sq _ _ h) p2⟩
abbrev sLAdd : Stmt := top 73
abbrev nLAdd : List Str := ["_law_prime_here", "_law_one", "_law_other", "_law_number", "_law_pair", "_law_found"]
def spLAdd : Sp := fun vs H Q _ => ∃ (p : Nat) (_ : NeZero p) (a b : Addr) (ts us : List Tm) (F G : S2 (Fq p)), vs = [.int p, .ref a, .ref b, .int 1] ∧ 1 < p ∧ p ≤ 7 ∧ At H a ts ∧ At H b us ∧ Bk p ts F ∧ Bk p us G ∧ ts.length ≤ 100 ∧ us.length ≤ 100 ∧
  ∀ H' q ws, Same H H' → H q = none → At H' q ws → Bk p ws (F + G) → ws.length ≤ 200 → Q (.ref q) H'
theorem scLAdd : FnScope nLAdd ["_law_prime_here", "_law_one", "_law_other", "_law_number"] (defScope sLAdd) := ⟨rfl, rfl, rfl, by decide +kernel, rfl, by decide +kernel, by decide +kernel⟩
set_option maxHeartbeats 1000000 in
theorem ok_ladd {f : Addr} {fd : FuncData} (F : FnP K "_law_added" sLAdd f fd) (B : Bare mg) : FnOk P w K mg base CX0 1 f fd ["_law_prime_here", "_law_one", "_law_other", "_law_number"] (Wr spLAdd) := by
  refine FnOk.imp (sp := spLAdd) ?_ fun _ _ _ _ h => un_wr h
  refine okP F scLAdd (fun vs H Q E h => ?_) (fun cdv A outer s H vs Q E hr h => ?_)
  · obtain ⟨p, ne, a, b, ts, us, F, G, rfl, _⟩ := h
    rfl
  · obtain ⟨p, ne, a, b, ts, us, F, G, rfl, hp1, hp7, hA, hB, kA, kB, lA, lB, k⟩ := h
    have hu := hu_of hr
    have nd := scLAdd.nd
    have hp0 : (0 : Int) < (p : Int) := by omega
    refine ⟨_, pss_cons (ps_set (i := 5) nd rfl (.inr rfl) (pe_callTy (call_dictPT (K := K) rfl (hu2_of hr)) (by rfl) B.dict (by decide +kernel) (pa_cons (pe_lock (pe_lc (own := [("_law_pair", 4)]) (g := gName 4) (tt := tYes) rfl nd (pi_keys (pv 1)) (blkOk_by (N := nLAdd) (sc := defScope sLAdd) (by decide +kernel))
        (fun _ _ _ _ _ => pg_name (i := 4) nd rfl (Or.inl rfl)) (fun _ _ _ _ _ => pts_nil) (fun _ _ _ _ _ => pe_tup (pa_cons (pv 4) (pa_cons (pe_dget hu (pv 1) (pv 4) (fun _ _ => rfl)) pa_nil))))) pa_nil)))
      (pss_cons (ps_lock (ps_for PassesOwn.never rfl (pi_keys (pv 2)) (pg_name (i := 4) nd rfl (.inl rfl))
        (pss_one (ps_dput hu (pv 5) (pv 4) (pe_op op_mod (pe_callTy call_int1 (by rfl) B.int (by decide +kernel) (pa_cons (pe_op op_add (pe_dget2 hu (pv 5) (pv 4) pe_int ⟨rfl, rfl, rfl, rfl⟩) (pe_op op_mul (pv 3) (pe_dget hu (pv 2) (pv 4) (fun _ _ => rfl)))) pa_nil)) (pv 0)) rfl))))
      (pss_one (ps_ret (pe_callTy (call_dictPT (K := K) rfl (hu2_of hr)) (by rfl) B.dict (by decide +kernel) (pa_cons (pe_lock (pe_lc (own := [("_law_pair", 4)]) (g := gName 4) rfl nd (pi_keys (pv 5)) (blkOk_by (N := nLAdd) (sc := defScope sLAdd) (by decide +kernel))
        (fun _ _ _ _ _ => pg_name (i := 4) nd rfl (Or.inl rfl)) (fun _ _ _ _ _ => pts_one (pt_cmpR op_ne (pe_dget hu (pv 5) (pv 4) (fun _ _ => rfl)) pe_int (nomark _))) (fun _ _ _ _ _ => pe_tup (pa_cons (pv 4) (pa_cons (pe_dget hu (pv 5) (pv 4) (fun _ _ => rfl)) pa_nil))))) pa_nil))))), ?_⟩
    refine lc_items (i := 4) (j := 1) rfl hA (sm_line (by omega)) (fun _ => true) (fun t H2 pb Q' S' ht hfz hpb yes no => ?_) (fun H1 D1 rs1 s1 n1 e1 p1 => ?_)
    · refine tyes ⟨_, rfl, _, rfl, _, rfl, a, _, rfl, dget_mem (rd_keep hfz (Same.refl _)) hpb kA.nd ht, by show 2 ≤ sizeLine; decide, fun c hc => ?_⟩
      have sc := same_upd_new (o := .tup [.ref pb, .int t.2]) hc
      exact yes c _ rfl sc ⟨pb, upd_same, sc _ _ hpb⟩
    rw [List.filter_eq_self.mpr fun _ _ => rfl] at p1
    refine ⟨D1, rs1, ts, rfl, SqL.of e1, p1, kA.nd, fun D hD => ?_⟩
    have s2 := same_upd_new (o := .dT (ts.map enc)) hD
    have hD2 : At (upd H1 D (.dT (ts.map enc))) D ts := upd_same
    have hB2 := s2 _ _ (s1 _ _ hB)
    have hBD : b ≠ D := ne_of_none (s1 _ _ hB) hD
    have s02 := s1.trans s2
    have nD : H D = none := YAtP.fresh s1 hD
    generalize upd H1 D (.dT (ts.map enc)) = H2 at hD2 hB2 s02 ⊢
    refine for_book (i := 4) (j := 2) (a := b) (ts := us) (fun m σ' H' => ∃ (x4 : Option V) (ws : List Tm), σ' = [some (.int p), some (.ref a), some (.ref b), some (.int 1), x4, some (.ref D)] ∧
      (∀ c o, c ≠ b → c ≠ D → H2 c = some o → H' c = some o) ∧ At H' D ws ∧ ws.length ≤ ts.length + m ∧ BkZ p ws (F + pol (us.take m)) ∧ (∀ t, t ∈ ws → 0 ≤ t.2 ∧ t.2 < (p : Int))) rfl hB2 ?_ ?_ ?_
    · intro od
      refine ⟨none, ts, rfl, fun c o h1 h2 e => by rw [upd_ne h1]; exact e, by show upd _ _ _ D = _; rw [upd_ne hBD.symm]; exact hD2, Nat.le_add_right _ _, ?_, fun t ht => ⟨Int.le_of_lt (kA.rg t ht).1, (kA.rg t ht).2⟩⟩
      rw [List.take_zero, pol_nil]
      have e : F + 0 = F := by grind
      rw [e]
      exact kA.toBkZ
    · rintro m t σ' H' pb ht ⟨od, hl⟩ ⟨x4, ws, rfl, ho, hD', hlen, kD, rD⟩ hpb D' nx
      have hm := List.mem_of_getElem? ht
      have hml := (List.getElem?_eq_some_iff.mp ht).1
      have rg := kB.rg t hm
      have hg := dget_book (q := t.1) (.inl hD') hpb
      refine ⟨_, rfl, D, rfl, .inr ⟨_, .inl hD'⟩, _, rfl, _, hg, ?_⟩
      have gd : ((lk ws t.1).map V.int).getD (.int 0) = .int ((lk ws t.1).getD 0) := by
        cases lk ws t.1 <;> rfl
      rw [gd]
      refine ⟨_, rfl, _, rfl, _, rfl, b, _, rfl, dget_mem (rd_keep ⟨od, hl⟩ (Same.refl _)) hpb kB.nd hm, _, _, rfl, rfl, .inl ⟨by decide, by decide⟩, _, _, rfl, rfl, .inl ⟨_, rfl, _, rfl, _, _, rfl, rfl, hp0, ?_⟩⟩
      refine ⟨_, rfl, _, rfl, D, _, rfl, .inr ⟨ws.map enc, ky t.1, pb, hD', rfl, hpb, by rw [List.length_map]; exact sm_line (by omega), rfl⟩, ?_⟩
      generalize ez : ((lk ws t.1).getD 0 + 1 * t.2) % (p : Int) = z
      have z0 : 0 ≤ z := by rw [← ez]; exact Int.emod_nonneg _ (by omega)
      have zp : z < p := by rw [← ez]; exact Int.emod_lt_of_pos _ hp0
      have rz : red (p := p) ((lk ws t.1).getD 0 + 1 * t.2) = red z := by rw [← ez, red_mod]
      refine nx _ _ (upd_ne hBD) ⟨_, putM ws t.1 z, rfl, fun c o h1 h2 ec => by rw [upd_ne h2]; exact ho c o h1 h2 ec, by show upd _ _ _ D = _; rw [upd_same, putK_enc, ez], ?_, kD.put t.1 z _ fun r => ?_, fun u hu' => ?_⟩
      · have := putM_length ws t.1 z
        omega
      · have hn : cf (F + pol (us.take m)) t.1 = red ((lk ws t.1).getD 0) := kD.co t.1
        rw [pol_take ht, cf_add, cf_add, cf_tm]
        by_cases e : r = t.1
        · rw [if_pos e, if_pos e, ← rz, red_add, red_mul, ← hn, cf_add, e, red_one hp1]
          grind
        · rw [if_neg e, if_neg e, cf_add]
          grind
      · rcases mem_putM hu' with h | h
        · exact rD u h
        · rw [h]
          exact ⟨z0, zp⟩
    · rintro σ' H' ⟨od, hl⟩ ⟨x4, ws, rfl, ho, hD', hlen, kD, rD⟩
      rw [List.take_length, pol_all kB] at kD
      have same : Same H2 (upd H' b (.dT (us.map enc))) ∨ True := .inr True.intro
      have s0e : Same H (upd H' b (.dT (us.map enc))) := fun c o e => by
        by_cases h1 : c = b
        · rw [h1] at e ⊢
          rw [upd_same, ← e, hB]
        · rw [upd_ne h1]
          exact ho c o h1 (ne_of_none e nD) (s02 _ _ e)
      have hD3 : At (upd H' b (.dT (us.map enc))) D ws := by
        show upd _ _ _ D = _
        rw [upd_ne hBD.symm]
        exact hD'
      generalize upd H' b (.dT (us.map enc)) = H3 at s0e hD3 ⊢
      refine lc_items (i := 4) (j := 5) rfl hD3 (sm_line (by omega)) (fun t => decide (t.2 ≠ 0)) (fun t H4 pb Q' S' ht hfz hpb yes no => ?_) (fun H4 D4 rs4 s4 n4 e4 p4 => ?_)
      · have g := dget_mem (rd_keep hfz (Same.refl _)) hpb kD.nd ht
        refine ⟨_, rfl, _, rfl, D, _, rfl, g, rfl, _, rfl, ?_⟩
        refine ite_neI (fun h => ?_) fun h => ?_
        · refine ⟨_, rfl, _, rfl, _, rfl, D, _, rfl, g, by show 2 ≤ sizeLine; decide, fun c hc => ?_⟩
          have sc := same_upd_new (o := .tup [.ref pb, .int t.2]) hc
          exact yes c _ (decide_eq_true h) sc ⟨pb, upd_same, sc _ _ hpb⟩
        · exact no _ (decide_eq_false (not_not_intro h)) (Same.refl _)
      · have kF := kD.clean rD
        refine ⟨D4, rs4, _, rfl, SqL.of e4, p4, kF.nd, fun q hq => ?_⟩
        refine k _ q _ (s0e.trans (s4.trans (same_upd_new hq))) (YAtP.fresh (s0e.trans s4) hq) upd_same kF ?_
        have := List.length_filter_le (fun t : Tm => decide (t.2 ≠ 0)) ws
        omega
abbrev sLPlus : Stmt := top 74
def spLPlus : Sp := fun vs H Q _ => ∃ (p : Nat) (_ : NeZero p) (a b : Addr) (ts us : List Tm) (F G : S2 (Fq p)), vs = [.int p, .ref a, .ref b] ∧ 1 < p ∧ p ≤ 7 ∧ PolyT H a ts ∧ PolyT H b us ∧ Bk p ts F ∧ Bk p us G ∧ ts.length ≤ 100 ∧ us.length ≤ 100 ∧ Bd (F + G) 1000 1000 ∧
  ∀ H' q, Same H H' → PolyB p H' q (F + G) → Q (.ref q) H'
theorem scLPlus : FnScope ["_law_prime_here", "_law_one", "_law_other"] ["_law_prime_here", "_law_one", "_law_other"] (defScope sLPlus) := ⟨rfl, rfl, rfl, by decide +kernel, rfl, by decide +kernel, by decide +kernel⟩
theorem ok_lplus {f : Addr} {fd : FuncData} (F : FnP K "_law_plus" sLPlus f fd) (cO : Cal P w K mg base 1 "_law_poly_of" (Wr spLPoly) []) (cA : Cal P w K mg base 1 "_law_added" (Wr spLAdd) []) (cD : Cal P w K mg base 1 "_law_dict" (Wr spLDict) []) : FnOk P w K mg base CX0 2 f fd ["_law_prime_here", "_law_one", "_law_other"] (Wr spLPlus) := by
  refine FnOk.imp (sp := spLPlus) ?_ fun _ _ _ _ h => un_wr h
  refine okP F scLPlus (fun vs H Q E h => ?_) (fun cdv A outer s H vs Q E hr h => ?_)
  · obtain ⟨p, ne, a, b, ts, us, F, G, rfl, _⟩ := h
    rfl
  · obtain ⟨p, ne, a, b, ts, us, F, G, rfl, hp1, hp7, hA, hB, kA, kB, lA, lB, bd, k⟩ := h
    have nd := scLPlus.nd
    refine ⟨_, pss_one (ps_ret (pe_c cO hr (by decide) (by rfl) (pa_cons (pe_c cA hr (by decide) (by rfl) (pa_cons (pv 0) (pa_cons (pe_c cD hr (by decide) (by rfl) (pa_cons (pv 1) pa_nil)) (pa_cons (pe_c cD hr (by decide) (by rfl) (pa_cons (pv 2) pa_nil)) (pa_cons pe_int pa_nil))))) pa_nil))), ?_⟩
    refine ⟨_, rfl, _, rfl, wr ⟨a, ts, rfl, hA, kA.nd, by omega, fun H1 q1 s1 n1 e1 => ?_⟩⟩
    refine ⟨_, rfl, wr ⟨b, us, rfl, hB.same s1, kB.nd, by omega, fun H2 q2 s2 n2 e2 => ?_⟩⟩
    refine wr ⟨p, ne, q1, q2, ts, us, F, G, rfl, hp1, hp7, s2 _ _ e1, e2, kA, kB, lA, lB, fun H3 q3 ws s3 n3 e3 kW lW => ?_⟩
    refine wr ⟨q3, ws, rfl, e3, kW.nd, by omega, fun H4 q4 s4 h4 => ?_⟩
    refine k _ q4 (s1.trans (s2.trans (s3.trans s4))) ⟨sortT ws, ⟨h4, fun t ht => ?_, sortT_sorted kW.nd, ?_⟩, kW.perm (sortT_perm ws)⟩
    · have hm := sortT_mem.mp ht
      obtain ⟨r1, r2⟩ := kW.rg t hm
      obtain ⟨b1, b2⟩ := bd t.1 (kW.mem hm).2
      exact ⟨r1, r2, by omega, by omega⟩
    · rw [(sortT_perm ws).length_eq]
      exact sm_line (by omega)
end
end L2.K37R
end W46
section W47
set_option autoImplicit false
set_option linter.all false
set_option maxRecDepth 100000
/-! comprehensions that draw; terms kept; sorted pairs -/
namespace L2.K37R
open PySem PySem.Spec PyProof.Rows C8 PySem.W
open K37 (S2 Pl)
theorem LS.tup {H H' : Hp} {S L C : Addr} {t : Nat} {c : Addr} {zs : List V} (h : LS H S L C t) (f : Fr S L H H') (e : H c = some (.tup zs)) : H' c = some (.tup zs) := by
  obtain ⟨l, ls, cs, e1, e2, e3, d⟩ := h
  exact f c _ (ne_of e e1 (fun z => nomatch z)) (ne_of e e2 (fun z => nomatch z)) e
/-- a comprehension whose items draw -/
theorem lc_ls {J : It} {n : Nat} {Gd : Hp → Prop} {Y : Nat → Hp → V → Hp → Prop} (wk : Walk J n Gd Y) {g : TG} {te : TE} {vs : List Nat} {σ : St} {H : Hp} {D : Addr} {Qd : Hp → Prop} {S L C : Addr} {t0 : Nat}
    (ls : LS H S L C t0) (hD : H D = none) (hn : n < sizeLine) (R : Nat → V → Hp → Prop) (hR : ∀ i v H1 H2, (∀ c zs, H1 c = some (.tup zs) → H2 c = some (.tup zs)) → R i v H1 → R i v H2) (hG : ∀ H', Fr S L H H' → Gd H')
    (body : ∀ i x H1 H2 (Q' : VK) (t1 : Nat), i < n → Fr S L H H1 → LS H1 S L C t1 → t1 ≤ t0 + i → Y i H1 x H2 → (∀ y H5 t5, Fr S L H1 H5 → LS H5 S L C t5 → t5 ≤ t1 + 1 → R i y H5 → Q' y H5) →
      g x (wipe σ vs) H2 fun σ2 H3 => wipe σ2 vs = wipe σ vs ∧ te σ2 H3 Q')
    (fin : ∀ H' xs t', Fr S L H H' → LS H' S L C t' → t' ≤ t0 + n → H' D = some (.lst xs) → Paired (fun v i => R i v H') xs (List.range n) → Qd H')
    (hg : ∀ x σ' H' (F G : St → Hp → Prop), g x σ' H' F → (∀ a b, F a b → G a b) → g x σ' H' G) :
    ∃ W : Nat → Nat → Hp → Prop, (∃ m, W 0 m (upd H D (.lst []))) ∧ ∀ i m H, W i m H →
      (J.stop i H ∧ Qd H) ∨ (J.go i H ∧ ∃ Nx : Hp → Prop, (∀ H', Nx H' → ∃ m', m' < m ∧ W (i + 1) m' H') ∧ ∀ x H', J.yld i H x H' → g x (wipe σ vs) H' fun σ2 H2 => wipe σ2 vs = wipe σ vs ∧ tYes σ2 H2 fun b H3 =>
        if b = true then te σ2 H3 fun y H4 => ∃ acc, H4 D = some (.lst acc) ∧ acc.length < sizeLine ∧ Nx (upd H4 D (.lst (acc ++ [y]))) else Nx H3) := by
  obtain ⟨d1, d2, d3⟩ := ls.fresh hD
  refine lc_it wk (fun i H' => ∃ xs t', Fr S L H H' ∧ LS H' S L C t' ∧ t' ≤ t0 + i ∧ H' D = some (.lst xs) ∧ Paired (fun v i => R i v H') xs (List.range i)) ⟨[], t0, .of (same_upd_new hD), ls.same (same_upd_new hD), Nat.le_refl _, upd_same, .nil⟩ (fun i H' _ ⟨_, _, s, _⟩ => hG H' s) ?_ ?_
  · rintro i x H1 H2 hi ⟨xs, t1, f1, ls1, ht1, e1, p1⟩ y1
    refine hg _ _ _ _ _ (body i x H1 H2 _ t1 hi f1 ls1 ht1 y1 fun y H5 t5 f5 ls5 ht5 r5 => ?_) (fun a b h => ⟨h.1, tyes h.2⟩)
    have e5 := f5 _ _ d1 d2 e1
    refine ⟨xs, e5, ?_, xs ++ [y], t5, fun c o h1 h2 e => ?_, ls5.ups d1 d2 d3, by omega, upd_same, ?_⟩
    · have := p1.length
      rw [List.length_range] at this
      omega
    · rw [upd_ne (ne_of_none e hD)]
      exact f5 c o h1 h2 (f1 c o h1 h2 e)
    · have up : ∀ c zs, H5 c = some (.tup zs) → upd H5 D (.lst (xs ++ [y])) c = some (.tup zs) := fun c zs e => by
        rw [upd_ne (ne_of e e5 (fun z => nomatch z))]
        exact e
      rw [List.range_succ]
      exact paired_snoc (paired_imp (fun v j h => hR _ _ _ _ up (hR _ _ _ _ (fun c zs e => ls1.tup f5 e) h)) p1) (hR _ _ _ _ up r5)
  · rintro H' ⟨xs, t', f', ls', ht, e', p'⟩
    exact fin H' xs t' f' ls' ht e' p'
theorem gname_mono {i : Nat} : ∀ x σ' H' (F G : St → Hp → Prop), gName i x σ' H' F → (∀ a b, F a b → G a b) → gName i x σ' H' G := fun x σ' H' F G h k => k _ _ h
/-- terms kept by a test -/
theorem lc_terms {J : It} {rs : List Addr} {ts : List Tm} {Gd : Hp → Prop} (wk : Walk J (rs.map V.ref).length Gd (YAt (rs.map V.ref))) {i : Nat} {tt : TT} {σ : St} {H : Hp} {D : Addr} {Qd : Hp → Prop} (hD : H D = none) (pr : Paired (TermAt H) rs ts) (hl : ts.length ≤ 1000) (keep : Tm → Bool) (hG : ∀ H', Same H H' → Gd H')
    (body : ∀ r t H2 (Q' : VK) (S' : Hp → Prop), TermAt H2 r t → (keep t = true → Q' (.ref r) H2) → (keep t = false → S' H2) → tt ((wipe σ [i]).set i (some (.ref r))) H2 fun c H3 => if c = true then tVar i ((wipe σ [i]).set i (some (.ref r))) H3 Q' else S' H3)
    (fin : ∀ H' zs, Same H H' → H' D = some (.lst (zs.map V.ref)) → Paired (TermAt H') zs (ts.filter keep) → Qd H') :
    ∃ W : Nat → Nat → Hp → Prop, (∃ m, W 0 m (upd H D (.lst []))) ∧ ∀ i' m H, W i' m H →
      (J.stop i' H ∧ Qd H) ∨ (J.go i' H ∧ ∃ Nx : Hp → Prop, (∀ H', Nx H' → ∃ m', m' < m ∧ W (i' + 1) m' H') ∧ ∀ x H', J.yld i' H x H' → gName i x (wipe σ [i]) H' fun σ2 H2 => wipe σ2 [i] = wipe σ [i] ∧ tt σ2 H2 fun b H3 =>
        if b = true then tVar i σ2 H3 fun y H4 => ∃ acc, H4 D = some (.lst acc) ∧ acc.length < sizeLine ∧ Nx (upd H4 D (.lst (acc ++ [y]))) else Nx H3) := by
  have lrs := pr.length
  refine lc_gen wk hD (sm_line (by rw [List.length_map]; omega)) (fun i => keep (ts.getD i t0)) (fun i v H'' => ∃ r, v = .ref r ∧ TermAt H'' r (ts.getD i t0)) (fun i v _ _ o ⟨r, e, w⟩ => ⟨r, e, o.tup w⟩) hG ?_ ?_
  · rintro n x H1' H1 Q' S' hi s1 ⟨acc, hacc⟩ ⟨rfl, hx⟩ yes no
    rw [List.getElem?_map] at hx
    obtain ⟨r, er, rfl⟩ := Option.map_eq_some_iff.mp hx
    obtain ⟨t, et, ht⟩ := paired_get pr er
    have eg : ts.getD n t0 = t := by rw [List.getD, et]; rfl
    rw [eg] at yes no
    exact ⟨wipe_set _ i _, body r t H1 Q' S' (s1 _ _ ht) (fun h => yes _ _ h (Same.refl _) ⟨r, rfl, s1 _ _ ht⟩) fun h => no _ h (Same.refl _)⟩
  · intro H1 zs s1 dz pz
    obtain ⟨cs, rfl, pc⟩ := refs_of pz
    have e : (rs.map V.ref).length = ts.length := by rw [List.length_map, lrs]
    rw [e] at pc
    have p2 := paired_mapr (fun i => ts.getD i t0) pc
    rw [filter_range ts t0 keep] at p2
    exact fin H1 cs s1 dz p2
def unref : V → Addr
  | .ref a => a
  | _ => 0
theorem perm_refs {ys : List V} {rs : List Addr} (h : ys.Perm (rs.map V.ref)) : ∃ rs2 : List Addr, ys = rs2.map V.ref ∧ rs2.Perm rs := by
  refine ⟨ys.map unref, ?_, ?_⟩
  · rw [List.map_map]
    have : ys.map (V.ref ∘ unref) = ys.map id := List.map_congr_left fun y hy => by
      obtain ⟨r, _, e⟩ := List.mem_map.mp (h.mem_iff.mp hy)
      rw [← e]
      rfl
    rw [this, List.map_id]
  · have := h.map unref
    rw [List.map_map] at this
    have e : rs.map (unref ∘ V.ref) = rs := by
      have : rs.map (unref ∘ V.ref) = rs.map id := List.map_congr_left fun _ _ => rfl
      rw [this, List.map_id]
    rw [e] at this
    exact this
/-- which pair stands at an address -/
def kfH (H : Hp) (r : Addr) : Nat × Nat := match H r with
  | some (.tup [.int i, .int j]) => (i.toNat, j.toNat)
  | _ => (0, 0)
theorem kf_pair {H : Hp} {r : Addr} {q : Nat × Nat} (h : PairAt H r q) : kfH H r = q := by
  have h : H r = some (.tup [.int (q.1 : Int), .int (q.2 : Int)]) := h
  unfold kfH
  rw [h]
  simp
/-- a list of pairs, told by their addresses -/
structure Menu (mx my : Nat) (H : Hp) (rs : List Addr) (kf : Addr → Nat × Nat) : Prop where
  at' : ∀ r, r ∈ rs → PairAt H r (kf r)
  nd : (rs.map kf).Nodup
  bd : ∀ r, r ∈ rs → (kf r).1 ≤ mx ∧ (kf r).2 ≤ my
theorem Menu.perm {mx my : Nat} {H : Hp} {rs rs2 : List Addr} {kf : Addr → Nat × Nat} (h : Menu mx my H rs kf) (p : rs2.Perm rs) : Menu mx my H rs2 kf :=
  ⟨fun r m => h.at' r (p.mem_iff.mp m), (p.map kf).nodup_iff.mpr h.nd, fun r m => h.bd r (p.mem_iff.mp m)⟩
theorem Menu.take {mx my : Nat} {H : Hp} {rs : List Addr} {kf : Addr → Nat × Nat} (h : Menu mx my H rs kf) (n : Nat) : Menu mx my H (rs.take n) kf :=
  ⟨fun r m => h.at' r (List.mem_of_mem_take m), h.nd.sublist ((List.take_sublist n rs).map kf), fun r m => h.bd r (List.mem_of_mem_take m)⟩
theorem Menu.tup {mx my : Nat} {H H' : Hp} {rs : List Addr} {kf : Addr → Nat × Nat} (h : Menu mx my H rs kf) (k : ∀ c zs, H c = some (.tup zs) → H' c = some (.tup zs)) : Menu mx my H' rs kf := ⟨fun r m => k _ _ (h.at' r m), h.nd, h.bd⟩
theorem Menu.sorted {mx my : Nat} {H : Hp} {rs rs2 : List Addr} {kf : Addr → Nat × Nat} (h : Menu mx my H rs kf) (p : rs2.Perm rs) (s : SrtO.Srtd (ltP fun v => (((kf (unref v)).1 : Int), ((kf (unref v)).2 : Int))) (rs2.map V.ref)) : (rs2.map kf).Pairwise ltK := by
  have h2 := (h.perm p).nd
  unfold List.Nodup at h2
  rw [List.pairwise_map] at h2 ⊢
  unfold SrtO.Srtd at s
  rw [List.pairwise_map] at s
  refine (s.and h2).imp fun {a b} ⟨h1, h3⟩ => ?_
  have h1 := SrtO.lexB_no.mp h1
  unfold ltK
  simp only [unref] at h1
  by_cases e : (kf a).1 < (kf b).1
  · exact .inl e
  · refine .inr ⟨by omega, ?_⟩
    apply Nat.lt_of_le_of_ne (by omega)
    exact fun z => h3 (Prod.ext (by omega) z)
/-- values drawn for keys -/
theorem drawn_terms {p : Nat} {H : Hp} {ks : List (Nat × Nat)} : ∀ {zs : List V} {m : List Nat}, Paired (fun v i => ∃ (r : Addr) (d : Nat), v = V.ref r ∧ d < p ∧ TermAt H r (ks.getD i (0, 0), (d : Int))) zs m → ∃ (rs : List Addr) (ts : List Tm), zs = rs.map V.ref ∧ Paired (TermAt H) rs ts ∧ ts.map (·.1) = m.map (fun i => ks.getD i (0, 0)) ∧ ∀ t, t ∈ ts → 0 ≤ t.2 ∧ t.2 < (p : Int)
  | _, _, .nil => ⟨[], [], rfl, .nil, rfl, fun t h => nomatch h⟩
  | _, _, .cons ⟨r, d, e, hd, ht⟩ tl => by
    obtain ⟨rs, ts, e1, e2, e3, e4⟩ := drawn_terms tl
    exact ⟨r :: rs, (_, (d : Int)) :: ts, by rw [e, e1]; rfl, .cons ht e2, by rw [List.map_cons, List.map_cons, e3], fun t h => by
      rcases List.mem_cons.mp h with z | z
      · rw [z]
        exact ⟨by show (0 : Int) ≤ (d : Int); omega, by show (d : Int) < (p : Int); omega⟩
      · exact e4 t z⟩
end L2.K37R
end W47
section W48
set_option autoImplicit false
set_option linter.all false
set_option maxRecDepth 100000
/-! _law_poly -/
namespace L2.K37R
open PySem PySem.Spec PyProof.Rows C8 PySem.W
open K37 (S2 Pl)
theorem gtup2_mono {K : PySem.W.Frag} {i j : Nat} : ∀ x σ' H' (F G : St → Hp → Prop), gTup K 2 (gCons (gName i) (gCons (gName j) gNil)) x σ' H' F → (∀ a b, F a b → G a b) → gTup K 2 (gCons (gName i) (gCons (gName j) gNil)) x σ' H' G :=
  fun x σ' H' F G ⟨a, xs, e1, e2, e3, v, r, e4, v2, r2, e5, e6, h⟩ k => ⟨a, xs, e1, e2, e3, v, r, e4, v2, r2, e5, e6, k _ _ h⟩
section
variable {X : Cx}
theorem cr_sortedPOK {K : PySem.W.Frag} (hK : X.K = K := by rfl) : CallR X (.builtin "sorted") (rSortedPO K) := by
  subst hK
  exact cr_sortedPO
end
theorem one_poly {H : Hp} {a b : Addr} {t : Tm} (h1 : H a = some (.tup [.ref b])) (h2 : TermAt H b t) : PolyT H a [t] := ⟨[b], h1, .cons h2 .nil⟩
section
variable {P : Program} {w : World} {K : PySem.W.Frag} {mg : Str → Option Value} {base : Heap}
abbrev sLP : Stmt := top 76
abbrev nLP : List Str := ["_law_state", "_law_prime_here", "_law_most_x", "_law_most_y", "_law_way", "_law_menu", "_law_i", "_law_found", "_law_j", "_law_term"]
/-- the terms of a drawn poly -/
def DrawnP (p mx my : Nat) (ts : List Tm) : Prop := SortedT ts ∧ (∀ t, t ∈ ts → 0 < t.2 ∧ t.2 < (p : Int) ∧ t.1.1 ≤ mx ∧ t.1.2 ≤ my) ∧ ts.length ≤ 20
def spLP : Sp := fun vs H Q _ => ∃ (S L C : Addr) (t p mx my : Nat), vs = [.ref S, .int (p : Int), .int (mx : Int), .int (my : Int)] ∧ LS H S L C t ∧ Pr p ∧ mx ≤ 2 ∧ my ≤ 2 ∧ t ≤ 90000 ∧
  ∀ H' (t' : Nat) q ts, Fr S L H H' → LS H' S L C t' → t' ≤ t + 100 → PolyT H' q ts → DrawnP p mx my ts → Q (.ref q) H'
theorem scLP : FnScope nLP ["_law_state", "_law_prime_here", "_law_most_x", "_law_most_y"] (defScope sLP) := ⟨rfl, rfl, rfl, by decide +kernel, rfl, by decide +kernel, by decide +kernel⟩
theorem drawn_one {p mx my : Nat} {t : Tm} (h : 0 < t.2 ∧ t.2 < (p : Int) ∧ t.1.1 ≤ mx ∧ t.1.2 ≤ my) : DrawnP p mx my [t] := ⟨List.pairwise_singleton _ _, fun u hu => by rw [List.mem_singleton.mp hu]; exact h, by show 1 ≤ 20; decide⟩
set_option maxHeartbeats 2000000 in
theorem ok_lp {f : Addr} {fd : FuncData} (F : FnP K "_law_poly" sLP f fd) (B : Bare mg) (cD : Cal P w K mg base 1 "_law_draw" (Wr spDraw) []) (cK : Cal P w K mg base 2 "_law_pick" (Wr spPick) []) (cM : Cal P w K mg base 2 "_law_mixed" (Wr spMixed) []) :
    FnOk P w K mg base CX0 3 f fd ["_law_state", "_law_prime_here", "_law_most_x", "_law_most_y"] (Wr spLP) := by
  refine FnOk.imp (sp := spLP) ?_ fun _ _ _ _ h => un_wr h
  refine okP F scLP (fun vs H Q E h => ?_) (fun cdv A outer s H vs Q E hr h => ?_)
  · obtain ⟨S, L, C, t, p, mx, my, rfl, _⟩ := h
    rfl
  · obtain ⟨S, L, C, t, p, mx, my, rfl, ls, hp, hmx, hmy, ht, k⟩ := h
    have nd := scLP.nd
    refine ⟨_, pss_cons (ps_set (i := 4) nd rfl (.inl rfl) (pe_c cD hr (by decide) (by rfl) (pa_cons (pv 0) (pa_cons pe_int pa_nil))))
      (pss_cons (ps_if (pt_cmpR op_eq (pv 4) pe_int (nomark _)) (pss_one (ps_ret (pe_c cK hr (by decide) (by rfl) (pa_cons (pv 0) (pa_cons (pe_lst (pa_cons (pe_tup pa_nil) (pa_cons (pe_tup (pa_cons (pe_tup (pa_cons pe_int (pa_cons pe_int (pa_cons pe_int pa_nil)))) pa_nil))
          (pa_cons (pe_tup (pa_cons (pe_tup (pa_cons pe_int (pa_cons pe_int (pa_cons (pe_op op_sub (pv 1) pe_int) pa_nil)))) pa_nil)) (pa_cons (pe_tup (pa_cons (pe_tup (pa_cons (pv 2) (pa_cons (pv 3) (pa_cons pe_int pa_nil)))) pa_nil)) pa_nil))))) pa_nil))))) pss_nil)
      (pss_cons (ps_set (i := 5) nd rfl (.inl rfl) (pe_lst pa_nil))
      (pss_cons (ps_for PassesOwn.never rfl (pi_range1 (by rfl) B.range (pa_cons (pe_op op_add (pv 2) pe_int) pa_nil)) (pg_name (i := 6) nd rfl (.inr rfl))
        (pss_one (ps_set (i := 5) nd rfl (.inl rfl) (pe_op op_cat (pv 5) (pe_lc (own := [("_law_j", 8)]) (g := gName 8) (tt := tYes) rfl nd (pi_range1 (by rfl) B.range (pa_cons (pe_op op_add (pv 3) pe_int) pa_nil)) (blkOk_by (N := nLP) (sc := defScope sLP) (by decide +kernel))
          (fun _ _ _ _ _ => pg_name (i := 8) nd rfl (Or.inl rfl)) (fun _ _ _ _ _ => pts_nil) (fun _ _ _ _ _ => pe_tup (pa_cons (pv 6) (pa_cons (pv 8) pa_nil))))))))
      (pss_cons (ps_via (ps_if (pt_cmpR op_lt (pv 4) pe_int (nomark _)) (pss_one (ps_set (i := 5) nd rfl (.inl rfl) (pe_slL (K := K) (pe_c cM hr (by decide) (by rfl) (pa_cons (pv 0) (pa_cons (pv 5) pa_nil))) po_none (po_some (pe_op op_add pe_int (pe_c cD hr (by decide) (by rfl) (pa_cons (pv 0) (pa_cons pe_int pa_nil)))))))) pss_nil))
      (pss_cons (ps_setLc (i := 7) (own := [("_law_i", 6), ("_law_j", 8)]) (g := gTup K 2 (gCons (gName 6) (gCons (gName 8) gNil))) (tt := tYes) rfl nd rfl rfl (sw_true rfl rfl rfl rfl) (pi_list (pe_callB (cr_sortedPOK (K := K)) (by rfl) B.sorted (by decide +kernel) (pa_cons (pv 5) pa_nil))) (blkOk_by (N := nLP) (sc := defScope sLP) (by decide +kernel))
          (fun _ _ _ _ _ => pg_tup rfl (pgs_cons (pg_name (i := 6) nd rfl (Or.inl rfl)) (pgs_cons (pg_name (i := 8) nd rfl (Or.inl rfl)) pgs_nil))) (fun _ _ _ _ _ => pts_nil)
          (fun _ _ _ _ _ => pe_tup (pa_cons (pv 6) (pa_cons (pv 8) (pa_cons (pe_c cD (hr : Room _ _) (by decide) (by rfl) (pa_cons (pv 0) (pa_cons (pv 1) pa_nil))) pa_nil)))))
      (pss_one (ps_ret (pe_callTy call_tuple_of (by rfl) B.tuple (by decide +kernel) (pa_cons (pe_lc (own := [("_law_term", 9)]) (g := gName 9) rfl nd (pi_list (pv 7)) (blkOk_by (N := nLP) (sc := defScope sLP) (by decide +kernel))
          (fun _ _ _ _ _ => pg_name (i := 9) nd rfl (Or.inl rfl)) (fun _ _ _ _ _ => pts_one (pt_cmpR op_ne (pe_it (K := K) (pv 9) pe_int) pe_int (nomark _))) (fun _ _ _ _ _ => pv 9)) pa_nil))))))))), ?_⟩
    obtain ⟨hp1, hp7⟩ := pr17 hp
    refine ⟨_, rfl, wr ⟨S, L, C, t, 8, rfl, ls, by decide, by decide, by omega, fun H1 d t1 f1 ls1 ht1 hd => ?_⟩⟩
    refine ⟨_, rfl, rfl, _, rfl, ?_⟩
    refine ite_eqI (fun h0 => ?_) fun h0 => ?_
    · refine ⟨_, rfl, by show 0 ≤ sizeLine; decide, fun a1 h1 => ?_⟩
      have s1 := same_upd_new (o := .tup []) h1
      refine ⟨by show 3 ≤ sizeLine; decide, fun b2 g2 => ?_⟩
      have s2 := same_upd_new (o := .tup [.int 0, .int 0, .int 1]) g2
      refine ⟨by show 1 ≤ sizeLine; decide, fun a2 h2 => ?_⟩
      have s3 := same_upd_new (o := .tup [.ref b2]) h2
      refine ⟨_, rfl, _, _, rfl, rfl, by show 3 ≤ sizeLine; decide, fun b3 g3 => ?_⟩
      have s4 := same_upd_new (o := .tup [.int 0, .int 0, .int ((p : Int) - 1)]) g3
      refine ⟨by show 1 ≤ sizeLine; decide, fun a3 h3 => ?_⟩
      have s5 := same_upd_new (o := .tup [.ref b3]) h3
      refine ⟨_, rfl, _, rfl, by show 3 ≤ sizeLine; decide, fun b4 g4 => ?_⟩
      have s6 := same_upd_new (o := .tup [.int (mx : Int), .int (my : Int), .int 1]) g4
      refine ⟨by show 1 ≤ sizeLine; decide, fun a4 h4 => ?_⟩
      have s7 := same_upd_new (o := .tup [.ref b4]) h4
      refine ⟨by show 4 ≤ sizeLine; decide, fun l hl => ?_⟩
      have s8 := same_upd_new (o := .lst [.ref a1, .ref a2, .ref a3, .ref a4]) hl
      have s78 := s7.trans s8
      have s68 := s6.trans s78
      have s58 := s5.trans s68
      have s48 := s4.trans s58
      have s38 := s3.trans s48
      have s28 := s2.trans s38
      have s18 := s1.trans s28
      have q1 := s28 a1 _ upd_same
      have q2 := s48 a2 _ upd_same
      have r2 := s38 b2 _ upd_same
      have q3 := s68 a3 _ upd_same
      have r3 := s58 b3 _ upd_same
      have q4 := s8 a4 _ upd_same
      have r4 := s78 b4 _ upd_same
      have nl : l ≠ L := by
        have := (ls1.same (s1.trans (s2.trans (s3.trans (s4.trans (s5.trans (s6.trans s7))))))).fresh hl
        exact this.2.1
      have ls8 := ls1.same s18
      obtain ⟨H8, e8⟩ : ∃ H8, H8 = upd (upd (upd (upd (upd (upd (upd (upd H1 a1 (.tup [])) b2 (.tup [.int 0, .int 0, .int 1])) a2 (.tup [.ref b2])) b3 (.tup [.int 0, .int 0, .int ((p : Int) - 1)])) a3 (.tup [.ref b3])) b4 (.tup [.int (mx : Int), .int (my : Int), .int 1])) a4 (.tup [.ref b4])) l (.lst [.ref a1, .ref a2, .ref a3, .ref a4]) := ⟨_, rfl⟩
      have hl8 : H8 l = some (.lst [.ref a1, .ref a2, .ref a3, .ref a4]) := by
        rw [e8]
        exact upd_same
      rw [← e8] at s18 q1 q2 r2 q3 r3 q4 r4 ls8 ⊢
      refine wr ⟨S, L, C, l, t1, _, rfl, ls8, hl8, nl, (by decide : 1 ≤ 4), (by decide : 4 ≤ 1000), by omega, fun H9 d9 t9 x f9 ls9 ht9 hx => ?_⟩
      have fr : Fr S L H H9 := (f1.same s18).trans f9
      have keep : ∀ {c : Addr} {zs : List V}, H8 c = some (.tup zs) → H9 c = some (.tup zs) := fun e => ls8.tup f9 e
      match d9, hx with
      | 0, hx =>
        cases hx
        exact k _ t9 a1 [] fr ls9 (by omega) ⟨[], keep q1, .nil⟩ ⟨List.Pairwise.nil, (fun t ht => nomatch ht), by decide⟩
      | 1, hx =>
        cases hx
        exact k _ t9 a2 [((0, 0), 1)] fr ls9 (by omega) (one_poly (keep q2) (keep r2)) (drawn_one ⟨by decide, by show (1 : Int) < p; omega, Nat.zero_le _, Nat.zero_le _⟩)
      | 2, hx =>
        cases hx
        exact k _ t9 a3 [((0, 0), (p : Int) - 1)] fr ls9 (by omega) (one_poly (keep q3) (keep r3)) (drawn_one ⟨by show (0 : Int) < (p : Int) - 1; omega, by show (p : Int) - 1 < p; omega, Nat.zero_le _, Nat.zero_le _⟩)
      | 3, hx =>
        cases hx
        exact k _ t9 a4 [((mx, my), 1)] fr ls9 (by omega) (one_poly (keep q4) (keep r4)) (drawn_one ⟨by show (0 : Int) < 1; decide, by show (1 : Int) < p; omega, Nat.le_refl _, Nat.le_refl _⟩)
    refine ⟨by show 0 ≤ sizeLine; decide, fun q0 hq0 => ?_⟩
    have s2 := same_upd_new (o := .lst []) hq0
    have e2 : upd H1 q0 (.lst []) q0 = some (.lst []) := upd_same
    have nq0 := (ls1.fresh hq0).2.1
    have ls2 := ls1.same s2
    have f2 := f1.same s2
    generalize upd H1 q0 (.lst []) = H2 at s2 e2 ls2 f2 ⊢
    refine ⟨_, rfl, _, _, rfl, rfl, ((mx + 1 : Nat) : Int), rfl, by omega, by omega, ?_⟩
    rw [Int.toNat_natCast]
    refine for_it walk_range0 (fun i σ' H' => ∃ (x6 : Option V) (qm : Addr) (rs : List Addr) (kf : Addr → Nat × Nat), σ' = [some (.ref S), some (.int (p : Int)), some (.int (mx : Int)), some (.int (my : Int)), some (.int (d : Int)), some (.ref qm), x6, none, none, none] ∧ Same H2 H' ∧ H' qm = some (.lst (rs.map V.ref)) ∧ qm ≠ L ∧ Menu mx my H' rs kf ∧ (∀ r, r ∈ rs → (kf r).1 < i) ∧ rs.length = i * (my + 1))
      ⟨none, q0, [], fun _ => (0, 0), rfl, .refl _, e2, nq0, ⟨(fun r h => nomatch h), List.nodup_nil, fun r h => nomatch h⟩, (fun r h => nomatch h), by rw [Nat.zero_mul]; rfl⟩ (fun _ _ _ _ _ => True.intro) ?_ ?_
    · rintro i v σ' H3' H3 hi ⟨x6, qm, rs, kf, rfl, s3, e3, nqm, mn, kl, ln⟩ ⟨rfl, rfl⟩
      refine ⟨_, rfl, _, rfl, _, _, rfl, rfl, ((my + 1 : Nat) : Int), rfl, by omega, by omega, fun D hD => ?_⟩
      rw [Int.toNat_natCast]
      have hi2 : i ≤ mx := by omega
      refine lc_gen walk_range0 hD (sm_line (by omega)) (fun _ => true) (fun j v H'' => ∃ r, v = .ref r ∧ PairAt H'' r (i, j)) (fun j v _ _ o ⟨r, e, w⟩ => ⟨r, e, o.tup w⟩) (fun _ _ => True.intro) ?_ ?_
      · rintro j v H4' H4 Q' S' hj s4 ⟨acc, hacc⟩ ⟨rfl, rfl⟩ yes no
        refine ⟨wipe_set _ 8 _, tyes ⟨_, rfl, _, rfl, by show 2 ≤ sizeLine; decide, fun r hr' => ?_⟩⟩
        exact yes _ _ rfl (same_upd_new hr') ⟨r, rfl, upd_same⟩
      · intro H4 zs s4 dz pz
        obtain ⟨rs2, rfl, p2⟩ := refs_of pz
        rw [filter_all] at p2
        have l2 := p2.length
        rw [List.length_range] at l2
        have e4 := s4 _ _ e3
        have bnd : i * (my + 1) ≤ 2 * 3 := Nat.mul_le_mul (by omega) (by omega)
        refine ⟨qm, D, _, _, rfl, rfl, e4, dz, Nat.le_of_lt (sm_line (by rw [List.length_map, List.length_map]; omega)), fun n hn => ?_⟩
        have sn := same_upd_new (o := .lst (rs.map V.ref ++ rs2.map V.ref)) hn
        have en : upd H4 n (.lst (rs.map V.ref ++ rs2.map V.ref)) n = some (.lst ((rs ++ rs2).map V.ref)) := by
          rw [upd_same, List.map_append]
        have s24 := s3.trans (s4.trans sn)
        have nn : n ≠ L := ((ls2.same (s3.trans s4)).fresh hn).2.1
        have p2n := paired_imp (fun (r : Addr) (j : Nat) (h : PairAt H4 r (i, j)) => sn _ _ h) p2
        have mn5 := mn.tup fun c zs e => (s4.trans sn) c _ e
        generalize upd H4 n (.lst (rs.map V.ref ++ rs2.map V.ref)) = H5 at en s24 p2n mn5 ⊢
        have k2 : ∀ r, r ∈ rs2 → ∃ j, j < my + 1 ∧ kfH H5 r = (i, j) ∧ PairAt H5 r (i, j) := fun r hr' => by
          obtain ⟨a, ha⟩ := List.getElem?_of_mem hr'
          obtain ⟨j, ej, h⟩ := paired_get p2n ha
          have := List.mem_range.mp (List.mem_of_getElem? ej)
          exact ⟨j, this, kf_pair h, h⟩
        have k1 : ∀ r, r ∈ rs → kfH H5 r = kf r := fun r hr' => kf_pair (mn5.at' r hr')
        have m2 : rs2.map (kfH H5) = (List.range (my + 1)).map fun j => (i, j) := by
          have : ∀ {l : List Addr} {m : List Nat}, Paired (fun r j => H5 r = some (.tup [.int ((i, j) : Nat × Nat).1, .int ((i, j) : Nat × Nat).2])) l m → l.map (kfH H5) = m.map fun j => (i, j) := by
            intro l m h
            induction h with
            | nil => rfl
            | cons x t ih => rw [List.map_cons, List.map_cons, ih, kf_pair (q := (i, _)) x]
          exact this p2n
        have m1 : rs.map (kfH H5) = rs.map kf := List.map_congr_left k1
        refine ⟨_, n, rs ++ rs2, kfH H5, rfl, s24, en, nn, ⟨fun r hr' => ?_, ?_, fun r hr' => ?_⟩, fun r hr' => ?_, ?_⟩
        · rcases List.mem_append.mp hr' with h | h
          · rw [k1 r h]
            exact mn5.at' r h
          · obtain ⟨j, _, e, h2⟩ := k2 r h
            rw [e]
            exact h2
        · rw [List.map_append, m1, m2]
          refine List.nodup_append.mpr ⟨mn.nd, ?_, fun a ha b hb z => ?_⟩
          · exact List.Pairwise.map _ (fun a b h z => h (Prod.mk.inj z).2) List.nodup_range
          · obtain ⟨r, hr1, e1⟩ := List.mem_map.mp ha
            obtain ⟨j, _, e2⟩ := List.mem_map.mp hb
            have := kl r hr1
            rw [e1, z, ← e2] at this
            exact absurd this (Nat.lt_irrefl _)
        · rcases List.mem_append.mp hr' with h | h
          · rw [k1 r h]
            exact mn.bd r h
          · obtain ⟨j, hj, e, _⟩ := k2 r h
            rw [e]
            exact ⟨hi2, by show j ≤ my; omega⟩
        · rcases List.mem_append.mp hr' with h | h
          · rw [k1 r h]
            have := kl r h
            omega
          · obtain ⟨j, hj, e, _⟩ := k2 r h
            rw [e]
            exact Nat.lt_succ_self i
        · rw [List.length_append, ln, l2, Nat.succ_mul]
    rintro σ' H3 ⟨x6, qm, rs, kf, rfl, s3, e3, nqm, mn, _, ln⟩
    have ln9 : rs.length ≤ 9 := by
      rw [ln]
      exact Nat.mul_le_mul (show mx + 1 ≤ 3 by omega) (show my + 1 ≤ 3 by omega)
    have ls3 := ls2.same s3
    have f3 := f2.same s3
    refine ⟨fun σ' H' => ∃ (t5 : Nat) (qm : Addr) (rs : List Addr), σ' = [some (.ref S), some (.int (p : Int)), some (.int (mx : Int)), some (.int (my : Int)), some (.int (d : Int)), some (.ref qm), x6, none, none, none] ∧ Fr S L H H' ∧ LS H' S L C t5 ∧ t5 ≤ t + 20 ∧ H' qm = some (.lst (rs.map V.ref)) ∧ qm ≠ L ∧ Menu mx my H' rs kf ∧ rs.length ≤ 9, ?_, ?_⟩
    · refine ⟨_, rfl, _, _, rfl, rfl, _, rfl, ?_⟩
      by_cases h5 : (d : Int) < 5
      · rw [decide_eq_true h5]
        refine iteT ⟨_, rfl, _, rfl, wr ⟨S, L, C, qm, t1, rs.map V.ref, rfl, ls3, e3, nqm, by rw [List.length_map]; omega, by rw [List.length_map]; omega, fun H4 t4 q4 ys f4 ls4 ht4 e4 pm n4 => ?_⟩⟩
        rw [List.length_map] at ht4
        obtain ⟨rs2, rfl, pm2⟩ := perm_refs pm
        have nq4 : q4 ≠ L := (ls3.fresh n4).2.1
        have nqS : q4 ≠ S := (ls3.fresh n4).1
        have mn4 := (mn.perm pm2).tup fun c zs e => ls3.tup f4 e
        refine ⟨_, rfl, wr ⟨S, L, C, t4, 4, rfl, ls4, by decide, by decide, by omega, fun H5 d5 t5 f5 ls5 ht5 hd5 => ?_⟩⟩
        have e5 := f5 _ _ nqS nq4 e4
        refine ⟨_, _, rfl, rfl, _, rfl, q4, _, rfl, SqL.of e5, fun n hn => ?_⟩
        have sn := same_upd_new (o := .lst (cutV (rs2.map V.ref) none (some (1 + (d5 : Int))))) hn
        have l2 := pm2.length_eq
        have ec : cutV (rs2.map V.ref) none (some (1 + (d5 : Int))) = (rs2.take (1 + d5)).map V.ref := by
          have e1 : HT.sIx (rs2.map V.ref).length (rs2.map V.ref).length (some (1 + (d5 : Int))) = min (1 + d5) (rs2.map V.ref).length := by
            rw [show (1 : Int) + (d5 : Int) = ((1 + d5 : Nat) : Int) by omega]
            exact HT.sIx_nat _ _ _
          show ((rs2.map V.ref).drop 0).take (HT.sIx (rs2.map V.ref).length (rs2.map V.ref).length (some (1 + (d5 : Int))) - 0) = _
          rw [e1, List.drop_zero, Nat.sub_zero, List.map_take]
          by_cases h : 1 + d5 ≤ (rs2.map V.ref).length
          · rw [Nat.min_eq_left h]
          · rw [Nat.min_eq_right (by omega), List.take_length, List.take_of_length_le (by omega)]
        refine ⟨t5, n, rs2.take (1 + d5), rfl, ((f3.trans f4).trans f5).same sn, ls5.same sn, by omega, by rw [upd_same, ec], (ls5.fresh hn).2.1, ((mn4.tup fun c zs e => ls4.tup f5 e).tup fun c zs e => sn _ _ e).take _, ?_⟩
        rw [List.length_take]
        omega
      · rw [decide_eq_false h5]
        exact iteF ⟨t1, qm, rs, rfl, f3, ls3, by omega, e3, nqm, mn, ln9⟩
    rintro σ' H5 ⟨t5, qm, rs, rfl, f5, ls5, ht5, e5, nqm, mn5, ln5⟩
    refine ⟨_, rfl, qm, rs.map V.ref, fun v => (((kf (unref v)).1 : Int), ((kf (unref v)).2 : Int)), rfl, SqL.of e5, fun x hx => ?_, fun ys q hsr hst hq => ?_⟩
    · obtain ⟨r, hr', rfl⟩ := List.mem_map.mp hx
      exact ⟨r, rfl, mn5.at' r hr'⟩
    obtain ⟨rs3, rfl, pm3⟩ := perm_refs hst.perm
    have srt := mn5.sorted pm3 hsr
    have sq := same_upd_new (o := .lst (rs3.map V.ref)) hq
    have e6 : upd H5 q (.lst (rs3.map V.ref)) q = some (.lst (rs3.map V.ref)) := upd_same
    have mn6 := (mn5.perm pm3).tup fun c zs e => sq _ _ e
    obtain ⟨nqS, nqL, _⟩ := ls5.fresh hq
    have ls6 := ls5.same sq
    have f6 := f5.same sq
    have l3 := pm3.length_eq
    generalize upd H5 q (.lst (rs3.map V.ref)) = H6 at e6 mn6 ls6 f6 ⊢
    refine ⟨q, rfl, ⟨_, SqL.of e6⟩, fun D hD => ?_⟩
    refine lc_ls (walk_list (xs := rs3.map V.ref)) ls6 hD (sm_line (by rw [List.length_map]; omega)) (fun i v H'' => ∃ (r : Addr) (d : Nat), v = V.ref r ∧ d < p ∧ TermAt H'' r ((rs3.map kf).getD i (0, 0), (d : Int))) (fun i v H1 H2 kp ⟨r, d, e1, e2, e3⟩ => ⟨r, d, e1, e2, kp _ _ e3⟩) (fun H'' f'' => SqL.of (f'' _ _ nqS nqL e6)) ?_ ?_ gtup2_mono
    · rintro i x H7' H7 Q' t7 hi f7 ls7 ht7 ⟨rfl, hx⟩ yes
      rw [List.length_map] at hi
      rw [List.getElem?_map] at hx
      obtain ⟨r, er, rfl⟩ := Option.map_eq_some_iff.mp hx
      have pr := ls6.tup f7 (mn6.at' r (List.mem_of_getElem? er))
      have eg : (rs3.map kf).getD i (0, 0) = kf r := by
        rw [List.getD, List.getElem?_map, er]
        rfl
      rw [eg] at yes
      refine ⟨r, _, rfl, SqT.of pr, rfl, _, _, rfl, _, _, rfl, rfl, rfl, ?_⟩
      refine ⟨_, rfl, _, rfl, _, rfl, _, rfl, wr ⟨S, L, C, t7, p, rfl, ls7, by omega, by omega, by omega, fun H8 d8 t8 f8 ls8 ht8 hd8 => ?_⟩⟩
      refine ⟨by show 3 ≤ sizeLine; decide, fun c hc => ?_⟩
      have sc := same_upd_new (o := .tup [.int ((kf r).1 : Int), .int ((kf r).2 : Int), .int (d8 : Int)]) hc
      exact yes _ _ t8 (f8.same sc) (ls8.same sc) ht8 ⟨c, d8, rfl, hd8, upd_same⟩
    intro H7 xs t7 f7 ls7 ht7 dz pz
    rw [List.length_map] at pz ht7
    obtain ⟨rsF, tsF, rfl, prF, ekF, rgF⟩ := drawn_terms pz
    have ek : tsF.map (·.1) = rs3.map kf := by
      rw [ekF]
      have := range_getD (rs3.map kf) (0, 0)
      rw [List.length_map] at this
      exact this
    have lF : tsF.length ≤ 9 := by
      have := congrArg List.length ek
      rw [List.length_map, List.length_map] at this
      omega
    refine ⟨_, rfl, D, rfl, ⟨_, SqL.of dz⟩, fun D2 hD2 => ?_⟩
    refine lc_terms (walk_list (xs := rsF.map V.ref)) hD2 prF (by omega) (fun t => decide (t.2 ≠ 0)) (fun H' s' => SqL.of (s' _ _ dz)) (fun r t H8 Q' S' hrt yes no => ?_) fun H8 zs s8 dz8 pr8 => ?_
    · refine ⟨_, rfl, r, _, _, _, rfl, rfl, SqT.of hrt, rfl, rfl, _, rfl, ?_⟩
      refine ite_neI (fun h => ⟨_, rfl, yes (decide_eq_true h)⟩) fun h => no (decide_eq_false (not_not_intro h))
    · refine ⟨D2, _, rfl, .inl ⟨SqL.of dz8, fun q9 hq9 => ?_⟩⟩
      have s9 := same_upd_new (o := .tup (zs.map V.ref)) hq9
      refine k _ t7 q9 (tsF.filter fun t => decide (t.2 ≠ 0)) ((f6.trans f7).same (s8.trans s9)) (ls7.same (s8.trans s9)) (by omega) ⟨zs, upd_same, paired_imp (fun _ _ h => s9 _ _ h) pr8⟩ ⟨?_, fun u hu => ?_, ?_⟩
      · have : tsF.Pairwise fun a b => ltK a.1 b.1 := by
          have h : (tsF.map (·.1)).Pairwise ltK := by
            rw [ek]
            exact srt
          rw [List.pairwise_map] at h
          exact h
        exact this.sublist List.filter_sublist
      · obtain ⟨hu1, hu2⟩ := List.mem_filter.mp hu
        obtain ⟨r1, r2⟩ := rgF u hu1
        have nz := of_decide_eq_true hu2
        have mk : u.1 ∈ rs3.map kf := by
          rw [← ek]
          exact List.mem_map.mpr ⟨u, hu1, rfl⟩
        obtain ⟨r, hr', e⟩ := List.mem_map.mp mk
        obtain ⟨b1, b2⟩ := mn6.bd r hr'
        rw [e] at b1 b2
        exact ⟨by omega, r2, b1, b2⟩
      · have := List.length_filter_le (fun t : Tm => decide (t.2 ≠ 0)) tsF
        omega
end
end L2.K37R
end W48
section W49
set_option autoImplicit false
set_option linter.all false
set_option maxRecDepth 100000
/-! _law_some, _law_x_poly, _law_plain_poly -/
namespace L2.K37R
open PySem PySem.Spec PyProof.Rows C8 PySem.W
open K37 (S2 Pl)
theorem sorted_nodup {ts : List Tm} (h : SortedT ts) : (ts.map (·.1)).Nodup := by
  unfold List.Nodup
  rw [List.pairwise_map]
  exact h.imp fun {a b} q z => by
    rw [z] at q
    unfold ltK at q
    omega
section
variable {p : Nat} [NeZero p]
theorem bk_pol {ts : List Tm} (h : (ts.map (·.1)).Nodup) (r : ∀ t, t ∈ ts → 0 < t.2 ∧ t.2 < (p : Int)) : Bk p ts (pol ts) where
  nd := h
  co q := cf_pol q ts h
  rg := r
theorem pol_mem {ts : List Tm} (h : (ts.map (·.1)).Nodup) (r : ∀ t, t ∈ ts → 0 < t.2 ∧ t.2 < (p : Int)) {q : Nat × Nat} (hq : cf (pol (p := p) ts) q ≠ 0) : ∃ t, t ∈ ts ∧ t.1 = q := by
  obtain ⟨t, ht, e⟩ := List.mem_map.mp ((bk_pol h r).mem_key.mpr hq)
  exact ⟨t, ht, e⟩
theorem drawn_bk {mx my : Nat} {ts : List Tm} (h : DrawnP p mx my ts) : Bk p ts (pol ts) ∧ Bd (pol (p := p) ts) (mx + 1) (my + 1) := by
  have n := sorted_nodup h.1
  have r : ∀ t, t ∈ ts → 0 < t.2 ∧ t.2 < (p : Int) := fun t ht => ⟨(h.2.1 t ht).1, (h.2.1 t ht).2.1⟩
  refine ⟨bk_pol n r, fun q hq => ?_⟩
  obtain ⟨t, ht, e⟩ := pol_mem n r hq
  obtain ⟨_, _, b1, b2⟩ := h.2.1 t ht
  rw [e] at b1 b2
  exact ⟨by omega, by omega⟩
theorem drawn_polyB {mx my : Nat} {ts : List Tm} {H : Hp} {q : Addr} (h : DrawnP p mx my ts) (hx : mx ≤ 999) (hy : my ≤ 999) (e : PolyT H q ts) : PolyB p H q (pol ts) :=
  ⟨ts, ⟨e, fun t ht => let ⟨a, b, c, d⟩ := h.2.1 t ht; ⟨a, b, by omega, by omega⟩, h.1, sm_line (by have := h.2.2; omega)⟩, (drawn_bk h).1⟩
end
section
variable {P : Program} {w : World} {K : PySem.W.Frag} {mg : Str → Option Value} {base : Heap}
abbrev sSome : Stmt := top 77
abbrev nSome : List Str := ["_law_state", "_law_prime_here", "_law_most_x", "_law_most_y", "_law_told"]
def spSome : Sp := fun vs H Q _ => ∃ (S L C : Addr) (t p : Nat) (_ : NeZero p) (mx my : Nat), vs = [.ref S, .int (p : Int), .int (mx : Int), .int (my : Int)] ∧ LS H S L C t ∧ Pr p ∧ mx ≤ 2 ∧ my ≤ 2 ∧ t ≤ 80000 ∧
  ∀ H' (t' : Nat) q (G : S2 (Fq p)), Fr S L H H' → LS H' S L C t' → t' ≤ t + 110 → PolyB p H' q G → G ≠ 0 → Bd G (mx + 1) (my + 1) → Q (.ref q) H'
theorem scSome : FnScope nSome ["_law_state", "_law_prime_here", "_law_most_x", "_law_most_y"] (defScope sSome) := ⟨rfl, rfl, rfl, by decide +kernel, rfl, by decide +kernel, by decide +kernel⟩
theorem ok_some {f : Addr} {fd : FuncData} (F : FnP K "_law_some" sSome f fd) (cD : Cal P w K mg base 1 "_law_draw" (Wr spDraw) []) (cP : Cal P w K mg base 3 "_law_poly" (Wr spLP) []) :
    FnOk P w K mg base CX0 4 f fd ["_law_state", "_law_prime_here", "_law_most_x", "_law_most_y"] (Wr spSome) := by
  refine FnOk.imp (sp := spSome) ?_ fun _ _ _ _ h => un_wr h
  refine okP F scSome (fun vs H Q E h => ?_) (fun cdv A outer s H vs Q E hr h => ?_)
  · obtain ⟨S, L, C, t, p, ne, mx, my, rfl, _⟩ := h
    rfl
  · obtain ⟨S, L, C, t, p, ne, mx, my, rfl, ls, hp, hmx, hmy, ht, k⟩ := h
    have nd := scSome.nd
    refine ⟨_, pss_cons (ps_set (i := 4) nd rfl (.inl rfl) (pe_c cP hr (by decide) (by rfl) (pa_cons (pv 0) (pa_cons (pv 1) (pa_cons (pv 2) (pa_cons (pv 3) pa_nil))))))
      (pss_one (ps_ret (pe_ifExp (pt_cmpR (op_neDK (K := K) hr.units) (pv 4) (pe_tup pa_nil) (nomark _)) (pv 4) (pe_tup (pa_cons (pe_tup (pa_cons (pe_c cD hr (by decide) (by rfl) (pa_cons (pv 0) (pa_cons (pe_op op_add (pv 2) pe_int) pa_nil)))
        (pa_cons (pe_c cD hr (by decide) (by rfl) (pa_cons (pv 0) (pa_cons (pe_op op_add (pv 3) pe_int) pa_nil))) (pa_cons (pe_op op_add pe_int (pe_c cD hr (by decide) (by rfl) (pa_cons (pv 0) (pa_cons (pe_op op_sub (pv 1) pe_int) pa_nil)))) pa_nil)))) pa_nil))))), ?_⟩
    obtain ⟨hp1, hp7⟩ := pr17 hp
    refine ⟨_, rfl, _, rfl, _, rfl, _, rfl, wr ⟨S, L, C, t, p, mx, my, rfl, ls, hp, hmx, hmy, by omega, fun H1 t1 q1 ts f1 ls1 ht1 e1 dr => ?_⟩⟩
    obtain ⟨kb, bd⟩ := drawn_bk (p := p) dr
    refine ⟨_, rfl, by show 0 ≤ sizeLine; decide, fun e he => ?_⟩
    have se := same_upd_new (o := .tup []) he
    refine ⟨dpoly ts, .tuple [], dp_poly (e1.same se), dp_nil upd_same, dpoly_shaped ts, nil_shaped, _, rfl, ?_⟩
    have e2 := e1.same se
    have ls2 := ls1.same se
    have f2 := f1.same se
    generalize upd H1 e (.tup []) = H2 at e2 ls2 f2 ⊢
    rw [dpoly_eqv]
    by_cases h0 : ts = []
    · rw [decide_eq_true h0]
      refine iteF ⟨_, rfl, _, rfl, _, _, rfl, rfl, wr ⟨S, L, C, t1, mx + 1, rfl, ls2, by omega, by omega, by omega, fun H3 d3 t3 f3 ls3 ht3 hd3 => ?_⟩⟩
      refine ⟨_, rfl, _, rfl, _, _, rfl, rfl, wr ⟨S, L, C, t3, my + 1, rfl, ls3, by omega, by omega, by omega, fun H4 d4 t4 f4 ls4 ht4 hd4 => ?_⟩⟩
      refine ⟨_, rfl, _, rfl, _, _, rfl, rfl, ?_⟩
      have ep : [V.ref S, V.int ((p : Int) - 1)] = [V.ref S, V.int ((p - 1 : Nat) : Int)] := by rw [show (p : Int) - 1 = ((p - 1 : Nat) : Int) by omega]
      refine wr ⟨S, L, C, t4, p - 1, ep, ls4, by omega, by omega, by omega, fun H5 d5 t5 f5 ls5 ht5 hd5 => ?_⟩
      refine ⟨_, _, rfl, rfl, by show 3 ≤ sizeLine; decide, fun c hc => ?_⟩
      have sc := same_upd_new (o := .tup [.int (d3 : Int), .int (d4 : Int), .int (1 + (d5 : Int))]) hc
      refine ⟨by show 1 ≤ sizeLine; decide, fun c2 hc2 => ?_⟩
      have sc2 := same_upd_new (o := .tup [.ref c]) hc2
      have dr2 : DrawnP p mx my [((d3, d4), 1 + (d5 : Int))] := drawn_one ⟨by show (0 : Int) < 1 + (d5 : Int); omega, by show 1 + (d5 : Int) < p; omega, by show d3 ≤ mx; omega, by show d4 ≤ my; omega⟩
      obtain ⟨kb2, bd2⟩ := drawn_bk (p := p) dr2
      exact k _ t5 c2 _ ((((f2.trans f3).trans f4).trans f5).same (sc.trans sc2)) (ls5.same (sc.trans sc2)) (by omega) (drawn_polyB dr2 (by omega) (by omega) (one_poly upd_same (sc2 _ _ upd_same))) (fun z => nomatch (kb2.eq_nil.mpr z)) bd2
    · rw [decide_eq_false h0]
      exact iteT ⟨_, rfl, k _ t1 q1 _ f2 ls2 (by omega) (drawn_polyB dr (by omega) (by omega) e2) (fun z => h0 (kb.eq_nil.mpr z)) bd⟩
abbrev sLX : Stmt := top 78
abbrev nLX : List Str := ["_law_state", "_law_prime_here", "_law_most", "_law_found", "_law_i", "_law_term"]
def spLX : Sp := fun vs H Q _ => ∃ (S L C : Addr) (t p : Nat) (_ : NeZero p), vs = [.ref S, .int (p : Int), .int 3] ∧ LS H S L C t ∧ Pr p ∧ t ≤ 80000 ∧
  ∀ H' (t' : Nat) q (A : RX p), Fr S L H H' → LS H' S L C t' → t' ≤ t + 10 → PolyB p H' q (Pl.C A) → K37.dlt A 4 → Q (.ref q) H'
theorem scLX : FnScope nLX ["_law_state", "_law_prime_here", "_law_most"] (defScope sLX) := ⟨rfl, rfl, rfl, by decide +kernel, rfl, by decide +kernel, by decide +kernel⟩
theorem ok_lx {f : Addr} {fd : FuncData} (F : FnP K "_law_x_poly" sLX f fd) (B : Bare mg) (cD : Cal P w K mg base 1 "_law_draw" (Wr spDraw) []) :
    FnOk P w K mg base CX0 2 f fd ["_law_state", "_law_prime_here", "_law_most"] (Wr spLX) := by
  refine FnOk.imp (sp := spLX) ?_ fun _ _ _ _ h => un_wr h
  refine okP F scLX (fun vs H Q E h => ?_) (fun cdv A outer s H vs Q E hr h => ?_)
  · obtain ⟨S, L, C, t, p, ne, rfl, _⟩ := h
    rfl
  · obtain ⟨S, L, C, t, p, ne, rfl, ls, hp, ht, k⟩ := h
    have nd := scLX.nd
    refine ⟨_, pss_cons (ps_setLc (i := 3) (own := [("_law_i", 4)]) (g := gName 4) (tt := tYes) rfl nd rfl rfl (sw_true rfl rfl rfl rfl) (pi_range1 (by rfl) B.range (pa_cons (pe_op op_add pe_int (pe_c cD hr (by decide) (by rfl) (pa_cons (pv 0) (pa_cons (pe_op op_add (pv 2) pe_int) pa_nil)))) pa_nil)) (blkOk_by (N := nLX) (sc := defScope sLX) (by decide +kernel))
          (fun _ _ _ _ _ => pg_name (i := 4) nd rfl (Or.inl rfl)) (fun _ _ _ _ _ => pts_nil) (fun _ _ _ _ _ => pe_tup (pa_cons (pv 4) (pa_cons pe_int (pa_cons (pe_c cD (hr : Room _ _) (by decide) (by rfl) (pa_cons (pv 0) (pa_cons (pv 1) pa_nil))) pa_nil)))))
      (pss_one (ps_ret (pe_callTy call_tuple_of (by rfl) B.tuple (by decide +kernel) (pa_cons (pe_lc (own := [("_law_term", 5)]) (g := gName 5) rfl nd (pi_list (pv 3)) (blkOk_by (N := nLX) (sc := defScope sLX) (by decide +kernel))
          (fun _ _ _ _ _ => pg_name (i := 5) nd rfl (Or.inl rfl)) (fun _ _ _ _ _ => pts_one (pt_cmpR op_ne (pe_it (K := K) (pv 5) pe_int) pe_int (nomark _))) (fun _ _ _ _ _ => pv 5)) pa_nil)))), ?_⟩
    obtain ⟨hp1, hp7⟩ := pr17 hp
    refine ⟨_, rfl, _, rfl, _, _, rfl, rfl, wr ⟨S, L, C, t, 4, rfl, ls, by decide, by decide, by omega, fun H1 d t1 f1 ls1 ht1 hd => ?_⟩⟩
    refine ⟨_, _, rfl, rfl, ((1 + d : Nat) : Int), by show [V.int ((1 : Int) + (d : Int))] = [V.int ((1 + d : Nat) : Int)]; rw [show (1 : Int) + (d : Int) = ((1 + d : Nat) : Int) by omega], by omega, by omega, fun D hD => ?_⟩
    rw [Int.toNat_natCast]
    refine lc_ls walk_range0 ls1 hD (sm_line (by omega)) (fun i v H'' => ∃ (r : Addr) (e : Nat), v = V.ref r ∧ e < p ∧ TermAt H'' r (((List.range (1 + d)).map fun i => (i, 0)).getD i (0, 0), (e : Int))) (fun i v H1 H2 kp ⟨r, d, e1, e2, e3⟩ => ⟨r, d, e1, e2, kp _ _ e3⟩) (fun _ _ => True.intro) ?_ ?_ gname_mono
    · rintro i x H2' H2 Q' t2 hi f2 ls2 ht2 ⟨rfl, rfl⟩ yes
      have eg : ((List.range (1 + d)).map fun i => (i, 0)).getD i (0, 0) = (i, 0) := by
        rw [List.getD, List.getElem?_map, List.getElem?_range hi]
        rfl
      rw [eg] at yes
      refine ⟨wipe_set _ 4 _, _, rfl, _, rfl, _, rfl, wr ⟨S, L, C, t2, p, rfl, ls2, by omega, by omega, by omega, fun H3 d3 t3 f3 ls3 ht3 hd3 => ?_⟩⟩
      refine ⟨by show 3 ≤ sizeLine; decide, fun c hc => ?_⟩
      have sc := same_upd_new (o := .tup [.int (i : Int), .int 0, .int (d3 : Int)]) hc
      exact yes _ _ t3 (f3.same sc) (ls3.same sc) ht3 ⟨c, d3, rfl, hd3, upd_same⟩
    intro H2 xs t2 f2 ls2 ht2 dz pz
    obtain ⟨rsF, tsF, rfl, prF, ekF, rgF⟩ := drawn_terms pz
    have ek : tsF.map (·.1) = (List.range (1 + d)).map fun i => (i, 0) := by
      rw [ekF]
      have := range_getD ((List.range (1 + d)).map fun i => (i, 0)) (0, 0)
      rw [List.length_map, List.length_range] at this
      exact this
    have lF : tsF.length ≤ 4 := by
      have := congrArg List.length ek
      rw [List.length_map, List.length_map, List.length_range] at this
      omega
    refine ⟨_, rfl, D, rfl, ⟨_, SqL.of dz⟩, fun D2 hD2 => ?_⟩
    refine lc_terms (walk_list (xs := rsF.map V.ref)) hD2 prF (by omega) (fun t => decide (t.2 ≠ 0)) (fun H' s' => SqL.of (s' _ _ dz)) (fun r t H8 Q' S' hrt yes no => ?_) fun H8 zs s8 dz8 pr8 => ?_
    · refine ⟨_, rfl, r, _, _, _, rfl, rfl, SqT.of hrt, rfl, rfl, _, rfl, ?_⟩
      refine ite_neI (fun h => ⟨_, rfl, yes (decide_eq_true h)⟩) fun h => no (decide_eq_false (not_not_intro h))
    · refine ⟨D2, _, rfl, .inl ⟨SqL.of dz8, fun q9 hq9 => ?_⟩⟩
      have s9 := same_upd_new (o := .tup (zs.map V.ref)) hq9
      have key : ∀ u, u ∈ tsF → u.1.1 ≤ 3 ∧ u.1.2 = 0 := fun u hu => by
        have mk : u.1 ∈ (List.range (1 + d)).map fun i => (i, 0) := by
          rw [← ek]
          exact List.mem_map.mpr ⟨u, hu, rfl⟩
        obtain ⟨i, hi, e⟩ := List.mem_map.mp mk
        have := List.mem_range.mp hi
        rw [← e]
        exact ⟨by show i ≤ 3; omega, rfl⟩
      have dr : DrawnP p 3 0 (tsF.filter fun t => decide (t.2 ≠ 0)) := by
        refine ⟨?_, fun u hu => ?_, ?_⟩
        · have : tsF.Pairwise fun a b => ltK a.1 b.1 := by
            have h : (tsF.map (·.1)).Pairwise ltK := by
              rw [ek, List.pairwise_map]
              exact List.pairwise_lt_range.imp fun h => .inl h
            rw [List.pairwise_map] at h
            exact h
          exact this.sublist List.filter_sublist
        · obtain ⟨hu1, hu2⟩ := List.mem_filter.mp hu
          obtain ⟨r1, r2⟩ := rgF u hu1
          have nz := of_decide_eq_true hu2
          obtain ⟨b1, b2⟩ := key u hu1
          exact ⟨by omega, r2, b1, by omega⟩
        · have := List.length_filter_le (fun t : Tm => decide (t.2 ≠ 0)) tsF
          omega
      obtain ⟨kb, bd⟩ := drawn_bk (p := p) dr
      have pB := drawn_polyB (p := p) dr (by omega) (by omega) (⟨zs, upd_same, paired_imp (fun _ _ h => s9 _ _ h) pr8⟩ : PolyT (upd H8 q9 (.tup (zs.map V.ref))) q9 _)
      have eC : pol (p := p) (tsF.filter fun t => decide (t.2 ≠ 0)) = Pl.C ((pol (p := p) (tsF.filter fun t => decide (t.2 ≠ 0))).co 0) := Pl.ext fun j => by
        rw [Pl.co_C]
        by_cases hj : j = 0
        · rw [if_pos hj, hj]
        · rw [if_neg hj]
          exact bd.dlt j (by omega)
      rw [eC] at pB
      exact k _ t2 q9 _ ((f1.trans f2).same (s8.trans s9)) (ls2.same (s8.trans s9)) (by omega) pB (bd.co 0)
abbrev sLPP : Stmt := top 79
abbrev nLPP : List Str := ["_law_state", "_law_prime_here", "_law_tall", "_law_lower", "_law_term"]
/-- plain by its make -/
def PlainF {p : Nat} [NeZero p] (f : S2 (Fq p)) : Prop := ∃ (d : Nat) (c : Fq p), 1 ≤ d ∧ d ≤ 3 ∧ c ≠ 0 ∧ Bd f 3 (d + 1) ∧ f.co d = Pl.C c
def spLPP : Sp := fun vs H Q _ => ∃ (S L C : Addr) (t p : Nat) (_ : NeZero p), vs = [.ref S, .int (p : Int)] ∧ LS H S L C t ∧ Pr p ∧ t ≤ 80000 ∧
  ∀ H' (t' : Nat) q (f : S2 (Fq p)), Fr S L H H' → LS H' S L C t' → t' ≤ t + 110 → PolyB p H' q f → PlainF f → Q (.ref q) H'
theorem scLPP : FnScope nLPP ["_law_state", "_law_prime_here"] (defScope sLPP) := ⟨rfl, rfl, rfl, by decide +kernel, rfl, by decide +kernel, by decide +kernel⟩
theorem ok_lpp {f : Addr} {fd : FuncData} (F : FnP K "_law_plain_poly" sLPP f fd) (B : Bare mg) (cD : Cal P w K mg base 1 "_law_draw" (Wr spDraw) []) (cP : Cal P w K mg base 3 "_law_poly" (Wr spLP) []) (cA : Cal P w K mg base 2 "_law_plus" (Wr spLPlus) []) :
    FnOk P w K mg base CX0 4 f fd ["_law_state", "_law_prime_here"] (Wr spLPP) := by
  refine FnOk.imp (sp := spLPP) ?_ fun _ _ _ _ h => un_wr h
  refine okP F scLPP (fun vs H Q E h => ?_) (fun cdv A outer s H vs Q E hr h => ?_)
  · obtain ⟨S, L, C, t, p, ne, rfl, _⟩ := h
    rfl
  · obtain ⟨S, L, C, t, p, ne, rfl, ls, hp, ht, k⟩ := h
    have nd := scLPP.nd
    refine ⟨_, pss_cons (ps_set (i := 2) nd rfl (.inr rfl) (pe_op op_add pe_int (pe_c cD hr (by decide) (by rfl) (pa_cons (pv 0) (pa_cons pe_int pa_nil)))))
      (pss_cons (ps_set (i := 3) nd rfl (.inl rfl) (pe_callTy call_tuple_of (by rfl) B.tuple (by decide +kernel) (pa_cons (pe_lc (own := [("_law_term", 4)]) (g := gName 4) rfl nd (pi_tup (pe_c cP hr (by decide) (by rfl) (pa_cons (pv 0) (pa_cons (pv 1) (pa_cons pe_int (pa_cons (pe_op op_sub (pv 2) pe_int) pa_nil)))))) (blkOk_by (N := nLPP) (sc := defScope sLPP) (by decide +kernel))
          (fun _ _ _ _ _ => pg_name (i := 4) nd rfl (Or.inl rfl)) (fun _ _ _ _ _ => pts_one (pt_cmpR op_lt (pe_it (K := K) (pv 4) pe_int) (pv 2) (nomark _))) (fun _ _ _ _ _ => pv 4)) pa_nil)))
      (pss_one (ps_ret (pe_c cA hr (by decide) (by rfl) (pa_cons (pv 1) (pa_cons (pv 3) (pa_cons (pe_tup (pa_cons (pe_tup (pa_cons pe_int (pa_cons (pv 2) (pa_cons (pe_op op_add pe_int (pe_c cD hr (by decide) (by rfl) (pa_cons (pv 0) (pa_cons (pe_op op_sub (pv 1) pe_int) pa_nil)))) pa_nil)))) pa_nil)) pa_nil))))))), ?_⟩
    obtain ⟨hp1, hp7⟩ := pr17 hp
    refine ⟨_, rfl, wr ⟨S, L, C, t, 3, rfl, ls, by decide, by decide, by omega, fun H1 d t1 f1 ls1 ht1 hd => ?_⟩⟩
    refine ⟨_, _, rfl, rfl, ?_⟩
    have e1d : (1 : Int) + (d : Int) = ((1 + d : Nat) : Int) := by omega
    have ep0 : [V.ref S, V.int (p : Int), V.int 2, V.int ((1 : Int) + (d : Int) - 1)] = [V.ref S, V.int (p : Int), V.int ((2 : Nat) : Int), V.int (d : Int)] := by
      rw [show (1 : Int) + (d : Int) - 1 = (d : Int) by omega]
      rfl
    refine ⟨_, rfl, _, rfl, _, rfl, _, _, rfl, rfl, ?_⟩
    refine wr ⟨S, L, C, t1, p, 2, d, ep0, ls1, hp, by omega, by omega, by omega, fun H2 t2 q2 ts f2 ls2 ht2 e2 dr => ?_⟩
    obtain ⟨kb, bd⟩ := drawn_bk (p := p) dr
    obtain ⟨rs, hq2, prs⟩ := id e2
    refine ⟨q2, rfl, ⟨_, SqT.of hq2⟩, fun D hD => ?_⟩
    refine lc_terms (walk_tup (xs := rs.map V.ref)) hD prs (by have := dr.2.2; omega) (fun t => decide ((t.1.2 : Int) < 1 + (d : Int))) (fun H' s' => SqT.of (s' _ _ hq2)) (fun r u H8 Q' S' hrt yes no => ?_) fun H3 zs s3 dz3 pr3 => ?_
    · refine ⟨_, rfl, r, _, _, _, rfl, rfl, SqT.of hrt, rfl, _, rfl, _, _, rfl, rfl, _, rfl, ?_⟩
      by_cases h : (u.1.2 : Int) < 1 + (d : Int)
      · rw [decide_eq_true h]
        exact iteT ⟨_, rfl, yes (decide_eq_true h)⟩
      · rw [decide_eq_false h]
        exact iteF (no (decide_eq_false h))
    have ef : ts.filter (fun t => decide ((t.1.2 : Int) < 1 + (d : Int))) = ts := List.filter_eq_self.mpr fun u hu => decide_eq_true (by
      have := (dr.2.1 u hu).2.2.2
      omega)
    rw [ef] at pr3
    refine ⟨D, _, rfl, .inl ⟨SqL.of dz3, fun q4 hq4 => ?_⟩⟩
    have s4 := same_upd_new (o := .tup (zs.map V.ref)) hq4
    have e4 : PolyT (upd H3 q4 (.tup (zs.map V.ref))) q4 ts := ⟨zs, upd_same, paired_imp (fun _ _ h => s4 _ _ h) pr3⟩
    have ls4 := ls2.same (s3.trans s4)
    have f4 := (f1.trans f2).same (s3.trans s4)
    generalize upd H3 q4 (.tup (zs.map V.ref)) = H4 at e4 ls4 f4 ⊢
    refine ⟨_, rfl, _, rfl, _, rfl, _, rfl, _, rfl, _, _, rfl, rfl, ?_⟩
    have ep : [V.ref S, V.int ((p : Int) - 1)] = [V.ref S, V.int ((p - 1 : Nat) : Int)] := by rw [show (p : Int) - 1 = ((p - 1 : Nat) : Int) by omega]
    refine wr ⟨S, L, C, t2, p - 1, ep, ls4, by omega, by omega, by omega, fun H5 d5 t5 f5 ls5 ht5 hd5 => ?_⟩
    refine ⟨_, _, rfl, rfl, by show 3 ≤ sizeLine; decide, fun c hc => ?_⟩
    have sc := same_upd_new (o := .tup [.int 0, .int (1 + (d : Int)), .int (1 + (d5 : Int))]) hc
    refine ⟨by show 1 ≤ sizeLine; decide, fun c2 hc2 => ?_⟩
    have sc2 := same_upd_new (o := .tup [.ref c]) hc2
    have e6 : PolyT (upd (upd H5 c (.tup [.int 0, .int (1 + (d : Int)), .int (1 + (d5 : Int))])) c2 (.tup [.ref c])) q4 ts := by
      obtain ⟨rs4, w1, w2⟩ := e4
      exact ⟨rs4, sc2 _ _ (sc _ _ (ls4.tup f5 w1)), paired_imp (fun _ _ h => sc2 _ _ (sc _ _ (ls4.tup f5 h))) w2⟩
    have pu : PolyT (upd (upd H5 c (.tup [.int 0, .int (1 + (d : Int)), .int (1 + (d5 : Int))])) c2 (.tup [.ref c])) c2 [((0, 1 + d), 1 + (d5 : Int))] := by
      refine one_poly upd_same ?_
      have h := sc2 c _ upd_same
      show _ = some (HO.tup [V.int ((0 : Nat) : Int), V.int ((1 + d : Nat) : Int), V.int (1 + (d5 : Int))])
      rw [← e1d]
      exact h
    have ku : Bk p [((0, 1 + d), 1 + (d5 : Int))] (tm (0, 1 + d) (red (1 + (d5 : Int)))) := Bk.num _ (by omega) (by omega)
    have but : Bd (tm (p := p) (0, 1 + d) (red (1 + (d5 : Int)))) 3 (d + 2) := (bd_tm _ _).mono (by show 1 ≤ 3; omega) (by show 1 + d + 1 ≤ d + 2; omega)
    have bF : Bd (pol (p := p) ts + tm (0, 1 + d) (red (1 + (d5 : Int)))) 3 (d + 2) := (bd.mono (by omega) (by omega)).add but
    refine wr ⟨p, ne, q4, c2, ts, [((0, 1 + d), 1 + (d5 : Int))], pol ts, tm (0, 1 + d) (red (1 + (d5 : Int))), rfl, hp1, hp7, e6, pu, kb, ku, by have := dr.2.2; omega, by show 1 ≤ 100; decide, bF.mono (by omega) (by omega), fun H7 q7 s7 pb7 => ?_⟩
    refine k _ t5 q7 _ ((f4.trans f5).same (sc.trans (sc2.trans s7))) (ls5.same (sc.trans (sc2.trans s7))) (by omega) pb7 ⟨1 + d, red (1 + (d5 : Int)), by omega, by omega, red_ne (by omega) (by omega), bF.mono (by omega) (by omega), ?_⟩
    rw [Pl.co_add, bd.dlt (1 + d) (by omega)]
    have : (tm (p := p) (0, 1 + d) (red (1 + (d5 : Int)))).co (1 + d) = Pl.C (red (1 + (d5 : Int))) := by
      unfold tm
      rw [K37.co_mo, if_pos rfl]
      exact K37.mo_zero _
    rw [this]
    grind
end
end L2.K37R
end W49
section W50
set_option autoImplicit false
set_option linter.all false
set_option maxRecDepth 100000
/-! what the law compares: the plain law -/
namespace L2.K37R
open PySem PySem.Spec PyProof.Rows C8 PySem.W
open K37 (S2 Pl)
section
variable {X : Cx}
/-- the text of a number or None -/
def rp : Option Nat → Str
  | none => "None"
  | some n => toString (n : Int)
theorem call_reprO : CallR X (.builtin "repr") (fun xs H Q => ∃ o : Option Nat, xs = [ov o] ∧ (∀ n, o = some n → n < 1000) ∧ Q (.str (rp o)) H) := by
  intro pins s σ H xs us Q I r h
  obtain ⟨o, rfl, ho, q⟩ := h
  cases o with
  | none =>
    obtain ⟨u, rfl, rx⟩ := vals1 r
    cases u with
    | none => exact PySem.P.repr_of_none ⟨.str _, H, I.tok _, ⟨_, rfl⟩, q⟩
    | _ => cases rx
  | some n =>
    obtain ⟨u, rfl, t, rfl⟩ := vals1 r
    refine PySem.P.repr_of_int ?_ ⟨.str _, H, I.tok _, ⟨_, rfl⟩, q⟩
    have := ho n rfl
    have h2 : ((n : Int).natAbs) < 2 ^ 10 := by omega
    by_cases h0 : (n : Int).natAbs = 0
    · rw [h0]
      decide
    · exact Nat.lt_trans ((Nat.log2_lt h0).mpr h2) (by decide)
end
section
variable {p : Nat} [NeZero p]
theorem rows_syl (hp : Pr p) (m n : Nat) (f g : S2 (Fq p)) : (List.range (m + n)).map (sylA m n f g) = (K37.syl m n f g).map (K37.vec (m + n - 1)) := by
  haveI := fd_of hp
  refine List.ext_getElem (by rw [List.length_map, List.length_map, List.length_range, K37.syl_length]) fun i h1 h2 => ?_
  rw [List.length_map, List.length_range] at h1
  rw [List.getElem_map, List.getElem_map, List.getElem_range]
  funext c
  unfold sylA K37.vec K37.syl
  by_cases h : i < n
  · rw [if_pos h, List.getElem_append_left (by rw [List.length_map, List.length_range]; exact h), List.getElem_map, List.getElem_range]
  · rw [if_neg h, List.getElem_append_right (by rw [List.length_map, List.length_range]; omega), List.getElem_map, List.getElem_range, List.length_map, List.length_range]
theorem PlainF.hi {f : S2 (Fq p)} (h : PlainF f) : ∃ m : Nat, 1 ≤ m ∧ m ≤ 3 ∧ K37.hi f = (m : Int) ∧ Bd f 3 (m + 1) ∧ ∃ c : Fq p, c ≠ 0 ∧ f.co m = Pl.C c := by
  obtain ⟨d, c, h1, h3, hc, bf, top⟩ := h
  have hd : K37.IsD f d := ⟨by
    rw [top]
    intro z
    have : (Pl.C c : RX p).co 0 = 0 := by rw [z, Pl.co_zero]
    exact hc this, fun i hi => bf.dlt i (by omega)⟩
  exact ⟨d, h1, h3, by rw [K37.hi_ne hd.ne, hd.dg], bf, c, hc, top⟩
theorem PlainF.row {f g : S2 (Fq p)} (h : PlainF f) (bg : Bd g 3 3) (g0 : g ≠ 0) : PlainR f g := let ⟨d, c, h1, h3, hc, bf, top⟩ := h; ⟨d, c, h1, h3, hc, bf, top, bg, g0⟩
open Classical in
theorem size_res (hp : Pr p) {f g : S2 (Fq p)} {m n : Nat} {c : Fq p} (hc : c ≠ 0) (top : f.co m = Pl.C c) (df : K37.dlt f (m + 1)) (dg : K37.dlt g (n + 1)) : K37.Size p (K37.Id f g) (if rsl m n f g = 0 then none else some (K37.dg (rsl m n f g))) := by
  haveI := fd_of hp
  obtain ⟨b, hb⟩ := K37.Fd.inv c hc
  have hu : f.co m * Pl.C b = 1 := by
    rw [top, ← Pl.C_mul, hb]
    rfl
  have hr : rsl m n f g = K37.dt (m + n) ((K37.syl m n f g).map (K37.vec (m + n - 1))) := by
    rw [← rows_syl hp]
    rfl
  have := K37.res_size els_all (els_nodup p) df hu dg hr
  rw [els_len] at this
  exact this
/-- what is due -/
noncomputable def due (R : RX p) : Option Nat := @ite _ (R = 0) (Classical.propDecidable _) none (some (K37.dg R))
theorem size_due (hp : Pr p) {f g : S2 (Fq p)} (h : PlainF f) (g0 : g ≠ 0) (bg : Bd g 3 3) : ∃ m n : Nat, 1 ≤ m ∧ m ≤ 3 ∧ n ≤ 2 ∧ K37.hi f = (m : Int) ∧ K37.hi g = (n : Int) ∧ Bd f 3 4 ∧ Bd g 3 4 ∧ K37.Size p (K37.Id f g) (due (rsl m n f g)) := by
  obtain ⟨m, m1, m3, hf, bf, c, hc, top⟩ := h.hi
  have hg := K37.hi_ne g0
  have lg := (K37.dg_is g0).lt_of_dlt bg.dlt
  exact ⟨m, K37.dg g, m1, m3, by omega, hf, hg, bf.mono (Nat.le_refl _) (by omega), bg.mono (Nat.le_refl _) (by decide), size_res hp hc top bf.dlt (K37.dg_is g0).dlt⟩
theorem due_val (R : RX p) : (R = 0 ∧ due R = none) ∨ (R ≠ 0 ∧ due R = some (K37.dg R) ∧ K37.hi R = (K37.dg R : Int)) := by
  unfold due
  by_cases h : R = 0
  · exact .inl ⟨h, if_pos h⟩
  · exact .inr ⟨h, if_neg h, K37.hi_ne h⟩
theorem size_uniq (hp : Pr p) {f g : S2 (Fq p)} {o o' : Option Nat} (h : K37.Size p (K37.Id f g) o) (h' : K37.Size p (K37.Id f g) o') : o = o' := K37.Size.unique (K37.Id.isSub f g) (by have := (pr17 hp).1; omega) h h'
theorem size_comm {f g : S2 (Fq p)} {o : Option Nat} (h : K37.Size p (K37.Id f g) o) : K37.Size p (K37.Id g f) o := h.congr fun z => ⟨fun q => q.comm, fun q => q.comm⟩
theorem x_row {a b : RX p} (da : K37.dlt a 4) (db : K37.dlt b 4) : RowH (Pl.C a : S2 (Fq p)) (Pl.C b) ∨ ((Pl.C a : S2 (Fq p)) = 0 ∧ (Pl.C b : S2 (Fq p)) = 0) := by
  by_cases h : a = 0 ∧ b = 0
  · rw [h.1, h.2]
    exact .inr ⟨rfl, rfl⟩
  · exact .inl (.inr (.inr ⟨a, b, rfl, rfl, da, db, h⟩))
theorem x_size' (hp : Pr p) {a b c s t : RX p} (hc : c = s * a + t * b) (ha : ∃ u, a = u * c) (hb : ∃ u, b = u * c) : K37.Size p (K37.Id (Pl.C a : S2 (Fq p)) (Pl.C b)) (if K37.hi c = 0 then some 0 else none) := by
  haveI := fd_of hp
  exact K37.x_size hc ha hb p
end
theorem PolyB.fr {p : Nat} [NeZero p] {H H' : Hp} {S L C : Addr} {t : Nat} {a : Addr} {F : S2 (Fq p)} (ls : LS H S L C t) (f : Fr S L H H') (h : PolyB p H a F) : PolyB p H' a F := by
  obtain ⟨ts, ⟨⟨rs, e, k⟩, q⟩, kb⟩ := h
  exact ⟨ts, ⟨⟨rs, ls.tup f e, paired_imp (fun _ _ z => ls.tup f z) k⟩, q⟩, kb⟩
end L2.K37R
end W50
section W51
set_option autoImplicit false
set_option linter.all false
set_option maxRecDepth 100000
/-! the law -/
namespace L2.K37R
open PySem PySem.Spec PyProof.Rows C8 PySem.W
open K37 (S2 Pl)
section
variable {P : Program} {w : World} {K : PySem.W.Frag} {mg : Str → Option Value} {base : Heap}
abbrev sLaw : Stmt := top 80
abbrev nLaw : List Str := ["_law_script", "_law_state", "_law_turn", "_law_prime_here", "_law_one", "_law_other", "_law_result", "_law_due", "_law_row", "_law_first", "_law_second", "_law_found"]
def spLaw (K : PySem.W.Frag) : Sp := fun vs H Q _ => ∃ (l : Addr) (ns : List Int), vs = [.ref l] ∧ SqL K H l (ns.map V.int) ∧ ns.length ≤ 63 ∧ ∀ H', Q (.bl true) H'
theorem scLaw : FnScope nLaw ["_law_script"] (defScope sLaw) := ⟨rfl, rfl, rfl, by decide +kernel, rfl, by decide +kernel, by decide +kernel⟩
set_option maxHeartbeats 4000000 in
theorem ok_law {f : Addr} {fd : FuncData} (F : FnP K "law" sLaw f fd) (B : Bare mg) (cB : Cal P w K mg base 1 "_law_begun" (Wr (spBegun K)) []) (cD : Cal P w K mg base 1 "_law_draw" (Wr spDraw) []) (cR : Cal P w K mg base 3 "_law_prime" (Wr spPrime) []) (cPP : Cal P w K mg base 4 "_law_plain_poly" (Wr spLPP) []) (cS : Cal P w K mg base 4 "_law_some" (Wr spSome) [])
    (cRes : Cal P w K mg base 6 "resultant" (Wr spRes) []) (cHi : Cal P w K mg base 1 "_law_high" (Wr spHigh) []) (cRS : Cal P w K mg base 7 "rest_size" (Wr spRestSize) []) (cO : Cal P w K mg base 7 "ones" (Wr spOnes) []) (cX : Cal P w K mg base 2 "_law_x_poly" (Wr spLX) []) (cC : Cal P w K mg base 6 "common" (Wr spCommon) []) :
    FnOk P w K mg base CX0 8 f fd ["_law_script"] (spLaw K) := by
  refine okP F scLaw (fun vs H Q E h => ?_) (fun cdv A outer s H vs Q E hr h => ?_)
  · obtain ⟨l, ns, rfl, _⟩ := h
    rfl
  · obtain ⟨l, ns, rfl, hl, ln, k⟩ := h
    have nd := scLaw.nd
    refine ⟨_, pss_cons (ps_set (i := 1) nd rfl (.inl rfl) (pe_c cB hr (by decide) (by rfl) (pa_cons (pv 0) pa_nil)))
      (pss_cons (ps_for PassesOwn.never rfl (pi_range1 (by rfl) B.range (pa_cons (pe_op op_add pe_int (pe_callB (call_min2 rfl) (by rfl) B.min (by decide +kernel) (pa_cons (pe_callB call_len_seq (by rfl) B.len (by decide +kernel) (pa_cons (pv 0) pa_nil)) (pa_cons pe_int pa_nil)))) pa_nil)) (pg_name (i := 2) nd rfl (.inl rfl))
        (pss_cons (ps_set (i := 3) nd rfl (.inl rfl) (pe_c cR hr (by decide) (by rfl) (pa_cons (pv 1) pa_nil)))
        (pss_cons (ps_par (i := 4) (j := 5) rfl nd rfl rfl (by decide) rfl rfl (pa_cons (pe_c cPP hr (by decide) (by rfl) (pa_cons (pv 1) (pa_cons (pv 3) pa_nil))) (pa_cons (pe_c cS hr (by decide) (by rfl) (pa_cons (pv 1) (pa_cons (pv 3) (pa_cons pe_int (pa_cons pe_int pa_nil))))) pa_nil)) (by rfl))
        (pss_cons (ps_set (i := 6) nd rfl (.inl rfl) (pe_it (K := K) (pe_c cRes hr (by decide) (by rfl) (pa_cons (pv 3) (pa_cons (pv 4) (pa_cons (pv 5) pa_nil)))) pe_int))
        (pss_cons (ps_set (i := 7) nd rfl (.inl rfl) (pe_via (pe_ifExp (pt_cmpR (op_eqDK (K := K) hr.units) (pv 6) (pe_tup pa_nil) (nomark _)) pe_non (pe_c cHi hr (by decide) (by rfl) (pa_cons (pv 6) (pa_cons pe_int pa_nil))))))
        (pss_cons (ps_set (i := 8) nd rfl (.inl rfl) (pe_via (pe_ifExp (pt_cmpR op_eq (pe_c cD hr (by decide) (by rfl) (pa_cons (pv 1) (pa_cons pe_int pa_nil))) pe_int (nomark _)) (pe_tup (pa_cons (pv 4) (pa_cons (pv 5) pa_nil))) (pe_tup (pa_cons (pv 5) (pa_cons (pv 4) pa_nil))))))
        (pss_cons (ps_via (ps_if (PW.pt (pw_or (pt_cmpR op_ne (pe_callB call_reprO (by rfl) B.repr (by decide +kernel) (pa_cons (pe_c cRS hr (by decide) (by rfl) (pa_cons (pv 3) (pa_cons (pv 8) pa_nil))) pa_nil)) (pe_callB call_reprO (by rfl) B.repr (by decide +kernel) (pa_cons (pv 7) pa_nil)) (nomark _))
          (pw_or1 (pt_cmpR op_ne (pe_cmp (pc_notN (pe_c cO hr (by decide) (by rfl) (pa_cons (pv 3) (pa_cons (pv 8) pa_nil)))) (by with_unfolding_all rfl)) (pe_cmpR op_eq (pv 7) pe_int (nomark _)) (nomark _))))) pss_never pss_nil))
        (pss_cons (ps_par (i := 9) (j := 10) rfl nd rfl rfl (by decide) rfl rfl (pa_cons (pe_c cX hr (by decide) (by rfl) (pa_cons (pv 1) (pa_cons (pv 3) (pa_cons pe_int pa_nil)))) (pa_cons (pe_c cX hr (by decide) (by rfl) (pa_cons (pv 1) (pa_cons (pv 3) (pa_cons pe_int pa_nil)))) pa_nil)) (by rfl))
        (pss_cons (ps_set (i := 11) nd rfl (.inl rfl) (pe_it (K := K) (pe_c cC hr (by decide) (by rfl) (pa_cons (pv 3) (pa_cons (pv 9) (pa_cons (pv 10) pa_nil)))) pe_int))
        (pss_cons (ps_set (i := 7) nd rfl (.inl rfl) (pe_via (pe_ifExp (pt_cmpR op_eq (pe_c cHi hr (by decide) (by rfl) (pa_cons (pv 11) (pa_cons pe_int pa_nil))) pe_int (nomark _)) pe_int pe_non)))
        (pss_one (ps_if (pt_cmpR op_ne (pe_callB call_reprO (by rfl) B.repr (by decide +kernel) (pa_cons (pe_c cRS hr (by decide) (by rfl) (pa_cons (pv 3) (pa_cons (pe_tup (pa_cons (pv 9) (pa_cons (pv 10) pa_nil))) pa_nil))) pa_nil)) (pe_callB call_reprO (by rfl) B.repr (by decide +kernel) (pa_cons (pv 7) pa_nil)) (nomark _)) pss_never pss_nil))))))))))))
      (pss_one (ps_ret pe_bl))), ?_⟩
    refine ⟨_, rfl, wr ⟨l, ns, rfl, hl, ln, fun H1 S L C s1 ls1 nS nL => ?_⟩⟩
    have hl1 := sqL_same s1 hl
    refine ⟨_, rfl, l, _, rfl, .inl hl1, _, _, rfl, _, _, rfl, rfl, ?_⟩
    have lnm : (ns.map V.int).length = ns.length := List.length_map _
    rw [lnm]
    obtain ⟨N, hN, hN6⟩ : ∃ N : Nat, (2 : Int) + (if (4 : Int) < (ns.length : Int) then 4 else (ns.length : Int)) = (N : Int) ∧ N ≤ 6 := by
      by_cases h : (4 : Int) < (ns.length : Int)
      · rw [if_pos h]
        exact ⟨6, rfl, by decide⟩
      · rw [if_neg h]
        exact ⟨2 + ns.length, by omega, by omega⟩
    refine ⟨(N : Int), by rw [← hN], by omega, by omega, ?_⟩
    rw [Int.toNat_natCast]
    refine for_it walk_range0 (fun j σ' H' => ∃ (x2 x3 x4 x5 x6 x7 x8 x9 x10 x11 : Option V) (t : Nat), σ' = [some (.ref l), some (.ref S), x2, x3, x4, x5, x6, x7, x8, x9, x10, x11] ∧ LS H' S L C t ∧ t ≤ 300 * j)
      ⟨none, none, none, none, none, none, none, none, none, none, 0, rfl, ls1, Nat.zero_le _⟩ (fun _ _ _ _ _ => True.intro) ?_ ?_
    · rintro j v σ' H2' H2 hj ⟨x2, x3, x4, x5, x6, x7, x8, x9, x10, x11, t, rfl, ls2, ht⟩ ⟨rfl, rfl⟩
      have hj6 : j < 6 := by omega
      refine ⟨_, rfl, wr ⟨S, L, C, t, rfl, ls2, by omega, fun H3 p t3 f3 ls3 ht3 hp => ?_⟩⟩
      obtain ⟨hp1, hp7⟩ := pr17 hp
      haveI ne : NeZero p := ⟨by omega⟩
      refine ⟨_, rfl, _, rfl, wr ⟨S, L, C, t3, p, ne, rfl, ls3, hp, by omega, fun H4 t4 q4 f f4 ls4 ht4 pf plf => ?_⟩⟩
      refine ⟨_, rfl, _, rfl, wr ⟨S, L, C, t4, p, ne, 2, 2, rfl, ls4, hp, by decide, by decide, by omega, fun H5 t5 q5 g f5 ls5 ht5 pg g0 bg => ?_⟩⟩
      have pf5 := pf.fr ls4 f5
      refine ⟨_, _, rfl, ?_⟩
      obtain ⟨m, n, m1, m3, n2, hf, hg, bf4, bg4, szd⟩ := size_due hp plf g0 bg
      refine ⟨_, rfl, _, rfl, _, rfl, wr ⟨p, ne, q4, q5, f, g, m, n, rfl, hp, pf5, pg, hf, hg, m1, m3, n2, bf4, bg4, fun H6 q6 a1 a2 a3 s6 hq6 pr6 => ?_⟩⟩
      have dR : K37.dlt (rsl m n f g) 64 := (dn_dlt (sylA_dlt bf4.co bg4.co) (m + n)).mono (by omega)
      generalize rsl m n f g = R at szd pr6 dR
      refine ⟨q6, _, _, _, rfl, rfl, SqT.of hq6, rfl, ?_⟩
      have ls6 := ls5.same s6
      have pf6 := pf5.same s6
      have pg6 := pg.same s6
      refine ⟨fun v H' => Same H6 H' ∧ v = ov (due R), ?_, ?_⟩
      · obtain ⟨ts, pt, kt⟩ := pr6
        refine ⟨_, rfl, by show 0 ≤ sizeLine; decide, fun e he => ?_⟩
        have se := same_upd_new (o := .tup []) he
        refine ⟨dpoly ts, .tuple [], dp_poly (pt.same se), dp_nil upd_same, dpoly_shaped ts, nil_shaped, _, rfl, ?_⟩
        rw [dpoly_eqv]
        have pt2 := pt.same se
        generalize upd H6 e (.tup []) = H7 at se pt2 ⊢
        rcases due_val R with ⟨h0, hd⟩ | ⟨h0, hd, hh⟩
        · rw [decide_eq_true (kt.eq_nil.mpr (by rw [h0]; rfl)), hd]
          exact iteT ⟨se, rfl⟩
        · rw [decide_eq_false fun z => h0 (C_inj ((kt.eq_nil.mp z).trans rfl)), hd]
          refine iteF ⟨_, rfl, wr ⟨p, ne, a1, R, rfl, ⟨ts, pt2, kt⟩, dR, fun H8 s8 => ⟨se.trans s8, ?_⟩⟩⟩
          rw [hh]
          rfl
      rintro v H7 ⟨s7, rfl⟩
      have ls7 := ls6.same s7
      have pf7 := pf6.same s7
      have pg7 := pg6.same s7
      have dlt1000 : ∀ o, o = due R → ∀ n, o = some n → n < 1000 := fun o ho n hn => by
        rcases due_val R with ⟨h0, hd⟩ | ⟨h0, hd, hh⟩
        · rw [ho, hd] at hn
          cases hn
        · rw [ho, hd] at hn
          cases hn
          have := (K37.dg_is h0).lt_of_dlt dR
          omega
      refine ⟨fun v H' => ∃ (q8 : Addr) (A1 B1 : S2 (Fq p)) (t8 : Nat), v = .ref q8 ∧ RowB p H' q8 A1 B1 ∧ RowH A1 B1 ∧ (∀ o, K37.Size p (K37.Id A1 B1) o → o = due R) ∧ K37.Size p (K37.Id A1 B1) (due R) ∧ LS H' S L C t8 ∧ t8 ≤ t5 + 1, ?_, ?_⟩
      · refine ⟨_, rfl, wr ⟨S, L, C, t5, 2, rfl, ls7, by decide, by decide, by omega, fun H8 d8 t8 f8 ls8 ht8 hd8 => ⟨rfl, _, rfl, ?_⟩⟩⟩
        have pf8 := pf7.fr ls7 f8
        have pg8 := pg7.fr ls7 f8
        refine ite_eqI (fun _ => ?_) fun _ => ?_
        · refine ⟨_, rfl, _, rfl, by show 2 ≤ sizeLine; decide, fun q hq => ?_⟩
          have sq := same_upd_new (o := .tup [.ref q4, .ref q5]) hq
          exact ⟨q, f, g, t8, rfl, ⟨q4, q5, upd_same, pf8.same sq, pg8.same sq⟩, .inl (plf.row bg g0), fun o h => size_uniq hp h szd, szd, ls8.same sq, ht8⟩
        · refine ⟨_, rfl, _, rfl, by show 2 ≤ sizeLine; decide, fun q hq => ?_⟩
          have sq := same_upd_new (o := .tup [.ref q5, .ref q4]) hq
          exact ⟨q, g, f, t8, rfl, ⟨q5, q4, upd_same, pg8.same sq, pf8.same sq⟩, .inr (.inl (plf.row bg g0)), fun o h => size_uniq hp h (size_comm szd), size_comm szd, ls8.same sq, ht8⟩
      rintro v H8 ⟨q8, A1, B1, t8, rfl, row8, rh, suq, szr, ls8, ht8⟩
      refine ⟨fun σ' H' => σ' = [some (.ref l), some (.ref S), some (.int (j : Int)), some (.int (p : Int)), some (.ref q4), some (.ref q5), some (.ref a1), some (ov (due R)), some (.ref q8), x9, x10, x11] ∧ LS H' S L C t8, ?_, ?_⟩
      · refine ⟨_, rfl, _, rfl, wr ⟨p, ne, q8, A1, B1, rfl, hp, row8, .inl rh, fun H9 o s9 ho => ?_⟩⟩
        have eo := suq o ho
        subst eo
        refine ⟨_, rfl, dlt1000 _ rfl, _, rfl, _, rfl, dlt1000 _ rfl, rfl, _, rfl, ?_⟩
        rw [decide_eq_true rfl]
        refine iteF ?_
        have ls9 := ls8.same s9
        refine ⟨_, rfl, _, rfl, wr ⟨p, ne, q8, A1, B1, rfl, hp, row8.same s9, rh, fun H10 s10 hn => ?_, fun H10 q10 s10 hy => ?_⟩⟩
        · have sc : scal (ov (due R)) (.int 0) = true := by cases due R <;> rfl
          have nv : ov (due R) ≠ .int 0 := fun z => by
            rcases due_val R with ⟨_, hd⟩ | ⟨_, hd, _⟩
            · rw [hd] at z
              cases z
            · rw [hd] at z szr
              have : K37.dg R = 0 := by
                have z := V.int.inj z
                omega
              rw [this] at szr
              exact hn szr
          refine ⟨_, rfl, sc, rfl, _, rfl, ?_⟩
          rw [decide_eq_false nv, decide_eq_true (rfl : V.non = V.non)]
          exact iteF ⟨rfl, ls9.same s10⟩
        · have e0 : due R = some 0 := (suq _ hy).symm
          have sc : scal (ov (due R)) (.int 0) = true := by cases due R <;> rfl
          refine ⟨_, rfl, sc, rfl, _, rfl, ?_⟩
          have e1 : ov (due R) = .int 0 := by
            rw [e0]
            rfl
          rw [decide_eq_true e1, decide_eq_false (show ¬ V.ref q10 = V.non from fun z => nomatch z)]
          exact iteF ⟨rfl, ls9.same s10⟩
      rintro σ' H9 ⟨rfl, ls9⟩
      refine ⟨_, rfl, _, rfl, wr ⟨S, L, C, t8, p, ne, rfl, ls9, hp, by omega, fun H10 t10 q10 a f10 ls10 ht10 pa da => ?_⟩⟩
      refine ⟨_, rfl, _, rfl, wr ⟨S, L, C, t10, p, ne, rfl, ls10, hp, by omega, fun H11 t11 q11 b f11 ls11 ht11 pb db => ?_⟩⟩
      have pa11 := pa.fr ls10 f11
      refine ⟨_, _, rfl, ?_⟩
      refine ⟨_, rfl, _, rfl, _, rfl, wr ⟨p, ne, q10, q11, a, b, rfl, hp, pa11, pb, da, db, fun H12 q12 g1 g2 g3 G Sx Tx s12 hq12 pG dG eG dv1 dv2 => ?_⟩⟩
      refine ⟨q12, _, _, _, rfl, rfl, SqT.of hq12, rfl, ?_⟩
      have ls12 := ls11.same s12
      have pa12 := pa11.same s12
      have pb12 := pb.same s12
      have szx := x_size' hp eG dv1 dv2
      refine ⟨fun v H' => Same H12 H' ∧ v = ov (if K37.hi G = 0 then some 0 else none), ?_, ?_⟩
      · refine ⟨_, rfl, wr ⟨p, ne, g1, G, rfl, pG, dG.mono (by decide), fun H13 s13 => ⟨rfl, _, rfl, ?_⟩⟩⟩
        refine ite_eqI (fun h => ⟨s13, ?_⟩) fun h => ⟨s13, ?_⟩
        · rw [if_pos h]
          rfl
        · rw [if_neg h]
          rfl
      rintro v H13 ⟨s13, rfl⟩
      have b1000 : ∀ n, (if K37.hi G = 0 then some 0 else none : Option Nat) = some n → n < 1000 := fun n hn => by
        split at hn
        · cases hn
          decide
        · cases hn
      generalize (if K37.hi G = 0 then some 0 else none : Option Nat) = oG at szx b1000 ⊢
      refine ⟨_, rfl, _, rfl, _, rfl, by show 2 ≤ sizeLine; decide, fun q hq => ?_⟩
      have sq := same_upd_new (o := .tup [.ref q10, .ref q11]) hq
      refine wr ⟨p, ne, q, Pl.C a, Pl.C b, rfl, hp, ⟨q10, q11, upd_same, (pa12.same s13).same sq, (pb12.same s13).same sq⟩, x_row da db, fun H14 o s14 ho => ?_⟩
      have eo := size_uniq hp ho szx
      subst eo
      refine ⟨_, rfl, b1000, _, rfl, _, rfl, b1000, rfl, _, rfl, ?_⟩
      rw [decide_eq_true rfl]
      exact iteF ⟨_, _, _, _, _, _, _, _, _, _, t11, rfl, ls12.same (s13.trans (sq.trans s14)), by omega⟩
    · rintro σ' H2 ⟨x2, x3, x4, x5, x6, x7, x8, x9, x10, x11, t, rfl, ls2, ht⟩
      exact k _
end
end L2.K37R
end W51
section W52
set_option autoImplicit false
set_option linter.all false
set_option maxRecDepth 100000
namespace L2.K37R
open PySem PySem.Spec PyProof.Rows C8
/-! ### what TURNS says -/
theorem seqOf_ok {K : PySem.W.Frag} {a : Addr} {us : List Value} {vs : List V} (h : seqOf K a = some us) (r : Vals vs us) (H : Hp) : SqT K H a vs := by
  unfold seqOf at h
  split at h
  · next c od its n sl q =>
    split at h
    · next e1 =>
      split at h
      · next e2 =>
        injection h with h
        subst h
        exact .inr ⟨_, its, n, q, congrArg Value.type e1, rfl, e2, r⟩
      · cases h
    · cases h
  · cases h
theorem sqB_ok {K : PySem.W.Frag} {vs : List V} {u : Value} (h : sqB K vs u = true) (H : Hp) : ∃ a, u = .ref a ∧ SqT K H a vs := by
  cases u with
  | ref a =>
    have h2 : (match seqOf K a with
      | some us => He.relAll vs us
      | none => false) = true := h
    cases e : seqOf K a with
    | none =>
      rw [e] at h2
      cases h2
    | some us =>
      rw [e] at h2
      exact ⟨a, rfl, seqOf_ok e (He.relAll_ok h2) H⟩
  | _ => cases h
theorem tuB_ok {K : PySem.W.Frag} (h : tuB K = true) (H : Hp) : ∃ vs, SqT K H (He.ga K "TURNS") vs ∧ vs.length = 6 ∧ ∀ i v, vs[i]? = some v → TnAt K H v (tn i) := by
  unfold tuB at h
  split at h
  · next a b c d e q =>
    obtain ⟨h1, h⟩ := He.ba h
    obtain ⟨h2, h⟩ := He.ba h
    obtain ⟨h3, h⟩ := He.ba h
    obtain ⟨h4, h5⟩ := He.ba h
    obtain ⟨a1, rfl, s1⟩ := sqB_ok h1 H
    obtain ⟨a2, rfl, s2⟩ := sqB_ok h2 H
    obtain ⟨a3, rfl, s3⟩ := sqB_ok h3 H
    obtain ⟨a4, rfl, s4⟩ := sqB_ok h4 H
    obtain ⟨a5, rfl, s5⟩ := sqB_ok h5 H
    refine ⟨[.non, .ref a1, .ref a2, .ref a3, .ref a4, .ref a5], seqOf_ok (vs := [.non, .ref a1, .ref a2, .ref a3, .ref a4, .ref a5]) q (.cons rfl (.cons rfl (.cons rfl (.cons rfl (.cons rfl (.cons rfl .nil)))))) H, rfl, fun i v hv => ?_⟩
    match i, hv with
    | 0, hv =>
      cases hv
      rfl
    | 1, hv =>
      cases hv
      exact ⟨a1, rfl, s1⟩
    | 2, hv =>
      cases hv
      exact ⟨a2, rfl, s2⟩
    | 3, hv =>
      cases hv
      exact ⟨a3, rfl, s3⟩
    | 4, hv =>
      cases hv
      exact ⟨a4, rfl, s4⟩
    | 5, hv =>
      cases hv
      exact ⟨a5, rfl, s5⟩
    | i + 6, hv => cases hv
  · cases h
end L2.K37R
end W52
section W53
set_option autoImplicit false
set_option maxHeartbeats 0
set_option Elab.async false
set_option linter.all false
set_option maxRecDepth 100000
namespace L2.K37R
open PySem PySem.Spec PyProof.Rows C8
section
variable {P : Program} {w : World} {K : PySem.W.Frag} {h : Heap} {mg : Str → Option Value}
theorem cal_of {base : Heap} {k : Nat} {x : Str} {sp : Sp} {f : Addr} {fd : FuncData} {ps : List Str} (o : FnOk P w K mg base CX0 k f fd ps sp) (g : mg x = some (.ref f)) (kp : PySem.W.keepIn K (.ref f) = true) (b : Binds K fd ps []) : Cal P w K mg base k x sp [] :=
  ⟨f, fd, ps, [], o, g, kp, b, .nil⟩
theorem bare (X : K.In h) (G : h.Ns mainGlobals mg) (c : He.SaysD fa fn K) : Bare mg :=
  ⟨He.free_ok X G (c.fact 65 (f := .free "int") rfl), He.free_ok X G (c.fact 66 (f := .free "bool") rfl), He.free_ok X G (c.fact 67 (f := .free "tuple") rfl), He.free_ok X G (c.fact 68 (f := .free "list") rfl), He.free_ok X G (c.fact 69 (f := .free "dict") rfl), He.free_ok X G (c.fact 70 (f := .free "len") rfl), He.free_ok X G (c.fact 71 (f := .free "isinstance") rfl), He.free_ok X G (c.fact 72 (f := .free "range") rfl), He.free_ok X G (c.fact 73 (f := .free "all") rfl), He.free_ok X G (c.fact 74 (f := .free "max") rfl), He.free_ok X G (c.fact 75 (f := .free "min") rfl), He.free_ok X G (c.fact 76 (f := .free "sum") rfl), He.free_ok X G (c.fact 77 (f := .free "abs") rfl), He.free_ok X G (c.fact 78 (f := .free "repr") rfl), He.free_ok X G (c.fact 79 (f := .free "sorted") rfl), He.free_ok X G (c.fact 80 (f := .free "zip") rfl), He.free_ok X G (c.fact 81 (f := .free "enumerate") rfl)⟩
/-- every def keeps its promise, law last -/
theorem chain (X : K.In h) (G : h.Ns mainGlobals mg) (tu : tuB K = true) (c : He.SaysD fa fn K) (base : Heap) {f : Addr} {fd : FuncData} (F : FnP K "law" sLaw f fd) : FnOk P w K mg base CX0 8 f fd ["_law_script"] (spLaw K) := by
  have B := bare X G c
  obtain ⟨fd_moved_up, F_moved_up⟩ := c.def_ 0 (d := d_moved_up) rfl
  have g_moved_up : mg "moved_up" = some (.ref (He.ga K "moved_up")) := He.glo_ok X G (c.fact 0 (f := .glo "moved_up") rfl)
  have c_moved_up : Cal P w K mg base 1 "moved_up" spMoved [] := cal_of (ps := ["book", "power"]) (ok_moved F_moved_up ) g_moved_up F_moved_up.kp (F_moved_up.bindsN fun _ _ _ _ _ _ us hl => match us, hl with | [_, _], _ => rfl)
  obtain ⟨fd_raised, F_raised⟩ := c.def_ 1 (d := d_raised) rfl
  have g_raised : mg "raised" = some (.ref (He.ga K "raised")) := He.glo_ok X G (c.fact 1 (f := .glo "raised") rfl)
  have c_raised : Cal P w K mg base 1 "raised" spRaised [] := cal_of (ps := ["book", "power"]) (ok_raised F_raised ) g_raised F_raised.kp (F_raised.bindsN fun _ _ _ _ _ _ us hl => match us, hl with | [_, _], _ => rfl)
  obtain ⟨fd_part_at, F_part_at⟩ := c.def_ 2 (d := d_part_at) rfl
  have g_part_at : mg "part_at" = some (.ref (He.ga K "part_at")) := He.glo_ok X G (c.fact 2 (f := .glo "part_at") rfl)
  have c_part_at : Cal P w K mg base 1 "part_at" spPart [] := cal_of (ps := ["book", "power"]) (ok_part F_part_at ) g_part_at F_part_at.kp (F_part_at.bindsN fun _ _ _ _ _ _ us hl => match us, hl with | [_, _], _ => rfl)
  obtain ⟨fd_scaled, F_scaled⟩ := c.def_ 3 (d := d_scaled) rfl
  have g_scaled : mg "scaled" = some (.ref (He.ga K "scaled")) := He.glo_ok X G (c.fact 3 (f := .glo "scaled") rfl)
  have c_scaled : Cal P w K mg base 1 "scaled" spScaled [] := cal_of (ps := ["prime", "book", "number"]) (ok_scaled F_scaled ) g_scaled F_scaled.kp (F_scaled.bindsN fun _ _ _ _ _ _ us hl => match us, hl with | [_, _, _], _ => rfl)
  obtain ⟨fd_highest, F_highest⟩ := c.def_ 4 (d := d_highest) rfl
  have g_highest : mg "highest" = some (.ref (He.ga K "highest")) := He.glo_ok X G (c.fact 4 (f := .glo "highest") rfl)
  have c_highest : Cal P w K mg base 1 "highest" spHighest [] := cal_of (ps := ["book", "spot"]) (ok_highest F_highest B.max) g_highest F_highest.kp (F_highest.bindsN fun _ _ _ _ _ _ us hl => match us, hl with | [_, _], _ => rfl)
  obtain ⟨fd_added, F_added⟩ := c.def_ 5 (d := d_added) rfl
  have g_added : mg "added" = some (.ref (He.ga K "added")) := He.glo_ok X G (c.fact 5 (f := .glo "added") rfl)
  have o_added : FnOk P w K mg base CX0 1 (He.ga K "added") fd_added ["prime", "one", "other", "number"] spAdded := ok_added F_added B.dict
  obtain ⟨ds1, v1, b1⟩ := FunD.binds1 (ps := ["prime", "one", "other", "number"]) F_added 3 0 (fun z => nomatch z) rfl fun T kV doc pm an cdv ct us its hl hi => match us, hl, its, hi with | [_, _, _], _, [_], _ => ⟨_, rfl, rfl⟩
  obtain ⟨ds2, v2, b2⟩ := FunD.binds1 (ps := ["prime", "one", "other", "number"]) F_added 4 1 (fun z => nomatch z) rfl fun T kV doc pm an cdv ct us its hl hi => match us, hl, its, hi with | [_, _, _, _], _, [_], _ => ⟨_, rfl, rfl⟩
  have c1_added : Cal P w K mg base 1 "added" spAdded [.int 1] := ⟨_, _, _, ds1, o_added, g_added, F_added.kp, b1, v1⟩
  have c_added : Cal P w K mg base 1 "added" spAdded [] := ⟨_, _, _, ds2, o_added, g_added, F_added.kp, b2, v2⟩
  obtain ⟨fd_product, F_product⟩ := c.def_ 6 (d := d_product) rfl
  have g_product : mg "product" = some (.ref (He.ga K "product")) := He.glo_ok X G (c.fact 6 (f := .glo "product") rfl)
  have c_product : Cal P w K mg base 1 "product" spProduct [] := cal_of (ps := ["prime", "one", "other"]) (ok_product F_product B.len) g_product F_product.kp (F_product.bindsN fun _ _ _ _ _ _ us hl => match us, hl with | [_, _, _], _ => rfl)
  obtain ⟨fd_poly_of, F_poly_of⟩ := c.def_ 7 (d := d_poly_of) rfl
  have g_poly_of : mg "poly_of" = some (.ref (He.ga K "poly_of")) := He.glo_ok X G (c.fact 7 (f := .glo "poly_of") rfl)
  have c_poly_of : Cal P w K mg base 1 "poly_of" spPolyOf [] := cal_of (ps := ["book"]) (ok_polyOf F_poly_of B.tuple B.sorted) g_poly_of F_poly_of.kp (F_poly_of.bindsN fun _ _ _ _ _ _ us hl => match us, hl with | [_], _ => rfl)
  obtain ⟨fd_book_of, F_book_of⟩ := c.def_ 8 (d := d_book_of) rfl
  have g_book_of : mg "book_of" = some (.ref (He.ga K "book_of")) := He.glo_ok X G (c.fact 8 (f := .glo "book_of") rfl)
  have c_book_of : Cal P w K mg base 1 "book_of" spBookOf [] := cal_of (ps := ["poly"]) (ok_bookOf F_book_of ) g_book_of F_book_of.kp (F_book_of.bindsN fun _ _ _ _ _ _ us hl => match us, hl with | [_], _ => rfl)
  obtain ⟨fd_back_of, F_back_of⟩ := c.def_ 10 (d := d_back_of) rfl
  have g_back_of : mg "back_of" = some (.ref (He.ga K "back_of")) := He.glo_ok X G (c.fact 10 (f := .glo "back_of") rfl)
  have c_back_of : Cal P w K mg base 1 "back_of" spBack [] := cal_of (ps := ["prime", "number"]) (ok_back F_back_of B.range) g_back_of F_back_of.kp (F_back_of.bindsN fun _ _ _ _ _ _ us hl => match us, hl with | [_, _], _ => rfl)
  obtain ⟨fd_is_between, F_is_between⟩ := c.def_ 13 (d := d_is_between) rfl
  have g_is_between : mg "is_between" = some (.ref (He.ga K "is_between")) := He.glo_ok X G (c.fact 13 (f := .glo "is_between") rfl)
  have c_is_between : Cal P w K mg base 1 "is_between" (Wr spBetween) [] := cal_of (ps := ["thing", "low", "high"]) (ok_between F_is_between B) g_is_between F_is_between.kp (F_is_between.bindsN fun _ _ _ _ _ _ us hl => match us, hl with | [_, _, _], _ => rfl)
  obtain ⟨fd_about, F_about⟩ := c.def_ 25 (d := d_about) rfl
  have g_about : mg "about" = some (.ref (He.ga K "about")) := He.glo_ok X G (c.fact 25 (f := .glo "about") rfl)
  have c_about : Cal P w K mg base 1 "about" (Wr (spAbout K)) [] := cal_of (ps := ["turn"]) (ok_about F_about ) g_about F_about.kp (F_about.bindsN fun _ _ _ _ _ _ us hl => match us, hl with | [_], _ => rfl)
  obtain ⟨fd__law_begun, F__law_begun⟩ := c.def_ 45 (d := d__law_begun) rfl
  have g__law_begun : mg "_law_begun" = some (.ref (He.ga K "_law_begun")) := He.glo_ok X G (c.fact 45 (f := .glo "_law_begun") rfl)
  have c__law_begun : Cal P w K mg base 1 "_law_begun" (Wr (spBegun K)) [] := cal_of (ps := ["_law_script"]) (ok_begun F__law_begun B) g__law_begun F__law_begun.kp (F__law_begun.bindsN fun _ _ _ _ _ _ us hl => match us, hl with | [_], _ => rfl)
  obtain ⟨fd__law_draw, F__law_draw⟩ := c.def_ 46 (d := d__law_draw) rfl
  have g__law_draw : mg "_law_draw" = some (.ref (He.ga K "_law_draw")) := He.glo_ok X G (c.fact 46 (f := .glo "_law_draw") rfl)
  have c__law_draw : Cal P w K mg base 1 "_law_draw" (Wr spDraw) [] := cal_of (ps := ["_law_state", "_law_size_here"]) (ok_draw F__law_draw B) g__law_draw F__law_draw.kp (F__law_draw.bindsN fun _ _ _ _ _ _ us hl => match us, hl with | [_, _], _ => rfl)
  obtain ⟨fd__law_high, F__law_high⟩ := c.def_ 50 (d := d__law_high) rfl
  have g__law_high : mg "_law_high" = some (.ref (He.ga K "_law_high")) := He.glo_ok X G (c.fact 50 (f := .glo "_law_high") rfl)
  have c__law_high : Cal P w K mg base 1 "_law_high" (Wr spHigh) [] := cal_of (ps := ["_law_poly_here", "_law_spot"]) (ok_lhigh F__law_high B) g__law_high F__law_high.kp (F__law_high.bindsN fun _ _ _ _ _ _ us hl => match us, hl with | [_, _], _ => rfl)
  obtain ⟨fd__law_dict, F__law_dict⟩ := c.def_ 51 (d := d__law_dict) rfl
  have g__law_dict : mg "_law_dict" = some (.ref (He.ga K "_law_dict")) := He.glo_ok X G (c.fact 51 (f := .glo "_law_dict") rfl)
  have c__law_dict : Cal P w K mg base 1 "_law_dict" (Wr spLDict) [] := cal_of (ps := ["_law_poly_here"]) (ok_ldict F__law_dict B) g__law_dict F__law_dict.kp (F__law_dict.bindsN fun _ _ _ _ _ _ us hl => match us, hl with | [_], _ => rfl)
  obtain ⟨fd__law_poly_of, F__law_poly_of⟩ := c.def_ 52 (d := d__law_poly_of) rfl
  have g__law_poly_of : mg "_law_poly_of" = some (.ref (He.ga K "_law_poly_of")) := He.glo_ok X G (c.fact 52 (f := .glo "_law_poly_of") rfl)
  have c__law_poly_of : Cal P w K mg base 1 "_law_poly_of" (Wr spLPoly) [] := cal_of (ps := ["_law_told"]) (ok_lpolyOf F__law_poly_of B) g__law_poly_of F__law_poly_of.kp (F__law_poly_of.bindsN fun _ _ _ _ _ _ us hl => match us, hl with | [_], _ => rfl)
  obtain ⟨fd__law_added, F__law_added⟩ := c.def_ 53 (d := d__law_added) rfl
  have g__law_added : mg "_law_added" = some (.ref (He.ga K "_law_added")) := He.glo_ok X G (c.fact 53 (f := .glo "_law_added") rfl)
  have c__law_added : Cal P w K mg base 1 "_law_added" (Wr spLAdd) [] := cal_of (ps := ["_law_prime_here", "_law_one", "_law_other", "_law_number"]) (ok_ladd F__law_added B) g__law_added F__law_added.kp (F__law_added.bindsN fun _ _ _ _ _ _ us hl => match us, hl with | [_, _, _, _], _ => rfl)
  obtain ⟨fd_told, F_told⟩ := c.def_ 9 (d := d_told) rfl
  have g_told : mg "told" = some (.ref (He.ga K "told")) := He.glo_ok X G (c.fact 9 (f := .glo "told") rfl)
  have c_told : Cal P w K mg base 2 "told" spTold [] := cal_of (ps := ["book"]) (ok_told F_told (He.int_ok X G (c.fact 61 (f := .int "MOST_POWER" 999) rfl)) c_poly_of) g_told F_told.kp (F_told.bindsN fun _ _ _ _ _ _ us hl => match us, hl with | [_], _ => rfl)
  obtain ⟨fd_divide, F_divide⟩ := c.def_ 11 (d := d_divide) rfl
  have g_divide : mg "divide" = some (.ref (He.ga K "divide")) := He.glo_ok X G (c.fact 11 (f := .glo "divide") rfl)
  have c_divide : Cal P w K mg base 2 "divide" spDivide [] := cal_of (ps := ["prime", "one", "other"]) (ok_divide F_divide B.dict c_highest c_back_of c_added c_moved_up) g_divide F_divide.kp (F_divide.bindsN fun _ _ _ _ _ _ us hl => match us, hl with | [_, _, _], _ => rfl)
  obtain ⟨fd_need_prime, F_need_prime⟩ := c.def_ 14 (d := d_need_prime) rfl
  have g_need_prime : mg "need_prime" = some (.ref (He.ga K "need_prime")) := He.glo_ok X G (c.fact 14 (f := .glo "need_prime") rfl)
  have c_need_prime : Cal P w K mg base 2 "need_prime" (Wr spNeedPrime) [] := cal_of (ps := ["prime"]) (ok_needPrime F_need_prime c_is_between) g_need_prime F_need_prime.kp (F_need_prime.bindsN fun _ _ _ _ _ _ us hl => match us, hl with | [_], _ => rfl)
  obtain ⟨fd_is_term, F_is_term⟩ := c.def_ 15 (d := d_is_term) rfl
  have g_is_term : mg "is_term" = some (.ref (He.ga K "is_term")) := He.glo_ok X G (c.fact 15 (f := .glo "is_term") rfl)
  have c_is_term : Cal P w K mg base 2 "is_term" (Wr spIsTerm) [] := cal_of (ps := ["prime", "thing"]) (ok_isTerm F_is_term B (He.int_ok X G (c.fact 61 (f := .int "MOST_POWER" 999) rfl)) c_is_between) g_is_term F_is_term.kp (F_is_term.bindsN fun _ _ _ _ _ _ us hl => match us, hl with | [_, _], _ => rfl)
  obtain ⟨fd_need_small_row, F_need_small_row⟩ := c.def_ 22 (d := d_need_small_row) rfl
  have g_need_small_row : mg "need_small_row" = some (.ref (He.ga K "need_small_row")) := He.glo_ok X G (c.fact 22 (f := .glo "need_small_row") rfl)
  have c_need_small_row : Cal P w K mg base 2 "need_small_row" (Wr spNeedSmall) [] := cal_of (ps := ["row"]) (ok_needSmall F_need_small_row B (He.int_ok X G (c.fact 64 (f := .int "MOST_SMALL" 3) rfl)) (cal_wr c_highest) (cal_wr c_book_of)) g_need_small_row F_need_small_row.kp (F_need_small_row.bindsN fun _ _ _ _ _ _ us hl => match us, hl with | [_], _ => rfl)
  obtain ⟨fd_put_in, F_put_in⟩ := c.def_ 23 (d := d_put_in) rfl
  have g_put_in : mg "put_in" = some (.ref (He.ga K "put_in")) := He.glo_ok X G (c.fact 23 (f := .glo "put_in") rfl)
  have c_put_in : Cal P w K mg base 2 "put_in" (Wr spPutIn) [] := cal_of (ps := ["prime", "book", "one", "other"]) (ok_putIn F_put_in B (cal_wr c_highest) (cal_wr c_added) (cal_wr c1_added) (cal_wr c_product)) g_put_in F_put_in.kp (F_put_in.bindsN fun _ _ _ _ _ _ us hl => match us, hl with | [_, _, _, _], _ => rfl)
  obtain ⟨fd_plain, F_plain⟩ := c.def_ 24 (d := d_plain) rfl
  have g_plain : mg "plain" = some (.ref (He.ga K "plain")) := He.glo_ok X G (c.fact 24 (f := .glo "plain") rfl)
  have c_plain : Cal P w K mg base 2 "plain" (Wr spPlain) [] := cal_of (ps := ["book"]) (ok_plain F_plain (cal_wr c_highest) (cal_wr c_part_at)) g_plain F_plain.kp (F_plain.bindsN fun _ _ _ _ _ _ us hl => match us, hl with | [_], _ => rfl)
  obtain ⟨fd_divide_in_y, F_divide_in_y⟩ := c.def_ 27 (d := d_divide_in_y) rfl
  have g_divide_in_y : mg "divide_in_y" = some (.ref (He.ga K "divide_in_y")) := He.glo_ok X G (c.fact 27 (f := .glo "divide_in_y") rfl)
  have c_divide_in_y : Cal P w K mg base 2 "divide_in_y" (Wr spDivY) [] := cal_of (ps := ["prime", "one", "other"]) (ok_divY F_divide_in_y B (cal_wr c_highest) (cal_wr c_raised) (cal_wr c_part_at) (cal_wr c_added) (cal_wr c1_added) (cal_wr c_product)) g_divide_in_y F_divide_in_y.kp (F_divide_in_y.bindsN fun _ _ _ _ _ _ us hl => match us, hl with | [_, _, _], _ => rfl)
  obtain ⟨fd_row_less, F_row_less⟩ := c.def_ 28 (d := d_row_less) rfl
  have g_row_less : mg "row_less" = some (.ref (He.ga K "row_less")) := He.glo_ok X G (c.fact 28 (f := .glo "row_less") rfl)
  have c_row_less : Cal P w K mg base 2 "row_less" (Wr spRowLess) [] := cal_of (ps := ["prime", "row", "factor", "other"]) (ok_rowLess F_row_less B (cal_wr c_added) (cal_wr c_product)) g_row_less F_row_less.kp (F_row_less.bindsN fun _ _ _ _ _ _ us hl => match us, hl with | [_, _, _, _], _ => rfl)
  obtain ⟨fd_number_in, F_number_in⟩ := c.def_ 31 (d := d_number_in) rfl
  have g_number_in : mg "number_in" = some (.ref (He.ga K "number_in")) := He.glo_ok X G (c.fact 31 (f := .glo "number_in") rfl)
  have c_number_in : Cal P w K mg base 2 "number_in" (Wr spNumberIn) [] := cal_of (ps := ["prime", "book"]) (ok_numberIn F_number_in (cal_wr c_highest) (cal_wr c_back_of)) g_number_in F_number_in.kp (F_number_in.bindsN fun _ _ _ _ _ _ us hl => match us, hl with | [_, _], _ => rfl)
  obtain ⟨fd_sum_of, F_sum_of⟩ := c.def_ 33 (d := d_sum_of) rfl
  have g_sum_of : mg "sum_of" = some (.ref (He.ga K "sum_of")) := He.glo_ok X G (c.fact 33 (f := .glo "sum_of") rfl)
  have c_sum_of : Cal P w K mg base 2 "sum_of" (Wr spSumOf) [] := cal_of (ps := ["prime", "one", "other"]) (ok_sumOf F_sum_of B (cal_wr c1_added) (cal_wr c_product)) g_sum_of F_sum_of.kp (F_sum_of.bindsN fun _ _ _ _ _ _ us hl => match us, hl with | [_, _, _], _ => rfl)
  obtain ⟨fd_sylvester, F_sylvester⟩ := c.def_ 40 (d := d_sylvester) rfl
  have g_sylvester : mg "sylvester" = some (.ref (He.ga K "sylvester")) := He.glo_ok X G (c.fact 40 (f := .glo "sylvester") rfl)
  have c_sylvester : Cal P w K mg base 2 "sylvester" (Wr spSyl) [] := cal_of (ps := ["one", "other"]) (ok_syl F_sylvester B (cal_wr c_highest) (cal_wr c_part_at)) g_sylvester F_sylvester.kp (F_sylvester.bindsN fun _ _ _ _ _ _ us hl => match us, hl with | [_, _], _ => rfl)
  obtain ⟨fd__law_pick, F__law_pick⟩ := c.def_ 47 (d := d__law_pick) rfl
  have g__law_pick : mg "_law_pick" = some (.ref (He.ga K "_law_pick")) := He.glo_ok X G (c.fact 47 (f := .glo "_law_pick") rfl)
  have c__law_pick : Cal P w K mg base 2 "_law_pick" (Wr spPick) [] := cal_of (ps := ["_law_state", "_law_several"]) (ok_pick F__law_pick B c__law_draw) g__law_pick F__law_pick.kp (F__law_pick.bindsN fun _ _ _ _ _ _ us hl => match us, hl with | [_, _], _ => rfl)
  obtain ⟨fd__law_mixed, F__law_mixed⟩ := c.def_ 49 (d := d__law_mixed) rfl
  have g__law_mixed : mg "_law_mixed" = some (.ref (He.ga K "_law_mixed")) := He.glo_ok X G (c.fact 49 (f := .glo "_law_mixed") rfl)
  have c__law_mixed : Cal P w K mg base 2 "_law_mixed" (Wr spMixed) [] := cal_of (ps := ["_law_state", "_law_several"]) (ok_mixed F__law_mixed B c__law_draw) g__law_mixed F__law_mixed.kp (F__law_mixed.bindsN fun _ _ _ _ _ _ us hl => match us, hl with | [_, _], _ => rfl)
  obtain ⟨fd__law_plus, F__law_plus⟩ := c.def_ 54 (d := d__law_plus) rfl
  have g__law_plus : mg "_law_plus" = some (.ref (He.ga K "_law_plus")) := He.glo_ok X G (c.fact 54 (f := .glo "_law_plus") rfl)
  have c__law_plus : Cal P w K mg base 2 "_law_plus" (Wr spLPlus) [] := cal_of (ps := ["_law_prime_here", "_law_one", "_law_other"]) (ok_lplus F__law_plus c__law_poly_of c__law_added c__law_dict) g__law_plus F__law_plus.kp (F__law_plus.bindsN fun _ _ _ _ _ _ us hl => match us, hl with | [_, _, _], _ => rfl)
  obtain ⟨fd__law_x_poly, F__law_x_poly⟩ := c.def_ 57 (d := d__law_x_poly) rfl
  have g__law_x_poly : mg "_law_x_poly" = some (.ref (He.ga K "_law_x_poly")) := He.glo_ok X G (c.fact 57 (f := .glo "_law_x_poly") rfl)
  have c__law_x_poly : Cal P w K mg base 2 "_law_x_poly" (Wr spLX) [] := cal_of (ps := ["_law_state", "_law_prime_here", "_law_most"]) (ok_lx F__law_x_poly B c__law_draw) g__law_x_poly F__law_x_poly.kp (F__law_x_poly.bindsN fun _ _ _ _ _ _ us hl => match us, hl with | [_, _, _], _ => rfl)
  obtain ⟨fd_euclid, F_euclid⟩ := c.def_ 12 (d := d_euclid) rfl
  have g_euclid : mg "euclid" = some (.ref (He.ga K "euclid")) := He.glo_ok X G (c.fact 12 (f := .glo "euclid") rfl)
  have c_euclid : Cal P w K mg base 3 "euclid" spEuclid [] := cal_of (ps := ["prime", "one", "other"]) (ok_euclid F_euclid B.dict B.zip B.tuple (cal_wr c_highest) (cal_wr c_back_of) (cal_wr c_added) (cal_wr c_product) (cal_wr c_divide) (cal_wr c_scaled)) g_euclid F_euclid.kp (F_euclid.bindsN fun _ _ _ _ _ _ us hl => match us, hl with | [_, _, _], _ => rfl)
  obtain ⟨fd_polys_right, F_polys_right⟩ := c.def_ 16 (d := d_polys_right) rfl
  have g_polys_right : mg "polys_right" = some (.ref (He.ga K "polys_right")) := He.glo_ok X G (c.fact 16 (f := .glo "polys_right") rfl)
  have c_polys_right : Cal P w K mg base 3 "polys_right" (Wr spPolysRight) [] := cal_of (ps := ["prime", "thing"]) (ok_polysRight F_polys_right B c_is_term) g_polys_right F_polys_right.kp (F_polys_right.bindsN fun _ _ _ _ _ _ us hl => match us, hl with | [_, _], _ => rfl)
  obtain ⟨fd_turn_book, F_turn_book⟩ := c.def_ 26 (d := d_turn_book) rfl
  have g_turn_book : mg "turn_book" = some (.ref (He.ga K "turn_book")) := He.glo_ok X G (c.fact 26 (f := .glo "turn_book") rfl)
  have c_turn_book : Cal P w K mg base 3 "turn_book" (Wr (spTurnBook K)) [] := cal_of (ps := ["prime", "book", "turn"]) (ok_turnBook F_turn_book (cal_wr c_added) c_put_in) g_turn_book F_turn_book.kp (F_turn_book.bindsN fun _ _ _ _ _ _ us hl => match us, hl with | [_, _, _], _ => rfl)
  obtain ⟨fd_pivot_at, F_pivot_at⟩ := c.def_ 29 (d := d_pivot_at) rfl
  have g_pivot_at : mg "pivot_at" = some (.ref (He.ga K "pivot_at")) := He.glo_ok X G (c.fact 29 (f := .glo "pivot_at") rfl)
  have c_pivot_at : Cal P w K mg base 3 "pivot_at" (Wr spPivotAt) [] := cal_of (ps := ["prime", "line", "power"]) (ok_pivotAt F_pivot_at B (cal_wr c_highest) (cal_wr c_part_at) (cal_wr c_divide) c_row_less) g_pivot_at F_pivot_at.kp (F_pivot_at.bindsN fun _ _ _ _ _ _ us hl => match us, hl with | [_, _, _], _ => rfl)
  obtain ⟨fd_filled_up, F_filled_up⟩ := c.def_ 34 (d := d_filled_up) rfl
  have g_filled_up : mg "filled_up" = some (.ref (He.ga K "filled_up")) := He.glo_ok X G (c.fact 34 (f := .glo "filled_up") rfl)
  have c_filled_up : Cal P w K mg base 3 "filled_up" (Wr spFilled) [] := cal_of (ps := ["prime", "first", "others", "multiples"]) (ok_filled F_filled_up B (cal_wr c_added) c_divide_in_y c_sum_of) g_filled_up F_filled_up.kp (F_filled_up.bindsN fun _ _ _ _ _ _ us hl => match us, hl with | [_, _, _, _], _ => rfl)
  obtain ⟨fd_det_of, F_det_of⟩ := c.def_ 41 (d := d_det_of) rfl
  have g_det_of : mg "det_of" = some (.ref (He.ga K "det_of")) := He.glo_ok X G (c.fact 41 (f := .glo "det_of") rfl)
  have c_det_of : Cal P w K mg base 3 "det_of" (Wr spDet) [] := cal_of (ps := ["prime", "rows"]) (ok_det F_det_of B (cal_wr c_added) (cal_wr c_product) (cal_wr c_scaled) (cal_wr c_divide)) g_det_of F_det_of.kp (F_det_of.bindsN fun _ _ _ _ _ _ us hl => match us, hl with | [_, _], _ => rfl)
  obtain ⟨fd__law_prime, F__law_prime⟩ := c.def_ 48 (d := d__law_prime) rfl
  have g__law_prime : mg "_law_prime" = some (.ref (He.ga K "_law_prime")) := He.glo_ok X G (c.fact 48 (f := .glo "_law_prime") rfl)
  have c__law_prime : Cal P w K mg base 3 "_law_prime" (Wr spPrime) [] := cal_of (ps := ["_law_state"]) (ok_prime F__law_prime c__law_pick) g__law_prime F__law_prime.kp (F__law_prime.bindsN fun _ _ _ _ _ _ us hl => match us, hl with | [_], _ => rfl)
  obtain ⟨fd__law_poly, F__law_poly⟩ := c.def_ 55 (d := d__law_poly) rfl
  have g__law_poly : mg "_law_poly" = some (.ref (He.ga K "_law_poly")) := He.glo_ok X G (c.fact 55 (f := .glo "_law_poly") rfl)
  have c__law_poly : Cal P w K mg base 3 "_law_poly" (Wr spLP) [] := cal_of (ps := ["_law_state", "_law_prime_here", "_law_most_x", "_law_most_y"]) (ok_lp F__law_poly B c__law_draw c__law_pick c__law_mixed) g__law_poly F__law_poly.kp (F__law_poly.bindsN fun _ _ _ _ _ _ us hl => match us, hl with | [_, _, _, _], _ => rfl)
  obtain ⟨fd_need_poly, F_need_poly⟩ := c.def_ 17 (d := d_need_poly) rfl
  have g_need_poly : mg "need_poly" = some (.ref (He.ga K "need_poly")) := He.glo_ok X G (c.fact 17 (f := .glo "need_poly") rfl)
  have c_need_poly : Cal P w K mg base 4 "need_poly" (Wr spNeedPoly) [] := cal_of (ps := ["prime", "poly"]) (ok_needPoly F_need_poly c_polys_right) g_need_poly F_need_poly.kp (F_need_poly.bindsN fun _ _ _ _ _ _ us hl => match us, hl with | [_, _], _ => rfl)
  obtain ⟨fd_rows_right, F_rows_right⟩ := c.def_ 20 (d := d_rows_right) rfl
  have g_rows_right : mg "rows_right" = some (.ref (He.ga K "rows_right")) := He.glo_ok X G (c.fact 20 (f := .glo "rows_right") rfl)
  have c_rows_right : Cal P w K mg base 4 "rows_right" (Wr spRowsRight) [] := cal_of (ps := ["prime", "thing"]) (ok_rowsRight F_rows_right B (He.int_ok X G (c.fact 62 (f := .int "LEAST_ENTRIES" 2) rfl)) (He.int_ok X G (c.fact 63 (f := .int "MOST_ENTRIES" 4) rfl)) c_polys_right) g_rows_right F_rows_right.kp (F_rows_right.bindsN fun _ _ _ _ _ _ us hl => match us, hl with | [_, _], _ => rfl)
  obtain ⟨fd_pivots_of, F_pivots_of⟩ := c.def_ 30 (d := d_pivots_of) rfl
  have g_pivots_of : mg "pivots_of" = some (.ref (He.ga K "pivots_of")) := He.glo_ok X G (c.fact 30 (f := .glo "pivots_of") rfl)
  have c_pivots_of : Cal P w K mg base 4 "pivots_of" (Wr spPivots) [] := cal_of (ps := ["prime", "first", "others"]) (ok_pivots F_pivots_of B (cal_wr c_highest) (cal_wr c_raised) c_divide_in_y c_pivot_at) g_pivots_of F_pivots_of.kp (F_pivots_of.bindsN fun _ _ _ _ _ _ us hl => match us, hl with | [_, _, _], _ => rfl)
  obtain ⟨fd_turned_books, F_turned_books⟩ := c.def_ 32 (d := d_turned_books) rfl
  have g_turned_books : mg "turned_books" = some (.ref (He.ga K "turned_books")) := He.glo_ok X G (c.fact 32 (f := .glo "turned_books") rfl)
  have c_turned_books : Cal P w K mg base 4 "turned_books" (Wr (spTurned K)) [] := cal_of (ps := ["prime", "books", "turn"]) (ok_turned F_turned_books c_turn_book) g_turned_books F_turned_books.kp (F_turned_books.bindsN fun _ _ _ _ _ _ us hl => match us, hl with | [_, _, _], _ => rfl)
  obtain ⟨fd_cofactor, F_cofactor⟩ := c.def_ 42 (d := d_cofactor) rfl
  have g_cofactor : mg "cofactor" = some (.ref (He.ga K "cofactor")) := He.glo_ok X G (c.fact 42 (f := .glo "cofactor") rfl)
  have c_cofactor : Cal P w K mg base 4 "cofactor" (Wr spCof) [] := cal_of (ps := ["prime", "rows", "spot"]) (ok_cof F_cofactor B (cal_wr c_scaled) c_det_of) g_cofactor F_cofactor.kp (F_cofactor.bindsN fun _ _ _ _ _ _ us hl => match us, hl with | [_, _, _], _ => rfl)
  obtain ⟨fd__law_some, F__law_some⟩ := c.def_ 56 (d := d__law_some) rfl
  have g__law_some : mg "_law_some" = some (.ref (He.ga K "_law_some")) := He.glo_ok X G (c.fact 56 (f := .glo "_law_some") rfl)
  have c__law_some : Cal P w K mg base 4 "_law_some" (Wr spSome) [] := cal_of (ps := ["_law_state", "_law_prime_here", "_law_most_x", "_law_most_y"]) (ok_some F__law_some c__law_draw c__law_poly) g__law_some F__law_some.kp (F__law_some.bindsN fun _ _ _ _ _ _ us hl => match us, hl with | [_, _, _, _], _ => rfl)
  obtain ⟨fd__law_plain_poly, F__law_plain_poly⟩ := c.def_ 58 (d := d__law_plain_poly) rfl
  have g__law_plain_poly : mg "_law_plain_poly" = some (.ref (He.ga K "_law_plain_poly")) := He.glo_ok X G (c.fact 58 (f := .glo "_law_plain_poly") rfl)
  have c__law_plain_poly : Cal P w K mg base 4 "_law_plain_poly" (Wr spLPP) [] := cal_of (ps := ["_law_state", "_law_prime_here"]) (ok_lpp F__law_plain_poly B c__law_draw c__law_poly c__law_plus) g__law_plain_poly F__law_plain_poly.kp (F__law_plain_poly.bindsN fun _ _ _ _ _ _ us hl => match us, hl with | [_, _], _ => rfl)
  obtain ⟨fd_need_x_poly, F_need_x_poly⟩ := c.def_ 18 (d := d_need_x_poly) rfl
  have g_need_x_poly : mg "need_x_poly" = some (.ref (He.ga K "need_x_poly")) := He.glo_ok X G (c.fact 18 (f := .glo "need_x_poly") rfl)
  have c_need_x_poly : Cal P w K mg base 5 "need_x_poly" (Wr spNeedX) [] := cal_of (ps := ["prime", "poly"]) (ok_needX F_need_x_poly c_need_poly) g_need_x_poly F_need_x_poly.kp (F_need_x_poly.bindsN fun _ _ _ _ _ _ us hl => match us, hl with | [_, _], _ => rfl)
  obtain ⟨fd_need_row, F_need_row⟩ := c.def_ 21 (d := d_need_row) rfl
  have g_need_row : mg "need_row" = some (.ref (He.ga K "need_row")) := He.glo_ok X G (c.fact 21 (f := .glo "need_row") rfl)
  have c_need_row : Cal P w K mg base 5 "need_row" (Wr spNeedRow) [] := cal_of (ps := ["prime", "row"]) (ok_needRow F_need_row c_need_prime c_rows_right) g_need_row F_need_row.kp (F_need_row.bindsN fun _ _ _ _ _ _ us hl => match us, hl with | [_, _], _ => rfl)
  obtain ⟨fd_best_turn, F_best_turn⟩ := c.def_ 35 (d := d_best_turn) rfl
  have g_best_turn : mg "best_turn" = some (.ref (He.ga K "best_turn")) := He.glo_ok X G (c.fact 35 (f := .glo "best_turn") rfl)
  have c_best_turn : Cal P w K mg base 5 "best_turn" (Wr (spBest K)) [] := cal_of (ps := ["prime", "books"]) (ok_best F_best_turn B (He.ga K "TURNS") (He.glo_ok X G (c.fact 60 (f := .glo "TURNS") rfl)) (tuB_ok tu) (cal_wr c_highest) c_plain c_turned_books) g_best_turn F_best_turn.kp (F_best_turn.bindsN fun _ _ _ _ _ _ us hl => match us, hl with | [_, _], _ => rfl)
  obtain ⟨fd_resultant_of, F_resultant_of⟩ := c.def_ 43 (d := d_resultant_of) rfl
  have g_resultant_of : mg "resultant_of" = some (.ref (He.ga K "resultant_of")) := He.glo_ok X G (c.fact 43 (f := .glo "resultant_of") rfl)
  have c_resultant_of : Cal P w K mg base 5 "resultant_of" (Wr spResOf) [] := cal_of (ps := ["prime", "one", "other"]) (ok_resOf F_resultant_of B (cal_wr c_highest) (cal_wr c1_added) (cal_wr c_product) c_sylvester c_cofactor) g_resultant_of F_resultant_of.kp (F_resultant_of.bindsN fun _ _ _ _ _ _ us hl => match us, hl with | [_, _, _], _ => rfl)
  obtain ⟨fd_common, F_common⟩ := c.def_ 19 (d := d_common) rfl
  have g_common : mg "common" = some (.ref (He.ga K "common")) := He.glo_ok X G (c.fact 19 (f := .glo "common") rfl)
  have c_common : Cal P w K mg base 6 "common" (Wr spCommon) [] := cal_of (ps := ["prime", "one", "other"]) (ok_common F_common B c_need_prime c_need_x_poly (cal_wr c_euclid) (cal_wr c_poly_of) (cal_wr c_book_of)) g_common F_common.kp (F_common.bindsN fun _ _ _ _ _ _ us hl => match us, hl with | [_, _, _], _ => rfl)
  obtain ⟨fd_rest_size_of, F_rest_size_of⟩ := c.def_ 36 (d := d_rest_size_of) rfl
  have g_rest_size_of : mg "rest_size_of" = some (.ref (He.ga K "rest_size_of")) := He.glo_ok X G (c.fact 36 (f := .glo "rest_size_of") rfl)
  have c_rest_size_of : Cal P w K mg base 6 "rest_size_of" (Wr spRestOf) [] := cal_of (ps := ["prime", "books"]) (ok_restOf F_rest_size_of B (cal_wr c_highest) (cal_wr c_part_at) (cal_wr c_scaled) c_number_in c_best_turn c_pivots_of) g_rest_size_of F_rest_size_of.kp (F_rest_size_of.bindsN fun _ _ _ _ _ _ us hl => match us, hl with | [_, _], _ => rfl)
  obtain ⟨fd_ones_of, F_ones_of⟩ := c.def_ 37 (d := d_ones_of) rfl
  have g_ones_of : mg "ones_of" = some (.ref (He.ga K "ones_of")) := He.glo_ok X G (c.fact 37 (f := .glo "ones_of") rfl)
  have c_ones_of : Cal P w K mg base 6 "ones_of" (Wr spOnesOf) [] := cal_of (ps := ["prime", "books"]) (ok_onesOf F_ones_of B (cal_wr c_highest) (cal_wr c_scaled) c_number_in c_best_turn c_pivots_of c_filled_up c_turn_book c_about) g_ones_of F_ones_of.kp (F_ones_of.bindsN fun _ _ _ _ _ _ us hl => match us, hl with | [_, _], _ => rfl)
  obtain ⟨fd_resultant, F_resultant⟩ := c.def_ 44 (d := d_resultant) rfl
  have g_resultant : mg "resultant" = some (.ref (He.ga K "resultant")) := He.glo_ok X G (c.fact 44 (f := .glo "resultant") rfl)
  have c_resultant : Cal P w K mg base 6 "resultant" (Wr spRes) [] := cal_of (ps := ["prime", "one", "other"]) (ok_res F_resultant B c_need_prime c_need_poly (cal_wr c_book_of) (cal_wr c_highest) c_resultant_of (cal_wr c_told)) g_resultant F_resultant.kp (F_resultant.bindsN fun _ _ _ _ _ _ us hl => match us, hl with | [_, _, _], _ => rfl)
  obtain ⟨fd_rest_size, F_rest_size⟩ := c.def_ 38 (d := d_rest_size) rfl
  have g_rest_size : mg "rest_size" = some (.ref (He.ga K "rest_size")) := He.glo_ok X G (c.fact 38 (f := .glo "rest_size") rfl)
  have c_rest_size : Cal P w K mg base 7 "rest_size" (Wr spRestSize) [] := cal_of (ps := ["prime", "row"]) (ok_restSize F_rest_size c_need_row c_need_small_row (cal_wr c_book_of) c_rest_size_of) g_rest_size F_rest_size.kp (F_rest_size.bindsN fun _ _ _ _ _ _ us hl => match us, hl with | [_, _], _ => rfl)
  obtain ⟨fd_ones, F_ones⟩ := c.def_ 39 (d := d_ones) rfl
  have g_ones : mg "ones" = some (.ref (He.ga K "ones")) := He.glo_ok X G (c.fact 39 (f := .glo "ones") rfl)
  have c_ones : Cal P w K mg base 7 "ones" (Wr spOnes) [] := cal_of (ps := ["prime", "row"]) (ok_ones F_ones B c_need_row c_need_small_row (cal_wr c_book_of) c_ones_of (cal_wr c_poly_of)) g_ones F_ones.kp (F_ones.bindsN fun _ _ _ _ _ _ us hl => match us, hl with | [_, _], _ => rfl)
  exact ok_law F B c__law_begun c__law_draw c__law_prime c__law_plain_poly c__law_some c_resultant c__law_high c_rest_size c_ones c__law_x_poly c_common
theorem facts {f : Addr} (X : K.In h) (G : h.Ns mainGlobals mg) (hfa : mg ("law" : Str) = some (.ref f)) (tu : tuB K = true) (c : He.SaysD fa fn K) :
    ∃ fd : FuncData, (∀ (s : Shared) (v : Value), BindsTo s fd ⟨[v], []⟩ [("_law_script", v)]) ∧ ∀ base : Heap, K.In base → base.Ns mainGlobals mg → FnOk P w K mg base CX0 8 f fd ["_law_script"] (spLaw K) := by
  obtain ⟨fd, F⟩ := c.def_ 59 (d := d_law) rfl
  have e := hfa.symm.trans (He.glo_ok X G (c.fact 59 (f := .glo "law") rfl))
  cases e
  have b := FunD.bindsA (ps := ["_law_script"]) F fun _ _ _ _ _ _ us hl => match us, hl with | [_], _ => rfl
  exact ⟨fd, fun s v => b s [v] rfl, fun base _ _ => chain X G tu c base F⟩
end
end L2.K37R
end W53
set_option autoImplicit false
set_option Elab.async false
set_option linter.all false
set_option maxRecDepth 100000
set_option maxHeartbeats 0
open PySem PySem.W PySem.Calls PyProof.Rows
theorem PySem.Challenge.cw_rowsfilled_k37_whole_rest_sizes_and_resu_holds : PySem.Challenge.rw_rowsfilled_k37_whole_rest_sizes_and_resu.Holds := by
  w_on; o_law
  refine HandSHeadRun.head_any (r := OpenLaw.row PySem.Challenge.rw_rowsfilled_k37_whole_rest_sizes_and_resu) (q := view (OpenLaw.row PySem.Challenge.rw_rowsfilled_k37_whole_rest_sizes_and_resu).prog [80]) (H := L2.K37R.hk) (ob := L2.K37R.ob) (M := 4000) (loose := L2.K37R.ls) (d := HandSHeadRun.topDef (OpenLaw.row PySem.Challenge.rw_rowsfilled_k37_whole_rest_sizes_and_resu).prog 80) (kwd := []) L2.K37R.ob_eq
    (by kernel_rfl) (fun s => by kernel_rfl) L2.K37R.run (by kernel_rfl) (by kernel_rfl) (by kernel_rfl) (by rfl) (by first | assumption | decide +kernel) (by decide +kernel) ⟨rfl, rfl, rfl, rfl, rfl, by decide +kernel⟩ ?hw ?hc
  case hw => w_witness2
  case hc =>
    refine L2.walk_ofE (l := PySem.Challenge.rw_rowsfilled_k37_whole_rest_sizes_and_resu) (n := 63) (k := 8) (x := "_law_script") (CX := L2.CX0) rfl (by decide) (by kernel_rfl) ⟨rfl, by decide, by decide⟩ ?F (fun _ _ _ _ z => z)
    intro w mg fa h Y G hmg0
    obtain ⟨K, KX, tu, c⟩ := Y
    have hmg : mg ("law" : PySem.Str) = some (.ref fa) := by
      have e : (HandSHeadRun.topDef (OpenLaw.row PySem.Challenge.rw_rowsfilled_k37_whole_rest_sizes_and_resu).prog 80).name = ("law" : PySem.Str) := by kernel_rfl
      rw [← e]
      exact hmg0
    obtain ⟨fd, hb, hF⟩ := L2.K37R.facts (P := (PySem.Challenge.rw_rowsfilled_k37_whole_rest_sizes_and_resu).prog) (w := w) KX G hmg tu c
    exact ⟨K, fd, L2.K37R.spLaw K, KX, hb, fun H a ns hl _ hS => ⟨a, ns, rfl, hS, hl, fun _ => rfl⟩, hF⟩
