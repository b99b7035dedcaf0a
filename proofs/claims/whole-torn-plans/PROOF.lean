import PyProof.Rows.All
import Wide.All
import OpenK.AllK
import Wide.FinOn
import KE.KStateDown
import Lean
import HandS.ForMost
import HandS.Exc
import HandS.More
import HandS.WordsExc
import HandS.Defaults
import HandS.Head0
import HandS.Head1
import HandS.Head2
import HandS.HeadEnd
import HandS.HeadHook1
import HandS.HeadHook2
import HandS.HeadHook3
import HandS.HeadHook4
import HandS.HeadWalk
import HandS.Lambda
import PySem.Challenge.RW_bothplans_k11_whole_torn_plans
import HandS.Walk
import HandS.Zip
import HandS.Conv
import HandS.Style
import HandS.TupAny
import HandS.Deep
import HandS.TupSets
import HandS.SetFor
import HandS.IsInst
import HandS.DictComp
import HandS.CallLocal
import KE.GoesEnum
import KE.GoesMore
import KE.GoesZip
import HandS.Star
import HandS.Small
import HandS.SetKeys
import PyProof.DictMoreH
import HandS.SortInts
import HandS.NamedTupSort
import HandS.Strs
import KE.KeyNested
set_option Elab.async false
set_option linter.all false
set_option maxRecDepth 100000
set_option maxHeartbeats 0
namespace Tx
open PySem PySem.Spec PyProof.Rows L2
def top (i : Nat) : Stmt := PySem.Challenge.pw_bothplans_k11_whole_torn_plans.main.body.getD i (.Pass ⟨0, 0, 0, 0⟩)
abbrev f_is_integer : Stmt := top 5
abbrev f_is_number : Stmt := top 6
abbrev f_is_index : Stmt := top 7
abbrev f_is_sequence : Stmt := top 8
abbrev f_is_state_of : Stmt := top 10
abbrev m_init : Stmt := inClass (top 11) 0
abbrev m_found : Stmt := inClass (top 11) 2
abbrev m_index_of : Stmt := inClass (top 11) 3
abbrev f_checked_lot : Stmt := top 12
abbrev f_same_keys : Stmt := top 13
abbrev f_other_keys : Stmt := top 14
abbrev f_seen_on : Stmt := top 15
abbrev f_near : Stmt := top 16
abbrev f_changed_key : Stmt := top 18
abbrev f_find_near : Stmt := top 19
abbrev f_near_by_keys : Stmt := top 20
abbrev f_homes_of : Stmt := top 21
abbrev f_homes : Stmt := top 22
abbrev f_together : Stmt := top 23
abbrev f_whole : Stmt := top 24
abbrev f_all_lots : Stmt := top 25
abbrev f_find_joined : Stmt := top 27
abbrev f_is_joined : Stmt := top 28
abbrev f_views : Stmt := top 30
abbrev f_first_fault : Stmt := top 31
abbrev f_is_allowed : Stmt := top 32
abbrev f_nearest_apart : Stmt := top 34
abbrev f_part_of : Stmt := top 35
abbrev f_torn_plans : Stmt := top 36
abbrev f_is_lot : Stmt := top 37
abbrev f_is_asked : Stmt := top 38
abbrev f_are_torn_plans : Stmt := top 39
abbrev f_law_draw : Stmt := top 41
abbrev f_law_any : Stmt := top 42
abbrev f_law_of : Stmt := top 43
abbrev f_law_mixed : Stmt := top 44
abbrev f_law_all : Stmt := top 45
abbrev f_law_sizes : Stmt := top 46
abbrev f_law_store : Stmt := top 47
abbrev f_law_question : Stmt := top 48
abbrev f_law_lots : Stmt := top 49
abbrev f_law_tells : Stmt := top 50
abbrev f_law_beside : Stmt := top 51
abbrev f_law_homes : Stmt := top 52
abbrev f_law_apart : Stmt := top 53
abbrev f_law_pairs_apart : Stmt := top 54
abbrev f_law_is_state : Stmt := top 55
abbrev f_law_given : Stmt := top 56
abbrev f_law_is_lot : Stmt := top 57
abbrev f_law_is_torn : Stmt := top 58
abbrev f_law_part_question : Stmt := top 59
abbrev f_law_divided : Stmt := top 60
abbrev f_law_near : Stmt := top 61
abbrev f_law : Stmt := top 62
def df_is_integer : He.DefD := ⟨("is_integer", none), "is_integer", "is_integer", defArgs f_is_integer, defBody f_is_integer, defScope f_is_integer, [], []⟩
def df_is_number : He.DefD := ⟨("is_number", none), "is_number", "is_number", defArgs f_is_number, defBody f_is_number, defScope f_is_number, [], []⟩
def df_is_index : He.DefD := ⟨("is_index", none), "is_index", "is_index", defArgs f_is_index, defBody f_is_index, defScope f_is_index, [], []⟩
def df_is_sequence : He.DefD := ⟨("is_sequence", none), "is_sequence", "is_sequence", defArgs f_is_sequence, defBody f_is_sequence, defScope f_is_sequence, [], []⟩
def df_is_state_of : He.DefD := ⟨("is_state_of", none), "is_state_of", "is_state_of", defArgs f_is_state_of, defBody f_is_state_of, defScope f_is_state_of, [], []⟩
def dm_init : He.DefD := ⟨("Store", some "__init__"), "__init__", "Store.__init__", defArgs m_init, defBody m_init, defScope m_init, [], []⟩
def dm_found : He.DefD := ⟨("Store", some "found"), "found", "Store.found", defArgs m_found, defBody m_found, defScope m_found, [], []⟩
def dm_index_of : He.DefD := ⟨("Store", some "index_of"), "index_of", "Store.index_of", defArgs m_index_of, defBody m_index_of, defScope m_index_of, [], []⟩
def df_checked_lot : He.DefD := ⟨("checked_lot", none), "checked_lot", "checked_lot", defArgs f_checked_lot, defBody f_checked_lot, defScope f_checked_lot, [], []⟩
def df_same_keys : He.DefD := ⟨("same_keys", none), "same_keys", "same_keys", defArgs f_same_keys, defBody f_same_keys, defScope f_same_keys, [], []⟩
def df_other_keys : He.DefD := ⟨("other_keys", none), "other_keys", "other_keys", defArgs f_other_keys, defBody f_other_keys, defScope f_other_keys, [], []⟩
def df_seen_on : He.DefD := ⟨("seen_on", none), "seen_on", "seen_on", defArgs f_seen_on, defBody f_seen_on, defScope f_seen_on, [], []⟩
def df_near : He.DefD := ⟨("near", none), "near", "near", defArgs f_near, defBody f_near, defScope f_near, [], []⟩
def df_changed_key : He.DefD := ⟨("changed_key", none), "changed_key", "changed_key", defArgs f_changed_key, defBody f_changed_key, defScope f_changed_key, [], []⟩
def df_find_near : He.DefD := ⟨("find_near", none), "find_near", "find_near", defArgs f_find_near, defBody f_find_near, defScope f_find_near, [], []⟩
def df_near_by_keys : He.DefD := ⟨("near_by_keys", none), "near_by_keys", "near_by_keys", defArgs f_near_by_keys, defBody f_near_by_keys, defScope f_near_by_keys, [], []⟩
def df_homes_of : He.DefD := ⟨("homes_of", none), "homes_of", "homes_of", defArgs f_homes_of, defBody f_homes_of, defScope f_homes_of, [], []⟩
def df_homes : He.DefD := ⟨("homes", none), "homes", "homes", defArgs f_homes, defBody f_homes, defScope f_homes, [], []⟩
def df_together : He.DefD := ⟨("together", none), "together", "together", defArgs f_together, defBody f_together, defScope f_together, [], []⟩
def df_whole : He.DefD := ⟨("whole", none), "whole", "whole", defArgs f_whole, defBody f_whole, defScope f_whole, [], []⟩
def df_all_lots : He.DefD := ⟨("all_lots", none), "all_lots", "all_lots", defArgs f_all_lots, defBody f_all_lots, defScope f_all_lots, [], []⟩
def df_find_joined : He.DefD := ⟨("find_joined", none), "find_joined", "find_joined", defArgs f_find_joined, defBody f_find_joined, defScope f_find_joined, [], []⟩
def df_is_joined : He.DefD := ⟨("is_joined", none), "is_joined", "is_joined", defArgs f_is_joined, defBody f_is_joined, defScope f_is_joined, [], []⟩
def df_views : He.DefD := ⟨("views", none), "views", "views", defArgs f_views, defBody f_views, defScope f_views, [], []⟩
def df_first_fault : He.DefD := ⟨("first_fault", none), "first_fault", "first_fault", defArgs f_first_fault, defBody f_first_fault, defScope f_first_fault, [], []⟩
def df_is_allowed : He.DefD := ⟨("is_allowed", none), "is_allowed", "is_allowed", defArgs f_is_allowed, defBody f_is_allowed, defScope f_is_allowed, [], []⟩
def df_nearest_apart : He.DefD := ⟨("nearest_apart", none), "nearest_apart", "nearest_apart", defArgs f_nearest_apart, defBody f_nearest_apart, defScope f_nearest_apart, [], []⟩
def df_part_of : He.DefD := ⟨("part_of", none), "part_of", "part_of", defArgs f_part_of, defBody f_part_of, defScope f_part_of, [], []⟩
def df_torn_plans : He.DefD := ⟨("torn_plans", none), "torn_plans", "torn_plans", defArgs f_torn_plans, defBody f_torn_plans, defScope f_torn_plans, [], []⟩
def df_is_lot : He.DefD := ⟨("is_lot", none), "is_lot", "is_lot", defArgs f_is_lot, defBody f_is_lot, defScope f_is_lot, [], []⟩
def df_is_asked : He.DefD := ⟨("is_asked", none), "is_asked", "is_asked", defArgs f_is_asked, defBody f_is_asked, defScope f_is_asked, [], []⟩
def df_are_torn_plans : He.DefD := ⟨("are_torn_plans", none), "are_torn_plans", "are_torn_plans", defArgs f_are_torn_plans, defBody f_are_torn_plans, defScope f_are_torn_plans, [], []⟩
def df_law_draw : He.DefD := ⟨("_law_draw", none), "_law_draw", "_law_draw", defArgs f_law_draw, defBody f_law_draw, defScope f_law_draw, [], []⟩
def df_law_any : He.DefD := ⟨("_law_any", none), "_law_any", "_law_any", defArgs f_law_any, defBody f_law_any, defScope f_law_any, [], []⟩
def df_law_of : He.DefD := ⟨("_law_of", none), "_law_of", "_law_of", defArgs f_law_of, defBody f_law_of, defScope f_law_of, [], []⟩
def df_law_mixed : He.DefD := ⟨("_law_mixed", none), "_law_mixed", "_law_mixed", defArgs f_law_mixed, defBody f_law_mixed, defScope f_law_mixed, [], []⟩
def df_law_all : He.DefD := ⟨("_law_all", none), "_law_all", "_law_all", defArgs f_law_all, defBody f_law_all, defScope f_law_all, [], []⟩
def df_law_sizes : He.DefD := ⟨("_law_sizes", none), "_law_sizes", "_law_sizes", defArgs f_law_sizes, defBody f_law_sizes, defScope f_law_sizes, [], []⟩
def df_law_store : He.DefD := ⟨("_law_store", none), "_law_store", "_law_store", defArgs f_law_store, defBody f_law_store, defScope f_law_store, [], []⟩
def df_law_question : He.DefD := ⟨("_law_question", none), "_law_question", "_law_question", defArgs f_law_question, defBody f_law_question, defScope f_law_question, [], []⟩
def df_law_lots : He.DefD := ⟨("_law_lots", none), "_law_lots", "_law_lots", defArgs f_law_lots, defBody f_law_lots, defScope f_law_lots, [], []⟩
def df_law_tells : He.DefD := ⟨("_law_tells", none), "_law_tells", "_law_tells", defArgs f_law_tells, defBody f_law_tells, defScope f_law_tells, [], []⟩
def df_law_beside : He.DefD := ⟨("_law_beside", none), "_law_beside", "_law_beside", defArgs f_law_beside, defBody f_law_beside, defScope f_law_beside, [], []⟩
def df_law_homes : He.DefD := ⟨("_law_homes", none), "_law_homes", "_law_homes", defArgs f_law_homes, defBody f_law_homes, defScope f_law_homes, [], []⟩
def df_law_apart : He.DefD := ⟨("_law_apart", none), "_law_apart", "_law_apart", defArgs f_law_apart, defBody f_law_apart, defScope f_law_apart, [], []⟩
def df_law_pairs_apart : He.DefD := ⟨("_law_pairs_apart", none), "_law_pairs_apart", "_law_pairs_apart", defArgs f_law_pairs_apart, defBody f_law_pairs_apart, defScope f_law_pairs_apart, [], []⟩
def df_law_is_state : He.DefD := ⟨("_law_is_state", none), "_law_is_state", "_law_is_state", defArgs f_law_is_state, defBody f_law_is_state, defScope f_law_is_state, [], []⟩
def df_law_given : He.DefD := ⟨("_law_given", none), "_law_given", "_law_given", defArgs f_law_given, defBody f_law_given, defScope f_law_given, [], []⟩
def df_law_is_lot : He.DefD := ⟨("_law_is_lot", none), "_law_is_lot", "_law_is_lot", defArgs f_law_is_lot, defBody f_law_is_lot, defScope f_law_is_lot, [], []⟩
def df_law_is_torn : He.DefD := ⟨("_law_is_torn", none), "_law_is_torn", "_law_is_torn", defArgs f_law_is_torn, defBody f_law_is_torn, defScope f_law_is_torn, [], []⟩
def df_law_part_question : He.DefD := ⟨("_law_part_question", none), "_law_part_question", "_law_part_question", defArgs f_law_part_question, defBody f_law_part_question, defScope f_law_part_question, [], []⟩
def df_law_divided : He.DefD := ⟨("_law_divided", none), "_law_divided", "_law_divided", defArgs f_law_divided, defBody f_law_divided, defScope f_law_divided, [], []⟩
def df_law_near : He.DefD := ⟨("_law_near", none), "_law_near", "_law_near", defArgs f_law_near, defBody f_law_near, defScope f_law_near, [], []⟩
def df_law : He.DefD := ⟨("law", none), "law", "law", defArgs f_law, defBody f_law, defScope f_law, [], []⟩
def fn0 : List He.DefD := [df_is_integer, df_is_number, df_is_index, df_is_sequence, df_is_state_of, dm_init, dm_found, dm_index_of, df_checked_lot, df_same_keys, df_other_keys, df_seen_on, df_near, df_changed_key, df_find_near, df_near_by_keys, df_homes_of, df_homes, df_together, df_whole, df_all_lots, df_find_joined, df_is_joined, df_views, df_first_fault, df_is_allowed, df_nearest_apart, df_part_of, df_torn_plans, df_is_lot]
def fn1 : List He.DefD := [df_is_asked, df_are_torn_plans, df_law_draw, df_law_any, df_law_of, df_law_mixed, df_law_all, df_law_sizes, df_law_store, df_law_question, df_law_lots, df_law_tells, df_law_beside, df_law_homes, df_law_apart, df_law_pairs_apart, df_law_is_state, df_law_given, df_law_is_lot, df_law_is_torn, df_law_part_question, df_law_divided, df_law_near, df_law]
def fn : List He.DefD := fn0 ++ fn1
def fa0 : List He.Fa := [.glo "is_integer", .glo "is_number", .glo "is_index", .glo "is_sequence", .glo "is_state_of", .glo "checked_lot", .glo "same_keys", .glo "other_keys", .glo "seen_on", .glo "near", .glo "changed_key", .glo "find_near", .glo "near_by_keys", .glo "homes_of", .glo "homes", .glo "together", .glo "whole", .glo "all_lots", .glo "find_joined", .glo "is_joined", .glo "views", .glo "first_fault", .glo "is_allowed", .glo "nearest_apart", .glo "part_of", .glo "torn_plans", .glo "is_lot", .glo "is_asked", .glo "are_torn_plans", .glo "_law_draw"]
def fa1 : List He.Fa := [.glo "_law_any", .glo "_law_of", .glo "_law_mixed", .glo "_law_all", .glo "_law_sizes", .glo "_law_store", .glo "_law_question", .glo "_law_lots", .glo "_law_tells", .glo "_law_beside", .glo "_law_homes", .glo "_law_apart", .glo "_law_pairs_apart", .glo "_law_is_state", .glo "_law_given", .glo "_law_is_lot", .glo "_law_is_torn", .glo "_law_part_question", .glo "_law_divided", .glo "_law_near", .glo "law", .glo "Store", .cls "Store", .mkr "Store", .meth "Store" "found", .meth "Store" "index_of", .keep "Store", .noat "Store" "key_count", .noat "Store" "sizes", .noat "Store" "states"]
def fa2 : List He.Fa := [.noat "Store" "_index", .noat "Store" "_found", .free "len", .free "isinstance", .free "all", .free "zip", .free "enumerate", .free "tuple", .free "sorted", .free "set", .free "range", .free "list", .free "abs", .free "int", .free "bool", .free "sum", .free "min", .free "repr"]
def fa : List He.Fa := fa0 ++ fa1 ++ fa2
def ls0 : List Str := ["PlanError", "InvalidStore", "InvalidLot", "is_integer", "is_number", "is_index", "is_sequence", "is_state_of", "Store", "checked_lot", "same_keys", "other_keys", "seen_on", "near", "changed_key", "find_near", "near_by_keys", "homes_of", "homes", "together", "whole", "all_lots", "find_joined", "is_joined", "views", "first_fault", "is_allowed", "nearest_apart", "part_of", "torn_plans"]
def ls1 : List Str := ["is_lot", "is_asked", "are_torn_plans", "_law_draw", "_law_any", "_law_of", "_law_mixed", "_law_all", "_law_sizes", "_law_store", "_law_question", "_law_lots", "_law_tells", "_law_beside", "_law_homes", "_law_apart", "_law_pairs_apart", "_law_is_state", "_law_given", "_law_is_lot", "_law_is_torn", "_law_part_question", "_law_divided", "_law_near"]
def ls : List Str := ls0 ++ ls1
end Tx
namespace Tx
open PySem PySem.Spec PyProof.Rows L2
abbrev R : PySem.W.OpenRow := PySem.W.OpenLaw.row PySem.Challenge.rw_bothplans_k11_whole_torn_plans
def tf : List He.Defn := [("homes", none)]
abbrev hk : PySem.W.Hook := He.hookX 5 fa fn [] tf fun _ => true
def ob (s : PySem.W.SharedT) : He.AlX := He.obsX 5 fa fn [] tf (fun _ => true) (HandSHeadRun.getT s)
theorem ob_eq (s : PySem.W.SharedT) : ob s = hk.obs s.abs := He.obsX_eq (HandSHeadRun.getT_eq s)
theorem run (w : World) : HandSHeadRun.RunEq R (PySem.W.view R.prog [62]) hk ob 4000 ls w := by
  intro os
  kernel_rfl
end Tx
/-! The data layer: plain data D, what stands for it in the abstract heap, environments of slots. -/
namespace DL
open PySem PySem.Spec PyProof.Rows L2
/-- plain data -/
inductive D where
  | non | bl (b : Bool) | int (i : Int) | str (x : Str) | tup (xs : List D) | lst (xs : List D) | dct (kvs : List (List Int × D)) | ref (a : Addr)
/-- v stands for the data d in the heap H -/
inductive Is (H : Hp) : V → D → Prop
  | non : Is H .non .non
  | bl (b : Bool) : Is H (.bl b) (.bl b)
  | int (i : Int) : Is H (.int i) (.int i)
  | str (x : Str) : Is H (.str x) (.str x)
  | ref (a : Addr) : Is H (.ref a) (.ref a)
  | tup {a : Addr} {ys : List V} {xs : List D} : H a = some (.tup ys) → ys.length = xs.length → (∀ (i : Nat) y x, ys[i]? = some y → xs[i]? = some x → Is H y x) → Is H (.ref a) (.tup xs)
  | lst {a : Addr} {ys : List V} {xs : List D} : H a = some (.lst ys) → ys.length = xs.length → (∀ (i : Nat) y x, ys[i]? = some y → xs[i]? = some x → Is H y x) → Is H (.ref a) (.lst xs)
  | dct {a : Addr} {ps : List (List Key × V)} {kvs : List (List Int × D)} : H a = some (.dT ps) → ps.length = kvs.length → (∀ (i : Nat) p q, ps[i]? = some p → kvs[i]? = some q → p.1 = q.1.map Sum.inl) →
      (∀ (i : Nat) p q, ps[i]? = some p → kvs[i]? = some q → Is H p.2 q.2) → Is H (.ref a) (.dct kvs)
theorem Is.mono {H H' : Hp} (e : Same H H') {v : V} {d : D} (h : Is H v d) : Is H' v d := by
  induction h with
  | non => exact .non
  | bl b => exact .bl b
  | int i => exact .int i
  | str x => exact .str x
  | ref a => exact .ref a
  | tup h1 h2 _ ih => exact .tup (e _ _ h1) h2 ih
  | lst h1 h2 _ ih => exact .lst (e _ _ h1) h2 ih
  | dct h1 h2 h3 _ ih => exact .dct (e _ _ h1) h2 h3 ih
/-! ### rows of values -/
def IsL (H : Hp) : List V → List D → Prop
  | [], [] => True
  | y :: ys, x :: xs => Is H y x ∧ IsL H ys xs
  | _, _ => False
theorem IsL.length {H : Hp} : ∀ {ys : List V} {xs : List D}, IsL H ys xs → ys.length = xs.length
  | [], [], _ => rfl
  | _ :: _, _ :: _, h => by simp [IsL.length h.2]
  | [], _ :: _, h => h.elim
  | _ :: _, [], h => h.elim
theorem IsL.at {H : Hp} : ∀ {ys : List V} {xs : List D}, IsL H ys xs → ∀ (i : Nat) y x, ys[i]? = some y → xs[i]? = some x → Is H y x
  | [], [], _, i, y, x, h1, _ => by simp at h1
  | y0 :: ys, x0 :: xs, h, 0, y, x, h1, h2 => by
    simp at h1 h2
    subst h1 h2
    exact h.1
  | y0 :: ys, x0 :: xs, h, i + 1, y, x, h1, h2 => IsL.at h.2 i y x (by simpa using h1) (by simpa using h2)
  | [], _ :: _, h, _, _, _, _, _ => h.elim
  | _ :: _, [], h, _, _, _, _, _ => h.elim
theorem IsL.of {H : Hp} : ∀ {ys : List V} {xs : List D}, ys.length = xs.length → (∀ (i : Nat) y x, ys[i]? = some y → xs[i]? = some x → Is H y x) → IsL H ys xs
  | [], [], _, _ => trivial
  | y0 :: ys, x0 :: xs, hl, h => ⟨h 0 y0 x0 (by simp) (by simp), IsL.of (by simpa using hl) fun i y x h1 h2 => h (i + 1) y x (by simpa using h1) (by simpa using h2)⟩
  | [], _ :: _, hl, _ => by simp at hl
  | _ :: _, [], hl, _ => by simp at hl
theorem IsL.get {H : Hp} : ∀ {ys : List V} {xs : List D}, IsL H ys xs → ∀ {i : Nat} {x : D}, xs[i]? = some x → ∃ y, ys[i]? = some y ∧ Is H y x
  | [], [], _, i, x, h => by simp at h
  | y0 :: ys, x0 :: xs, h, 0, x, h2 => by
    simp at h2
    subst h2
    exact ⟨y0, by simp, h.1⟩
  | y0 :: ys, x0 :: xs, h, i + 1, x, h2 => by
    obtain ⟨y, e, q⟩ := IsL.get h.2 (i := i) (x := x) (by simpa using h2)
    exact ⟨y, by simpa using e, q⟩
  | [], _ :: _, h, _, _, _ => h.elim
  | _ :: _, [], h, _, _, _ => h.elim
theorem IsL.getV {H : Hp} {ys : List V} {xs : List D} (h : IsL H ys xs) {i : Nat} {y : V} (e : ys[i]? = some y) : ∃ x, xs[i]? = some x ∧ Is H y x := by
  have hi := (List.getElem?_eq_some_iff.mp e).1
  rw [h.length] at hi
  exact ⟨xs[i], by simp [hi], h.at i y _ e (by simp [hi])⟩
theorem IsL.mono {H H' : Hp} (e : Same H H') : ∀ {ys : List V} {xs : List D}, IsL H ys xs → IsL H' ys xs
  | [], [], _ => trivial
  | _ :: _, _ :: _, h => ⟨h.1.mono e, IsL.mono e h.2⟩
  | [], _ :: _, h => h.elim
  | _ :: _, [], h => h.elim
theorem IsL.app {H : Hp} : ∀ {ys ys' : List V} {xs xs' : List D}, IsL H ys xs → IsL H ys' xs' → IsL H (ys ++ ys') (xs ++ xs')
  | [], _, [], _, _, h => h
  | _ :: _, _, _ :: _, _, h, h' => ⟨h.1, IsL.app h.2 h'⟩
  | [], _, _ :: _, _, h, _ => h.elim
  | _ :: _, _, [], _, h, _ => h.elim
theorem IsL.snoc {H : Hp} {ys : List V} {xs : List D} {y : V} {x : D} (h : IsL H ys xs) (hy : Is H y x) : IsL H (ys ++ [y]) (xs ++ [x]) := h.app ⟨hy, trivial⟩
theorem IsL.take {H : Hp} : ∀ (n : Nat) {ys : List V} {xs : List D}, IsL H ys xs → IsL H (ys.take n) (xs.take n)
  | 0, _, _, _ => by simp [IsL]
  | n + 1, [], [], _ => by simp [IsL]
  | n + 1, _ :: _, _ :: _, h => by simpa [IsL] using ⟨h.1, IsL.take n h.2⟩
  | _ + 1, [], _ :: _, h => h.elim
  | _ + 1, _ :: _, [], h => h.elim
theorem IsL.drop {H : Hp} : ∀ (n : Nat) {ys : List V} {xs : List D}, IsL H ys xs → IsL H (ys.drop n) (xs.drop n)
  | 0, _, _, h => by simpa using h
  | n + 1, [], [], _ => by simp [IsL]
  | n + 1, _ :: _, _ :: _, h => by simpa using IsL.drop n h.2
  | _ + 1, [], _ :: _, h => h.elim
  | _ + 1, _ :: _, [], h => h.elim
theorem IsL.rev {H : Hp} : ∀ {ys : List V} {xs : List D}, IsL H ys xs → IsL H ys.reverse xs.reverse
  | [], [], _ => by simp [IsL]
  | _ :: _, _ :: _, h => by
    rw [List.reverse_cons, List.reverse_cons]
    exact (IsL.rev h.2).snoc h.1
  | [], _ :: _, h => h.elim
  | _ :: _, [], h => h.elim
theorem IsL.set {H : Hp} {y : V} {x : D} (hy : Is H y x) : ∀ (n : Nat) {ys : List V} {xs : List D}, IsL H ys xs → IsL H (ys.set n y) (xs.set n x)
  | _, [], [], _ => by simp [IsL]
  | 0, _ :: _, _ :: _, h => by simpa [IsL] using ⟨hy, h.2⟩
  | n + 1, _ :: _, _ :: _, h => by simpa [IsL] using ⟨h.1, IsL.set hy n h.2⟩
  | _, [], _ :: _, h => h.elim
  | _, _ :: _, [], h => h.elim
theorem IsL.erase {H : Hp} : ∀ (n : Nat) {ys : List V} {xs : List D}, IsL H ys xs → IsL H (ys.eraseIdx n) (xs.eraseIdx n)
  | _, [], [], _ => by simp [IsL]
  | 0, _ :: _, _ :: _, h => by simpa [IsL] using h.2
  | n + 1, _ :: _, _ :: _, h => by simpa [IsL] using ⟨h.1, IsL.erase n h.2⟩
  | _, [], _ :: _, h => h.elim
  | _, _ :: _, [], h => h.elim
theorem IsL.dropLast {H : Hp} {ys : List V} {xs : List D} (h : IsL H ys xs) : IsL H ys.dropLast xs.dropLast := by
  rw [List.dropLast_eq_take, List.dropLast_eq_take, h.length]
  exact h.take _
theorem Is.tup' {H : Hp} {a : Addr} {ys : List V} {xs : List D} (h : H a = some (.tup ys)) (l : IsL H ys xs) : Is H (.ref a) (.tup xs) := .tup h l.length l.at
theorem Is.lst' {H : Hp} {a : Addr} {ys : List V} {xs : List D} (h : H a = some (.lst ys)) (l : IsL H ys xs) : Is H (.ref a) (.lst xs) := .lst h l.length l.at
theorem Is.tup_inv {H : Hp} {v : V} {xs : List D} (h : Is H v (.tup xs)) : ∃ a ys, v = .ref a ∧ H a = some (.tup ys) ∧ IsL H ys xs := by
  cases h with
  | tup h1 h2 h3 => exact ⟨_, _, rfl, h1, .of h2 h3⟩
theorem Is.lst_inv {H : Hp} {v : V} {xs : List D} (h : Is H v (.lst xs)) : ∃ a ys, v = .ref a ∧ H a = some (.lst ys) ∧ IsL H ys xs := by
  cases h with
  | lst h1 h2 h3 => exact ⟨_, _, rfl, h1, .of h2 h3⟩
theorem Is.int_inv {H : Hp} {v : V} {i : Int} (h : Is H v (.int i)) : v = .int i := by cases h; rfl
theorem Is.bl_inv {H : Hp} {v : V} {i : Bool} (h : Is H v (.bl i)) : v = .bl i := by cases h; rfl
theorem Is.str_inv {H : Hp} {v : V} {i : Str} (h : Is H v (.str i)) : v = .str i := by cases h; rfl
theorem Is.non_inv {H : Hp} {v : V} (h : Is H v .non) : v = .non := by cases h; rfl
theorem Is.ref_inv {H : Hp} {v : V} {i : Addr} (h : Is H v (.ref i)) : v = .ref i := by cases h; rfl
/-! ### rows of pairs (dicts) -/
section
variable {κ κ' : Type} (e : κ → κ')
def IsKV (H : Hp) : List (κ' × V) → List (κ × D) → Prop
  | [], [] => True
  | p :: ps, q :: qs => p.1 = e q.1 ∧ Is H p.2 q.2 ∧ IsKV H ps qs
  | _, _ => False
variable {e}
theorem IsKV.length {H : Hp} : ∀ {ps : List (κ' × V)} {qs : List (κ × D)}, IsKV e H ps qs → ps.length = qs.length
  | [], [], _ => rfl
  | _ :: _, _ :: _, h => by simp [IsKV.length h.2.2]
  | [], _ :: _, h => h.elim
  | _ :: _, [], h => h.elim
theorem IsKV.mono {H H' : Hp} (x : Same H H') : ∀ {ps : List (κ' × V)} {qs : List (κ × D)}, IsKV e H ps qs → IsKV e H' ps qs
  | [], [], _ => trivial
  | _ :: _, _ :: _, h => ⟨h.1, h.2.1.mono x, IsKV.mono x h.2.2⟩
  | [], _ :: _, h => h.elim
  | _ :: _, [], h => h.elim
theorem IsKV.app {H : Hp} : ∀ {ps ps' : List (κ' × V)} {qs qs' : List (κ × D)}, IsKV e H ps qs → IsKV e H ps' qs' → IsKV e H (ps ++ ps') (qs ++ qs')
  | [], _, [], _, _, h => h
  | _ :: _, _, _ :: _, _, h, h' => ⟨h.1, h.2.1, IsKV.app h.2.2 h'⟩
  | [], _, _ :: _, _, h, _ => h.elim
  | _ :: _, _, [], _, h, _ => h.elim
theorem IsKV.keys {H : Hp} : ∀ {ps : List (κ' × V)} {qs : List (κ × D)}, IsKV e H ps qs → ps.map (·.1) = qs.map fun q => e q.1
  | [], [], _ => rfl
  | _ :: _, _ :: _, h => by simp [h.1, IsKV.keys h.2.2]
  | [], _ :: _, h => h.elim
  | _ :: _, [], h => h.elim
theorem IsKV.of {H : Hp} : ∀ {ps : List (κ' × V)} {qs : List (κ × D)}, ps.length = qs.length → (∀ (i : Nat) p q, ps[i]? = some p → qs[i]? = some q → p.1 = e q.1) → (∀ (i : Nat) p q, ps[i]? = some p → qs[i]? = some q → Is H p.2 q.2) → IsKV e H ps qs
  | [], [], _, _, _ => trivial
  | y0 :: ys, x0 :: xs, hl, h, h' => ⟨h 0 y0 x0 (by simp) (by simp), h' 0 y0 x0 (by simp) (by simp), IsKV.of (by simpa using hl) (fun i y x h1 h2 => h (i + 1) y x (by simpa using h1) (by simpa using h2)) fun i y x h1 h2 => h' (i + 1) y x (by simpa using h1) (by simpa using h2)⟩
  | [], _ :: _, hl, _, _ => by simp at hl
  | _ :: _, [], hl, _, _ => by simp at hl
theorem IsKV.at {H : Hp} : ∀ {ps : List (κ' × V)} {qs : List (κ × D)}, IsKV e H ps qs → ∀ (i : Nat) p q, ps[i]? = some p → qs[i]? = some q → p.1 = e q.1 ∧ Is H p.2 q.2
  | [], [], _, i, y, x, h1, _ => by simp at h1
  | y0 :: ys, x0 :: xs, h, 0, y, x, h1, h2 => by
    simp at h1 h2
    subst h1 h2
    exact ⟨h.1, h.2.1⟩
  | y0 :: ys, x0 :: xs, h, i + 1, y, x, h1, h2 => IsKV.at h.2.2 i y x (by simpa using h1) (by simpa using h2)
  | [], _ :: _, h, _, _, _, _, _ => h.elim
  | _ :: _, [], h, _, _, _, _, _ => h.elim
variable [DecidableEq κ] [DecidableEq κ']
/-- d.get(k) -/
def dget {α : Type} (kvs : List (κ × α)) (k : κ) : Option α := (kvs.find? fun kv => decide (kv.1 = k)).map (·.2)
/-- d[k] = v -/
def dput {α : Type} (kvs : List (κ × α)) (k : κ) (v : α) : List (κ × α) := if (kvs.any fun kv => decide (kv.1 = k)) = true then kvs.map fun kv => if kv.1 = k then (kv.1, v) else kv else kvs ++ [(k, v)]
theorem IsKV.get {H : Hp} (inj : ∀ a b, e a = e b → a = b) : ∀ {ps : List (κ' × V)} {qs : List (κ × D)}, IsKV e H ps qs → ∀ k, (valV ps (e k) = none ∧ dget qs k = none) ∨ ∃ v d, valV ps (e k) = some v ∧ dget qs k = some d ∧ Is H v d
  | [], [], _, k => .inl ⟨rfl, rfl⟩
  | p :: ps, q :: qs, h, k => by
    by_cases hk : q.1 = k
    · exact .inr ⟨p.2, q.2, valV_pos (by rw [h.1, hk]), by simp [dget, hk], h.2.1⟩
    · have n1 : ¬ p.1 = e k := fun z => hk (inj _ _ (by rw [← h.1, z]))
      have e1 : dget (q :: qs) k = dget qs k := by simp [dget, List.find?_cons, hk]
      rw [valV_neg n1, e1]
      exact IsKV.get inj h.2.2 k
  | [], _ :: _, h, _ => h.elim
  | _ :: _, [], h, _ => h.elim
theorem IsKV.any {H : Hp} (inj : ∀ a b, e a = e b → a = b) : ∀ {ps : List (κ' × V)} {qs : List (κ × D)}, IsKV e H ps qs → ∀ k, (ps.any fun kv => decide (kv.1 = e k)) = (qs.any fun kv => decide (kv.1 = k))
  | [], [], _, k => rfl
  | p :: ps, q :: qs, h, k => by
    rw [List.any_cons, List.any_cons, IsKV.any inj h.2.2 k]
    congr 1
    rw [h.1]
    by_cases z : q.1 = k
    · rw [z]; simp
    · rw [decide_eq_false z, decide_eq_false fun y => z (inj _ _ y)]
  | [], _ :: _, h, _ => h.elim
  | _ :: _, [], h, _ => h.elim
theorem IsKV.repl {H : Hp} (inj : ∀ a b, e a = e b → a = b) {v : V} {d : D} (hv : Is H v d) (k : κ) : ∀ {ps : List (κ' × V)} {qs : List (κ × D)}, IsKV e H ps qs → IsKV e H (ps.map fun kv => if kv.1 = e k then (kv.1, v) else kv) (qs.map fun kv => if kv.1 = k then (kv.1, d) else kv)
  | [], [], _ => trivial
  | p :: ps, q :: qs, h => by
    rw [List.map_cons, List.map_cons]
    refine ⟨?_, ?_, IsKV.repl inj hv k h.2.2⟩
    · by_cases z : q.1 = k
      · rw [if_pos (by rw [h.1, z]), if_pos z]; exact h.1
      · rw [if_neg fun y => z (inj _ _ (by rw [← h.1, y])), if_neg z]; exact h.1
    · by_cases z : q.1 = k
      · rw [if_pos (by rw [h.1, z]), if_pos z]; exact hv
      · rw [if_neg fun y => z (inj _ _ (by rw [← h.1, y])), if_neg z]; exact h.2.1
  | [], _ :: _, h => h.elim
  | _ :: _, [], h => h.elim
theorem IsKV.put {H : Hp} (inj : ∀ a b, e a = e b → a = b) {v : V} {d : D} (hv : Is H v d) (k : κ) {ps : List (κ' × V)} {qs : List (κ × D)} (h : IsKV e H ps qs) : IsKV e H (putK ps (e k) v) (dput qs k d) := by
  unfold putK dput
  rw [h.any inj k]
  split
  · exact h.repl inj hv k
  · exact h.app ⟨rfl, hv, trivial⟩
end
/-- the key of a dict over rows of ints; of ints -/
def kT (k : List Int) : List Key := k.map Sum.inl
def kI (i : Int) : Key := Sum.inl i
theorem kT_inj : ∀ a b, kT a = kT b → a = b
  | [], [], _ => rfl
  | x :: a, y :: b, h => by
    unfold kT at h
    rw [List.map_cons, List.map_cons] at h
    injection h with h1 h2
    rw [Sum.inl.inj h1, kT_inj a b h2]
  | [], _ :: _, h => by simp [kT] at h
  | _ :: _, [], h => by simp [kT] at h
theorem kI_inj (a b : Int) (h : kI a = kI b) : a = b := Sum.inl.inj h
abbrev IsT (H : Hp) := IsKV kT H
abbrev IsI (H : Hp) := IsKV kI H
theorem Is.dct' {H : Hp} {a : Addr} {ps : List (List Key × V)} {kvs : List (List Int × D)} (h : H a = some (.dT ps)) (l : IsT H ps kvs) : Is H (.ref a) (.dct kvs) := .dct h l.length (fun i p q h1 h2 => (l.at i p q h1 h2).1) fun i p q h1 h2 => (l.at i p q h1 h2).2
theorem Is.dct_inv {H : Hp} {v : V} {xs : List (List Int × D)} (h : Is H v (.dct xs)) : ∃ a ys, v = .ref a ∧ H a = some (.dT ys) ∧ IsT H ys xs := by
  cases h with
  | dct h1 h2 h3 h4 => exact ⟨_, _, rfl, h1, .of h2 h3 h4⟩
/-- rows of ints -/
abbrev D.ints (ns : List Int) : D := .tup (ns.map .int)
theorem isL_ints {H : Hp} : ∀ {ys : List V} {ns : List Int}, IsL H ys (ns.map .int) → ys = ns.map V.int
  | [], [], _ => rfl
  | y :: ys, n :: ns, h => by
    have h1 : Is H y (.int n) := h.1
    rw [h1.int_inv, isL_ints h.2]; rfl
  | [], _ :: _, h => h.elim
  | _ :: _, [], h => h.elim
theorem isL_of_ints {H : Hp} : ∀ (ns : List Int), IsL H (ns.map V.int) (ns.map .int)
  | [] => trivial
  | n :: ns => ⟨.int n, isL_of_ints ns⟩
theorem isL_bls {H : Hp} : ∀ {ys : List V} {ns : List Bool}, IsL H ys (ns.map .bl) → ys = ns.map V.bl
  | [], [], _ => rfl
  | y :: ys, n :: ns, h => by
    have h1 : Is H y (.bl n) := h.1
    rw [h1.bl_inv, isL_bls h.2]; rfl
  | [], _ :: _, h => h.elim
  | _ :: _, [], h => h.elim
theorem kT_kV (k : List Int) : (kT k).map kV = k.map V.int := by
  unfold kT
  rw [List.map_map]
  rfl
/-- the key of a tuple of ints -/
theorem Is.key {H : Hp} {v : V} {k : List Int} (h : Is H v (.ints k)) : ∃ b, v = .ref b ∧ H b = some (.tup ((kT k).map kV)) := by
  obtain ⟨a, ys, rfl, h1, h2⟩ := h.tup_inv
  exact ⟨a, rfl, by rw [kT_kV, ← isL_ints h2]; exact h1⟩
end DL
namespace DL
open PySem PySem.Spec L2
/-! ### what is changed through calls: the ambient objects -/
structure Amb where
  A : Addr → Prop
  J : Hp → Hp → Prop
  mono : ∀ {F H F' H' : Hp}, Same F F' → (∀ a, A a → H' a = H a) → J F H → J F' H'
  there : ∀ {F H : Hp}, J F H → ∀ a, A a → H a ≠ none
/-- nothing ambient -/
def Amb.none : Amb := ⟨fun _ => False, fun _ _ => True, fun _ _ _ => trivial, fun _ _ h => h.elim⟩
structure Okay (W : Amb) (F H : Hp) : Prop where
  fh : Same F H
  na : ∀ a, W.A a → F a = none
  j : W.J F H
structure Step (W : Amb) (F H F' H' : Hp) : Prop where
  ff : Same F F'
  kp : ∀ a o, H a = some o → ¬ W.A a → H' a = some o
  nw : ∀ a o, F' a = some o → F a = some o ∨ H a = none
  ok : Okay W F' H'
theorem Step.refl {W : Amb} {F H : Hp} (h : Okay W F H) : Step W F H F H := ⟨Same.refl _, fun _ _ h _ => h, fun _ _ h => .inl h, h⟩
theorem Okay.alive {W : Amb} {F H : Hp} (h : Okay W F H) {a : Addr} (n : H a = none) : ¬ W.A a := fun z => W.there h.j a z n
theorem Step.free {W : Amb} {F H F' H' : Hp} (s : Step W F H F' H') (ok : Okay W F H) {a : Addr} (n : H' a = none) : H a = none := by
  cases q : H a with
  | none => rfl
  | some o => rw [s.kp a o q (s.ok.alive n)] at n; cases n
theorem Step.trans {W : Amb} {F H F1 H1 F2 H2 : Hp} (ok : Okay W F H) (a : Step W F H F1 H1) (b : Step W F1 H1 F2 H2) : Step W F H F2 H2 :=
  ⟨a.ff.trans b.ff, fun c o h n => b.kp c o (a.kp c o h n) n, fun c o h => by
    rcases b.nw c o h with h | h
    · exact a.nw c o h
    · exact .inr (a.free ok h), b.ok⟩
/-- a new frozen object -/
theorem Step.new {W : Amb} {F H : Hp} (ok : Okay W F H) {p : Addr} {o : HO} (n : H p = none) : Step W F H (upd F p o) (upd H p o) := by
  have nA := ok.alive n
  have nF : F p = none := by
    cases q : F p with
    | none => rfl
    | some u => rw [ok.fh p u q] at n; cases n
  have ff : Same F (upd F p o) := fun a u h => by rw [upd_ne (ne_of_none h nF)]; exact h
  refine ⟨ff, fun a u h _ => by rw [upd_ne (ne_of_none h n)]; exact h, fun a u h => ?_, ⟨fun a u h => ?_, fun a h => ?_, ?_⟩⟩
  · by_cases z : a = p
    · rw [z]; exact .inr n
    · rw [upd_ne z] at h; exact .inl h
  · by_cases z : a = p
    · rw [z, upd_same] at h ⊢; exact h
    · rw [upd_ne z] at h ⊢; exact ok.fh a u h
  · rw [upd_ne (fun z : a = p => nA (z ▸ h))]; exact ok.na a h
  · exact W.mono ff (fun a h => upd_ne (fun z : a = p => nA (z ▸ h))) ok.j
/-- a new object that is not frozen -/
theorem Step.own {W : Amb} {F H : Hp} (ok : Okay W F H) {p : Addr} {o : HO} (n : H p = none) : Step W F H F (upd H p o) := by
  have nA := ok.alive n
  refine ⟨Same.refl _, fun a u h _ => by rw [upd_ne (ne_of_none h n)]; exact h, fun a u h => .inl h, ⟨fun a u h => ?_, ok.na, ?_⟩⟩
  · have q := ok.fh a u h
    rw [upd_ne (ne_of_none q n)]; exact q
  · exact W.mono (Same.refl _) (fun a h => upd_ne (fun z : a = p => nA (z ▸ h))) ok.j
theorem Okay.fresh {W : Amb} {F H : Hp} (ok : Okay W F H) {p : Addr} (n : H p = none) : F p = none := by
  cases q : F p with
  | none => rfl
  | some u => rw [ok.fh p u q] at n; cases n
/-- an own object is frozen -/
theorem Okay.freeze {W : Amb} {F H : Hp} (ok : Okay W F H) {p : Addr} {o : HO} (h : H p = some o) (nF : F p = none) (nA : ¬ W.A p) : Okay W (upd F p o) H := by
  have ff : Same F (upd F p o) := fun a u q => by rw [upd_ne (ne_of_none q nF)]; exact q
  refine ⟨fun a u q => ?_, fun a q => ?_, W.mono ff (fun _ _ => rfl) ok.j⟩
  · by_cases z : a = p
    · rw [z, upd_same] at q; rw [z, h]; exact q
    · rw [upd_ne z] at q; exact ok.fh a u q
  · rw [upd_ne (fun z : a = p => nA (z ▸ q))]; exact ok.na a q
/-- an own object is written -/
theorem Okay.write {W : Amb} {F H : Hp} (ok : Okay W F H) {p : Addr} {o : HO} (nF : F p = none) (nA : ¬ W.A p) : Okay W F (upd H p o) := by
  refine ⟨fun a u q => ?_, ok.na, W.mono (Same.refl _) (fun a h => upd_ne (fun z : a = p => nA (z ▸ h))) ok.j⟩
  rw [upd_ne (ne_of_none q nF)]
  exact ok.fh a u q
/-! ### slots -/
inductive Sd where
  | any
  | d (x : D)
  | ol (xs : List D)
  | ot (kvs : List (List Int × D))
  | oi (kvs : List (Int × D))
  | oo (kvs : List (List Int × List D))
  | oa (a : Addr) (kvs : List (List Int × List D))
  | ob (a C : Addr) (fs : List (Str × D))
/-- a dict whose values are lists of its own -/
def IsOO (F H : Hp) : List (List Key × V) → List (List Int × List D) → List Addr → Prop
  | [], [], [] => True
  | p :: ps, q :: qs, l :: ls => p.1 = kT q.1 ∧ p.2 = .ref l ∧ (∃ ys, H l = some (.lst ys) ∧ IsL F ys q.2) ∧ IsOO F H ps qs ls
  | _, _, _ => False
/-- the value v is told by s; as: the own objects -/
def SV (F H : Hp) (v : V) (as : List Addr) : Sd → Prop
  | .any => as = []
  | .d x => as = [] ∧ Is F v x
  | .ol xs => ∃ l ys, v = .ref l ∧ as = [l] ∧ H l = some (.lst ys) ∧ IsL F ys xs
  | .ot kvs => ∃ a ps, v = .ref a ∧ as = [a] ∧ H a = some (.dT ps) ∧ IsT F ps kvs
  | .oi kvs => ∃ a ps, v = .ref a ∧ as = [a] ∧ H a = some (.dK ps) ∧ IsI F ps kvs
  | .oo kvs => ∃ a ps ls, v = .ref a ∧ as = a :: ls ∧ H a = some (.dT ps) ∧ IsOO F H ps kvs ls
  | .oa a kvs => ∃ ps ls, v = .ref a ∧ as = a :: ls ∧ H a = some (.dT ps) ∧ IsOO F H ps kvs ls
  | .ob a C fs => ∃ dx ps, v = .ref a ∧ as = [a] ∧ H a = some (.ins C dx ps) ∧ IsKV (id : Str → Str) F ps fs
def SO (F H : Hp) (o : Option V) (as : List Addr) (s : Sd) : Prop := match s with
  | .any => as = []
  | s => ∃ v, o = some v ∧ SV F H v as s
theorem SV.so {F H : Hp} {v : V} {as : List Addr} {s : Sd} (h : SV F H v as s) : SO F H (some v) as s := by
  cases s with
  | any => exact h
  | _ => exact ⟨v, rfl, h⟩
theorem SO.any {F H : Hp} {o : Option V} : SO F H o [] .any := rfl
theorem SO.sv {F H : Hp} {o : Option V} {as : List Addr} {s : Sd} (h : SO F H o as s) (n : s ≠ .any) : ∃ v, o = some v ∧ SV F H v as s := by
  cases s with
  | any => exact absurd rfl n
  | _ => exact h
theorem IsOO.mono {F H F' H' : Hp} (ff : Same F F') : ∀ {ps : List (List Key × V)} {qs : List (List Int × List D)} {ls : List Addr}, (∀ a ∈ ls, H' a = H a) → IsOO F H ps qs ls → IsOO F' H' ps qs ls
  | [], [], [], _, _ => trivial
  | p :: ps, q :: qs, l :: ls, k, ⟨h1, h2, ⟨ys, h3, h4⟩, h5⟩ => ⟨h1, h2, ⟨ys, by rw [k l (by simp)]; exact h3, h4.mono ff⟩, IsOO.mono ff (fun a h => k a (by simp [h])) h5⟩
  | [], [], _ :: _, _, h => h.elim
  | [], _ :: _, _, _, h => by cases ‹List Addr› <;> exact h.elim
  | _ :: _, [], _, _, h => by cases ‹List Addr› <;> exact h.elim
  | _ :: _, _ :: _, [], _, h => h.elim
theorem SV.mono {F H F' H' : Hp} {v : V} {as : List Addr} {s : Sd} (ff : Same F F') (k : ∀ a ∈ as, H' a = H a) (h : SV F H v as s) : SV F' H' v as s := by
  cases s with
  | any => exact h
  | d x => exact ⟨h.1, h.2.mono ff⟩
  | ol xs => obtain ⟨l, ys, rfl, rfl, h1, h2⟩ := h; exact ⟨l, ys, rfl, rfl, by rw [k l (by simp)]; exact h1, h2.mono ff⟩
  | ot xs => obtain ⟨l, ys, rfl, rfl, h1, h2⟩ := h; exact ⟨l, ys, rfl, rfl, by rw [k l (by simp)]; exact h1, h2.mono ff⟩
  | oi xs => obtain ⟨l, ys, rfl, rfl, h1, h2⟩ := h; exact ⟨l, ys, rfl, rfl, by rw [k l (by simp)]; exact h1, h2.mono ff⟩
  | oo xs => obtain ⟨l, ys, ls, rfl, rfl, h1, h2⟩ := h; exact ⟨l, ys, ls, rfl, rfl, by rw [k l (by simp)]; exact h1, h2.mono ff fun a h => k a (by simp [h])⟩
  | ob l C fs => obtain ⟨dx, ps, rfl, rfl, h1, h2⟩ := h; exact ⟨dx, ps, rfl, rfl, by rw [k l (by simp)]; exact h1, h2.mono ff⟩
  | oa l xs => obtain ⟨ys, ls, rfl, rfl, h1, h2⟩ := h; exact ⟨ys, ls, rfl, rfl, by rw [k l (by simp)]; exact h1, h2.mono ff fun a h => k a (by simp [h])⟩
theorem SO.mono {F H F' H' : Hp} {o : Option V} {as : List Addr} {s : Sd} (ff : Same F F') (k : ∀ a ∈ as, H' a = H a) (h : SO F H o as s) : SO F' H' o as s := by
  by_cases n : s = .any
  · subst n; exact h
  · obtain ⟨v, rfl, q⟩ := h.sv n
    exact (q.mono ff k).so
/-- the own objects are there -/
theorem IsOO.alive {F H : Hp} : ∀ {ps : List (List Key × V)} {qs : List (List Int × List D)} {ls : List Addr}, IsOO F H ps qs ls → ∀ a ∈ ls, H a ≠ none
  | [], [], [], _, a, h => by simp at h
  | p :: ps, q :: qs, l :: ls, ⟨_, _, ⟨ys, h3, _⟩, h5⟩, a, h => by
    rcases List.mem_cons.mp h with e | e
    · rw [e, h3]; intro z; cases z
    · exact IsOO.alive h5 a e
  | [], [], _ :: _, h, _, _ => h.elim
  | [], _ :: _, _, h, _, _ => by cases ‹List Addr› <;> exact h.elim
  | _ :: _, [], _, h, _, _ => by cases ‹List Addr› <;> exact h.elim
  | _ :: _, _ :: _, [], h, _, _ => h.elim
theorem SV.alive {F H : Hp} {v : V} {as : List Addr} {s : Sd} (h : SV F H v as s) : ∀ a ∈ as, H a ≠ none := by
  intro a ha
  cases s with
  | any => rw [show as = [] from h] at ha; simp at ha
  | d x => rw [h.1] at ha; simp at ha
  | ol xs => obtain ⟨l, ys, rfl, rfl, h1, h2⟩ := h; simp at ha; rw [ha, h1]; intro z; cases z
  | ot xs => obtain ⟨l, ys, rfl, rfl, h1, h2⟩ := h; simp at ha; rw [ha, h1]; intro z; cases z
  | oi xs => obtain ⟨l, ys, rfl, rfl, h1, h2⟩ := h; simp at ha; rw [ha, h1]; intro z; cases z
  | oo xs =>
    obtain ⟨l, ys, ls, rfl, rfl, h1, h2⟩ := h
    rcases List.mem_cons.mp ha with e | e
    · rw [e, h1]; intro z; cases z
    · exact h2.alive a e
  | ob l C fs => obtain ⟨dx, ps, rfl, rfl, h1, h2⟩ := h; simp at ha; rw [ha, h1]; intro z; cases z
  | oa l xs =>
    obtain ⟨ys, ls, rfl, rfl, h1, h2⟩ := h
    rcases List.mem_cons.mp ha with e | e
    · rw [e, h1]; intro z; cases z
    · exact h2.alive a e
theorem SO.alive {F H : Hp} {o : Option V} {as : List Addr} {s : Sd} (h : SO F H o as s) : ∀ a ∈ as, H a ≠ none := by
  by_cases n : s = .any
  · subst n
    intro a ha
    rw [show as = [] from h] at ha; simp at ha
  · obtain ⟨v, rfl, q⟩ := h.sv n
    exact q.alive
/-! ### all slots -/
def Slots (F H : Hp) : St → List Sd → List (List Addr) → Prop
  | [], [], [] => True
  | o :: σ, s :: ρ, as :: os => SO F H o as s ∧ Slots F H σ ρ os
  | _, _, _ => False
theorem Slots.cases {F H : Hp} {C : Prop} {o : Option V} {σ : St} {ρ : List Sd} {os : List (List Addr)} (h : Slots F H (o :: σ) ρ os) (k : ∀ s ρ' as os', ρ = s :: ρ' → os = as :: os' → SO F H o as s → Slots F H σ ρ' os' → C) : C := by
  cases ρ with
  | nil => cases os <;> exact h.elim
  | cons s ρ' =>
    cases os with
    | nil => exact h.elim
    | cons as os' => exact k s ρ' as os' rfl rfl h.1 h.2
theorem Slots.nil {F H : Hp} {C : Prop} {ρ : List Sd} {os : List (List Addr)} (h : Slots F H [] ρ os) (k : ρ = [] → os = [] → C) : C := by
  cases ρ with
  | nil =>
    cases os with
    | nil => exact k rfl rfl
    | cons as os' => exact h.elim
  | cons s ρ' => cases os <;> exact h.elim
theorem Slots.len {F H : Hp} : ∀ {σ : St} {ρ : List Sd} {os : List (List Addr)}, Slots F H σ ρ os → ρ.length = σ.length ∧ os.length = σ.length
  | [], ρ, os, h => h.nil fun e1 e2 => by subst e1 e2; exact ⟨rfl, rfl⟩
  | o :: σ, ρ, os, h => h.cases fun s ρ' as os' e1 e2 h1 h2 => by
    subst e1 e2
    have q := Slots.len h2
    simp [q.1, q.2]
theorem Slots.get {F H : Hp} : ∀ {σ : St} {ρ : List Sd} {os : List (List Addr)}, Slots F H σ ρ os → ∀ {i : Nat} {s : Sd}, ρ[i]? = some s → ∃ o as, σ[i]? = some o ∧ os[i]? = some as ∧ SO F H o as s
  | [], ρ, os, h, i, s, e => h.nil fun e1 e2 => by subst e1; simp at e
  | o :: σ, ρ, os, h, i, s, e => h.cases fun s' ρ' as os' e1 e2 h1 h2 => by
    subst e1 e2
    cases i with
    | zero =>
      simp at e
      subst e
      exact ⟨o, as, by simp, by simp, h1⟩
    | succ i =>
      obtain ⟨o', as', a, b, c⟩ := Slots.get h2 (i := i) (s := s) (by simpa using e)
      exact ⟨o', as', by simpa using a, by simpa using b, c⟩
theorem Slots.mono {F H F' H' : Hp} (ff : Same F F') : ∀ {σ : St} {ρ : List Sd} {os : List (List Addr)}, (∀ a ∈ os.flatten, H' a = H a) → Slots F H σ ρ os → Slots F' H' σ ρ os
  | [], ρ, os, _, h => h.nil fun e1 e2 => by subst e1 e2; trivial
  | o :: σ, ρ, os, k, h => h.cases fun s ρ' as os' e1 e2 h1 h2 => by
    subst e1 e2
    exact ⟨h1.mono ff fun a ha => k a (by simp [ha]), Slots.mono ff (fun a ha => k a (by rw [List.flatten_cons]; exact List.mem_append_right _ ha)) h2⟩
theorem Slots.alive {F H : Hp} : ∀ {σ : St} {ρ : List Sd} {os : List (List Addr)}, Slots F H σ ρ os → ∀ a ∈ os.flatten, H a ≠ none
  | [], ρ, os, h, a, ha => h.nil fun e1 e2 => by subst e2; simp at ha
  | o :: σ, ρ, os, h, a, ha => h.cases fun s ρ' as os' e1 e2 h1 h2 => by
    subst e1 e2
    rw [List.flatten_cons] at ha
    rcases List.mem_append.mp ha with z | z
    · exact h1.alive a z
    · exact Slots.alive h2 a z
/-- one slot anew, the others as they were (but for the heap at the old own addresses of that slot) -/
theorem Slots.set {F H F' H' : Hp} (ff : Same F F') : ∀ {σ : St} {ρ : List Sd} {os : List (List Addr)}, Slots F H σ ρ os → os.flatten.Nodup → ∀ {i : Nat} {as0 as : List Addr} {o : Option V} {s : Sd}, os[i]? = some as0 → (∀ a ∈ os.flatten, a ∉ as0 → H' a = H a) → SO F' H' o as s →
    Slots F' H' (σ.set i o) (ρ.set i s) (os.set i as)
  | [], ρ, os, h, nd, i, as0, as, o, s, e, k, q => h.nil fun e1 e2 => by subst e2; simp at e
  | o' :: σ, ρ, os, h, nd, i, as0, as, o, s, e, k, q => h.cases fun s' ρ' as' os' e1 e2 h1 h2 => by
    subst e1 e2
    rw [List.flatten_cons] at nd
    obtain ⟨n1, n2, n3⟩ := List.nodup_append.mp nd
    cases i with
    | zero =>
      simp at e
      subst e
      refine ⟨q, h2.mono ff fun a ha => k a (by rw [List.flatten_cons]; exact List.mem_append_right _ ha) fun z => n3 a z a ha rfl⟩
    | succ i =>
      have e' : os'[i]? = some as0 := by simpa using e
      refine ⟨h1.mono ff fun a ha => k a (by rw [List.flatten_cons]; exact List.mem_append_left _ ha) fun z => ?_, Slots.set ff h2 n2 e' (fun a ha => k a (by rw [List.flatten_cons]; exact List.mem_append_right _ ha)) q⟩
      exact n3 a ha a (List.mem_flatten.mpr ⟨as0, List.mem_of_getElem? e', z⟩) rfl
theorem flat_set_sub {os : List (List Addr)} {i : Nat} {as : List Addr} : ∀ {a : Addr}, a ∈ (os.set i as).flatten → a ∈ as ∨ a ∈ os.flatten := by
  intro a ha
  obtain ⟨l, hl, ha⟩ := List.mem_flatten.mp ha
  rcases List.mem_or_eq_of_mem_set hl with z | z
  · exact .inr (List.mem_flatten.mpr ⟨l, z, ha⟩)
  · exact .inl (z ▸ ha)
theorem flat_set_nodup : ∀ {os : List (List Addr)} {i : Nat} {as0 as : List Addr}, os.flatten.Nodup → os[i]? = some as0 → as.Nodup → (∀ a ∈ as, a ∈ os.flatten → a ∈ as0) → (os.set i as).flatten.Nodup
  | [], i, as0, as, nd, e, n, k => by simp at e
  | b :: os, 0, as0, as, nd, e, n, k => by
    simp at e
    subst e
    rw [List.set_cons_zero, List.flatten_cons]
    rw [List.flatten_cons] at nd
    obtain ⟨n1, n2, n3⟩ := List.nodup_append.mp nd
    refine List.nodup_append.mpr ⟨n, n2, fun a ha c hc z => ?_⟩
    subst z
    exact n3 a (k a ha (by rw [List.flatten_cons]; exact List.mem_append_right _ hc)) a hc rfl
  | b :: os, i + 1, as0, as, nd, e, n, k => by
    have e' : os[i]? = some as0 := by simpa using e
    rw [List.set_cons_succ, List.flatten_cons]
    rw [List.flatten_cons] at nd
    obtain ⟨n1, n2, n3⟩ := List.nodup_append.mp nd
    refine List.nodup_append.mpr ⟨n1, flat_set_nodup n2 e' n fun a ha hf => k a ha (by rw [List.flatten_cons]; exact List.mem_append_right _ hf), fun a ha c hc z => ?_⟩
    subst z
    rcases flat_set_sub hc with q | q
    · exact n3 a ha a (List.mem_flatten.mpr ⟨as0, List.mem_of_getElem? e', k a q (by rw [List.flatten_cons]; exact List.mem_append_left _ ha)⟩) rfl
    · exact n3 a ha a q rfl
/-! ### the environment -/
structure Bs where
  W : Amb
  F0 : Hp
  B : Hp
structure Env (S : Bs) (F H : Hp) (σ : St) (ρ : List Sd) : Prop where
  ok : Okay S.W F H
  f0 : Same S.F0 F
  kp : ∀ a o, S.B a = some o → ¬ S.W.A a → H a = some o
  nw : ∀ a o, F a = some o → S.F0 a = some o ∨ S.B a = none
  own : ∃ os : List (List Addr), os.flatten.Nodup ∧ (∀ a ∈ os.flatten, F a = none ∧ S.B a = none ∧ ¬ S.W.A a) ∧ Slots F H σ ρ os
section
variable {S : Bs} {F H F' H' : Hp} {σ : St} {ρ : List Sd}
theorem Env.free (E : Env S F H σ ρ) {p : Addr} (n : H p = none) : S.B p = none ∧ F p = none ∧ ¬ S.W.A p := by
  have nA := E.ok.alive n
  refine ⟨?_, E.ok.fresh n, nA⟩
  cases q : S.B p with
  | none => rfl
  | some o => rw [E.kp p o q nA] at n; cases n
/-- nothing of its own is touched -/
theorem Env.step (E : Env S F H σ ρ) (s : Step S.W F H F' H') : Env S F' H' σ ρ := by
  obtain ⟨os, nd, fr, sl⟩ := E.own
  have al := sl.alive
  have same : ∀ a ∈ os.flatten, H' a = H a := fun a ha => by
    cases q : H a with
    | none => exact absurd q (al a ha)
    | some o => exact s.kp a o q (fr a ha).2.2
  refine ⟨s.ok, E.f0.trans s.ff, fun a o h n => s.kp a o (E.kp a o h n) n, fun a o h => ?_, os, nd, fun a ha => ⟨?_, (fr a ha).2⟩, sl.mono s.ff same⟩
  · rcases s.nw a o h with z | z
    · exact E.nw a o z
    · exact .inr (E.free z).1
  · cases q : F' a with
    | none => rfl
    | some o =>
      rcases s.nw a o q with z | z
      · rw [(fr a ha).1] at z; cases z
      · exact absurd z (al a ha)
theorem Env.get (E : Env S F H σ ρ) {i : Nat} {s : Sd} (e : ρ[i]? = some s) (n : s ≠ .any) : ∃ v as, σ[i]? = some (some v) ∧ SV F H v as s ∧ ∀ a ∈ as, F a = none ∧ S.B a = none ∧ ¬ S.W.A a := by
  obtain ⟨os, nd, fr, sl⟩ := E.own
  obtain ⟨o, as, h1, h2, h3⟩ := sl.get e
  obtain ⟨v, rfl, q⟩ := h3.sv n
  exact ⟨v, as, h1, q, fun a ha => fr a (List.mem_flatten.mpr ⟨as, List.mem_of_getElem? h2, ha⟩)⟩
theorem Env.len (E : Env S F H σ ρ) : ρ.length = σ.length := let ⟨_, _, _, sl⟩ := E.own; sl.len.1
/-- a slot is stored: a value that is frozen, or new and of its own -/
theorem Env.put (E : Env S F H σ ρ) {i : Nat} {v : V} {as : List Addr} {s : Sd} (hv : SV F H v as s) (nd : as.Nodup) (fr : ∀ a ∈ as, F a = none ∧ S.B a = none ∧ ¬ S.W.A a) (hn : ∀ os : List (List Addr), (∀ a ∈ os.flatten, S.B a = none) → Slots F H σ ρ os → ∀ a ∈ as, a ∉ os.flatten) :
    Env S F H (σ.set i (some v)) (ρ.set i s) := by
  obtain ⟨os, nd', fr', sl⟩ := E.own
  by_cases hi : i < os.length
  · have e : os[i]? = some os[i] := by simp [hi]
    have hn' := hn os (fun a ha => (fr' a ha).2.1) sl
    refine ⟨E.ok, E.f0, E.kp, E.nw, os.set i as, flat_set_nodup nd' e nd fun a ha hf => absurd hf (hn' a ha), fun a ha => ?_, sl.set (Same.refl _) nd' e (fun _ _ _ => rfl) hv.so⟩
    rcases flat_set_sub ha with z | z
    · exact fr a z
    · exact fr' a z
  · have h2 := sl.len
    rw [List.set_eq_of_length_le (by omega), List.set_eq_of_length_le (by omega)]
    exact E
theorem Env.putD (E : Env S F H σ ρ) {i : Nat} {v : V} {x : D} (hv : Is F v x) : Env S F H (σ.set i (some v)) (ρ.set i (.d x)) :=
  E.put (as := []) ⟨rfl, hv⟩ List.nodup_nil (fun _ h => by simp at h) fun _ _ _ _ h => by simp at h
/-- a slot's own objects are changed: v, its address list the same -/
theorem Env.mut (E : Env S F H σ ρ) {i : Nat} {s s' : Sd} (e : ρ[i]? = some s) (n : s ≠ .any) (F' H' : Hp) (ff : Same F F') (fn : ∀ a o, F' a = some o → F a = some o ∨ S.B a = none)
    (k : ∀ (v : V) (as : List Addr), σ[i]? = some (some v) → SV F H v as s → (∀ a ∈ as, F a = none ∧ S.B a = none ∧ ¬ S.W.A a) → as.Nodup → ∃ as', as'.Nodup ∧ (∀ a ∈ as', a ∈ as ∨ H a = none) ∧ (∀ a, a ∉ as → (H a ≠ none ∨ a ∉ as') → H' a = H a ∧ F' a = F a) ∧ (∀ a ∈ as', F' a = none) ∧ Okay S.W F' H' ∧ SV F' H' v as' s') : Env S F' H' σ (ρ.set i s') := by
  obtain ⟨os, nd, fr, sl⟩ := E.own
  obtain ⟨o, as0, h1, h2, h3⟩ := sl.get e
  obtain ⟨v, rfl, q⟩ := h3.sv n
  have al := sl.alive
  have mem : ∀ a ∈ as0, a ∈ os.flatten := fun a ha => List.mem_flatten.mpr ⟨as0, List.mem_of_getElem? h2, ha⟩
  have nd0 : as0.Nodup := by
    have := List.pairwise_flatten.mp nd
    exact this.1 as0 (List.mem_of_getElem? h2)
  obtain ⟨as', g1, g2, g3, g4, g5, g6⟩ := k v as0 h1 q (fun a ha => fr a (mem a ha)) nd0
  have nn : ∀ a ∈ as', a ∈ os.flatten → a ∈ as0 := fun a ha hf => by
    rcases g2 a ha with z | z
    · exact z
    · exact absurd z (al a hf)
  have hs : σ = σ.set i (some v) := by
    refine List.ext_getElem? fun j => ?_
    by_cases z : i = j
    · subst z
      rw [List.getElem?_set_self (List.getElem?_eq_some_iff.mp h1).1, h1]
    · rw [List.getElem?_set_ne z]
  rw [hs]
  refine ⟨g5, E.f0.trans ff, fun a o hB hA => ?_, fun a o h => ?_, os.set i as', flat_set_nodup nd h2 g1 nn, fun a ha => ?_, sl.set ff nd h2 (fun a ha z => (g3 a z (.inl (al a ha))).1) g6.so⟩
  · have nm : a ∉ as0 := fun z => by rw [(fr a (mem a z)).2.1] at hB; cases hB
    have hh := E.kp a o hB hA
    rw [(g3 a nm (.inl (by rw [hh]; intro z; cases z))).1]
    exact hh
  · rcases fn a o h with z | z
    · exact E.nw a o z
    · exact .inr z
  · rcases flat_set_sub ha with z | z
    · rcases g2 a z with y | y
      · exact ⟨g4 a z, (fr a (mem a y)).2⟩
      · exact ⟨g4 a z, (E.free y).1, (E.free y).2.2⟩
    · by_cases y : a ∈ as'
      · exact ⟨g4 a y, (fr a z).2⟩
      · by_cases x : a ∈ as0
        · refine ⟨?_, (fr a z).2⟩
          -- an own object that has left the slot: it stays out of F' unless frozen; excluded by the caller
          exfalso
          obtain ⟨l, hl, hm⟩ := List.mem_flatten.mp ha
          obtain ⟨j, hj⟩ := List.getElem?_of_mem hl
          by_cases c : i = j
          · subst c
            rw [List.getElem?_set_self (List.getElem?_eq_some_iff.mp h2).1] at hj
            cases hj
            exact y hm
          · rw [List.getElem?_set_ne c] at hj
            have p1 := List.pairwise_flatten.mp nd
            have hne : ∀ b ∈ as0, b ∉ l := by
              intro b hb hbl
              have p2 := p1.2
              rcases Nat.lt_or_gt_of_ne c with lt | gt
              · exact (List.pairwise_iff_getElem.mp p2 i j (List.getElem?_eq_some_iff.mp h2).1 (List.getElem?_eq_some_iff.mp hj).1 lt) b (by rw [(List.getElem?_eq_some_iff.mp h2).2]; exact hb) b (by rw [(List.getElem?_eq_some_iff.mp hj).2]; exact hbl) rfl
              · exact (List.pairwise_iff_getElem.mp p2 j i (List.getElem?_eq_some_iff.mp hj).1 (List.getElem?_eq_some_iff.mp h2).1 gt) b (by rw [(List.getElem?_eq_some_iff.mp hj).2]; exact hbl) b (by rw [(List.getElem?_eq_some_iff.mp h2).2]; exact hb) rfl
            exact hne a x hm
        · rw [(g3 a x (.inr y)).2]
          exact fr a z
/-- an own object is written, at the same address -/
theorem Env.write (E : Env S F H σ ρ) {i : Nat} {s s' : Sd} (e : ρ[i]? = some s) (n : s ≠ .any) (l : Addr) (o : HO) 
    (k : ∀ (v : V) (as : List Addr), σ[i]? = some (some v) → SV F H v as s → l ∈ as ∧ (as.Nodup → SV F (upd H l o) v as s')) : Env S F (upd H l o) σ (ρ.set i s') := by
  refine E.mut e n F (upd H l o) (Same.refl _) (fun _ _ h => .inl h) fun v as h1 h2 h3 h4 => ?_
  obtain ⟨m, q⟩ := k v as h1 h2
  exact ⟨as, h4, fun a ha => .inl ha, fun a ha _ => ⟨upd_ne fun z => ha (z ▸ m), rfl⟩, fun a ha => (h3 a ha).1, E.ok.write (h3 l m).1 (h3 l m).2.2, q h4⟩
end
end DL
namespace DL
open PySem PySem.Spec L2
abbrev RE := List Sd → (Sd → Prop) → Prop
abbrev RT := List Sd → (Bool → Prop) → Prop
abbrev RA := List Sd → (List D → Prop) → Prop
abbrev RV := List Sd → (List Sd → Prop) → Prop
structure DE where
  nx : List Sd → Prop
  rt : D → Prop
  bk : List Sd → Prop := fun _ => False
  ct : List Sd → Prop := fun _ => False
abbrev RS := DE → List Sd → Prop
/-- its own objects are new -/
def New (H F' : Hp) (as : List Addr) : Prop := as.Nodup ∧ ∀ a ∈ as, H a = none ∧ F' a = none
theorem New.nil {H F' : Hp} : New H F' [] := ⟨List.nodup_nil, fun _ h => by simp at h⟩
def liftE (S : Bs) (p : RE) : TE := fun σ H Q => ∃ F ρ K, Env S F H σ ρ ∧ p ρ K ∧ ∀ s v as F' H', K s → Step S.W F H F' H' → SV F' H' v as s → (∀ a ∈ as, ¬ S.W.A a) → Q v H'
def liftR (S : Bs) (p : RE) : TE := fun σ H Q => ∃ F ρ K, Env S F H σ ρ ∧ p ρ K ∧ ∀ s v as F' H', K s → Step S.W F H F' H' → SV F' H' v as s → New H F' as → Q v H'
def liftT (S : Bs) (p : RT) : TT := fun σ H Q => ∃ F ρ K, Env S F H σ ρ ∧ p ρ K ∧ ∀ b F' H', K b → Step S.W F H F' H' → Q b H'
def liftA (S : Bs) (p : RA) : TA := fun σ H Q => ∃ F ρ K, Env S F H σ ρ ∧ p ρ K ∧ ∀ ds vs F' H', K ds → Step S.W F H F' H' → IsL F' vs ds → Q vs H'
/-- values told by Sd, one by one (read at once) -/
def SVs (W : Amb) (F H : Hp) : List V → List Sd → Prop
  | [], [] => True
  | v :: vs, s :: ss => (∃ as, SV F H v as s ∧ ∀ a ∈ as, ¬ W.A a) ∧ SVs W F H vs ss
  | _, _ => False
def liftV (S : Bs) (p : RV) : TA := fun σ H Q => ∃ F ρ K, Env S F H σ ρ ∧ p ρ K ∧ ∀ ss vs F' H', K ss → Step S.W F H F' H' → SVs S.W F' H' vs ss → Q vs H'
def liftS (S : Bs) (p : RS) : TS := fun T σ H => ∃ F ρ K, Env S F H σ ρ ∧ p K ρ ∧ (∀ ρ' σ' F' H', K.nx ρ' → Env S F' H' σ' ρ' → T.nx σ' H') ∧ (∀ d v F' H', K.rt d → Step S.W S.F0 S.B F' H' → Is F' v d → T.rt v H') ∧
  (∀ ρ' σ' F' H', K.bk ρ' → Env S F' H' σ' ρ' → T.bk σ' H') ∧ (∀ ρ' σ' F' H', K.ct ρ' → Env S F' H' σ' ρ' → T.ct σ' H')
structure PEd (W : Amb) (X : Cx) (e : Expr) (p : RE) : Prop where
  run : ∀ F0 B, PE X e (liftE ⟨W, F0, B⟩ p)
structure PRd (W : Amb) (X : Cx) (e : Expr) (p : RE) : Prop where
  run : ∀ F0 B, PE X e (liftR ⟨W, F0, B⟩ p)
structure PTd (W : Amb) (X : Cx) (e : Expr) (p : RT) : Prop where
  run : ∀ F0 B, PT X e (liftT ⟨W, F0, B⟩ p)
structure PWd (W : Amb) (X : Cx) (e : Expr) (p : RT) : Prop where
  run : ∀ F0 B, PW X e (liftT ⟨W, F0, B⟩ p)
structure PAd (W : Amb) (X : Cx) (es : List Expr) (p : RA) : Prop where
  run : ∀ F0 B, PA X es (liftA ⟨W, F0, B⟩ p)
structure PVd (W : Amb) (X : Cx) (es : List Expr) (p : RV) : Prop where
  run : ∀ F0 B, PA X es (liftV ⟨W, F0, B⟩ p)
structure PSd (W : Amb) (X : Cx) (st : Stmt) (p : RS) : Prop where
  run : ∀ F0 B, PS X st (liftS ⟨W, F0, B⟩ p)
structure PSsd (W : Amb) (X : Cx) (st : List Stmt) (p : RS) : Prop where
  run : ∀ F0 B, PSs X st (liftS ⟨W, F0, B⟩ p)
section
variable {X : Cx} {e : Expr} {t t' : TE}
theorem _root_.L2.PE.imp (h : PE X e t) (k : ∀ σ H Q, t' σ H Q → t σ H Q) : PE X e t' := ⟨fun pins s σ H Q I q => h.run pins s σ H Q I (k σ H Q q)⟩
theorem _root_.L2.PT.imp {t t' : TT} (h : PT X e t) (k : ∀ σ H Q, t' σ H Q → t σ H Q) : PT X e t' := ⟨fun pins s σ H Q I q => h.run pins s σ H Q I (k σ H Q q)⟩
theorem _root_.L2.PW.imp {t t' : TT} (h : PW X e t) (k : ∀ σ H Q, t' σ H Q → t σ H Q) : PW X e t' := ⟨fun w pins s σ H Q I q => h.run w pins s σ H Q I (k σ H Q q)⟩
theorem _root_.L2.PA.imp {es : List Expr} {t t' : TA} (h : PA X es t) (k : ∀ σ H Q, t' σ H Q → t σ H Q) : PA X es t' := ⟨fun pos pins s σ H Q I q => h.run pos pins s σ H Q I (k σ H Q q)⟩
theorem _root_.L2.PS.imp {st : Stmt} {t t' : TS} (h : PS X st t) (k : ∀ T σ H, t' T σ H → t T σ H) : PS X st t' := ⟨fun pins s σ H D I q => h.run pins s σ H D I (k D σ H q)⟩
theorem _root_.L2.PSs.imp {st : List Stmt} {t t' : TS} (h : PSs X st t) (k : ∀ T σ H, t' T σ H → t T σ H) : PSs X st t' := ⟨fun pins s σ H D I q => h.run pins s σ H D I (k D σ H q)⟩
theorem _root_.L2.PI.imp {tg it : Expr} {t t' : TI} (h : PI X tg it t) (k : ∀ σ H Q, t' σ H Q → t σ H Q) : PI X tg it t' := ⟨fun pins s σ H Q I q => h.run pins s σ H Q I (k σ H Q q)⟩
end
section
variable {W : Amb} {X : Cx} {F H F' H' : Hp}
theorem SV.step {v : V} {as : List Addr} {s : Sd} (h : SV F H v as s) (n : ∀ a ∈ as, ¬ W.A a) (st : Step W F H F' H') : SV F' H' v as s :=
  h.mono st.ff fun a ha => by
    cases q : H a with
    | none => exact absurd q (h.alive a ha)
    | some o => exact st.kp a o q (n a ha)
theorem SVs.step : ∀ {vs : List V} {ss : List Sd}, SVs W F H vs ss → Step W F H F' H' → SVs W F' H' vs ss
  | [], [], _, _ => trivial
  | v :: vs, s :: ss, ⟨⟨as, h1, h2⟩, h3⟩, st => ⟨⟨as, h1.step h2 st, h2⟩, SVs.step h3 st⟩
  | [], _ :: _, h, _ => h.elim
  | _ :: _, [], h, _ => h.elim
theorem New.alive (ok : Okay W F H) {as : List Addr} (n : New H F' as) : ∀ a ∈ as, ¬ W.A a := fun a ha => ok.alive (n.2 a ha).1
theorem New.back (ok : Okay W F H) (st : Step W F H F' H') {F2 : Hp} {as : List Addr} (n : New H' F2 as) : New H F2 as := ⟨n.1, fun a ha => ⟨st.free ok (n.2 a ha).1, (n.2 a ha).2⟩⟩
theorem PRd.e {e : Expr} {p : RE} (h : PRd W X e p) : PEd W X e p := ⟨fun F0 B => (h.run F0 B).imp fun σ H Q ⟨F, ρ, K, E, q, k⟩ => ⟨F, ρ, K, E, q, fun s v as F' H' a b c d => k s v as F' H' a b c (d.alive E.ok)⟩⟩
theorem PRd.imp {e : Expr} {p p' : RE} (h : PRd W X e p) (k : ∀ ρ K, p' ρ K → p ρ K) : PRd W X e p' := ⟨fun F0 B => (h.run F0 B).imp fun σ H Q ⟨F, ρ, K, E, q, z⟩ => ⟨F, ρ, K, E, k ρ K q, z⟩⟩
theorem PEd.imp {e : Expr} {p p' : RE} (h : PEd W X e p) (k : ∀ ρ K, p' ρ K → p ρ K) : PEd W X e p' := ⟨fun F0 B => (h.run F0 B).imp fun σ H Q ⟨F, ρ, K, E, q, z⟩ => ⟨F, ρ, K, E, k ρ K q, z⟩⟩
/-- freezing what is new -/
def Sd.frz : Sd → Option D
  | .d x => some x
  | .ol xs => some (.lst xs)
  | .ot kvs => some (.dct kvs)
  | _ => none
theorem Step.frz1 (st : Step W F H F' H') (ok : Okay W F H) {l : Addr} {o : HO} (h : H' l = some o) (n : H l = none) (nF : F' l = none) : Step W F H (upd F' l o) H' := by
  have k := st.ok.freeze h nF (ok.alive n)
  refine ⟨fun a u q => ?_, st.kp, fun a u q => ?_, k⟩
  · have q' := st.ff a u q
    rw [upd_ne (ne_of_none q' nF)]; exact q'
  · by_cases z : a = l
    · rw [z]; exact .inr n
    · rw [upd_ne z] at q; exact st.nw a u q
theorem Step.frz (st : Step W F H F' H') (ok : Okay W F H) {v : V} {as : List Addr} {s : Sd} {d : D} (h : SV F' H' v as s) (n : New H F' as) (e : s.frz = some d) : ∃ F2, Step W F H F2 H' ∧ Is F2 v d ∧ Same F' F2 := by
  cases s with
  | d x => cases e; exact ⟨F', st, h.2, Same.refl _⟩
  | ol xs =>
    cases e
    obtain ⟨l, ys, rfl, rfl, h1, h2⟩ := h
    obtain ⟨n1, n2⟩ := n.2 l (by simp)
    have s2 := st.frz1 ok h1 n1 n2
    have ff : Same F' (upd F' l (.lst ys)) := fun a u q => by rw [upd_ne (ne_of_none q n2)]; exact q
    exact ⟨_, s2, .lst' upd_same (h2.mono ff), ff⟩
  | ot xs =>
    cases e
    obtain ⟨l, ys, rfl, rfl, h1, h2⟩ := h
    obtain ⟨n1, n2⟩ := n.2 l (by simp)
    have s2 := st.frz1 ok h1 n1 n2
    have ff : Same F' (upd F' l (.dT ys)) := fun a u q => by rw [upd_ne (ne_of_none q n2)]; exact q
    exact ⟨_, s2, .dct' upd_same (h2.mono ff), ff⟩
  | _ => cases e
/-- a value of one's own kind, handed on frozen -/
def dFz (p : RE) : RE := fun ρ K => p ρ fun s => ∃ d, s.frz = some d ∧ K (.d d)
theorem pr_fz {e : Expr} {p : RE} (h : PRd W X e p) : PRd W X e (dFz p) := ⟨fun F0 B => (h.run F0 B).imp fun σ H Q ⟨F, ρ, K, E, q, k⟩ => ⟨F, ρ, _, E, q, fun s v as F' H' ⟨d, e1, e2⟩ st sv n => by
  obtain ⟨F2, s2, i2, _⟩ := st.frz E.ok sv n e1
  exact k (.d d) v [] F2 H' e2 s2 ⟨rfl, i2⟩ New.nil⟩⟩
/-! ### names, constants -/
def dVar (i : Nat) : RE := fun ρ K => ∃ x, ρ[i]? = some (.d x) ∧ K (.d x)
def dVarE (i : Nat) : RE := fun ρ K => ∃ s, ρ[i]? = some s ∧ s ≠ .any ∧ K s
def dC (x : D) : RE := fun _ K => K (.d x)
theorem pr_var {i : Nat} {x : Str} {pos : Pos} (h : PE X (.Name x pos) (tVar i)) : PRd W X (.Name x pos) (dVar i) := ⟨fun F0 B => h.imp fun σ H Q ⟨F, ρ, K, E, ⟨x, e, q⟩, k⟩ => by
  obtain ⟨v, as, h1, h2, _⟩ := E.get e (by intro z; cases z)
  exact ⟨v, h1, k _ v [] F H q (Step.refl E.ok) ⟨rfl, h2.2⟩ New.nil⟩⟩
theorem pd_var {i : Nat} {x : Str} {pos : Pos} (h : PE X (.Name x pos) (tVar i)) : PEd W X (.Name x pos) (dVarE i) := ⟨fun F0 B => h.imp fun σ H Q ⟨F, ρ, K, E, ⟨s, e, n, q⟩, k⟩ => by
  obtain ⟨v, as, h1, h2, h3⟩ := E.get e n
  exact ⟨v, h1, k s v as F H q (Step.refl E.ok) h2 fun a ha => (h3 a ha).2.2⟩⟩
theorem pr_c {e : Expr} {v : V} {x : D} (h : PE X e (tC v)) (i : ∀ F, Is F v x) : PRd W X e (dC x) := ⟨fun F0 B => h.imp fun σ H Q ⟨F, ρ, K, E, q, k⟩ => k _ v [] F H q (Step.refl E.ok) ⟨rfl, i F⟩ New.nil⟩
theorem pr_int {i j pos} : PRd W X (.Constant (.int i) j pos) (dC (.int i)) := pr_c pe_int fun _ => .int i
theorem pr_bl {b j pos} : PRd W X (.Constant (.bool b) j pos) (dC (.bl b)) := pr_c pe_bl fun _ => .bl b
theorem pr_non {j pos} : PRd W X (.Constant .none j pos) (dC .non) := pr_c pe_non fun _ => .non
theorem pr_str {x j pos} : PRd W X (.Constant (.str x) j pos) (dC (.str x)) := pr_c pe_str fun _ => .str x
/-! ### operators by values -/
def OpD (W : Amb) (r : R2) (g : Sd → Sd → (Sd → Prop) → Prop) : Prop :=
  ∀ (F H : Hp) (x y : V) (ax ay : List Addr) (sx sy : Sd) (K : Sd → Prop) (Q : VK), Okay W F H → SV F H x ax sx → SV F H y ay sy → g sx sy K → (∀ s v as F' H', K s → Step W F H F' H' → SV F' H' v as s → New H F' as → Q v H') → r x y H Q
def d2 (g : Sd → Sd → (Sd → Prop) → Prop) (pa pb : RE) : RE := fun ρ K => pa ρ fun sx => pb ρ fun sy => g sx sy K
def dT2 (g : Sd → Sd → (Sd → Prop) → Prop) (pa pb : RE) : RT := fun ρ K => pa ρ fun sx => pb ρ fun sy => g sx sy fun s => ∃ b, s = .d (.bl b) ∧ K b
variable {a b : Expr} {pa pb pc : RE} {pos : Pos} {r : R2} {g : Sd → Sd → (Sd → Prop) → Prop}
theorem lift_op {S : Bs} (hd : OpD S.W r g) {σ : L2.St} {H : Hp} {Q : VK} (h : liftR S (d2 g pa pb) σ H Q) : tOp r (liftE S pa) (liftE S pb) σ H Q := by
  obtain ⟨F, ρ, K, E, q, k⟩ := h
  refine ⟨F, ρ, _, E, q, fun sx x ax F1 H1 q1 s1 v1 n1 => ?_⟩
  refine ⟨F1, ρ, _, E.step s1, q1, fun sy y ay F2 H2 q2 s2 v2 n2 => ?_⟩
  refine hd F2 H2 x y ax ay sx sy K Q s2.ok (v1.step n1 s2) v2 q2 fun s v as F3 H3 q3 s3 v3 n3 => ?_
  have s12 := s1.trans E.ok s2
  exact k s v as F3 H3 q3 (s12.trans E.ok s3) v3 (n3.back E.ok s12)
theorem pr_op {op : Operator} (ho : OpR X (binaryOp op) r) (hd : OpD W r g) (ha : PEd W X a pa) (hb : PEd W X b pb) : PRd W X (.BinOp a op b pos) (d2 g pa pb) := ⟨fun F0 B => (pe_op ho (ha.run F0 B) (hb.run F0 B)).imp fun σ H Q h => lift_op hd h⟩
theorem pr_cmp {op : CmpOp} (ho : OpR X (compareOp op) r) (hd : OpD W r g) (ha : PEd W X a pa) (hb : PEd W X b pb) (hm : behindInMarks op b = false) : PRd W X (.Compare a [op] [b] pos) (d2 g pa pb) := ⟨fun F0 B => (pe_cmpR ho (ha.run F0 B) (hb.run F0 B) hm).imp fun σ H Q h => lift_op hd h⟩
theorem pt_cmp' {op : CmpOp} (ho : OpR X (compareOp op) r) (hd : OpD W r g) (ha : PEd W X a pa) (hb : PEd W X b pb) (hm : behindInMarks op b = false) : PTd W X (.Compare a [op] [b] pos) (dT2 g pa pb) := ⟨fun F0 B => (pt_cmpR ho (ha.run F0 B) (hb.run F0 B) hm).imp fun σ H Q ⟨F, ρ, K, E, q, k⟩ =>
  lift_op (S := ⟨W, F0, B⟩) hd ⟨F, ρ, _, E, q, fun s v as F' H' ⟨b, e, z⟩ st sv n => by
    subst e
    exact ⟨b, (sv.2.bl_inv), k b F' H' z st⟩⟩⟩
theorem pr_ix (hr : IxR X r) (hd : OpD W r g) (ha : PEd W X a pa) (hb : PEd W X b pb) (hs : PlainIx b) : PRd W X (.Subscript a b pos) (d2 g pa pb) := ⟨fun F0 B => (pe_ix hr (ha.run F0 B) (hb.run F0 B) hs).imp fun σ H Q h => lift_op hd h⟩
/-- two ints -/
def gI (C : Int → Int → Prop) (g : Int → Int → D) : Sd → Sd → (Sd → Prop) → Prop := fun sx sy K => ∃ i j, sx = .d (.int i) ∧ sy = .d (.int j) ∧ C i j ∧ K (.d (g i j))
def gI0 (g : Int → Int → D) : Sd → Sd → (Sd → Prop) → Prop := fun sx sy K => ∃ i j, sx = .d (.int i) ∧ sy = .d (.int j) ∧ K (.d (g i j))
theorem od_I {C : Int → Int → Prop} {g : Int → Int → V} {g' : Int → Int → D} (h : ∀ F i j, Is F (g i j) (g' i j)) : OpD W (rI C g) (gI C g') := fun F H x y ax ay sx sy K Q ok vx vy ⟨i, j, ex, ey, c, q⟩ k => by
  subst ex ey
  exact ⟨i, j, vx.2.int_inv, vy.2.int_inv, c, k _ _ [] F H q (Step.refl ok) ⟨rfl, h F i j⟩ New.nil⟩
theorem od_I0 {g : Int → Int → V} {g' : Int → Int → D} (h : ∀ F i j, Is F (g i j) (g' i j)) : OpD W (rI0 g) (gI0 g') := fun F H x y ax ay sx sy K Q ok vx vy ⟨i, j, ex, ey, q⟩ k => by
  subst ex ey
  exact ⟨i, j, vx.2.int_inv, vy.2.int_inv, k _ _ [] F H q (Step.refl ok) ⟨rfl, h F i j⟩ New.nil⟩
abbrev gAdd := gI0 fun i j => .int (i + j)
abbrev gSub := gI0 fun i j => .int (i - j)
abbrev gMul := gI CMul fun i j => .int (i * j)
abbrev gFdiv := gI CDivN fun i j => .int (i.fdiv j)
abbrev gMod := gI (fun _ j => 0 < j) fun i j => .int (i % j)
abbrev gPow := gI CPow fun i j => .int (i ^ j.toNat)
abbrev gLt := gI0 fun i j => .bl (decide (i < j))
abbrev gLe := gI0 fun i j => .bl (decide (i ≤ j))
abbrev gGt := gI0 fun i j => .bl (decide (j < i))
abbrev gGe := gI0 fun i j => .bl (decide (j ≤ i))
theorem pr_add (ha : PEd W X a pa) (hb : PEd W X b pb) : PRd W X (.BinOp a .Add b pos) (d2 gAdd pa pb) := pr_op op_add (od_I0 fun _ _ _ => .int _) ha hb
theorem pr_sub (ha : PEd W X a pa) (hb : PEd W X b pb) : PRd W X (.BinOp a .Sub b pos) (d2 gSub pa pb) := pr_op op_sub (od_I0 fun _ _ _ => .int _) ha hb
theorem pr_mul (ha : PEd W X a pa) (hb : PEd W X b pb) : PRd W X (.BinOp a .Mult b pos) (d2 gMul pa pb) := pr_op op_mul (od_I fun _ _ _ => .int _) ha hb
theorem pr_fdiv (ha : PEd W X a pa) (hb : PEd W X b pb) : PRd W X (.BinOp a .FloorDiv b pos) (d2 gFdiv pa pb) := pr_op op_fdivN (od_I fun _ _ _ => .int _) ha hb
theorem pr_mod (ha : PEd W X a pa) (hb : PEd W X b pb) : PRd W X (.BinOp a .Mod b pos) (d2 gMod pa pb) := pr_op op_mod (od_I fun _ _ _ => .int _) ha hb
theorem pr_pow (ha : PEd W X a pa) (hb : PEd W X b pb) : PRd W X (.BinOp a .Pow b pos) (d2 gPow pa pb) := pr_op op_pow (od_I fun _ _ _ => .int _) ha hb
theorem pr_lt (ha : PEd W X a pa) (hb : PEd W X b pb) : PRd W X (.Compare a [.Lt] [b] pos) (d2 gLt pa pb) := pr_cmp op_lt (od_I0 fun _ _ _ => .bl _) ha hb (nomark _)
theorem pr_le (ha : PEd W X a pa) (hb : PEd W X b pb) : PRd W X (.Compare a [.LtE] [b] pos) (d2 gLe pa pb) := pr_cmp op_le (od_I0 fun _ _ _ => .bl _) ha hb (nomark _)
theorem pr_gt (ha : PEd W X a pa) (hb : PEd W X b pb) : PRd W X (.Compare a [.Gt] [b] pos) (d2 gGt pa pb) := pr_cmp op_gt (od_I0 fun _ _ _ => .bl _) ha hb (nomark _)
theorem pr_ge (ha : PEd W X a pa) (hb : PEd W X b pb) : PRd W X (.Compare a [.GtE] [b] pos) (d2 gGe pa pb) := pr_cmp op_ge (od_I0 fun _ _ _ => .bl _) ha hb (nomark _)
theorem pt_lt (ha : PEd W X a pa) (hb : PEd W X b pb) : PTd W X (.Compare a [.Lt] [b] pos) (dT2 gLt pa pb) := pt_cmp' op_lt (od_I0 fun _ _ _ => .bl _) ha hb (nomark _)
theorem pt_le (ha : PEd W X a pa) (hb : PEd W X b pb) : PTd W X (.Compare a [.LtE] [b] pos) (dT2 gLe pa pb) := pt_cmp' op_le (od_I0 fun _ _ _ => .bl _) ha hb (nomark _)
theorem pt_gt (ha : PEd W X a pa) (hb : PEd W X b pb) : PTd W X (.Compare a [.Gt] [b] pos) (dT2 gGt pa pb) := pt_cmp' op_gt (od_I0 fun _ _ _ => .bl _) ha hb (nomark _)
theorem pt_ge (ha : PEd W X a pa) (hb : PEd W X b pb) : PTd W X (.Compare a [.GtE] [b] pos) (dT2 gGe pa pb) := pt_cmp' op_ge (od_I0 fun _ _ _ => .bl _) ha hb (nomark _)
/-- == of scalars of one kind -/
def sameSc : D → D → Option Bool
  | .int i, .int j => some (decide (i = j))
  | .bl i, .bl j => some (decide (i = j))
  | .str i, .str j => some (decide (i = j))
  | _, _ => none
def gEqS : Sd → Sd → (Sd → Prop) → Prop := fun sx sy K => ∃ x y c, sx = .d x ∧ sy = .d y ∧ sameSc x y = some c ∧ K (.d (.bl c))
def gNeS : Sd → Sd → (Sd → Prop) → Prop := fun sx sy K => ∃ x y c, sx = .d x ∧ sy = .d y ∧ sameSc x y = some c ∧ K (.d (.bl (!c)))
theorem sameSc_ok {F : Hp} {x y : V} {dx dy : D} {c : Bool} (hx : Is F x dx) (hy : Is F y dy) (h : sameSc dx dy = some c) : scal x y = true ∧ decide (x = y) = c := by
  unfold sameSc at h
  split at h
  · rw [hx.int_inv, hy.int_inv]
    refine ⟨rfl, ?_⟩
    rw [dec_int, ← Option.some.inj h]; exact Bool.beq_eq_decide_eq _ _
  · rw [hx.bl_inv, hy.bl_inv]
    refine ⟨rfl, ?_⟩
    rw [dec_bl, ← Option.some.inj h]; exact Bool.beq_eq_decide_eq _ _
  · rw [hx.str_inv, hy.str_inv]
    refine ⟨rfl, ?_⟩
    rw [← Option.some.inj h]
    simp
  · cases h
theorem od_eqS : OpD W rEq gEqS := fun F H x y ax ay sx sy K Q ok vx vy ⟨dx, dy, c, ex, ey, hc, q⟩ k => by
  subst ex ey
  obtain ⟨e1, e2⟩ := sameSc_ok vx.2 vy.2 hc
  exact ⟨e1, by rw [e2]; exact k _ _ [] F H q (Step.refl ok) ⟨rfl, .bl _⟩ New.nil⟩
theorem od_neS : OpD W rNe gNeS := fun F H x y ax ay sx sy K Q ok vx vy ⟨dx, dy, c, ex, ey, hc, q⟩ k => by
  subst ex ey
  obtain ⟨e1, e2⟩ := sameSc_ok vx.2 vy.2 hc
  exact ⟨e1, by rw [e2]; exact k _ _ [] F H q (Step.refl ok) ⟨rfl, .bl _⟩ New.nil⟩
theorem pr_eqS (ha : PEd W X a pa) (hb : PEd W X b pb) : PRd W X (.Compare a [.Eq] [b] pos) (d2 gEqS pa pb) := pr_cmp op_eq od_eqS ha hb (nomark _)
theorem pt_eqS (ha : PEd W X a pa) (hb : PEd W X b pb) : PTd W X (.Compare a [.Eq] [b] pos) (dT2 gEqS pa pb) := pt_cmp' op_eq od_eqS ha hb (nomark _)
theorem pr_neS (ha : PEd W X a pa) (hb : PEd W X b pb) : PRd W X (.Compare a [.NotEq] [b] pos) (d2 gNeS pa pb) := pr_cmp op_ne od_neS ha hb (nomark _)
theorem pt_neS (ha : PEd W X a pa) (hb : PEd W X b pb) : PTd W X (.Compare a [.NotEq] [b] pos) (dT2 gNeS pa pb) := pt_cmp' op_ne od_neS ha hb (nomark _)
/-- is None -/
def Sd.isN : Sd → Bool
  | .d .non => true
  | _ => false
theorem SV.isN {v : V} {as : List Addr} {s : Sd} (h : SV F H v as s) (n : s ≠ .any) : decide (v = .non) = s.isN := by
  cases s with
  | any => exact absurd rfl n
  | d x => cases h.2 <;> rfl
  | ol xs => obtain ⟨l, ys, rfl, _⟩ := h; rfl
  | ot xs => obtain ⟨l, ys, rfl, _⟩ := h; rfl
  | oi xs => obtain ⟨l, ys, rfl, _⟩ := h; rfl
  | oo xs => obtain ⟨l, ys, ls, rfl, _⟩ := h; rfl
  | oa l xs => obtain ⟨ys, ls, rfl, _⟩ := h; rfl
  | ob l C fs => obtain ⟨dx, ps, rfl, _⟩ := h; rfl
def dIsN (pa : RE) : RE := fun ρ K => pa ρ fun s => s ≠ .any ∧ K (.d (.bl s.isN))
def dNotN (pa : RE) : RE := fun ρ K => pa ρ fun s => s ≠ .any ∧ K (.d (.bl (!s.isN)))
theorem pr_isN {j pos'} (ha : PEd W X a pa) : PRd W X (.Compare a [.Is] [.Constant .none j pos'] pos) (dIsN pa) := ⟨fun F0 B => (pe_cmp (pc_isN (ha.run F0 B))).imp fun σ H Q ⟨F, ρ, K, E, q, k⟩ => ⟨F, ρ, _, E, q, fun s v as F' H' ⟨n, z⟩ st sv na => by
  dsimp only; rw [sv.isN n]; exact k _ _ [] F' H' z st ⟨rfl, .bl _⟩ New.nil⟩⟩
theorem pr_notN {j pos'} (ha : PEd W X a pa) : PRd W X (.Compare a [.IsNot] [.Constant .none j pos'] pos) (dNotN pa) := ⟨fun F0 B => (pe_cmp (pc_notN (ha.run F0 B))).imp fun σ H Q ⟨F, ρ, K, E, q, k⟩ => ⟨F, ρ, _, E, q, fun s v as F' H' ⟨n, z⟩ st sv na => by
  dsimp only; rw [sv.isN n]; exact k _ _ [] F' H' z st ⟨rfl, .bl _⟩ New.nil⟩⟩
/-! ### tests -/
def dTB (p : RE) : RT := fun ρ K => p ρ fun s => ∃ b, s = .d (.bl b) ∧ K b
theorem lift_tB {S : Bs} {σ : L2.St} {H : Hp} {Q : Bool → Hp → Prop} (h : liftT S (dTB pa) σ H Q) : tB (liftE S pa) σ H Q := by
  obtain ⟨F, ρ, K, E, q, k⟩ := h
  exact ⟨F, ρ, _, E, q, fun s v as F' H' ⟨b, e, z⟩ st sv n => by
    subst e
    exact ⟨b, sv.2.bl_inv, k b F' H' z st⟩⟩
theorem pt_v {e : Expr} {p : RE} (h : PEd W X e p) (he : ∀ whole, isTrue e X.env whole = (do let v ← whole; standAt e.pos; holding [v] (truthy v)) := by intro _; rfl) : PTd W X e (dTB p) := ⟨fun F0 B => (pt_val (h.run F0 B) he).imp fun σ H Q h => lift_tB h⟩
theorem pt_isN {j pos'} (ha : PEd W X a pa) : PTd W X (.Compare a [.Is] [.Constant .none j pos'] pos) (dTB (dIsN pa)) := ⟨fun F0 B => (pt_cmp (pc_isN (ha.run F0 B))).imp fun σ H Q ⟨F, ρ, K, E, q, k⟩ => ⟨F, ρ, _, E, q, fun s v as F' H' ⟨n, b, e, z⟩ st sv na => by
  dsimp only; rw [sv.isN n]
  cases e
  exact ⟨_, rfl, k _ F' H' z st⟩⟩⟩
theorem pt_notN {j pos'} (ha : PEd W X a pa) : PTd W X (.Compare a [.IsNot] [.Constant .none j pos'] pos) (dTB (dNotN pa)) := ⟨fun F0 B => (pt_cmp (pc_notN (ha.run F0 B))).imp fun σ H Q ⟨F, ρ, K, E, q, k⟩ => ⟨F, ρ, _, E, q, fun s v as F' H' ⟨n, b, e, z⟩ st sv na => by
  dsimp only; rw [sv.isN n]
  cases e
  exact ⟨_, rfl, k _ F' H' z st⟩⟩⟩
def dAnd (p q : RT) : RT := fun ρ K => p ρ fun b => (b = true → q ρ K) ∧ (b = false → K false)
def dOr (p q : RT) : RT := fun ρ K => p ρ fun b => (b = true → K true) ∧ (b = false → q ρ K)
def dNot (p : RT) : RT := fun ρ K => p ρ fun b => K (!b)
variable {tp tq : RT} {rest : List Expr}
theorem lift_and {S : Bs} {σ : L2.St} {H : Hp} {Q : Bool → Hp → Prop} (h : liftT S (dAnd tp tq) σ H Q) : tAnd (liftT S tp) (liftT S tq) σ H Q := by
  obtain ⟨F, ρ, K, E, q, k⟩ := h
  refine ⟨F, ρ, _, E, q, fun b F1 H1 ⟨z1, z2⟩ st => ?_⟩
  cases b with
  | true => exact ⟨F1, ρ, K, E.step st, z1 rfl, fun b F2 H2 kb st2 => k b F2 H2 kb (st.trans E.ok st2)⟩
  | false => exact k false F1 H1 (z2 rfl) st
theorem lift_or {S : Bs} {σ : L2.St} {H : Hp} {Q : Bool → Hp → Prop} (h : liftT S (dOr tp tq) σ H Q) : tOr (liftT S tp) (liftT S tq) σ H Q := by
  obtain ⟨F, ρ, K, E, q, k⟩ := h
  refine ⟨F, ρ, _, E, q, fun b F1 H1 ⟨z1, z2⟩ st => ?_⟩
  cases b with
  | false => exact ⟨F1, ρ, K, E.step st, z2 rfl, fun b F2 H2 kb st2 => k b F2 H2 kb (st.trans E.ok st2)⟩
  | true => exact k true F1 H1 (z1 rfl) st
theorem PWd.t {e : Expr} (h : PWd W X e tp) : PTd W X e tp := ⟨fun F0 B => (h.run F0 B).pt⟩
theorem pwd_and1 (ha : PTd W X a tp) : PWd W X (.BoolOp .And [a] pos) tp := ⟨fun F0 B => pw_and1 (ha.run F0 B)⟩
theorem pwd_or1 (ha : PTd W X a tp) : PWd W X (.BoolOp .Or [a] pos) tp := ⟨fun F0 B => pw_or1 (ha.run F0 B)⟩
theorem pwd_and (ha : PTd W X a tp) (hb : PWd W X (.BoolOp .And (b :: rest) pos) tq) : PWd W X (.BoolOp .And (a :: b :: rest) pos) (dAnd tp tq) := ⟨fun F0 B => (pw_and (ha.run F0 B) (hb.run F0 B)).imp fun σ H Q h => lift_and h⟩
theorem pwd_or (ha : PTd W X a tp) (hb : PWd W X (.BoolOp .Or (b :: rest) pos) tq) : PWd W X (.BoolOp .Or (a :: b :: rest) pos) (dOr tp tq) := ⟨fun F0 B => (pw_or (ha.run F0 B) (hb.run F0 B)).imp fun σ H Q h => lift_or h⟩
theorem ptd_not (ha : PTd W X a tp) : PTd W X (.UnaryOp .Not a pos) (dNot tp) := ⟨fun F0 B => (pt_not (ha.run F0 B)).imp fun σ H Q ⟨F, ρ, K, E, q, k⟩ => ⟨F, ρ, _, E, q, fun b F' H' z st => k _ F' H' z st⟩⟩
/-! ### and, or, not as values: bools -/
def dAndV (pa pb : RE) : RE := fun ρ K => pa ρ fun s => ∃ b, s = .d (.bl b) ∧ (b = true → pb ρ K) ∧ (b = false → K (.d (.bl false)))
def dOrV (pa pb : RE) : RE := fun ρ K => pa ρ fun s => ∃ b, s = .d (.bl b) ∧ (b = true → K (.d (.bl true))) ∧ (b = false → pb ρ K)
def dNotV (pa : RE) : RE := fun ρ K => pa ρ fun s => ∃ b, s = .d (.bl b) ∧ K (.d (.bl (!b)))
theorem pr_one {op} (h : PRd W X a pa) : PRd W X (.BoolOp op [a] pos) pa := ⟨fun F0 B => pe_one (h.run F0 B)⟩
theorem pr_and (ha : PEd W X a pa) (hb : PRd W X (.BoolOp .And (b :: rest) pos) pb) : PRd W X (.BoolOp .And (a :: b :: rest) pos) (dAndV pa pb) := ⟨fun F0 B => (pe_and (ha.run F0 B) (hb.run F0 B)).imp fun σ H Q ⟨F, ρ, K, E, q, k⟩ => ⟨F, ρ, _, E, q, fun s v as F1 H1 ⟨b, e, z1, z2⟩ st sv n => by
  subst e
  refine ⟨b, sv.2.bl_inv, ?_⟩
  cases b with
  | true => exact ⟨F1, ρ, K, E.step st, z1 rfl, fun s v as F2 H2 ks st2 sv2 n2 => k s v as F2 H2 ks (st.trans E.ok st2) sv2 (n2.back E.ok st)⟩
  | false => exact k _ _ [] F1 H1 (z2 rfl) st ⟨rfl, .bl _⟩ New.nil⟩⟩
theorem pr_or (ha : PEd W X a pa) (hb : PRd W X (.BoolOp .Or (b :: rest) pos) pb) : PRd W X (.BoolOp .Or (a :: b :: rest) pos) (dOrV pa pb) := ⟨fun F0 B => (pe_or (ha.run F0 B) (hb.run F0 B)).imp fun σ H Q ⟨F, ρ, K, E, q, k⟩ => ⟨F, ρ, _, E, q, fun s v as F1 H1 ⟨b, e, z1, z2⟩ st sv n => by
  subst e
  refine ⟨b, sv.2.bl_inv, ?_⟩
  cases b with
  | false => exact ⟨F1, ρ, K, E.step st, z2 rfl, fun s v as F2 H2 ks st2 sv2 n2 => k s v as F2 H2 ks (st.trans E.ok st2) sv2 (n2.back E.ok st)⟩
  | true => exact k _ _ [] F1 H1 (z1 rfl) st ⟨rfl, .bl _⟩ New.nil⟩⟩
theorem pr_not (ha : PEd W X a pa) : PRd W X (.UnaryOp .Not a pos) (dNotV pa) := ⟨fun F0 B => (pe_not (ha.run F0 B)).imp fun σ H Q ⟨F, ρ, K, E, q, k⟩ => ⟨F, ρ, _, E, q, fun s v as F1 H1 ⟨b, e, z⟩ st sv n => by
  subst e
  exact ⟨b, sv.2.bl_inv, k _ _ [] F1 H1 z st ⟨rfl, .bl _⟩ New.nil⟩⟩⟩
def dIf (p : RT) (pa pb : RE) : RE := fun ρ K => p ρ fun b => (b = true → pa ρ K) ∧ (b = false → pb ρ K)
theorem pr_if {c : Expr} (hc : PTd W X c tp) (ha : PRd W X a pa) (hb : PRd W X b pb) : PRd W X (.IfExp c a b pos) (dIf tp pa pb) := ⟨fun F0 B => (pe_ifExp (hc.run F0 B) (ha.run F0 B) (hb.run F0 B)).imp fun σ H Q ⟨F, ρ, K, E, q, k⟩ => ⟨F, ρ, _, E, q, fun b F1 H1 ⟨z1, z2⟩ st => by
  cases b with
  | true => exact ⟨F1, ρ, K, E.step st, z1 rfl, fun s v as F2 H2 ks st2 sv2 n2 => k s v as F2 H2 ks (st.trans E.ok st2) sv2 (n2.back E.ok st)⟩
  | false => exact ⟨F1, ρ, K, E.step st, z2 rfl, fun s v as F2 H2 ks st2 sv2 n2 => k s v as F2 H2 ks (st.trans E.ok st2) sv2 (n2.back E.ok st)⟩⟩⟩
/-! ### arguments -/
def dNil : RA := fun _ K => K []
def dCons (p : RE) (q : RA) : RA := fun ρ K => p ρ fun s => ∃ d, s.frz = some d ∧ q ρ fun ds => K (d :: ds)
theorem pad_nil : PAd W X [] dNil := ⟨fun F0 B => pa_nil.imp fun σ H Q ⟨F, ρ, K, E, q, k⟩ => k [] [] F H q (Step.refl E.ok) trivial⟩
theorem pad_cons {es : List Expr} {q : RA} (ha : PRd W X e pa) (hr : PAd W X es q) (hs : starEach (e :: es) X.env = (false, eval e X.env) :: starEach es X.env := by rfl) : PAd W X (e :: es) (dCons pa q) := ⟨fun F0 B => (pa_cons (ha.run F0 B) (hr.run F0 B) hs).imp fun σ H Q ⟨F, ρ, K, E, q, k⟩ => ⟨F, ρ, _, E, q, fun s v as F1 H1 ⟨d, e1, z⟩ st sv n => by
  obtain ⟨F2, s2, i2, _⟩ := st.frz E.ok sv n e1
  exact ⟨F2, ρ, _, E.step s2, z, fun ds vs F3 H3 kd st3 il => k (d :: ds) (v :: vs) F3 H3 kd (s2.trans E.ok st3) ⟨i2.mono st3.ff, il⟩⟩⟩⟩
def vNil : RV := fun _ K => K []
def vCons (p : RE) (q : RV) : RV := fun ρ K => p ρ fun s => q ρ fun ss => K (s :: ss)
theorem pvd_nil : PVd W X [] vNil := ⟨fun F0 B => pa_nil.imp fun σ H Q ⟨F, ρ, K, E, q, k⟩ => k [] [] F H q (Step.refl E.ok) trivial⟩
theorem pvd_cons {es : List Expr} {q : RV} (ha : PEd W X e pa) (hr : PVd W X es q) (hs : starEach (e :: es) X.env = (false, eval e X.env) :: starEach es X.env := by rfl) : PVd W X (e :: es) (vCons pa q) := ⟨fun F0 B => (pa_cons (ha.run F0 B) (hr.run F0 B) hs).imp fun σ H Q ⟨F, ρ, K, E, q, k⟩ => ⟨F, ρ, _, E, q, fun s v as F1 H1 z st sv n =>
  ⟨F1, ρ, _, E.step st, z, fun ss vs F3 H3 kd st3 il => k (s :: ss) (v :: vs) F3 H3 kd (st.trans E.ok st3) ⟨⟨as, sv.step n st3, n⟩, il⟩⟩⟩⟩
/-- a tuple, a list -/
def dTup (q : RA) : RE := fun ρ K => q ρ fun ds => ds.length ≤ 100000 ∧ K (.d (.tup ds))
def dLst (q : RA) : RE := fun ρ K => q ρ fun ds => ds.length ≤ 100000 ∧ K (.ol ds)
theorem sz5 {n : Nat} (h : n ≤ 100000) : n ≤ sizeLine := Nat.le_trans h (by decide)
theorem pr_tup {es : List Expr} {x1} {q : RA} (h : PAd W X es q) : PRd W X (.Tuple es x1 pos) (dTup q) := ⟨fun F0 B => (pe_tup (h.run F0 B)).imp fun σ H Q ⟨F, ρ, K, E, q, k⟩ => ⟨F, ρ, _, E, q, fun ds vs F1 H1 ⟨hl, z⟩ st il =>
  ⟨by rw [il.length]; exact sz5 hl, fun p hp => by
    have s2 := Step.new (o := .tup vs) st.ok hp
    exact k _ _ [] _ _ z (st.trans E.ok s2) ⟨rfl, .tup' upd_same (il.mono s2.ff)⟩ New.nil⟩⟩⟩
theorem pr_lst {es : List Expr} {q : RA} (h : PAd W X es q) : PRd W X (.List es pos) (dLst q) := ⟨fun F0 B => (pe_lst (h.run F0 B)).imp fun σ H Q ⟨F, ρ, K, E, q, k⟩ => ⟨F, ρ, _, E, q, fun ds vs F1 H1 ⟨hl, z⟩ st il =>
  ⟨by rw [il.length]; exact sz5 hl, fun p hp => by
    have s2 := Step.own (o := .lst vs) st.ok hp
    exact k _ _ [p] _ _ z (st.trans E.ok s2) ⟨p, vs, rfl, rfl, upd_same, il⟩ ⟨by simp, fun a ha => by
      simp at ha
      subst ha
      exact ⟨st.free E.ok hp, st.ok.fresh hp⟩⟩⟩⟩⟩
end
end DL
namespace DL
open PySem PySem.Spec L2
/-! ### what may be read of a value -/
/-- a list (frozen or own) -/
def Sd.list : Sd → Option (List D)
  | .d (.lst xs) => some xs
  | .ol xs => some xs
  | _ => none
def Sd.tup : Sd → Option (List D)
  | .d (.tup xs) => some xs
  | _ => none
def Sd.seq : Sd → Option (List D)
  | .d (.lst xs) => some xs
  | .d (.tup xs) => some xs
  | .ol xs => some xs
  | _ => none
def Sd.dct : Sd → Option (List (List Int × D))
  | .d (.dct xs) => some xs
  | .ot xs => some xs
  | _ => none
section
variable {W : Amb} {X : Cx} {F H F' H' : Hp} {v : V} {as : List Addr} {s : Sd}
theorem SV.list (h : SV F H v as s) (fh : Same F H) {xs : List D} (e : s.list = some xs) : ∃ l ys, v = .ref l ∧ H l = some (.lst ys) ∧ IsL F ys xs := by
  cases s with
  | d x =>
    cases x with
    | lst xs' =>
      cases e
      obtain ⟨l, ys, rfl, h1, h2⟩ := h.2.lst_inv
      exact ⟨l, ys, rfl, fh _ _ h1, h2⟩
    | _ => cases e
  | ol xs' =>
    cases e
    obtain ⟨l, ys, rfl, _, h1, h2⟩ := h
    exact ⟨l, ys, rfl, h1, h2⟩
  | _ => cases e
theorem SV.tup (h : SV F H v as s) (fh : Same F H) {xs : List D} (e : s.tup = some xs) : ∃ l ys, v = .ref l ∧ F l = some (.tup ys) ∧ H l = some (.tup ys) ∧ IsL F ys xs := by
  cases s with
  | d x =>
    cases x with
    | tup xs' =>
      cases e
      obtain ⟨l, ys, rfl, h1, h2⟩ := h.2.tup_inv
      exact ⟨l, ys, rfl, h1, fh _ _ h1, h2⟩
    | _ => cases e
  | _ => cases e
theorem Sd.seq_of (s : Sd) {xs : List D} (e : s.seq = some xs) : s.list = some xs ∨ s.tup = some xs := by
  cases s with
  | d x => cases x <;> first | exact .inl e | exact .inr e | cases e
  | ol xs' => exact .inl e
  | _ => cases e
theorem SV.seq (h : SV F H v as s) (fh : Same F H) {xs : List D} (e : s.seq = some xs) : ∃ l ys, v = .ref l ∧ (H l = some (.lst ys) ∨ H l = some (.tup ys)) ∧ IsL F ys xs := by
  rcases s.seq_of e with e | e
  · obtain ⟨l, ys, a, b, c⟩ := h.list fh e
    exact ⟨l, ys, a, .inl b, c⟩
  · obtain ⟨l, ys, a, _, b, c⟩ := h.tup fh e
    exact ⟨l, ys, a, .inr b, c⟩
theorem SV.dct (h : SV F H v as s) (fh : Same F H) {xs : List (List Int × D)} (e : s.dct = some xs) : ∃ l ys, v = .ref l ∧ H l = some (.dT ys) ∧ IsT F ys xs := by
  cases s with
  | d x =>
    cases x with
    | dct xs' =>
      cases e
      obtain ⟨l, ys, rfl, h1, h2⟩ := h.2.dct_inv
      exact ⟨l, ys, rfl, fh _ _ h1, h2⟩
    | _ => cases e
  | ot xs' =>
    cases e
    obtain ⟨l, ys, rfl, _, h1, h2⟩ := h
    exact ⟨l, ys, rfl, h1, h2⟩
  | _ => cases e
theorem sq {K : PySem.W.Frag} {l : Addr} {ys : List V} (h : H l = some (.lst ys) ∨ H l = some (.tup ys)) : SqL K H l ys ∨ SqT K H l ys := by
  rcases h with h | h
  · exact .inl (SqL.of h)
  · exact .inr (SqT.of h)
/-! ### calls of built-ins by values -/
def CallD (W : Amb) (r : List V → Hp → VK → Prop) (g : List Sd → (Sd → Prop) → Prop) : Prop :=
  ∀ (F H : Hp) (vs : List V) (ss : List Sd) (K : Sd → Prop) (Q : VK), Okay W F H → SVs W F H vs ss → g ss K → (∀ s v as F' H', K s → Step W F H F' H' → SV F' H' v as s → New H F' as → Q v H') → r vs H Q
def dCB (g : List Sd → (Sd → Prop) → Prop) (q : RV) : RE := fun ρ K => q ρ fun ss => g ss K
variable {x : Str} {p pos : Pos} {e : Expr} {es : List Expr} {q : RV} {r : List V → Hp → VK → Prop} {g : List Sd → (Sd → Prop) → Prop} {id : String} {a b : Expr} {pa pb : RE}
theorem lift_cb {S : Bs} (hd : CallD S.W r g) {σ : L2.St} {H : Hp} {Q : VK} (h : liftR S (dCB g q) σ H Q) : tCB r (liftV S q) σ H Q := by
  obtain ⟨F, ρ, K, E, q, k⟩ := h
  refine ⟨F, ρ, _, E, q, fun ss vs F1 H1 q1 s1 v1 => ?_⟩
  exact hd F1 H1 vs ss K Q s1.ok v1 q1 fun s v as F3 H3 q3 s3 v3 n3 => k s v as F3 H3 q3 (s1.trans E.ok s3) v3 (n3.back E.ok s1)
theorem pr_callB (hc : CallR X (.builtin id) r) (hd : CallD W r g) (hg : Gl X x) (hm : X.mg x = none) (hv : bootBuiltins x = some (.builtin id)) (ha : PVd W X (e :: es) q) (hn : x ≠ "__name__" := by decide) (hdb : (x == ("__debug__" : Str)) = false := by decide)
    (he : starEach (e :: es) X.env = (false, eval e X.env) :: starEach es X.env := by rfl) (hpl : (backTo pos (starEach es X.env)).any (·.1) = false := by rfl) : PRd W X (.Call (.Name x p) (e :: es) [] pos) (dCB g q) :=
  ⟨fun F0 B => (pe_callB hc hg hm hv (ha.run F0 B) hn hdb he hpl).imp fun σ H Q h => lift_cb hd h⟩
theorem pr_callTy {T : String} (hc : CallR X (.type T) r) (hd : CallD W r g) (hg : Gl X x) (hm : X.mg x = none) (hv : bootBuiltins x = some (.type T)) (ha : PVd W X (e :: es) q) (hn : x ≠ "__name__" := by decide) (hdb : (x == ("__debug__" : Str)) = false := by decide)
    (he : starEach (e :: es) X.env = (false, eval e X.env) :: starEach es X.env := by rfl) (hpl : (backTo pos (starEach es X.env)).any (·.1) = false := by rfl) : PRd W X (.Call (.Name x p) (e :: es) [] pos) (dCB g q) :=
  ⟨fun F0 B => (pe_callTy hc hg hm hv (ha.run F0 B) hn hdb he hpl).imp fun σ H Q h => lift_cb hd h⟩
theorem SVs.one {vs : List V} (h : SVs W F H vs [s]) : ∃ v as, vs = [v] ∧ SV F H v as s ∧ ∀ a ∈ as, ¬ W.A a := by
  cases vs with
  | nil => exact h.elim
  | cons v vs =>
    cases vs with
    | nil =>
      obtain ⟨as, h1, h2⟩ := h.1
      exact ⟨v, as, rfl, h1, h2⟩
    | cons u us => exact h.2.elim
theorem SVs.two {vs : List V} {s2 : Sd} (h : SVs W F H vs [s, s2]) : ∃ v as v2 as2, vs = [v, v2] ∧ SV F H v as s ∧ (∀ a ∈ as, ¬ W.A a) ∧ SV F H v2 as2 s2 := by
  cases vs with
  | nil => exact h.elim
  | cons v vs =>
    obtain ⟨v2, as2, e, h3, h4⟩ := SVs.one h.2
    obtain ⟨as, h1, h2⟩ := h.1
    subst e
    exact ⟨v, as, v2, as2, rfl, h1, h2, h3⟩
/-- len -/
def gLen : List Sd → (Sd → Prop) → Prop := fun ss K => ∃ (s : Sd) (xs : List D), ss = [s] ∧ s.seq = some xs ∧ K (.d (.int xs.length))
theorem cd_len : CallD W (fun xs H Q => ∃ p ys, xs = [.ref p] ∧ (SqL X.K H p ys ∨ SqT X.K H p ys) ∧ Q (.int ys.length) H) gLen := fun F H vs ss K Q ok sv ⟨s, xs, e, hs, z⟩ k => by
  subst e
  obtain ⟨v, as, rfl, h1, h2⟩ := sv.one
  obtain ⟨l, ys, rfl, h3, h4⟩ := h1.seq ok.fh hs
  exact ⟨l, ys, rfl, sq h3, k _ _ [] F H z (Step.refl ok) ⟨rfl, by rw [h4.length]; exact .int _⟩ New.nil⟩
theorem pr_len (hg : Gl X "len") (hm : X.mg "len" = none) (ha : PEd W X e pa) (he : starEach [e] X.env = (false, eval e X.env) :: starEach [] X.env := by rfl) : PRd W X (.Call (.Name "len" p) [e] [] pos) (dCB gLen (vCons pa vNil)) :=
  pr_callB call_len_seq cd_len hg hm PySem.boot_len (pvd_cons ha pvd_nil he) (he := he)
/-- list(x) -/
def gList : List Sd → (Sd → Prop) → Prop := fun ss K => ∃ (s : Sd) (xs : List D), ss = [s] ∧ s.seq = some xs ∧ K (.ol xs)
theorem new1 {F H : Hp} {W : Amb} (ok : Okay W F H) {p : Addr} (hp : H p = none) : New H F [p] := ⟨by simp, fun a ha => by simp at ha; subst ha; exact ⟨hp, ok.fresh hp⟩⟩
theorem cd_list : CallD W (fun xs H Q => ∃ p ys, xs = [.ref p] ∧ (SqL X.K H p ys ∨ SqT X.K H p ys) ∧ ∀ l, H l = none → Q (.ref l) (upd H l (.lst ys))) gList := fun F H vs ss K Q ok sv ⟨s, xs, e, hs, z⟩ k => by
  subst e
  obtain ⟨v, as, rfl, h1, h2⟩ := sv.one
  obtain ⟨l, ys, rfl, h3, h4⟩ := h1.seq ok.fh hs
  exact ⟨l, ys, rfl, sq h3, fun p hp => k _ _ [p] F _ z (Step.own ok hp) ⟨p, ys, rfl, rfl, upd_same, h4⟩ (new1 ok hp)⟩
theorem pr_list (hg : Gl X "list") (hm : X.mg "list" = none) (ha : PEd W X e pa) (he : starEach [e] X.env = (false, eval e X.env) :: starEach [] X.env := by rfl) : PRd W X (.Call (.Name "list" p) [e] [] pos) (dCB gList (vCons pa vNil)) :=
  pr_callTy call_list_of cd_list hg hm (by decide +kernel) (pvd_cons ha pvd_nil he) (he := he)
/-- tuple(x) -/
def gTuple : List Sd → (Sd → Prop) → Prop := fun ss K => ∃ (s : Sd) (xs : List D), ss = [s] ∧ s.seq = some xs ∧ K (.d (.tup xs))
theorem cd_tuple : CallD W (fun xs H Q => ∃ p ys, xs = [.ref p] ∧ ((SqL X.K H p ys ∧ ∀ l, H l = none → Q (.ref l) (upd H l (.tup ys))) ∨ (SqT X.K H p ys ∧ Q (.ref p) H))) gTuple := fun F H vs ss K Q ok sv ⟨s, xs, e, hs, z⟩ k => by
  subst e
  obtain ⟨v, as, rfl, h1, h2⟩ := sv.one
  rcases s.seq_of hs with hs | hs
  · obtain ⟨l, ys, rfl, h3, h4⟩ := h1.list ok.fh hs
    exact ⟨l, ys, rfl, .inl ⟨SqL.of h3, fun p hp => by
      have st := Step.new (o := .tup ys) ok hp
      exact k _ _ [] _ _ z st ⟨rfl, .tup' upd_same (h4.mono st.ff)⟩ New.nil⟩⟩
  · obtain ⟨l, ys, rfl, h3, h5, h4⟩ := h1.tup ok.fh hs
    exact ⟨l, ys, rfl, .inr ⟨SqT.of h5, k _ _ [] _ _ z (Step.refl ok) ⟨rfl, .tup' h3 h4⟩ New.nil⟩⟩
theorem pr_tuple (hg : Gl X "tuple") (hm : X.mg "tuple" = none) (ha : PEd W X e pa) (he : starEach [e] X.env = (false, eval e X.env) :: starEach [] X.env := by rfl) : PRd W X (.Call (.Name "tuple" p) [e] [] pos) (dCB gTuple (vCons pa vNil)) :=
  pr_callTy call_tuple_of cd_tuple hg hm (by decide +kernel) (pvd_cons ha pvd_nil he) (he := he)
/-- all(bools) -/
def gAll : List Sd → (Sd → Prop) → Prop := fun ss K => ∃ (s : Sd) (bs : List Bool), ss = [s] ∧ s.list = some (bs.map .bl) ∧ K (.d (.bl (bs.all _root_.id)))
theorem cd_all : CallD W (rAll X.K) gAll := fun F H vs ss K Q ok sv ⟨s, bs, e, hs, z⟩ k => by
  subst e
  obtain ⟨v, as, rfl, h1, h2⟩ := sv.one
  obtain ⟨l, ys, rfl, h3, h4⟩ := h1.list ok.fh hs
  exact ⟨l, bs, rfl, by rw [← isL_bls h4]; exact SqL.of h3, k _ _ [] F H z (Step.refl ok) ⟨rfl, .bl _⟩ New.nil⟩
theorem pr_all (hc : X.calm = true) (hg : Gl X "all") (hm : X.mg "all" = none) (ha : PEd W X e pa) (he : starEach [e] X.env = (false, eval e X.env) :: starEach [] X.env := by rfl) : PRd W X (.Call (.Name "all" p) [e] [] pos) (dCB gAll (vCons pa vNil)) :=
  pr_callB (cr_all hc) cd_all hg hm (by decide +kernel) (pvd_cons ha pvd_nil he) (he := he)
/-- sum(ints) -/
theorem sum_tup {prog : Program} {w : World} {A : Around} {E : Value → Shared → Prop} {s : Shared} {l : Addr} {its : List Value} {ns : List Int} {Q : Value → Shared → Prop} (hh : A.handled = none) (hl : PyProof.Rows.IsTup s.heap l its.toArray) (hi : PyProof.Rows.IntsAre its ns)
    (h : ∀ h' tk t', (∀ b o, s.heap.get? b = some o → h'.get? b = some o) → Q (.int ns.sum t') { s with heap := h', toks := tk }) : wpAny (model prog w) A (call (.builtin "sum") [.ref l]) Q E s := by
  obtain ⟨xs, e⟩ := hi.allInts.items
  have hn : numsOf (intItems xs).toList = ns := by rw [← e]; exact hi.numsOf
  rw [nums_intItems] at hn
  rw [e] at hl
  refine call_sum_walkG (wpAny_pyIter_tuple (show s.heap.IsTuple l _ from hl) ?_)
  have hne : l ≠ s.heap.objs.size := Nat.ne_of_lt hl.lt
  refine ⟨_, _, _, _, _, _, numAt xs, rfl, Walks.tuple (A := A.in1) hh _ l hne (intItems xs), ⟨⟨_, Heap.get?_push_size _ rfl, rfl, rfl⟩, (show s.heap.IsTuple l _ from hl).at fun o ho => Heap.get?_push_of_some _ ho⟩, fun b hb => ?_, (fun _ _ => intItems_at), fun h' tk t' hk => ?_⟩
  · rw [Heap.size_push]
    simp at hb
    rcases hb with rfl | rfl
    · exact Nat.lt_succ_self _
    · exact Nat.lt_succ_of_lt hl.lt
  · have := h h' tk t' (fun b o e => hk b o (by simp; exact Nat.ne_of_lt (Heap.lt_size e)) (Heap.get?_push_of_some _ e))
    rw [preSum_eq, show (intItems xs).size = xs.size by simp [intItems], List.take_of_length_le (by simp), hn]; exact this
def rSumT (K : PySem.W.Frag) : List V → Hp → VK → Prop := fun vs H Q => ∃ (a : Addr) (ns : List Int), vs = [V.ref a] ∧ SqT K H a (ns.map V.int) ∧ Q (.int ns.sum) H
theorem cr_sumT (hc : X.calm = true) : CallR X (.builtin "sum") (rSumT X.K) := by
  intro pins s σ H vs us Q I r h
  obtain ⟨a, ns, rfl, hs, q⟩ := h
  obtain ⟨its, rv, hl, _⟩ := I.tuple hs
  rw [Vals.ref1 r]
  exact sum_tup (I.ok.hd hc) hl rv.ints fun h' tk t' hk => ⟨.int _, H, I.kept hk, ⟨_, rfl⟩, q⟩
def gSum : List Sd → (Sd → Prop) → Prop := fun ss K => ∃ (s : Sd) (ns : List Int), ss = [s] ∧ s.seq = some (ns.map .int) ∧ K (.d (.int ns.sum))
theorem cd_sum : CallD W (fun vs H Q => rSum X.K vs H Q ∨ rSumT X.K vs H Q) gSum := fun F H vs ss K Q ok sv ⟨s, ns, e, hs, z⟩ k => by
  subst e
  obtain ⟨v, as, rfl, h1, h2⟩ := sv.one
  rcases s.seq_of hs with hs | hs
  · obtain ⟨l, ys, rfl, h3, h4⟩ := h1.list ok.fh hs
    exact .inl ⟨l, ns, rfl, by rw [← isL_ints h4]; exact SqL.of h3, k _ _ [] F H z (Step.refl ok) ⟨rfl, .int _⟩ New.nil⟩
  · obtain ⟨l, ys, rfl, _, h3, h4⟩ := h1.tup ok.fh hs
    exact .inr ⟨l, ns, rfl, by rw [← isL_ints h4]; exact SqT.of h3, k _ _ [] F H z (Step.refl ok) ⟨rfl, .int _⟩ New.nil⟩
theorem pr_sum (hc : X.calm = true) (hg : Gl X "sum") (hm : X.mg "sum" = none) (ha : PEd W X e pa) (he : starEach [e] X.env = (false, eval e X.env) :: starEach [] X.env := by rfl) : PRd W X (.Call (.Name "sum" p) [e] [] pos) (dCB gSum (vCons pa vNil)) :=
  pr_callB ((cr_sum hc).or (cr_sumT hc)) cd_sum hg hm (by decide +kernel) (pvd_cons ha pvd_nil he) (he := he)
/-- min(ints); min(a, b) -/
def gMinL : List Sd → (Sd → Prop) → Prop := fun ss K => ∃ (s : Sd) (ns : List Int), ss = [s] ∧ s.list = some (ns.map .int) ∧ ns ≠ [] ∧ ∀ m, m ∈ ns → (∀ y ∈ ns, m ≤ y) → K (.d (.int m))
theorem cd_minL : CallD W (rMin X.K) gMinL := fun F H vs ss K Q ok sv ⟨s, ns, e, hs, hne, z⟩ k => by
  subst e
  obtain ⟨v, as, rfl, h1, h2⟩ := sv.one
  obtain ⟨l, ys, rfl, h3, h4⟩ := h1.list ok.fh hs
  exact ⟨l, ns, rfl, by rw [← isL_ints h4]; exact SqL.of h3, List.length_pos_iff.mpr hne, fun m hm hle => k _ _ [] F H (z m hm hle) (Step.refl ok) ⟨rfl, .int _⟩ New.nil⟩
theorem pr_minL (hc : X.calm = true) (hg : Gl X "min") (hm : X.mg "min" = none) (ha : PEd W X e pa) (he : starEach [e] X.env = (false, eval e X.env) :: starEach [] X.env := by rfl) : PRd W X (.Call (.Name "min" p) [e] [] pos) (dCB gMinL (vCons pa vNil)) :=
  pr_callB (cr_min hc) cd_minL hg hm (by decide +kernel) (pvd_cons ha pvd_nil he) (he := he)
def gMin2 : List Sd → (Sd → Prop) → Prop := fun ss K => ∃ i j : Int, ss = [.d (.int i), .d (.int j)] ∧ K (.d (.int (if j < i then j else i)))
theorem cd_min2 : CallD W (fun xs H Q => ∃ i j, xs = [.int i, .int j] ∧ Q (.int (if j < i then j else i)) H) gMin2 := fun F H vs ss K Q ok sv ⟨i, j, e, z⟩ k => by
  subst e
  obtain ⟨v, as, v2, as2, rfl, h1, h2, h3⟩ := sv.two
  exact ⟨i, j, by rw [h1.2.int_inv, h3.2.int_inv], k _ _ [] F H z (Step.refl ok) ⟨rfl, .int _⟩ New.nil⟩
theorem pr_min2 (hc : X.calm = true) (hg : Gl X "min") (hm : X.mg "min" = none) (ha : PEd W X a pa) (hb : PEd W X b pb) (he : starEach [a, b] X.env = (false, eval a X.env) :: starEach [b] X.env := by rfl) (he2 : starEach [b] X.env = (false, eval b X.env) :: starEach [] X.env := by rfl) (hpl : (backTo pos (starEach [b] X.env)).any (·.1) = false := by rfl) : PRd W X (.Call (.Name "min" p) [a, b] [] pos) (dCB gMin2 (vCons pa (vCons pb vNil))) :=
  pr_callB (call_min2 hc) cd_min2 hg hm (by decide +kernel) (pvd_cons ha (pvd_cons hb pvd_nil he2) he) (he := he) (hpl := hpl)
/-- abs, int of an int; repr of a bool -/
def gAbs : List Sd → (Sd → Prop) → Prop := fun ss K => ∃ i : Int, ss = [.d (.int i)] ∧ K (.d (.int (if i < 0 then -i else i)))
theorem cd_abs : CallD W (fun xs H Q => ∃ i, xs = [.int i] ∧ Q (.int (if i < 0 then -i else i)) H) gAbs := fun F H vs ss K Q ok sv ⟨i, e, z⟩ k => by
  subst e
  obtain ⟨v, as, rfl, h1, h2⟩ := sv.one
  exact ⟨i, by rw [h1.2.int_inv], k _ _ [] F H z (Step.refl ok) ⟨rfl, .int _⟩ New.nil⟩
theorem pr_abs (hg : Gl X "abs") (hm : X.mg "abs" = none) (ha : PEd W X e pa) (he : starEach [e] X.env = (false, eval e X.env) :: starEach [] X.env := by rfl) : PRd W X (.Call (.Name "abs" p) [e] [] pos) (dCB gAbs (vCons pa vNil)) :=
  pr_callB call_abs cd_abs hg hm (by decide +kernel) (pvd_cons ha pvd_nil he) (he := he)
def gInt : List Sd → (Sd → Prop) → Prop := fun ss K => ∃ i : Int, ss = [.d (.int i)] ∧ K (.d (.int i))
theorem cd_int : CallD W (fun xs H Q => (∃ i, xs = [.int i] ∧ Q (.int i) H) ∨ ∃ k, xs = [.bl k] ∧ Q (.int (if k then 1 else 0)) H) gInt := fun F H vs ss K Q ok sv ⟨i, e, z⟩ k => by
  subst e
  obtain ⟨v, as, rfl, h1, h2⟩ := sv.one
  exact .inl ⟨i, by rw [h1.2.int_inv], k _ _ [] F H z (Step.refl ok) ⟨rfl, .int _⟩ New.nil⟩
theorem pr_intC (hg : Gl X "int") (hm : X.mg "int" = none) (ha : PEd W X e pa) (he : starEach [e] X.env = (false, eval e X.env) :: starEach [] X.env := by rfl) : PRd W X (.Call (.Name "int" p) [e] [] pos) (dCB gInt (vCons pa vNil)) :=
  pr_callTy call_int1 cd_int hg hm (by decide +kernel) (pvd_cons ha pvd_nil he) (he := he)
def brep (b : Bool) : Str := if b then "True" else "False"
theorem call_repr_bool : CallR X (.builtin "repr") (fun xs H Q => ∃ b, xs = [.bl b] ∧ Q (.str (brep b)) H) := by
  intro pins s σ H xs us Q I r h
  obtain ⟨b, rfl, q⟩ := h
  obtain ⟨u, rfl, ru⟩ := vals1 r
  cases ru
  exact PySem.P.repr_of_bool ⟨.str (brep b), H, I.tok _, ⟨_, rfl⟩, q⟩
def gRepr : List Sd → (Sd → Prop) → Prop := fun ss K => ∃ b : Bool, ss = [.d (.bl b)] ∧ K (.d (.str (brep b)))
theorem cd_repr : CallD W (fun xs H Q => ∃ b, xs = [.bl b] ∧ Q (.str (brep b)) H) gRepr := fun F H vs ss K Q ok sv ⟨i, e, z⟩ k => by
  subst e
  obtain ⟨v, as, rfl, h1, h2⟩ := sv.one
  exact ⟨i, by rw [h1.2.bl_inv], k _ _ [] F H z (Step.refl ok) ⟨rfl, .str _⟩ New.nil⟩
theorem pr_repr (hg : Gl X "repr") (hm : X.mg "repr" = none) (ha : PEd W X e pa) (he : starEach [e] X.env = (false, eval e X.env) :: starEach [] X.env := by rfl) : PRd W X (.Call (.Name "repr" p) [e] [] pos) (dCB gRepr (vCons pa vNil)) :=
  pr_callB call_repr_bool cd_repr hg hm (by decide +kernel) (pvd_cons ha pvd_nil he) (he := he)
/-! ### isinstance -/
def Sd.ty : Sd → Option String
  | .d .non => some "NoneType"
  | .d (.bl _) => some "bool"
  | .d (.int _) => some "int"
  | .d (.str _) => some "str"
  | .d (.tup _) => some "tuple"
  | .d (.lst _) => some "list"
  | .ol _ => some "list"
  | _ => none
theorem SV.ty {K : PySem.W.Frag} (h : SV F H v as s) (fh : Same F H) {T : String} (e : s.ty = some T) : TyX K H v (.type T) := by
  cases s with
  | d x =>
    cases x with
    | non => cases e; rw [h.2.non_inv]; exact .base .non
    | bl b => cases e; rw [h.2.bl_inv]; exact .base (.bl b)
    | int b => cases e; rw [h.2.int_inv]; exact .base (.int b)
    | str b => cases e; rw [h.2.str_inv]; exact .base (.str b)
    | tup xs =>
      cases e
      obtain ⟨l, ys, rfl, h1, h2⟩ := h.2.tup_inv
      exact .base (.tup (fh _ _ h1))
    | lst xs =>
      cases e
      obtain ⟨l, ys, rfl, h1, h2⟩ := h.2.lst_inv
      exact .base (.lst (fh _ _ h1))
    | _ => cases e
  | ol xs =>
    cases e
    obtain ⟨l, ys, rfl, _, h1, h2⟩ := h
    exact .base (.lst h1)
  | _ => cases e
/-- is it of this class; bool is an int -/
def isKind (T c : String) : Bool := decide (T = c) || (decide (T = "bool") && decide (c = "int"))
theorem kit_bool_bool : kitB "bool" "bool" = some true := by decide +kernel
def tys : List String := ["NoneType", "bool", "int", "str", "tuple", "list"]
def cls4 : List String := ["int", "bool", "tuple", "list"]
theorem kit_all : (tys.all fun t => cls4.all fun c => decide (kitB t c = some (isKind t c))) = true := by decide +kernel
theorem ty_mem {T : String} (h : s.ty = some T) : T ∈ tys := by
  cases s with
  | d x => cases x <;> first | (cases h; decide) | cases h
  | ol xs => cases h; decide
  | _ => cases h
theorem kit_of4 {T c : String} (h : T ∈ tys) (hc : c ∈ cls4) : kitB T c = some (isKind T c) := of_decide_eq_true (List.all_eq_true.mp (List.all_eq_true.mp kit_all T h) c hc)
def gIsi (c : String) : Sd → Option Bool := fun s => s.ty.map fun T => isKind T c
theorem cls_ty {c : String} (hc : c ∈ cls4) : ClsV (.ty c) (.type c) := by
  exact .ty c
def dIsi (c : String) (p : RE) : RE := fun ρ K => p ρ fun s => ∃ T, s.ty = some T ∧ K (.d (.bl (isKind T c)))
variable {xc : Str} {pc pt : Pos} {c : String}
theorem pr_isi (hc : c ∈ cls4) (hg : Gl X "isinstance") (hm : X.mg "isinstance" = none) (ha : PEd W X a pa) (hgc : Gl X xc) (hmc : X.mg xc = none) (hvc : bootBuiltins xc = some (.type c)) (hn : xc ≠ "__name__" := by decide) (hd : (xc == ("__debug__" : Str)) = false := by decide) (he : starEach [a, .Name xc pc] X.env = (false, eval a X.env) :: starEach [.Name xc pc] X.env := by rfl)
    (he2 : starEach [.Name xc pc] X.env = (false, eval (.Name xc pc) X.env) :: starEach [] X.env := by rfl) (hpl : (backTo pos (starEach [.Name xc pc] X.env)).any (·.1) = false := by rfl) : PRd W X (.Call (.Name "isinstance" p) [a, .Name xc pc] [] pos) (dIsi c pa) :=
  ⟨fun F0 B => (pe_callB call_isi hg hm (by decide +kernel) (pa_cons (ha.run F0 B) (pa_cons (pe_bltn (v := .ty c) hgc hmc hvc rfl hn hd) pa_nil he2) he) (he := he) (hpl := hpl)).imp fun σ H Q ⟨F, ρ, K, E, q, k⟩ =>
    ⟨F, ρ, _, E, q, fun s v as F1 H1 ⟨T, e1, z⟩ st sv n => ⟨v, .ty c, .type T, .type c, isKind T c, rfl, cls_ty hc, sv.ty st.ok.fh e1, kit_ty (kit_of4 (ty_mem e1) hc), k _ _ [] F1 H1 z st ⟨rfl, .bl _⟩ New.nil⟩⟩⟩
/-- isinstance(x, (list, tuple)) -/
def dIsLT (p : RE) : RE := fun ρ K => p ρ fun s => ∃ T, s.ty = some T ∧ K (.d (.bl (decide (T = "list") || decide (T = "tuple"))))
theorem kit_lt : (tys.all fun T => decide (PySem.W.kitAny ([] : PySem.W.Frag) (.type T) [.type "list", .type "tuple"] = some (decide (T = "list") || decide (T = "tuple")))) = true := by decide +kernel
theorem isKind_list {T : String} (h : T ∈ tys) : isKind T "list" = decide (T = "list") := by
  unfold isKind
  rw [show decide (("list" : String) = "int") = false by decide, Bool.and_false, Bool.or_false]
theorem isKind_tuple {T : String} (h : T ∈ tys) : isKind T "tuple" = decide (T = "tuple") := by
  unfold isKind
  rw [show decide (("tuple" : String) = "int") = false by decide, Bool.and_false, Bool.or_false]
theorem kit_any {K : PySem.W.Frag} {T : String} (h : T ∈ tys) : PySem.W.kitAny K (.type T) [.type "list", .type "tuple"] = some (decide (T = "list") || decide (T = "tuple")) := by
  have k1 : PySem.W.kitOne K (.type T) (.type "list") = some (decide (T = "list")) := by rw [← isKind_list h]; exact kit_ty (kit_of4 h (by decide))
  have k2 : PySem.W.kitOne K (.type T) (.type "tuple") = some (decide (T = "tuple")) := by rw [← isKind_tuple h]; exact kit_ty (kit_of4 h (by decide))
  refine kitAny_cons k1 (fun e => ?_) (fun e => by rw [e, Bool.true_or])
  rw [e, Bool.false_or]
  exact kitAny_cons k2 (fun e => by rw [e]; exact kitAny_nil) (fun e => e)
variable {x1 : _} {p1 p2 : Pos}
theorem pr_isLT (hg : Gl X "isinstance") (hm : X.mg "isinstance" = none) (ha : PEd W X a pa) (hgl : Gl X "list") (hml : X.mg "list" = none) (hgt : Gl X "tuple") (hmt : X.mg "tuple" = none)
    (hv1 : bootBuiltins "list" = some (.type "list") := by decide +kernel) (hv2 : bootBuiltins "tuple" = some (.type "tuple") := by decide +kernel)
    (he : starEach [a, .Tuple [.Name "list" p1, .Name "tuple" p2] x1 pt] X.env = (false, eval a X.env) :: starEach [.Tuple [.Name "list" p1, .Name "tuple" p2] x1 pt] X.env := by rfl) (hpl : (backTo pos (starEach [.Tuple [.Name "list" p1, .Name "tuple" p2] x1 pt] X.env)).any (·.1) = false := by rfl) :
    PRd W X (.Call (.Name "isinstance" p) [a, .Tuple [.Name "list" p1, .Name "tuple" p2] x1 pt] [] pos) (dIsLT pa) :=
  ⟨fun F0 B => (pe_callB call_isiT hg hm (by decide +kernel) (pa_cons (ha.run F0 B) (pa_cons (pe_tup (pa_cons (pe_bltn (v := .ty "list") hgl hml hv1 rfl) (pa_cons (pe_bltn (v := .ty "tuple") hgt hmt hv2 rfl) pa_nil))) pa_nil) he) (he := he) (hpl := hpl)).imp fun σ H Q ⟨F, ρ, K, E, q, k⟩ =>
    ⟨F, ρ, _, E, q, fun s v as F1 H1 ⟨T, e1, z⟩ st sv n => ⟨by show 2 ≤ sizeLine; decide, fun t ht => by
      have s2 := Step.new (o := .tup [.ty "list", .ty "tuple"]) st.ok ht
      exact ⟨v, t, [.ty "list", .ty "tuple"], .type T, [.type "list", .type "tuple"], decide (T = "list") || decide (T = "tuple"), rfl, upd_same, .cons (.ty _) (.cons (.ty _) .nil), (sv.step n s2).ty s2.ok.fh e1, kit_any (ty_mem e1), k _ _ [] _ _ z (st.trans E.ok s2) ⟨rfl, .bl _⟩ New.nil⟩⟩⟩⟩
end
end DL
namespace DL
open PySem PySem.Spec L2
/-! ### places -/
theorem IsL.atI {F : Hp} {ys : List V} {xs : List D} (h : IsL F ys xs) {i : Int} {x : D} (e : L2.atI xs i = some x) : ∃ y, L2.atI ys i = some y ∧ Is F y x := by
  unfold L2.atI at e ⊢
  rw [h.length]
  cases q : ixN xs.length i with
  | none => rw [q] at e; cases e
  | some j =>
    rw [q] at e
    obtain ⟨y, h1, h2⟩ := h.get (show xs[j]? = some x from e)
    exact ⟨y, h1, h2⟩
def gIx : Sd → Sd → (Sd → Prop) → Prop := fun sx sy K => ∃ xs i x, sx.seq = some xs ∧ sy = .d (.int i) ∧ atI xs i = some x ∧ K (.d x)
section
variable {W : Amb} {X : Cx} {F H F' H' : Hp} {pos p : Pos} {a b e : Expr} {pa pb : RE} {S : Bs}
theorem od_ix : OpD W (rIx X.K) gIx := fun F H x y ax ay sx sy K Q ok vx vy ⟨xs, i, z, e1, e2, e3, q⟩ k => by
  subst e2
  obtain ⟨l, ys, rfl, h1, h2⟩ := vx.seq ok.fh e1
  obtain ⟨y', h3, h4⟩ := h2.atI e3
  have fin : Q y' H := k _ _ [] F H q (Step.refl ok) ⟨rfl, h4⟩ New.nil
  rcases h1 with h1 | h1
  · exact .inl ⟨l, ys, i, y', rfl, vy.2.int_inv, SqL.of h1, h3, fin⟩
  · exact .inr (.inl ⟨l, ys, i, y', rfl, vy.2.int_inv, SqT.of h1, h3, fin⟩)
theorem pr_item (ha : PEd W X a pa) (hb : PEd W X b pb) (hs : PlainIx b := by intro _ _; rfl) : PRd W X (.Subscript a b pos) (d2 gIx pa pb) := pr_ix ix_seq od_ix ha hb hs
/-! ### slices -/
def cutG {α : Type} (xs : List α) (lo hi : Option Int) : List α := (xs.drop (HT.sIx xs.length 0 lo)).take (HT.sIx xs.length xs.length hi - HT.sIx xs.length 0 lo)
theorem cutG_length {α : Type} (xs : List α) (lo hi : Option Int) : (cutG xs lo hi).length ≤ xs.length := by
  unfold cutG
  rw [List.length_take, List.length_drop]
  omega
theorem IsL.cut {ys : List V} {xs : List D} (h : IsL F ys xs) (lo hi : Option Int) : IsL F (cutV ys lo hi) (cutG xs lo hi) := by
  unfold cutV cutG
  rw [h.length]
  exact (h.drop _).take _
theorem cutG_whole {α : Type} {xs : List α} {lo hi : Option Int} (h : HT.sIx xs.length 0 lo = 0 ∧ HT.sIx xs.length xs.length hi = xs.length) : cutG xs lo hi = xs := by
  unfold cutG
  rw [h.1, h.2]
  simp
abbrev RO := List Sd → (Option Int → Prop) → Prop
def liftO (S : Bs) (p : RO) : TO := fun σ H Q => ∃ F ρ K, Env S F H σ ρ ∧ p ρ K ∧ ∀ o F' H', K o → Step S.W F H F' H' → Q o H'
structure POd (W : Amb) (X : Cx) (e : Option Expr) (p : RO) : Prop where
  run : ∀ F0 B, PO X e (liftO ⟨W, F0, B⟩ p)
theorem _root_.L2.PO.imp {e : Option Expr} {t t' : TO} (h : PO X e t) (k : ∀ σ H Q, t' σ H Q → t σ H Q) : PO X e t' := ⟨fun pins s σ H Q I q => h.run pins s σ H Q I (k σ H Q q)⟩
def dNoPart : RO := fun _ K => K none
def dPart (pa : RE) : RO := fun ρ K => pa ρ fun s => ∃ i, s = .d (.int i) ∧ K (some i)
theorem pod_none : POd W X none dNoPart := ⟨fun F0 B => po_none.imp fun σ H Q ⟨F, ρ, K, E, q, k⟩ => k none F H q (Step.refl E.ok)⟩
theorem pod_some (h : PEd W X e pa) : POd W X (some e) (dPart pa) := ⟨fun F0 B => (po_some (h.run F0 B)).imp fun σ H Q ⟨F, ρ, K, E, q, k⟩ => ⟨F, ρ, _, E, q, fun s v as F1 H1 ⟨i, e1, z⟩ st sv n => by
  subst e1
  exact ⟨i, sv.2.int_inv, k _ F1 H1 z st⟩⟩⟩
def SlD (W : Amb) (r : V → Option Int → Option Int → Hp → VK → Prop) (g : Sd → Option Int → Option Int → (Sd → Prop) → Prop) : Prop :=
  ∀ (F H : Hp) (x : V) (ax : List Addr) (sx : Sd) (lo hi : Option Int) (K : Sd → Prop) (Q : VK), Okay W F H → SV F H x ax sx → g sx lo hi K → (∀ s v as F' H', K s → Step W F H F' H' → SV F' H' v as s → New H F' as → Q v H') → r x lo hi H Q
def dSl (g : Sd → Option Int → Option Int → (Sd → Prop) → Prop) (pa : RE) (pl ph : RO) : RE := fun ρ K => pa ρ fun sx => pl ρ fun lo => ph ρ fun hi => g sx lo hi K
variable {lo hi : Option Expr} {pl ph : RO} {p2 : Pos}
theorem pr_slice {r : V → Option Int → Option Int → Hp → VK → Prop} {g : Sd → Option Int → Option Int → (Sd → Prop) → Prop} (hr : SlR X r) (hd : SlD W r g) (he : PEd W X e pa) (hl : POd W X lo pl) (hu : POd W X hi ph) : PRd W X (.Subscript e (.Slice lo hi none p2) pos) (dSl g pa pl ph) := ⟨fun F0 B => (pe_slice hr (he.run F0 B) (hl.run F0 B) (hu.run F0 B)).imp fun σ H Q ⟨F, ρ, K, E, q, k⟩ => by
  refine ⟨F, ρ, _, E, q, fun sx x ax F1 H1 q1 s1 v1 n1 => ?_⟩
  refine ⟨F1, ρ, _, E.step s1, q1, fun l F2 H2 q2 s2 => ?_⟩
  have s12 := s1.trans E.ok s2
  refine ⟨F2, ρ, _, E.step s12, q2, fun u F3 H3 q3 s3 => ?_⟩
  have s13 := s12.trans E.ok s3
  exact hd F3 H3 x ax sx l u K Q s3.ok ((v1.step n1 s2).step n1 s3) q3 fun s v as F4 H4 q4 s4 v4 n4 => k s v as F4 H4 q4 (s13.trans E.ok s4) v4 (n4.back E.ok s13)⟩
def gSlL : Sd → Option Int → Option Int → (Sd → Prop) → Prop := fun sx lo hi K => ∃ xs, sx.list = some xs ∧ K (.ol (cutG xs lo hi))
def gSlT : Sd → Option Int → Option Int → (Sd → Prop) → Prop := fun sx lo hi K => ∃ xs, sx.tup = some xs ∧ K (.d (.tup (cutG xs lo hi)))
theorem sd_slL : SlD W (rSlL X.K) gSlL := fun F H x ax sx lo hi K Q ok vx ⟨xs, e1, q⟩ k => by
  obtain ⟨l, ys, rfl, h1, h2⟩ := vx.list ok.fh e1
  exact ⟨l, ys, rfl, SqL.of h1, fun p hp => k _ _ [p] F _ q (Step.own ok hp) ⟨p, _, rfl, rfl, upd_same, h2.cut lo hi⟩ (new1 ok hp)⟩
theorem sd_slT : SlD W (rSlA X.K) gSlT := fun F H x ax sx lo hi K Q ok vx ⟨xs, e1, q⟩ k => by
  obtain ⟨l, ys, rfl, h0, h1, h2⟩ := vx.tup ok.fh e1
  refine ⟨l, ys, rfl, SqT.of h1, fun w => ?_, fun w p hp => ?_⟩
  · have w' : HT.sIx xs.length 0 lo = 0 ∧ HT.sIx xs.length xs.length hi = xs.length := by rw [← h2.length]; exact w
    rw [cutG_whole w'] at q
    exact k _ _ [] F H q (Step.refl ok) ⟨rfl, .tup' h0 h2⟩ New.nil
  · have st := Step.new (o := .tup (cutV ys lo hi)) ok hp
    exact k _ _ [] _ _ q st ⟨rfl, .tup' upd_same ((h2.cut lo hi).mono st.ff)⟩ New.nil
theorem pr_sliceL (he : PEd W X e pa) (hl : POd W X lo pl) (hu : POd W X hi ph) : PRd W X (.Subscript e (.Slice lo hi none p2) pos) (dSl gSlL pa pl ph) := pr_slice sl_list sd_slL he hl hu
theorem pr_sliceT (he : PEd W X e pa) (hl : POd W X lo pl) (hu : POd W X hi ph) : PRd W X (.Subscript e (.Slice lo hi none p2) pos) (dSl gSlT pa pl ph) := pr_slice sl_tupA sd_slT he hl hu
/-- xs[::-1] of a list -/
def dRevL (pa : RE) : RE := fun ρ K => pa ρ fun s => ∃ xs, s.list = some xs ∧ K (.ol xs.reverse)
theorem pr_revL {k : Nat} {q1 q2 q3 : Pos} (he : PEd W X e pa) : PRd W X (.Subscript e (.Slice none none (some (.UnaryOp .USub (.Constant (.int 1) k q1) q2)) q3) pos) (dRevL pa) := ⟨fun F0 B => (pe_revL (he.run F0 B)).imp fun σ H Q ⟨F, ρ, K, E, q, k⟩ => ⟨F, ρ, _, E, q, fun s v as F1 H1 ⟨xs, e1, z⟩ st sv n => by
  obtain ⟨l, ys, rfl, h1, h2⟩ := sv.list st.ok.fh e1
  exact ⟨l, ys, rfl, SqL.of h1, fun p hp => by
    have s2 := Step.own (o := .lst ys.reverse) st.ok hp
    exact k _ _ [p] F1 _ z (st.trans E.ok s2) ⟨p, _, rfl, rfl, upd_same, h2.rev⟩ ((new1 st.ok hp).back E.ok st)⟩⟩⟩
/-! ### lists and tuples put together -/
def gCatL : Sd → Sd → (Sd → Prop) → Prop := fun sx sy K => ∃ xs ys, sx.list = some xs ∧ sy.list = some ys ∧ xs.length + ys.length ≤ 100000 ∧ K (.ol (xs ++ ys))
theorem od_catL : OpD W rCat gCatL := fun F H x y ax ay sx sy K Q ok vx vy ⟨xs, ys, e1, e2, hz, q⟩ k => by
  obtain ⟨l, us, rfl, h1, h2⟩ := vx.list ok.fh e1
  obtain ⟨m, ws, rfl, h3, h4⟩ := vy.list ok.fh e2
  exact ⟨l, m, us, ws, rfl, rfl, h1, h3, by rw [h2.length, h4.length]; exact sz5 hz, fun p hp => k _ _ [p] F _ q (Step.own ok hp) ⟨p, _, rfl, rfl, upd_same, h2.app h4⟩ (new1 ok hp)⟩
theorem pr_catL (ha : PEd W X a pa) (hb : PEd W X b pb) : PRd W X (.BinOp a .Add b pos) (d2 gCatL pa pb) := pr_op op_cat od_catL ha hb
def gCatT : Sd → Sd → (Sd → Prop) → Prop := fun sx sy K => ∃ xs ys, sx.tup = some xs ∧ sy.tup = some ys ∧ xs.length + ys.length ≤ 100000 ∧ K (.d (.tup (xs ++ ys)))
theorem od_catT : OpD W (rCatA X.K) gCatT := fun F H x y ax ay sx sy K Q ok vx vy ⟨xs, ys, e1, e2, hz, q⟩ k => by
  obtain ⟨l, us, rfl, h0, h1, h2⟩ := vx.tup ok.fh e1
  obtain ⟨m, ws, rfl, h5, h3, h4⟩ := vy.tup ok.fh e2
  refine ⟨l, m, us, ws, rfl, rfl, SqT.of h1, SqT.of h3, by rw [h2.length, h4.length]; exact sz5 hz, fun z => ?_, fun _ z => ?_, fun _ _ p hp => ?_⟩
  · have z' : xs = [] := by rw [z] at h2; have := h2.length; exact List.eq_nil_of_length_eq_zero this.symm
    rw [z', List.nil_append] at q
    exact k _ _ [] F H q (Step.refl ok) ⟨rfl, .tup' h5 h4⟩ New.nil
  · have z' : ys = [] := by rw [z] at h4; have := h4.length; exact List.eq_nil_of_length_eq_zero this.symm
    rw [z', List.append_nil] at q
    exact k _ _ [] F H q (Step.refl ok) ⟨rfl, .tup' h0 h2⟩ New.nil
  · have st := Step.new (o := .tup (us ++ ws)) ok hp
    exact k _ _ [] _ _ q st ⟨rfl, .tup' upd_same ((h2.app h4).mono st.ff)⟩ New.nil
theorem pr_catT (ha : PEd W X a pa) (hb : PEd W X b pb) : PRd W X (.BinOp a .Add b pos) (d2 gCatT pa pb) := pr_op op_catA od_catT ha hb
/-! ### data as the kit's == sees it -/
mutual
def D.py : D → PyData
  | .non => .none
  | .bl b => .bool b
  | .int i => .int i
  | .str x => .str x
  | .tup xs => .tuple (pyL xs)
  | .lst xs => .list (pyL xs)
  | .dct _ => .none
  | .ref _ => .none
def pyL : List D → List PyData
  | [] => []
  | x :: xs => x.py :: pyL xs
end
mutual
/-- data without texts and dicts, of depth at most n -/
def D.flat : Nat → D → Bool
  | _, .non => true
  | _, .bl _ => true
  | _, .int _ => true
  | _, .str _ => false
  | n, .tup xs => (match n with | 0 => false | m + 1 => flatL m xs)
  | n, .lst xs => (match n with | 0 => false | m + 1 => flatL m xs)
  | _, .dct _ => false
  | _, .ref _ => false
def flatL : Nat → List D → Bool
  | _, [] => true
  | n, x :: xs => x.flat n && flatL n xs
end
theorem flatL_iff {n : Nat} : ∀ {xs : List D}, flatL n xs = true ↔ ∀ x ∈ xs, x.flat n = true
  | [] => by simp [flatL]
  | x :: xs => by simp [flatL, flatL_iff]
theorem pyL_map : ∀ xs : List D, pyL xs = xs.map D.py
  | [] => rfl
  | x :: xs => by show x.py :: pyL xs = _; rw [pyL_map xs]; rfl
mutual
theorem flat_ok : ∀ (n : Nat) (d : D), d.flat n = true → d.py.canLay0 = true ∧ d.py.depth ≤ n
  | n, .non, h => ⟨rfl, Nat.zero_le _⟩
  | n, .bl b, h => ⟨rfl, Nat.zero_le _⟩
  | n, .int i, h => ⟨rfl, Nat.zero_le _⟩
  | n, .str x, h => by cases n <;> cases h
  | 0, .tup xs, h => by cases h
  | n + 1, .tup xs, h => by
    have q := flatL_ok n xs h
    exact ⟨q.1, Nat.succ_le_succ q.2⟩
  | 0, .lst xs, h => by cases h
  | n + 1, .lst xs, h => by
    have q := flatL_ok n xs h
    exact ⟨q.1, Nat.succ_le_succ q.2⟩
  | n, .dct kvs, h => by cases n <;> cases h
  | n, .ref a, h => by cases n <;> cases h
theorem flatL_ok : ∀ (n : Nat) (xs : List D), flatL n xs = true → PyData.canLayAll0 (pyL xs) = true ∧ PyData.depthAll (pyL xs) ≤ n
  | n, [], h => ⟨rfl, Nat.zero_le _⟩
  | n, x :: xs, h => by
    have h' : x.flat n = true ∧ flatL n xs = true := by simpa [flatL] using h
    have q1 := flat_ok n x h'.1
    have q2 := flatL_ok n xs h'.2
    refine ⟨?_, ?_⟩
    · show (x.py.canLay0 && PyData.canLayAll0 (pyL xs)) = true
      rw [q1.1, q2.1] <;> rfl
    · show max x.py.depth (PyData.depthAll (pyL xs)) ≤ n
      omega
end
theorem flat_shaped {n : Nat} {d : D} (h : d.flat n = true) (hn : n ≤ 60) : SeqAt.shaped d.py = true := by
  obtain ⟨h1, h2⟩ := flat_ok n d h
  show (d.py.canLay0 && decide (d.py.depth ≤ 64)) = true
  rw [h1, Bool.true_and]
  exact decide_eq_true (by omega)
theorem dpAll_of {K : PySem.W.Frag} {H : Hp} : ∀ {ys : List V} {xs : List D}, ys.length = xs.length → (∀ (i : Nat) y x, ys[i]? = some y → xs[i]? = some x → Dp K H y x.py) → DpAll K H ys (pyL xs)
  | [], [], _, _ => .nil
  | y0 :: ys, x0 :: xs, hl, h => .cons (h 0 y0 x0 (by simp) (by simp)) (dpAll_of (by simpa using hl) fun i y x h1 h2 => h (i + 1) y x (by simpa using h1) (by simpa using h2))
  | [], _ :: _, hl, _ => by simp at hl
  | _ :: _, [], hl, _ => by simp at hl
theorem Is.dp {K : PySem.W.Frag} {v : V} {d : D} (fh : Same F H) (h : Is F v d) : ∀ {n : Nat}, d.flat n = true → Dp K H v d.py := by
  induction h with
  | non => intro n _; exact .non
  | bl b => intro n _; exact .bl b
  | int i => intro n _; exact .int i
  | str x => intro n _; exact .str x
  | ref a => intro n hf; cases n <;> cases hf
  | @tup a ys xs h1 h2 _ ih =>
    intro n hf
    cases n with
    | zero => cases hf
    | succ n => exact .tup (SqT.of (fh _ _ h1)) (dpAll_of h2 fun i y x e1 e2 => ih i y x e1 e2 (flatL_iff.mp hf x (List.mem_of_getElem? e2)))
  | @lst a ys xs h1 h2 _ ih =>
    intro n hf
    cases n with
    | zero => cases hf
    | succ n => exact .lst (SqL.of (fh _ _ h1)) (dpAll_of h2 fun i y x e1 e2 => ih i y x e1 e2 (flatL_iff.mp hf x (List.mem_of_getElem? e2)))
  | dct => intro n hf; cases n <;> cases hf
/-- the data of a value that is read -/
def Sd.dat : Sd → Option D
  | .d x => some x
  | .ol xs => some (.lst xs)
  | _ => none
theorem SV.dp {K : PySem.W.Frag} {v : V} {as : List Addr} {s : Sd} {x : D} {n : Nat} (h : SV F H v as s) (fh : Same F H) (e : s.dat = some x) (hf : x.flat n = true) : Dp K H v x.py := by
  cases s with
  | d y => cases e; exact h.2.dp fh hf
  | ol xs =>
    cases e
    obtain ⟨l, ys, rfl, _, h1, h2⟩ := h
    cases n with
    | zero => cases hf
    | succ n => exact .lst (SqL.of h1) (dpAll_of h2.length fun i y x e1 e2 => (h2.at i y x e1 e2).dp fh (flatL_iff.mp hf x (List.mem_of_getElem? e2)))
  | _ => cases e
def gEqD : Sd → Sd → (Sd → Prop) → Prop := fun sx sy K => ∃ x y, sx.dat = some x ∧ sy.dat = some y ∧ x.flat 9 = true ∧ y.flat 9 = true ∧ K (.d (.bl (PyData.eqv x.py y.py)))
def gNeD : Sd → Sd → (Sd → Prop) → Prop := fun sx sy K => ∃ x y, sx.dat = some x ∧ sy.dat = some y ∧ x.flat 9 = true ∧ y.flat 9 = true ∧ K (.d (.bl (!PyData.eqv x.py y.py)))
theorem od_eqD : OpD W (rEqD X.K) gEqD := fun F H x y ax ay sx sy K Q ok vx vy ⟨dx, dy, e1, e2, f1, f2, q⟩ k =>
  ⟨dx.py, dy.py, vx.dp ok.fh e1 f1, vy.dp ok.fh e2 f2, flat_shaped f1 (by decide), flat_shaped f2 (by decide), k _ _ [] F H q (Step.refl ok) ⟨rfl, .bl _⟩ New.nil⟩
theorem od_neD : OpD W (rNeD X.K) gNeD := fun F H x y ax ay sx sy K Q ok vx vy ⟨dx, dy, e1, e2, f1, f2, q⟩ k =>
  ⟨dx.py, dy.py, vx.dp ok.fh e1 f1, vy.dp ok.fh e2 f2, flat_shaped f1 (by decide), flat_shaped f2 (by decide), k _ _ [] F H q (Step.refl ok) ⟨rfl, .bl _⟩ New.nil⟩
variable {k : Nat}
theorem pr_eqD (hr : Room k X.A) (ha : PEd W X a pa) (hb : PEd W X b pb) : PRd W X (.Compare a [.Eq] [b] pos) (d2 gEqD pa pb) := pr_cmp (op_eqD hr.units) od_eqD ha hb (nomark _)
theorem pt_eqD (hr : Room k X.A) (ha : PEd W X a pa) (hb : PEd W X b pb) : PTd W X (.Compare a [.Eq] [b] pos) (dT2 gEqD pa pb) := pt_cmp' (op_eqD hr.units) od_eqD ha hb (nomark _)
theorem pr_neD (hr : Room k X.A) (ha : PEd W X a pa) (hb : PEd W X b pb) : PRd W X (.Compare a [.NotEq] [b] pos) (d2 gNeD pa pb) := pr_cmp (op_neD hr.units) od_neD ha hb (nomark _)
theorem pt_neD (hr : Room k X.A) (ha : PEd W X a pa) (hb : PEd W X b pb) : PTd W X (.Compare a [.NotEq] [b] pos) (dT2 gNeD pa pb) := pt_cmp' (op_neD hr.units) od_neD ha hb (nomark _)
/-- x in xs, x not in xs, of a list of data -/
def gInD : Sd → Sd → (Sd → Prop) → Prop := fun sx sy K => ∃ x ys, sx.dat = some x ∧ sy.list = some ys ∧ x.flat 8 = true ∧ flatL 8 ys = true ∧ K (.d (.bl (ys.any fun y => PyData.eqv y.py x.py)))
def gNiD : Sd → Sd → (Sd → Prop) → Prop := fun sx sy K => ∃ x ys, sx.dat = some x ∧ sy.list = some ys ∧ x.flat 8 = true ∧ flatL 8 ys = true ∧ K (.d (.bl (!ys.any fun y => PyData.eqv y.py x.py)))
theorem list_dat {s : Sd} {xs : List D} (h : s.list = some xs) : s.dat = some (.lst xs) := by
  cases s with
  | d x => cases x <;> first | (cases h; rfl) | cases h
  | ol xs => cases h; rfl
  | _ => cases h
theorem od_inD : OpD W (rInD X.K) gInD := fun F H x y ax ay sx sy K Q ok vx vy ⟨dx, ys, e1, e2, f1, f2, q⟩ k => by
  have f3 : (D.lst ys).flat 9 = true := f2
  refine ⟨dx.py, pyL ys, vx.dp ok.fh e1 f1, vy.dp ok.fh (list_dat e2) f3, flat_shaped f1 (by decide), flat_shaped f3 (by decide), ?_⟩
  rw [pyL_map, List.any_map]
  exact k _ _ [] F H q (Step.refl ok) ⟨rfl, .bl _⟩ New.nil
theorem od_niD : OpD W (rNotInD X.K) gNiD := fun F H x y ax ay sx sy K Q ok vx vy ⟨dx, ys, e1, e2, f1, f2, q⟩ k => by
  have f3 : (D.lst ys).flat 9 = true := f2
  refine ⟨dx.py, pyL ys, vx.dp ok.fh e1 f1, vy.dp ok.fh (list_dat e2) f3, flat_shaped f1 (by decide), flat_shaped f3 (by decide), ?_⟩
  rw [pyL_map, List.any_map]
  exact k _ _ [] F H q (Step.refl ok) ⟨rfl, .bl _⟩ New.nil
theorem hu65 (hr : Room (k + 1) X.A) : X.A.units + 65 < cLine := by
  have := hr.un
  omega
theorem pr_inD (hr : Room (k + 1) X.A) (ha : PEd W X a pa) (hb : PEd W X b pb) (hm : behindInMarks .In b = false := by rfl) : PRd W X (.Compare a [.In] [b] pos) (d2 gInD pa pb) := pr_cmp (op_inD (hu65 hr)) od_inD ha hb hm
theorem pt_inD (hr : Room (k + 1) X.A) (ha : PEd W X a pa) (hb : PEd W X b pb) (hm : behindInMarks .In b = false := by rfl) : PTd W X (.Compare a [.In] [b] pos) (dT2 gInD pa pb) := pt_cmp' (op_inD (hu65 hr)) od_inD ha hb hm
theorem pr_niD (hr : Room (k + 1) X.A) (ha : PEd W X a pa) (hb : PEd W X b pb) (hm : behindInMarks .NotIn b = false := by rfl) : PRd W X (.Compare a [.NotIn] [b] pos) (d2 gNiD pa pb) := pr_cmp (op_notInD (hu65 hr)) od_niD ha hb hm
theorem pt_niD (hr : Room (k + 1) X.A) (ha : PEd W X a pa) (hb : PEd W X b pb) (hm : behindInMarks .NotIn b = false := by rfl) : PTd W X (.Compare a [.NotIn] [b] pos) (dT2 gNiD pa pb) := pt_cmp' (op_notInD (hu65 hr)) od_niD ha hb hm
/-- x in t of ints (tuple or list of ints) -/
def gInI : Sd → Sd → (Sd → Prop) → Prop := fun sx sy K => ∃ (i : Int) (ns : List Int), sx = .d (.int i) ∧ sy.seq = some (ns.map .int) ∧ K (.d (.bl (decide (i ∈ ns))))
def gNiI : Sd → Sd → (Sd → Prop) → Prop := fun sx sy K => ∃ (i : Int) (ns : List Int), sx = .d (.int i) ∧ sy.seq = some (ns.map .int) ∧ K (.d (.bl (!decide (i ∈ ns))))
theorem inV_ints (i : Int) (ns : List Int) : inV (.int i) (ns.map V.int) = decide (i ∈ ns) := by
  unfold inV
  rw [List.any_map]
  induction ns with
  | nil => rfl
  | cons n ns ih =>
    rw [List.any_cons, ih]
    show ((n == i) || _) = _
    by_cases h : n = i
    · subst h; simp
    · have h2 : ¬ i = n := fun z => h z.symm
      rw [beq_eq_false_iff_ne.mpr h, Bool.false_or]
      simp [h2]
theorem flat_ints (ns : List Int) : (ns.map V.int).all flatV = true := by
  rw [List.all_map]
  exact List.all_eq_true.mpr fun _ _ => rfl
theorem od_inI : OpD W (rIn X.K false) gInI := fun F H x y ax ay sx sy K Q ok vx vy ⟨i, ns, e1, e2, q⟩ k => by
  subst e1
  obtain ⟨l, ys, rfl, h1, h2⟩ := vy.seq ok.fh e2
  rw [isL_ints h2] at h1
  refine ⟨l, ns.map V.int, rfl, sq h1, by rw [vx.2.int_inv]; rfl, flat_ints ns, ?_⟩
  rw [vx.2.int_inv]
  show Q (.bl (inV (.int i) (ns.map V.int))) H
  rw [inV_ints]
  exact k _ _ [] F H q (Step.refl ok) ⟨rfl, .bl _⟩ New.nil
theorem od_niI : OpD W (rIn X.K true) gNiI := fun F H x y ax ay sx sy K Q ok vx vy ⟨i, ns, e1, e2, q⟩ k => by
  subst e1
  obtain ⟨l, ys, rfl, h1, h2⟩ := vy.seq ok.fh e2
  rw [isL_ints h2] at h1
  refine ⟨l, ns.map V.int, rfl, sq h1, by rw [vx.2.int_inv]; rfl, flat_ints ns, ?_⟩
  rw [vx.2.int_inv]
  show Q (.bl (!inV (.int i) (ns.map V.int))) H
  rw [inV_ints]
  exact k _ _ [] F H q (Step.refl ok) ⟨rfl, .bl _⟩ New.nil
theorem pr_inI (ha : PEd W X a pa) (hb : PEd W X b pb) (hm : behindInMarks .In b = false := by rfl) : PRd W X (.Compare a [.In] [b] pos) (d2 gInI pa pb) := pr_cmp op_in_seq od_inI ha hb hm
theorem pt_inI (ha : PEd W X a pa) (hb : PEd W X b pb) (hm : behindInMarks .In b = false := by rfl) : PTd W X (.Compare a [.In] [b] pos) (dT2 gInI pa pb) := pt_cmp' op_in_seq od_inI ha hb hm
theorem pr_niI (ha : PEd W X a pa) (hb : PEd W X b pb) (hm : behindInMarks .NotIn b = false := by rfl) : PRd W X (.Compare a [.NotIn] [b] pos) (d2 gNiI pa pb) := pr_cmp op_notIn_seq od_niI ha hb hm
theorem pt_niI (ha : PEd W X a pa) (hb : PEd W X b pb) (hm : behindInMarks .NotIn b = false := by rfl) : PTd W X (.Compare a [.NotIn] [b] pos) (dT2 gNiI pa pb) := pt_cmp' op_notIn_seq od_niI ha hb hm
/-- xs.index(x), the list frozen or own -/
def dIndex (pa pb : RE) : RE := fun ρ K => pa ρ fun sx => ∃ ys, sx.list = some ys ∧ flatL 8 ys = true ∧ pb ρ fun sy => ∃ x, sy.dat = some x ∧ x.flat 8 = true ∧ ∃ (j : Nat) (z : D), ys[j]? = some z ∧ PyData.eqv z.py x.py = true ∧ (∀ (m : Nat) z', m < j → ys[m]? = some z' → PyData.eqv z'.py x.py = false) ∧ K (.d (.int j))
theorem pr_index {apos : Pos} (hr : Room (k + 1) X.A) (ha : PEd W X a pa) (hb : PEd W X b pb) (hbase : attributeBase a "index" X.env (eval a X.env) = eval a X.env := by rfl)
    (hfew : ((backTo pos (starEach [b] X.env)).all (fun x => !x.1) && (backToKw pos (keywordEach [] X.env)).all (fun x => x.1.isSome)
      && decide ([b].length + ([] : List Keyword).length + (if ([] : List Keyword).isEmpty then 0 else 1) < 30)) = true := by rfl)
    (hline : (apos.endLine == pos.line) = true := by rfl) (hs : starEach [b] X.env = (false, eval b X.env) :: starEach [] X.env := by rfl) : PRd W X (.Call (.Attribute a "index" apos) [b] [] pos) (dIndex pa pb) := ⟨fun F0 B =>
  (pe_bm PySem.F.plainAttrs_list PySem.F.slot_list_index PySem.F.type_list_index (mt_indexD (hu65 hr)) (ha.run F0 B) (pa_cons (hb.run F0 B) pa_nil hs) hbase hfew hline hs).imp fun σ H Q ⟨F, ρ, K, E, q, k⟩ => ⟨F, ρ, _, E, q, fun sx v as F1 H1 ⟨ys, e1, f1, z⟩ st sv n => by
    obtain ⟨l, us, rfl, h1, h2⟩ := sv.list st.ok.fh e1
    refine ⟨.inl ⟨rfl, us, SqL.of h1⟩, F1, ρ, _, E.step st, z, fun sy w as2 F2 H2 ⟨x, e2, f2, j, z1, hz, hj, hno, kk⟩ st2 sv2 n2 => ?_⟩
    have sv' := sv.step n st2
    have f3 : (D.lst ys).flat 9 = true := f1
    refine ⟨l, w, x.py, pyL ys, j, z1.py, rfl, rfl, sv'.dp st2.ok.fh (list_dat e1) f3, sv2.dp st2.ok.fh e2 f2, flat_shaped f3 (by decide), flat_shaped f2 (by decide), by rw [pyL_map, List.getElem?_map, hz]; rfl, hj, fun m z' hm e3 => ?_, k _ _ [] F2 H2 kk (st.trans E.ok st2) ⟨rfl, .int _⟩ New.nil⟩
    rw [pyL_map, List.getElem?_map] at e3
    cases q : ys[m]? with
    | none => rw [q] at e3; cases e3
    | some y =>
      rw [q] at e3
      rw [← Option.some.inj e3]
      exact hno m y hm q⟩⟩
/-! ### dicts read -/
def gDGet : Sd → Sd → (Sd → Prop) → Prop := fun sx sy K => ∃ kvs k x, sx.dct = some kvs ∧ sy = .d (.ints k) ∧ dget kvs k = some x ∧ K (.d x)
def dDGet (pd pk : RE) : RE := fun ρ K => pd ρ fun sx => pk ρ fun sy => gDGet sx sy K
def dDIn (pk pd : RE) : RE := fun ρ K => pk ρ fun sy => pd ρ fun sx => ∃ kvs k, sx.dct = some kvs ∧ sy = .d (.ints k) ∧ K (.d (.bl (dget kvs k).isSome))
def dDNi (pk pd : RE) : RE := fun ρ K => pk ρ fun sy => pd ρ fun sx => ∃ kvs k, sx.dct = some kvs ∧ sy = .d (.ints k) ∧ K (.d (.bl (!(dget kvs k).isSome)))
theorem dget_t {v w : V} {as as' : List Addr} {sx : Sd} {kvs : List (List Int × D)} {k : List Int} (hx : SV F H v as sx) (hy : SV F H w as' (.d (.ints k))) (fh : Same F H) (e : sx.dct = some kvs) :
    ∃ a, v = .ref a ∧ ((DGet H a w none ∧ dget kvs k = none) ∨ ∃ u x, DGet H a w (some u) ∧ dget kvs k = some x ∧ Is F u x) := by
  obtain ⟨a, ps, rfl, h1, h2⟩ := hx.dct fh e
  obtain ⟨b, rfl, h3⟩ := hy.2.key
  have g := DGet.t h1 (fh _ _ h3)
  refine ⟨a, rfl, ?_⟩
  rcases h2.get kT_inj k with ⟨e1, e2⟩ | ⟨u, x, e1, e2, e3⟩
  · rw [e1] at g; exact .inl ⟨g, e2⟩
  · rw [e1] at g; exact .inr ⟨u, x, g, e2, e3⟩
theorem pr_dget (hr : Room k X.A) (ha : PEd W X a pa) (hb : PEd W X b pb) (hs : NoSl b := by intro _ _; rfl) : PRd W X (.Subscript a b pos) (dDGet pa pb) := ⟨fun F0 B => (pe_dget (hu_of hr) (ha.run F0 B) (hb.run F0 B) hs).imp fun σ H Q ⟨F, ρ, K, E, q, k⟩ => ⟨F, ρ, _, E, q, fun sx v as F1 H1 z st sv n =>
  ⟨F1, ρ, _, E.step st, z, fun sy w as2 F2 H2 ⟨kvs, k', x, e1, e2, e3, kk⟩ st2 sv2 n2 => by
    subst e2
    obtain ⟨a, rfl, h⟩ := dget_t (sv.step n st2) sv2 st2.ok.fh e1
    rcases h with ⟨_, h⟩ | ⟨u, x', g, h, i⟩
    · rw [h] at e3; cases e3
    · rw [h] at e3; cases e3
      exact ⟨a, u, rfl, g, k _ _ [] F2 H2 kk (st.trans E.ok st2) ⟨rfl, i⟩ New.nil⟩⟩⟩⟩
theorem lift_din {S : Bs} {σ : L2.St} {Q : VK} (h : liftR S (dDIn pa pb) σ H Q) : tDIn (liftE S pa) (liftE S pb) σ H Q := by
  obtain ⟨F, ρ, K, E, q, k⟩ := h
  refine ⟨F, ρ, _, E, q, fun sy w as F1 H1 z st sv n => ⟨F1, ρ, _, E.step st, z, fun sx v as2 F2 H2 ⟨kvs, k', e1, e2, kk⟩ st2 sv2 n2 => ?_⟩⟩
  subst e2
  obtain ⟨a, rfl, h⟩ := dget_t sv2 (sv.step n st2) st2.ok.fh e1
  rcases h with ⟨g, h⟩ | ⟨u, x', g, h, i⟩
  · rw [h] at kk; exact ⟨a, none, rfl, g, k _ _ [] F2 H2 kk (st.trans E.ok st2) ⟨rfl, .bl _⟩ New.nil⟩
  · rw [h] at kk; exact ⟨a, some u, rfl, g, k _ _ [] F2 H2 kk (st.trans E.ok st2) ⟨rfl, .bl _⟩ New.nil⟩
theorem lift_dni {S : Bs} {σ : L2.St} {Q : VK} (h : liftR S (dDNi pa pb) σ H Q) : tDNotIn (liftE S pa) (liftE S pb) σ H Q := by
  obtain ⟨F, ρ, K, E, q, k⟩ := h
  refine ⟨F, ρ, _, E, q, fun sy w as F1 H1 z st sv n => ⟨F1, ρ, _, E.step st, z, fun sx v as2 F2 H2 ⟨kvs, k', e1, e2, kk⟩ st2 sv2 n2 => ?_⟩⟩
  subst e2
  obtain ⟨a, rfl, h⟩ := dget_t sv2 (sv.step n st2) st2.ok.fh e1
  rcases h with ⟨g, h⟩ | ⟨u, x', g, h, i⟩
  · rw [h] at kk; exact ⟨a, none, rfl, g, k _ _ [] F2 H2 kk (st.trans E.ok st2) ⟨rfl, .bl _⟩ New.nil⟩
  · rw [h] at kk; exact ⟨a, some u, rfl, g, k _ _ [] F2 H2 kk (st.trans E.ok st2) ⟨rfl, .bl _⟩ New.nil⟩
theorem liftT_of {S : Bs} {p : RE} {σ : L2.St} {Q : Bool → Hp → Prop} (h : liftT S (dTB p) σ H Q) : liftR S p σ H (fun x H1 => ∃ c, x = .bl c ∧ Q c H1) := by
  obtain ⟨F, ρ, K, E, q, k⟩ := h
  exact ⟨F, ρ, _, E, q, fun s v as F' H' ⟨b, e, z⟩ st sv n => by
    subst e
    exact ⟨b, sv.2.bl_inv, k b F' H' z st⟩⟩
theorem pr_din (hr : Room k X.A) (ha : PEd W X a pa) (hb : PEd W X b pb) (hm : behindInMarks .In b = false := by rfl) : PRd W X (.Compare a [.In] [b] pos) (dDIn pa pb) := ⟨fun F0 B => (pe_cmp (pc_din (hu_of hr) (ha.run F0 B) (hb.run F0 B)) hm).imp fun σ H Q h => lift_din h⟩
theorem pt_din (hr : Room k X.A) (ha : PEd W X a pa) (hb : PEd W X b pb) (hm : behindInMarks .In b = false := by rfl) : PTd W X (.Compare a [.In] [b] pos) (dTB (dDIn pa pb)) := ⟨fun F0 B => (pt_cmp (pc_din (hu_of hr) (ha.run F0 B) (hb.run F0 B)) hm).imp fun σ H Q h => lift_din (liftT_of h)⟩
theorem pr_dni (hr : Room k X.A) (ha : PEd W X a pa) (hb : PEd W X b pb) (hm : behindInMarks .NotIn b = false := by rfl) : PRd W X (.Compare a [.NotIn] [b] pos) (dDNi pa pb) := ⟨fun F0 B => (pe_cmp (pc_dnotin (hu_of hr) (ha.run F0 B) (hb.run F0 B)) hm).imp fun σ H Q h => lift_dni h⟩
theorem pt_dni (hr : Room k X.A) (ha : PEd W X a pa) (hb : PEd W X b pb) (hm : behindInMarks .NotIn b = false := by rfl) : PTd W X (.Compare a [.NotIn] [b] pos) (dTB (dDNi pa pb)) := ⟨fun F0 B => (pt_cmp (pc_dnotin (hu_of hr) (ha.run F0 B) (hb.run F0 B)) hm).imp fun σ H Q h => lift_dni (liftT_of h)⟩
end
end DL
namespace DL
open PySem PySem.Spec L2
/-! ### storing -/
section
variable {S : Bs} {F H F' H' : Hp} {σ : L2.St} {ρ : List Sd}
/-- the environment with its own addresses told -/
structure EnvO (S : Bs) (F H : Hp) (σ : L2.St) (ρ : List Sd) (os : List (List Addr)) : Prop where
  ok : Okay S.W F H
  f0 : Same S.F0 F
  kp : ∀ a o, S.B a = some o → ¬ S.W.A a → H a = some o
  nw : ∀ a o, F a = some o → S.F0 a = some o ∨ S.B a = none
  nd : os.flatten.Nodup
  fr : ∀ a ∈ os.flatten, F a = none ∧ S.B a = none ∧ ¬ S.W.A a
  sl : Slots F H σ ρ os
theorem Env.o (E : Env S F H σ ρ) : ∃ os, EnvO S F H σ ρ os := let ⟨os, a, b, c⟩ := E.own; ⟨os, E.ok, E.f0, E.kp, E.nw, a, b, c⟩
theorem EnvO.env {os : List (List Addr)} (E : EnvO S F H σ ρ os) : Env S F H σ ρ := ⟨E.ok, E.f0, E.kp, E.nw, os, E.nd, E.fr, E.sl⟩
theorem EnvO.step {os : List (List Addr)} (E : EnvO S F H σ ρ os) (s : Step S.W F H F' H') : EnvO S F' H' σ ρ os := by
  have al := E.sl.alive
  have same : ∀ a ∈ os.flatten, H' a = H a := fun a ha => by
    cases q : H a with
    | none => exact absurd q (al a ha)
    | some o => exact s.kp a o q (E.fr a ha).2.2
  refine ⟨s.ok, E.f0.trans s.ff, fun a o h n => s.kp a o (E.kp a o h n) n, fun a o h => ?_, E.nd, fun a ha => ⟨?_, (E.fr a ha).2⟩, E.sl.mono s.ff same⟩
  · rcases s.nw a o h with z | z
    · exact E.nw a o z
    · exact .inr (E.env.free z).1
  · cases q : F' a with
    | none => rfl
    | some o =>
      rcases s.nw a o q with z | z
      · rw [(E.fr a ha).1] at z; cases z
      · exact absurd z (al a ha)
theorem EnvO.put {os : List (List Addr)} (E : EnvO S F H σ ρ os) (i : Nat) {v : V} {as : List Addr} {s : Sd} (hv : SV F H v as s) (nd : as.Nodup) (fr : ∀ a ∈ as, F a = none ∧ S.B a = none ∧ ¬ S.W.A a) (hn : ∀ a ∈ as, a ∉ os.flatten) :
    ∃ os', EnvO S F H (σ.set i (some v)) (ρ.set i s) os' ∧ ∀ a ∈ os'.flatten, a ∈ as ∨ a ∈ os.flatten := by
  by_cases hi : i < os.length
  · have e : os[i]? = some os[i] := by simp [hi]
    refine ⟨os.set i as, ⟨E.ok, E.f0, E.kp, E.nw, flat_set_nodup E.nd e nd fun a ha hf => absurd hf (hn a ha), fun a ha => ?_, E.sl.set (Same.refl _) E.nd e (fun _ _ _ => rfl) hv.so⟩, fun a ha => flat_set_sub ha⟩
    rcases flat_set_sub ha with z | z
    · exact fr a z
    · exact E.fr a z
  · have h2 := E.sl.len
    rw [List.set_eq_of_length_le (by omega), List.set_eq_of_length_le (by omega)]
    exact ⟨os, E, fun a ha => .inr ha⟩
/-- a new or frozen value is stored -/
theorem Env.stepPut (E : Env S F H σ ρ) (st : Step S.W F H F' H') (i : Nat) {v : V} {as : List Addr} {s : Sd} (hv : SV F' H' v as s) (n : New H F' as) : Env S F' H' (σ.set i (some v)) (ρ.set i s) := by
  obtain ⟨os, E0⟩ := E.o
  obtain ⟨os', E', _⟩ := (E0.step st).put i hv n.1 (fun a ha => ⟨(n.2 a ha).2, (E.free (n.2 a ha).1).1, E.ok.alive (n.2 a ha).1⟩) fun a ha hf => E0.sl.alive a hf (n.2 a ha).1
  exact E'.env
/-- several values at once: values with their own addresses -/
def SVQ (F H : Hp) : List V → List (List Addr) → List Sd → Prop
  | [], [], [] => True
  | v :: vs, as :: ass, s :: ss => SV F H v as s ∧ SVQ F H vs ass ss
  | _, _, _ => False
def sets (σ : L2.St) : List Nat → List V → L2.St
  | i :: is, v :: vs => sets (σ.set i (some v)) is vs
  | _, _ => σ
def setsD (ρ : List Sd) : List Nat → List Sd → List Sd
  | i :: is, s :: ss => setsD (ρ.set i s) is ss
  | _, _ => ρ
theorem EnvO.puts : ∀ (is : List Nat) (vs : List V) (ass : List (List Addr)) (ss : List Sd) {σ : L2.St} {ρ : List Sd} {os : List (List Addr)}, EnvO S F H σ ρ os → SVQ F H vs ass ss → ass.flatten.Nodup → (∀ a ∈ ass.flatten, F a = none ∧ S.B a = none ∧ ¬ S.W.A a ∧ a ∉ os.flatten) → Env S F H (sets σ is vs) (setsD ρ is ss)
  | [], vs, ass, ss, σ, ρ, os, E, q, nd, fr => by cases vs <;> cases ss <;> exact E.env
  | i :: is, [], [], [], σ, ρ, os, E, q, nd, fr => E.env
  | i :: is, v :: vs, as :: ass, s :: ss, σ, ρ, os, E, q, nd, fr => by
    rw [List.flatten_cons] at nd
    obtain ⟨n1, n2, n3⟩ := List.nodup_append.mp nd
    obtain ⟨os', E', h'⟩ := E.put i q.1 n1 (fun a ha => let z := fr a (by rw [List.flatten_cons]; exact List.mem_append_left _ ha); ⟨z.1, z.2.1, z.2.2.1⟩) fun a ha => (fr a (by rw [List.flatten_cons]; exact List.mem_append_left _ ha)).2.2.2
    refine EnvO.puts is vs ass ss E' q.2 n2 fun a ha => ?_
    obtain ⟨z1, z2, z3, z4⟩ := fr a (by rw [List.flatten_cons]; exact List.mem_append_right _ ha)
    refine ⟨z1, z2, z3, fun hf => ?_⟩
    rcases h' a hf with y | y
    · exact n3 a y a ha rfl
    · exact z4 y
  | _ :: _, [], [], _ :: _, _, _, _, _, q, _, _ => q.elim
  | _ :: _, [], _ :: _, [], _, _, _, _, q, _, _ => q.elim
  | _ :: _, [], _ :: _, _ :: _, _, _, _, _, q, _, _ => q.elim
  | _ :: _, _ :: _, [], [], _, _, _, _, q, _, _ => q.elim
  | _ :: _, _ :: _, [], _ :: _, _, _, _, _, q, _, _ => q.elim
  | _ :: _, _ :: _, _ :: _, [], _, _, _, _, q, _, _ => q.elim
theorem Env.rt (E : Env S F H σ ρ) : Step S.W S.F0 S.B F H := ⟨E.f0, E.kp, E.nw, E.ok⟩
end
/-! ### several values to be stored -/
abbrev RQ := List Sd → (List Sd → Prop) → Prop
def liftQ (S : Bs) (p : RQ) : TA := fun σ H Q => ∃ F ρ K, Env S F H σ ρ ∧ p ρ K ∧ ∀ ss vs ass F' H', K ss → Step S.W F H F' H' → SVQ F' H' vs ass ss → ass.flatten.Nodup → (∀ a ∈ ass.flatten, H a = none ∧ F' a = none) → Q vs H'
structure PQd (W : Amb) (X : Cx) (es : List Expr) (p : RQ) : Prop where
  run : ∀ F0 B, PA X es (liftQ ⟨W, F0, B⟩ p)
section
variable {W : Amb} {X : Cx} {F H F' H' : Hp} {e : Expr} {es : List Expr} {pa : RE} {q : RQ}
theorem SVQ.step : ∀ {vs : List V} {ass : List (List Addr)} {ss : List Sd}, SVQ F H vs ass ss → (∀ a ∈ ass.flatten, ¬ W.A a) → Step W F H F' H' → SVQ F' H' vs ass ss
  | [], [], [], _, _, _ => trivial
  | v :: vs, as :: ass, s :: ss, h, n, st => ⟨h.1.step (fun a ha => n a (by rw [List.flatten_cons]; exact List.mem_append_left _ ha)) st, SVQ.step h.2 (fun a ha => n a (by rw [List.flatten_cons]; exact List.mem_append_right _ ha)) st⟩
  | [], [], _ :: _, h, _, _ => h.elim
  | [], _ :: _, [], h, _, _ => h.elim
  | [], _ :: _, _ :: _, h, _, _ => h.elim
  | _ :: _, [], [], h, _, _ => h.elim
  | _ :: _, [], _ :: _, h, _, _ => h.elim
  | _ :: _, _ :: _, [], h, _, _ => h.elim
theorem SVQ.alive : ∀ {vs : List V} {ass : List (List Addr)} {ss : List Sd}, SVQ F H vs ass ss → ∀ a ∈ ass.flatten, H a ≠ none
  | [], [], [], _, a, ha => by simp at ha
  | v :: vs, as :: ass, s :: ss, h, a, ha => by
    rw [List.flatten_cons] at ha
    rcases List.mem_append.mp ha with z | z
    · exact h.1.alive a z
    · exact SVQ.alive h.2 a z
  | [], [], _ :: _, h, _, _ => h.elim
  | [], _ :: _, [], h, _, _ => h.elim
  | [], _ :: _, _ :: _, h, _, _ => h.elim
  | _ :: _, [], [], h, _, _ => h.elim
  | _ :: _, [], _ :: _, h, _, _ => h.elim
  | _ :: _, _ :: _, [], h, _, _ => h.elim
def qNil : RQ := fun _ K => K []
def qCons (p : RE) (q : RQ) : RQ := fun ρ K => p ρ fun s => q ρ fun ss => K (s :: ss)
theorem pqd_nil : PQd W X [] qNil := ⟨fun F0 B => pa_nil.imp fun σ H Q ⟨F, ρ, K, E, q, k⟩ => k [] [] [] F H q (Step.refl E.ok) trivial List.nodup_nil fun a ha => by simp at ha⟩
theorem pqd_cons (ha : PRd W X e pa) (hr : PQd W X es q) (hs : starEach (e :: es) X.env = (false, eval e X.env) :: starEach es X.env := by rfl) : PQd W X (e :: es) (qCons pa q) := ⟨fun F0 B => (pa_cons (ha.run F0 B) (hr.run F0 B) hs).imp fun σ H Q ⟨F, ρ, K, E, q, k⟩ => ⟨F, ρ, _, E, q, fun s v as F1 H1 z st sv n => by
  refine ⟨F1, ρ, _, E.step st, z, fun ss vs ass F2 H2 kk st2 sq nd fr => ?_⟩
  have al := n.alive E.ok
  refine k (s :: ss) (v :: vs) (as :: ass) F2 H2 kk (st.trans E.ok st2) ⟨sv.step al st2, sq⟩ ?_ ?_
  · rw [List.flatten_cons]
    exact List.nodup_append.mpr ⟨n.1, nd, fun a ha b hb e => sv.alive a ha (by rw [e]; exact (fr b hb).1)⟩
  · intro a ha
    rw [List.flatten_cons] at ha
    rcases List.mem_append.mp ha with y | y
    · refine ⟨(n.2 a y).1, ?_⟩
      cases qq : F2 a with
      | none => rfl
      | some o =>
        rcases st2.nw a o qq with x | x
        · rw [(n.2 a y).2] at x; cases x
        · exact absurd x (sv.alive a y)
    · exact ⟨st.free E.ok (fr a y).1, (fr a y).2⟩⟩⟩
end
/-! ### statements -/
section
variable {W : Amb} {X : Cx} {F H F' H' : Hp} {e c : Expr} {es : List Expr} {pa pb : RE} {tp : RT} {q : RQ} {pos : Pos} {st : Stmt} {rest : List Stmt} {p1 p2 : RS}
theorem PSd.imp {p p' : RS} (h : PSd W X st p) (k : ∀ K ρ, p' K ρ → p K ρ) : PSd W X st p' := ⟨fun F0 B => (h.run F0 B).imp fun T σ H ⟨F, ρ, K, E, q, z⟩ => ⟨F, ρ, K, E, k K ρ q, z⟩⟩
theorem PSsd.imp {sts : List Stmt} {p p' : RS} (h : PSsd W X sts p) (k : ∀ K ρ, p' K ρ → p K ρ) : PSsd W X sts p' := ⟨fun F0 B => (h.run F0 B).imp fun T σ H ⟨F, ρ, K, E, q, z⟩ => ⟨F, ρ, K, E, k K ρ q, z⟩⟩
def sNext : RS := fun K ρ => K.nx ρ
def sSeq (p q : RS) : RS := fun K ρ => p { K with nx := fun ρ' => q K ρ' } ρ
theorem ssd_nil : PSsd W X [] sNext := ⟨fun F0 B => pss_nil.imp fun T σ H ⟨F, ρ, K, E, q, k, _⟩ => k ρ σ F H q E⟩
theorem ssd_one (h : PSd W X st p1) : PSsd W X [st] p1 := ⟨fun F0 B => pss_one (h.run F0 B)⟩
theorem ssd_cons (h1 : PSd W X st p1) (h2 : PSsd W X rest p2) : PSsd W X (st :: rest) (sSeq p1 p2) := ⟨fun F0 B => (pss_cons (h1.run F0 B) (h2.run F0 B)).imp fun T σ H ⟨F, ρ, K, E, q, k1, k2, k3, k4⟩ =>
  ⟨F, ρ, _, E, q, fun ρ' σ' F' H' z E' => ⟨F', ρ', K, E', z, k1, k2, k3, k4⟩, k2, k3, k4⟩⟩
def sIf (p : RT) (p1 p2 : RS) : RS := fun K ρ => p ρ fun b => (b = true → p1 K ρ) ∧ (b = false → p2 K ρ)
theorem sd_if {a b : List Stmt} (hc : PTd W X c tp) (ha : PSsd W X a p1) (hb : PSsd W X b p2) : PSd W X (.If c a b pos) (sIf tp p1 p2) := ⟨fun F0 B => (ps_if (hc.run F0 B) (ha.run F0 B) (hb.run F0 B)).imp fun T σ H ⟨F, ρ, K, E, q, k⟩ =>
  ⟨F, ρ, _, E, q, fun b F' H' ⟨z1, z2⟩ st => by
    cases b with
    | true => exact ⟨F', ρ, K, E.step st, z1 rfl, k⟩
    | false => exact ⟨F', ρ, K, E.step st, z2 rfl, k⟩⟩⟩
def sBrk : RS := fun K ρ => K.bk ρ
def sCont : RS := fun K ρ => K.ct ρ
theorem sd_break : PSd W X (.Break pos) sBrk := ⟨fun F0 B => ps_break.imp fun T σ H ⟨F, ρ, K, E, q, k1, k2, k3, k4⟩ => k3 ρ σ F H q E⟩
theorem sd_cont : PSd W X (.Continue pos) sCont := ⟨fun F0 B => ps_continue.imp fun T σ H ⟨F, ρ, K, E, q, k1, k2, k3, k4⟩ => k4 ρ σ F H q E⟩
def sNever : RS := fun _ _ => False
theorem sd_never : PSd W X st sNever := ⟨fun F0 B => ps_never.imp fun T σ H ⟨F, ρ, K, E, q, _⟩ => q⟩
def sDrop (p : RE) : RS := fun K ρ => p ρ fun _ => K.nx ρ
theorem sd_expr (he : PEd W X e pa) (hs : swapsWith e none pos.line X.env = pure false := by rfl) : PSd W X (.Expr e pos) (sDrop pa) := ⟨fun F0 B => (ps_expr (he.run F0 B) hs).imp fun T σ H ⟨F, ρ, K, E, q, k⟩ => ⟨F, ρ, _, E, q, fun s v as F' H' z st sv n => k.1 ρ σ F' H' z (E.step st)⟩⟩
/-- return e: what is new is frozen -/
def sRet (p : RE) : RS := fun K ρ => p ρ fun s => ∃ d, s.frz = some d ∧ K.rt d
theorem sd_ret (he : PRd W X e pa) : PSd W X (.Return (some e) pos) (sRet pa) := ⟨fun F0 B => (ps_ret (he.run F0 B)).imp fun T σ H ⟨F, ρ, K, E, q, k⟩ => ⟨F, ρ, _, E, q, fun s v as F' H' ⟨d, e1, z⟩ st sv n => by
  obtain ⟨F2, s2, i2, _⟩ := st.frz E.ok sv n e1
  exact k.2.1 d v F2 H' z (E.step s2).rt i2⟩⟩
def sRetN : RS := fun K _ => K.rt .non
theorem sd_retN : PSd W X (.Return none pos) sRetN := ⟨fun F0 B => ps_retN.imp fun T σ H ⟨F, ρ, K, E, q, k⟩ => k.2.1 .non .non F H q E.rt .non⟩
/-- an own value of a name is frozen where it stands -/
def Sd.fz : Sd → Sd
  | .ol xs => .d (.lst xs)
  | .ot kvs => .d (.dct kvs)
  | .oo kvs => .d (.dct (kvs.map fun kv => (kv.1, .lst kv.2)))
  | s => s
def fzAt (i : Nat) (ρ : List Sd) : List Sd := match ρ[i]? with
  | some s => ρ.set i s.fz
  | none => ρ
theorem isT_oo : ∀ {ps : List (List Key × V)} {qs : List (List Int × List D)} {ls : List Addr} {F H F' : Hp}, IsOO F H ps qs ls → Same F F' → (∀ a ∈ ls, F' a = H a) → IsT F' ps (qs.map fun kv => (kv.1, .lst kv.2))
  | [], [], [], _, _, _, _, _, _ => trivial
  | p :: ps, q :: qs, l :: ls, F, H, F', ⟨h1, h2, ⟨ys, h3, h4⟩, h5⟩, ff, k => ⟨h1, by rw [h2]; exact .lst' (by rw [k l (by simp)]; exact h3) (h4.mono ff), isT_oo h5 ff fun a ha => k a (by simp [ha])⟩
  | [], [], _ :: _, _, _, _, h, _, _ => h.elim
  | [], _ :: _, [], _, _, _, h, _, _ => h.elim
  | [], _ :: _, _ :: _, _, _, _, h, _, _ => h.elim
  | _ :: _, [], [], _, _, _, h, _, _ => h.elim
  | _ :: _, [], _ :: _, _, _, _, h, _, _ => h.elim
  | _ :: _, _ :: _, [], _, _, _, h, _, _ => h.elim
/-- all of these become frozen, as they stand in H -/
def updL (F H : Hp) (as : List Addr) : Hp := fun a => open Classical in if a ∈ as then H a else F a
theorem updL_in {as : List Addr} {a : Addr} (h : a ∈ as) : updL F H as a = H a := by unfold updL; rw [if_pos h]
theorem updL_out {as : List Addr} {a : Addr} (h : a ∉ as) : updL F H as a = F a := by unfold updL; rw [if_neg h]
theorem Okay.freezeL {W : Amb} (ok : Okay W F H) {as : List Addr} (h : ∀ a ∈ as, F a = none ∧ ¬ W.A a) : Okay W (updL F H as) H ∧ Same F (updL F H as) := by
  have ff : Same F (updL F H as) := fun a u q => by
    rw [updL_out fun z => by rw [(h a z).1] at q; cases q]; exact q
  refine ⟨⟨fun a u q => ?_, fun a q => ?_, W.mono ff (fun _ _ => rfl) ok.j⟩, ff⟩
  · by_cases z : a ∈ as
    · rw [updL_in z] at q; exact q
    · rw [updL_out z] at q; exact ok.fh a u q
  · rw [updL_out fun z => (h a z).2 q]; exact ok.na a q
theorem SV.fz {v : V} {as : List Addr} {s : Sd} (h : SV F H v as s) (ff : Same F (updL F H as)) (n : s.fz ≠ s) : SV (updL F H as) H v [] s.fz := by
  cases s with
  | ol xs =>
    obtain ⟨l, ys, rfl, rfl, h1, h2⟩ := h
    exact ⟨rfl, .lst' (by rw [updL_in (by simp)]; exact h1) (h2.mono ff)⟩
  | ot xs =>
    obtain ⟨l, ys, rfl, rfl, h1, h2⟩ := h
    exact ⟨rfl, .dct' (by rw [updL_in (by simp)]; exact h1) (h2.mono ff)⟩
  | oo xs =>
    obtain ⟨l, ys, ls, rfl, rfl, h1, h2⟩ := h
    exact ⟨rfl, .dct' (by rw [updL_in (by simp)]; exact h1) (isT_oo h2 ff fun a ha => updL_in (by simp [ha]))⟩
  | _ => exact absurd rfl n
theorem Env.fz {S : Bs} {σ : L2.St} {ρ : List Sd} (E : Env S F H σ ρ) (i : Nat) : ∃ F', Env S F' H σ (fzAt i ρ) := by
  cases e : ρ[i]? with
  | none =>
    refine ⟨F, ?_⟩
    have : fzAt i ρ = ρ := by unfold fzAt; rw [e]
    rw [this]; exact E
  | some s =>
    have hm : fzAt i ρ = ρ.set i s.fz := by
      unfold fzAt
      rw [e]
    rw [hm]
    by_cases n : s.fz = s
    · refine ⟨F, ?_⟩
      rw [n]
      have : ρ.set i s = ρ := by
        refine List.ext_getElem? fun j => ?_
        by_cases z : i = j
        · subst z; rw [List.getElem?_set_self (List.getElem?_eq_some_iff.mp e).1, e]
        · rw [List.getElem?_set_ne z]
      rw [this]; exact E
    · have hs : s ≠ .any := fun z => n (by rw [z]; rfl)
      obtain ⟨v, as, h1, h2, h3⟩ := E.get e hs
      have ok := E.ok.freezeL (as := as) fun a ha => ⟨(h3 a ha).1, (h3 a ha).2.2⟩
      refine ⟨updL F H as, E.mut e hs _ H ok.2 (fun a o q => ?_) fun v' as' g1 g2 g3 g4 => ?_⟩
      · by_cases z : a ∈ as
        · exact .inr (h3 a z).2.1
        · rw [updL_out z] at q; exact .inl q
      · rw [h1] at g1
        cases g1
        have key : as' = as := by
          cases s with
          | any => exact absurd rfl hs
          | d x => exact g2.1.trans h2.1.symm
          | ol xs => obtain ⟨l, ys, e1, rfl, _⟩ := h2; obtain ⟨l', ys', e1', rfl, _⟩ := g2; rw [e1] at e1'; cases e1'; rfl
          | ot xs => obtain ⟨l, ys, e1, rfl, _⟩ := h2; obtain ⟨l', ys', e1', rfl, _⟩ := g2; rw [e1] at e1'; cases e1'; rfl
          | oi xs => obtain ⟨l, ys, e1, rfl, _⟩ := h2; obtain ⟨l', ys', e1', rfl, _⟩ := g2; rw [e1] at e1'; cases e1'; rfl
          | oa l xs => exact absurd rfl n
          | ob l C fs => exact absurd rfl n
          | oo xs =>
            obtain ⟨l, ys, ls, e1, rfl, q1, q2⟩ := h2
            obtain ⟨l', ys', ls', e1', rfl, q1', q2'⟩ := g2
            rw [e1] at e1'; cases e1'
            rw [q1] at q1'; cases q1'
            have : ls = ls' := by
              have aux : ∀ {ps : List (List Key × V)} {qs : List (List Int × List D)} {ls ls' : List Addr}, IsOO F H ps qs ls → IsOO F H ps qs ls' → ls = ls' := by
                intro ps
                induction ps with
                | nil =>
                  intro qs ls ls' a b
                  cases qs <;> cases ls <;> cases ls' <;> first | rfl | exact a.elim | exact b.elim
                | cons p ps ih =>
                  intro qs ls ls' a b
                  cases qs with
                  | nil => cases ls <;> exact a.elim
                  | cons q qs =>
                    cases ls with
                    | nil => exact a.elim
                    | cons x ls =>
                      cases ls' with
                      | nil => exact b.elim
                      | cons y ls' =>
                        have e1 := a.2.1.symm.trans b.2.1
                        cases e1
                        rw [ih a.2.2.2 b.2.2.2]
              exact aux q2 q2'
            rw [this]
        subst key
        refine ⟨[], List.nodup_nil, fun a ha => by simp at ha, fun a ha _ => ⟨rfl, updL_out ha⟩, fun a ha => by simp at ha, ok.1, h2.fz ok.2 n⟩
def sFz (i : Nat) (p : RS) : RS := fun K ρ => p K (fzAt i ρ)
theorem ssd_fz {sts : List Stmt} (i : Nat) (h : PSsd W X sts p1) : PSsd W X sts (sFz i p1) := ⟨fun F0 B => (h.run F0 B).imp fun T σ H ⟨F, ρ, K, E, q, k⟩ => let ⟨F', E'⟩ := E.fz i; ⟨F', fzAt i ρ, K, E', q, k⟩⟩
/-- forgetting slots -/
inductive Wk : List Sd → List Sd → Prop
  | nil : Wk [] []
  | same (s : Sd) {ρ ρ' : List Sd} : Wk ρ ρ' → Wk (s :: ρ) (s :: ρ')
  | any (s : Sd) {ρ ρ' : List Sd} : Wk ρ ρ' → Wk (s :: ρ) (.any :: ρ')
theorem Wk.refl : ∀ ρ : List Sd, Wk ρ ρ
  | [] => .nil
  | s :: ρ => .same s (Wk.refl ρ)
theorem Wk.slots {F H : Hp} {ρ ρ' : List Sd} (w : Wk ρ ρ') : ∀ {σ : L2.St} {os : List (List Addr)}, Slots F H σ ρ os → ∃ os', Slots F H σ ρ' os' ∧ os'.flatten.Sublist os.flatten := by
  induction w with
  | nil =>
    intro σ os h
    exact ⟨os, h, List.Sublist.refl _⟩
  | same s w ih =>
    intro σ os h
    cases σ with
    | nil => cases os <;> exact h.elim
    | cons o σ =>
      cases os with
      | nil => exact h.elim
      | cons as os =>
        obtain ⟨os', h1, h2⟩ := ih h.2
        exact ⟨as :: os', ⟨h.1, h1⟩, by rw [List.flatten_cons, List.flatten_cons]; exact List.Sublist.append (List.Sublist.refl _) h2⟩
  | any s w ih =>
    intro σ os h
    cases σ with
    | nil => cases os <;> exact h.elim
    | cons o σ =>
      cases os with
      | nil => exact h.elim
      | cons as os =>
        obtain ⟨os', h1, h2⟩ := ih h.2
        exact ⟨[] :: os', ⟨rfl, h1⟩, by rw [List.flatten_cons, List.flatten_cons, List.nil_append]; exact h2.trans (List.sublist_append_right _ _)⟩
theorem Env.weak {S : Bs} {σ : L2.St} {ρ ρ' : List Sd} (E : Env S F H σ ρ) (w : Wk ρ ρ') : Env S F H σ ρ' := by
  obtain ⟨os, nd, fr, sl⟩ := E.own
  obtain ⟨os', h1, h2⟩ := w.slots sl
  exact ⟨E.ok, E.f0, E.kp, E.nw, os', nd.sublist h2, fun a ha => fr a (h2.subset ha), h1⟩
/-! ### assignments -/
def sSet (i : Nat) (p : RE) : RS := fun K ρ => p ρ fun s => K.nx (ρ.set i s)
theorem sd_set {i : Nat} {x : Str} {pos' : Pos} (hN : X.N.Nodup) (hi : X.N[i]? = some x) (hx : Loc X.env.scope x) (he : PRd W X e pa) (hs : swapsWith e (some (.Name x pos')) pos.line X.env = pure false := by rfl) (hf : X.fn x = true ∨ X.env.scope.names.lookup x = some .local := by first | exact .inl rfl | exact .inr rfl) :
    PSd W X (.Assign [.Name x pos'] e pos) (sSet i pa) := ⟨fun F0 B => (ps_set hN hi hx (he.run F0 B) hs hf).imp fun T σ H ⟨F, ρ, K, E, q, k⟩ => ⟨F, ρ, _, E, q, fun s v as F' H' z st sv n => k.1 (ρ.set i s) _ F' H' z (E.stepPut st i sv n)⟩⟩
/-- a, b = x, y, both plain locals -/
def sSets (is : List Nat) (q : RQ) : RS := fun K ρ => q ρ fun ss => ss.length = is.length ∧ K.nx (setsD ρ is ss)
theorem lift_sets {S : Bs} {is : List Nat} {T : Ends} {σ : L2.St} (h : liftS S (sSets is q) T σ H) : liftQ S q σ H (fun vs H1 => vs.length = is.length ∧ T.nx (sets σ is vs) H1) := by
  obtain ⟨F, ρ, K, E, z, k⟩ := h
  refine ⟨F, ρ, _, E, z, fun ss vs ass F' H' ⟨hl, kk⟩ st sq nd fr => ?_⟩
  obtain ⟨os, E0⟩ := E.o
  have len : ∀ {vs : List V} {ass : List (List Addr)} {ss : List Sd}, SVQ F' H' vs ass ss → vs.length = ss.length := by
    intro vs
    induction vs with
    | nil => intro ass ss h; cases ass <;> cases ss <;> first | rfl | exact h.elim
    | cons v vs ih =>
      intro ass ss h
      cases ass with
      | nil => cases ss <;> exact h.elim
      | cons as ass =>
        cases ss with
        | nil => exact h.elim
        | cons s ss => simp [ih h.2]
  refine ⟨(len sq).trans hl, k.1 _ _ F' H' kk (EnvO.puts is vs ass ss (E0.step st) sq nd fun a ha => ?_)⟩
  obtain ⟨z1, z2⟩ := fr a ha
  exact ⟨z2, (E.free z1).1, E.ok.alive z1, fun hf => E0.sl.alive a hf z1⟩
theorem sd_par {i j : Nat} {x y : Str} {a b : Expr} {px py pt : Pos} {kt k2 pt2} (hc : X.calm = true) (hN : X.N.Nodup) (hi : X.N[i]? = some x) (hj : X.N[j]? = some y) (hij : i ≠ j)
    (hx : X.env.scope.names.lookup x = some .local) (hy : X.env.scope.names.lookup y = some .local) (ha : PQd W X [a, b] q)
    (hw : swappedStores [.Tuple [.Name x px, .Name y py] kt pt] (.Tuple [a, b] k2 pt2) X.env = pure (some [x, y]))
    (hs : swapsWithSole [.Tuple [.Name x px, .Name y py] kt pt] (.Tuple [a, b] k2 pt2) pos.line X.env = pure false := by rfl) :
    PSd W X (.Assign [.Tuple [.Name x px, .Name y py] kt pt] (.Tuple [a, b] k2 pt2) pos) (sSets [i, j] q) := ⟨fun F0 B => (ps_par hc hN hi hj hij hx hy (ha.run F0 B) hw hs).imp fun T σ H h => by
  obtain ⟨F, ρ, K, E, z, k⟩ := lift_sets h
  refine ⟨F, ρ, K, E, z, fun ss vs ass F' H' k1 st sq nd fr => ?_⟩
  obtain ⟨hl, hk⟩ := k ss vs ass F' H' k1 st sq nd fr
  match vs, hl with
  | [v, w], _ => exact ⟨v, w, rfl, hk⟩⟩
theorem sd_par3 {i j l : Nat} {x y z : Str} {a b c : Expr} {px py pz pt : Pos} {kt k2 pt2} (hc : X.calm = true) (hN : X.N.Nodup) (hi : X.N[i]? = some x) (hj : X.N[j]? = some y) (hl : X.N[l]? = some z) (hij : i ≠ j) (hil : i ≠ l) (hjl : j ≠ l)
    (hx : X.env.scope.names.lookup x = some .local) (hy : X.env.scope.names.lookup y = some .local) (hz : X.env.scope.names.lookup z = some .local) (ha : PQd W X [a, b, c] q)
    (hw : swappedStores [.Tuple [.Name x px, .Name y py, .Name z pz] kt pt] (.Tuple [a, b, c] k2 pt2) X.env = pure (some [x, y, z]))
    (hs : swapsWithSole [.Tuple [.Name x px, .Name y py, .Name z pz] kt pt] (.Tuple [a, b, c] k2 pt2) pos.line X.env = pure false := by rfl) :
    PSd W X (.Assign [.Tuple [.Name x px, .Name y py, .Name z pz] kt pt] (.Tuple [a, b, c] k2 pt2) pos) (sSets [i, j, l] q) := ⟨fun F0 B => (ps_par3 hc hN hi hj hl hij hil hjl hx hy hz (ha.run F0 B) hw hs).imp fun T σ H h => by
  obtain ⟨F, ρ, K, E, z, k⟩ := lift_sets h
  refine ⟨F, ρ, K, E, z, fun ss vs ass F' H' k1 st sq nd fr => ?_⟩
  obtain ⟨hl, hk⟩ := k ss vs ass F' H' k1 st sq nd fr
  match vs, hl with
  | [v, w, u], _ => exact ⟨v, w, u, rfl, hk⟩⟩
end
end DL
namespace DL
open PySem PySem.Spec L2
/-! ### targets -/
abbrev RG := D → List Sd → (List Sd → Prop) → Prop
def liftG (S : Bs) (g : RG) : TG := fun v σ H Q => ∃ F ρ x K, Env S F H σ ρ ∧ Is F v x ∧ g x ρ K ∧ ∀ ρ' σ' F' H', K ρ' → Env S F' H' σ' ρ' → Q σ' H'
structure PGd (W : Amb) (X : Cx) (e : Expr) (g : RG) : Prop where
  run : ∀ F0 B, PG X e (liftG ⟨W, F0, B⟩ g)
theorem _root_.L2.PG.imp {X : Cx} {e : Expr} {t t' : TG} (h : PG X e t) (k : ∀ v σ H Q, t' v σ H Q → t v σ H Q) : PG X e t' := ⟨fun pins s σ H v u Q I r q => h.run pins s σ H v u Q I r (k v σ H Q q)⟩
def gN (i : Nat) : RG := fun x ρ K => K (ρ.set i (.d x))
def gT (is : List Nat) : RG := fun x ρ K => ∃ xs, x = .tup xs ∧ xs.length = is.length ∧ K (setsD ρ is (xs.map .d))
/-- names, one after another -/
def gNames : List Nat → TGs
  | [] => gNil
  | i :: is => gCons (gName i) (gNames is)
theorem gNames_of : ∀ (is : List Nat) {vs : List V} {σ : L2.St} {H : Hp} {Q : L2.St → Hp → Prop}, vs.length = is.length → Q (sets σ is vs) H → gNames is vs σ H Q
  | [], [], σ, H, Q, _, q => ⟨rfl, q⟩
  | i :: is, v :: vs, σ, H, Q, hl, q => ⟨v, vs, rfl, gNames_of is (by simpa using hl) q⟩
  | [], _ :: _, _, _, _, hl, _ => by simp at hl
  | _ :: _, [], _, _, _, hl, _ => by simp at hl
section
variable {S : Bs} {W : Amb} {X : Cx} {F H F' H' : Hp} {σ : L2.St} {ρ : List Sd} {e c : Expr} {es : List Expr} {pa pb : RE} {tp : RT} {q : RQ} {pos : Pos} {st : Stmt} {rest : List Stmt} {p1 p2 : RS}
theorem Env.putsD (E : Env S F H σ ρ) : ∀ (is : List Nat) {ys : List V} {xs : List D}, IsL F ys xs → Env S F H (sets σ is ys) (setsD ρ is (xs.map .d)) := fun is {ys xs} h => by
  obtain ⟨os, E0⟩ := E.o
  have key : ∀ {ys : List V} {xs : List D}, IsL F ys xs → SVQ F H ys (ys.map fun _ => []) (xs.map .d) := by
    intro ys
    induction ys with
    | nil => intro xs h; cases xs <;> first | trivial | exact h.elim
    | cons y ys ih =>
      intro xs h
      cases xs with
      | nil => exact h.elim
      | cons x xs => exact ⟨⟨rfl, h.1⟩, ih h.2⟩
  have fl : ∀ ys : List V, (ys.map fun _ => ([] : List Addr)).flatten = [] := fun ys => by simp
  exact E0.puts is ys _ _ (key h) (by rw [fl]; exact List.nodup_nil) fun a ha => by rw [fl] at ha; simp at ha
theorem gd_name {i : Nat} {x : Str} (hN : X.N.Nodup) (hi : X.N[i]? = some x) (hx : Loc X.env.scope x) (hf : X.fn x = true ∨ X.env.scope.names.lookup x = some .local := by first | exact .inl rfl | exact .inr rfl) : PGd W X (.Name x pos) (gN i) :=
  ⟨fun F0 B => (pg_name hN hi hx hf).imp fun v σ H Q ⟨F, ρ, x, K, E, i, q, k⟩ => k _ _ F H q (E.putD i)⟩
theorem gd_tup {is : List Nat} {k : Nat} (hc : X.calm = true) (h : PGs X es (gNames is)) (hn : (assignEach es X.env).length = is.length := by rfl) (hst : (assignEach es X.env).findIdx? (·.1) = none := by rfl) : PGd W X (.Tuple es k pos) (gT is) :=
  ⟨fun F0 B => (pg_tup hc h hn hst).imp fun v σ H Q ⟨F, ρ, x, K, E, i, ⟨xs, e1, e2, q⟩, k⟩ => by
    subst e1
    obtain ⟨a, ys, rfl, h1, h2⟩ := i.tup_inv
    exact ⟨a, ys, rfl, SqT.of (E.ok.fh _ _ h1), h2.length.trans e2, gNames_of is (h2.length.trans e2) (k _ _ F H q (E.putsD is h2))⟩⟩
/-- target = e, the value frozen -/
def sAsg (p : RE) (g : RG) : RS := fun K ρ => p ρ fun s => ∃ d, s.frz = some d ∧ g d ρ K.nx
theorem sd_asg {tg : Expr} {g : RG} (he : PRd W X e pa) (hg : PGd W X tg g) (hs : swapsWithSole [tg] e pos.line X.env = pure false := by rfl) (hw : swappedStores [tg] e X.env = pure none := by rfl)
    (h1 : (assignEach [tg] X.env).map (·.2) = [assign tg X.env] := by rfl) : PSd W X (.Assign [tg] e pos) (sAsg pa g) := ⟨fun F0 B => (ps_asg (he.run F0 B) (hg.run F0 B) hs hw h1).imp fun T σ H ⟨F, ρ, K, E, q, k⟩ => ⟨F, ρ, _, E, q, fun s v as F' H' ⟨d, e1, z⟩ st sv n => by
  obtain ⟨F2, s2, i2, _⟩ := st.frz E.ok sv n e1
  exact ⟨F2, ρ, d, K.nx, E.step s2, i2, z, k.1⟩⟩⟩
/-- a, b, .. = x, y, .. by a tuple (names local or captured) -/
theorem sd_tupG {is : List Nat} {ts : List Expr} {kt k2 : _} {pt pt2 : Pos} (hc : X.calm = true) (hg : PGs X ts (gNames is)) (ha : PQd W X es q) (hlen : is.length ≤ 1000)
    (hn : (assignEach ts X.env).length = is.length := by rfl) (hst : (assignEach ts X.env).findIdx? (·.1) = none := by rfl)
    (hs : swapsWithSole [.Tuple ts kt pt] (.Tuple es k2 pt2) pos.line X.env = pure false := by rfl) (hw : swappedStores [.Tuple ts kt pt] (.Tuple es k2 pt2) X.env = pure none := by rfl)
    (h1 : (assignEach [.Tuple ts kt pt] X.env).map (·.2) = [assign (.Tuple ts kt pt) X.env] := by rfl) : PSd W X (.Assign [.Tuple ts kt pt] (.Tuple es k2 pt2) pos) (sSets is q) := ⟨fun F0 B => (ps_asg (pe_tup (ha.run F0 B)) (pg_tup hc hg hn hst) hs hw h1).imp fun T σ H h => by
  obtain ⟨F, ρ, K, E, z, k⟩ := h
  refine ⟨F, ρ, _, E, z, fun ss vs ass F' H' ⟨hl, kk⟩ st sq nd fr => ?_⟩
  obtain ⟨os, E0⟩ := E.o
  have len : ∀ {vs : List V} {ass : List (List Addr)} {ss : List Sd}, SVQ F' H' vs ass ss → vs.length = ss.length := by
    intro vs
    induction vs with
    | nil => intro ass ss h; cases ass <;> cases ss <;> first | rfl | exact h.elim
    | cons v vs ih =>
      intro ass ss h
      cases ass with
      | nil => cases ss <;> exact h.elim
      | cons as ass =>
        cases ss with
        | nil => exact h.elim
        | cons s ss => simp [ih h.2]
  have hv : vs.length = is.length := (len sq).trans hl
  refine ⟨by rw [hv]; exact Nat.le_trans hlen (by decide), fun p hp => ?_⟩
  have s2 := Step.own (o := .tup vs) st.ok hp
  have s12 := st.trans E.ok s2
  refine ⟨p, vs, rfl, SqT.of upd_same, hv, gNames_of is hv (k.1 _ _ F' _ kk (EnvO.puts is vs ass ss (E0.step s12) (sq.step (fun a ha => E.ok.alive (fr a ha).1) s2) nd fun a ha => ?_))⟩
  obtain ⟨z1, z2⟩ := fr a ha
  exact ⟨z2, (E.free z1).1, E.ok.alive z1, fun hf => E0.sl.alive a hf z1⟩⟩
/-! ### what is walked -/
abbrev RI := List Sd → (List D → Prop) → Prop
structure WalksD (W : Amb) (J : It) (F : Hp) (xs : List D) : Prop where
  ex : ∃ G Y, Walk J xs.length G Y ∧ (∀ F' H', Same F F' → Okay W F' H' → G H') ∧ ∀ (i : Nat) H1 v H2 F1, i < xs.length → Same F F1 → Okay W F1 H1 → Y i H1 v H2 → ∃ F2 x, xs[i]? = some x ∧ Is F2 v x ∧ Step W F1 H1 F2 H2
def liftI (S : Bs) (p : RI) : TI := fun σ H R => ∃ F ρ K, Env S F H σ ρ ∧ p ρ K ∧ ∀ xs J F' H', K xs → Step S.W F H F' H' → WalksD S.W J F' xs → R J H'
structure PId (W : Amb) (X : Cx) (tg iter : Expr) (p : RI) : Prop where
  run : ∀ F0 B, PI X tg iter (liftI ⟨W, F0, B⟩ p)
theorem wd_list {K : PySem.W.Frag} {a : Addr} {ys : List V} {xs : List D} (h : F a = some (.lst ys)) (l : IsL F ys xs) : WalksD W (Itl K a) F xs := by
  refine ⟨⟨fun H => SqL K H a ys, YAt ys, by rw [← l.length]; exact walk_list, fun F' H' ff ok => SqL.of (ok.fh _ _ (ff _ _ h)), fun i H1 v H2 F1 hi ff ok ⟨e1, e2⟩ => ?_⟩⟩
  obtain ⟨x, h1, h2⟩ := l.getV e2
  exact ⟨F1, x, h1, h2.mono ff, by rw [e1]; exact Step.refl ok⟩
theorem wd_tup {K : PySem.W.Frag} {a : Addr} {ys : List V} {xs : List D} (h : F a = some (.tup ys)) (l : IsL F ys xs) : WalksD W (Itt K a) F xs := by
  refine ⟨⟨fun H => SqT K H a ys, YAt ys, by rw [← l.length]; exact walk_tup, fun F' H' ff ok => SqT.of (ok.fh _ _ (ff _ _ h)), fun i H1 v H2 F1 hi ff ok ⟨e1, e2⟩ => ?_⟩⟩
  obtain ⟨x, h1, h2⟩ := l.getV e2
  exact ⟨F1, x, h1, h2.mono ff, by rw [e1]; exact Step.refl ok⟩
def rangeD (lo : Int) (n : Nat) : List D := (List.range n).map fun i => .int (lo + (i : Nat))
theorem rangeD_at (lo : Int) (n i : Nat) (h : i < n) : (rangeD lo n)[i]? = some (.int (lo + (i : Nat))) := by
  unfold rangeD
  rw [List.getElem?_map, List.getElem?_range h]
  rfl
theorem rangeD_len (lo : Int) (n : Nat) : (rangeD lo n).length = n := by unfold rangeD; rw [List.length_map, List.length_range]
theorem wd_range {lo : Int} {n : Nat} : WalksD W (Itr lo n) F (rangeD lo n) := by
  refine ⟨⟨fun _ => True, YFn fun i => .int (lo + i), by rw [rangeD_len]; exact walk_range, fun _ _ _ _ => trivial, fun i H1 v H2 F1 hi ff ok ⟨e1, e2⟩ => ?_⟩⟩
  rw [rangeD_len] at hi
  exact ⟨F1, _, rangeD_at lo n i hi, by rw [e2]; exact .int _, by rw [e1]; exact Step.refl ok⟩
variable {tg iter : Expr} {pi : RI}
/-- over a list that is frozen, or new -/
def iL (p : RE) : RI := fun ρ K => p ρ fun s => ∃ xs, s.frz = some (.lst xs) ∧ K xs
theorem id_list (h : PRd W X iter pa) : PId W X tg iter (iL pa) := ⟨fun F0 B => (pi_list (h.run F0 B)).imp fun σ H R ⟨F, ρ, K, E, q, k⟩ => ⟨F, ρ, _, E, q, fun s v as F1 H1 ⟨xs, e1, z⟩ st sv n => by
  obtain ⟨F2, s2, i2, _⟩ := st.frz E.ok sv n e1
  obtain ⟨a, ys, rfl, h1, h2⟩ := i2.lst_inv
  exact ⟨a, rfl, ⟨ys, SqL.of (s2.ok.fh _ _ h1)⟩, k xs _ F2 H1 z s2 (wd_list h1 h2)⟩⟩⟩
def iT (p : RE) : RI := fun ρ K => p ρ fun s => ∃ xs, s = .d (.tup xs) ∧ K xs
theorem id_tup (h : PRd W X iter pa) : PId W X tg iter (iT pa) := ⟨fun F0 B => (pi_tup (h.run F0 B)).imp fun σ H R ⟨F, ρ, K, E, q, k⟩ => ⟨F, ρ, _, E, q, fun s v as F1 H1 ⟨xs, e1, z⟩ st sv n => by
  subst e1
  obtain ⟨a, ys, rfl, h1, h2⟩ := sv.2.tup_inv
  exact ⟨a, rfl, ⟨ys, SqT.of (st.ok.fh _ _ h1)⟩, k xs _ F1 H1 z st (wd_tup h1 h2)⟩⟩⟩
def iR1 (p : RE) : RI := fun ρ K => p ρ fun s => ∃ n : Int, s = .d (.int n) ∧ -1000000 ≤ n ∧ n ≤ 1000000 ∧ K (rangeD 0 n.toNat)
theorem id_range1 {a : Expr} {p pos : Pos} (hg : Gl X "range") (hm : X.mg "range" = none) (ha : PRd W X a pa) (hs : starEach [a] X.env = [(false, eval a X.env)] := by rfl) : PId W X tg (.Call (.Name "range" p) [a] [] pos) (iR1 pa) := ⟨fun F0 B => (pi_range1 hg hm (pa_cons (ha.run F0 B) pa_nil hs) hs).imp fun σ H R ⟨F, ρ, K, E, q, k⟩ => ⟨F, ρ, _, E, q, fun s v as F1 H1 ⟨m, e1, h1, h2, z⟩ st sv n => by
  subst e1
  exact ⟨m, by rw [sv.2.int_inv], by omega, by omega, k _ _ F1 H1 z st wd_range⟩⟩⟩
/-! ### for -/
def sFor (pi : RI) (g : RG) (p : RS) : RS := fun K ρ => pi ρ fun xs => ∃ Inv : Nat → List Sd → Prop, Inv 0 ρ ∧ (∀ (i : Nat) x ρ', xs[i]? = some x → Inv i ρ' → g x ρ' fun ρ2 => p { K with nx := Inv (i + 1), ct := Inv (i + 1), bk := K.nx } ρ2) ∧ (∀ ρ', Inv xs.length ρ' → K.nx ρ')
theorem _root_.L2.PSs.ex {α : Type} {sts : List Stmt} {t : α → TS} (h : ∀ x, PSs X sts (t x)) : PSs X sts (fun T σ H => ∃ x, t x T σ H) := ⟨fun pins s σ H D I ⟨x, q⟩ => (h x).run pins s σ H D I q⟩
theorem _root_.L2.PE.ex {α : Type} {e : Expr} {t : α → TE} (h : ∀ x, PE X e (t x)) : PE X e (fun σ H Q => ∃ x, t x σ H Q) := ⟨fun pins s σ H Q I ⟨x, q⟩ => (h x).run pins s σ H Q I q⟩
theorem _root_.L2.PTs.ex {α : Type} {es : List Expr} {t : α → TT} (h : ∀ x, PTs X es (t x)) : PTs X es (fun σ H Q => ∃ x, t x σ H Q) := ⟨fun pins s σ H Q I ⟨x, q⟩ => (h x).run pins s σ H Q I q⟩
theorem _root_.L2.PG.ex {α : Type} {e : Expr} {t : α → TG} (h : ∀ x, PG X e (t x)) : PG X e (fun v σ H Q => ∃ x, t x v σ H Q) := ⟨fun pins s σ H v u Q I r ⟨x, q⟩ => (h x).run pins s σ H v u Q I r q⟩
theorem Env.reF {W : Amb} {F0 F1 B : Hp} (E : Env ⟨W, F1, B⟩ F H σ ρ) (ff : Same F0 F1) (nw : ∀ a o, F1 a = some o → F0 a = some o ∨ B a = none) : Env ⟨W, F0, B⟩ F H σ ρ :=
  ⟨E.ok, ff.trans E.f0, E.kp, fun a o h => by
    rcases E.nw a o h with z | z
    · exact nw a o z
    · exact .inr z, E.own⟩
theorem Env.upF {W : Amb} {F0 B : Hp} (E : Env ⟨W, F0, B⟩ F H σ ρ) : Env ⟨W, F, B⟩ F H σ ρ := ⟨E.ok, Same.refl _, E.kp, fun a o h => .inl h, E.own⟩
theorem sd_for {body : List Stmt} {g : RG} (hp : PassesOwn (model X.prog X.w) X.A X.env X.xe) (hc : X.calm = true) (hi : PId W X tg iter pi) (hg : PGd W X tg g) (hb : PSsd W X body p1)
    (hs : ∀ x, foldedSetIterable iter X.env x = pure x := by intro _; rfl) : PSd W X (.For tg iter body [] pos) (sFor pi g p1) := ⟨fun F0 B => (ps_for hp hc (hi.run F0 B) (PG.ex fun F1 => hg.run F1 B) (PSs.ex fun F1 => hb.run F1 B) hs).imp fun T σ H ⟨F, ρ, K, E, q, k1, k2, k3, k4⟩ =>
  ⟨F, ρ, _, E, q, fun xs J F1 H1 ⟨Iv, i0, turn, fin⟩ st ⟨⟨G, Y, wk, hG, hY⟩⟩ => by
    have E1 := E.step st
    have back : ∀ {F2 H2 σ2 ρ2}, Env ⟨W, F1, B⟩ F2 H2 σ2 ρ2 → Env ⟨W, F0, B⟩ F2 H2 σ2 ρ2 := fun E2 => E2.reF E1.f0 E1.nw
    refine for_it (g := fun v σ H Q => ∃ x, liftG ⟨W, x, B⟩ g v σ H Q) (tb := fun T σ H => ∃ x, liftS ⟨W, x, B⟩ p1 T σ H) wk (fun i σ H => ∃ F2 ρ2, Iv i ρ2 ∧ Env ⟨W, F1, B⟩ F2 H σ ρ2) ⟨F1, ρ, i0, E1.upF⟩ (fun i σ H hi ⟨F2, ρ2, _, E2⟩ => hG F2 H E2.f0 E2.ok) (fun i v σ2 H2 H3 hi ⟨F2, ρ2, iv, E2⟩ hy => ?_) fun σ2 H2 ⟨F2, ρ2, iv, E2⟩ => k1 ρ2 σ2 F2 H2 (fin ρ2 iv) (back E2)
    obtain ⟨F3, x, h1, h2, h3⟩ := hY i H2 v H3 F2 hi E2.f0 E2.ok hy
    have E3 := E2.step h3
    refine ⟨F1, F3, ρ2, x, _, E3, h2, turn i x ρ2 h1 iv, fun ρ4 σ4 F4 H4 z E4 => ?_⟩
    refine ⟨F1, F4, ρ4, _, E4, z, fun ρ5 σ5 F5 H5 z5 E5 => ⟨F5, ρ5, z5, E5⟩, fun d v F5 H5 z5 st5 i5 => k2 d v F5 H5 z5 ⟨E1.f0.trans st5.ff, st5.kp, fun a o h => ?_, st5.ok⟩ i5, fun ρ5 σ5 F5 H5 z5 E5 => k1 ρ5 σ5 F5 H5 z5 (back E5), fun ρ5 σ5 F5 H5 z5 E5 => ⟨F5, ρ5, z5, E5⟩⟩
    rcases st5.nw a o h with y | y
    · exact E1.nw a o y
    · exact .inr y⟩⟩
/-! ### while -/
def sWhile (p : RT) (p1 : RS) : RS := fun K ρ => ∃ Iv : Nat → List Sd → Prop, (∃ m, Iv m ρ) ∧ ∀ m ρ', Iv m ρ' → p ρ' fun b => (b = true → p1 { K with nx := fun ρ2 => ∃ m', m' < m ∧ Iv m' ρ2, ct := fun ρ2 => ∃ m', m' < m ∧ Iv m' ρ2, bk := K.nx } ρ') ∧ (b = false → K.nx ρ')
theorem sd_while {body : List Stmt} (hp : PassesOwn (model X.prog X.w) X.A X.env X.xe) (hc : PTd W X c tp) (hb : PSsd W X body p1) : PSd W X (.While c body [] pos) (sWhile tp p1) := ⟨fun F0 B => (ps_while hp (hc.run F0 B) (hb.run F0 B)).imp fun T σ H ⟨F, ρ, K, E, ⟨Iv, ⟨m0, i0⟩, turn⟩, k1, k2, k3, k4⟩ => by
  refine ⟨fun m σ H => ∃ F ρ, Iv m ρ ∧ Env ⟨W, F0, B⟩ F H σ ρ, ⟨m0, F, ρ, i0, E⟩, fun m σ1 H1 ⟨F1, ρ1, iv, E1⟩ => ?_⟩
  refine ⟨F1, ρ1, _, E1, turn m ρ1 iv, fun b F2 H2 ⟨z1, z2⟩ st => ?_⟩
  cases b with
  | false => exact k1 ρ1 σ1 F2 H2 (z2 rfl) (E1.step st)
  | true =>
    refine ⟨fun σ3 H3 => ∃ F3 ρ3 m', m' < m ∧ Iv m' ρ3 ∧ Env ⟨W, F0, B⟩ F3 H3 σ3 ρ3, fun σ3 H3 ⟨F3, ρ3, m', hm, iv3, E3⟩ => ⟨m', hm, F3, ρ3, iv3, E3⟩, ?_⟩
    exact ⟨F2, ρ1, _, E1.step st, z1 rfl, fun ρ3 σ3 F3 H3 ⟨m', hm, iv3⟩ E3 => ⟨F3, ρ3, m', hm, iv3, E3⟩, k2, k1, fun ρ3 σ3 F3 H3 ⟨m', hm, iv3⟩ E3 => ⟨F3, ρ3, m', hm, iv3, E3⟩⟩⟩
end
end DL
namespace DL
open PySem PySem.Spec L2
/-! ### comprehensions -/
/-- what a block sees of the slots around: the frozen ones -/
def Sd.fr : Sd → Sd
  | .d x => .d x
  | _ => .any
def wipeD (ρ : List Sd) : List Nat → List Sd
  | [] => ρ
  | v :: vs => (wipeD ρ vs).set v .any
theorem Slots.fr {F H : Hp} : ∀ {σ : L2.St} {ρ : List Sd} {os : List (List Addr)}, Slots F H σ ρ os → Slots F H σ (ρ.map Sd.fr) (os.map fun _ => [])
  | [], ρ, os, h => h.nil fun e1 e2 => by subst e1 e2; trivial
  | o :: σ, ρ, os, h => h.cases fun s ρ' as os' e1 e2 h1 h2 => by
    subst e1 e2
    refine ⟨?_, Slots.fr h2⟩
    cases s with
    | d x => obtain ⟨v, rfl, h3⟩ := h1; exact ⟨v, rfl, rfl, h3.2⟩
    | _ => exact SO.any
theorem flat_nils {α β : Type} (l : List α) : (l.map fun _ => ([] : List β)).flatten = [] := by simp
section
variable {S : Bs} {W : Amb} {X : Cx} {F H F' H' : Hp} {σ : L2.St} {ρ : List Sd}
theorem Env.wipe (E : Env S F H σ ρ) : ∀ vs : List Nat, Env S F H (L2.wipe σ vs) (wipeD ρ vs)
  | [] => E
  | v :: vs => by
    have E1 := Env.wipe E vs
    obtain ⟨os, E0⟩ := E1.o
    show Env S F H ((L2.wipe σ vs).set v none) ((wipeD ρ vs).set v .any)
    by_cases hi : v < os.length
    · have e : os[v]? = some os[v] := by simp [hi]
      refine ⟨E0.ok, E0.f0, E0.kp, E0.nw, os.set v [], flat_set_nodup E0.nd e List.nodup_nil fun a ha => by simp at ha, fun a ha => ?_, E0.sl.set (Same.refl _) E0.nd e (fun _ _ _ => rfl) SO.any⟩
      rcases flat_set_sub ha with z | z
      · simp at z
      · exact E0.fr a z
    · have h2 := E0.sl.len
      rw [List.set_eq_of_length_le (by omega), List.set_eq_of_length_le (by omega)]
      exact E1
theorem Env.reb (E : Env S F H σ ρ) : Env ⟨S.W, F, H⟩ F H σ (ρ.map Sd.fr) := by
  obtain ⟨os, E0⟩ := E.o
  exact ⟨E.ok, Same.refl _, fun a o h _ => h, fun a o h => .inl h, os.map fun _ => [], by rw [flat_nils]; exact List.nodup_nil, fun a ha => by rw [flat_nils] at ha; simp at ha, E0.sl.fr⟩
structure PTsd (W : Amb) (X : Cx) (es : List Expr) (p : RT) : Prop where
  run : ∀ F0 B, PTs X es (liftT ⟨W, F0, B⟩ p)
def dYes : RT := fun _ K => K true
theorem _root_.L2.PTs.imp {es : List Expr} {t t' : TT} (h : PTs X es t) (k : ∀ σ H Q, t' σ H Q → t σ H Q) : PTs X es t' := ⟨fun pins s σ H Q I q => h.run pins s σ H Q I (k σ H Q q)⟩
theorem ptsd_nil : PTsd W X [] dYes := ⟨fun F0 B => pts_nil.imp fun σ H Q ⟨F, ρ, K, E, q, k⟩ => k true F H q (Step.refl E.ok)⟩
theorem ptsd_one {c : Expr} {p : RT} (h : PTd W X c p) : PTsd W X [c] p := ⟨fun F0 B => pts_one (h.run F0 B)⟩
/-- the slots of a turn -/
def blk (ρ : List Sd) (is : List Nat) : List Sd := wipeD (ρ.map Sd.fr) is
def dLc (pi : RI) (is : List Nat) (tg : D → List D → Prop) (pt : RT) (pe : RE) : RE := fun ρ K => pi ρ fun xs => xs.length ≤ 100000 ∧ ∃ Iv : Nat → List D → Prop, Iv 0 [] ∧
  (∀ (n : Nat) x ys acc, xs[n]? = some x → tg x ys → Iv n acc → pt (setsD (blk ρ is) is (ys.map .d)) fun b => (b = true → pe (setsD (blk ρ is) is (ys.map .d)) fun s => ∃ d, s.frz = some d ∧ Iv (n + 1) (acc ++ [d])) ∧ (b = false → Iv (n + 1) acc)) ∧
  (∀ (n : Nat) x, xs[n]? = some x → ∃ ys, tg x ys) ∧ ∀ acc, Iv xs.length acc → K (.ol acc)
/-- the target: one name; a pair -/
def tgN : D → List D → Prop := fun x ys => ys = [x]
def tgP : D → List D → Prop := fun x ys => x = .tup ys ∧ ys.length = 2
theorem wipe1 (σ : L2.St) (i : Nat) (v : Option V) : wipe ((wipe σ [i]).set i v) [i] = wipe σ [i] := by
  show ((σ.set i none).set i v).set i none = σ.set i none
  rw [List.set_set, List.set_set]
theorem wipe2 (σ : L2.St) (i j : Nat) (v w : Option V) : wipe (((wipe σ [i, j]).set i v).set j w) [i, j] = wipe σ [i, j] := by
  show (((((σ.set j none).set i none).set i v).set j w).set j none).set i none = (σ.set j none).set i none
  refine List.ext_getElem? fun n => ?_
  by_cases h1 : i = n <;> by_cases h2 : j = n <;> simp [List.getElem?_set, h1, h2]
/-- the heap of a turn: the list that grows at D, the rest as a step from the start -/
theorem lc_all {σ : L2.St} {ρ : List Sd} {F0 B F1 H1 : Hp} {g : TG} {is : List Nat} {tgd : D → List D → Prop} {pt : RT} {pe : RE} {J : It} {xs : List D} {Dl : Addr} {Qd : Hp → Prop} {Iv : Nat → List D → Prop} (E1 : Env ⟨W, F0, B⟩ F1 H1 σ ρ) (wd : WalksD W J F1 xs) (hD : H1 Dl = none) (hlen : xs.length ≤ 100000)
    (hgw : ∀ (v : V) (H2 : Hp) (F2 : Hp) (x : D) (Q : L2.St → Hp → Prop), Is F2 v x → Okay W F2 H2 → (∀ ys vs, tgd x ys → vs.length = ys.length → IsL F2 vs ys → wipe (sets (wipe σ is) is vs) is = wipe σ is → Q (sets (wipe σ is) is vs) H2) → (∃ ys, tgd x ys) → g v (wipe σ is) H2 Q)
    (i0 : Iv 0 []) (turn : ∀ (n : Nat) x ys acc, xs[n]? = some x → tgd x ys → Iv n acc → pt (setsD (blk ρ is) is (ys.map .d)) fun b => (b = true → pe (setsD (blk ρ is) is (ys.map .d)) fun s => ∃ d, s.frz = some d ∧ Iv (n + 1) (acc ++ [d])) ∧ (b = false → Iv (n + 1) acc))
    (htg : ∀ (n : Nat) x, xs[n]? = some x → ∃ ys, tgd x ys)
    (fin : ∀ acc accV F2 H2, Iv xs.length acc → Step W F1 H1 F2 H2 → H2 Dl = some (.lst accV) → IsL F2 accV acc → F2 Dl = none → Qd H2) :
    ∃ W' : Nat → Nat → Hp → Prop, (∃ m, W' 0 m (upd H1 Dl (.lst []))) ∧ ∀ i m H, W' i m H →
      (J.stop i H ∧ Qd H) ∨ (J.go i H ∧ ∃ Nx : Hp → Prop, (∀ H', Nx H' → ∃ m', m' < m ∧ W' (i + 1) m' H') ∧ ∀ x H', J.yld i H x H' → g x (wipe σ is) H' fun σ2 H2 => wipe σ2 is = wipe σ is ∧ (fun σ H Q => ∃ S : Hp × Hp, liftT ⟨W, S.1, S.2⟩ pt σ H Q) σ2 H2 fun b H3 =>
        if b = true then (fun σ H Q => ∃ S : Hp × Hp, liftR ⟨W, S.1, S.2⟩ pe σ H Q) σ2 H3 fun y H4 => ∃ acc, H4 Dl = some (.lst acc) ∧ acc.length < sizeLine ∧ Nx (upd H4 Dl (.lst (acc ++ [y]))) else Nx H3) := by
  obtain ⟨⟨G, Y, wk, hG, hY⟩⟩ := wd
  have nA : ¬ W.A Dl := E1.ok.alive hD
  have st0 : Step W F1 H1 F1 (upd H1 Dl (.lst [])) := Step.own E1.ok hD
  refine lc_it (te := fun σ H Q => ∃ S : Hp × Hp, liftR ⟨W, S.1, S.2⟩ pe σ H Q) (tt := fun σ H Q => ∃ S : Hp × Hp, liftT ⟨W, S.1, S.2⟩ pt σ H Q) (g := g) wk
    (fun i H => ∃ F2 acc accV, Iv i acc ∧ acc.length ≤ i ∧ Step W F1 H1 F2 H ∧ H Dl = some (.lst accV) ∧ IsL F2 accV acc ∧ F2 Dl = none)
    ⟨F1, [], [], i0, Nat.le_refl _, st0, upd_same, trivial, E1.ok.fresh hD⟩ (fun i H hi ⟨F2, _, _, _, _, st, _⟩ => hG F2 H st.ff st.ok) (fun i v H2 H3 hi ⟨F2, acc, accV, iv, hal, st, hDl, il, nF⟩ hy => ?_) fun H2 ⟨F2, acc, accV, iv, _, st, hDl, il, nF⟩ => fin acc accV F2 H2 iv st hDl il nF
  obtain ⟨F3, x, hx, ix, st3⟩ := hY i H2 v H3 F2 hi st.ff st.ok hy
  have keepD : ∀ {F4 H4}, Step W F2 H2 F4 H4 → H4 Dl = some (.lst accV) ∧ F4 Dl = none := fun {F4 H4} s4 => by
    refine ⟨s4.kp _ _ hDl nA, ?_⟩
    cases q : F4 Dl with
    | none => rfl
    | some o =>
      rcases s4.nw _ _ q with z | z
      · rw [nF] at z; cases z
      · rw [hDl] at z; cases z
  refine hgw v H3 F3 x _ ix st3.ok (fun ys vs ht hl il2 hw => ?_) (htg i x hx)
  refine ⟨hw, (F1, H1), ?_⟩
  -- the turn's environment
  have EB : Env ⟨W, F1, H1⟩ F1 H1 (L2.wipe σ is) (blk ρ is) := (E1.reb).wipe is
  have E3 : Env ⟨W, F1, H1⟩ F3 H3 (sets (L2.wipe σ is) is vs) (setsD (blk ρ is) is (ys.map .d)) := (EB.step (st.trans E1.ok st3)).putsD is il2
  refine ⟨F3, _, _, E3, turn i x ys acc hx ht iv, fun b F4 H4 ⟨z1, z2⟩ st4 => ?_⟩
  have s34 := st3.trans st.ok st4
  have sA := st.trans E1.ok s34
  cases b with
  | false =>
    obtain ⟨d1, d2⟩ := keepD s34
    exact ⟨F4, acc, accV, z2 rfl, Nat.le_succ_of_le hal, sA, d1, il.mono s34.ff, d2⟩
  | true =>
    refine ⟨(F1, H1), F4, _, _, E3.step st4, z1 rfl, fun s y as F5 H5 ⟨d, e1, z⟩ st5 sv n => ?_⟩
    obtain ⟨F6, s6, i6, ff6⟩ := st5.frz st4.ok sv n e1
    have s36 := s34.trans st.ok s6
    obtain ⟨d1, d2⟩ := keepD s36
    refine ⟨accV, d1, ?_, F6, acc ++ [d], accV ++ [y], z, by simp; omega, ?_, upd_same, (il.mono s36.ff).snoc i6, d2⟩
    · have := il.length
      have h5 : accV.length ≤ 100000 := by omega
      exact Nat.lt_of_le_of_lt h5 (by decide)
    · have sB := st.trans E1.ok s36
      exact ⟨sB.ff, fun a o h na => by rw [upd_ne (ne_of_none h hD)]; exact sB.kp a o h na, sB.nw, sB.ok.write d2 nA⟩
variable {elt tg iter : Expr} {ifs : List Expr} {scope : Scope} {pos : Pos} {pi : RI} {pt : RT} {pe : RE}
/-- [e for x in .. if ..] -/
theorem pr_lc {i : Nat} {x : Str} (hc : X.calm = true) (hN : X.N.Nodup) (hi : PId W X tg iter pi) (ok : BlkOk X.N X.env.scope scope [(x, i)])
    (hg : ∀ (s : Shared) (H : Hp) (C : Addr) (cl : List (Str × Addr)) (fp : List Addr), PG (X.blk s H scope (compEnvC scope cl C X.env) fp) tg (gName i)) (ht : ∀ (s : Shared) (H : Hp) (C : Addr) (cl : List (Str × Addr)) (fp : List Addr), PTsd W (X.blk s H scope (compEnvC scope cl C X.env) fp) ifs pt)
    (he : ∀ (s : Shared) (H : Hp) (C : Addr) (cl : List (Str × Addr)) (fp : List Addr), PRd W (X.blk s H scope (compEnvC scope cl C X.env) fp) elt pe) (hs : ∀ x, foldedSetIterable iter X.env x = pure x := by intro _; rfl) :
    PRd W X (.ListComp elt [⟨tg, iter, ifs, 0⟩] scope pos) (dLc pi [i] tgN pt pe) := ⟨fun F0 B => (pe_lc hc hN (hi.run F0 B) ok hg (fun s H C cl fp => PTs.ex fun S : Hp × Hp => (ht s H C cl fp).run S.1 S.2) (fun s H C cl fp => PE.ex fun S : Hp × Hp => (he s H C cl fp).run S.1 S.2) hs).imp fun σ H Q ⟨F, ρ, K, E, q, k⟩ =>
  ⟨F, ρ, _, E, q, fun xs J F1 H1 ⟨hl, Iv, i0, turn, htg, fin⟩ st wd Dl hD => lc_all (tgd := tgN) (is := [i]) (E.step st) wd hD hl (fun v H2 F2 x Q ix ok q _ => q [x] [v] rfl rfl ⟨ix, trivial⟩ (wipe1 σ i _)) i0 turn htg fun acc accV F2 H2 iv s2 hDl il nF =>
    k (.ol acc) (.ref Dl) [Dl] F2 H2 (fin acc iv) (st.trans E.ok s2) ⟨Dl, accV, rfl, rfl, hDl, il⟩ ⟨by simp, fun a ha => by simp at ha; subst ha; exact ⟨st.free E.ok hD, nF⟩⟩⟩⟩
/-- [e for a, b in .. if ..] -/
theorem pr_lcP {i j : Nat} {x y : Str} (hc : X.calm = true) (hN : X.N.Nodup) (hi : PId W X tg iter pi) (ok : BlkOk X.N X.env.scope scope [(x, i), (y, j)])
    (hg : ∀ (s : Shared) (H : Hp) (C : Addr) (cl : List (Str × Addr)) (fp : List Addr), PG (X.blk s H scope (compEnvC scope cl C X.env) fp) tg (gTup X.K 2 (gNames [i, j]))) (ht : ∀ (s : Shared) (H : Hp) (C : Addr) (cl : List (Str × Addr)) (fp : List Addr), PTsd W (X.blk s H scope (compEnvC scope cl C X.env) fp) ifs pt)
    (he : ∀ (s : Shared) (H : Hp) (C : Addr) (cl : List (Str × Addr)) (fp : List Addr), PRd W (X.blk s H scope (compEnvC scope cl C X.env) fp) elt pe) (hs : ∀ x, foldedSetIterable iter X.env x = pure x := by intro _; rfl) :
    PRd W X (.ListComp elt [⟨tg, iter, ifs, 0⟩] scope pos) (dLc pi [i, j] tgP pt pe) := ⟨fun F0 B => (pe_lc hc hN (hi.run F0 B) ok hg (fun s H C cl fp => PTs.ex fun S : Hp × Hp => (ht s H C cl fp).run S.1 S.2) (fun s H C cl fp => PE.ex fun S : Hp × Hp => (he s H C cl fp).run S.1 S.2) hs).imp fun σ H Q ⟨F, ρ, K, E, q, k⟩ =>
  ⟨F, ρ, _, E, q, fun xs J F1 H1 ⟨hl, Iv, i0, turn, htg, fin⟩ st wd Dl hD => lc_all (tgd := tgP) (is := [i, j]) (E.step st) wd hD hl (fun v H2 F2 x Q ix ok q ⟨ys, e1, e2⟩ => by
      subst e1
      obtain ⟨a, vs, rfl, h1, h2⟩ := ix.tup_inv
      have hv : vs.length = 2 := h2.length.trans e2
      refine ⟨a, vs, rfl, SqT.of (ok.fh _ _ h1), hv, gNames_of [i, j] hv ?_⟩
      refine q ys vs ⟨rfl, e2⟩ h2.length h2 ?_
      match vs, hv with
      | [u, w], _ => exact wipe2 σ i j _ _) i0 turn htg fun acc accV F2 H2 iv s2 hDl il nF =>
    k (.ol acc) (.ref Dl) [Dl] F2 H2 (fin acc iv) (st.trans E.ok s2) ⟨Dl, accV, rfl, rfl, hDl, il⟩ ⟨by simp, fun a ha => by simp at ha; subst ha; exact ⟨st.free E.ok hD, nF⟩⟩⟩⟩
/-- name = [..], the name a plain local, on one line -/
theorem sd_setLc {i n : Nat} {x y : Str} {py spos : Pos} (hc : X.calm = true) (hN : X.N.Nodup) (hy : X.N[n]? = some y) (hyl : X.env.scope.names.lookup y = some .local)
    (hsw : swapsWith (.ListComp elt [⟨tg, iter, ifs, 0⟩] scope pos) (some (.Name y py)) spos.line X.env = pure true) (hi : PId W X tg iter pi) (ok : BlkOk X.N X.env.scope scope [(x, i)])
    (hg : ∀ (s : Shared) (H : Hp) (C : Addr) (cl : List (Str × Addr)) (fp : List Addr), PG (X.blk s H scope (compEnvC scope cl C X.env) fp) tg (gName i)) (ht : ∀ (s : Shared) (H : Hp) (C : Addr) (cl : List (Str × Addr)) (fp : List Addr), PTsd W (X.blk s H scope (compEnvC scope cl C X.env) fp) ifs pt)
    (he : ∀ (s : Shared) (H : Hp) (C : Addr) (cl : List (Str × Addr)) (fp : List Addr), PRd W (X.blk s H scope (compEnvC scope cl C X.env) fp) elt pe) (hs : ∀ x, foldedSetIterable iter X.env x = pure x := by intro _; rfl) :
    PSd W X (.Assign [.Name y py] (.ListComp elt [⟨tg, iter, ifs, 0⟩] scope pos) spos) (sSet n (dLc pi [i] tgN pt pe)) := ⟨fun F0 B => (ps_setLc hc hN hy hyl hsw (hi.run F0 B) ok hg (fun s H C cl fp => PTs.ex fun S : Hp × Hp => (ht s H C cl fp).run S.1 S.2) (fun s H C cl fp => PE.ex fun S : Hp × Hp => (he s H C cl fp).run S.1 S.2) hs).imp fun T σ H ⟨F, ρ, K, E, q, k⟩ =>
  ⟨F, ρ, _, E, q, fun xs J F1 H1 ⟨hl, Iv, i0, turn, htg, fin⟩ st wd Dl hD => lc_all (tgd := tgN) (is := [i]) (E.step st) wd hD hl (fun v H2 F2 x Q ix ok q _ => q [x] [v] rfl rfl ⟨ix, trivial⟩ (wipe1 σ i _)) i0 turn htg fun acc accV F2 H2 iv s2 hDl il nF =>
    k.1 (ρ.set n (.ol acc)) _ F2 H2 (fin acc iv) (E.stepPut (st.trans E.ok s2) n (as := [Dl]) ⟨Dl, accV, rfl, rfl, hDl, il⟩ ⟨by simp, fun a ha => by simp at ha; subst ha; exact ⟨st.free E.ok hD, nF⟩⟩)⟩⟩
theorem sd_setLcP {i j n : Nat} {x x' y : Str} {py spos : Pos} (hc : X.calm = true) (hN : X.N.Nodup) (hy : X.N[n]? = some y) (hyl : X.env.scope.names.lookup y = some .local)
    (hsw : swapsWith (.ListComp elt [⟨tg, iter, ifs, 0⟩] scope pos) (some (.Name y py)) spos.line X.env = pure true) (hi : PId W X tg iter pi) (ok : BlkOk X.N X.env.scope scope [(x, i), (x', j)])
    (hg : ∀ (s : Shared) (H : Hp) (C : Addr) (cl : List (Str × Addr)) (fp : List Addr), PG (X.blk s H scope (compEnvC scope cl C X.env) fp) tg (gTup X.K 2 (gNames [i, j]))) (ht : ∀ (s : Shared) (H : Hp) (C : Addr) (cl : List (Str × Addr)) (fp : List Addr), PTsd W (X.blk s H scope (compEnvC scope cl C X.env) fp) ifs pt)
    (he : ∀ (s : Shared) (H : Hp) (C : Addr) (cl : List (Str × Addr)) (fp : List Addr), PRd W (X.blk s H scope (compEnvC scope cl C X.env) fp) elt pe) (hs : ∀ x, foldedSetIterable iter X.env x = pure x := by intro _; rfl) :
    PSd W X (.Assign [.Name y py] (.ListComp elt [⟨tg, iter, ifs, 0⟩] scope pos) spos) (sSet n (dLc pi [i, j] tgP pt pe)) := ⟨fun F0 B => (ps_setLc hc hN hy hyl hsw (hi.run F0 B) ok hg (fun s H C cl fp => PTs.ex fun S : Hp × Hp => (ht s H C cl fp).run S.1 S.2) (fun s H C cl fp => PE.ex fun S : Hp × Hp => (he s H C cl fp).run S.1 S.2) hs).imp fun T σ H ⟨F, ρ, K, E, q, k⟩ =>
  ⟨F, ρ, _, E, q, fun xs J F1 H1 ⟨hl, Iv, i0, turn, htg, fin⟩ st wd Dl hD => lc_all (tgd := tgP) (is := [i, j]) (E.step st) wd hD hl (fun v H2 F2 x Q ix ok q ⟨ys, e1, e2⟩ => by
      subst e1
      obtain ⟨a, vs, rfl, h1, h2⟩ := ix.tup_inv
      have hv : vs.length = 2 := h2.length.trans e2
      refine ⟨a, vs, rfl, SqT.of (ok.fh _ _ h1), hv, gNames_of [i, j] hv ?_⟩
      refine q ys vs ⟨rfl, e2⟩ h2.length h2 ?_
      match vs, hv with
      | [u, w], _ => exact wipe2 σ i j _ _) i0 turn htg fun acc accV F2 H2 iv s2 hDl il nF =>
    k.1 (ρ.set n (.ol acc)) _ F2 H2 (fin acc iv) (E.stepPut (st.trans E.ok s2) n (as := [Dl]) ⟨Dl, accV, rfl, rfl, hDl, il⟩ ⟨by simp, fun a ha => by simp at ha; subst ha; exact ⟨st.free E.ok hD, nF⟩⟩)⟩⟩
end
/-! ### defs -/
abbrev DSpec := Amb → List D → (D → Prop) → Prop
def spD (f : DSpec) : Sp := fun vs H Q _ => ∃ W F ds K, Okay W F H ∧ IsL F vs ds ∧ f W ds K ∧ ∀ d v F' H', K d → Step W F H F' H' → Is F' v d → Q v H'
/-- a def that keeps such a promise, by its global name -/
structure Cl (P : Program) (w : World) (K : PySem.W.Frag) (mg : Str → Option Value) (base : Heap) (k : Nat) (x : Str) (n : Nat) (f : DSpec) : Prop where
  ex : ∃ a fd ps, mg x = some (.ref a) ∧ PySem.W.keepIn K (.ref a) = true ∧ ps.length = n ∧ Binds K fd ps [] ∧ FnOk P w K mg base CX0 k a fd ps (spD f)
section
variable {W : Amb} {X : Cx} {F H F' H' : Hp} {e : Expr} {es : List Expr} {q : RA} {f : DSpec} {x : Str} {n k : Nat} {p pos : Pos}
def dCall (W : Amb) (f : DSpec) (q : RA) : RE := fun ρ K => q ρ fun ds => f W ds fun d => K (.d d)
theorem lift_call {S : Bs} {σ : L2.St} {Q : VK} (h : liftR S (dCall S.W f q) σ H Q) : tCall (spD f) [] E0 (liftA S q) σ H Q := by
  obtain ⟨F, ρ, K, E, z, k⟩ := h
  refine ⟨F, ρ, _, E, z, fun ds vs F1 H1 z1 st il => ?_⟩
  show spD f (vs ++ []) H1 Q E0
  rw [List.append_nil]
  exact ⟨S.W, F1, ds, _, st.ok, il, z1, fun d v F2 H2 kd s2 i2 => k (.d d) v [] F2 H2 kd (st.trans E.ok s2) ⟨rfl, i2⟩ New.nil⟩
theorem pr_call (c : Cl X.prog X.w X.K X.mg X.base k x n f) (hr : Room k X.A) (hg : Gl X x) (ha : PAd W X (e :: es) q) (hdb : (x == ("__debug__" : Str)) = false := by decide) (he : starEach (e :: es) X.env = (false, eval e X.env) :: starEach es X.env := by rfl) (hpl : (backTo pos (starEach es X.env)).any (·.1) = false := by rfl) :
    PRd W X (.Call (.Name x p) (e :: es) [] pos) (dCall W f q) := ⟨fun F0 B => by
  obtain ⟨a, fd, ps, hm, hk, hn, hb, hF⟩ := c.ex
  exact (pe_call hF hr hg hm hk hb .nil (pass0 (X := X)) (ha.run F0 B) hdb he hpl).imp fun σ H Q h => lift_call h⟩
/-- the start of a def's body -/
def startD (n : Nat) (ds : List D) : List Sd := ds.map .d ++ List.replicate (n - ds.length) .any
theorem env_start {N : List Str} {vs : List V} {ds : List D} (ok : Okay W F H) (il : IsL F vs ds) (hl : ds.length ≤ N.length) : Env ⟨W, F, H⟩ F H (L2.start N vs) (startD N.length ds) := by
  refine ⟨ok, Same.refl _, fun a o h _ => h, fun a o h => .inl h, (L2.start N vs).map fun _ => [], by rw [flat_nils]; exact List.nodup_nil, fun a ha => by rw [flat_nils] at ha; simp at ha, ?_⟩
  unfold L2.start startD
  have anyL : ∀ n : Nat, Slots F H (List.replicate n none) (List.replicate n .any) ((List.replicate n (none : Option V)).map fun _ => []) := by
    intro n
    induction n with
    | zero => trivial
    | succ n ih => exact ⟨SO.any, ih⟩
  have key : ∀ {vs : List V} {ds : List D} (n : Nat), IsL F vs ds → Slots F H (vs.map some ++ List.replicate n none) (ds.map .d ++ List.replicate n .any) ((vs.map some ++ List.replicate n (none : Option V)).map fun _ => []) := by
    intro vs
    induction vs with
    | nil => intro ds n h; cases ds <;> first | exact anyL n | exact h.elim
    | cons v vs ih =>
      intro ds n h
      cases ds with
      | nil => exact h.elim
      | cons d ds => exact ⟨⟨v, rfl, rfl, h.1⟩, ih n h.2⟩
  rw [il.length]
  exact key _ il
/-- THE RULE for a def: its body, read over data -/
theorem fn_ok {P : Program} {w : World} {K : PySem.W.Frag} {mg : Str → Option Value} {base : Heap} {x qual : Str} {params : Arguments} {body : List Stmt} {scope : Scope} {a : Addr} {fd : FuncData} {N ps : List Str} (Fn : FunD K x qual params body scope [] [] a fd) (S : FnScope N ps scope) {pr : Amb → RS}
    (hlen : ∀ W ds K, f W ds K → ds.length = ps.length)
    (hb : ∀ (W : Amb) (cdv : Value) (A : Around) (outer : List PySem.Env) (s : Shared) (H : Hp) (E : XK), Room k (A.deeper (PyProof.Rows.envOfC qual scope s.heap.objs.size a cdv)) → PSsd W (cxOf CX0 P w K mg base N qual scope a cdv A outer s H E).nox body (pr W))
    (hp : ∀ (W : Amb) (ds : List D) (K : D → Prop), f W ds K → pr W { nx := fun _ => K .non, rt := K } (startD N.length ds)) : FnOk P w K mg base CX0 (k + 1) a fd ps (spD f) := by
  have hpl : ps.length ≤ N.length := by
    have e := congrArg List.length S.pre
    rw [List.length_take] at e
    omega
  refine Fn.ok S (fun vs H Q E ⟨W, F, ds, K', ok, il, hf, _⟩ => il.length.trans (hlen W ds K' hf)) fun cdv A outer s H vs Q E hr ⟨W, F, ds, K', ok, il, hf, k⟩ => ?_
  refine ⟨_, PSs.nox ((hb W cdv A outer s H E hr).run F H), F, startD N.length ds, { nx := fun _ => K' .non, rt := K' }, env_start ok il (by rw [hlen W ds K' hf]; exact hpl), hp W ds K' hf, fun ρ' σ' F' H' z E' => k .non .non F' H' z E'.rt .non, fun d v F' H' z st i => k d v F' H' z st i, fun _ _ _ _ z _ => z.elim, fun _ _ _ _ z _ => z.elim⟩
end
end DL
namespace DL
open PySem PySem.Spec L2
/-! ### lists and tuples alike: k = true a list, false a tuple -/
def SqB (K : PySem.W.Frag) (k : Bool) (H : Hp) (a : Addr) (xs : List V) : Prop := match k with
  | true => SqL K H a xs
  | false => SqT K H a xs
def HsB (k : Bool) (h : Heap) (a : Addr) (items : Array Value) : Prop := match k with
  | true => h.IsList a items
  | false => h.IsTuple a items
def ItB (k : Bool) (h : Heap) (it a : Addr) (i : Nat) : Prop := match k with
  | true => h.IsListIter it a i
  | false => h.IsTupleIter it a i
section
variable {X : Cx} {pins : List (Addr × Obj)} {σ : L2.St} {H : Hp} {s : Shared} {a : Addr} {xs ys : List V} {k : Bool}
theorem seqB (I : L2.Inv X pins σ H s) (h : SqB X.K k H a xs) : ∃ its : List Value, Vals xs its ∧ HsB k s.heap a its.toArray ∧ a < s.heap.objs.size := by
  cases k with
  | true =>
    obtain ⟨its, r, p, _⟩ := I.list h
    exact ⟨its, r, p.isList, p.lt⟩
  | false =>
    obtain ⟨its, r, p, _⟩ := I.tuple h
    exact ⟨its, r, p, p.lt⟩
theorem seqB_inj (I : L2.Inv X pins σ H s) (h : SqB X.K k H a xs) (h' : SqB X.K k H a ys) : xs = ys := by
  cases k with
  | true => exact I.list_inj h h'
  | false => exact I.tuple_inj h h'
theorem ItB.at {h h' : Heap} {it : Addr} {i : Nat} (x : ItB k h it a i) (e : ∀ o, h.get? it = some o → h'.get? it = some o) : ItB k h' it a i := by
  cases k with
  | true => exact Heap.IsListIter.at x e
  | false => exact Heap.IsTupleIter.at x e
theorem ItB.obj {h : Heap} {it : Addr} {i : Nat} (x : ItB k h it a i) : ∃ o, h.get? it = some o ∧ ∀ v, o.data ≠ .cell v := by
  cases k with
  | true => obtain ⟨o, e, c, d⟩ := x; exact ⟨o, e, fun v z => by rw [d] at z; cases z⟩
  | false => obtain ⟨o, e, c, d⟩ := x; exact ⟨o, e, fun v z => by rw [d] at z; cases z⟩
theorem drawsB {prog : Program} {w : World} {A : Around} (hh : A.handled = none) (it a : Addr) (hne : a ≠ it) (items : Array Value) (k : Bool) :
    Draws prog w A it [it, a] items.size (fun i v => items[i]? = some v) (fun i h => ItB k h it a i ∧ HsB k h a items) := by
  cases k with
  | true => exact Draws.list hh it a hne items
  | false => exact Draws.tuple hh it a hne items
def begO (k : Bool) (a : Addr) : Obj := { cls := .type (if k then "list_iterator" else "tuple_iterator"), data := .fields #[.ref a, .int 0 0] }
theorem beginsB (a : Addr) (items : Array Value) (k : Bool) : Begins (.ref a) (begO k a) fun h => HsB k h a items := by
  cases k with
  | true => exact begins_list a items
  | false => exact begins_tuple a items
theorem begO_it {h : Heap} {it : Addr} (e : h.get? it = some (begO k a)) : ItB k h it a 0 := by
  cases k with
  | true => exact ⟨_, e, rfl, rfl⟩
  | false => exact ⟨_, e, rfl, rfl⟩
end
/-! ### zip of two of them -/
def Itzz (K : PySem.W.Frag) (k1 k2 : Bool) (a b : Addr) : It :=
  ⟨fun i H => ∃ (xs ys : List V) (x y : V), SqB K k1 H a xs ∧ SqB K k2 H b ys ∧ xs[i]? = some x ∧ ys[i]? = some y,
    fun i H v H' => ∃ T x y, v = .ref T ∧ H T = none ∧ H' = upd H T (.tup [x, y]) ∧ (∀ xs, SqB K k1 H a xs → xs[i]? = some x) ∧ ∀ ys, SqB K k2 H b ys → ys[i]? = some y,
    fun i H => ∃ xs ys : List V, SqB K k1 H a xs ∧ SqB K k2 H b ys ∧ i = min xs.length ys.length⟩
theorem turn_zz {P : Program} {w : World} {K : PySem.W.Frag} {elts : List Expr} {kk : Nat} {tpos : Pos} {a b : Addr} {k1 k2 : Bool} {N : Nat} (la : a < N) (lb : b < N) :
    Turn P w K (.Tuple elts kk tpos) (Itzz K k1 k2 a b) [N + 4, N + 2, N + 3, N, N + 1] (N + 4) (fun i h => IsZip h (N + 4) (N + 2) (N + 3) .none ∧ IsTupOf2 h (N + 2) (.ref N) (.ref (N + 1)) ∧ (∃ x y, IsTupOf2 h (N + 3) x y) ∧ ItB k1 h N a i ∧ ItB k2 h (N + 1) b i) where
  mem := List.mem_cons_self
  obj := fun i h st c hc => by
    obtain ⟨q1, q2, ⟨x, y, q3⟩, q4, q5⟩ := st
    have hc' : c = N + 4 ∨ c = N + 2 ∨ c = N + 3 ∨ c = N ∨ c = N + 1 := by simpa using hc
    rcases hc' with rfl | rfl | rfl | rfl | rfl
    · exact ⟨_, q1, fun v q => nomatch q⟩
    · exact ⟨_, q2, fun v q => nomatch q⟩
    · exact ⟨_, q3, fun v q => nomatch q⟩
    · exact q4.obj
    · exact q5.obj
  keep := fun i h h' st q => by
    obtain ⟨q1, q2, ⟨x, y, q3⟩, q4, q5⟩ := st
    exact ⟨q _ (by simp) _ q1, q _ (by simp) _ q2, ⟨x, y, q _ (by simp) _ q3⟩, q4.at fun o e => q _ (by simp) o e, q5.at fun o e => q _ (by simp) o e⟩
  item := by
    intro X eP ew eK hc i pins s σ H E I hf st hg
    subst eP ew eK
    obtain ⟨q1, q2, ⟨x0, y0, q3⟩, q4, q5⟩ := st
    obtain ⟨xs, ys, x, y, sx, sy, hx, hy⟩ := hg
    obtain ⟨its, rv, p1, l1⟩ := seqB I sx
    obtain ⟨jts, rw', p2, l2⟩ := seqB I sy
    have hd : X.A.in1.handled = none := I.ok.hd hc
    have e1 := rv.length
    have e2 := rw'.length
    have hi1 : i < its.length := by rw [← e1]; exact (List.getElem?_eq_some_iff.mp hx).1
    have hi2 : i < jts.length := by rw [← e2]; exact (List.getElem?_eq_some_iff.mp hy).1
    have hN : N + 4 < s.heap.objs.size := Heap.lt_size q1
    refine wpAny_pyNext_zipD2_item (fp1 := [N, a]) (fp2 := [N + 1, b]) (zip_sep2 (fp1 := [a]) (fp2 := [b]) (by simpa using la) (by simpa using lb)) (drawsB hd N a (Nat.ne_of_lt la) its.toArray k1) (drawsB hd (N + 1) b (Nat.ne_of_lt (Nat.lt_succ_of_lt lb)) jts.toArray k2) q1 q2 q3 ⟨q4, p1⟩ ⟨q5, p2⟩ (by simpa using hi1) (by simpa using hi2) fun u v h' tk hu hv z' t' st1 st2 hT hsz hk => ?_
    obtain ⟨u', hu', ru⟩ := rv.get hx
    obtain ⟨v', hv', rw2⟩ := rw'.get hy
    have eu : u' = u := by
      rw [List.getElem?_toArray, hu'] at hu
      exact Option.some.inj hu
    have ev : v' = v := by
      rw [List.getElem?_toArray, hv'] at hv
      exact Option.some.inj hv
    subst eu ev
    refine ⟨_, rfl, wpAny_letOwnedTupleGo_zip (s := { s with heap := h', toks := tk }) z' fun h2 z2 sb => ?_⟩
    have neT : s.heap.objs.size ≠ N + 4 := Nat.ne_of_gt hN
    have hT2 : h2.get? s.heap.objs.size = some { cls := .type "tuple", data := .seq #[u', v'] } := (sb.2 _ neT).trans hT
    have fresh : ObjOk X.prog X.w (upd H s.heap.objs.size (.tup [x, y])) h2 s.heap.objs.size (.tup [x, y]) :=
      ⟨by show 2 ≤ sizeLine; decide, [u', v'], .cons ru (.cons rw2 .nil), ⟨_, hT2, rfl, _, rfl⟩⟩
    have ne : ∀ {c d : Nat}, c ≠ d → (c : Addr) ≠ d := fun z => z
    have J : L2.Inv X pins σ (upd H s.heap.objs.size (.tup [x, y])) { s with heap := h2, toks := tk } :=
      I.turnedNew (ch := [N + 4, N + 2, N + 3, N, N + 1]) (fun c o hb q => by
        have g : c ≠ N + 4 ∧ c ≠ N + 2 ∧ c ≠ N + 3 ∧ c ≠ N ∧ c ≠ N + 1 := by simpa [not_or] using hb
        exact (sb.2 c g.1).trans (hk c o g.1 g.2.2.1 g.2.2.2.1 g.2.2.2.2 q)) hf (Nat.le_refl _) fresh
    refine ⟨.ref s.heap.objs.size, _, J, rfl, ⟨_, x, y, rfl, I.hok.fresh (Nat.le_refl _), rfl, fun l hl => by rw [seqB_inj I hl sx]; exact hx, fun l hl => by rw [seqB_inj I hl sy]; exact hy⟩, ⟨z2, ?_, ⟨u', v', ?_⟩, ?_, ?_⟩, fun c hcm => ?_⟩
    · have m : N + 2 ≠ N + 4 := by omega
      exact (sb.2 _ m).trans (hk _ _ m (show (N + 2 : Nat) ≠ N + 3 by omega) (show (N + 2 : Nat) ≠ N by omega) (show (N + 2 : Nat) ≠ N + 1 by omega) q2)
    · exact (sb.2 _ (show (N + 3 : Nat) ≠ N + 4 by omega)).trans t'
    · exact st1.1.at fun o q => (sb.2 _ (show (N : Nat) ≠ N + 4 by omega)).trans q
    · exact st2.1.at fun o q => (sb.2 _ (show (N + 1 : Nat) ≠ N + 4 by omega)).trans q
    · have hlt : c < s.heap.objs.size := by
        have hc' : c = N + 4 ∨ c = N + 2 ∨ c = N + 3 ∨ c = N ∨ c = N + 1 := by simpa using hcm
        have h4 : (N + 4 : Nat) < s.heap.objs.size := hN
        rcases hc' with rfl | rfl | rfl | rfl | rfl
        · exact h4
        · exact Nat.lt_trans (show (N + 2 : Nat) < N + 4 by omega) h4
        · exact Nat.lt_trans (show (N + 3 : Nat) < N + 4 by omega) h4
        · exact Nat.lt_trans (Nat.lt_add_of_pos_right (by omega)) h4
        · exact Nat.lt_trans (show (N + 1 : Nat) < N + 4 by omega) h4
      rw [upd_ne (Nat.ne_of_lt hlt)]
      exact (hf c hcm).1
  done := by
    intro X eP ew eK hc i pins s σ H E I hf st hg
    subst eP ew eK
    obtain ⟨q1, q2, ⟨x0, y0, q3⟩, q4, q5⟩ := st
    obtain ⟨xs, ys, sx, sy, hi⟩ := hg
    obtain ⟨its, rv, p1, l1⟩ := seqB I sx
    obtain ⟨jts, rw', p2, l2⟩ := seqB I sy
    have hd : X.A.in1.handled = none := I.ok.hd hc
    have e1 := rv.length
    have e2 := rw'.length
    refine wpAny_pyNext_zipD2_end (fp1 := [N, a]) (fp2 := [N + 1, b]) (zip_sep2 (fp1 := [a]) (fp2 := [b]) (by simpa using la) (by simpa using lb)) (drawsB hd N a (Nat.ne_of_lt la) its.toArray k1) (drawsB hd (N + 1) b (Nat.ne_of_lt (Nat.lt_succ_of_lt lb)) jts.toArray k2) q1 q2 q3 ⟨q4, p1⟩ ⟨q5, p2⟩ (by simp; omega) (by simp; omega) (by simp; omega) fun h' tk hk => ⟨rfl, ?_⟩
    exact I.turnedL (ch := [N + 4, N + 2, N + 3, N, N + 1]) (fun c o hb q => by
      have g : c ≠ N + 4 ∧ c ≠ N + 2 ∧ c ≠ N + 3 ∧ c ≠ N ∧ c ≠ N + 1 := by simpa [not_or] using hb
      exact hk c o g.1 g.2.2.1 g.2.2.2.1 g.2.2.2.2 q) hf
  self := fun A i s Q E st h => wpAny_pyIter_zip st.1 h
def iZz (K : PySem.W.Frag) (ta : TA) : TI := fun σ H R => ta σ H fun vs H1 => ∃ k1 k2 a b xs ys, vs = [.ref a, .ref b] ∧ SqB K k1 H1 a xs ∧ SqB K k2 H1 b ys ∧ R (Itzz K k1 k2 a b) H1
theorem pi_zz {X : Cx} {e e2 : Expr} {ta : TA} {p pos tpos : Pos} {elts : List Expr} {kk : Nat} (hg : Gl X "zip") (hm : X.mg "zip" = none) (ha : PA X [e, e2] ta)
    (hs : starEach [e, e2] X.env = (false, eval e X.env) :: starEach [e2] X.env := by rfl) (hpl : (backTo pos (starEach [e2] X.env)).any (·.1) = false := by rfl) : PI X (.Tuple elts kk tpos) (.Call (.Name "zip" p) [e, e2] [] pos) (iZz X.K ta) := by
  refine ⟨fun pins s σ H R I h => ?_⟩
  refine PyProof.Rows.Call_ (ld_blt I hg hm PyProof.Rows.boot_zip (PyProof.Rows.callWith_type1 (thn (ha.run pos pins s σ H _ I h) fun us s1 ⟨vs, H1, I1, r1, k1, k2, a, b, xs, ys, ex, sx, sy, q⟩ => ?_) hs hpl))
  subst ex
  obtain ⟨u, v, rfl, ru, rv⟩ := vals2 r1
  cases ru
  cases rv
  obtain ⟨its, _, p1, l1⟩ := seqB I1 sx
  obtain ⟨jts, _, p2, l2⟩ := seqB I1 sy
  refine zip_begins2 (beginsB a its.toArray k1) (beginsB b jts.toArray k2) p1 p2 fun h' z1 z2 z3 z4 z5 _ hk => wpAny_pyIter_zip z1 ?_
  have I2 : L2.Inv X pins σ H1 { s1 with heap := h' } := I1.kept (t' := s1.toks) hk
  refine ⟨_, _, _, _, H1, rfl, I2, turn_zz l1 l2, ⟨z1, z2, ⟨_, _, z3⟩, begO_it z4, begO_it z5⟩, fun c hcm => ?_, q⟩
  have hle : s1.heap.objs.size ≤ c := by
    have hc' : c = s1.heap.objs.size + 4 ∨ c = s1.heap.objs.size + 2 ∨ c = s1.heap.objs.size + 3 ∨ c = s1.heap.objs.size ∨ c = s1.heap.objs.size + 1 := by simpa using hcm
    rcases hc' with rfl | rfl | rfl | rfl | rfl <;> first | exact Nat.le_add_right _ _ | exact Nat.le_refl _
  exact I1.fpOk hle (I1.hok.fresh hle)
/-! ### enumerate of one of them -/
def Itee (K : PySem.W.Frag) (k : Bool) (a : Addr) : It :=
  ⟨fun i H => ∃ (xs : List V) (x : V), SqB K k H a xs ∧ xs[i]? = some x, fun i H v H' => ∃ T x, v = .ref T ∧ H T = none ∧ H' = upd H T (.tup [.int (i : Nat), x]) ∧ ∀ xs, SqB K k H a xs → xs[i]? = some x, fun i H => ∃ xs : List V, SqB K k H a xs ∧ i = xs.length⟩
theorem turn_ee {P : Program} {w : World} {K : PySem.W.Frag} {elts : List Expr} {kk : Nat} {tpos : Pos} {a : Addr} {k : Bool} {N : Nat} (la : a < N) :
    Turn P w K (.Tuple elts kk tpos) (Itee K k a) [N + 1, N] (N + 1) (fun i h => (∃ old, IsEnum h (N + 1) N ((i : Nat) : Int) old) ∧ ItB k h N a i) where
  mem := List.mem_cons_self
  obj := fun i h st c hc => by
    obtain ⟨⟨old, q1⟩, q2⟩ := st
    have hc' : c = N + 1 ∨ c = N := by simpa using hc
    rcases hc' with rfl | rfl
    · exact ⟨_, q1, fun v q => nomatch q⟩
    · exact q2.obj
  keep := fun i h h' st q => by
    obtain ⟨⟨old, q1⟩, q2⟩ := st
    exact ⟨⟨old, q _ (by simp) _ q1⟩, q2.at fun o e => q _ (by simp) o e⟩
  item := by
    intro X eP ew eK hc i pins s σ H E I hf st hg
    subst eP ew eK
    obtain ⟨⟨old, q1⟩, q2⟩ := st
    obtain ⟨xs, x, sx, hx⟩ := hg
    obtain ⟨its, rv, p1, l1⟩ := seqB I sx
    have hd : X.A.in1.handled = none := I.ok.hd hc
    have e1 := rv.length
    have hi1 : i < its.length := by rw [← e1]; exact (List.getElem?_eq_some_iff.mp hx).1
    have hN : N + 1 < s.heap.objs.size := Heap.lt_size q1
    have n1 : (N + 1 : Nat) ≠ N := by omega
    refine wpAny_pyNext_enum_itemC (drawsB hd N a (Nat.ne_of_lt la) its.toArray k) q1 ⟨q2, p1⟩ (by simpa using hi1) n1 (notIn_new (N := N) (j := 1) (i := 0) (fp := [a]) (by simpa using la) (by omega)) fun u h' tk hu ho st1 hT hsz hk => ?_
    obtain ⟨u', hu', ru⟩ := rv.get hx
    have eu : u' = u := by
      rw [List.getElem?_toArray, hu'] at hu
      exact Option.some.inj hu
    subst eu
    refine ⟨_, rfl, wpAny_letOwnedTupleGo_enum (s := { s with heap := h', toks := tk + 1 }) ho fun h2 he2 sb => ?_⟩
    have neT : s.heap.objs.size ≠ N + 1 := Nat.ne_of_gt hN
    have hT2 : h2.get? s.heap.objs.size = some { cls := .type "tuple", data := .seq #[.int i tk, u'] } := (sb.2 _ neT).trans hT
    have fresh : ObjOk X.prog X.w (upd H s.heap.objs.size (.tup [.int (i : Nat), x])) h2 s.heap.objs.size (.tup [.int (i : Nat), x]) :=
      ⟨by show 2 ≤ sizeLine; decide, [.int i tk, u'], .cons ⟨_, rfl⟩ (.cons ru .nil), ⟨_, hT2, rfl, _, rfl⟩⟩
    have J : L2.Inv X pins σ (upd H s.heap.objs.size (.tup [.int (i : Nat), x])) { s with heap := h2, toks := tk + 1 } :=
      I.turnedNew (ch := [N + 1, N]) (fun c o hb q => by
        have g : c ≠ N + 1 ∧ c ≠ N := by simpa [not_or] using hb
        exact (sb.2 c g.1).trans (hk c o g.1 g.2 q)) hf (Nat.le_refl _) fresh
    refine ⟨.ref s.heap.objs.size, _, J, rfl, ⟨_, x, rfl, I.hok.fresh (Nat.le_refl _), rfl, fun l hl => by rw [seqB_inj I hl sx]; exact hx⟩, ⟨⟨u', ?_⟩, st1.1.at fun o q => (sb.2 _ n1.symm).trans q⟩, fun c hcm => ?_⟩
    · have e2 : ((i + 1 : Nat) : Int) = (i : Int) + 1 := by omega
      rw [e2]; exact he2
    · have hlt : c < s.heap.objs.size := by
        have hc' : c = N + 1 ∨ c = N := by simpa using hcm
        rcases hc' with rfl | rfl
        · exact hN
        · exact Nat.lt_trans (Nat.lt_succ_self _) hN
      rw [upd_ne (Nat.ne_of_lt hlt)]
      exact (hf c hcm).1
  done := by
    intro X eP ew eK hc i pins s σ H E I hf st hg
    subst eP ew eK
    obtain ⟨⟨old, q1⟩, q2⟩ := st
    obtain ⟨xs, sx, hi⟩ := hg
    obtain ⟨its, rv, p1, l1⟩ := seqB I sx
    have hd : X.A.in1.handled = none := I.ok.hd hc
    have e1 := rv.length
    have e2 : i = its.toArray.size := by simp; omega
    subst e2
    exact wpAny_pyNext_enum_endD (drawsB hd N a (Nat.ne_of_lt la) its.toArray k) q1 ⟨q2, p1⟩ fun h' eb => ⟨rfl, I.turnedL (t' := s.toks) (ch := [N + 1, N]) (fun c o hb q => eb c o (by have g : c ≠ N + 1 ∧ c ≠ N := (by simpa [not_or] using hb); exact g.2) q) hf⟩
  self := fun A i s Q E st h => let ⟨⟨_, he⟩, _⟩ := st; wpAny_pyIter_enum he h
theorem enumT_new (l : Addr) (items : Array Value) (n : Nat) (dct : Option Addr) (sl : Array (Option Value)) :
    Meets (Builtin.«enumerate.__new__» ⟨[.type "enumerate", .ref l], []⟩) (fun _ R s => s.heap.get? l = some { cls := .type "tuple", dict := dct, data := .seq items n, slots := sl } ∧
      R (.ok (.ret (.ref (s.heap.push (begO false l)).objs.size)))
        { s with heap := (s.heap.push (begO false l)).push { cls := .type "enumerate", data := .fields #[.none, .bool false, .ref s.heap.objs.size, rawInt 0, .none, .none] } }) :=
  .of_wp fun prog w A R s z => by
    obtain ⟨hp, g, d, tk, os⟩ := s; obtain ⟨y, z⟩ := z
    have hsub := sub_enumerate
    have q : Heap.IsTuple (Shared.heap ⟨hp, g, d, tk, os⟩) l items := ⟨_, y, rfl, n, rfl⟩
    wp_walk using AutoSeq1.wpAny_loadPart' y
    refine wpAny_stack_any fun st => wpAny_pure ?_
    split
    · rename_i c _ _ _ _ _
      cases (c == Value.type "enumerate") <;> (wp_walk using AutoSeq1.wpAny_loadPart' y, wpAny_pyIter_tuple q; exact ⟨_, rfl, z⟩)
    · wp_walk using AutoSeq1.wpAny_loadPart' y, wpAny_pyIter_tuple q
      exact ⟨_, rfl, z⟩
theorem call_enumT {prog : Program} {w : World} {A : Around} {E : Value → Shared → Prop} {s : Shared} {l : Addr} {items : Array Value} {Q : Value → Shared → Prop} (ht : s.heap.IsTuple l items)
    (fin : ∀ h', IsEnum h' (s.heap.objs.size + 1) s.heap.objs.size 0 .none → ItB false h' s.heap.objs.size l 0 → (∀ b o, s.heap.get? b = some o → h'.get? b = some o) → Q (.ref (s.heap.objs.size + 1)) { s with heap := h' }) :
    wpAny (model prog w) A (call (.type "enumerate") [.ref l]) Q E s := by
  obtain ⟨⟨c, dct, dt, sl⟩, g, hc, n, hd⟩ := ht
  simp only at hc hd
  subst hc hd
  refine callType_new F.called_enumerate (by decide) (F.typeCall_enumerate_1 _) (F.newCall_enumerate_1 _) (fun obj => F.args_object_init_2 obj _) F.entry_enumerate_new (enumT_new l items n dct sl) ⟨g, ?_⟩
  have z : (s.heap.push (begO false l)).objs.size = s.heap.objs.size + 1 := Heap.size_push ..
  show _ ∧ _
  rw [z]
  have he : IsEnum ((s.heap.push (begO false l)).push { cls := .type "enumerate", data := .fields #[.none, .bool false, .ref s.heap.objs.size, rawInt 0, .none, .none] }) (s.heap.objs.size + 1) s.heap.objs.size 0 .none := by
    have q := Heap.get?_push_size (s.heap.push (begO false l)) (o := { cls := .type "enumerate", data := .fields #[.none, .bool false, .ref s.heap.objs.size, rawInt 0, .none, .none] }) rfl
    rw [z] at q; exact q
  exact ⟨⟨_, he, rfl⟩, fin _ he (begO_it (k := false) (Heap.get?_push_of_some _ (Heap.get?_push_size _ rfl))) fun b o x => Heap.get?_push_of_some _ (Heap.get?_push_of_some _ x)⟩
def iEe (K : PySem.W.Frag) (ta : TA) : TI := fun σ H R => ta σ H fun vs H1 => ∃ k a xs, vs = [.ref a] ∧ SqB K k H1 a xs ∧ R (Itee K k a) H1
theorem pi_ee {X : Cx} {e : Expr} {ta : TA} {p pos tpos : Pos} {elts : List Expr} {kk : Nat} (hg : Gl X "enumerate") (hm : X.mg "enumerate" = none) (ha : PA X [e] ta) (hs : starEach [e] X.env = [(false, eval e X.env)] := by rfl) :
    PI X (.Tuple elts kk tpos) (.Call (.Name "enumerate" p) [e] [] pos) (iEe X.K ta) := by
  refine ⟨fun pins s σ H R I h => ?_⟩
  refine PyProof.Rows.Call_ (ld_blt I hg hm PyProof.Rows.boot_enumerate (PyProof.Rows.callWith_type1 (thn (ha.run pos pins s σ H _ I h) fun us s1 ⟨vs, H1, I1, r1, k, a, xs, ex, sx, q⟩ => ?_) hs rfl))
  subst ex
  obtain ⟨u, rfl, ru⟩ := vals1 r1
  cases ru
  obtain ⟨its, _, p1, l1⟩ := seqB I1 sx
  have goal : ∀ h', IsEnum h' (s1.heap.objs.size + 1) s1.heap.objs.size 0 .none → ItB k h' s1.heap.objs.size a 0 → (∀ b o, s1.heap.get? b = some o → h'.get? b = some o) → wpAny (model X.prog X.w) X.A (pyIter (.ref (s1.heap.objs.size + 1))) (PIE X pins σ (.Tuple elts kk tpos) R) X.xe { s1 with heap := h' } := by
    intro h' z1 z2 hk
    refine wpAny_pyIter_enum z1 ?_
    have I2 : L2.Inv X pins σ H1 { s1 with heap := h' } := I1.kept (t' := s1.toks) hk
    refine ⟨_, _, _, _, H1, rfl, I2, turn_ee l1, ⟨⟨_, z1⟩, z2⟩, fun c hcm => ?_, q⟩
    have hle : s1.heap.objs.size ≤ c := by
      have hc' : c = s1.heap.objs.size + 1 ∨ c = s1.heap.objs.size := by simpa using hcm
      rcases hc' with rfl | rfl <;> first | exact Nat.le_add_right _ _ | exact Nat.le_refl _
    exact I1.fpOk hle (I1.hok.fresh hle)
  cases k with
  | true => exact call_enumerate_list p1 fun h' z1 z2 _ hk => goal h' z1 z2 hk
  | false => exact call_enumT p1 fun h' z1 z2 hk => goal h' z1 z2 hk
/-- for x in one of them -/
def iSs (K : PySem.W.Frag) (tl : TE) : TI := fun σ H R => tl σ H fun x H1 => ∃ a, x = .ref a ∧ (((∃ xs, SqL K H1 a xs) ∧ R (Itl K a) H1) ∨ ((∃ xs, SqT K H1 a xs) ∧ R (Itt K a) H1))
theorem pi_ss {X : Cx} {tg l : Expr} {tl : TE} (hl : PE X l tl) : PI X tg l (iSs X.K tl) := by
  refine ⟨fun pins s σ H R I h => ?_⟩
  have h1 : PE X l (fun σ H Q => tl σ H Q) := hl
  refine thn (hl.run pins s σ H _ I h) fun v s1 ⟨x, H1, I1, r1, a, e, q⟩ => ?_
  subst e
  cases r1
  rcases q with ⟨⟨xs, hq⟩, q⟩ | ⟨⟨xs, hq⟩, q⟩
  · obtain ⟨its, rv, p, hz⟩ := I1.list hq
    refine wpAny_pyIter_list p.isList ⟨_, [s1.heap.objs.size], _, _, H1, rfl, I1.kept (t' := s1.toks) fun b o e => Heap.get?_push_of_some _ e, turn_list a _, ⟨_, Heap.get?_push_size _ rfl, rfl, rfl⟩, fun b hb => ?_, q⟩
    rw [show b = s1.heap.objs.size by simpa using hb]
    exact I1.fpOk (Nat.le_refl _) (I1.hok.fresh (Nat.le_refl _))
  · obtain ⟨its, rv, p, hz⟩ := I1.tuple hq
    refine wpAny_pyIter_tuple (show s1.heap.IsTuple a its.toArray from p) ⟨_, [s1.heap.objs.size], _, _, H1, rfl, I1.kept (t' := s1.toks) fun b o e => Heap.get?_push_of_some _ e, turn_tuple a _, ⟨_, Heap.get?_push_size _ rfl, rfl, rfl⟩, fun b hb => ?_, q⟩
    rw [show b = s1.heap.objs.size by simpa using hb]
    exact I1.fpOk (Nat.le_refl _) (I1.hok.fresh (Nat.le_refl _))
end DL
namespace DL
open PySem PySem.Spec L2
/-! ### what is walked: lists and tuples alike -/
def D.sq : D → Option (List D)
  | .lst xs => some xs
  | .tup xs => some xs
  | _ => none
def D.isL : D → Bool
  | .lst _ => true
  | _ => false
def zipD (xs ys : List D) : List D := List.zipWith (fun x y => .tup [x, y]) xs ys
def enumD (xs : List D) : List D := xs.mapIdx fun i x => .tup [.int (i : Nat), x]
section
variable {W : Amb} {X : Cx} {F H F' H' : Hp} {e e2 iter : Expr} {es : List Expr} {pa pb : RE} {q : RA} {pos p : Pos} {S : Bs}
theorem Is.sq {K : PySem.W.Frag} {v : V} {d : D} {xs : List D} (h : Is F v d) (e : d.sq = some xs) : ∃ a ys, v = .ref a ∧ (∀ F' H', Same F F' → Okay W F' H' → SqB K d.isL H' a ys) ∧ IsL F ys xs := by
  cases d with
  | lst zs =>
    cases e
    obtain ⟨a, ys, rfl, h1, h2⟩ := h.lst_inv
    exact ⟨a, ys, rfl, fun F' H' ff ok => SqL.of (ok.fh _ _ (ff _ _ h1)), h2⟩
  | tup zs =>
    cases e
    obtain ⟨a, ys, rfl, h1, h2⟩ := h.tup_inv
    exact ⟨a, ys, rfl, fun F' H' ff ok => SqT.of (ok.fh _ _ (ff _ _ h1)), h2⟩
  | _ => cases e
def iS (pp : RE) : RI := fun ρ K => pp ρ fun s => ∃ d xs, s.frz = some d ∧ d.sq = some xs ∧ K xs
theorem id_ss {tg : Expr} (h : PRd W X iter pa) : PId W X tg iter (iS pa) := ⟨fun F0 B => (pi_ss (h.run F0 B)).imp fun σ H R ⟨F, ρ, K, E, q, k⟩ => ⟨F, ρ, _, E, q, fun s v as F1 H1 ⟨d, xs, e1, e2, z⟩ st sv n => by
  obtain ⟨F2, s2, i2, _⟩ := st.frz E.ok sv n e1
  cases d with
  | lst zs =>
    cases e2
    obtain ⟨a, ys, rfl, h1, h2⟩ := i2.lst_inv
    exact ⟨a, rfl, .inl ⟨⟨ys, SqL.of (s2.ok.fh _ _ h1)⟩, k _ _ F2 H1 z s2 (wd_list h1 h2)⟩⟩
  | tup zs =>
    cases e2
    obtain ⟨a, ys, rfl, h1, h2⟩ := i2.tup_inv
    exact ⟨a, rfl, .inr ⟨⟨ys, SqT.of (s2.ok.fh _ _ h1)⟩, k _ _ F2 H1 z s2 (wd_tup h1 h2)⟩⟩
  | _ => cases e2⟩⟩
theorem walk_zz {K : PySem.W.Frag} {k1 k2 : Bool} {a b : Addr} {us ws : List V} : Walk (Itzz K k1 k2 a b) (min us.length ws.length) (fun H => SqB K k1 H a us ∧ SqB K k2 H b ws)
    (fun i H v H' => ∃ T x y, v = .ref T ∧ H T = none ∧ H' = upd H T (.tup [x, y]) ∧ us[i]? = some x ∧ ws[i]? = some y) where
  goes := fun i H hi h => ⟨us, ws, us[i]'(by omega), ws[i]'(by omega), h.1, h.2, by simp, by simp⟩
  stops := fun H h => ⟨us, ws, h.1, h.2, rfl⟩
  yields := fun i H v H' hi h ⟨T, x, y, e1, e2, e3, e4, e5⟩ => ⟨T, x, y, e1, e2, e3, e4 us h.1, e5 ws h.2⟩
theorem zipD_len (xs ys : List D) : (zipD xs ys).length = min xs.length ys.length := by simp [zipD]
theorem zipD_at {xs ys : List D} {i : Nat} {x y : D} (h1 : xs[i]? = some x) (h2 : ys[i]? = some y) : (zipD xs ys)[i]? = some (.tup [x, y]) := by
  simp [zipD, List.getElem?_zipWith, h1, h2]
theorem wd_zz {K : PySem.W.Frag} {k1 k2 : Bool} {a b : Addr} {us ws : List V} {xs ys : List D} (h1 : ∀ F' H', Same F F' → Okay W F' H' → SqB K k1 H' a us) (h2 : ∀ F' H', Same F F' → Okay W F' H' → SqB K k2 H' b ws) (l1 : IsL F us xs) (l2 : IsL F ws ys) : WalksD W (Itzz K k1 k2 a b) F (zipD xs ys) := by
  have wk := walk_zz (K := K) (k1 := k1) (k2 := k2) (a := a) (b := b) (us := us) (ws := ws)
  rw [l1.length, l2.length, ← zipD_len] at wk
  refine ⟨⟨_, _, wk, fun F' H' ff ok => ⟨h1 F' H' ff ok, h2 F' H' ff ok⟩, fun i H1 v H2 F1 hi ff ok ⟨T, x, y, e1, e2, e3, e4, e5⟩ => ?_⟩⟩
  obtain ⟨dx, g1, g2⟩ := l1.getV e4
  obtain ⟨dy, g3, g4⟩ := l2.getV e5
  have st := Step.new (o := .tup [x, y]) ok e2
  refine ⟨upd F1 T (.tup [x, y]), _, zipD_at g1 g3, ?_, by rw [e3]; exact st⟩
  rw [e1]
  exact .tup' upd_same ⟨(g2.mono ff).mono st.ff, (g4.mono ff).mono st.ff, trivial⟩
def iZ (q : RA) : RI := fun ρ K => q ρ fun ds => ∃ d1 d2 xs ys, ds = [d1, d2] ∧ d1.sq = some xs ∧ d2.sq = some ys ∧ K (zipD xs ys)
theorem id_zz {elts : List Expr} {kk : Nat} {tpos : Pos} (hg : Gl X "zip") (hm : X.mg "zip" = none) (ha : PAd W X [e, e2] q)
    (hs : starEach [e, e2] X.env = (false, eval e X.env) :: starEach [e2] X.env := by rfl) (hpl : (backTo pos (starEach [e2] X.env)).any (·.1) = false := by rfl) : PId W X (.Tuple elts kk tpos) (.Call (.Name "zip" p) [e, e2] [] pos) (iZ q) :=
  ⟨fun F0 B => (pi_zz hg hm (ha.run F0 B) hs hpl).imp fun σ H R ⟨F, ρ, K, E, z, k⟩ => ⟨F, ρ, _, E, z, fun ds vs F1 H1 ⟨d1, d2, xs, ys, e1, e2, e3, z2⟩ st il => by
    subst e1
    match vs, il with
    | [v, w], il =>
      obtain ⟨a, us, rfl, g1, g2⟩ := Is.sq (W := W) (K := X.K) il.1 e2
      obtain ⟨b, ws, rfl, g3, g4⟩ := Is.sq (W := W) (K := X.K) il.2.1 e3
      exact ⟨d1.isL, d2.isL, a, b, us, ws, rfl, g1 F1 H1 (Same.refl _) st.ok, g3 F1 H1 (Same.refl _) st.ok, k _ _ F1 H1 z2 st (wd_zz g1 g3 g2 g4)⟩⟩⟩
theorem walk_ee {K : PySem.W.Frag} {k : Bool} {a : Addr} {us : List V} : Walk (Itee K k a) us.length (fun H => SqB K k H a us) (fun i H v H' => ∃ T x, v = .ref T ∧ H T = none ∧ H' = upd H T (.tup [.int (i : Nat), x]) ∧ us[i]? = some x) where
  goes := fun i H hi h => ⟨us, us[i], h, by simp⟩
  stops := fun H h => ⟨us, h, rfl⟩
  yields := fun i H v H' hi h ⟨T, x, e1, e2, e3, e4⟩ => ⟨T, x, e1, e2, e3, e4 us h⟩
theorem enumD_len (xs : List D) : (enumD xs).length = xs.length := by simp [enumD]
theorem enumD_at {xs : List D} {i : Nat} {x : D} (h1 : xs[i]? = some x) : (enumD xs)[i]? = some (.tup [.int (i : Nat), x]) := by
  simp [enumD, List.getElem?_mapIdx, h1]
theorem wd_ee {K : PySem.W.Frag} {k : Bool} {a : Addr} {us : List V} {xs : List D} (h1 : ∀ F' H', Same F F' → Okay W F' H' → SqB K k H' a us) (l1 : IsL F us xs) : WalksD W (Itee K k a) F (enumD xs) := by
  have wk := walk_ee (K := K) (k := k) (a := a) (us := us)
  rw [l1.length, ← enumD_len] at wk
  refine ⟨⟨_, _, wk, fun F' H' ff ok => h1 F' H' ff ok, fun i H1 v H2 F1 hi ff ok ⟨T, x, e1, e2, e3, e4⟩ => ?_⟩⟩
  obtain ⟨dx, g1, g2⟩ := l1.getV e4
  have st := Step.new (o := .tup [.int (i : Nat), x]) ok e2
  refine ⟨upd F1 T (.tup [.int (i : Nat), x]), _, enumD_at g1, ?_, by rw [e3]; exact st⟩
  rw [e1]
  exact .tup' upd_same ⟨.int _, (g2.mono ff).mono st.ff, trivial⟩
def iE (q : RA) : RI := fun ρ K => q ρ fun ds => ∃ d1 xs, ds = [d1] ∧ d1.sq = some xs ∧ K (enumD xs)
theorem id_ee {elts : List Expr} {kk : Nat} {tpos : Pos} (hg : Gl X "enumerate") (hm : X.mg "enumerate" = none) (ha : PAd W X [e] q)
    (hs : starEach [e] X.env = [(false, eval e X.env)] := by rfl) : PId W X (.Tuple elts kk tpos) (.Call (.Name "enumerate" p) [e] [] pos) (iE q) :=
  ⟨fun F0 B => (pi_ee hg hm (ha.run F0 B) hs).imp fun σ H R ⟨F, ρ, K, E, z, k⟩ => ⟨F, ρ, _, E, z, fun ds vs F1 H1 ⟨d1, xs, e1, e2, z2⟩ st il => by
    subst e1
    match vs, il with
    | [v], il =>
      obtain ⟨a, us, rfl, g1, g2⟩ := Is.sq (W := W) (K := X.K) il.1 e2
      exact ⟨d1.isL, a, us, rfl, g1 F1 H1 (Same.refl _) st.ok, k _ _ F1 H1 z2 st (wd_ee g1 g2)⟩⟩⟩
/-! ### slices and + of lists and of tuples by one word -/
def gSlA : Sd → Option Int → Option Int → (Sd → Prop) → Prop := fun sx lo hi K => gSlL sx lo hi K ∨ gSlT sx lo hi K
theorem pr_slA {lo hi : Option Expr} {pl ph : RO} {p2 : Pos} (he : PEd W X e pa) (hl : POd W X lo pl) (hu : POd W X hi ph) : PRd W X (.Subscript e (.Slice lo hi none p2) pos) (dSl gSlA pa pl ph) :=
  pr_slice (sl_list.or sl_tupA) (fun F H x ax sx lo hi K Q ok vx g k => by
    rcases g with g | g
    · exact .inl (sd_slL F H x ax sx lo hi K Q ok vx g k)
    · exact .inr (sd_slT F H x ax sx lo hi K Q ok vx g k)) he hl hu
def gCatA : Sd → Sd → (Sd → Prop) → Prop := fun sx sy K => gCatL sx sy K ∨ gCatT sx sy K
theorem pr_catA {a b : Expr} (ha : PEd W X a pa) (hb : PEd W X b pb) : PRd W X (.BinOp a .Add b pos) (d2 gCatA pa pb) :=
  pr_op (op_cat.or op_catA) (fun F H x y ax ay sx sy K Q ok vx vy g k => by
    rcases g with g | g
    · exact .inl (od_catL F H x y ax ay sx sy K Q ok vx vy g k)
    · exact .inr (od_catT F H x y ax ay sx sy K Q ok vx vy g k)) ha hb
/-- t[::-1] of a tuple -/
def dRevT (pa : RE) : RE := fun ρ K => pa ρ fun s => ∃ xs, s.tup = some xs ∧ K (.d (.tup xs.reverse))
/-! ### starred items in a display -/
def dStar (p : RE) (q : RA) : RA := fun ρ K => p ρ fun s => ∃ xs, s.seq = some xs ∧ q ρ fun ds => K (xs ++ ds)
theorem pad_star {ps : Pos} (ha : PEd W X e pa) (hr : PAd W X es q) (hs : starEach (.Starred e ps :: es) X.env = (true, eval e X.env) :: starEach es X.env := by rfl) : PAd W X (.Starred e ps :: es) (dStar pa q) :=
  ⟨fun F0 B => (StX.pa_star (ha.run F0 B) (hr.run F0 B) hs).imp fun σ H Q ⟨F, ρ, K, E, z, k⟩ => ⟨F, ρ, _, E, z, fun s v as F1 H1 ⟨xs, e1, z1⟩ st sv n => by
    obtain ⟨l, ys, rfl, h1, h2⟩ := sv.seq st.ok.fh e1
    refine ⟨l, ys, rfl, ?_, F1, ρ, _, E.step st, z1, fun ds vs F2 H2 kd st2 il => k (xs ++ ds) (ys ++ vs) F2 H2 kd (st.trans E.ok st2) ((h2.mono st2.ff).app il)⟩
    rcases h1 with h1 | h1
    · exact .inr (SqL.of h1)
    · exact .inl (SqT.of h1)⟩⟩
end
end DL
namespace DL
open PySem PySem.Spec L2
/-! ### an own object is written while new own objects come along -/
section
variable {S : Bs} {F H F' H' : Hp} {σ : L2.St} {ρ : List Sd}
theorem EnvO.repl {os : List (List Addr)} (E : EnvO S F H σ ρ os) {i : Nat} {as0 as' : List Addr} {v : V} {s' : Sd} {l : Addr} {o : HO} (e : os[i]? = some as0) (ev : σ[i]? = some (some v)) (hl : l ∈ as0) (nd' : as'.Nodup)
    (fr : ∀ a ∈ as', a ∈ as0 ∨ (F a = none ∧ S.B a = none ∧ ¬ S.W.A a ∧ a ∉ os.flatten)) (hv : SV F (upd H l o) v as' s') : EnvO S F (upd H l o) σ (ρ.set i s') (os.set i as') := by
  have mem : ∀ a ∈ as0, a ∈ os.flatten := fun a ha => List.mem_flatten.mpr ⟨as0, List.mem_of_getElem? e, ha⟩
  have fl := E.fr l (mem l hl)
  have hs : σ = σ.set i (some v) := by
    refine List.ext_getElem? fun j => ?_
    by_cases z : i = j
    · subst z
      rw [List.getElem?_set_self (List.getElem?_eq_some_iff.mp ev).1, ev]
    · rw [List.getElem?_set_ne z]
  refine ⟨E.ok.write fl.1 fl.2.2, E.f0, fun a u h n => ?_, E.nw, flat_set_nodup E.nd e nd' fun a ha hf => ?_, fun a ha => ?_, ?_⟩
  · rw [upd_ne fun z : a = l => by rw [z, fl.2.1] at h; cases h]
    exact E.kp a u h n
  · rcases fr a ha with z | z
    · exact z
    · exact absurd hf z.2.2.2
  · rcases flat_set_sub ha with z | z
    · rcases fr a z with y | y
      · exact E.fr a (mem a y)
      · exact ⟨y.1, y.2.1, y.2.2.1⟩
    · exact E.fr a z
  · have := E.sl.set (Same.refl F) E.nd e (H' := upd H l o) (fun a _ ha => upd_ne fun z : a = l => ha (z ▸ hl)) hv.so
    rw [← hs] at this
    exact this
end
/-! ### expressions that change a name's own object; what they give is frozen -/
abbrev RX := List Sd → (List Sd → D → Prop) → Prop
def liftX (S : Bs) (p : RX) : TE := fun σ H Q => ∃ F ρ K, Env S F H σ ρ ∧ p ρ K ∧ ∀ ρ' d v F' H', K ρ' d → Env S F' H' σ ρ' → Same F F' → Is F' v d → Q v H'
structure PXd (W : Amb) (X : Cx) (e : Expr) (p : RX) : Prop where
  run : ∀ F0 B, PE X e (liftX ⟨W, F0, B⟩ p)
section
variable {W : Amb} {X : Cx} {F H F' H' : Hp} {e f o iter value : Expr} {es : List Expr} {pa pb pk pv : RE} {q : RA} {px : RX} {pos pos' apos cpos p : Pos} {S : Bs} {i j k n : Nat} {x y : Str}
theorem PXd.imp {p p' : RX} (h : PXd W X e p) (k : ∀ ρ K, p' ρ K → p ρ K) : PXd W X e p' := ⟨fun F0 B => (h.run F0 B).imp fun σ H Q ⟨F, ρ, K, E, q, z⟩ => ⟨F, ρ, K, E, k ρ K q, z⟩⟩
def xOf (pa : RE) : RX := fun ρ K => pa ρ fun s => ∃ d, s.frz = some d ∧ K ρ d
theorem px_of (h : PRd W X e pa) : PXd W X e (xOf pa) := ⟨fun F0 B => (h.run F0 B).imp fun σ H Q ⟨F, ρ, K, E, q, k⟩ => ⟨F, ρ, _, E, q, fun s v as F1 H1 ⟨d, e1, z⟩ st sv n => by
  obtain ⟨F2, s2, i2, _⟩ := st.frz E.ok sv n e1
  exact k ρ d v F2 H1 z (E.step s2) s2.ff i2⟩⟩
/-- the list of a name -/
theorem env_ol {S : Bs} {σ : L2.St} {ρ : List Sd} (E : Env S F H σ ρ) {xs : List D} (e : ρ[i]? = some (.ol xs)) : ∃ l ys, σ[i]? = some (some (.ref l)) ∧ H l = some (.lst ys) ∧ IsL F ys xs := by
  obtain ⟨v, as, h1, ⟨l, ys, rfl, rfl, h3, h4⟩, _⟩ := E.get e (by intro z; cases z)
  exact ⟨l, ys, h1, h3, h4⟩
theorem env_setL {S : Bs} {σ : L2.St} {ρ : List Sd} (E : Env S F H σ ρ) {xs zs : List D} {l : Addr} {ws : List V} (e : ρ[i]? = some (.ol xs)) (ev : σ[i]? = some (some (.ref l))) (il : IsL F ws zs) : Env S F (upd H l (.lst ws)) σ (ρ.set i (.ol zs)) :=
  E.write e (by intro z; cases z) l _ fun v as h1 h2 => by
    rw [ev] at h1
    obtain ⟨l', ys', rfl, rfl, h3, h4⟩ := h2
    cases h1
    exact ⟨by simp, fun _ => ⟨l, ws, rfl, rfl, upd_same, il⟩⟩
/-- l.pop() -/
def xPop (i : Nat) : RX := fun ρ K => ∃ xs d, ρ[i]? = some (.ol (xs ++ [d])) ∧ K (ρ.set i (.ol xs)) d
theorem px_pop (h : PE X (.Name x p) (tVar i)) (hbase : attributeBase (.Name x p) "pop" X.env (eval (.Name x p) X.env) = eval (.Name x p) X.env := by rfl) (hline : (apos.endLine == cpos.line) = true := by rfl) :
    PXd W X (.Call (.Attribute (.Name x p) "pop" apos) [] [] cpos) (xPop i) := ⟨fun F0 B => (pe_bm0 PySem.F.plainAttrs_list PySem.F.slot_list_pop PySem.F.type_list_pop (mt_pop : MtR X "list.pop" rPop) h hbase hline).imp fun σ H Q ⟨F, ρ, K, E, ⟨xs, d, e1, z⟩, k⟩ => by
  obtain ⟨l, ys, h1, h2, h3⟩ := env_ol E e1
  have hl : ys.length = xs.length + 1 := by simpa using h3.length
  obtain ⟨y, g1, g2⟩ := h3.get (i := xs.length) (x := d) (by simp)
  refine ⟨_, h1, .inl ⟨rfl, ys, SqL.of h2⟩, l, ys, y, rfl, rfl, h2, by rw [hl]; exact g1, ?_⟩
  have il : IsL F ys.dropLast xs := by have := h3.dropLast; rwa [List.dropLast_concat] at this
  exact k _ d y F _ z (env_setL E e1 h1 il) (Same.refl F) g2⟩
/-- l.pop(e) -/
def xPopAt (i : Nat) (pa : RE) : RX := fun ρ K => ∃ xs, ρ[i]? = some (.ol xs) ∧ xs.length ≤ 100000 ∧ pa ρ fun s => ∃ (n : Nat) (d : D), s = .d (.int (n : Nat)) ∧ xs[n]? = some d ∧ K (ρ.set i (.ol (xs.eraseIdx n))) d
theorem px_popAt (h : PE X (.Name x p) (tVar i)) (ha : PEd W X e pa) (hbase : attributeBase (.Name x p) "pop" X.env (eval (.Name x p) X.env) = eval (.Name x p) X.env := by rfl)
    (hfew : ((backTo cpos (starEach [e] X.env)).all (fun x => !x.1) && (backToKw cpos (keywordEach [] X.env)).all (fun x => x.1.isSome)
      && decide ([e].length + ([] : List Keyword).length + (if ([] : List Keyword).isEmpty then 0 else 1) < 30)) = true := by rfl)
    (hline : (apos.endLine == cpos.line) = true := by rfl) (hs : starEach [e] X.env = (false, eval e X.env) :: starEach [] X.env := by rfl) :
    PXd W X (.Call (.Attribute (.Name x p) "pop" apos) [e] [] cpos) (xPopAt i pa) := ⟨fun F0 B => (pe_bm PySem.F.plainAttrs_list PySem.F.slot_list_pop PySem.F.type_list_pop (mt_popAt : MtR X "list.pop" rPopAt) h (pa_cons (ha.run F0 B) pa_nil hs) hbase hfew hline hs).imp fun σ H Q ⟨F, ρ, K, E, ⟨xs, e1, hz, z⟩, k⟩ => by
  obtain ⟨l, ys, h1, h2, h3⟩ := env_ol E e1
  refine ⟨_, h1, .inl ⟨rfl, ys, SqL.of h2⟩, F, ρ, _, E, z, fun s v as F1 H1 ⟨n, d, e2, e3, z2⟩ st sv _ => ?_⟩
  subst e2
  have E1 := E.step st
  obtain ⟨l', ys1, h1', h2', h3'⟩ := env_ol E1 e1
  rw [h1] at h1'
  cases h1'
  obtain ⟨y, g1, g2⟩ := h3'.get e3
  have hn : n < ys1.length := (List.getElem?_eq_some_iff.mp g1).1
  have hl := h3'.length
  refine ⟨l, ys1, (n : Nat), n, y, rfl, by rw [sv.2.int_inv], h2', by omega, by omega, ?_, g1, k _ d y F1 _ z2 (env_setL E1 e1 h1 (h3'.erase n)) st.ff g2⟩
  have q : (0 : Int) ≤ (n : Int) := by omega
  rw [seqIndex_of q (by omega)]
  simp⟩
/-- d[px], a dict frozen -/
def xDget (pa : RE) (px : RX) : RX := fun ρ K => pa ρ fun sx => ∃ kvs, sx = .d (.dct kvs) ∧ px ρ fun ρ' kd => ∃ k x, kd = .ints k ∧ dget kvs k = some x ∧ K ρ' x
theorem px_dget {m : Nat} (hr : Room m X.A) (ha : PEd W X f pa) (hb : PXd W X e px) (hs : NoSl e := by intro _ _; rfl) : PXd W X (.Subscript f e pos) (xDget pa px) := ⟨fun F0 B => (pe_dget (hu_of hr) (ha.run F0 B) (hb.run F0 B) hs).imp fun σ H Q ⟨F, ρ, K, E, q, k⟩ => ⟨F, ρ, _, E, q, fun sx v as F1 H1 ⟨kvs, e0, z⟩ st sv n => by
  subst e0
  refine ⟨F1, ρ, _, E.step st, z, fun ρ' kd w F2 H2 ⟨k', x, e2, e3, kk⟩ E2 ff i2 => ?_⟩
  subst e2
  have sv2 : SV F2 H2 v [] (.d (.dct kvs)) := ⟨rfl, sv.2.mono ff⟩
  have svk : SV F2 H2 w [] (.d (.ints k')) := ⟨rfl, i2⟩
  obtain ⟨a, rfl, h⟩ := dget_t sv2 svk E2.ok.fh rfl
  rcases h with ⟨_, h⟩ | ⟨u, x', g, h, ix⟩
  · rw [h] at e3; cases e3
  · rw [h] at e3; cases e3
    exact ⟨a, u, rfl, g, k ρ' x u F2 H2 kk E2 (st.ff.trans ff) ix⟩⟩⟩
/-- name = px -/
def sSetX (n : Nat) (px : RX) : RS := fun K ρ => px ρ fun ρ' d => K.nx (ρ'.set n (.d d))
theorem sd_setX (hN : X.N.Nodup) (hi : X.N[n]? = some x) (hx : Loc X.env.scope x) (he : PXd W X e px) (hs : swapsWith e (some (.Name x pos')) pos.line X.env = pure false := by rfl) (hf : X.fn x = true ∨ X.env.scope.names.lookup x = some .local := by first | exact .inl rfl | exact .inr rfl) :
    PSd W X (.Assign [.Name x pos'] e pos) (sSetX n px) := ⟨fun F0 B => (ps_set hN hi hx (he.run F0 B) hs hf).imp fun T σ H ⟨F, ρ, K, E, q, k⟩ => ⟨F, ρ, _, E, q, fun ρ' d v F' H' z E' ff iv => k.1 _ _ F' H' z (E'.putD iv)⟩⟩
/-- px as a statement of its own -/
def sDropX (px : RX) : RS := fun K ρ => px ρ fun ρ' _ => K.nx ρ'
theorem sd_exprX (he : PXd W X e px) (hs : swapsWith e none pos.line X.env = pure false := by rfl) : PSd W X (.Expr e pos) (sDropX px) := ⟨fun F0 B => (ps_expr (he.run F0 B) hs).imp fun T σ H ⟨F, ρ, K, E, q, k⟩ => ⟨F, ρ, _, E, q, fun ρ' d v F' H' z E' ff iv => k.1 ρ' σ F' H' z E'⟩⟩
/-- l.append(px) -/
def sApp (i : Nat) (px : RX) : RS := fun K ρ => (∃ xs, ρ[i]? = some (.ol xs)) ∧ px ρ fun ρ' d => ∃ xs, ρ'[i]? = some (.ol xs) ∧ xs.length < 100000 ∧ K.nx (ρ'.set i (.ol (xs ++ [d])))
theorem sd_app (h : PE X (.Name x p) (tVar i)) (ha : PXd W X e px) (hbase : attributeBase (.Name x p) "append" X.env (eval (.Name x p) X.env) = eval (.Name x p) X.env := by rfl)
    (hfew : ((backTo cpos (starEach [e] X.env)).all (fun x => !x.1) && (backToKw cpos (keywordEach [] X.env)).all (fun x => x.1.isSome)
      && decide ([e].length + ([] : List Keyword).length + (if ([] : List Keyword).isEmpty then 0 else 1) < 30)) = true := by rfl)
    (hline : (apos.endLine == cpos.line) = true := by rfl) (hs : starEach [e] X.env = (false, eval e X.env) :: starEach [] X.env := by rfl) (hsw : swapsWith (.Call (.Attribute (.Name x p) "append" apos) [e] [] cpos) none pos.line X.env = pure false := by rfl) :
    PSd W X (.Expr (.Call (.Attribute (.Name x p) "append" apos) [e] [] cpos) pos) (sApp i px) := ⟨fun F0 B => (ps_expr (pe_bm PySem.F.plainAttrs_list PySem.F.slot_list_append PySem.F.type_list_append (mt_append : MtR X "list.append" rAppend) h (pa_cons (ha.run F0 B) pa_nil hs) hbase hfew hline hs) hsw).imp fun T σ H ⟨F, ρ, K, E, ⟨⟨xs, e1⟩, z⟩, k⟩ => by
  obtain ⟨l, ys, h1, h2, h3⟩ := env_ol E e1
  refine ⟨_, h1, .inl ⟨rfl, ys, SqL.of h2⟩, F, ρ, _, E, z, fun ρ' d v F1 H1 ⟨xs1, e2, hz, z2⟩ E1 ff iv => ?_⟩
  obtain ⟨l', ys1, h1', h2', h3'⟩ := env_ol E1 e2
  rw [h1] at h1'
  cases h1'
  have hl := h3'.length
  have big : (100000 : Nat) ≤ sizeLine := by decide
  exact ⟨l, ys1, v, rfl, rfl, h2', by omega, k.1 _ σ F1 _ z2 (env_setL E1 e2 h1 (h3'.snoc iv))⟩⟩
/-- l[e] = v, l a list -/
def sSetAt (i : Nat) (pk pv : RE) : RS := fun K ρ => pv ρ fun sv => ∃ d xs, sv.frz = some d ∧ ρ[i]? = some (.ol xs) ∧ pk ρ fun sk => ∃ (n : Int) (m : Nat), sk = .d (.int n) ∧ ixN xs.length n = some m ∧ K.nx (ρ.set i (.ol (xs.set m d)))
theorem sd_setAt (h : PE X (.Name x p) (tVar i)) (hk : PEd W X e pk) (hv : PRd W X value pv) (hs : swapsWithSole [.Subscript (.Name x p) e pos'] value pos.line X.env = pure false := by rfl) (hw : swappedStores [.Subscript (.Name x p) e pos'] value X.env = pure none := by rfl)
    (h1 : (assignEach [.Subscript (.Name x p) e pos'] X.env).map (·.2) = [assign (.Subscript (.Name x p) e pos') X.env] := by rfl)
    (ha : ∀ v, assign (.Subscript (.Name x p) e pos') X.env v = (do
      let ov ← holding [v] (eval (.Name x p) X.env)
      let iv ← holding [v, ov] (eval e X.env)
      standAt pos'
      holding [v, ov, iv] (setItem ov iv v)
      release [v, ov, iv] []) := by intro _; rfl) : PSd W X (.Assign [.Subscript (.Name x p) e pos'] value pos) (sSetAt i pk pv) := ⟨fun F0 B => (ps_asg (hv.run F0 B) (PG.ex fun S : Hp × Hp => pg_sub h (hk.run S.1 S.2) set_list ha) hs hw h1).imp fun T σ H ⟨F, ρ, K, E, q, k⟩ =>
  ⟨F, ρ, _, E, q, fun s v as F1 H1 ⟨d, xs, e1, e2, z⟩ st sv n => by
    obtain ⟨F2, s2, i2, _⟩ := st.frz E.ok sv n e1
    have E2 := E.step s2
    obtain ⟨l, ys, g1, g2, g3⟩ := env_ol E2 e2
    refine ⟨(F0, B), _, g1, F2, ρ, _, E2, z, fun sk w as3 F3 H3 ⟨m, j, e3, e4, z2⟩ st3 sv3 n3 => ?_⟩
    subst e3
    have E3 := E2.step st3
    obtain ⟨l', ys1, h1', h2', h3'⟩ := env_ol E3 e2
    rw [g1] at h1'
    cases h1'
    exact ⟨l, ys1, m, j, rfl, sv3.2.int_inv, h2', by rw [h3'.length]; exact e4, k.1 _ σ F3 _ z2 (env_setL E3 e2 g1 (h3'.set (i2.mono st3.ff) j))⟩⟩⟩
end
end DL
namespace DL
open PySem PySem.Spec L2
/-! ### dicts of own lists -/
section
variable {F H F' H' : Hp}
theorem IsOO.val : ∀ {ps : List (List Key × V)} {qs : List (List Int × List D)} {ls : List Addr}, IsOO F H ps qs ls → ∀ k, (valV ps (kT k) = none ∧ dget qs k = none) ∨ ∃ l ys xs, valV ps (kT k) = some (.ref l) ∧ dget qs k = some xs ∧ l ∈ ls ∧ H l = some (.lst ys) ∧ IsL F ys xs
  | [], [], [], _, k => .inl ⟨rfl, rfl⟩
  | p :: ps, q :: qs, l :: ls, ⟨h1, h2, ⟨ys, h3, h4⟩, h5⟩, k => by
    by_cases hk : q.1 = k
    · exact .inr ⟨l, ys, q.2, by rw [valV_pos (by rw [h1, hk]), h2], by simp [dget, hk], by simp, h3, h4⟩
    · have n1 : ¬ p.1 = kT k := fun z => hk (kT_inj _ _ (by rw [← h1, z]))
      have e1 : dget (q :: qs) k = dget qs k := by simp [dget, List.find?_cons, hk]
      rw [valV_neg n1, e1]
      rcases IsOO.val h5 k with z | ⟨l', ys', xs', a, b, c, d⟩
      · exact .inl z
      · exact .inr ⟨l', ys', xs', a, b, by simp [c], d⟩
  | [], [], _ :: _, h, _ => h.elim
  | [], _ :: _, ls, h, _ => by cases ls <;> exact h.elim
  | _ :: _, [], ls, h, _ => by cases ls <;> exact h.elim
  | _ :: _, _ :: _, [], h, _ => h.elim
theorem IsOO.snoc {k : List Int} {l : Addr} {ws : List V} {zs : List D} (hl : H l = some (.lst ws)) (il : IsL F ws zs) : ∀ {ps : List (List Key × V)} {qs : List (List Int × List D)} {ls : List Addr}, IsOO F H ps qs ls → IsOO F H (ps ++ [(kT k, .ref l)]) (qs ++ [(k, zs)]) (ls ++ [l])
  | [], [], [], _ => ⟨rfl, rfl, ⟨ws, hl, il⟩, trivial⟩
  | p :: ps, q :: qs, l' :: ls, ⟨h1, h2, h3, h5⟩ => ⟨h1, h2, h3, IsOO.snoc hl il h5⟩
  | [], [], _ :: _, h => h.elim
  | [], _ :: _, ls, h => by cases ls <;> exact h.elim
  | _ :: _, [], ls, h => by cases ls <;> exact h.elim
  | _ :: _, _ :: _, [], h => h.elim
/-- the keys apart, one list written -/
theorem IsOO.wr {k : List Int} {l : Addr} {ws : List V} {zs : List D} (il : IsL F ws zs) : ∀ {ps : List (List Key × V)} {qs : List (List Int × List D)} {ls : List Addr}, IsOO F H ps qs ls → ls.Nodup → (qs.map (·.1)).Nodup → valV ps (kT k) = some (.ref l) → IsOO F (upd H l (.lst ws)) ps (dput qs k zs) ls
  | [], [], [], _, _, _, e => by cases e
  | p :: ps, q :: qs, l' :: ls, ⟨h1, h2, ⟨ys, h3, h4⟩, h5⟩, nd, nk, e => by
    rw [List.nodup_cons] at nd
    rw [List.map_cons, List.nodup_cons] at nk
    by_cases hk : q.1 = k
    · rw [valV_pos (by rw [h1, hk]), h2] at e
      cases e
      have no : ∀ x ∈ qs, ¬ x.1 = k := fun x hx z => nk.1 (List.mem_map.mpr ⟨x, hx, by rw [z, hk]⟩)
      have e1 : dput (q :: qs) k zs = (q.1, zs) :: qs := by
        unfold dput
        rw [if_pos (by simp [hk]), List.map_cons, if_pos hk]
        congr 1
        refine (List.map_congr_left fun x hx => ?_).trans (List.map_id _)
        rw [if_neg (no x hx)]; rfl
      rw [e1]
      refine ⟨h1, h2, ⟨ws, upd_same, il⟩, IsOO.mono (Same.refl F) (fun a ha => upd_ne fun z => nd.1 (z ▸ ha)) h5⟩
    · have n1 : ¬ p.1 = kT k := fun z => hk (kT_inj _ _ (by rw [← h1, z]))
      rw [valV_neg n1] at e
      have mem : l ∈ ls := by
        rcases IsOO.val h5 k with z | ⟨l2, _, _, a, _, c, _⟩
        · rw [z.1] at e; cases e
        · rw [a] at e; cases e; exact c
      have hd : (qs.any fun kv => decide (kv.1 = k)) = true := by
        rcases IsOO.val h5 k with z | ⟨l2, _, xs, a, b, c, _⟩
        · rw [z.1] at e; cases e
        · unfold dget at b
          cases w : qs.find? fun kv => decide (kv.1 = k) with
          | none => rw [w] at b; cases b
          | some kv => exact List.any_eq_true.mpr ⟨kv, List.mem_of_find?_eq_some w, by simpa using List.find?_some w⟩
      have e1 : dput (q :: qs) k zs = q :: dput qs k zs := by
        unfold dput
        rw [if_pos (by simp [hd]), if_pos hd, List.map_cons, if_neg hk]
      rw [e1]
      exact ⟨h1, h2, ⟨ys, by rw [upd_ne fun z : l' = l => nd.1 (z ▸ mem)]; exact h3, h4⟩, IsOO.wr il h5 nd.2 nk.2 e⟩
  | [], [], _ :: _, h, _, _, _ => h.elim
  | [], _ :: _, ls, h, _, _, _ => by cases ls <;> exact h.elim
  | _ :: _, [], ls, h, _, _, _ => by cases ls <;> exact h.elim
  | _ :: _, _ :: _, [], h, _, _, _ => h.elim
theorem IsOO.len : ∀ {ps : List (List Key × V)} {qs : List (List Int × List D)} {ls : List Addr}, IsOO F H ps qs ls → ps.length = qs.length
  | [], [], [], _ => rfl
  | p :: ps, q :: qs, l :: ls, ⟨h1, h2, _, h5⟩ => by simp [IsOO.len h5]
  | [], [], _ :: _, h => h.elim
  | [], _ :: _, ls, h => by cases ls <;> exact h.elim
  | _ :: _, [], ls, h => by cases ls <;> exact h.elim
  | _ :: _, _ :: _, [], h => h.elim
end
theorem dput_none {κ α : Type} [DecidableEq κ] {kvs : List (κ × α)} {k : κ} {v : α} (h : dget kvs k = none) : dput kvs k v = kvs ++ [(k, v)] := by
  unfold dput
  rw [if_neg]
  intro z
  obtain ⟨x, hx, e⟩ := List.any_eq_true.mp z
  unfold dget at h
  have := List.find?_eq_none.mp (Option.map_eq_none_iff.mp h) x hx
  exact this e
theorem putK_none {κ : Type} [DecidableEq κ] {kvs : List (κ × V)} {k : κ} {v : V} (h : valV kvs k = none) : putK kvs k v = kvs ++ [(k, v)] := putK_new v h
section
variable {W : Amb} {X : Cx} {F H F' H' : Hp} {e f o iter value : Expr} {es : List Expr} {pa pb pk pv : RE} {q : RA} {px : RX} {pos pos' apos cpos p : Pos} {S : Bs} {i j m n : Nat} {x y : Str}
/-! ### displays -/
def dNewT : RE := fun _ K => K (.ot [])
def dNewI : RE := fun _ K => K (.oi [])
def dNewO : RE := fun _ K => K (.oo [])
theorem pr_dT : PRd W X (.Dict [] [] pos) dNewT := ⟨fun F0 B => pe_dnewT.imp fun σ H Q ⟨F, ρ, K, E, z, k⟩ => fun p hp => k _ _ [p] F _ z (Step.own E.ok hp) ⟨p, [], rfl, rfl, upd_same, trivial⟩ (new1 E.ok hp)⟩
theorem pr_dI : PRd W X (.Dict [] [] pos) dNewI := ⟨fun F0 B => pe_dnewK.imp fun σ H Q ⟨F, ρ, K, E, z, k⟩ => fun p hp => k _ _ [p] F _ z (Step.own E.ok hp) ⟨p, [], rfl, rfl, upd_same, trivial⟩ (new1 E.ok hp)⟩
theorem pr_dO : PRd W X (.Dict [] [] pos) dNewO := ⟨fun F0 B => pe_dnewT.imp fun σ H Q ⟨F, ρ, K, E, z, k⟩ => fun p hp => k _ _ [p] F _ z (Step.own E.ok hp) ⟨p, [], [], rfl, rfl, upd_same, trivial⟩ (new1 E.ok hp)⟩
/-! ### d[k] = v, d a name's own dict -/
theorem env_ot {S : Bs} {σ : L2.St} {ρ : List Sd} (E : Env S F H σ ρ) {kvs : List (List Int × D)} (e : ρ[i]? = some (.ot kvs)) : ∃ l ps, σ[i]? = some (some (.ref l)) ∧ H l = some (.dT ps) ∧ IsT F ps kvs := by
  obtain ⟨v, as, h1, ⟨l, ys, rfl, rfl, h3, h4⟩, _⟩ := E.get e (by intro z; cases z)
  exact ⟨l, ys, h1, h3, h4⟩
theorem env_setT {S : Bs} {σ : L2.St} {ρ : List Sd} (E : Env S F H σ ρ) {xs zs : List (List Int × D)} {l : Addr} {ws : List (List Key × V)} (e : ρ[i]? = some (.ot xs)) (ev : σ[i]? = some (some (.ref l))) (il : IsT F ws zs) : Env S F (upd H l (.dT ws)) σ (ρ.set i (.ot zs)) :=
  E.write e (by intro z; cases z) l _ fun v as h1 h2 => by
    rw [ev] at h1
    obtain ⟨l', ys', rfl, rfl, h3, h4⟩ := h2
    cases h1
    exact ⟨by simp, fun _ => ⟨l, ws, rfl, rfl, upd_same, il⟩⟩
theorem env_oi {S : Bs} {σ : L2.St} {ρ : List Sd} (E : Env S F H σ ρ) {kvs : List (Int × D)} (e : ρ[i]? = some (.oi kvs)) : ∃ l ps, σ[i]? = some (some (.ref l)) ∧ H l = some (.dK ps) ∧ IsI F ps kvs := by
  obtain ⟨v, as, h1, ⟨l, ys, rfl, rfl, h3, h4⟩, _⟩ := E.get e (by intro z; cases z)
  exact ⟨l, ys, h1, h3, h4⟩
theorem env_setI {S : Bs} {σ : L2.St} {ρ : List Sd} (E : Env S F H σ ρ) {xs zs : List (Int × D)} {l : Addr} {ws : List (Key × V)} (e : ρ[i]? = some (.oi xs)) (ev : σ[i]? = some (some (.ref l))) (il : IsI F ws zs) : Env S F (upd H l (.dK ws)) σ (ρ.set i (.oi zs)) :=
  E.write e (by intro z; cases z) l _ fun v as h1 h2 => by
    rw [ev] at h1
    obtain ⟨l', ys', rfl, rfl, h3, h4⟩ := h2
    cases h1
    exact ⟨by simp, fun _ => ⟨l, ws, rfl, rfl, upd_same, il⟩⟩
theorem big5 {n : Nat} (h : n < 100000) : n < sizeLine := Nat.lt_of_lt_of_le h (by decide)
def sPutT (i : Nat) (pk pv : RE) : RS := fun K ρ => pv ρ fun sv => ∃ d kvs, sv.frz = some d ∧ ρ[i]? = some (.ot kvs) ∧ kvs.length < 100000 ∧ pk ρ fun sk => ∃ k, sk = .d (.ints k) ∧ K.nx (ρ.set i (.ot (dput kvs k d)))
theorem sd_putT (hr : Room m X.A) (h : PE X (.Name x p) (tVar i)) (hk : PEd W X e pk) (hv : PRd W X value pv) (hs : swapsWith value (some (.Subscript (.Name x p) e pos')) pos.line X.env = pure false := by rfl) :
    PSd W X (.Assign [.Subscript (.Name x p) e pos'] value pos) (sPutT i pk pv) := ⟨fun F0 B => (ps_dput (hu_of hr) h (hk.run F0 B) (hv.run F0 B) hs).imp fun T σ H ⟨F, ρ, K, E, q, k⟩ =>
  ⟨F, ρ, _, E, q, fun s v as F1 H1 ⟨d, kvs, e1, e2, hz, z⟩ st sv n => by
    obtain ⟨F2, s2, i2, _⟩ := st.frz E.ok sv n e1
    have E2 := E.step s2
    obtain ⟨l, ps, g1, g2, g3⟩ := env_ot E2 e2
    refine ⟨_, g1, F2, ρ, _, E2, z, fun sk w as3 F3 H3 ⟨k', e3, z2⟩ st3 sv3 n3 => ?_⟩
    subst e3
    have E3 := E2.step st3
    obtain ⟨l', ps', g1', g2', g3'⟩ := env_ot E3 e2
    rw [g1] at g1'
    cases g1'
    obtain ⟨b, rfl, hb⟩ := sv3.2.key
    have hl := g3'.length
    exact ⟨l, _, rfl, DPut.t g2' (E3.ok.fh _ _ hb) (big5 (by omega)), k.1 _ σ F3 _ z2 (env_setT E3 e2 g1 (g3'.put kT_inj (i2.mono st3.ff) k'))⟩⟩⟩
def sPutI (i : Nat) (pk pv : RE) : RS := fun K ρ => pv ρ fun sv => ∃ d kvs, sv.frz = some d ∧ ρ[i]? = some (.oi kvs) ∧ kvs.length < 100000 ∧ pk ρ fun sk => ∃ k, sk = .d (.int k) ∧ K.nx (ρ.set i (.oi (dput kvs k d)))
theorem sd_putI (hr : Room m X.A) (h : PE X (.Name x p) (tVar i)) (hk : PEd W X e pk) (hv : PRd W X value pv) (hs : swapsWith value (some (.Subscript (.Name x p) e pos')) pos.line X.env = pure false := by rfl) :
    PSd W X (.Assign [.Subscript (.Name x p) e pos'] value pos) (sPutI i pk pv) := ⟨fun F0 B => (ps_dput (hu_of hr) h (hk.run F0 B) (hv.run F0 B) hs).imp fun T σ H ⟨F, ρ, K, E, q, k⟩ =>
  ⟨F, ρ, _, E, q, fun s v as F1 H1 ⟨d, kvs, e1, e2, hz, z⟩ st sv n => by
    obtain ⟨F2, s2, i2, _⟩ := st.frz E.ok sv n e1
    have E2 := E.step s2
    obtain ⟨l, ps, g1, g2, g3⟩ := env_oi E2 e2
    refine ⟨_, g1, F2, ρ, _, E2, z, fun sk w as3 F3 H3 ⟨k', e3, z2⟩ st3 sv3 n3 => ?_⟩
    subst e3
    have E3 := E2.step st3
    obtain ⟨l', ps', g1', g2', g3'⟩ := env_oi E3 e2
    rw [g1] at g1'
    cases g1'
    have hl := g3'.length
    refine ⟨l, _, rfl, ?_, k.1 _ σ F3 _ z2 (env_setI E3 e2 g1 (g3'.put kI_inj (i2.mono st3.ff) k'))⟩
    rw [show w = kV (kI k') from sv3.2.int_inv]
    exact DPut.k g2' (big5 (by omega))⟩⟩
/-- k in d, k not in d: d with int keys -/
def dIIn (i : Nat) (pk : RE) : RE := fun ρ K => pk ρ fun sk => ∃ k kvs, sk = .d (.int k) ∧ ρ[i]? = some (.oi kvs) ∧ K (.d (.bl (dget kvs k).isSome))
theorem lift_iin {σ : L2.St} {Q : VK} (h : liftR S (dIIn i pk) σ H Q) : tDIn (liftE S pk) (tVar i) σ H Q := by
  obtain ⟨F, ρ, K, E, q, k⟩ := h
  refine ⟨F, ρ, _, E, q, fun sy w as F1 H1 ⟨k', kvs, e1, e2, kk⟩ st sv n => ?_⟩
  subst e1
  have E1 := E.step st
  obtain ⟨l, ps, g1, g2, g3⟩ := env_oi E1 e2
  refine ⟨_, g1, l, valV ps (kI k'), rfl, ?_, ?_⟩
  · rw [show w = kV (kI k') from sv.2.int_inv]
    exact DGet.k g2
  · have ee : (valV ps (kI k')).isSome = (dget kvs k').isSome := by
      rcases g3.get kI_inj k' with ⟨a, b⟩ | ⟨v, d, a, b, c⟩
      · rw [a, b]; rfl
      · rw [a, b]; rfl
    rw [ee]
    exact k _ _ [] F1 H1 kk st ⟨rfl, .bl _⟩ New.nil
theorem pr_iin (hr : Room m X.A) (hk : PEd W X e pk) (h : PE X (.Name x p) (tVar i)) (hm : behindInMarks .In (.Name x p) = false := by rfl) : PRd W X (.Compare e [.In] [.Name x p] pos) (dIIn i pk) := ⟨fun F0 B => (pe_cmp (pc_din (hu_of hr) (hk.run F0 B) h) hm).imp fun σ H Q h => lift_iin h⟩
theorem pt_iin (hr : Room m X.A) (hk : PEd W X e pk) (h : PE X (.Name x p) (tVar i)) (hm : behindInMarks .In (.Name x p) = false := by rfl) : PTd W X (.Compare e [.In] [.Name x p] pos) (dTB (dIIn i pk)) := ⟨fun F0 B => (pt_cmp (pc_din (hu_of hr) (hk.run F0 B) h) hm).imp fun σ H Q h => lift_iin (liftT_of h)⟩
/-- d[k] = [], a dict of lists of its own, the key new -/
def sPutO (i : Nat) (pk pv : RE) : RS := fun K ρ => pv ρ fun sv => ∃ xs kvs, sv = .ol xs ∧ ρ[i]? = some (.oo kvs) ∧ kvs.length < 100000 ∧ pk ρ fun sk => ∃ k, sk = .d (.ints k) ∧ dget kvs k = none ∧ K.nx (ρ.set i (.oo (kvs ++ [(k, xs)])))
theorem sd_putO (hr : Room m X.A) (h : PE X (.Name x p) (tVar i)) (hk : PEd W X e pk) (hv : PRd W X value pv) (hs : swapsWith value (some (.Subscript (.Name x p) e pos')) pos.line X.env = pure false := by rfl) :
    PSd W X (.Assign [.Subscript (.Name x p) e pos'] value pos) (sPutO i pk pv) := ⟨fun F0 B => (ps_dput (hu_of hr) h (hk.run F0 B) (hv.run F0 B) hs).imp fun T σ H ⟨F, ρ, K, E, q, k⟩ =>
  ⟨F, ρ, _, E, q, fun s v as F1 H1 ⟨xs, kvs, e1, e2, hz, z⟩ st sv n => by
    subst e1
    have E1 := E.step st
    obtain ⟨vd, as0, g1, ⟨l, ps, ls, rfl, rfl, g2, g3⟩, _⟩ := E1.get e2 (by intro z; cases z)
    refine ⟨_, g1, F1, ρ, _, E1, z, fun sk w as3 F3 H3 ⟨k', e3, e4, z2⟩ st3 sv3 n3 => ?_⟩
    subst e3
    obtain ⟨os, E0⟩ := E.o
    have s13 := st.trans E.ok st3
    have EO := E0.step s13
    obtain ⟨o, as1, h1, h2, h3⟩ := EO.sl.get e2
    rw [g1] at h1
    cases h1
    obtain ⟨v', eo, l', ps', ls', ev, eas, hd, hoo⟩ := h3
    cases eo
    cases ev
    subst eas
    obtain ⟨a, ys, rfl, rfl, ha, il⟩ := sv.step (fun b hb => E.ok.alive (n.2 b hb).1) st3
    have na := n.2 a (by simp)
    have naF3 : F3 a = none := by
      cases qq : F3 a with
      | none => rfl
      | some u =>
        rcases st3.nw a u qq with y | y
        · rw [na.2] at y; cases y
        · obtain ⟨_, _, ea, _, hh, _⟩ := sv
          cases ea
          rw [hh] at y; cases y
    have nos : a ∉ os.flatten := fun hf => E0.sl.alive a hf na.1
    obtain ⟨b, rfl, hb⟩ := sv3.2.key
    have hno : valV ps' (kT k') = none := by
      rcases hoo.val k' with y | ⟨_, _, _, _, y, _⟩
      · exact y.1
      · rw [e4] at y; cases y
    have hlen : ps'.length = kvs.length := hoo.len
    have nal : a ≠ l := fun z => nos (z ▸ List.mem_flatten.mpr ⟨_, List.mem_of_getElem? h2, by simp⟩)
    have nd1 : (l :: ls').Nodup := (List.pairwise_flatten.mp EO.nd).1 _ (List.mem_of_getElem? h2)
    refine ⟨l, _, rfl, DPut.t hd (EO.ok.fh _ _ hb) (big5 (by omega)), ?_⟩
    rw [putK_none hno]
    refine k.1 _ σ F3 _ z2 (EnvO.env (EO.repl (as' := l :: (ls' ++ [a])) h2 g1 (by simp) ?_ (fun c hc => ?_) ⟨l, _, ls' ++ [a], rfl, rfl, upd_same, ?_⟩))
    · rw [List.nodup_cons] at nd1 ⊢
      have aout : a ∉ ls' := fun z => nos (List.mem_flatten.mpr ⟨_, List.mem_of_getElem? h2, by simp [z]⟩)
      refine ⟨fun hc => ?_, List.nodup_append.mpr ⟨nd1.2, by simp, fun c hc e he z => aout (by simp at he; rw [← he, ← z]; exact hc)⟩⟩
      rcases List.mem_append.mp hc with y | y
      · exact nd1.1 y
      · simp at y; exact nal y.symm
    · rcases List.mem_cons.mp hc with y | y
      · exact .inl (by simp [y])
      · rcases List.mem_append.mp y with y | y
        · exact .inl (by simp [y])
        · simp at y
          subst y
          exact .inr ⟨naF3, (E.free na.1).1, E.ok.alive na.1, nos⟩
    · have h4 : IsOO F3 (upd H3 l (.dT (ps' ++ [(kT k', V.ref a)]))) ps' kvs ls' := hoo.mono (Same.refl _) fun c hc => upd_ne fun z : c = l => by rw [List.nodup_cons] at nd1; exact nd1.1 (z ▸ hc)
      exact IsOO.snoc (by rw [upd_ne nal]; exact ha) il h4⟩⟩
/-- d[k].append(e), a dict of lists of its own -/
def sAppO (i : Nat) (pk pv : RE) : RS := fun K ρ => ∃ kvs, ρ[i]? = some (.oo kvs) ∧ (kvs.map (·.1)).Nodup ∧ pk ρ fun sk => ∃ k xs, sk = .d (.ints k) ∧ dget kvs k = some xs ∧ xs.length < 100000 ∧ pv ρ fun sv => ∃ d, sv.frz = some d ∧ K.nx (ρ.set i (.oo (dput kvs k (xs ++ [d]))))
theorem sd_appO (hr : Room m X.A) (h : PE X (.Name x p) (tVar i)) (hk : PEd W X f pk) (ha : PRd W X e pv) (hbase : attributeBase (.Subscript (.Name x p) f pos') "append" X.env (eval (.Subscript (.Name x p) f pos') X.env) = eval (.Subscript (.Name x p) f pos') X.env := by rfl)
    (hfew : ((backTo cpos (starEach [e] X.env)).all (fun x => !x.1) && (backToKw cpos (keywordEach [] X.env)).all (fun x => x.1.isSome)
      && decide ([e].length + ([] : List Keyword).length + (if ([] : List Keyword).isEmpty then 0 else 1) < 30)) = true := by rfl)
    (hline : (apos.endLine == cpos.line) = true := by rfl) (hs : starEach [e] X.env = (false, eval e X.env) :: starEach [] X.env := by rfl) (hsw : swapsWith (.Call (.Attribute (.Subscript (.Name x p) f pos') "append" apos) [e] [] cpos) none pos.line X.env = pure false := by rfl) (hsl : NoSl f := by intro _ _; rfl) :
    PSd W X (.Expr (.Call (.Attribute (.Subscript (.Name x p) f pos') "append" apos) [e] [] cpos) pos) (sAppO i pk pv) := ⟨fun F0 B => (ps_expr (pe_bm PySem.F.plainAttrs_list PySem.F.slot_list_append PySem.F.type_list_append (mt_append : MtR X "list.append" rAppend) (pe_dget (hu_of hr) h (hk.run F0 B) hsl) (pa_cons (ha.run F0 B) pa_nil hs) hbase hfew hline hs) hsw).imp fun T σ H ⟨F, ρ, K, E, ⟨kvs, e1, nk, z⟩, k⟩ => by
  obtain ⟨vd, as0, g1, ⟨l, ps, ls, rfl, rfl, g2, g3⟩, _⟩ := E.get e1 (by intro z; cases z)
  refine ⟨_, g1, F, ρ, _, E, z, fun sk w as3 F3 H3 ⟨k', xs, e3, e4, hz, z2⟩ st3 sv3 n3 => ?_⟩
  subst e3
  have E3 := E.step st3
  obtain ⟨b, rfl, hb⟩ := sv3.2.key
  obtain ⟨vd', as0', g1', ⟨l', ps', ls', rfl, rfl, g2', g3'⟩, _⟩ := E3.get e1 (by intro z; cases z)
  rw [g1] at g1'
  cases g1'
  rcases g3'.val k' with y | ⟨a, ys, xs', y1, y2, y3, y4, y5⟩
  · rw [e4] at y; cases y.2
  rw [e4] at y2
  cases y2
  refine ⟨l, .ref a, rfl, by rw [← y1]; exact DGet.t g2' (E3.ok.fh _ _ hb), .inl ⟨rfl, ys, SqL.of y4⟩, F3, ρ, _, E3, z2, fun s v as F4 H4 ⟨d, e5, z3⟩ st4 sv4 n4 => ?_⟩
  obtain ⟨F5, s5, i5, _⟩ := st4.frz E3.ok sv4 n4 e5
  obtain ⟨os, EO⟩ := (E3.step s5).o
  obtain ⟨o, as1, h1, h2, h3⟩ := EO.sl.get e1
  rw [g1] at h1
  cases h1
  obtain ⟨v', eo, l2, ps2, ls2, ev, eas, hd, hoo⟩ := h3
  cases eo
  cases ev
  subst eas
  -- the dict is as it was: nothing of its own is touched
  have hd3 : H4 l = H3 l := by
    have := st4.kp l _ g2' (by
      intro hA
      exact (EO.fr l (List.mem_flatten.mpr ⟨_, List.mem_of_getElem? h2, by simp⟩)).2.2 hA)
    rw [this, g2']
  rw [hd, g2'] at hd3
  cases hd3
  rcases hoo.val k' with y | ⟨a2, ys2, xs2, x1, x2, x3, x4, x5⟩
  · rw [e4] at y; cases y.2
  rw [e4] at x2
  cases x2
  rw [y1] at x1
  cases x1
  have nd1 : (l :: ls2).Nodup := (List.pairwise_flatten.mp EO.nd).1 _ (List.mem_of_getElem? h2)
  have hl := x5.length
  refine ⟨a, ys2, v, rfl, rfl, x4, big5 (by omega), k.1 _ σ F5 _ z3 (EnvO.env (EO.repl (as' := l :: ls2) h2 g1 (l := a) (by simp [x3]) nd1 (fun c hc => .inl hc) ⟨l, ps', ls2, rfl, rfl, ?_, ?_⟩))⟩
  · rw [upd_ne fun z : l = a => by rw [List.nodup_cons] at nd1; exact nd1.1 (z ▸ x3)]
    exact hd
  · rw [List.nodup_cons] at nd1
    exact IsOO.wr (x5.snoc i5) hoo nd1.2 nk y1⟩
end
end DL
namespace DL
open PySem PySem.Spec L2
/-! ### setdefault of a dict with tuples for keys -/
section
variable {X : Cx} {pins : List (Addr × Obj)} {σ : L2.St} {H : Hp} {s : Shared} {a b : Addr} {r : Value} {d : V} {A : Around} {E : Value → Shared → Prop}
theorem d_setdT {kvs : List (List Key × V)} {ky : List Key} {Q : Value → Shared → Prop} (hu : A.units + 1 < cLine) (I : L2.Inv X pins σ H s) (e : H a = some (.dT kvs)) (eb : H b = some (.tup (ky.map kV))) (rd : RelV d r) (hlt : kvs.length < sizeLine)
    (there : ∀ v, valV kvs ky = some v → ∀ (w' : Value) (s' : Shared), L2.Inv X pins σ H s' → RelV v w' → Q w' s') (anew : valV kvs ky = none → ∀ s' : Shared, L2.Inv X pins σ (upd H a (.dT (putK kvs ky d))) s' → Q r s') :
    wpAny (model X.prog X.w) A (call (.builtin "dict.setdefault") [.ref a, .ref b, r]) Q E s := by
  obtain ⟨z, hd, xs, rel, dd⟩ := dt_of I.hok e
  have hz : xs.length ≤ sizeLine := by
    have q := Paired.length rel
    omega
  have rv := rel.val ky
  refine call_setdefault_heap (hsz := hz) (tupleKind_room_in1 hu) (key_of I.hok eb) hd dd (fun p hp => ?_) fun hn h' dd' hs => ?_
  · rw [hp] at rv
    cases q0 : valV kvs ky with
    | none =>
      rw [q0] at rv
      exact (show False from rv).elim
    | some v0 =>
      rw [q0] at rv
      exact there v0 q0 _ _ (I.tok _) rv
  · rw [hn] at rv
    cases q0 : valV kvs ky with
    | some v0 =>
      rw [q0] at rv
      exact (show False from rv).elim
    | none =>
      have hl : (putK kvs ky d).length ≤ sizeLine := by
        have q := length_putK kvs ky d
        omega
      obtain ⟨o1, es, ep, hq, h2, h3, h4, _, h5⟩ := dd'
      refine anew q0 _ (d_write I (by rw [e]; exact True.intro) hs ⟨o1, hq⟩ ⟨hl, hd, _, (rel.put ky eb rd).keeps fun c ys ec => ?_, o1, es, ep, hq, h2, h3, h4, h5⟩)
      rw [upd_ne (ne_of ec e (fun y => nomatch y))]
      exact ec
end
def tDSetdT (td ty tx : TE) : TE := fun σ H Q => td σ H fun x H1 => ∃ a, x = .ref a ∧ IsD H1 a ∧ ty σ H1 fun y H2 => tx σ H2 fun z H3 => ∃ (kvs : List (List Key × V)) (ky : List Key) (b : Addr), H3 a = some (.dT kvs) ∧ y = .ref b ∧ H3 b = some (.tup (ky.map kV)) ∧ kvs.length < sizeLine ∧
  (∀ v, valV kvs ky = some v → Q v H3) ∧ (valV kvs ky = none → Q z (upd H3 a (.dT (putK kvs ky z))))
section
variable {X : Cx} {o e f : Expr} {td ty tx : TE} {apos cpos : Pos}
theorem pe_dsetdT (hu : X.A.units + 1 < cLine) (ho : PE X o td) (he : PE X e ty) (hf : PE X f tx) (m : M2 X o "setdefault" apos e f cpos) : PE X (.Call (.Attribute o "setdefault" apos) [e, f] [] cpos) (tDSetdT td ty tx) := by
  refine ⟨fun pins s σ H Q I h => wpAny_Call_method m.base m.few m.line PySem.F.plainAttrs_dict PySem.F.slot_dict_setdefault PySem.F.type_dict_setdefault (thn (ho.run pins s σ H _ I h) fun u s1 ⟨x, H1, I1, rx, a, ex, d, q1⟩ => ?_)⟩
  subst ex
  obtain rfl : u = Value.ref a := rx
  obtain ⟨t1, t2, _⟩ := isD_at I1 d
  refine ⟨t1, t2, ?_⟩
  rw [m.trees]
  refine Calls.callWith_builtin rfl (Calls.evalArgs_plain (Calls.spliced_cons (thn (he.run pins s1 σ H1 _ I1 q1) fun iv s2 ⟨y, H2, I2, ry, q2⟩ =>
    Calls.spliced_cons (thn (hf.run pins s2 σ H2 _ I2 q2) fun fv s3 ⟨z, H3, I3, rz, kvs, ky, b, ea, ey, eb, hl, q3, q4⟩ => Calls.spliced_nil ?_))))
  subst ey
  obtain rfl : iv = Value.ref b := ry
  exact d_setdT hu I3 ea eb rz hl (fun v hv w' s4 I4 rw' => ⟨v, _, I4, rw', q3 v hv⟩) fun hn s4 I4 => ⟨z, _, I4, rz, q4 hn⟩
end
section
variable {W : Amb} {X : Cx} {F H F' H' : Hp} {e f o iter value : Expr} {es : List Expr} {pa pb pk pv : RE} {q : RA} {px : RX} {pos pos' apos cpos p : Pos} {S : Bs} {i j m n : Nat} {x y : Str}
def xSetd (i : Nat) (pk pv : RE) : RX := fun ρ K => (∃ kvs, ρ[i]? = some (.ot kvs)) ∧ pk ρ fun sk => ∃ k, sk = .d (.ints k) ∧ pv ρ fun sv => ∃ d kvs, sv.frz = some d ∧ ρ[i]? = some (.ot kvs) ∧ kvs.length < 100000 ∧ (∀ x, dget kvs k = some x → K ρ x) ∧ (dget kvs k = none → K (ρ.set i (.ot (kvs ++ [(k, d)]))) d)
theorem px_setd (hr : Room m X.A) (h : PE X (.Name x p) (tVar i)) (hk : PEd W X e pk) (hv : PRd W X f pv) (mm : M2 X (.Name x p) "setdefault" apos e f cpos) : PXd W X (.Call (.Attribute (.Name x p) "setdefault" apos) [e, f] [] cpos) (xSetd i pk pv) :=
  ⟨fun F0 B => (pe_dsetdT (hu_of hr) h (hk.run F0 B) (hv.run F0 B) mm).imp fun σ H Q ⟨F, ρ, K, E, ⟨⟨kvs0, e0⟩, z⟩, k⟩ => by
    obtain ⟨l, ps, g1, g2, g3⟩ := env_ot E e0
    refine ⟨_, g1, l, rfl, .inr ⟨ps, .inl g2⟩, F, ρ, _, E, z, fun sk w as F1 H1 ⟨k', e1, z1⟩ st sv n => ?_⟩
    subst e1
    have E1 := E.step st
    refine ⟨F1, ρ, _, E1, z1, fun s2 v as2 F2 H2 ⟨d, kvs, e2, e3, hz, z2, z3⟩ st2 sv2 n2 => ?_⟩
    obtain ⟨F3, s3, i3, _⟩ := st2.frz E1.ok sv2 n2 e2
    have E3 := E1.step s3
    obtain ⟨l', ps', g1', g2', g3'⟩ := env_ot E3 e3
    rw [g1] at g1'
    cases g1'
    obtain ⟨b, rfl, hb⟩ := (sv.2.mono s3.ff).key
    have hl := g3'.length
    have ff : Same F F3 := st.ff.trans s3.ff
    refine ⟨ps', kT k', b, g2', rfl, E3.ok.fh _ _ hb, big5 (by omega), fun u hu => ?_, fun hn => ?_⟩
    · rcases g3'.get kT_inj k' with ⟨a1, a2⟩ | ⟨u', x', a1, a2, a3⟩
      · rw [hu] at a1; cases a1
      · rw [hu] at a1
        cases a1
        exact k ρ x' u F3 H2 (z2 x' a2) E3 ff a3
    · rcases g3'.get kT_inj k' with ⟨a1, a2⟩ | ⟨u', x', a1, a2, a3⟩
      · have E4 := env_setT E3 e3 g1 (g3'.put kT_inj i3 k')
        rw [dput_none a2] at E4
        exact k _ d v F3 _ (z3 a2) E4 ff i3
      · rw [hn] at a1; cases a1⟩
/-! ### if px != e -/
def sIfNe (px : RX) (pb : RE) (p1 p2 : RS) : RS := fun K ρ => px ρ fun ρ' d => pb ρ' fun sb => ∃ c d2, sb = .d d2 ∧ sameSc d d2 = some c ∧ (c = false → p1 K ρ') ∧ (c = true → p2 K ρ')
theorem sd_ifNe {a b : List Stmt} {e1 e2 : Expr} {cp : Pos} {p1 p2 : RS} (ha : PXd W X e1 px) (hb : PEd W X e2 pb) (h1 : PSsd W X a p1) (h2 : PSsd W X b p2) : PSd W X (.If (.Compare e1 [.NotEq] [e2] cp) a b pos) (sIfNe px pb p1 p2) :=
  ⟨fun F0 B => (ps_if (pt_cmpR op_ne (ha.run F0 B) (hb.run F0 B) (nomark _)) (h1.run F0 B) (h2.run F0 B)).imp fun T σ H ⟨F, ρ, K, E, q, k⟩ =>
    ⟨F, ρ, _, E, q, fun ρ' d v F1 H1 z E1 ff iv => ⟨F1, ρ', _, E1, z, fun sb w as F2 H2 ⟨c, d2, e1, hc, z1, z2⟩ st sv n => by
      subst e1
      obtain ⟨q1, q2⟩ := sameSc_ok (iv.mono st.ff) sv.2 hc
      refine ⟨q1, _, rfl, ?_⟩
      rw [q2]
      cases c with
      | false => exact ⟨F2, ρ', K, E1.step st, z1 rfl, k⟩
      | true => exact ⟨F2, ρ', K, E1.step st, z2 rfl, k⟩⟩⟩⟩
/-! ### for over px -/
def sForX (px : RX) (g : RG) (p : RS) : RS := fun K ρ => px ρ fun ρ0 d => ∃ xs, d = .lst xs ∧ ∃ Iv : Nat → List Sd → Prop, Iv 0 ρ0 ∧ (∀ (i : Nat) x ρ', xs[i]? = some x → Iv i ρ' → g x ρ' fun ρ2 => p { K with nx := Iv (i + 1), ct := Iv (i + 1), bk := K.nx } ρ2) ∧ (∀ ρ', Iv xs.length ρ' → K.nx ρ')
theorem sd_forX {body : List Stmt} {g : RG} {tg : Expr} {p1 : RS} (hp : PassesOwn (model X.prog X.w) X.A X.env X.xe) (hc : X.calm = true) (hi : PXd W X iter px) (hg : PGd W X tg g) (hb : PSsd W X body p1)
    (hs : ∀ x, foldedSetIterable iter X.env x = pure x := by intro _; rfl) : PSd W X (.For tg iter body [] pos) (sForX px g p1) := ⟨fun F0 B => (ps_for hp hc (pi_list (hi.run F0 B)) (PG.ex fun F1 => hg.run F1 B) (PSs.ex fun F1 => hb.run F1 B) hs).imp fun T σ H ⟨F, ρ, K, E, q, k1, k2, k3, k4⟩ =>
  ⟨F, ρ, _, E, q, fun ρ0 d v F1 H1 ⟨xs, ed, Iv, i0, turn, fin⟩ E1 ff iv => by
    subst ed
    obtain ⟨a, ys, rfl, h1, h2⟩ := iv.lst_inv
    refine ⟨a, rfl, ⟨ys, SqL.of (E1.ok.fh _ _ h1)⟩, ?_⟩
    obtain ⟨G, Y, wk, hG, hY⟩ := (wd_list (W := W) (K := X.K) h1 h2).ex
    have back : ∀ {F2 H2 σ2 ρ2}, Env ⟨W, F1, B⟩ F2 H2 σ2 ρ2 → Env ⟨W, F0, B⟩ F2 H2 σ2 ρ2 := fun E2 => E2.reF E1.f0 E1.nw
    refine for_it (g := fun v σ H Q => ∃ x, liftG ⟨W, x, B⟩ g v σ H Q) (tb := fun T σ H => ∃ x, liftS ⟨W, x, B⟩ p1 T σ H) wk (fun i σ H => ∃ F2 ρ2, Iv i ρ2 ∧ Env ⟨W, F1, B⟩ F2 H σ ρ2) ⟨F1, ρ0, i0, E1.upF⟩ (fun i σ H hi ⟨F2, ρ2, _, E2⟩ => hG F2 H E2.f0 E2.ok) (fun i v σ2 H2 H3 hi ⟨F2, ρ2, iv, E2⟩ hy => ?_) fun σ2 H2 ⟨F2, ρ2, iv, E2⟩ => k1 ρ2 σ2 F2 H2 (fin ρ2 iv) (back E2)
    obtain ⟨F3, x, h1, h2, h3⟩ := hY i H2 v H3 F2 hi E2.f0 E2.ok hy
    have E3 := E2.step h3
    refine ⟨F1, F3, ρ2, x, _, E3, h2, turn i x ρ2 h1 iv, fun ρ4 σ4 F4 H4 z E4 => ?_⟩
    refine ⟨F1, F4, ρ4, _, E4, z, fun ρ5 σ5 F5 H5 z5 E5 => ⟨F5, ρ5, z5, E5⟩, fun d v F5 H5 z5 st5 i5 => k2 d v F5 H5 z5 ⟨E1.f0.trans st5.ff, st5.kp, fun a o h => ?_, st5.ok⟩ i5, fun ρ5 σ5 F5 H5 z5 E5 => k1 ρ5 σ5 F5 H5 z5 (back E5), fun ρ5 σ5 F5 H5 z5 E5 => ⟨F5, ρ5, z5, E5⟩⟩
    rcases st5.nw a o h with y | y
    · exact E1.nw a o y
    · exact .inr y⟩⟩
/-! ### a <= b <= c, of ints -/
def dChain (g g' : Sd → Sd → (Sd → Prop) → Prop) (pa pb pc : RE) : RE := fun ρ K => pa ρ fun sx => pb ρ fun sy => g sx sy fun s => ∃ c : Bool, s = .d (.bl c) ∧ (c = true → pc ρ fun sz => g' sy sz K) ∧ (c = false → K (.d (.bl false)))
theorem lift_chain {a b c : Expr} {r r' : R2} {pc : RE} {g g' : Sd → Sd → (Sd → Prop) → Prop} {σ : L2.St} {Q : VK} (hd : OpD S.W r g) (hd' : OpD S.W r' g') (h : liftR S (dChain g g' pa pb pc) σ H Q) : tChain r r' (liftE S pa) (liftE S pb) (liftE S pc) σ H Q := by
  obtain ⟨F, ρ, K, E, q, k⟩ := h
  refine ⟨F, ρ, _, E, q, fun sx x ax F1 H1 q1 s1 v1 n1 => ⟨F1, ρ, _, E.step s1, q1, fun sy y ay F2 H2 q2 s2 v2 n2 => ?_⟩⟩
  have s12 := s1.trans E.ok s2
  refine hd F2 H2 x y ax ay sx sy _ _ s2.ok (v1.step n1 s2) v2 q2 fun s v as F3 H3 ⟨cc, e, z1, z2⟩ s3 v3 n3 => ?_
  subst e
  have s13 := s12.trans E.ok s3
  refine ⟨cc, v3.2.bl_inv, ?_⟩
  cases cc with
  | false =>
    rw [if_neg (by decide)]
    exact k _ _ [] F3 H3 (z2 rfl) s13 ⟨rfl, .bl _⟩ New.nil
  | true =>
    rw [if_pos rfl]
    refine ⟨F3, ρ, _, E.step s13, z1 rfl, fun sz z az F4 H4 q4 s4 v4 n4 => ?_⟩
    exact hd' F4 H4 y z ay az sy sz K Q s4.ok ((v2.step n2 s3).step n2 s4) v4 q4 fun s v as F5 H5 q5 s5 v5 n5 => k s v as F5 H5 q5 ((s13.trans E.ok s4).trans E.ok s5) v5 (n5.back E.ok (s13.trans E.ok s4))
theorem pr_leLe {a b c : Expr} {pc : RE} (ha : PEd W X a pa) (hb : PEd W X b pb) (hc : PEd W X c pc) (hm : lastMarks [.LtE, .LtE] [b, c] = false := by with_unfolding_all rfl) : PRd W X (.Compare a [.LtE, .LtE] [b, c] pos) (dChain gLe gLe pa pb pc) :=
  ⟨fun F0 B => (pe_chain op_le op_le (ha.run F0 B) (hb.run F0 B) (hc.run F0 B) hm).imp fun σ H Q h => lift_chain (a := a) (b := b) (c := c) (od_I0 fun _ _ _ => .bl _) (od_I0 fun _ _ _ => .bl _) h⟩
theorem pr_leLt {a b c : Expr} {pc : RE} (ha : PEd W X a pa) (hb : PEd W X b pb) (hc : PEd W X c pc) (hm : lastMarks [.LtE, .Lt] [b, c] = false := by with_unfolding_all rfl) : PRd W X (.Compare a [.LtE, .Lt] [b, c] pos) (dChain gLe gLt pa pb pc) :=
  ⟨fun F0 B => (pe_chain op_le op_lt (ha.run F0 B) (hb.run F0 B) (hc.run F0 B) hm).imp fun σ H Q h => lift_chain (a := a) (b := b) (c := c) (od_I0 fun _ _ _ => .bl _) (od_I0 fun _ _ _ => .bl _) h⟩
theorem lift_chainT {a b c : Expr} {r r' : R2} {pc : RE} {g g' : Sd → Sd → (Sd → Prop) → Prop} {σ : L2.St} {Q : Bool → Hp → Prop} (hd : OpD S.W r g) (hd' : OpD S.W r' g') (h : liftT S (dTB (dChain g g' pa pb pc)) σ H Q) : tTest (tChain r r' (liftE S pa) (liftE S pb) (liftE S pc)) σ H Q := lift_chain (a := a) (b := b) (c := c) hd hd' (liftT_of h)
theorem pt_leLe {a b c : Expr} {pc : RE} (ha : PEd W X a pa) (hb : PEd W X b pb) (hc : PEd W X c pc) (hm : lastMarks [.LtE, .LtE] [b, c] = false := by with_unfolding_all rfl) : PTd W X (.Compare a [.LtE, .LtE] [b, c] pos) (dTB (dChain gLe gLe pa pb pc)) :=
  ⟨fun F0 B => (pt_chain op_le op_le (ha.run F0 B) (hb.run F0 B) (hc.run F0 B) hm).imp fun σ H Q h => lift_chainT (a := a) (b := b) (c := c) (od_I0 fun _ _ _ => .bl _) (od_I0 fun _ _ _ => .bl _) h⟩
theorem pt_leLt {a b c : Expr} {pc : RE} (ha : PEd W X a pa) (hb : PEd W X b pb) (hc : PEd W X c pc) (hm : lastMarks [.LtE, .Lt] [b, c] = false := by with_unfolding_all rfl) : PTd W X (.Compare a [.LtE, .Lt] [b, c] pos) (dTB (dChain gLe gLt pa pb pc)) :=
  ⟨fun F0 B => (pt_chain op_le op_lt (ha.run F0 B) (hb.run F0 B) (hc.run F0 B) hm).imp fun σ H Q h => lift_chainT (a := a) (b := b) (c := c) (od_I0 fun _ _ _ => .bl _) (od_I0 fun _ _ _ => .bl _) h⟩
/-! ### x is not True -/
def gNotB : Sd → Sd → (Sd → Prop) → Prop := fun sx sy K => ∃ a b : Bool, sx = .d (.bl a) ∧ sy = .d (.bl b) ∧ K (.d (.bl (!decide (a = b))))
theorem pt_notB {a b : Expr} (ha : PEd W X a pa) (hb : PEd W X b pb) (hm : behindInMarks .IsNot b = false := by rfl) : PTd W X (.Compare a [.IsNot] [b] pos) (dT2 gNotB pa pb) :=
  pt_cmp' op_notBl (fun F H x y ax ay sx sy K Q ok vx vy ⟨a, b, e1, e2, q⟩ k => by
    subst e1 e2
    exact ⟨a, b, vx.2.bl_inv, vy.2.bl_inv, k _ _ [] F H q (Step.refl ok) ⟨rfl, .bl _⟩ New.nil⟩) ha hb hm
/-! ### list(range(n)) -/
theorem isL_rg (F : Hp) (lo : Int) : ∀ n : Nat, IsL F ((List.range n).map fun i : Nat => V.int (lo + (i : Nat))) (rangeD lo n) := fun n => by
  refine IsL.of (by rw [rangeD_len]; simp) fun i y x h1 h2 => ?_
  have hi : i < n := by
    have := (List.getElem?_eq_some_iff.mp h2).1
    rwa [rangeD_len] at this
  rw [rangeD_at lo n i hi] at h2
  cases h2
  rw [List.getElem?_map, List.getElem?_range hi] at h1
  cases h1
  exact .int _
def dLstRg (pa : RE) : RE := fun ρ K => pa ρ fun s => ∃ n : Int, s = .d (.int n) ∧ 0 ≤ n ∧ n ≤ 100000 ∧ K (.ol (rangeD 0 n.toNat))
theorem pr_listRg {a : Expr} {p1 p2 pos2 : Pos} (hc : X.calm = true) (hg : Gl X "list") (hm : X.mg "list" = none) (hg2 : Gl X "range") (hm2 : X.mg "range" = none) (ha : PEd W X a pa) (na : starEach [a] X.env = (false, eval a X.env) :: starEach [] X.env := by rfl)
    (na2 : starEach [.Call (.Name "range" p1) [a] [] p2] X.env = (false, eval (.Call (.Name "range" p1) [a] [] p2) X.env) :: starEach [] X.env := by rfl) : PRd W X (.Call (.Name "list" p) [.Call (.Name "range" p1) [a] [] p2] [] pos) (dLstRg pa) :=
  ⟨fun F0 B => (pe_listRg hc hg hm (prg_1 hg2 hm2 (ha.run F0 B) na) na2).imp fun σ H Q ⟨F, ρ, K, E, q, k⟩ => ⟨F, ρ, _, E, q, fun s v as F1 H1 ⟨n, e1, h1, h2, z⟩ st sv _ => by
    subst e1
    refine ⟨n, sv.2.int_inv, RgOk.of_le (by omega) (by omega) (by omega) (by omega), fun q hq => ?_⟩
    have s2 := Step.own (o := .lst (rgV 0 n)) st.ok hq
    refine k _ _ [q] F1 _ z (st.trans E.ok s2) ⟨q, rgV 0 n, rfl, rfl, upd_same, ?_⟩ ((new1 st.ok hq).back E.ok st)
    have := isL_rg F1 0 n.toNat
    unfold rgV
    rw [Int.sub_zero]
    exact this⟩⟩
end
end DL
namespace DL
open PySem PySem.Spec L2
section
variable {W : Amb} {X : Cx} {F H F' H' : Hp} {e f o iter value : Expr} {es : List Expr} {pa pb pk pv : RE} {q : RQ} {px : RX} {pos pos' apos cpos p p2 p3 : Pos} {S : Bs} {i j m n : Nat} {x y z : Str} {σ : L2.St} {ρ : List Sd}
theorem EnvO.setT {os : List (List Addr)} (E : EnvO S F H σ ρ os) {xs zs : List (List Int × D)} {l : Addr} {ws : List (List Key × V)} (e : ρ[i]? = some (.ot xs)) (ev : σ[i]? = some (some (.ref l))) (il : IsT F ws zs) : EnvO S F (upd H l (.dT ws)) σ (ρ.set i (.ot zs)) (os.set i [l]) := by
  obtain ⟨o, as1, h1, h2, h3⟩ := E.sl.get e
  rw [ev] at h1
  cases h1
  obtain ⟨v', eo, l', ps', ev', eas, hd, hi⟩ := h3
  cases eo
  cases ev'
  subst eas
  exact E.repl (as' := [l]) h2 ev (by simp) (by simp) (fun c hc => .inl hc) ⟨l, ws, rfl, rfl, upd_same, il⟩
theorem SVQ.two {vs : List V} {ass : List (List Addr)} {s1 s2 : Sd} (h : SVQ F H vs ass [s1, s2]) : ∃ v w a1 a2, vs = [v, w] ∧ ass = [a1, a2] ∧ SV F H v a1 s1 ∧ SV F H w a2 s2 := by
  cases vs with
  | nil => cases ass <;> exact h.elim
  | cons v vs =>
    cases ass with
    | nil => exact h.elim
    | cons a1 ass =>
      obtain ⟨h1, h2⟩ := h
      cases vs with
      | nil => cases ass <;> exact h2.elim
      | cons w vs =>
        cases ass with
        | nil => exact h2.elim
        | cons a2 ass =>
          obtain ⟨h2, h3⟩ := h2
          cases vs with
          | nil =>
            cases ass with
            | nil => exact ⟨v, w, a1, a2, rfl, rfl, h1, h2⟩
            | cons _ _ => exact h3.elim
          | cons _ _ => cases ass <;> exact h3.elim
theorem SVQ.one {vs : List V} {ass : List (List Addr)} {ss : List Sd} {d : D} {s2 : Sd} (h : SVQ F H vs ass ss) (e : ss = [.d d, s2]) : ∃ v w as2, vs = [v, w] ∧ ass = [[], as2] ∧ Is F v d ∧ SV F H w as2 s2 := by
  subst e
  obtain ⟨v, w, a1, a2, rfl, rfl, h1, h2⟩ := h.two
  exact ⟨v, w, a2, rfl, by rw [h1.1], h1.2, h2⟩
/-- d[k], name = v, w : d a name's own dict, k a name -/
def sTupA (i j n : Nat) (q : RQ) : RS := fun K ρ => q ρ fun ss => ∃ d s2 kvs k, ss = [.d d, s2] ∧ ρ[i]? = some (.ot kvs) ∧ kvs.length < 100000 ∧ ρ[j]? = some (.d (.ints k)) ∧ K.nx ((ρ.set i (.ot (dput kvs k d))).set n s2)
theorem sd_tupA {a b : Expr} {k1 k2 : _} {pt pt2 : Pos} (hr : Room m X.A) (hc : X.calm = true) (hd : PE X (.Name x p) (tVar i)) (hk : PE X (.Name y p2) (tVar j)) (hN : X.N.Nodup) (hz : X.N[n]? = some z) (hl : Loc X.env.scope z) (ha : PQd W X [a, b] q)
    (hset : ∀ v, assign (.Subscript (.Name x p) (.Name y p2) pos') X.env v = (do
      let ov ← holding [v] (eval (.Name x p) X.env)
      let iv ← holding [v, ov] (eval (.Name y p2) X.env)
      standAt pos'
      holding [v, ov, iv] (setItem ov iv v)
      release [v, ov, iv] []) := by intro _; rfl)
    (h0 : (assignEach [.Subscript (.Name x p) (.Name y p2) pos', .Name z p3] X.env).map (·.2) = assign (.Subscript (.Name x p) (.Name y p2) pos') X.env :: (assignEach [.Name z p3] X.env).map (·.2) := by rfl)
    (h02 : (assignEach [.Name z p3] X.env).map (·.2) = assign (.Name z p3) X.env :: (assignEach [] X.env).map (·.2) := by rfl)
    (hlen : (assignEach [.Subscript (.Name x p) (.Name y p2) pos', .Name z p3] X.env).length = 2 := by rfl) (hst : (assignEach [.Subscript (.Name x p) (.Name y p2) pos', .Name z p3] X.env).findIdx? (·.1) = none := by rfl)
    (hs : swapsWithSole [.Tuple [.Subscript (.Name x p) (.Name y p2) pos', .Name z p3] k1 pt] (.Tuple [a, b] k2 pt2) pos.line X.env = pure false := by rfl) (hw : swappedStores [.Tuple [.Subscript (.Name x p) (.Name y p2) pos', .Name z p3] k1 pt] (.Tuple [a, b] k2 pt2) X.env = pure none := by rfl)
    (h1 : (assignEach [.Tuple [.Subscript (.Name x p) (.Name y p2) pos', .Name z p3] k1 pt] X.env).map (·.2) = [assign (.Tuple [.Subscript (.Name x p) (.Name y p2) pos', .Name z p3] k1 pt) X.env] := by rfl) (hf : X.fn z = true ∨ X.env.scope.names.lookup z = some .local := by first | exact .inl rfl | exact .inr rfl) :
    PSd W X (.Assign [.Tuple [.Subscript (.Name x p) (.Name y p2) pos', .Name z p3] k1 pt] (.Tuple [a, b] k2 pt2) pos) (sTupA i j n q) :=
  ⟨fun F0 B => (ps_asg (pe_tup (ha.run F0 B)) (pg_tup hc (pgs_cons (pg_sub hd hk (set_dict (hu_of hr)) hset) (pgs_cons (pg_name hN hz hl hf) pgs_nil h02) h0) hlen hst) hs hw h1).imp fun T σ H ⟨F, ρ, K, E, q, k⟩ =>
    ⟨F, ρ, _, E, q, fun ss vs ass F' H' ⟨d, s2, kvs, k', e1, e2, hz, e3, z⟩ st sq nd fr => by
      obtain ⟨v, w, as2, rfl, rfl, iv, sw⟩ := SVQ.one sq e1
      refine ⟨by show 2 ≤ sizeLine; decide, fun pp hp => ?_⟩
      have s2' := Step.own (o := .tup [v, w]) st.ok hp
      have s12 := st.trans E.ok s2'
      obtain ⟨os, E0⟩ := E.o
      have EO := E0.step s12
      obtain ⟨l, ps, g1, g2, g3⟩ := env_ot EO.env e2
      obtain ⟨vk, ak, g4, ⟨_, g5⟩, _⟩ := EO.env.get e3 (by intro z; cases z)
      obtain ⟨b', rfl, hb⟩ := g5.key
      have hl := g3.length
      refine ⟨pp, [v, w], rfl, SqT.of upd_same, rfl, v, [w], rfl, _, g1, _, g4, l, _, rfl, DPut.t g2 (EO.ok.fh _ _ hb) (big5 (by omega)), w, [], rfl, ?_⟩
      refine ⟨rfl, ?_⟩
      have EO2 := EO.setT e2 g1 (g3.put kT_inj (iv.mono s2'.ff) k')
      have fr' : ∀ c ∈ as2, H c = none ∧ F' c = none := fun c hc => fr c (by simp [hc])
      have old : ∀ c ∈ as2, c ∉ os.flatten := fun c hc hf => E0.sl.alive c hf (fr' c hc).1
      have nl : ∀ c ∈ as2, c ≠ l := fun c hc e => by
        obtain ⟨o, as1, h1, h2, h3⟩ := EO.sl.get e2
        rw [g1] at h1
        cases h1
        obtain ⟨v', eo, l', ps', ev', eas, hd, hi⟩ := h3
        cases eo; cases ev'; subst eas
        exact old c hc (List.mem_flatten.mpr ⟨_, List.mem_of_getElem? h2, by simp [e]⟩)
      have npp : ∀ c ∈ as2, c ≠ pp := fun c hc e => (sw.alive c hc) (e ▸ hp)
      have sw2 : SV F' (upd (upd H' pp (.tup [v, w])) l (.dT (putK ps (kT k') v))) w as2 s2 := sw.mono (Same.refl _) fun c hc => by rw [upd_ne (nl c hc), upd_ne (npp c hc)]
      have nd2 : as2.Nodup := by simpa using nd
      obtain ⟨os2, EO3, _⟩ := EO2.put n sw2 nd2 (fun c hc => ⟨(fr' c hc).2, (E.free (fr' c hc).1).1, E.ok.alive (fr' c hc).1⟩) fun c hc hf => by
        rcases flat_set_sub hf with y | y
        · simp at y; exact nl c hc y
        · exact old c hc y
      exact k.1 _ _ F' _ z EO3.env⟩⟩
/-- name, d[k] = v, w -/
def sTupB (n i j : Nat) (q : RQ) : RS := fun K ρ => q ρ fun ss => ∃ d s2 kvs k, ss = [s2, .d d] ∧ n ≠ i ∧ n ≠ j ∧ ρ[i]? = some (.ot kvs) ∧ kvs.length < 100000 ∧ ρ[j]? = some (.d (.ints k)) ∧ K.nx ((ρ.set n s2).set i (.ot (dput kvs k d)))
theorem SVQ.one2 {vs : List V} {ass : List (List Addr)} {ss : List Sd} {d : D} {s2 : Sd} (h : SVQ F H vs ass ss) (e : ss = [s2, .d d]) : ∃ v w as2, vs = [w, v] ∧ ass = [as2, []] ∧ Is F v d ∧ SV F H w as2 s2 := by
  subst e
  obtain ⟨v, w, a1, a2, rfl, rfl, h1, h2⟩ := h.two
  exact ⟨w, v, a1, rfl, by rw [h2.1], h2.2, h1⟩
theorem sd_tupB {a b : Expr} {k1 k2 : _} {pt pt2 : Pos} (hr : Room m X.A) (hc : X.calm = true) (hd : PE X (.Name x p) (tVar i)) (hk : PE X (.Name y p2) (tVar j)) (hN : X.N.Nodup) (hz : X.N[n]? = some z) (hl : Loc X.env.scope z) (ha : PQd W X [a, b] q)
    (hset : ∀ v, assign (.Subscript (.Name x p) (.Name y p2) pos') X.env v = (do
      let ov ← holding [v] (eval (.Name x p) X.env)
      let iv ← holding [v, ov] (eval (.Name y p2) X.env)
      standAt pos'
      holding [v, ov, iv] (setItem ov iv v)
      release [v, ov, iv] []) := by intro _; rfl)
    (h0 : (assignEach [.Name z p3, .Subscript (.Name x p) (.Name y p2) pos'] X.env).map (·.2) = assign (.Name z p3) X.env :: (assignEach [.Subscript (.Name x p) (.Name y p2) pos'] X.env).map (·.2) := by rfl)
    (h02 : (assignEach [.Subscript (.Name x p) (.Name y p2) pos'] X.env).map (·.2) = assign (.Subscript (.Name x p) (.Name y p2) pos') X.env :: (assignEach [] X.env).map (·.2) := by rfl)
    (hlen : (assignEach [.Name z p3, .Subscript (.Name x p) (.Name y p2) pos'] X.env).length = 2 := by rfl) (hst : (assignEach [.Name z p3, .Subscript (.Name x p) (.Name y p2) pos'] X.env).findIdx? (·.1) = none := by rfl)
    (hs : swapsWithSole [.Tuple [.Name z p3, .Subscript (.Name x p) (.Name y p2) pos'] k1 pt] (.Tuple [a, b] k2 pt2) pos.line X.env = pure false := by rfl) (hw : swappedStores [.Tuple [.Name z p3, .Subscript (.Name x p) (.Name y p2) pos'] k1 pt] (.Tuple [a, b] k2 pt2) X.env = pure none := by rfl)
    (h1 : (assignEach [.Tuple [.Name z p3, .Subscript (.Name x p) (.Name y p2) pos'] k1 pt] X.env).map (·.2) = [assign (.Tuple [.Name z p3, .Subscript (.Name x p) (.Name y p2) pos'] k1 pt) X.env] := by rfl) (hf : X.fn z = true ∨ X.env.scope.names.lookup z = some .local := by first | exact .inl rfl | exact .inr rfl) :
    PSd W X (.Assign [.Tuple [.Name z p3, .Subscript (.Name x p) (.Name y p2) pos'] k1 pt] (.Tuple [a, b] k2 pt2) pos) (sTupB n i j q) :=
  ⟨fun F0 B => (ps_asg (pe_tup (ha.run F0 B)) (pg_tup hc (pgs_cons (pg_name hN hz hl hf) (pgs_cons (pg_sub hd hk (set_dict (hu_of hr)) hset) pgs_nil h02) h0) hlen hst) hs hw h1).imp fun T σ H ⟨F, ρ, K, E, q, k⟩ =>
    ⟨F, ρ, _, E, q, fun ss vs ass F' H' ⟨d, s2, kvs, k', e1, ni, nj, e2, hz, e3, z⟩ st sq nd fr => by
      obtain ⟨v, w, as2, rfl, rfl, iv, sw⟩ := SVQ.one2 sq e1
      refine ⟨by show 2 ≤ sizeLine; decide, fun pp hp => ?_⟩
      have s2' := Step.own (o := .tup [w, v]) st.ok hp
      have s12 := st.trans E.ok s2'
      obtain ⟨os, E0⟩ := E.o
      have EO := E0.step s12
      have fr' : ∀ c ∈ as2, H c = none ∧ F' c = none := fun c hc => fr c (by simp [hc])
      have old : ∀ c ∈ as2, c ∉ os.flatten := fun c hc hf => E0.sl.alive c hf (fr' c hc).1
      have npp : ∀ c ∈ as2, c ≠ pp := fun c hc e => (sw.alive c hc) (e ▸ hp)
      have sw2 : SV F' (upd H' pp (.tup [w, v])) w as2 s2 := sw.mono (Same.refl _) fun c hc => upd_ne (npp c hc)
      have nd2 : as2.Nodup := by simpa using nd
      obtain ⟨os2, EO3, _⟩ := EO.put n sw2 nd2 (fun c hc => ⟨(fr' c hc).2, (E.free (fr' c hc).1).1, E.ok.alive (fr' c hc).1⟩) old
      have e2' : (ρ.set n s2)[i]? = some (.ot kvs) := by rw [List.getElem?_set_ne ni]; exact e2
      have e3' : (ρ.set n s2)[j]? = some (.d (.ints k')) := by rw [List.getElem?_set_ne nj]; exact e3
      obtain ⟨l, ps, g1, g2, g3⟩ := env_ot EO3.env e2'
      obtain ⟨vk, ak, g4, ⟨_, g5⟩, _⟩ := EO3.env.get e3' (by intro z; cases z)
      obtain ⟨b', rfl, hb⟩ := g5.key
      have hl := g3.length
      refine ⟨pp, [w, v], rfl, SqT.of upd_same, rfl, w, [v], rfl, v, [], rfl, _, g1, _, g4, l, _, rfl, DPut.t g2 (EO3.ok.fh _ _ hb) (big5 (by omega)), rfl, ?_⟩
      exact k.1 _ _ F' _ z (EO3.setT e2' g1 (g3.put kT_inj (iv.mono s2'.ff) k')).env⟩⟩
end
end DL
namespace SX
open PySem PySem.Spec PyProof.Rows L2
section
variable {prog : Program} {w : World} {A : Around} {E : Value → Shared → Prop} {s : Shared}
theorem sorted_go {l : Addr} {T : String} {o : Obj} {n : Nat} {us : List Value} {ltv : Value → Value → Bool} {Q : Value → Shared → Prop} (O : SrtO.Swo ltv) (hT : T = "list" ∨ T = "tuple") (ho : s.heap.get? l = some o) (hc : o.cls = .type T) (hd : o.data = .seq us.toArray n) (hz : us.length ≤ sizeLine)
    (hS : 2 ≤ us.length → ∀ (h₁ : Heap) (a : Addr), h₁.get? a = some (seqObj "list" us.toArray 0) → (∀ b o, s.heap.get? b = some o → h₁.get? b = some o) → (∀ b o, s.heap.get? b = some o → b ≠ a) → SrtO.SortableO prog w A.in1.in1 { s with heap := h₁ } a us ltv)
    (fin : ∀ (h1 h2 : Heap) (out : List Value) (c : Nat), (∀ b o, s.heap.get? b = some o → h1.get? b = some o) → SrtO.Srtd ltv out → SrtO.Stb ltv out us → (∀ b o, h1.get? b = some o → h2.get? b = some o) → h2.get? h1.objs.size = some (seqObj "list" out.toArray c) → Q (.ref h1.objs.size) { s with heap := h2 }) :
    wpAny (model prog w) A (call (.builtin "sorted") [.ref l]) Q E s := by
  refine Calls.call_function_entry kind_sorted plain_sorted entry_sorted (args_sorted1 _) ?_
  unfold Builtin.«sorted»
  refine wpAny_bind (m := checkCount "sorted" 1 1 _) (wpAny_pure (wpAny_bind (wpAny_collect_seq l hT ho hc hd (fun h1 hk => ?_) (by rw [List.size_toArray]; exact hz))))
  have e0 : us.toArray.toList = us := by simp
  rw [e0]
  refine wpAny_bind (wpAny_newList ?_ hz)
  have hL : (h1.push (seqObj "list" us.toArray 0)).get? h1.objs.size = some (seqObj "list" us.toArray 0) := Heap.get?_push_size _ rfl
  have k2 : ∀ b o, h1.get? b = some o → (h1.push (seqObj "list" us.toArray 0)).get? b = some o := fun b o q => Heap.get?_push_of_some _ q
  refine wpAny_bind (wpAny_holding (wpAny_call_entry slot_list_sort ⟨_, hL, rfl⟩ entry_list_sort (SrtO.list_sort_ord (s := { s with heap := h1.push (seqObj "list" us.toArray 0) }) O hL hz (fun h2 => hS h2 _ _ hL (fun b o q => k2 b o (hk b o q)) fun b o q => Nat.ne_of_lt (Heap.lt_size (hk b o q))) fun out hs hb => ⟨_, rfl, ?_⟩) (args_list_sort _)))
  obtain ⟨c, hcc⟩ := PyProof.Rows.sortedHeap_at (vs := us) (out := out.toArray) hL
  refine wpAny_pure ⟨_, rfl, fin h1 _ out c hk hs hb (fun b o q => ?_) hcc⟩
  have lt := Heap.lt_size q
  show (sortedHeap (h1.push (seqObj "list" us.toArray 0)) h1.objs.size us out.toArray).get? b = some o
  rw [PyProof.Rows.sortedHeap_old (Nat.ne_of_lt lt) (by rw [size_push']; exact Nat.lt_succ_of_lt lt)]
  exact k2 b o q
theorem sorted_seq {l : Addr} {k : Bool} {us : List Value} {ltv : Value → Value → Bool} {Q : Value → Shared → Prop} (O : SrtO.Swo ltv) (hl : DL.HsB k s.heap l us.toArray) (hz : us.length ≤ sizeLine)
    (hS : 2 ≤ us.length → ∀ (h₁ : Heap) (a : Addr), h₁.get? a = some (seqObj "list" us.toArray 0) → (∀ b o, s.heap.get? b = some o → h₁.get? b = some o) → (∀ b o, s.heap.get? b = some o → b ≠ a) → SrtO.SortableO prog w A.in1.in1 { s with heap := h₁ } a us ltv)
    (fin : ∀ (h1 h2 : Heap) (out : List Value) (c : Nat), (∀ b o, s.heap.get? b = some o → h1.get? b = some o) → SrtO.Srtd ltv out → SrtO.Stb ltv out us → (∀ b o, h1.get? b = some o → h2.get? b = some o) → h2.get? h1.objs.size = some (seqObj "list" out.toArray c) → Q (.ref h1.objs.size) { s with heap := h2 }) :
    wpAny (model prog w) A (call (.builtin "sorted") [.ref l]) Q E s := by
  cases k with
  | true => obtain ⟨o, ho, hc, n, hd⟩ := hl; exact sorted_go O (.inl rfl) ho hc hd hz hS fin
  | false => obtain ⟨o, ho, hc, n, hd⟩ := hl; exact sorted_go O (.inr rfl) ho hc hd hz hS fin
/-! ### tuples of ints of any lengths, the first of them empty -/
/-- the value holds these items -/
def TupV (h : Heap) (v : Value) (us : List Value) : Prop := ∃ a o n, v = .ref a ∧ h.get? a = some o ∧ o.cls = .type "tuple" ∧ o.data = .seq us.toArray n
theorem tup_obj {o : Obj} {us : List Value} {n : Nat} (hc : o.cls = .type "tuple") (hd : o.data = .seq us.toArray n) : o = { cls := .type "tuple", dict := o.dict, data := .seq us.toArray n, slots := o.slots } := by
  obtain ⟨c, d, dt, sl⟩ := o
  simp only at hc hd
  subst hc hd
  rfl
theorem lt_tups {v u : Value} {xs ys : List Value} {ns ms : List Int} {Q : Bool → Shared → Prop} (hu : A.units < cLine) (hv : TupV s.heap v xs) (hw : TupV s.heap u ys) (ix : IntsAre xs ns) (iy : IntsAre ys ms) (q : Q (HT.lexLt ns ms) s) : wpAny (model prog w) A (keyLt' oneType' v u) Q E s := by
  obtain ⟨a, o, n, rfl, ga, ca, da⟩ := hv
  obtain ⟨b, o2, n2, rfl, gb, cb, db⟩ := hw
  have tv : PySem.W.Looks (model prog w) s.heap (typeOf (.ref a)) (.type "tuple") := by
    have := (PySem.W.Looks.ld (M := model prog w) (part := Option.none) ga).andThen (f := fun o => pure o.cls) (b := o.cls) .now
    rw [ca] at this
    exact this
  have tu : ∀ M : Model, PySem.W.Looks M s.heap (typeOf (.ref b)) (.type "tuple") := fun M => by
    have := (PySem.W.Looks.ld (M := M) (part := Option.none) gb).andThen (f := fun o => pure o.cls) (b := o2.cls) .now
    rw [cb] at this
    exact this
  have sp : PySem.W.Looks (model prog w) s.heap (specialOf (.ref a) "__lt__") (some (.builtin "tuple.__lt__")) := tv.andThen (.of_pure PySem.F.slot_tuple_lt.lookup)
  have iu : ∀ M : Model, PySem.W.Looks M s.heap (isInstance (.ref b) (.type "tuple")) true := fun M => (tu M).andThen (.of_pure isSubtype_tuple_tuple)
  rw [keyLt'_oneType, oneLt'_eq]
  simp only [if_true]
  refine wpAny_bind (wpAny_cRoomFor hu (wpAny_bind (NtL.csib (E := E) sp (PySem.F.slot_tuple_lt.bind _) ?_)))
  have ga' := ga
  have gb' := gb
  rw [tup_obj ca da] at ga'
  rw [tup_obj cb db] at gb'
  exact call_meets PySem.F.slot_tuple_lt ⟨o, ga, ca⟩ PySem.F.entry_tuple_lt (PySem.F.args_tuple_lt_2 _ _) (NtL.nt_lt_ints a b (.type "tuple") (.type "tuple") xs.toArray ys.toArray n n2 o.dict o2.dict o.slots o2.slots ns ms (by simpa using ix) (by simpa using iy)) ⟨ga', gb', iu, wpAny_truthy_bool q⟩
theorem firsts_go {M : Model} {g : Value → List Value} : ∀ (vs : List Value) {Q : List (Option Value) → Shared → Prop}, (∀ v ∈ vs, TupV s.heap v (g v)) → Q (vs.map fun v => (g v)[0]?) s → wpAny M A (vs.mapM firstOfTuple') Q E s
  | [], _, _, q => by rw [List.mapM_nil]; exact wpAny_pure q
  | v :: vs, Q, t, q => by
    obtain ⟨a, o, n, e, ho, hc, hd⟩ := t v List.mem_cons_self
    rw [List.mapM_cons]
    refine wpAny_bind ?_
    rw [PySem.W.kas_first_eq, e]
    refine wpAny_bind (PySem.W.Looks.here (show PySem.W.Looks M s.heap (typeOf (.ref a)) o.cls from (PySem.W.Looks.ld ho).andThen .now) ?_)
    rw [hc, if_neg (by first | decide | simp)]
    refine wpAny_bind (listItems_at ho hd (wpAny_pure ?_))
    have e2 : (g v).toArray[0]? = (g v)[0]? := by simp
    rw [e2]
    exact wpAny_bind (firsts_go vs (Q := fun bs s' => wpAny M A (pure ((g v)[0]? :: bs)) Q E s') (fun u hu => t u (List.mem_cons_of_mem _ hu)) (wpAny_pure q))
theorem kind_first0 {M : Model} {g : Value → List Value} {v1 v2 : Value} {rest : List Value} {Q : SortKind → Shared → Prop} (t : ∀ v ∈ v1 :: v2 :: rest, TupV s.heap v (g v)) (h0 : g v1 = []) (q : Q oneType' s) : wpAny M A (keyKind' (v1 :: v2 :: rest).toArray) Q E s := by
  rw [PyProof.Rows.kat_kind_eq, List.mapM_toArray, map_eq_pure_bind]
  refine wpAny_bind (wpAny_bind (firsts_go (g := g) _ t (wpAny_pure ?_)))
  have hh : ((g v1)[0]? : Option Value) = none := by rw [h0]; rfl
  rw [List.map_cons, hh]
  rw [if_neg (by simp), if_neg (by simp)]
  have ty : ∀ v ∈ v1 :: v2 :: rest, PySem.W.Looks M s.heap (typeOf v) (.type "tuple") := fun v hv => by
    obtain ⟨a, o, n, e, ho, hc, hd⟩ := t v hv
    have := (PySem.W.Looks.ld (M := M) (part := Option.none) ho).andThen (f := fun o => pure o.cls) (b := o.cls) .now
    rw [hc] at this
    rw [e]
    exact this
  rw [oneTypeOnly'_eq, List.mapM_toArray, map_eq_pure_bind]
  refine wpAny_bind (wpAny_bind (wpAny_bind (PySem.W.kas_mapM (r := .type "tuple") _ (fun v hv Q' hq => (ty v hv).here hq) (wpAny_pure ?_))))
  have hall : ((List.map (fun _ => Value.type "tuple") (v1 :: v2 :: rest)).toArray.all fun x => x == Value.type "tuple") = true := by
    rw [List.all_toArray, List.all_map]
    exact List.all_eq_true.mpr fun _ _ => (show (Value.type "tuple" == Value.type "tuple") = true by decide)
  have hz : (List.map (fun _ => Value.type "tuple") (v1 :: v2 :: rest)).toArray[0]? = some (Value.type "tuple") := by simp
  rw [hz]
  simp only [hall, if_true]
  exact wpAny_pure (wpAny_pure q)
theorem sortable0 {a : Addr} {us : List Value} {g : Value → List Value} {f : Value → List Int} (hu : A.units < cLine) (h2 : 2 ≤ us.length) (h0 : ∀ v, us[0]? = some v → g v = []) (t : ∀ v ∈ us, TupV s.heap v (g v) ∧ IntsAre (g v) (f v)) (ha : ∀ v ∈ us, v ≠ .ref a) : SrtO.SortableO prog w A s a us fun v u => HT.lexLt (f v) (f u) := by
  intro h' keep
  have t' : ∀ v ∈ us, TupV h' v (g v) := fun v hv => by
    obtain ⟨b, o, n, e, ho, hc, hd⟩ := (t v hv).1
    exact ⟨b, o, n, e, keep b o (fun z => ha v hv (by rw [e, z])) ho, hc, hd⟩
  refine ⟨oneType', fun Q E hq => ?_, fun p q hp hq => ?_⟩
  · match us, h2, h0, t' with
    | v1 :: v2 :: rest, _, h0, t' => exact kind_first0 (s := { s with heap := h' }) t' (h0 v1 rfl) hq
  · exact lt_tups (s := { s with heap := h' }) (Q := fun r s' => s' = { s with heap := h' } ∧ r = HT.lexLt (f p.1) (f q.1)) (E := fun _ _ => False) hu (t' _ hp) (t' _ hq) (t _ hp).2 (t _ hq).2 ⟨rfl, rfl⟩
end
/-! ### a set of a list of ints -/
section
variable {P : Program} {w : World} {A : Around} {E : Value → Shared → Prop} {s : Shared}
abbrev set0 (w : World) : Obj := { cls := .type "set", dict := none, data := .set #[] 0 (.fresh 0 0 (!w.params.followText "set-order")) }
abbrev withSet (w : World) (hp : Heap) : Heap := hp.push (set0 w)
theorem set_of_list {l : Addr} {us : Array Value} (ks : List Int) {Q : Value → Shared → Prop} (calm : A.handled = none) (hl : s.heap.IsList l us) (hu : IntsAre us.toList ks) (hb : ks.length + 1 < scanBound)
    (fin : ∀ (h' : Heap) (tk m : Nat), SetR w h' s.heap.objs.size (fun j => decide (j ∈ ks)) m → m ≤ ks.length → (∀ b o, s.heap.get? b = some o → h'.get? b = some o) → Q (.ref s.heap.objs.size) { s with heap := h', toks := tk }) :
    wpAny (model P w) A (call (.type "set") [.ref l]) Q E s := by
  have zu : us.size = ks.length := by have q := IntsAre.length hu; rwa [Array.length_toList] at q
  obtain ⟨c0, t0, mro0⟩ := F.called_set.mro
  have f1 := F.called_set.made
  have f2 := F.called_set.sub
  have f3 := F.called_set.notType
  have f4 := F.called_set.canCreate
  have f5 := F.typeCall_set_1 (.ref l)
  refine wpAny_call (codeAny_of_tree (show wpAny _ _ (callAny (.type "set") _) _ _ _ from wpAny_pure ⟨Code.quiet_builtin _ (by decide +kernel), codeAny_builtin F.entry_type_call ?_⟩))
  rw [Around.under_plain (weight_type_call_type "set" [.ref l] []) rfl]
  repeat (any_goals (first | assumption | wp_step))
  refine codeAny_mono (L2.code_set_led1 (.ref l) (E := E) (Q₁ := fun ob s1 => ob = .ref s.heap.objs.size ∧ s1 = { s with heap := withSet w s.heap }) ⟨rfl, rfl⟩) fun r s1 hr => ?_
  cases r with
  | error x => exact hr
  | ok fl =>
    cases fl with
    | ret ob =>
      obtain ⟨rfl, rfl⟩ := hr
      have gS : (withSet w s.heap).get? s.heap.objs.size = some (set0 w) := Heap.get?_push_size _ rfl
      have tS : Shared.TypeIs { s with heap := withSet w s.heap } (.ref s.heap.objs.size) "set" := ⟨_, gS, rfl⟩
      have i1 := F.called_set.init.lookup
      have i2 := F.called_set.init.bind (.ref s.heap.objs.size)
      repeat (any_goals (first | assumption | wp_step))
      refine codeAny_mono (codeAny_call_builtin (R := wants (fun r s2 => r = .none ∧ ∃ h' tk m, s2 = { s with heap := h', toks := tk } ∧ SetR w h' s.heap.objs.size (fun j => decide (j ∈ ks)) m ∧ m ≤ ks.length ∧ (∀ b o, s.heap.get? b = some o → h'.get? b = some o)) E)
        F.called_set.init.plain F.entry_set_init (check_set_init_1 tS ?_)) fun r2 s2 hr2 => ?_
      · obtain ⟨⟨lc, ld, lx, ls⟩, gl, cl, nl, dl⟩ := hl
        simp only at cl dl
        subst cl
        subst dl
        have gl' : (withSet w s.heap).get? l = some { cls := .type "list", dict := ld, data := .seq us nl, slots := ls } := Heap.get?_push_of_some _ gl
        have b1 := F.sub_list_set
        have b2 := F.sub_list_frozenset
        have b3 : (Value.type "list" == Value.type "dict") = false := by decide
        have ll : (withSet w s.heap).IsList l us := ⟨_, gl', rfl, nl, rfl⟩
        unfold Builtin.«set.__init__» noKeywords Builtin.Frozenset.updateFrom
        generalize hgo : pyIter = go
        wp_walk
        subst hgo
        refine wpAny_pyIter_list ll (wpAny_bind (wpAny_runValue ?_))
        have lS : l < s.heap.objs.size := Heap.lt_size gl
        have calm3 : A.in1.in1.in1.handled = none := by simp [calm]
        have z1 : (withSet w s.heap).objs.size = s.heap.objs.size + 1 := Heap.size_push ..
        have ne1 : l ≠ (withSet w s.heap).objs.size := by rw [z1]; exact Nat.ne_of_lt (Nat.lt_succ_of_lt lS)
        have no1 : s.heap.objs.size ∉ [(withSet w s.heap).objs.size, l] := by
          rw [z1]
          intro hm
          rcases List.mem_cons.mp hm with y | y
          · exact absurd y (Nat.ne_of_lt (Nat.lt_succ_self _))
          · exact absurd (List.mem_singleton.mp y) (Nat.ne_of_gt lS)
        have at1 : ∀ (i : Nat) (v : Value), us[i]? = some v → ∃ k t, ks[i]? = some k ∧ v = .int k t := fun i v hv => by
          have hi : i < ks.length := zu ▸ (Array.getElem?_eq_some_iff.mp hv).1
          obtain ⟨t, e⟩ := PyProof.Rows.IntsAre.int_at hu i v (by rw [Array.getElem?_toList]; exact hv)
          exact ⟨ks[i], t, List.getElem?_eq_getElem hi, by rw [e, List.getD_eq_getElem?_getD, List.getElem?_eq_getElem hi]; rfl⟩
        refine L2.set_update_ints ((Walks.list calm3 _ l ne1 us).toS) s.heap.objs.size no1 ks zu hb at1 (us.size - 0) 0 _ (by omega) (Nat.zero_le _) ⟨⟨_, Heap.get?_push_size _ rfl, rfl, rfl⟩, (ll.push _)⟩
          ⟨0, Nat.le_refl 0, L2.setR_new_at (Heap.get?_push_of_some _ gS)⟩ (fun s3 m hm hm1 hS3 => ?_)
        obtain ⟨h3, g3, d3, t3, o3⟩ := s3
        obtain rfl : g3 = s.gens := hm.gens
        obtain rfl : d3 = s.drawn := hm.drawn
        obtain rfl : o3 = s.os := hm.os
        rw [zu] at hm1
        refine wpAny_pure (show wpAny _ _ (ret Value.none) _ _ _ from wpAny_pure ⟨rfl, h3, t3, m, rfl, hS3, hm1, fun b o e => ?_⟩)
        have lb : b < s.heap.objs.size := Heap.lt_size e
        refine hm.heap b o (fun hin => ?_) (Heap.get?_push_of_some _ (Heap.get?_push_of_some _ e))
        rcases List.mem_cons.mp hin with y | y
        · exact absurd y (Nat.ne_of_lt lb)
        · have y := List.mem_singleton.mp y
          rw [z1] at y
          exact absurd y (Nat.ne_of_lt (Nat.lt_succ_of_lt lb))
      · cases r2 with
        | error x => exact hr2
        | ok fl2 =>
          cases fl2 with
          | ret v2 =>
            obtain ⟨rfl, h', tk, m, rfl, hS', hm', hk'⟩ := hr2
            repeat (any_goals (first | assumption | wp_step))
            exact fin _ _ _ hS' hm' hk'
          | _ => exact hr2.elim
    | _ => exact hr.elim
end
end SX
namespace SX
open PySem PySem.Spec PyProof.Rows L2 HT
/-! ### t[::-1] of a tuple -/
section
variable {prog : Program} {w : World} {A : Around} {E : Value → Shared → Prop} {s : Shared}
theorem adjust_rev (n : Nat) : Builtin.Slice.sliceAdjust none none (-1) (n : Int) = ((n : Int) - 1, -1) := by
  unfold Builtin.Slice.sliceAdjust
  simp
theorem places_rev (n : Nat) : Builtin.Slice.slicePlaces ((n : Int) - 1) (-1) (-1) = n := by
  unfold Builtin.Slice.slicePlaces
  simp only [show ¬ ((-1 : Int) > 0) by omega, if_false]
  split <;> simp <;> omega
theorem fm_congr {α β : Type} {f g : α → Option β} : ∀ {l : List α}, (∀ x ∈ l, f x = g x) → l.filterMap f = l.filterMap g
  | [], _ => rfl
  | x :: l, h => by rw [List.filterMap_cons, List.filterMap_cons, h x List.mem_cons_self, fm_congr fun y hy => h y (List.mem_cons_of_mem _ hy)]
theorem fm_some {α β : Type} (f : α → β) : ∀ l : List α, l.filterMap (fun x => some (f x)) = l.map f
  | [] => rfl
  | x :: l => by rw [List.filterMap_cons, List.map_cons, fm_some f l]
theorem pick_rev (xs : Array Value) : ((List.range xs.size).filterMap fun (m : Nat) => xs[((xs.size : Int) - 1 + (m : Int) * (-1)).toNat]?) = xs.toList.reverse := by
  have e : (List.range xs.size).filterMap (fun (m : Nat) => xs[((xs.size : Int) - 1 + (m : Int) * (-1)).toNat]?) = (List.range xs.size).filterMap (fun m => some (xs.toList.reverse.getD m Value.none)) := by
    refine fm_congr fun m hm => ?_
    have hm' : m < xs.size := List.mem_range.mp hm
    have e1 : ((xs.size : Int) - 1 + (m : Int) * (-1)).toNat = xs.size - 1 - m := by omega
    rw [e1, List.getD_eq_getElem?_getD, List.getElem?_reverse (by simpa using hm'), Array.length_toList]
    simp only [Array.getElem?_toList]
    rw [Array.getElem?_eq_getElem (by omega)]
    rfl
  rw [e, fm_some]
  refine List.ext_getElem (by simp) fun i h1 h2 => ?_
  simp only [List.length_map, List.length_range] at h1
  simp [List.getD_eq_getElem?_getD, h1]
theorem getItem_tuple_rev {t sl : Addr} {items : Array Value} {vs : Value} {Q : Value → Shared → Prop} (ht : IsTup s.heap t items) (hs : s.heap.IsSliceOf sl .none .none vs) (ps : IsPart vs (some (-1)))
    (q : Q (.ref s.heap.objs.size) { s with heap := s.heap.push { cls := .type "tuple", data := .seq items.toList.reverse.toArray } }) (hsz : items.size ≤ sizeLine) : wpAny (model prog w) A (getItem (.ref t) (.ref sl)) Q E s := by
  have fit : sizeOk (.seq items.toList.reverse.toArray) := by
    show items.toList.reverse.toArray.size ≤ sizeLine
    simpa using hsz
  obtain ⟨os, hos, hcs, hds⟩ := id hs
  have tS : s.TypeIs (.ref sl) "slice" := ⟨os, hos, hcs⟩
  unfold getItem
  try with_reducible refine wpAny_holding ?_
  first | refine wpAny_bind (wpAny_pure ?_) | skip
  refine wpAny_bind (wpAny_sequenceKey ht.typeIs (by decide) (wpAny_bind (wpAny_callSpecial?_slot (name := Str.ofString "__getitem__") ht.typeIs PyProof.Rows.slot_tuple_getitem
    (wpAny_call_entry PyProof.Rows.slot_tuple_getitem ht.typeIs entry_tuple_getitem ?_ (args_tuple_getitem _ _)))))
  show wpAny _ _ (Builtin.Tuple.tupleItemsOf (.ref t) >>= _) _ _ s
  refine wpAny_bind (tupleItemsOf_ ht (wpAny_bind (wpAny_typeOf tS ?_)))
  rw [if_pos (by decide)]
  refine wpAny_bind (show wpAny _ _ (Builtin.Slice.sliceApplied (.ref sl) (pure (items.size : Int))) _ _ s from ?_)
  unfold Builtin.Slice.sliceApplied Builtin.Slice.sliceFields
  refine wpAny_bind (wpAny_bind (wpAny_field hos hds (x := .none) rfl (wpAny_bind (wpAny_field hos hds (x := .none) rfl (wpAny_bind (wpAny_field hos hds (x := vs) rfl (wpAny_pure ?_)))))))
  refine wpAny_bind (slicePart_ ps ?_)
  show wpAny _ _ (if ((-1 : Int) == 0) = true then _ else _) _ _ s
  rw [if_neg (by decide)]
  refine wpAny_bind (slicePart_none (wpAny_bind (slicePart_none (wpAny_bind (wpAny_pure ?_)))))
  show wpAny _ _ (match Builtin.Slice.sliceAdjust none none (-1) (items.size : Int) with | (lo, hi) => pure (lo, (-1 : Int), Builtin.Slice.slicePlaces lo hi (-1))) _ _ s
  rw [adjust_rev]
  show wpAny _ _ (pure ((items.size : Int) - 1, (-1 : Int), Builtin.Slice.slicePlaces ((items.size : Int) - 1) (-1) (-1))) _ _ s
  rw [places_rev]
  refine wpAny_pure ?_
  have no : ¬ (((((items.size : Int) - 1) == 0 && (-1 : Int) == 1 && items.size == items.size)) = true) := by simp
  show wpAny _ _ (if ((((items.size : Int) - 1) == 0 && (-1 : Int) == 1 && items.size == items.size)) = true then _ else _) _ _ s
  rw [if_neg no, pick_rev]
  first
    | exact wpAny_bind (m := Builtin.Tuple.tupleExact _) (wpAny_newObj_type (wpAny_pure ⟨_, rfl, wpAny_pure q⟩) fit)
    | exact wpAny_bind (m := Builtin.Tuple.tupleExact _) (wpAny_newObj_type (wpAny_bind (wpAny_pure (wpAny_pure ⟨_, rfl, wpAny_pure q⟩))) fit)
    | exact wpAny_bind (wpAny_bind (m := Builtin.Tuple.tupleExact _) (wpAny_newObj_type (wpAny_pure (wpAny_pure ⟨_, rfl, wpAny_pure q⟩)) fit))
    | exact wpAny_bind (wpAny_bind (m := Builtin.Tuple.tupleExact _) (wpAny_newObj_type (wpAny_pure ⟨_, rfl, wpAny_pure q⟩) fit))
end
end SX
namespace L2
open PySem PySem.Spec PyProof.Rows
section
variable {X : Cx} {pos : Pos}
def tRevT (K : PySem.W.Frag) (te : TE) : TE := fun σ H Q => te σ H fun x H1 => ∃ a xs, x = .ref a ∧ SqT K H1 a xs ∧ ∀ p, H1 p = none → Q (.ref p) (upd H1 p (.tup xs.reverse))
theorem pe_revT {e : Expr} {te : TE} {k : Nat} {p1 p2 p3 pos : Pos} (he : PE X e te) : PE X (.Subscript e (.Slice none none (some (.UnaryOp .USub (.Constant (.int 1) k p1) p2)) p3) pos) (tRevT X.K te) := by
  refine ⟨fun pins s σ H Q I h => Subscript_ (thn (he.run pins s σ H _ I h) fun v s1 ⟨x, H1, I1, r1, a, xs, ex, hx, q⟩ => ?_)⟩
  subst ex
  cases r1
  have hst : PO X (some (.UnaryOp .USub (.Constant (.int 1) k p1) p2)) (tPart (tUn (rU fun i => .int (-i)) (tC (.int 1)))) := po_some (pe_un un_neg pe_int)
  have hp0 := po_none (X := X)
  refine wpAny_Slice (thn (hp0.run pins s1 σ H1 (fun o K1 => o = none ∧ K1 = H1) I1 ⟨rfl, rfl⟩) fun vl s2 ⟨o1, K1, I2, pl, g1, g2⟩ => thn (hp0.run pins s2 σ K1 (fun o K2 => o = none ∧ K2 = K1) I2 ⟨rfl, rfl⟩) fun vu s3 ⟨o2, K2, I3, pu, g3, g4⟩ => ?_)
  subst g1 g2 g3 g4
  cases pl
  cases pu
  refine thn (hst.run pins s3 σ K2 (fun o K3 => o = some (-1) ∧ K3 = K2) I3 ⟨1, rfl, -1, rfl, rfl, rfl⟩) fun vs s4 ⟨o, H4, I4, ps, g5, g6⟩ => ?_
  subst g5 g6
  have I5 : Inv X pins σ H4 { s4 with heap := s4.heap.push { cls := .type "slice", data := .fields #[.none, .none, vs] } } := I4.kept (t' := s4.toks) fun b ob q => Heap.get?_push_of_some _ q
  obtain ⟨its, r, ht, hz⟩ := I5.tuple hx
  have hlen := r.length
  show wpAny (model X.prog X.w) X.A (subscriptTail e (.Slice none none (some (.UnaryOp .USub (.Constant (.int 1) k p1) p2)) p3) (.ref a) (.ref s4.heap.objs.size)) (EP X pins σ Q) X.xe { s4 with heap := s4.heap.push { cls := .type "slice", data := .fields #[.none, .none, vs] } }
  refine tail_any (ops := [.ref a, .ref s4.heap.objs.size]) ht.typeIs (PyProof.Rows.slot_tuple_getitem.lookup) ?_ (by with_unfolding_all rfl)
  refine SX.getItem_tuple_rev ht (Heap.IsSliceOf.new _ _ _ vs) ps ?_ (by rw [List.size_toArray]; omega)
  refine ⟨.ref _, _, I5.laid (t' := s4.toks) (o := .tup xs.reverse) (fun b ob q => Heap.get?_push_of_some _ q) (Nat.le_refl _) ?_, rfl, q _ (I5.hok.fresh (Nat.le_refl _))⟩
  exact ⟨by rw [List.length_reverse]; exact hz, _, r.reverse, ⟨_, Heap.get?_push_size _ rfl, rfl, _, rfl⟩⟩
end
end L2
namespace L2
open PySem PySem.Spec PyProof.Rows DL
section
variable {X : Cx}
theorem seqBz {pins : List (Addr × Obj)} {σ : St} {H : Hp} {s : Shared} {a : Addr} {xs : List V} {k : Bool} (I : Inv X pins σ H s) (h : SqB X.K k H a xs) : ∃ its : List Value, Vals xs its ∧ HsB k s.heap a its.toArray ∧ xs.length ≤ sizeLine := by
  cases k with
  | true =>
    obtain ⟨its, r, p, z⟩ := I.list h
    exact ⟨its, r, p.isList, z⟩
  | false =>
    obtain ⟨its, r, p, z⟩ := I.tuple h
    exact ⟨its, r, p, z⟩
/-- sorted of ints -/
def rSortQ (K : PySem.W.Frag) : List V → Hp → VK → Prop := fun vs H Q => ∃ (k : Bool) (a : Addr) (ns : List Int), vs = [V.ref a] ∧ SqB K k H a (ns.map V.int) ∧ ∀ (ns' : List Int) (p : Addr), ns'.Perm ns → ns'.Pairwise (· ≤ ·) → H p = none → Q (.ref p) (upd H p (.lst (ns'.map V.int)))
theorem cr_sortQ : CallR X (.builtin "sorted") (rSortQ X.K) := by
  intro pins s σ H vs us Q I r h
  obtain ⟨k, a, ns, rfl, hs, q⟩ := h
  obtain ⟨its, rv, hl, hz⟩ := seqBz I hs
  rw [Vals.ref1 r]
  have hi := rv.ints
  refine SX.sorted_seq SrtO.swo_int hl (by rw [← rv.length]; exact hz) (fun h2 h₁ a' _ _ _ => SrtO.ints_sortable hi h2) fun h1 h2 out c hk o1 o2 hk2 hc => ?_
  obtain ⟨k1, k2, k3⟩ := SrtO.ints_out hi o1 o2
  have I1 : Inv X pins σ H { s with heap := h1 } := I.kept (t' := s.toks) hk
  have hlen : ((out.map SrtO.iv).map V.int).length ≤ sizeLine := by
    rw [List.length_map, k2.length_eq]
    rw [List.length_map] at hz
    exact hz
  exact ⟨.ref _, upd H h1.objs.size (.lst ((out.map SrtO.iv).map V.int)), I1.laid (t' := s.toks) (h' := h2) hk2 (Nat.le_refl _) ⟨hlen, out, c, vals_of_ints k1, hc⟩, rfl, q _ _ k2 k3 (I1.hok.fresh (Nat.le_refl _))⟩
/-- set of ints -/
def rSetQ (K : PySem.W.Frag) (w : World) : List V → Hp → VK → Prop := fun vs H Q => ∃ (k : Bool) (a : Addr) (ns : List Int), vs = [V.ref a] ∧ SqB K k H a (ns.map V.int) ∧ ns.length < 64 ∧ ∀ (p : Addr) (m : Nat), H p = none → m ≤ ns.length → Q (.ref p) (upd H p (SetO w p (fun j => decide (j ∈ ns)) m))
theorem cr_setQ (hc : X.calm = true) : CallR X (.type "set") (rSetQ X.K X.w) := by
  intro pins s σ H vs us Q I r h
  obtain ⟨k, a, ns, rfl, hs, h64, q⟩ := h
  obtain ⟨its, rv, hl, hz⟩ := seqBz I hs
  rw [Vals.ref1 r]
  have fin : ∀ (h' : Heap) (tk m : Nat), SetR X.w h' s.heap.objs.size (fun j => decide (j ∈ ns)) m → m ≤ ns.length → (∀ b o, s.heap.get? b = some o → h'.get? b = some o) → EP X pins σ Q (.ref s.heap.objs.size) { s with heap := h', toks := tk } := fun h' tk m R hm hk =>
    ⟨.ref _, upd H s.heap.objs.size (SetO X.w s.heap.objs.size (fun j => decide (j ∈ ns)) m), I.laid (t' := tk) hk (Nat.le_refl _) (setO_new R), rfl, q _ m (I.hok.fresh (Nat.le_refl _)) hm⟩
  have hb : ns.length + 1 < scanBound := by unfold scanBound; omega
  cases k with
  | true => exact SX.set_of_list ns (I.ok.hd hc) hl (by simpa using rv.ints) hb fin
  | false => exact call_set_tupI ns (I.ok.hd hc) hl (by simpa using rv.ints) hb fin
/-- sorted of tuples of ints, the first of them empty -/
def rSort0 (K : PySem.W.Frag) : List V → Hp → VK → Prop := fun vs H Q => ∃ (a : Addr) (xs : List V) (f : V → List Int), vs = [V.ref a] ∧ SqL K H a xs ∧ (∀ x ∈ xs, TupI K H x (f x)) ∧ (∀ x, xs[0]? = some x → f x = []) ∧ ∀ (ys : List V) (p : Addr), ys.Perm xs → H p = none → Q (.ref p) (upd H p (.lst ys))
theorem tupV_inj {h : Heap} {v : Value} {xs ys : List Value} (a : SX.TupV h v xs) (b : SX.TupV h v ys) : xs = ys := by
  obtain ⟨p, o, n, e, ho, hc, hd⟩ := a
  obtain ⟨p', o', n', e', ho', hc', hd'⟩ := b
  rw [e] at e'
  cases e'
  rw [ho] at ho'
  cases ho'
  rw [hd] at hd'
  injection hd' with h1 h2
  simpa using h1
theorem cr_sort0 (hu : X.A.units + 2 < cLine) : CallR X (.builtin "sorted") (rSort0 X.K) := by
  intro pins s σ H vs us Q I r h
  obtain ⟨a, xs, f, rfl, hs, hx, h0, q⟩ := h
  obtain ⟨its, rv, hl, hz⟩ := I.list hs
  rw [Vals.ref1 r]
  obtain ⟨e1, e2⟩ := bkV_refs rv fun x m => by
    obtain ⟨t, e, _⟩ := hx x m
    exact ⟨t, e⟩
  have tv : ∀ v ∈ its, ∃ zs, SX.TupV s.heap v zs ∧ IntsAre zs (f (bkV v)) := fun v hv => by
    obtain ⟨t, e3⟩ := e2 v hv
    have hm : bkV v ∈ xs := by rw [e1]; exact List.mem_map.mpr ⟨v, hv, rfl⟩
    obtain ⟨t', e4, hq⟩ := hx _ hm
    rw [e3] at e4
    cases e4
    obtain ⟨zs, rz, ⟨o, ho, hc, n, hd⟩, _⟩ := I.tuple hq
    refine ⟨zs, ⟨t, o, n, e3, ho, hc, hd⟩, ?_⟩
    rw [e3]
    rw [e3] at rz
    exact rz.ints
  have ne : Nonempty (List Value) := ⟨[]⟩
  have gv : ∀ v ∈ its, SX.TupV s.heap v (Classical.epsilon (SX.TupV s.heap v)) ∧ IntsAre (Classical.epsilon (SX.TupV s.heap v)) (f (bkV v)) := fun v hv => by
    obtain ⟨zs, a1, a2⟩ := tv v hv
    have := Classical.epsilon_spec (p := SX.TupV s.heap v) ⟨zs, a1⟩
    refine ⟨this, ?_⟩
    rw [tupV_inj this a1]
    exact a2
  refine SX.sorted_seq (k := true) (ltv := fun v u => HT.lexLt (f (bkV v)) (f (bkV u))) (NtL.swo_lexL fun v => f (bkV v)) hl.isList (by rw [← rv.length]; exact hz) (fun h2 h₁ a' _ hk hn => ?_) fun h1 h2 out c hk o1 o2 hk2 hc => ?_
  · refine SX.sortable0 (s := { s with heap := h₁ }) (g := fun v => Classical.epsilon (SX.TupV s.heap v)) (f := fun v => f (bkV v)) (by simpa using hu) h2 (fun v hv => ?_) (fun v hv => ?_) fun v hv e3 => ?_
    · have hv' : v ∈ its := List.mem_of_getElem? hv
      have z := (gv v hv').2
      have : f (bkV v) = [] := h0 _ (by rw [e1, List.getElem?_map, hv]; rfl)
      rw [this] at z
      exact List.eq_nil_of_length_eq_zero (IntsAre.length z)
    · obtain ⟨⟨b, o, n, b1, b2, b3, b4⟩, z⟩ := gv v hv
      exact ⟨⟨b, o, n, b1, hk _ _ b2, b3, b4⟩, z⟩
    · obtain ⟨⟨b, o, n, b1, b2, b3, b4⟩, z⟩ := gv v hv
      rw [b1] at e3
      cases e3
      exact hn _ _ b2 rfl
  · have I1 : Inv X pins σ H { s with heap := h1 } := I.kept (t' := s.toks) hk
    have h3 : ∀ u ∈ out, ∃ a, u = Value.ref a := fun u hu => e2 u (o2.perm.mem_iff.mp hu)
    have hp : (out.map bkV).Perm xs := by rw [e1]; exact o2.perm.map bkV
    exact ⟨.ref _, upd H h1.objs.size (.lst (out.map bkV)), I1.laid (t' := s.toks) (h' := h2) hk2 (Nat.le_refl _) ⟨by rw [hp.length_eq]; exact hz, out, c, bkV_vals h3, hc⟩, rfl, q _ _ hp (I1.hok.fresh (Nat.le_refl _))⟩
end
end L2
namespace DL
open PySem PySem.Spec L2
theorem isL_perm {F : Hp} {α : Type} (g : α → D) {ys ys' : List V} (p : ys'.Perm ys) : ∀ {xs : List α}, IsL F ys (xs.map g) → ∃ xs' : List α, xs'.Perm xs ∧ IsL F ys' (xs'.map g) := by
  induction p with
  | nil => intro xs h; exact ⟨xs, List.Perm.refl _, h⟩
  | cons y _ ih =>
    intro xs h
    cases xs with
    | nil => exact h.elim
    | cons x xs =>
      obtain ⟨xs', p', h'⟩ := ih h.2
      exact ⟨x :: xs', p'.cons x, h.1, h'⟩
  | swap y z l =>
    intro xs h
    cases xs with
    | nil => exact h.elim
    | cons x xs =>
      cases xs with
      | nil => exact h.2.elim
      | cons x' xs => exact ⟨x' :: x :: xs, List.Perm.swap _ _ _, h.2.1, h.1, h.2.2⟩
  | trans _ _ ih1 ih2 =>
    intro xs h
    obtain ⟨xs1, p1, h1⟩ := ih2 h
    obtain ⟨xs2, p2, h2⟩ := ih1 h1
    exact ⟨xs2, p2.trans p1, h2⟩
section
variable {W : Amb} {X : Cx} {F H F' H' : Hp} {e : Expr} {pa : RE} {pos p p2 pos2 : Pos} {v : V} {as : List Addr} {s : Sd}
theorem SV.sqB {K : PySem.W.Frag} (h : SV F H v as s) (fh : Same F H) {xs : List D} (e : s.seq = some xs) : ∃ k l ys, v = .ref l ∧ SqB K k H l ys ∧ IsL F ys xs := by
  obtain ⟨l, ys, rfl, h1, h2⟩ := h.seq fh e
  rcases h1 with h1 | h1
  · exact ⟨true, l, ys, rfl, SqL.of h1, h2⟩
  · exact ⟨false, l, ys, rfl, SqT.of h1, h2⟩
/-- sorted(x), ints -/
def gSortI : List Sd → (Sd → Prop) → Prop := fun ss K => ∃ (s : Sd) (ns : List Int), ss = [s] ∧ s.seq = some (ns.map .int) ∧ ∀ ns' : List Int, ns'.Perm ns → ns'.Pairwise (· ≤ ·) → K (.ol (ns'.map .int))
theorem pr_sortI (hg : Gl X "sorted") (hm : X.mg "sorted" = none) (hv : bootBuiltins "sorted" = some (.builtin "sorted") := by decide +kernel) (ha : PEd W X e pa) (he : starEach [e] X.env = (false, eval e X.env) :: starEach [] X.env := by rfl) : PRd W X (.Call (.Name "sorted" p) [e] [] pos) (dCB gSortI (vCons pa vNil)) :=
  pr_callB cr_sortQ (fun F H vs ss K Q ok sv ⟨s, ns, e, hs, z⟩ k => by
    subst e
    obtain ⟨v, as, rfl, h1, h2⟩ := sv.one
    obtain ⟨kk, l, ys, rfl, h3, h4⟩ := h1.sqB (K := X.K) ok.fh hs
    rw [isL_ints h4] at h3
    exact ⟨kk, l, ns, rfl, h3, fun ns' q p1 p2 hq => k _ _ [q] F _ (z ns' p1 p2) (Step.own ok hq) ⟨q, _, rfl, rfl, upd_same, isL_of_ints ns'⟩ (new1 ok hq)⟩) hg hm hv (pvd_cons ha pvd_nil he) (he := he)
/-- sorted(set(x)), ints -/
def dSortSet (pa : RE) : RE := fun ρ K => pa ρ fun s => ∃ ns : List Int, s.seq = some (ns.map .int) ∧ ns.length < 64 ∧ ∀ ns' : List Int, ns'.Pairwise (· < ·) → (∀ k, k ∈ ns' ↔ k ∈ ns) → K (.ol (ns'.map .int))
theorem pr_sortSet (hc : X.calm = true) (hg : Gl X "sorted") (hm : X.mg "sorted" = none) (hg2 : Gl X "set") (hm2 : X.mg "set" = none) (ha : PEd W X e pa) (hv : bootBuiltins "sorted" = some (.builtin "sorted") := by decide +kernel) (hv2 : bootBuiltins "set" = some (.type "set") := by decide +kernel)
    (he : starEach [e] X.env = (false, eval e X.env) :: starEach [] X.env := by rfl) (he2 : starEach [.Call (.Name "set" p2) [e] [] pos2] X.env = (false, eval (.Call (.Name "set" p2) [e] [] pos2) X.env) :: starEach [] X.env := by rfl) :
    PRd W X (.Call (.Name "sorted" p) [.Call (.Name "set" p2) [e] [] pos2] [] pos) (dSortSet pa) := ⟨fun F0 B => (pe_callB (cr_sortedSet hc) hg hm hv (pa_cons (pe_callTy (cr_setQ hc) hg2 hm2 hv2 (pa_cons (ha.run F0 B) pa_nil he) (he := he)) pa_nil he2) (he := he2)).imp fun σ H Q ⟨F, ρ, K, E, q, k⟩ =>
  ⟨F, ρ, _, E, q, fun s v as F1 H1 ⟨ns, e1, h64, z⟩ st sv n => by
    obtain ⟨kk, l, ys, rfl, h3, h4⟩ := sv.sqB (K := X.K) st.ok.fh e1
    rw [isL_ints h4] at h3
    refine ⟨kk, l, ns, rfl, h3, h64, fun q m hq hm => ?_⟩
    have s2 := Step.own (o := SetO X.w q (fun j => decide (j ∈ ns)) m) st.ok hq
    refine ⟨q, _, m, rfl, upd_same, by omega, fun ns' r p1 p2 _ hr => ?_⟩
    have s3 := Step.own (o := .lst (ns'.map V.int)) s2.ok hr
    have s12 := st.trans E.ok s2
    exact k _ _ [r] F1 _ (z ns' p1 fun j => by rw [p2 j, decide_eq_true_eq]) (s12.trans E.ok s3) ⟨r, _, rfl, rfl, upd_same, isL_of_ints ns'⟩ ((new1 s2.ok hr).back E.ok s12)⟩⟩
/-- the rows of ints -/
def rowsD (rows : List (List Int)) : List D := rows.map D.ints
theorem isL_rows {F : Hp} : ∀ {ys : List V} {rows : List (List Int)}, IsL F ys (rowsD rows) → ∀ y ∈ ys, ∃ r ∈ rows, ∃ t, y = V.ref t ∧ F t = some (.tup (r.map V.int))
  | [], [], _, y, h => by simp at h
  | y0 :: ys, r0 :: rows, h, y, hy => by
    rcases List.mem_cons.mp hy with e | e
    · obtain ⟨t, zs, e2, h1, h2⟩ := h.1.tup_inv
      rw [isL_ints h2] at h1
      exact ⟨r0, by simp, t, by rw [e, e2], h1⟩
    · obtain ⟨r, hr, q⟩ := isL_rows (ys := ys) (rows := rows) h.2 y e
      exact ⟨r, by simp [hr], q⟩
  | [], _ :: _, h, _, _ => h.elim
  | _ :: _, [], h, _, _ => h.elim
/-- sorted of rows, the first of them empty -/
def gSort0 : List Sd → (Sd → Prop) → Prop := fun ss K => ∃ (s : Sd) (rows : List (List Int)), ss = [s] ∧ s.list = some (rowsD ([] :: rows)) ∧ ∀ rows' : List (List Int), rows'.Perm ([] :: rows) → K (.ol (rowsD rows'))
theorem hu2 {k : Nat} {A : Around} (hr : Room (k + 1) A) : A.units + 2 < cLine := by
  have := hr.un
  omega
theorem pr_sort0 {k : Nat} (hr : Room (k + 1) X.A) (hg : Gl X "sorted") (hm : X.mg "sorted" = none) (hv : bootBuiltins "sorted" = some (.builtin "sorted") := by decide +kernel) (ha : PEd W X e pa) (he : starEach [e] X.env = (false, eval e X.env) :: starEach [] X.env := by rfl) : PRd W X (.Call (.Name "sorted" p) [e] [] pos) (dCB gSort0 (vCons pa vNil)) :=
  pr_callB (cr_sort0 (hu2 hr)) (fun F H vs ss K Q ok sv ⟨s, rows, e, hs, z⟩ k => by
    subst e
    obtain ⟨v, as, rfl, h1, h2⟩ := sv.one
    obtain ⟨l, ys, rfl, h3, h4⟩ := h1.list ok.fh hs
    have ex := isL_rows h4
    have hd : ∀ x, ys[0]? = some x → ∃ t, x = V.ref t ∧ F t = some (.tup []) := fun x hx => by
      have i0 := h4.at 0 x (.ints []) hx (by simp [rowsD])
      obtain ⟨t, zs, e2, g1, g2⟩ := i0.tup_inv
      have : zs = [] := by cases zs with | nil => rfl | cons _ _ => exact g2.elim
      exact ⟨t, e2, by rw [this] at g1; exact g1⟩
    have ne : Nonempty (List Int) := ⟨[]⟩
    have tf : ∀ x ∈ ys, (fun r : List Int => ∃ t, x = V.ref t ∧ F t = some (.tup (r.map V.int))) (Classical.epsilon fun r : List Int => ∃ t, x = V.ref t ∧ F t = some (.tup (r.map V.int))) := fun x hx => by
      obtain ⟨r, _, t, e1, e2⟩ := ex x hx
      exact Classical.epsilon_spec (p := fun r : List Int => ∃ t, x = V.ref t ∧ F t = some (.tup (r.map V.int))) ⟨r, t, e1, e2⟩
    refine ⟨l, ys, fun x => Classical.epsilon fun r : List Int => ∃ t, x = V.ref t ∧ F t = some (.tup (r.map V.int)), rfl, SqL.of h3, fun x hx => ?_, fun x hx => ?_, fun ys' q hp hq => ?_⟩
    · obtain ⟨t, e1, e2⟩ := tf x hx
      exact ⟨t, e1, SqT.of (ok.fh _ _ e2)⟩
    · obtain ⟨t, e1, e2⟩ := hd x hx
      obtain ⟨t', e3, q⟩ := tf x (List.mem_of_getElem? hx)
      rw [e1] at e3
      cases e3
      show (Classical.epsilon fun r : List Int => ∃ t, x = V.ref t ∧ F t = some (.tup (r.map V.int))) = []
      rw [e2] at q
      have q2 : ([] : List V) = (Classical.epsilon fun r : List Int => ∃ t, x = V.ref t ∧ F t = some (.tup (r.map V.int))).map V.int := by
        injection q with q
        injection q
      exact List.map_eq_nil_iff.mp q2.symm
    · obtain ⟨rows', p1, p2⟩ := isL_perm D.ints hp h4
      exact k _ _ [q] F _ (z rows' p1) (Step.own ok hq) ⟨q, _, rfl, rfl, upd_same, p2⟩ (new1 ok hq)) hg hm hv (pvd_cons ha pvd_nil he) (he := he)
/-- sorted of rows of one length -/
def gSortE : List Sd → (Sd → Prop) → Prop := fun ss K => ∃ (s : Sd) (rows : List (List Int)) (d : Nat) (B : Int), ss = [s] ∧ s.list = some (rowsD rows) ∧ 1 ≤ d ∧ rows.length < 64 ∧ (∀ r ∈ rows, r.length = d ∧ ∀ m ∈ r, 0 ≤ m ∧ m < B) ∧ ∀ rows' : List (List Int), rows'.Perm rows → K (.ol (rowsD rows'))
theorem pr_sortE (hg : Gl X "sorted") (hm : X.mg "sorted" = none) (hv : bootBuiltins "sorted" = some (.builtin "sorted") := by decide +kernel) (ha : PEd W X e pa) (he : starEach [e] X.env = (false, eval e X.env) :: starEach [] X.env := by rfl) : PRd W X (.Call (.Name "sorted" p) [e] [] pos) (dCB gSortE (vCons pa vNil)) :=
  pr_callB (r := fun vs H Q => ∃ (d : Nat) (B : Int), 1 ≤ d ∧ rSortU X.K d B vs H Q) (fun pins s σ H xs us Q I r ⟨d, B, hd, h⟩ => cr_sortT (d := d) (B := B) hd pins s σ H xs us Q I r h) (fun F H vs ss K Q ok sv ⟨s, rows, d, B, e, hs, hd, h64, hb, z⟩ k => by
    subst e
    obtain ⟨v, as, rfl, h1, h2⟩ := sv.one
    obtain ⟨l, ys, rfl, h3, h4⟩ := h1.list ok.fh hs
    have hl := h4.length
    refine ⟨d, B, hd, l, ys, rfl, SqL.of h3, by rw [hl]; simpa [rowsD] using h64, fun x hx => ?_, fun ys' q hp _ hq => ?_⟩
    · obtain ⟨r, hr, t, e1, e2⟩ := isL_rows h4 x hx
      exact ⟨r, ⟨t, e1, SqT.of (ok.fh _ _ e2)⟩, (hb r hr).1, (hb r hr).2⟩
    · obtain ⟨rows', p1, p2⟩ := isL_perm D.ints hp h4
      exact k _ _ [q] F _ (z rows' p1) (Step.own ok hq) ⟨q, _, rfl, rfl, upd_same, p2⟩ (new1 ok hq)) hg hm hv (pvd_cons ha pvd_nil he) (he := he)
/-- t[::-1], l[::-1] -/
def dRevA (pa : RE) : RE := fun ρ K => pa ρ fun s => ∃ xs, s.tup = some xs ∧ K (.d (.tup xs.reverse))
theorem pr_revT {k : Nat} {q1 q2 q3 : Pos} (he : PEd W X e pa) : PRd W X (.Subscript e (.Slice none none (some (.UnaryOp .USub (.Constant (.int 1) k q1) q2)) q3) pos) (dRevA pa) := ⟨fun F0 B => (pe_revT (he.run F0 B)).imp fun σ H Q ⟨F, ρ, K, E, q, k⟩ => ⟨F, ρ, _, E, q, fun s v as F1 H1 ⟨xs, e1, z⟩ st sv n => by
  obtain ⟨l, ys, rfl, h0, h1, h2⟩ := sv.tup st.ok.fh e1
  refine ⟨l, ys, rfl, SqT.of h1, fun p hp => ?_⟩
  have s2 := Step.new (o := .tup ys.reverse) st.ok hp
  exact k _ _ [] _ _ z (st.trans E.ok s2) ⟨rfl, .tup' upd_same ((h2.rev).mono s2.ff)⟩ New.nil⟩⟩
end
end DL
namespace DL
open PySem PySem.Spec L2
/-- the names of built-ins are free -/
structure Fts (mg : Str → Option Value) : Prop where
  m_len : mg "len" = none
  m_isinstance : mg "isinstance" = none
  m_all : mg "all" = none
  m_zip : mg "zip" = none
  m_enumerate : mg "enumerate" = none
  m_tuple : mg "tuple" = none
  m_sorted : mg "sorted" = none
  m_set : mg "set" = none
  m_range : mg "range" = none
  m_list : mg "list" = none
  m_abs : mg "abs" = none
  m_int : mg "int" = none
  m_bool : mg "bool" = none
  m_sum : mg "sum" = none
  m_min : mg "min" = none
  m_repr : mg "repr" = none
/-- the def of the top, by its name -/
structure DF (K : PySem.W.Frag) (mg : Str → Option Value) (x : Str) (st : Stmt) : Prop where
  ex : ∃ a fd, mg x = some (.ref a) ∧ FunD K x x (defArgs st) (defBody st) (defScope st) [] [] a fd
theorem bok {N : List Str} {sc scope : Scope} {own : List (Str × Nat)} (h : blkC N sc scope own = true) : BlkOk N sc scope own := blkOk_by h
section
variable {P : Program} {w : World} {K : PySem.W.Frag} {mg : Str → Option Value} {base : Heap} {x : Str} {st : Stmt} {N ps : List Str} {k n : Nat} {f : DSpec}
theorem cl_of (d : DF K mg x st) (S : FnScope N ps (defScope st)) (hn : ps.length = n)
    (hbi : ∀ (kV doc pm : Value) (an : Option Addr) (cdv ct : Value) (us : List Value), us.length = ps.length → bindArgs (PySem.W.fnOf x x (defArgs st) (defBody st) (defScope st) .none kV doc pm an cdv ct) ⟨us, []⟩ = pure (ps.zip us)) {pr : Amb → RS}
    (hlen : ∀ W ds K, f W ds K → ds.length = ps.length)
    (hb : ∀ (a : Addr) (W : Amb) (cdv : Value) (A : Around) (outer : List PySem.Env) (s : Shared) (H : Hp) (E : XK), Room k (A.deeper (PyProof.Rows.envOfC x (defScope st) s.heap.objs.size a cdv)) → PSsd W (cxOf CX0 P w K mg base N x (defScope st) a cdv A outer s H E).nox (defBody st) (pr W))
    (hp : ∀ (W : Amb) (ds : List D) (K : D → Prop), f W ds K → pr W { nx := fun _ => K .non, rt := K } (startD N.length ds)) : Cl P w K mg base (k + 1) x n f := by
  obtain ⟨a, fd, hm, F⟩ := d.ex
  exact ⟨a, fd, ps, hm, F.kp, hn, F.bindsN hbi, fn_ok F S hlen (fun W cdv A outer s H E hr => hb a W cdv A outer s H E hr) hp⟩
theorem Cl.up {j : Nat} (c : Cl P w K mg base k x n f) (h : j ≤ k) : True := trivial
end
end DL
namespace DL
open PySem PySem.Spec L2
/-! ### what the words give -/
section
variable {xs : List D} {x : D} {i : Int} {b : Bool} {kvs : List (List Int × D)} {kvi : List (Int × D)} {kvo : List (List Int × List D)} {t : Str}
theorem w_list1 : (Sd.d (.lst xs)).list = some xs := rfl
theorem w_list2 : (Sd.ol xs).list = some xs := rfl
theorem w_seq1 : (Sd.d (.lst xs)).seq = some xs := rfl
theorem w_seq2 : (Sd.ol xs).seq = some xs := rfl
theorem w_seq3 : (Sd.d (.tup xs)).seq = some xs := rfl
theorem w_tup : (Sd.d (.tup xs)).tup = some xs := rfl
theorem w_tup1 : (Sd.d (.lst xs)).tup = none := rfl
theorem w_tup2 : (Sd.ol xs).tup = none := rfl
theorem w_list3 : (Sd.d (.tup xs)).list = none := rfl
theorem w_frz1 : (Sd.d x).frz = some x := rfl
theorem w_frz2 : (Sd.ol xs).frz = some (.lst xs) := rfl
theorem w_frz3 : (Sd.ot kvs).frz = some (.dct kvs) := rfl
theorem w_frz4 : (Sd.oi kvi).frz = none := rfl
theorem w_frz5 : (Sd.oo kvo).frz = none := rfl
theorem w_dat1 : (Sd.d x).dat = some x := rfl
theorem w_dat2 : (Sd.ol xs).dat = some (.lst xs) := rfl
theorem w_dct1 : (Sd.d (.dct kvs)).dct = some kvs := rfl
theorem w_dct2 : (Sd.ot kvs).dct = some kvs := rfl
theorem w_ty1 : (Sd.d .non).ty = some "NoneType" := rfl
theorem w_ty2 : (Sd.d (.bl b)).ty = some "bool" := rfl
theorem w_ty3 : (Sd.d (.int i)).ty = some "int" := rfl
theorem w_ty4 : (Sd.d (.str t)).ty = some "str" := rfl
theorem w_ty5 : (Sd.d (.tup xs)).ty = some "tuple" := rfl
theorem w_ty6 : (Sd.d (.lst xs)).ty = some "list" := rfl
theorem w_ty7 : (Sd.ol xs).ty = some "list" := rfl
theorem w_fr1 : (Sd.d x).fr = .d x := rfl
theorem w_fr2 : (Sd.ol xs).fr = .any := rfl
theorem w_fr3 : (Sd.ot kvs).fr = .any := rfl
theorem w_fr4 : Sd.any.fr = .any := rfl
theorem w_fr5 : (Sd.oi kvi).fr = .any := rfl
theorem w_fr6 : (Sd.oo kvo).fr = .any := rfl
theorem w_sq1 : (D.lst xs).sq = some xs := rfl
theorem w_sq2 : (D.tup xs).sq = some xs := rfl
theorem w_fz1 : (Sd.ol xs).fz = .d (.lst xs) := rfl
theorem w_fz2 : (Sd.ot kvs).fz = .d (.dct kvs) := rfl
theorem w_fz3 : (Sd.oo kvo).fz = .d (.dct (kvo.map fun kv => (kv.1, .lst kv.2))) := rfl
theorem w_fz4 : (Sd.d x).fz = .d x := rfl
theorem w_isN1 : (Sd.d .non).isN = true := rfl
theorem w_isN2 : (Sd.d (.tup xs)).isN = false := rfl
theorem w_isN3 : (Sd.d (.int i)).isN = false := rfl
theorem w_isN4 : (Sd.d (.lst xs)).isN = false := rfl
theorem w_isN5 : (Sd.d (.bl b)).isN = false := rfl
theorem w_sc1 {j : Int} : sameSc (.int i) (.int j) = some (decide (i = j)) := rfl
theorem w_sc2 {c : Bool} : sameSc (.bl b) (.bl c) = some (decide (b = c)) := rfl
theorem w_sc3 {u : Str} : sameSc (.str t) (.str u) = some (decide (t = u)) := rfl
theorem D.sq_cases (h : x.sq = some xs) : x = .lst xs ∨ x = .tup xs := by
  cases x <;> first | (cases h; exact .inl rfl) | (cases h; exact .inr rfl) | cases h
theorem ex_bl {Q : List Bool → Prop} {s : Sd} (bs : List Bool) (h : s.list = some (bs.map .bl)) (q : Q bs) : ∃ bs : List Bool, s.list = some (bs.map .bl) ∧ Q bs := ⟨bs, h, q⟩
end
/-! ### reading comprehensions -/
section
variable {pi : RI} {pt : RT} {pe : RE} {ρ : List Sd} {K : Sd → Prop} {xs : List D} {i j : Nat}
theorem lcN (p : D → Bool) (f : D → D) (hi : ∀ K' : List D → Prop, K' xs → pi ρ K') (hz : xs.length ≤ 100000)
    (hb : ∀ x ∈ xs, ∀ K' : Bool → Prop, K' (p x) → pt ((blk ρ [i]).set i (.d x)) K') (he : ∀ x ∈ xs, p x = true → ∀ K' : Sd → Prop, (∀ s, s.frz = some (f x) → K' s) → pe ((blk ρ [i]).set i (.d x)) K')
    (k : K (.ol ((xs.filter p).map f))) : dLc pi [i] tgN pt pe ρ K := by
  refine hi _ ⟨hz, fun n acc => acc = ((xs.take n).filter p).map f, by simp, fun n x ys acc hx ht iv => ?_, fun n x _ => ⟨[x], rfl⟩, fun acc iv => by rw [iv, List.take_length]; exact k⟩
  rw [show ys = [x] from ht]
  have hm : x ∈ xs := List.mem_of_getElem? hx
  have ht : xs.take (n + 1) = xs.take n ++ [x] := by rw [List.take_add_one, hx]; rfl
  refine hb x hm _ ⟨fun e => he x hm e _ fun s hs => ⟨f x, hs, ?_⟩, fun e => ?_⟩
  · dsimp only at iv ⊢; rw [iv, ht, List.filter_append, List.map_append]; simp [e]
  · dsimp only at iv ⊢; rw [iv, ht, List.filter_append, List.map_append]; simp [e]
theorem lcP (p : D → Bool) (f : D → D) (hi : ∀ K' : List D → Prop, K' xs → pi ρ K') (hz : xs.length ≤ 100000) (hp : ∀ x ∈ xs, ∃ a b, x = .tup [a, b])
    (hb : ∀ a b, .tup [a, b] ∈ xs → ∀ K' : Bool → Prop, K' (p (.tup [a, b])) → pt (((blk ρ [i, j]).set i (.d a)).set j (.d b)) K') (he : ∀ a b, .tup [a, b] ∈ xs → p (.tup [a, b]) = true → ∀ K' : Sd → Prop, (∀ s, s.frz = some (f (.tup [a, b])) → K' s) → pe (((blk ρ [i, j]).set i (.d a)).set j (.d b)) K')
    (k : K (.ol ((xs.filter p).map f))) : dLc pi [i, j] tgP pt pe ρ K := by
  refine hi _ ⟨hz, fun n acc => acc = ((xs.take n).filter p).map f, by simp, fun n x ys acc hx ht iv => ?_, fun n x hx => ?_, fun acc iv => by rw [iv, List.take_length]; exact k⟩
  · have hm : x ∈ xs := List.mem_of_getElem? hx
    obtain ⟨a, b, e⟩ := hp x hm
    obtain ⟨e2, _⟩ := ht
    rw [e] at e2
    cases e2
    subst e
    have ht : xs.take (n + 1) = xs.take n ++ [.tup [a, b]] := by rw [List.take_add_one, hx]; rfl
    refine hb a b hm _ ⟨fun e => he a b hm e _ fun s hs => ⟨f (.tup [a, b]), hs, ?_⟩, fun e => ?_⟩
    · dsimp only at iv ⊢; rw [iv, ht, List.filter_append, List.map_append]; simp [e]
    · dsimp only at iv ⊢; rw [iv, ht, List.filter_append, List.map_append]; simp [e]
  · obtain ⟨a, b, e⟩ := hp x (List.mem_of_getElem? hx)
    exact ⟨[a, b], e, rfl⟩
end
/-! ### places -/
theorem atI_nat {α : Type} {xs : List α} {i : Nat} {x : α} (h : xs[i]? = some x) : L2.atI xs (i : Int) = some x := by
  have hi := (List.getElem?_eq_some_iff.mp h).1
  unfold L2.atI L2.ixN
  rw [if_pos (show (0 : Int) ≤ (i : Int) by omega), if_pos (show (i : Int) < (xs.length : Int) by omega)]
  simpa using h
theorem atI_0 {α : Type} {x : α} {xs : List α} : L2.atI (x :: xs) 0 = some x := atI_nat (i := 0) rfl
theorem atI_1 {α : Type} {x y : α} {xs : List α} : L2.atI (x :: y :: xs) 1 = some y := atI_nat (i := 1) rfl
theorem rangeD0 (n : Nat) : rangeD 0 n = (List.range n).map fun i : Nat => .int (i : Nat) := by
  unfold rangeD
  refine List.map_congr_left fun i _ => ?_
  rw [Int.zero_add]
/-! ### numbers of keys -/
def natsI (l : List Nat) : List Int := l.map fun i : Nat => (i : Int)
def sameN (a b : List Int) : List Nat := (List.range a.length).filter fun i => decide (a[i]? = b[i]?)
def diffN (a b : List Int) : List Nat := (List.range a.length).filter fun i => decide (a[i]? ≠ b[i]?)
def viewK (st : List Int) (lot : List Nat) : List Int := lot.map fun k => st.getD k 0
end DL
namespace DL
open PySem PySem.Spec L2 Tx
section
variable {P : Program} {w : World} {K : PySem.W.Frag} {mg : Str → Option Value} {base : Heap}
/-- plain data without names of objects -/
def D.kd (x : D) : Bool := (Sd.ty (.d x)).isSome
def D.isInt : D → Bool
  | .int _ => true
  | _ => false
def D.isNum : D → Bool
  | .int i => decide (0 ≤ i)
  | _ => false
def D.isIdx (m : Int) : D → Bool
  | .int i => decide (0 ≤ i) && decide (i < m)
  | _ => false
def D.isSeq : D → Bool
  | .lst _ => true
  | .tup _ => true
  | _ => false
def s_is_integer : DSpec := fun _ ds K => ∃ x, ds = [x] ∧ x.kd = true ∧ K (.bl x.isInt)
theorem sc_is_integer : FnScope ["value"] ["value"] (defScope f_is_integer) := ⟨rfl, rfl, rfl, by decide +kernel, rfl, by decide +kernel, by decide +kernel⟩
theorem c_is_integer (ft : Fts mg) (d : DF K mg "is_integer" f_is_integer) : Cl P w K mg base 2 "is_integer" 1 s_is_integer :=
  cl_of (k := 1) d sc_is_integer rfl (fun _ _ _ _ _ _ us hl => match us, hl with | [_], _ => rfl) (fun W ds K h => by obtain ⟨_, e, _⟩ := h; rw [e]; rfl) (fun a W cdv A outer s H E hr =>
  have nd := sc_is_integer.nd
  (ssd_one (sd_ret (pr_and (PRd.e (pr_isi (c := "int") (by decide) rfl ft.m_isinstance (pd_var (pv 0)) rfl ft.m_int (by decide +kernel))) (pr_one (pr_not (PRd.e (pr_isi (c := "bool") (by decide) rfl ft.m_isinstance (pd_var (pv 0)) rfl ft.m_bool (by decide +kernel)))))))))
   (fun W ds K h => by
    obtain ⟨x, rfl, hx, z⟩ := h
    cases x <;> first | (exfalso; revert hx; simp [D.kd, Sd.ty]; done) | (simp [sRet, sRetN, sNext, sSeq, sIf, sDrop, sSet, sSets, sFz, sAsg, sNever, sBrk, sCont, dAndV, dOrV, dNotV, dAnd, dOr, dNot, dTB, dIf, dIsi, dIsLT, dVar, dVarE, dC, d2, dT2, dCB, vCons, vNil, dCons, dNil, dTup, dLst, dCall, gIx, gAdd, gSub, gMul, gFdiv, gMod, gPow, gLt, gLe, gGt, gGe, gI, gI0, gEqS, gNeS, gLen, gList, gTuple, gAll, gSum, dIsN, dNotN, dYes, gN, gT, setsD, qCons, qNil, tgN, tgP, startD, fzAt, iS, iR1, iZ, iE, dPart, dNoPart, dSl, xOf, sApp, xPop, sSetX, w_list1, w_list2, w_list3, w_seq1, w_seq2, w_seq3, w_tup, w_tup1, w_tup2, w_frz1, w_frz2, w_frz3, w_dat1, w_dat2, w_dct1, w_dct2, w_ty1, w_ty2, w_ty3, w_ty4, w_ty5, w_ty6, w_ty7, w_fr1, w_fr2, w_fr3, w_fr4, w_fr5, w_fr6, w_sq1, w_sq2, w_fz1, w_fz2, w_fz3, w_fz4, w_isN1, w_isN2, w_isN3, w_isN4, w_isN5, w_sc1, w_sc2, w_sc3, isKind]; exact z))
def s_is_number : DSpec := fun _ ds K => ∃ x, ds = [x] ∧ x.kd = true ∧ K (.bl x.isNum)
theorem sc_is_number : FnScope ["value"] ["value"] (defScope f_is_number) := ⟨rfl, rfl, rfl, by decide +kernel, rfl, by decide +kernel, by decide +kernel⟩
theorem c_is_number (ft : Fts mg) (c_is_integer : Cl P w K mg base 2 "is_integer" 1 s_is_integer) (d : DF K mg "is_number" f_is_number) : Cl P w K mg base 3 "is_number" 1 s_is_number :=
  cl_of (k := 2) d sc_is_number rfl (fun _ _ _ _ _ _ us hl => match us, hl with | [_], _ => rfl) (fun W ds K h => by obtain ⟨_, e, _⟩ := h; rw [e]; rfl) (fun a W cdv A outer s H E hr =>
  have nd := sc_is_number.nd
  (ssd_one (sd_ret (pr_and (PRd.e (pr_call c_is_integer (hr.mono (by decide)) rfl (pad_cons (pr_var (pv 0)) pad_nil))) (pr_one (pr_ge (pd_var (pv 0)) (PRd.e pr_int)))))))
   (fun W ds K h => by
    obtain ⟨x, rfl, hx, z⟩ := h
    cases x <;> first | (exfalso; revert hx; simp [D.kd, Sd.ty]; done) | (simp [sRet, sRetN, sNext, sSeq, sIf, sDrop, sSet, sSets, sFz, sAsg, sNever, sBrk, sCont, dAndV, dOrV, dNotV, dAnd, dOr, dNot, dTB, dIf, dIsi, dIsLT, dVar, dVarE, dC, d2, dT2, dCB, vCons, vNil, dCons, dNil, dTup, dLst, dCall, gIx, gAdd, gSub, gMul, gFdiv, gMod, gPow, gLt, gLe, gGt, gGe, gI, gI0, gEqS, gNeS, gLen, gList, gTuple, gAll, gSum, dIsN, dNotN, dYes, gN, gT, setsD, qCons, qNil, tgN, tgP, startD, fzAt, iS, iR1, iZ, iE, dPart, dNoPart, dSl, xOf, sApp, xPop, sSetX, w_list1, w_list2, w_list3, w_seq1, w_seq2, w_seq3, w_tup, w_tup1, w_tup2, w_frz1, w_frz2, w_frz3, w_dat1, w_dat2, w_dct1, w_dct2, w_ty1, w_ty2, w_ty3, w_ty4, w_ty5, w_ty6, w_ty7, w_fr1, w_fr2, w_fr3, w_fr4, w_fr5, w_fr6, w_sq1, w_sq2, w_fz1, w_fz2, w_fz3, w_fz4, w_isN1, w_isN2, w_isN3, w_isN4, w_isN5, w_sc1, w_sc2, w_sc3, s_is_integer, hx, D.isInt]; simpa [D.isNum] using z))
end
end DL
namespace DL
open PySem PySem.Spec L2 Tx
section
variable {P : Program} {w : World} {K : PySem.W.Frag} {mg : Str → Option Value} {base : Heap}
def s_is_index : DSpec := fun _ ds K => ∃ x m, ds = [x, .int m] ∧ x.kd = true ∧ K (.bl (x.isIdx m))
theorem sc_is_index : FnScope ["value", "many"] ["value", "many"] (defScope f_is_index) := ⟨rfl, rfl, rfl, by decide +kernel, rfl, by decide +kernel, by decide +kernel⟩
theorem c_is_index (ft : Fts mg) (c_is_number : Cl P w K mg base 3 "is_number" 1 s_is_number) (d : DF K mg "is_index" f_is_index) : Cl P w K mg base 4 "is_index" 2 s_is_index :=
  cl_of (k := 3) d sc_is_index rfl (fun _ _ _ _ _ _ us hl => match us, hl with | [_, _], _ => rfl) (fun W ds K h => by obtain ⟨_, _, e, _⟩ := h; rw [e]; rfl) (fun a W cdv A outer s H E hr =>
  have nd := sc_is_index.nd
  (ssd_one (sd_ret (pr_and (PRd.e (pr_call c_is_number (hr.mono (by decide)) rfl (pad_cons (pr_var (pv 0)) pad_nil))) (pr_one (pr_lt (pd_var (pv 0)) (pd_var (pv 1))))))))
   (fun W ds K h => by
    obtain ⟨x, m, rfl, hx, z⟩ := h
    cases x <;> first | (exfalso; revert hx; simp [D.kd, Sd.ty]; done) | (simp [sRet, sRetN, sNext, sSeq, sIf, sDrop, sSet, sSets, sFz, sAsg, sNever, sBrk, sCont, dAndV, dOrV, dNotV, dAnd, dOr, dNot, dTB, dIf, dIsi, dIsLT, dVar, dVarE, dC, d2, dT2, dCB, vCons, vNil, dCons, dNil, dTup, dLst, dCall, gIx, gAdd, gSub, gMul, gFdiv, gMod, gPow, gLt, gLe, gGt, gGe, gI, gI0, gEqS, gNeS, gLen, gList, gTuple, gAll, gSum, dIsN, dNotN, dYes, gN, gT, setsD, qCons, qNil, tgN, tgP, startD, fzAt, iS, iR1, iZ, iE, dPart, dNoPart, dSl, xOf, sApp, xPop, sSetX, w_list1, w_list2, w_list3, w_seq1, w_seq2, w_seq3, w_tup, w_tup1, w_tup2, w_frz1, w_frz2, w_frz3, w_dat1, w_dat2, w_dct1, w_dct2, w_ty1, w_ty2, w_ty3, w_ty4, w_ty5, w_ty6, w_ty7, w_fr1, w_fr2, w_fr3, w_fr4, w_fr5, w_fr6, w_sq1, w_sq2, w_fz1, w_fz2, w_fz3, w_fz4, w_isN1, w_isN2, w_isN3, w_isN4, w_isN5, w_sc1, w_sc2, w_sc3, s_is_number, hx, D.isNum]; simpa [D.isIdx] using z) | skip
    rename_i i
    simp [sRet, sRetN, sNext, sSeq, sIf, sDrop, sSet, sSets, sFz, sAsg, sNever, sBrk, sCont, dAndV, dOrV, dNotV, dAnd, dOr, dNot, dTB, dIf, dIsi, dIsLT, dVar, dVarE, dC, d2, dT2, dCB, vCons, vNil, dCons, dNil, dTup, dLst, dCall, gIx, gAdd, gSub, gMul, gFdiv, gMod, gPow, gLt, gLe, gGt, gGe, gI, gI0, gEqS, gNeS, gLen, gList, gTuple, gAll, gSum, dIsN, dNotN, dYes, gN, gT, setsD, qCons, qNil, tgN, tgP, startD, fzAt, iS, iR1, iZ, iE, dPart, dNoPart, dSl, xOf, sApp, xPop, sSetX, w_list1, w_list2, w_list3, w_seq1, w_seq2, w_seq3, w_tup, w_tup1, w_tup2, w_frz1, w_frz2, w_frz3, w_dat1, w_dat2, w_dct1, w_dct2, w_ty1, w_ty2, w_ty3, w_ty4, w_ty5, w_ty6, w_ty7, w_fr1, w_fr2, w_fr3, w_fr4, w_fr5, w_fr6, w_sq1, w_sq2, w_fz1, w_fz2, w_fz3, w_fz4, w_isN1, w_isN2, w_isN3, w_isN4, w_isN5, w_sc1, w_sc2, w_sc3, s_is_number, hx, D.isNum]
    by_cases hi : 0 ≤ i
    · simp [hi, D.isIdx] at z
      exact ⟨fun _ => z, fun h => absurd h (by omega)⟩
    · simp [hi, D.isIdx] at z
      exact ⟨fun h => absurd h hi, fun _ => z⟩)
def s_is_sequence : DSpec := fun _ ds K => ∃ x, ds = [x] ∧ x.kd = true ∧ K (.bl x.isSeq)
theorem sc_is_sequence : FnScope ["value"] ["value"] (defScope f_is_sequence) := ⟨rfl, rfl, rfl, by decide +kernel, rfl, by decide +kernel, by decide +kernel⟩
theorem c_is_sequence (ft : Fts mg) (d : DF K mg "is_sequence" f_is_sequence) : Cl P w K mg base 2 "is_sequence" 1 s_is_sequence :=
  cl_of (k := 1) d sc_is_sequence rfl (fun _ _ _ _ _ _ us hl => match us, hl with | [_], _ => rfl) (fun W ds K h => by obtain ⟨_, e, _⟩ := h; rw [e]; rfl) (fun a W cdv A outer s H E hr =>
  have nd := sc_is_sequence.nd
  (ssd_one (sd_ret (pr_isLT rfl ft.m_isinstance (pd_var (pv 0)) rfl ft.m_list rfl ft.m_tuple))))
   (fun W ds K h => by
    obtain ⟨x, rfl, hx, z⟩ := h
    cases x <;> first | (exfalso; revert hx; simp [D.kd, Sd.ty]; done) | (simp [sRet, sRetN, sNext, sSeq, sIf, sDrop, sSet, sSets, sFz, sAsg, sNever, sBrk, sCont, dAndV, dOrV, dNotV, dAnd, dOr, dNot, dTB, dIf, dIsi, dIsLT, dVar, dVarE, dC, d2, dT2, dCB, vCons, vNil, dCons, dNil, dTup, dLst, dCall, gIx, gAdd, gSub, gMul, gFdiv, gMod, gPow, gLt, gLe, gGt, gGe, gI, gI0, gEqS, gNeS, gLen, gList, gTuple, gAll, gSum, dIsN, dNotN, dYes, gN, gT, setsD, qCons, qNil, tgN, tgP, startD, fzAt, iS, iR1, iZ, iE, dPart, dNoPart, dSl, xOf, sApp, xPop, sSetX, w_list1, w_list2, w_list3, w_seq1, w_seq2, w_seq3, w_tup, w_tup1, w_tup2, w_frz1, w_frz2, w_frz3, w_dat1, w_dat2, w_dct1, w_dct2, w_ty1, w_ty2, w_ty3, w_ty4, w_ty5, w_ty6, w_ty7, w_fr1, w_fr2, w_fr3, w_fr4, w_fr5, w_fr6, w_sq1, w_sq2, w_fz1, w_fz2, w_fz3, w_fz4, w_isN1, w_isN2, w_isN3, w_isN4, w_isN5, w_sc1, w_sc2, w_sc3]; exact z))
theorem mem_zipD {xs ys : List D} {z : D} (h : z ∈ zipD xs ys) : ∃ a b, a ∈ xs ∧ b ∈ ys ∧ z = .tup [a, b] := by
  obtain ⟨i, hi⟩ := List.getElem?_of_mem h
  unfold zipD at hi
  rw [List.getElem?_zipWith] at hi
  cases e1 : xs[i]? with
  | none => rw [e1] at hi; cases hi
  | some a =>
    cases e2 : ys[i]? with
    | none => rw [e1, e2] at hi; cases hi
    | some b =>
      rw [e1, e2] at hi
      cases hi
      exact ⟨a, b, List.mem_of_getElem? e1, List.mem_of_getElem? e2, rfl⟩
/-- of a pair (value, size): is it an index -/
def idxP : D → D
  | .tup [a, .int m] => .bl (a.isIdx m)
  | _ => .non
theorem zip_map_idx : ∀ (xs : List D) (sizes : List Int), (zipD xs (sizes.map .int)).map idxP = (List.zipWith (fun x s => x.isIdx s) xs sizes).map .bl
  | [], _ => by simp [zipD]
  | _ :: _, [] => by simp [zipD]
  | x :: xs, s :: sizes => by
    have ih := zip_map_idx xs sizes
    simp only [zipD, List.map_cons, List.zipWith_cons_cons] at ih ⊢
    rw [ih]
    rfl
theorem filter_tt {α : Type} (l : List α) : l.filter (fun _ => true) = l := List.filter_eq_self.mpr fun _ _ => rfl
/-- x is a row with a value for each key -/
def D.isRow (sizes : List Int) (x : D) : Bool := match x.sq with
  | some xs => decide (xs.length = sizes.length) && (List.zipWith (fun x s => x.isIdx s) xs sizes).all _root_.id
  | none => false
def s_is_state_of : DSpec := fun _ ds K => ∃ sizes x, ds = [.ints sizes, x] ∧ x.kd = true ∧ (∀ xs, x.sq = some xs → xs.length ≤ 100000 ∧ ∀ y ∈ xs, y.kd = true) ∧ K (.bl (x.isRow sizes))
theorem sc_is_state_of : FnScope ["sizes", "value", "one", "size"] ["sizes", "value"] (defScope f_is_state_of) := ⟨rfl, rfl, rfl, by decide +kernel, rfl, by decide +kernel, by decide +kernel⟩
theorem c_is_state_of (ft : Fts mg) (c_is_index : Cl P w K mg base 4 "is_index" 2 s_is_index) (c_is_sequence : Cl P w K mg base 2 "is_sequence" 1 s_is_sequence) (d : DF K mg "is_state_of" f_is_state_of) : Cl P w K mg base 5 "is_state_of" 2 s_is_state_of :=
  cl_of (k := 4) d sc_is_state_of rfl (fun _ _ _ _ _ _ us hl => match us, hl with | [_, _], _ => rfl) (fun W ds K h => by obtain ⟨_, _, e, _⟩ := h; rw [e]; rfl) (fun a W cdv A outer s H E hr =>
  have nd := sc_is_state_of.nd
  (ssd_cons (sd_if (PWd.t (pwd_or (ptd_not (pt_v (PRd.e (pr_call c_is_sequence (hr.mono (by decide)) rfl (pad_cons (pr_var (pv 1)) pad_nil))))) (pwd_or1 (pt_neS (PRd.e (pr_len rfl ft.m_len (pd_var (pv 1)))) (PRd.e (pr_len rfl ft.m_len (pd_var (pv 0)))))))) (ssd_one (sd_ret pr_bl)) ssd_nil) (ssd_one (sd_ret (pr_all rfl rfl ft.m_all (PRd.e (pr_lcP (i := 2) (j := 3) rfl nd (id_zz rfl ft.m_zip (pad_cons (pr_var (pv 1)) (pad_cons (pr_var (pv 0)) pad_nil))) (bok (own := [("one", 2), ("size", 3)]) rfl) (fun _ _ _ _ _ => pg_tup rfl (pgs_cons (pg_name (i := 2) nd rfl (Or.inl rfl)) (pgs_cons (pg_name (i := 3) nd rfl (Or.inl rfl)) pgs_nil))) (fun _ _ _ _ _ => ptsd_nil) (fun _ _ _ _ _ => (pr_call c_is_index (hr.mono (by decide)) rfl (pad_cons (pr_var (pv 2)) (pad_cons (pr_var (pv 3)) pad_nil)))))))))))
   (fun W ds K h => by
    obtain ⟨sizes, x, rfl, hx, hs, z⟩ := h
    cases hq : x.sq with
    | none =>
      have hs : x.isSeq = false := by cases x <;> first | rfl | cases hq
      simp [sRet, sRetN, sNext, sSeq, sIf, sDrop, sSet, sSets, sFz, sAsg, sNever, sBrk, sCont, dAndV, dOrV, dNotV, dAnd, dOr, dNot, dTB, dIf, dIsi, dIsLT, dVar, dVarE, dC, d2, dT2, dCB, vCons, vNil, dCons, dNil, dTup, dLst, dCall, gIx, gAdd, gSub, gMul, gFdiv, gMod, gPow, gLt, gLe, gGt, gGe, gI, gI0, gEqS, gNeS, gLen, gList, gTuple, gAll, gSum, dIsN, dNotN, dYes, gN, gT, setsD, qCons, qNil, tgN, tgP, startD, fzAt, iS, iR1, iZ, iE, dPart, dNoPart, dSl, xOf, sApp, xPop, sSetX, w_list1, w_list2, w_list3, w_seq1, w_seq2, w_seq3, w_tup, w_tup1, w_tup2, w_frz1, w_frz2, w_frz3, w_dat1, w_dat2, w_dct1, w_dct2, w_ty1, w_ty2, w_ty3, w_ty4, w_ty5, w_ty6, w_ty7, w_fr1, w_fr2, w_fr3, w_fr4, w_fr5, w_fr6, w_sq1, w_sq2, w_fz1, w_fz2, w_fz3, w_fz4, w_isN1, w_isN2, w_isN3, w_isN4, w_isN5, w_sc1, w_sc2, w_sc3, s_is_sequence, hx, hs]
      simpa [D.isRow, hq] using z
    | some xs =>
      obtain ⟨hl, hk⟩ := hs xs hq
      have hs : x.isSeq = true := by cases x <;> first | rfl | cases hq
      by_cases he : xs.length = sizes.length
      · have key : dLc (iZ (dCons (dVar 1) (dCons (dVar 0) dNil))) [2, 3] tgP dYes (dCall W s_is_index (dCons (dVar 2) (dCons (dVar 3) dNil))) [.d (.ints sizes), .d x, .any, .any] fun s => ∃ bs : List Bool, s.list = some (bs.map .bl) ∧ K (.bl (bs.all _root_.id)) := by
          refine lcP (xs := zipD xs (sizes.map .int)) (fun _ => true) idxP (fun K' h' => ⟨x, rfl, x, rfl, .ints sizes, rfl, _, rfl, x, .ints sizes, xs, sizes.map .int, rfl, hq, rfl, h'⟩) (by rw [zipD_len]; omega) (fun y hy => ?_) (fun a b _ K' k' => k') (fun a b hy _ K' k' => ?_) ?_
          · obtain ⟨a, b, _, _, e⟩ := mem_zipD hy
            exact ⟨a, b, e⟩
          · obtain ⟨a', b', ha, hb, e⟩ := mem_zipD hy
            cases e
            obtain ⟨m, _, rfl⟩ := List.mem_map.mp hb
            exact ⟨a, rfl, a, rfl, .int m, rfl, _, rfl, a, m, rfl, hk a ha, k' _ rfl⟩
          · refine ⟨List.zipWith (fun x s => x.isIdx s) xs sizes, ?_, ?_⟩
            · rw [w_list2, filter_tt, zip_map_idx]
            · simpa [D.isRow, hq, he] using z
        rcases D.sq_cases hq with e | e <;> subst e <;> simp [sRet, sRetN, sNext, sSeq, sIf, sDrop, sSet, sSets, sFz, sAsg, sNever, sBrk, sCont, dAndV, dOrV, dNotV, dAnd, dOr, dNot, dTB, dIf, dIsi, dIsLT, dVar, dVarE, dC, d2, dT2, dCB, vCons, vNil, dCons, dNil, dTup, dLst, dCall, gIx, gAdd, gSub, gMul, gFdiv, gMod, gPow, gLt, gLe, gGt, gGe, gI, gI0, gEqS, gNeS, gLen, gList, gTuple, gAll, gSum, dIsN, dNotN, dYes, gN, gT, setsD, qCons, qNil, tgN, tgP, startD, fzAt, iS, iR1, iZ, iE, dPart, dNoPart, dSl, xOf, sApp, xPop, sSetX, w_list1, w_list2, w_list3, w_seq1, w_seq2, w_seq3, w_tup, w_tup1, w_tup2, w_frz1, w_frz2, w_frz3, w_dat1, w_dat2, w_dct1, w_dct2, w_ty1, w_ty2, w_ty3, w_ty4, w_ty5, w_ty6, w_ty7, w_fr1, w_fr2, w_fr3, w_fr4, w_fr5, w_fr6, w_sq1, w_sq2, w_fz1, w_fz2, w_fz3, w_fz4, w_isN1, w_isN2, w_isN3, w_isN4, w_isN5, w_sc1, w_sc2, w_sc3, s_is_sequence, hx, hs, he] at key ⊢ <;> exact key
      · have z' : K (.bl false) := by simpa [D.isRow, hq, he] using z
        have ne : ¬ (xs.length : Int) = sizes.length := by omega
        rcases D.sq_cases hq with e | e <;> subst e <;> simp [sRet, sRetN, sNext, sSeq, sIf, sDrop, sSet, sSets, sFz, sAsg, sNever, sBrk, sCont, dAndV, dOrV, dNotV, dAnd, dOr, dNot, dTB, dIf, dIsi, dIsLT, dVar, dVarE, dC, d2, dT2, dCB, vCons, vNil, dCons, dNil, dTup, dLst, dCall, gIx, gAdd, gSub, gMul, gFdiv, gMod, gPow, gLt, gLe, gGt, gGe, gI, gI0, gEqS, gNeS, gLen, gList, gTuple, gAll, gSum, dIsN, dNotN, dYes, gN, gT, setsD, qCons, qNil, tgN, tgP, startD, fzAt, iS, iR1, iZ, iE, dPart, dNoPart, dSl, xOf, sApp, xPop, sSetX, w_list1, w_list2, w_list3, w_seq1, w_seq2, w_seq3, w_tup, w_tup1, w_tup2, w_frz1, w_frz2, w_frz3, w_dat1, w_dat2, w_dct1, w_dct2, w_ty1, w_ty2, w_ty3, w_ty4, w_ty5, w_ty6, w_ty7, w_fr1, w_fr2, w_fr3, w_fr4, w_fr5, w_fr6, w_sq1, w_sq2, w_fz1, w_fz2, w_fz3, w_fz4, w_isN1, w_isN2, w_isN3, w_isN4, w_isN5, w_sc1, w_sc2, w_sc3, s_is_sequence, hx, hs, he, ne] <;> exact z')
/-! ### keys in which rows agree, differ -/
def sameP (a b : List Int) : D → Bool
  | .int i => decide (a[i.toNat]? = b[i.toNat]?)
  | _ => false
def getP (st : List Int) : D → D
  | .int i => .int (st.getD i.toNat 0)
  | _ => .non
def diffP (a b : List Int) : D → Bool
  | .int i => decide (a[i.toNat]? ≠ b[i.toNat]?)
  | _ => false
theorem mem_range0 {n : Nat} {x : D} (h : x ∈ rangeD 0 n) : ∃ i : Nat, i < n ∧ x = .int (i : Int) := by
  rw [rangeD0] at h
  obtain ⟨i, hi, rfl⟩ := List.mem_map.mp h
  exact ⟨i, List.mem_range.mp hi, rfl⟩
theorem mem_nats {l : List Nat} {x : D} (h : x ∈ (natsI l).map D.int) : ∃ k : Nat, k ∈ l ∧ x = .int (k : Int) := by
  unfold natsI at h
  obtain ⟨i, hi, rfl⟩ := List.mem_map.mp h
  obtain ⟨k, hk, rfl⟩ := List.mem_map.mp hi
  exact ⟨k, hk, rfl⟩
theorem ints_at {a : List Int} {i : Nat} (h : i < a.length) : L2.atI (a.map D.int) (i : Int) = some (.int a[i]) := atI_nat (by simp [h])
def s_same_keys : DSpec := fun _ ds K => ∃ a b, ds = [.ints a, .ints b] ∧ a.length ≤ b.length ∧ a.length ≤ 100000 ∧ K (.ints (natsI (sameN a b)))
theorem sc_same_keys : FnScope ["one", "other", "key"] ["one", "other"] (defScope f_same_keys) := ⟨rfl, rfl, rfl, by decide +kernel, rfl, by decide +kernel, by decide +kernel⟩
theorem c_same_keys (ft : Fts mg) (d : DF K mg "same_keys" f_same_keys) : Cl P w K mg base 2 "same_keys" 2 s_same_keys :=
  cl_of (k := 1) d sc_same_keys rfl (fun _ _ _ _ _ _ us hl => match us, hl with | [_, _], _ => rfl) (fun W ds K h => by obtain ⟨_, _, e, _⟩ := h; rw [e]; rfl) (fun a W cdv A outer s H E hr =>
  have nd := sc_same_keys.nd
  (ssd_one (sd_ret (pr_tuple rfl ft.m_tuple (PRd.e (pr_lc (i := 2) rfl nd (id_range1 rfl ft.m_range (pr_len rfl ft.m_len (pd_var (pv 0)))) (bok (own := [("key", 2)]) rfl) (fun _ _ _ _ _ => pg_name (i := 2) nd rfl (Or.inl rfl)) (fun _ _ _ _ _ => ptsd_one (pt_eqS (PRd.e (pr_item (pd_var (pv 0)) (pd_var (pv 2)))) (PRd.e (pr_item (pd_var (pv 1)) (pd_var (pv 2)))))) (fun _ _ _ _ _ => (pr_var (pv 2)))))))))
   (fun W ds K h => by
    obtain ⟨a, b, rfl, hab, hl, z⟩ := h
    simp only [sRet, dCB, vCons, vNil, d2, sSeq, sSet]
    refine lcN (xs := rangeD 0 a.length) (sameP a b) _root_.id (fun K' h' => ⟨_, rfl, nofun, _, _, rfl, rfl, a.length, by simp, by omega, by omega, by simpa using h'⟩) (by rw [rangeD_len]; exact hl) (fun x hx K' k' => ?_) (fun x hx _ K' k' => ⟨x, rfl, k' _ rfl⟩) ⟨_, _, rfl, rfl, _, rfl, ?_⟩
    · obtain ⟨i, hi, rfl⟩ := mem_range0 hx
      have hb : i < b.length := by omega
      refine ⟨_, rfl, nofun, _, rfl, nofun, _, _, _, rfl, rfl, ints_at hi, _, rfl, nofun, _, rfl, nofun, _, _, _, rfl, rfl, ints_at hb, _, _, _, rfl, rfl, rfl, _, rfl, ?_⟩
      simpa [sameP, hi, hb] using k'
    · have e : ((rangeD 0 a.length).filter (sameP a b)).map _root_.id = (natsI (sameN a b)).map D.int := by
        rw [rangeD0, List.filter_map, List.map_id, natsI, List.map_map]
        rfl
      rw [e]
      exact z)
def s_seen_on : DSpec := fun _ ds K => ∃ (st : List Int) (lot : List Nat), ds = [.ints st, .ints (natsI lot)] ∧ (∀ k ∈ lot, k < st.length) ∧ lot.length ≤ 100000 ∧ K (.ints (viewK st lot))
theorem sc_seen_on : FnScope ["state", "lot", "key"] ["state", "lot"] (defScope f_seen_on) := ⟨rfl, rfl, rfl, by decide +kernel, rfl, by decide +kernel, by decide +kernel⟩
theorem c_seen_on (ft : Fts mg) (d : DF K mg "seen_on" f_seen_on) : Cl P w K mg base 2 "seen_on" 2 s_seen_on :=
  cl_of (k := 1) d sc_seen_on rfl (fun _ _ _ _ _ _ us hl => match us, hl with | [_, _], _ => rfl) (fun W ds K h => by obtain ⟨_, _, e, _⟩ := h; rw [e]; rfl) (fun a W cdv A outer s H E hr =>
  have nd := sc_seen_on.nd
  (ssd_one (sd_ret (pr_tuple rfl ft.m_tuple (PRd.e (pr_lc (i := 2) rfl nd (id_ss (pr_var (pv 1))) (bok (own := [("key", 2)]) rfl) (fun _ _ _ _ _ => pg_name (i := 2) nd rfl (Or.inl rfl)) (fun _ _ _ _ _ => ptsd_nil) (fun _ _ _ _ _ => (pr_item (pd_var (pv 0)) (pd_var (pv 2))))))))))
   (fun W ds K h => by
    obtain ⟨st, lot, rfl, hk, hl, z⟩ := h
    simp only [sRet, dCB, vCons, vNil, d2, sSeq, sSet]
    refine lcN (xs := (natsI lot).map .int) (fun _ => true) (getP st) (fun K' h' => ⟨_, rfl, _, _, rfl, rfl, h'⟩) (by simpa [natsI] using hl) (fun x hx K' k' => k') (fun x hx _ K' k' => ?_) ⟨_, _, rfl, rfl, _, rfl, ?_⟩
    · obtain ⟨k, hk2, rfl⟩ := mem_nats hx
      have hlt := hk k hk2
      refine ⟨_, rfl, nofun, _, rfl, nofun, _, _, _, rfl, rfl, ints_at hlt, k' _ ?_⟩
      simp [w_frz1, getP, hlt]
    · rw [filter_tt]
      have e : ((natsI lot).map D.int).map (getP st) = (viewK st lot).map .int := by
        simp [natsI, viewK, List.map_map, Function.comp_def, getP]
      rw [e]
      exact z)
def s_law_apart : DSpec := fun _ ds K => ∃ a b, ds = [.ints a, .ints b] ∧ a.length ≤ b.length ∧ a.length ≤ 100000 ∧ K (.ints (natsI (diffN a b)))
theorem sc_law_apart : FnScope ["_law_one", "_law_other", "_law_key"] ["_law_one", "_law_other"] (defScope f_law_apart) := ⟨rfl, rfl, rfl, by decide +kernel, rfl, by decide +kernel, by decide +kernel⟩
theorem c_law_apart (ft : Fts mg) (d : DF K mg "_law_apart" f_law_apart) : Cl P w K mg base 2 "_law_apart" 2 s_law_apart :=
  cl_of (k := 1) d sc_law_apart rfl (fun _ _ _ _ _ _ us hl => match us, hl with | [_, _], _ => rfl) (fun W ds K h => by obtain ⟨_, _, e, _⟩ := h; rw [e]; rfl) (fun a W cdv A outer s H E hr =>
  have nd := sc_law_apart.nd
  (ssd_one (sd_ret (pr_tuple rfl ft.m_tuple (PRd.e (pr_lc (i := 2) rfl nd (id_range1 rfl ft.m_range (pr_len rfl ft.m_len (pd_var (pv 0)))) (bok (own := [("_law_key", 2)]) rfl) (fun _ _ _ _ _ => pg_name (i := 2) nd rfl (Or.inl rfl)) (fun _ _ _ _ _ => ptsd_one (pt_neS (PRd.e (pr_item (pd_var (pv 0)) (pd_var (pv 2)))) (PRd.e (pr_item (pd_var (pv 1)) (pd_var (pv 2)))))) (fun _ _ _ _ _ => (pr_var (pv 2)))))))))
   (fun W ds K h => by
    obtain ⟨a, b, rfl, hab, hl, z⟩ := h
    simp only [sRet, dCB, vCons, vNil, d2, sSeq, sSet]
    refine lcN (xs := rangeD 0 a.length) (diffP a b) _root_.id (fun K' h' => ⟨_, rfl, nofun, _, _, rfl, rfl, a.length, by simp, by omega, by omega, by simpa using h'⟩) (by rw [rangeD_len]; exact hl) (fun x hx K' k' => ?_) (fun x hx _ K' k' => ⟨x, rfl, k' _ rfl⟩) ⟨_, _, rfl, rfl, _, rfl, ?_⟩
    · obtain ⟨i, hi, rfl⟩ := mem_range0 hx
      have hb : i < b.length := by omega
      refine ⟨_, rfl, nofun, _, rfl, nofun, _, _, _, rfl, rfl, ints_at hi, _, rfl, nofun, _, rfl, nofun, _, _, _, rfl, rfl, ints_at hb, _, _, _, rfl, rfl, rfl, _, rfl, ?_⟩
      simpa [diffP, hi, hb] using k'
    · have e : ((rangeD 0 a.length).filter (diffP a b)).map _root_.id = (natsI (diffN a b)).map D.int := by
        rw [rangeD0, List.filter_map, List.map_id, natsI, List.map_map]
        rfl
      rw [e]
      exact z)
def s_changed_key : DSpec := fun _ ds K => ∃ a b k r, ds = [.ints a, .ints b] ∧ a.length ≤ b.length ∧ a.length ≤ 100000 ∧ diffN a b = k :: r ∧ K (.int (k : Nat))
theorem sc_changed_key : FnScope ["one", "other", "key"] ["one", "other"] (defScope f_changed_key) := ⟨rfl, rfl, rfl, by decide +kernel, rfl, by decide +kernel, by decide +kernel⟩
theorem c_changed_key (ft : Fts mg) (d : DF K mg "changed_key" f_changed_key) : Cl P w K mg base 2 "changed_key" 2 s_changed_key :=
  cl_of (k := 1) d sc_changed_key rfl (fun _ _ _ _ _ _ us hl => match us, hl with | [_, _], _ => rfl) (fun W ds K h => by obtain ⟨_, _, _, _, e, _⟩ := h; rw [e]; rfl) (fun a W cdv A outer s H E hr =>
  have nd := sc_changed_key.nd
  (ssd_one (sd_ret (pr_item (PRd.e (pr_lc (i := 2) rfl nd (id_range1 rfl ft.m_range (pr_len rfl ft.m_len (pd_var (pv 0)))) (bok (own := [("key", 2)]) rfl) (fun _ _ _ _ _ => pg_name (i := 2) nd rfl (Or.inl rfl)) (fun _ _ _ _ _ => ptsd_one (pt_neS (PRd.e (pr_item (pd_var (pv 0)) (pd_var (pv 2)))) (PRd.e (pr_item (pd_var (pv 1)) (pd_var (pv 2)))))) (fun _ _ _ _ _ => (pr_var (pv 2))))) (PRd.e pr_int)))))
   (fun W ds K h => by
    obtain ⟨a, b, k, r, rfl, hab, hl, hd, z⟩ := h
    simp only [sRet, dCB, vCons, vNil, d2, sSeq, sSet]
    refine lcN (xs := rangeD 0 a.length) (diffP a b) _root_.id (fun K' h' => ⟨_, rfl, nofun, _, _, rfl, rfl, a.length, by simp, by omega, by omega, by simpa using h'⟩) (by rw [rangeD_len]; exact hl) (fun x hx K' k' => ?_) (fun x hx _ K' k' => ⟨x, rfl, k' _ rfl⟩) ?_
    · obtain ⟨i, hi, rfl⟩ := mem_range0 hx
      have hb : i < b.length := by omega
      refine ⟨_, rfl, nofun, _, rfl, nofun, _, _, _, rfl, rfl, ints_at hi, _, rfl, nofun, _, rfl, nofun, _, _, _, rfl, rfl, ints_at hb, _, _, _, rfl, rfl, rfl, _, rfl, ?_⟩
      simpa [diffP, hi, hb] using k'
    · have e : ((rangeD 0 a.length).filter (diffP a b)).map _root_.id = (natsI (diffN a b)).map D.int := by
        rw [rangeD0, List.filter_map, List.map_id, natsI, List.map_map]
        rfl
      rw [e, hd]
      exact ⟨_, 0, _, rfl, rfl, atI_0, _, rfl, z⟩)
end
end DL
namespace DL
open PySem PySem.Spec L2
/-! ### dicts -/
section
variable {κ α : Type} [DecidableEq κ]
theorem dget_nil (k : κ) : dget ([] : List (κ × α)) k = none := rfl
theorem dget_cons (p : κ × α) (l : List (κ × α)) (k : κ) : dget (p :: l) k = if p.1 = k then some p.2 else dget l k := by
  unfold dget
  rw [List.find?_cons]
  by_cases h : p.1 = k
  · simp [h]
  · simp [h]
theorem dget_app (k : κ) : ∀ (l m : List (κ × α)), dget (l ++ m) k = match dget l k with | some x => some x | none => dget m k
  | [], m => by simp [dget_nil]
  | p :: l, m => by
    rw [List.cons_append, dget_cons, dget_cons, dget_app k l m]
    by_cases h : p.1 = k <;> simp [h]
theorem dget_some_mem {k : κ} {x : α} : ∀ {l : List (κ × α)}, dget l k = some x → (k, x) ∈ l
  | [], h => by cases h
  | p :: l, h => by
    rw [dget_cons] at h
    by_cases e : p.1 = k
    · rw [if_pos e] at h
      cases h
      rw [← e]
      exact List.mem_cons_self
    · rw [if_neg e] at h
      exact List.mem_cons_of_mem _ (dget_some_mem h)
theorem dget_isSome {k : κ} : ∀ {l : List (κ × α)}, (l.any fun kv => decide (kv.1 = k)) = (dget l k).isSome
  | [] => rfl
  | p :: l => by
    rw [List.any_cons, dget_cons, dget_isSome (l := l)]
    by_cases e : p.1 = k <;> simp [e]
theorem dget_map {k j : κ} {x : α} : ∀ {l : List (κ × α)}, dget (l.map fun kv => if kv.1 = k then (kv.1, x) else kv) j = if j = k ∧ (dget l j).isSome then some x else dget l j
  | [] => by simp [dget_nil]
  | p :: l => by
    rw [List.map_cons, dget_cons, dget_cons, dget_map (l := l)]
    by_cases e : p.1 = k
    · by_cases e2 : p.1 = j
      · have : j = k := by rw [← e2, e]
        simp [e, this]
      · have : ¬ j = k := fun z => e2 (by rw [e, z])
        simp [e, this]
        have e3 : ¬ k = j := fun z => this z.symm
        simp [e3]
    · by_cases e2 : p.1 = j
      · have : ¬ j = k := fun z => e (by rw [e2, z])
        simp [e, e2, this]
      · simp [e, e2]
theorem dget_dput (l : List (κ × α)) (k j : κ) (x : α) : dget (dput l k x) j = if j = k then some x else dget l j := by
  unfold dput
  rw [dget_isSome]
  cases h : (dget l k).isSome with
  | true =>
    rw [if_pos rfl, dget_map]
    by_cases e : j = k
    · simp [e, h]
    · simp [e]
  | false =>
    rw [if_neg (by simp), dget_app, dget_cons, dget_nil]
    by_cases e : j = k
    · have : dget l j = none := by rw [e]; exact Option.not_isSome_iff_eq_none.mp (by simp [h])
      simp [e]
      rw [← e, this]
    · have e3 : ¬ k = j := fun z => e z.symm
      simp only [if_neg e, if_neg e3]
      cases dget l j <;> rfl
theorem dput_len (l : List (κ × α)) (k : κ) (x : α) : (dput l k x).length ≤ l.length + 1 := by
  unfold dput
  split
  · simp
  · simp
theorem dput_keys (l : List (κ × α)) (k : κ) (x : α) (h : (dget l k).isSome) : (dput l k x).map (·.1) = l.map (·.1) := by
  unfold dput
  rw [if_pos (by rw [dget_isSome]; exact h), List.map_map]
  refine List.map_congr_left fun p _ => ?_
  simp only [Function.comp]
  by_cases e : p.1 = k <;> simp [e]
theorem dget_none_keys {l : List (κ × α)} {k : κ} : dget l k = none ↔ k ∉ l.map (·.1) := by
  induction l with
  | nil => simp [dget_nil]
  | cons p l ih =>
    rw [dget_cons, List.map_cons, List.mem_cons, not_or]
    by_cases e : p.1 = k
    · simp [e]
    · have e2 : ¬ k = p.1 := fun z => e z.symm
      simp only [if_neg e, ih, e2, not_false_eq_true, true_and]
theorem dget_of_mem {l : List (κ × α)} {k : κ} {x : α} (nd : (l.map (·.1)).Nodup) (h : (k, x) ∈ l) : dget l k = some x := by
  induction l with
  | nil => simp at h
  | cons p l ih =>
    rw [List.map_cons, List.nodup_cons] at nd
    rw [dget_cons]
    rcases List.mem_cons.mp h with e | e
    · rw [← e]; simp
    · have : ¬ p.1 = k := fun z => nd.1 (List.mem_map.mpr ⟨(k, x), e, z.symm⟩)
      rw [if_neg this]
      exact ih nd.2 e
end
/-! ### reachability -/
inductive Rch {α : Type} (r : α → α → Prop) (a : α) : α → Prop
  | refl : Rch r a a
  | tail {b c : α} : Rch r a b → r b c → Rch r a c
section
variable {α : Type} {r r' : α → α → Prop} {a b c : α}
theorem Rch.trans (h : Rch r a b) (k : Rch r b c) : Rch r a c := by
  induction k with
  | refl => exact h
  | tail _ e ih => exact ih.tail e
theorem Rch.one (h : r a b) : Rch r a b := Rch.refl.tail h
theorem Rch.symm (s : ∀ x y, r x y → r y x) (h : Rch r a b) : Rch r b a := by
  induction h with
  | refl => exact .refl
  | tail _ e ih => exact (Rch.one (s _ _ e)).trans ih
theorem Rch.mono (h : Rch r a b) (k : ∀ x y, r x y → r' x y) : Rch r' a b := by
  induction h with
  | refl => exact .refl
  | tail _ e ih => exact ih.tail (k _ _ e)
theorem Rch.clo {P : α → Prop} (h : Rch r a b) (k : ∀ x y, P x → r x y → P y) (p : P a) : P b := by
  induction h with
  | refl => exact p
  | tail _ e ih => exact k _ _ ih e
end
/-! ### rows, single changes -/
abbrev Row := List Int
theorem mem_diffN {a b : Row} {k : Nat} : k ∈ diffN a b ↔ k < a.length ∧ a[k]? ≠ b[k]? := by
  unfold diffN
  rw [List.mem_filter, List.mem_range, decide_eq_true_eq]
theorem diffN_symm {a b : Row} (h : a.length = b.length) : diffN a b = diffN b a := by
  unfold diffN
  rw [h]
  refine List.filter_congr fun i _ => ?_
  by_cases e : a[i]? = b[i]?
  · simp [e]
  · have e2 : ¬ b[i]? = a[i]? := fun z => e z.symm
    simp [e, e2]
theorem diffN_nil {a b : Row} (h : a.length = b.length) (e : diffN a b = []) : a = b := by
  refine List.ext_getElem? fun i => ?_
  by_cases hi : i < a.length
  · by_cases z : a[i]? = b[i]?
    · exact z
    · have : i ∈ diffN a b := mem_diffN.mpr ⟨hi, z⟩
      rw [e] at this
      simp at this
  · rw [List.getElem?_eq_none (by omega), List.getElem?_eq_none (by omega)]
theorem diffN_self (a : Row) : diffN a a = [] := by
  unfold diffN
  simp
/-- a single change of a key of the lot -/
def stp (S : List Row) (lot : List Nat) (s t : Row) : Prop := s ∈ S ∧ t ∈ S ∧ ∃ k ∈ lot, diffN s t = [k]
def Conn (S : List Row) (lot : List Nat) : Row → Row → Prop := Rch (stp S lot)
section
variable {S : List Row} {lot : List Nat} {d : Nat}
theorem stp_symm (hd : ∀ s ∈ S, s.length = d) (s t : Row) (h : stp S lot s t) : stp S lot t s := by
  obtain ⟨h1, h2, k, h3, h4⟩ := h
  exact ⟨h2, h1, k, h3, by rw [diffN_symm ((hd t h2).trans (hd s h1).symm)]; exact h4⟩
theorem Conn.symm (hd : ∀ s ∈ S, s.length = d) {s t : Row} (h : Conn S lot s t) : Conn S lot t s := Rch.symm (stp_symm hd) h
theorem Conn.mono {lot' : List Nat} {s t : Row} (h : Conn S lot s t) (k : ∀ x ∈ lot, x ∈ lot') : Conn S lot' s t := Rch.mono h fun x y ⟨h1, h2, q, h3, h4⟩ => ⟨h1, h2, q, k q h3, h4⟩
/-! ### the islands' numbers -/
structure HomesOk (S : List Row) (lot : List Nat) (h : List (Row × D)) : Prop where
  has : ∀ s ∈ S, ∃ n : Int, dget h s = some (.int n)
  iff : ∀ s ∈ S, ∀ t ∈ S, ∀ n m : Int, dget h s = some (.int n) → dget h t = some (.int m) → (n = m ↔ Conn S lot s t)
/-- whole islands, numbered below m -/
structure Hm (S : List Row) (lot : List Nat) (m : Int) (h : List (Row × D)) : Prop where
  keys : ∀ s x, dget h s = some x → s ∈ S ∧ ∃ n : Int, x = .int n ∧ n < m
  clo : ∀ s t, (dget h s).isSome → stp S lot s t → (dget h t).isSome
  eqv : ∀ s t (n n' : Int), dget h s = some (.int n) → dget h t = some (.int n') → (n = n' ↔ Conn S lot s t)
theorem Hm.start : Hm S lot 0 [] := ⟨fun s x e => (by cases e), fun s t e => (by cases e), fun s t n n' e => (by cases e)⟩
theorem Hm.homes {m : Int} {h : List (Row × D)} (H : Hm S lot m h) (all : ∀ s ∈ S, (dget h s).isSome) : HomesOk S lot h := by
  refine ⟨fun s hs => ?_, fun s _ t _ n m e1 e2 => H.eqv s t n m e1 e2⟩
  obtain ⟨x, e⟩ := Option.isSome_iff_exists.mp (all s hs)
  obtain ⟨_, n, rfl, _⟩ := H.keys s x e
  exact ⟨n, e⟩
/-- an island is being found: c is being left, its neighbours in dn are done -/
structure Fi (S : List Row) (lot : List Nat) (m : Int) (h0 h : List (Row × D)) (start : Row) (fresh : List Row) (c : Row) (dn : Row → Prop) : Prop where
  base : Hm S lot m h0
  st : start ∈ S ∧ dget h0 start = none ∧ dget h start = some (.int m)
  sub : ∀ s x, dget h0 s = some x → dget h s = some x
  new : ∀ s x, dget h s = some x → dget h0 s = some x ∨ (dget h0 s = none ∧ s ∈ S ∧ x = .int m ∧ Conn S lot start s)
  fr : ∀ s ∈ fresh, dget h0 s = none ∧ dget h s = some (.int m)
  cu : dget h0 c = none ∧ dget h c = some (.int m)
  clo : ∀ s, dget h0 s = none → (dget h s).isSome → s ∈ fresh ∨ s = c ∨ ∀ t, stp S lot s t → (dget h t).isSome
  cclo : ∀ t, stp S lot c t → dn t → (dget h t).isSome
theorem Hm.find {m : Int} {h0 : List (Row × D)} (H : Hm S lot m h0) {start : Row} (hs : start ∈ S) (hn : dget h0 start = none) : Fi S lot m h0 (dput h0 start (.int m)) start [start] start (fun _ => False) := by
  have e0 : dget (dput h0 start (.int m)) start = some (.int m) := by rw [dget_dput, if_pos rfl]
  refine ⟨H, ⟨hs, hn, e0⟩, fun s x e => ?_, fun s x e => ?_, fun s e => ?_, ⟨hn, e0⟩, fun s hz e => ?_, fun t _ z => z.elim⟩
  · rw [dget_dput, if_neg (fun z => by rw [z, hn] at e; cases e)]; exact e
  · rw [dget_dput] at e
    by_cases z : s = start
    · rw [if_pos z] at e
      cases e
      subst z
      exact .inr ⟨hn, hs, rfl, .refl⟩
    · rw [if_neg z] at e; exact .inl e
  · simp at e; subst e; exact ⟨hn, e0⟩
  · rw [dget_dput] at e
    by_cases z : s = start
    · exact .inl (by simp [z])
    · rw [if_neg z, hz] at e; cases e
/-- a state is taken out of fresh -/
theorem Fi.pop {m : Int} {h0 h : List (Row × D)} {start c : Row} {fresh : List Row} {x : Row} {dn : Row → Prop} (I : Fi S lot m h0 h start (fresh ++ [x]) c dn) (hc : c = x ∨ c ∈ fresh ∨ ∀ t, stp S lot c t → dn t) : Fi S lot m h0 h start fresh x (fun _ => False) := by
  refine ⟨I.base, I.st, I.sub, I.new, fun s e => I.fr s (by simp [e]), I.fr x (by simp), fun s e1 e2 => ?_, fun t _ z => z.elim⟩
  rcases I.clo s e1 e2 with z | z | z
  · rcases List.mem_append.mp z with y | y
    · exact .inl y
    · simp at y; exact .inr (.inl y)
  · subst z
    rcases hc with y | y | y
    · exact .inr (.inl y)
    · exact .inl y
    · exact .inr (.inr fun t ht => I.cclo t ht (y t ht))
  · exact .inr (.inr z)
/-- a neighbour is looked at -/
theorem Fi.skip {m : Int} {h0 h : List (Row × D)} {start c o : Row} {fresh : List Row} {dn : Row → Prop} (I : Fi S lot m h0 h start fresh c dn) (ho : stp S lot c o → (dget h o).isSome) : Fi S lot m h0 h start fresh c (fun t => dn t ∨ t = o) :=
  ⟨I.base, I.st, I.sub, I.new, I.fr, I.cu, I.clo, fun t ht z => by
    rcases z with z | z
    · exact I.cclo t ht z
    · subst z; exact ho ht⟩
theorem Fi.put {m : Int} {h0 h : List (Row × D)} {start c o : Row} {fresh : List Row} {dn : Row → Prop} (hd : ∀ s ∈ S, s.length = d) (I : Fi S lot m h0 h start fresh c dn) (ho : stp S lot c o) (hn : dget h o = none) : Fi S lot m h0 (dput h o (.int m)) start (fresh ++ [o]) c (fun t => dn t ∨ t = o) := by
  have e0 : dget h0 o = none := by
    cases q : dget h0 o with
    | none => rfl
    | some x => rw [I.sub o x q] at hn; cases hn
  have keep : ∀ s x, dget h s = some x → dget (dput h o (.int m)) s = some x := fun s x e => by
    rw [dget_dput, if_neg fun z => by rw [z, hn] at e; cases e]; exact e
  have keepS : ∀ s, (dget h s).isSome → (dget (dput h o (.int m)) s).isSome := fun s e => by
    obtain ⟨x, q⟩ := Option.isSome_iff_exists.mp e
    rw [keep s x q]; rfl
  have eo : dget (dput h o (.int m)) o = some (.int m) := by rw [dget_dput, if_pos rfl]
  have cs : Conn S lot start c := by
    rcases I.new c _ I.cu.2 with z | z
    · rw [I.cu.1] at z; cases z
    · exact z.2.2.2
  refine ⟨I.base, ⟨I.st.1, I.st.2.1, keep _ _ I.st.2.2⟩, fun s x e => keep _ _ (I.sub s x e), fun s x e => ?_, fun s e => ?_, ⟨I.cu.1, keep _ _ I.cu.2⟩, fun s e1 e2 => ?_, fun t ht z => ?_⟩
  · rw [dget_dput] at e
    by_cases z : s = o
    · rw [if_pos z] at e
      cases e
      subst z
      exact .inr ⟨e0, ho.2.1, rfl, cs.tail ho⟩
    · rw [if_neg z] at e; exact I.new s x e
  · rcases List.mem_append.mp e with y | y
    · exact ⟨(I.fr s y).1, keep _ _ (I.fr s y).2⟩
    · simp at y; subst y; exact ⟨e0, eo⟩
  · by_cases z : s = o
    · exact .inl (by simp [z])
    · rw [dget_dput, if_neg z] at e2
      rcases I.clo s e1 e2 with y | y | y
      · exact .inl (by simp [y])
      · exact .inr (.inl y)
      · exact .inr (.inr fun t ht => keepS t (y t ht))
  · rcases z with z | z
    · exact keepS t (I.cclo t ht z)
    · subst z; rw [eo]; rfl
/-- the island is whole -/
theorem Fi.done {m : Int} {h0 h : List (Row × D)} {start c : Row} {dn : Row → Prop} (hd : ∀ s ∈ S, s.length = d) (I : Fi S lot m h0 h start [] c dn) (hc : ∀ t, stp S lot c t → dn t) : Hm S lot (m + 1) h := by
  have clo : ∀ s t, (dget h s).isSome → stp S lot s t → (dget h t).isSome := fun s t e ht => by
    cases q : dget h0 s with
    | some x =>
      have := I.base.clo s t (by rw [q]; rfl) ht
      obtain ⟨y, qy⟩ := Option.isSome_iff_exists.mp this
      rw [I.sub t y qy]; rfl
    | none =>
      rcases I.clo s q e with z | z | z
      · simp at z
      · subst z; exact I.cclo t ht (hc t ht)
      · exact z t ht
  refine ⟨fun s x e => ?_, clo, fun s t n n' e1 e2 => ?_⟩
  · rcases I.new s x e with z | ⟨_, z1, z2, _⟩
    · obtain ⟨a, k, b, c⟩ := I.base.keys s x z
      exact ⟨a, k, b, by omega⟩
    · exact ⟨z1, m, z2, by omega⟩
  · have apart : ∀ s t, (dget h0 s).isSome → dget h0 t = none → ¬ Conn S lot s t := fun s t h1 h2 cn => by
      have := Rch.clo (P := fun x => (dget h0 x).isSome = true) cn (fun x y px hxy => I.base.clo x y px hxy) h1
      rw [h2] at this; cases this
    rcases I.new s _ e1 with a | ⟨a0, a1, a2, a3⟩
    · rcases I.new t _ e2 with b | ⟨b0, b1, b2, b3⟩
      · exact I.base.eqv s t n n' a b
      · cases b2
        obtain ⟨_, k, ek, lt⟩ := I.base.keys s _ a
        cases ek
        refine ⟨fun e => by omega, fun cn => absurd cn (apart s t (by rw [a]; rfl) b0)⟩
    · cases a2
      rcases I.new t _ e2 with b | ⟨b0, b1, b2, b3⟩
      · obtain ⟨_, k, ek, lt⟩ := I.base.keys t _ b
        cases ek
        refine ⟨fun e => by omega, fun cn => absurd (Conn.symm hd cn) (apart t s (by rw [b]; rfl) a0)⟩
      · cases b2
        exact ⟨fun _ => Rch.trans (Conn.symm hd a3) b3, fun _ => rfl⟩
/-- how many states are without a number -/
def unv (S : List Row) (h : List (Row × D)) : Nat := (S.filter fun s => (dget h s).isNone).length
theorem unv_put {h : List (Row × D)} {o : Row} {x : D} (ho : o ∈ S) (hn : dget h o = none) : unv S (dput h o x) + 1 ≤ unv S h := by
  unfold unv
  have key : ∀ l : List Row, (l.filter fun s => (dget (dput h o x) s).isNone).length ≤ (l.filter fun s => (dget h s).isNone).length ∧ (o ∈ l → (l.filter fun s => (dget (dput h o x) s).isNone).length + 1 ≤ (l.filter fun s => (dget h s).isNone).length) := by
    intro l
    induction l with
    | nil => exact ⟨Nat.le_refl _, fun z => by simp at z⟩
    | cons s l ih =>
      rw [List.filter_cons, List.filter_cons, dget_dput]
      by_cases e : s = o
      · subst e
        rw [if_pos rfl, hn]
        simp only [Option.isNone_some, Option.isNone_none, if_true, Bool.false_eq_true, if_false, List.length_cons]
        exact ⟨by omega, fun _ => by omega⟩
      · rw [if_neg e]
        have ne : ¬ o = s := fun z => e z.symm
        cases dget h s with
        | none =>
          simp only [Option.isNone_none, if_true, List.length_cons, List.mem_cons, ne, false_or]
          exact ⟨by omega, fun z => by have := ih.2 z; omega⟩
        | some y =>
          simp only [Option.isNone_some, Bool.false_eq_true, if_false, List.mem_cons, ne, false_or]
          exact ih
  exact (key S).2 ho
end
end DL
namespace DL
open PySem PySem.Spec L2
/-! ### a search from one state -/
structure Gs (r : Row → Row → Prop) (fd : Row → Bool) (start : Row) (fresh : List Row) (c : Row) (dn : Row → Prop) : Prop where
  st : fd start = true
  new : ∀ s, fd s = true → Rch r start s
  fr : ∀ s ∈ fresh, fd s = true
  cu : fd c = true
  clo : ∀ s, fd s = true → s ∈ fresh ∨ s = c ∨ ∀ t, r s t → fd t = true
  cclo : ∀ t, r c t → dn t → fd t = true
section
variable {r : Row → Row → Prop} {fd fd' : Row → Bool} {start c o x : Row} {fresh : List Row} {dn : Row → Prop}
theorem Gs.begin (e : ∀ s, fd s = true ↔ s = start) : Gs r fd start [start] start (fun _ => False) :=
  ⟨(e _).mpr rfl, fun s h => by rw [(e s).mp h]; exact .refl, fun s h => by simp at h; rw [h]; exact (e _).mpr rfl, (e _).mpr rfl, fun s h => .inr (.inl ((e s).mp h)), fun _ _ z => z.elim⟩
theorem Gs.pop (I : Gs r fd start (fresh ++ [x]) c dn) (hc : c = x ∨ c ∈ fresh ∨ ∀ t, r c t → dn t) : Gs r fd start fresh x (fun _ => False) := by
  refine ⟨I.st, I.new, fun s h => I.fr s (by simp [h]), I.fr x (by simp), fun s h => ?_, fun _ _ z => z.elim⟩
  rcases I.clo s h with z | z | z
  · rcases List.mem_append.mp z with y | y
    · exact .inl y
    · simp at y; exact .inr (.inl y)
  · subst z
    rcases hc with y | y | y
    · exact .inr (.inl y)
    · exact .inl y
    · exact .inr (.inr fun t ht => I.cclo t ht (y t ht))
  · exact .inr (.inr z)
theorem Gs.skip (I : Gs r fd start fresh c dn) (ho : r c o → fd o = true) : Gs r fd start fresh c (fun t => dn t ∨ t = o) :=
  ⟨I.st, I.new, I.fr, I.cu, I.clo, fun t ht z => by
    rcases z with z | z
    · exact I.cclo t ht z
    · subst z; exact ho ht⟩
theorem Gs.put (I : Gs r fd start fresh c dn) (ho : r c o) (e : ∀ s, fd' s = true ↔ fd s = true ∨ s = o) : Gs r fd' start (fresh ++ [o]) c (fun t => dn t ∨ t = o) := by
  have k : ∀ s, fd s = true → fd' s = true := fun s h => (e s).mpr (.inl h)
  refine ⟨k _ I.st, fun s h => ?_, fun s h => ?_, k _ I.cu, fun s h => ?_, fun t ht z => ?_⟩
  · rcases (e s).mp h with z | z
    · exact I.new s z
    · subst z; exact (I.new c I.cu).tail ho
  · rcases List.mem_append.mp h with y | y
    · exact k _ (I.fr s y)
    · simp at y; subst y; exact (e _).mpr (.inr rfl)
  · rcases (e s).mp h with z | z
    · rcases I.clo s z with y | y | y
      · exact .inl (by simp [y])
      · exact .inr (.inl y)
      · exact .inr (.inr fun t ht => k t (y t ht))
    · exact .inl (by simp [z])
  · rcases z with z | z
    · exact k t (I.cclo t ht z)
    · subst z; exact (e _).mpr (.inr rfl)
theorem Gs.done (I : Gs r fd start [] c dn) (hc : ∀ t, r c t → dn t) (s : Row) : fd s = true ↔ Rch r start s := by
  refine ⟨I.new s, fun h => ?_⟩
  refine Rch.clo (P := fun x => fd x = true) h (fun x y px hxy => ?_) I.st
  rcases I.clo x px with z | z | z
  · simp at z
  · subst z; exact I.cclo y hxy (hc y hxy)
  · exact z y hxy
end
/-- how many are not found yet -/
def unf (S : List Row) (fd : Row → Bool) : Nat := (S.filter fun s => !fd s).length
theorem unf_put {S : List Row} {fd fd' : Row → Bool} {o : Row} (ho : o ∈ S) (hn : fd o = false) (e : ∀ s, fd' s = true ↔ fd s = true ∨ s = o) : unf S fd' + 1 ≤ unf S fd := by
  unfold unf
  have key : ∀ l : List Row, (l.filter fun s => !fd' s).length ≤ (l.filter fun s => !fd s).length ∧ (o ∈ l → (l.filter fun s => !fd' s).length + 1 ≤ (l.filter fun s => !fd s).length) := by
    intro l
    induction l with
    | nil => exact ⟨Nat.le_refl _, fun z => by simp at z⟩
    | cons s l ih =>
      rw [List.filter_cons, List.filter_cons]
      by_cases z : s = o
      · subst z
        have e1 : fd' s = true := (e s).mpr (.inr rfl)
        rw [e1, hn]
        simp only [Bool.not_true, Bool.not_false, if_true, Bool.false_eq_true, if_false, List.length_cons]
        exact ⟨by omega, fun _ => by omega⟩
      · have e2 : fd' s = fd s := by
          have := e s
          cases h1 : fd' s <;> cases h2 : fd s <;> simp [h1, h2, z] at this ⊢
        rw [e2]
        have ne : ¬ o = s := fun y => z y.symm
        cases fd s with
        | false =>
          simp only [Bool.not_false, if_true, List.length_cons, List.mem_cons, ne, false_or]
          exact ⟨by omega, fun y => by have := ih.2 y; omega⟩
        | true =>
          simp only [Bool.not_true, Bool.false_eq_true, if_false, List.mem_cons, ne, false_or]
          exact ih
  exact (key S).2 ho
/-! ### steps between states that agree on a lot -/
def agr (lot : List Nat) (s t : Row) : Prop := ∀ k ∈ lot, s.getD k 0 = t.getD k 0
theorem agr_view {lot : List Nat} {s t : Row} : viewK s lot = viewK t lot ↔ agr lot s t := by
  unfold viewK agr
  rw [List.map_inj_left]
def stpP (S : List Row) (plans : List (List Nat)) (s t : Row) : Prop := s ∈ S ∧ t ∈ S ∧ ∃ lot ∈ plans, agr lot s t
theorem stpP_symm {S : List Row} {plans : List (List Nat)} (s t : Row) (h : stpP S plans s t) : stpP S plans t s := by
  obtain ⟨h1, h2, l, h3, h4⟩ := h
  exact ⟨h2, h1, l, h3, fun k hk => (h4 k hk).symm⟩
/-! ### all lots -/
def allL : Nat → List (List Nat)
  | 0 => [[]]
  | n + 1 => allL n ++ (allL n).map (· ++ [n])
theorem mem_allL {n : Nat} (p : Nat → Bool) : (List.range n).filter p ∈ allL n := by
  induction n with
  | zero => exact List.mem_cons_self
  | succ n ih =>
    rw [List.range_succ, List.filter_append]
    show _ ∈ allL n ++ (allL n).map (· ++ [n])
    cases h : p n with
    | false =>
      have : [n].filter p = [] := by simp [h]
      rw [this, List.append_nil]
      exact List.mem_append_left _ ih
    | true =>
      have : [n].filter p = [n] := by simp [h]
      rw [this]
      exact List.mem_append_right _ (List.mem_map.mpr ⟨_, ih, rfl⟩)
theorem allL_lt {n : Nat} : ∀ l ∈ allL n, ∀ k ∈ l, k < n := by
  induction n with
  | zero =>
    intro l hl k hk
    rw [show l = [] by simpa [allL] using hl] at hk
    simp at hk
  | succ n ih =>
    intro l hl k hk
    rcases List.mem_append.mp hl with z | z
    · exact Nat.lt_succ_of_lt (ih l z k hk)
    · obtain ⟨l', h1, rfl⟩ := List.mem_map.mp z
      rcases List.mem_append.mp hk with y | y
      · exact Nat.lt_succ_of_lt (ih l' h1 k y)
      · simp at y; omega
theorem allL_sorted {n : Nat} : ∀ l ∈ allL n, l.Pairwise (· < ·) := by
  induction n with
  | zero =>
    intro l hl
    rw [show l = [] by simpa [allL] using hl]
    exact List.Pairwise.nil
  | succ n ih =>
    intro l hl
    rcases List.mem_append.mp hl with z | z
    · exact ih l z
    · obtain ⟨l', h1, rfl⟩ := List.mem_map.mp z
      refine List.pairwise_append.mpr ⟨ih l' h1, List.pairwise_singleton _ _, fun a ha b hb => ?_⟩
      simp at hb
      subst hb
      exact allL_lt l' h1 a ha
theorem allL_len (n : Nat) : (allL n).length = 2 ^ n := by
  induction n with
  | zero => rfl
  | succ n ih =>
    show (allL n ++ (allL n).map (· ++ [n])).length = _
    rw [List.length_append, List.length_map, ih, Nat.pow_succ]
    omega
/-! ### joined -/
section
variable {S : List Row} {d : Nat}
/-- s and t have a chain -/
def joinedP (S : List Row) (s t : Row) : Prop := Conn S (diffN s t) s t
def wholeP (S : List Row) (lot : List Nat) : Prop := ∀ s ∈ S, ∀ t ∈ S, (∀ k ∈ diffN s t, k ∈ lot) → Conn S lot s t
theorem whole_all (L : List (List Nat)) (hL : ∀ s ∈ S, ∀ t ∈ S, diffN s t ∈ L) : (∀ l ∈ L, wholeP S l) ↔ ∀ s ∈ S, ∀ t ∈ S, joinedP S s t := by
  refine ⟨fun h s hs t ht => h _ (hL s hs t ht) s hs t ht fun k hk => hk, fun h l _ s hs t ht hk => ?_⟩
  exact Conn.mono (h s hs t ht) hk
theorem diffN_allL (hd : ∀ s ∈ S, s.length = d) : ∀ s ∈ S, ∀ t ∈ S, diffN s t ∈ allL d := fun s hs t _ => by
  unfold diffN
  rw [hd s hs]
  exact mem_allL _
theorem joinedP_symm (hd : ∀ s ∈ S, s.length = d) {s t : Row} (hs : s ∈ S) (ht : t ∈ S) (h : joinedP S s t) : joinedP S t s := by
  unfold joinedP
  rw [diffN_symm ((hd t ht).trans (hd s hs).symm)]
  exact Conn.symm hd h
/-- torn plans: lots that tell, whose common keys don't -/
structure Torn (S : List Row) (a b : Row) (p1 p2 : List Nat) (q : Row → Int) : Prop where
  common : ∀ k ∈ p1, k ∈ p2 → a.getD k 0 = b.getD k 0
  apart : q a ≠ q b
  tell1 : ∀ s ∈ S, ∀ t ∈ S, agr p1 s t → q s = q t
  tell2 : ∀ s ∈ S, ∀ t ∈ S, agr p2 s t → q s = q t
theorem agr_of_diff {s t : Row} {lot : List Nat} {k : Nat} (hl : s.length = t.length) (h : diffN s t = [k]) (hk : k ∉ lot) : agr lot s t := fun j hj => by
  have ne : j ≠ k := fun e => hk (e ▸ hj)
  have nj : j ∉ diffN s t := by rw [h]; simp [ne]
  rw [mem_diffN] at nj
  rw [List.getD_eq_getElem?_getD, List.getD_eq_getElem?_getD]
  by_cases hlt : j < s.length
  · have : s[j]? = t[j]? := Classical.not_not.mp fun z => nj ⟨hlt, z⟩
    rw [this]
  · rw [List.getElem?_eq_none (by omega), List.getElem?_eq_none (by omega)]
/-- all joined: there are none -/
theorem no_torn (hd : ∀ s ∈ S, s.length = d) (hj : ∀ s ∈ S, ∀ t ∈ S, joinedP S s t) {a b : Row} (ha : a ∈ S) (hb : b ∈ S) {p1 p2 : List Nat} {q : Row → Int} (T : Torn S a b p1 p2 q) : False := by
  have cn := hj a ha b hb
  have : q b = q a := by
    refine Rch.clo (P := fun x => q x = q a) cn (fun x y px hxy => ?_) rfl
    obtain ⟨hx, hy, k, hk, e⟩ := hxy
    have hl : x.length = y.length := (hd x hx).trans (hd y hy).symm
    have ne := mem_diffN.mp hk
    have out : k ∉ p1 ∨ k ∉ p2 := by
      by_cases h1 : k ∈ p1
      · by_cases h2 : k ∈ p2
        · have z := T.common k h1 h2
          rw [List.getD_eq_getElem?_getD, List.getD_eq_getElem?_getD] at z
          have l1 := ne.1
          have l2 : k < b.length := by rw [hd b hb, ← hd a ha]; exact l1
          rw [List.getElem?_eq_getElem l1, List.getElem?_eq_getElem l2] at z
          exact absurd (by rw [List.getElem?_eq_getElem l1, List.getElem?_eq_getElem l2]; exact congrArg some z) ne.2
        · exact .inr h2
      · exact .inl h1
    rcases out with o | o
    · rw [← px]; exact (T.tell1 x hx y hy (agr_of_diff hl e o)).symm
    · rw [← px]; exact (T.tell2 x hx y hy (agr_of_diff hl e o)).symm
  exact T.apart this.symm
/-- two states without a chain of as few keys as any such, their keys divided: b is not led to -/
theorem torn_nearest (hd : ∀ s ∈ S, s.length = d) {a b : Row} (ha : a ∈ S) (hb : b ∈ S) (hn : ¬ joinedP S a b) (least : ∀ s ∈ S, ∀ t ∈ S, ¬ joinedP S s t → (diffN a b).length ≤ (diffN s t).length)
    {A B : List Nat} (hA : A ≠ []) (hB : B ≠ []) (hP : (A ++ B).Perm (diffN a b)) {p1 p2 : List Nat} (h1 : ∀ k, k < d → k ∉ A → k ∈ p1) (h2 : ∀ k, k < d → k ∉ B → k ∈ p2) : ¬ Rch (stpP S [p1, p2]) a b := by
  intro h
  have len : A.length + B.length = (diffN a b).length := by rw [← List.length_append]; exact hP.length_eq
  have sub : ∀ {X : List Nat} {p : List Nat} {x y : Row}, x ∈ S → y ∈ S → (∀ k, k < d → k ∉ X → k ∈ p) → agr p x y → (∀ k ∈ diffN x y, k ∈ X) := by
    intro X p x y hx hy hp hg k hk
    by_cases z : k ∈ X
    · exact z
    · have hk' := mem_diffN.mp hk
      have lx := hd x hx
      have ly := hd y hy
      have := hg k (hp k (by omega) z)
      rw [List.getD_eq_getElem?_getD, List.getD_eq_getElem?_getD] at this
      have l1 : k < x.length := hk'.1
      have l2 : k < y.length := by omega
      rw [List.getElem?_eq_getElem l1, List.getElem?_eq_getElem l2] at this
      exact absurd (by rw [List.getElem?_eq_getElem l1, List.getElem?_eq_getElem l2]; exact congrArg some this) hk'.2
  have nd : ∀ x y : Row, (diffN x y).Nodup := fun x y => by
    unfold diffN
    exact List.Nodup.sublist List.filter_sublist List.nodup_range
  have small : ∀ {X : List Nat} {x y : Row}, (∀ k ∈ diffN x y, k ∈ X) → (diffN x y).length ≤ X.length := fun {X x y} hs => L2.nat_nodup_len _ _ (nd x y) hs
  have fin : Conn S (diffN a b) a b := by
    have := Rch.clo (P := fun x => x ∈ S ∧ Conn S (diffN a b) a x) h (fun x y px hxy => ?_) ⟨ha, .refl⟩
    · exact this.2
    · obtain ⟨hx, hy, l, hl, hg⟩ := hxy
      refine ⟨hy, px.2.trans ?_⟩
      have hl' : l = p1 ∨ l = p2 := by simpa using hl
      have lt : ∃ X : List Nat, X.length < (diffN a b).length ∧ (∀ k ∈ X, k ∈ diffN a b) ∧ ∀ k ∈ diffN x y, k ∈ X := by
        have la : 0 < A.length := List.length_pos_iff.mpr hA
        have lb : 0 < B.length := List.length_pos_iff.mpr hB
        rcases hl' with e | e
        · subst e
          exact ⟨A, by omega, fun k hk => hP.mem_iff.mp (by simp [hk]), sub hx hy h1 hg⟩
        · subst e
          exact ⟨B, by omega, fun k hk => hP.mem_iff.mp (by simp [hk]), sub hx hy h2 hg⟩
      obtain ⟨X, l1, l2, l3⟩ := lt
      have j : joinedP S x y := Classical.not_not.mp fun z => by
        have := least x hx y hy z
        have := small l3
        omega
      exact Conn.mono j fun k hk => l2 k (l3 k hk)
  exact hn fin
/-- differ in two keys at least -/
theorem apart_two (hd : ∀ s ∈ S, s.length = d) {a b : Row} (ha : a ∈ S) (hb : b ∈ S) (hn : ¬ joinedP S a b) : 2 ≤ (diffN a b).length := by
  match h : diffN a b with
  | [] =>
    exfalso
    have := diffN_nil ((hd a ha).trans (hd b hb).symm) h
    subst this
    exact hn .refl
  | [k] =>
    exfalso
    refine hn (Rch.one ⟨ha, hb, k, ?_, h⟩)
    rw [h]
    exact List.mem_cons_self
  | _ :: _ :: _ => simp
end
end DL
namespace DL
open PySem PySem.Spec L2
theorem eqvAll_ints : ∀ (a b : List Int), PyData.eqvAll (pyL (a.map .int)) (pyL (b.map .int)) = decide (a = b)
  | [], [] => rfl
  | x :: a, y :: b => by
    show ((x == y) && PyData.eqvAll (pyL (a.map .int)) (pyL (b.map .int))) = _
    rw [eqvAll_ints a b]
    by_cases h : x = y
    · subst h; simp
    · rw [beq_eq_false_iff_ne.mpr h]; simp [h]
  | [], y :: b => rfl
  | x :: a, [] => rfl
theorem eqv_ints (a b : List Int) : PyData.eqv (D.ints a).py (D.ints b).py = decide (a = b) := eqvAll_ints a b
theorem eqv_lints (a b : List Int) : PyData.eqv (D.lst (a.map .int)).py (D.lst (b.map .int)).py = decide (a = b) := eqvAll_ints a b
theorem eqv_nilL (xs : List D) : PyData.eqv (D.lst xs).py (D.lst []).py = xs.isEmpty := by
  cases xs <;> rfl
theorem flat_int (i : Int) (n : Nat) : (D.int i).flat n = true := by cases n <;> rfl
theorem flatL_ints (ns : List Int) (n : Nat) : flatL n (ns.map .int) = true := flatL_iff.mpr fun x hx => by
  obtain ⟨i, _, rfl⟩ := List.mem_map.mp hx
  exact flat_int i n
theorem flat_ints' (ns : List Int) (n : Nat) : (D.ints ns).flat (n + 1) = true := flatL_ints ns n
theorem flatL_rows (rows : List Row) (n : Nat) : flatL (n + 1) (rowsD rows) = true := flatL_iff.mpr fun x hx => by
  obtain ⟨i, _, rfl⟩ := List.mem_map.mp hx
  exact flat_ints' i n
theorem flat_rowsL (rows : List Row) (n : Nat) : (D.lst (rowsD rows)).flat (n + 2) = true := flatL_rows rows n
theorem any_rows (r : Row) (rows : List Row) : ((rowsD rows).any fun y => PyData.eqv y.py (D.ints r).py) = decide (r ∈ rows) := by
  induction rows with
  | nil => rfl
  | cons x rows ih =>
    show (PyData.eqv (D.ints x).py (D.ints r).py || (rowsD rows).any fun y => PyData.eqv y.py (D.ints r).py) = _
    rw [ih, eqv_ints]
    by_cases h : r = x
    · subst h; simp
    · have h2 : ¬ x = r := fun z => h z.symm
      simp [h, h2]
theorem nil_flat (n : Nat) : (D.lst []).flat (n + 1) = true := rfl
theorem mem_rowsD {rows : List Row} {x : D} (h : x ∈ rowsD rows) : ∃ r ∈ rows, x = .ints r := by
  obtain ⟨r, h1, rfl⟩ := List.mem_map.mp h
  exact ⟨r, h1, rfl⟩
theorem rows_at {rows : List Row} {i : Nat} {x : D} (h : (rowsD rows)[i]? = some x) : ∃ r, rows[i]? = some r ∧ x = .ints r := by
  unfold rowsD at h
  rw [List.getElem?_map] at h
  cases e : rows[i]? with
  | none => rw [e] at h; cases h
  | some r => rw [e] at h; cases h; exact ⟨r, rfl, rfl⟩
theorem rowsD_len (rows : List Row) : (rowsD rows).length = rows.length := List.length_map ..
theorem rowsD_app (a b : List Row) : rowsD (a ++ b) = rowsD a ++ rowsD b := List.map_append
theorem natsI_mem {l : List Nat} {k : Nat} : (k : Int) ∈ natsI l ↔ k ∈ l := by
  unfold natsI
  constructor
  · intro h
    obtain ⟨j, hj, e⟩ := List.mem_map.mp h
    have : j = k := by omega
    exact this ▸ hj
  · intro h
    exact List.mem_map.mpr ⟨k, h, rfl⟩
/-! ### neighbours -/
def nb1 (p : Nat × Row) : D := .tup [.int p.1, .ints p.2]
def nbD (ps : List (Nat × Row)) : D := .lst (ps.map nb1)
structure BesOk (S : List Row) (kvs : List (Row × D)) : Prop where
  at' : ∀ s ∈ S, ∃ ps : List (Nat × Row), dget kvs s = some (nbD ps) ∧ (∀ k o, (k, o) ∈ ps ↔ o ∈ S ∧ diffN s o = [k]) ∧ ps.length ≤ 10000
theorem nb_at {ps : List (Nat × Row)} {i : Nat} {x : D} (h : (ps.map nb1)[i]? = some x) : ∃ k o, ps[i]? = some (k, o) ∧ x = .tup [.int (k : Nat), .ints o] := by
  rw [List.getElem?_map] at h
  cases e : ps[i]? with
  | none => rw [e] at h; cases h
  | some r => rw [e] at h; cases h; exact ⟨r.1, r.2, rfl, rfl⟩
/-! ### small plain values -/
mutual
def D.fine : Nat → D → Bool
  | _, .non => true
  | _, .bl _ => true
  | _, .int _ => true
  | _, .str _ => false
  | n, .tup xs => (match n with | 0 => false | m + 1 => decide (xs.length ≤ 60) && fineL m xs)
  | n, .lst xs => (match n with | 0 => false | m + 1 => decide (xs.length ≤ 60) && fineL m xs)
  | _, .dct _ => false
  | _, .ref _ => false
def fineL : Nat → List D → Bool
  | _, [] => true
  | n, x :: xs => x.fine n && fineL n xs
end
theorem fineL_iff {n : Nat} : ∀ {xs : List D}, fineL n xs = true ↔ ∀ x ∈ xs, x.fine n = true
  | [] => by simp [fineL]
  | x :: xs => by simp [fineL, fineL_iff]
mutual
theorem fine_flat : ∀ (n : Nat) (d : D), d.fine n = true → d.flat n = true
  | n, .non, _ => by cases n <;> rfl
  | n, .bl b, _ => by cases n <;> rfl
  | n, .int i, _ => by cases n <;> rfl
  | n, .str x, h => by cases n <;> cases h
  | 0, .tup xs, h => by cases h
  | n + 1, .tup xs, h => by
    have h' : (decide (xs.length ≤ 60) && fineL n xs) = true := h
    exact fineL_flat n xs (by simp at h'; exact h'.2)
  | 0, .lst xs, h => by cases h
  | n + 1, .lst xs, h => by
    have h' : (decide (xs.length ≤ 60) && fineL n xs) = true := h
    exact fineL_flat n xs (by simp at h'; exact h'.2)
  | n, .dct kvs, h => by cases n <;> cases h
  | n, .ref a, h => by cases n <;> cases h
theorem fineL_flat : ∀ (n : Nat) (xs : List D), fineL n xs = true → flatL n xs = true
  | n, [], _ => rfl
  | n, x :: xs, h => by
    have h' : x.fine n = true ∧ fineL n xs = true := by simpa [fineL] using h
    show (x.flat n && flatL n xs) = true
    rw [fine_flat n x h'.1, fineL_flat n xs h'.2] <;> rfl
end
theorem fine_tup {n : Nat} {xs : List D} (h : (D.tup xs).fine (n + 1) = true) : xs.length ≤ 60 ∧ fineL n xs = true := by
  have h' : (decide (xs.length ≤ 60) && fineL n xs) = true := h
  simpa using h'
theorem fine_lst {n : Nat} {xs : List D} (h : (D.lst xs).fine (n + 1) = true) : xs.length ≤ 60 ∧ fineL n xs = true := by
  have h' : (decide (xs.length ≤ 60) && fineL n xs) = true := h
  simpa using h'
theorem fine_of_tup {n : Nat} {xs : List D} (h1 : xs.length ≤ 60) (h2 : fineL n xs = true) : (D.tup xs).fine (n + 1) = true := by
  show (decide (xs.length ≤ 60) && fineL n xs) = true
  simp [h1, h2]
theorem fine_of_lst {n : Nat} {xs : List D} (h1 : xs.length ≤ 60) (h2 : fineL n xs = true) : (D.lst xs).fine (n + 1) = true := by
  show (decide (xs.length ≤ 60) && fineL n xs) = true
  simp [h1, h2]
theorem fine_kd {n : Nat} {x : D} (h : x.fine n = true) : x.kd = true := by
  cases x <;> first | rfl | (cases n <;> cases h)
theorem fine_int (i : Int) (n : Nat) : (D.int i).fine n = true := by cases n <;> rfl
theorem fineL_ints (ns : List Int) (n : Nat) : fineL n (ns.map .int) = true := fineL_iff.mpr fun x hx => by
  obtain ⟨i, _, rfl⟩ := List.mem_map.mp hx
  exact fine_int i n
theorem fine_ints {ns : List Int} (n : Nat) (h : ns.length ≤ 60) : (D.ints ns).fine (n + 1) = true := fine_of_tup (by simpa using h) (fineL_ints ns n)
end DL
namespace DL
open PySem PySem.Spec L2 Tx
section
variable {P : Program} {w : World} {K : PySem.W.Frag} {mg : Str → Option Value} {base : Heap}
theorem Fi.item {S : List Row} {lot : List Nat} {dd : Nat} {m : Int} {h0 h : List (Row × D)} {start c o : Row} {fresh : List Row} {dn : Row → Prop} {k : Nat} (hd : ∀ s ∈ S, s.length = dd) (I : Fi S lot m h0 h start fresh c dn) (hc : c ∈ S) (ho : o ∈ S) (hk : diffN c o = [k]) :
    ((k ∈ lot ∧ dget h o = none) → Fi S lot m h0 (dput h o (.int m)) start (fresh ++ [o]) c (fun t => dn t ∨ t = o)) ∧ (¬ (k ∈ lot ∧ dget h o = none) → Fi S lot m h0 h start fresh c (fun t => dn t ∨ t = o)) := by
  refine ⟨fun ⟨h1, h2⟩ => I.put hd ⟨hc, ho, k, h1, hk⟩ h2, fun hn => I.skip fun ⟨_, _, k', h1, h2⟩ => ?_⟩
  rw [hk] at h2
  cases h2
  cases e : dget h o with
  | some x => rfl
  | none => exact absurd ⟨h1, e⟩ hn
def s_law_homes : DSpec := fun _ ds K => ∃ (S : List Row) (kvs : List (Row × D)) (lot : List Nat) (dd : Nat), ds = [.lst (rowsD S), .dct kvs, .ints (natsI lot)] ∧ (∀ s ∈ S, s.length = dd) ∧ S.length ≤ 1000 ∧ BesOk S kvs ∧ ∀ h, HomesOk S lot h → K (.dct h)
theorem sc_law_homes : FnScope ["_law_states", "_law_beside_here", "_law_lot", "_law_found", "_law_many", "_law_start", "_law_fresh", "_law_later", "_law_key", "_law_other"] ["_law_states", "_law_beside_here", "_law_lot"] (defScope f_law_homes) := ⟨rfl, rfl, rfl, by decide +kernel, rfl, by decide +kernel, by decide +kernel⟩
theorem c_law_homes (ft : Fts mg) (d : DF K mg "_law_homes" f_law_homes) : Cl P w K mg base 2 "_law_homes" 3 s_law_homes :=
  cl_of (k := 1) d sc_law_homes rfl (fun _ _ _ _ _ _ us hl => match us, hl with | [_, _, _], _ => rfl) (fun W ds K h => by obtain ⟨_, _, _, _, e, _⟩ := h; rw [e]; rfl) (fun a W cdv A outer s H E hr =>
  have nd := sc_law_homes.nd
  (ssd_cons (sd_par (i := 3) (j := 4) rfl nd rfl rfl (by decide) rfl rfl (pqd_cons pr_dT (pqd_cons pr_int pqd_nil)) rfl) (ssd_cons (sd_for PassesOwn.never rfl (id_ss (pr_var (pv 0))) (gd_name (i := 5) nd rfl (Or.inl rfl)) (ssd_one (sd_if (pt_dni hr (pd_var (pv 5)) (pd_var (pv 3))) (ssd_cons (sd_tupB hr rfl (pv 3) (pv 5) nd (n := 6) rfl (Or.inl rfl) (pqd_cons (pr_lst (pad_cons (pr_var (pv 5)) pad_nil)) (pqd_cons (pr_var (pv 4)) pqd_nil))) (ssd_cons (sd_while PassesOwn.never (pt_neD hr (pd_var (pv 6)) (PRd.e (pr_lst pad_nil))) (ssd_cons (sd_set (i := 7) nd rfl (Or.inl rfl) (pr_lst pad_nil)) (ssd_cons (sd_forX PassesOwn.never rfl (px_dget hr (pd_var (pv 1)) (px_pop (pv 6))) (gd_tup (is := [8, 9]) rfl (pgs_cons (pg_name (i := 8) nd rfl (Or.inl rfl)) (pgs_cons (pg_name (i := 9) nd rfl (Or.inl rfl)) pgs_nil))) (ssd_one (sd_if (PWd.t (pwd_and (pt_inI (pd_var (pv 8)) (pd_var (pv 2))) (pwd_and1 (pt_dni hr (pd_var (pv 9)) (pd_var (pv 3)))))) (ssd_cons (sd_putT hr (pv 3) (pd_var (pv 9)) (pr_var (pv 4))) (ssd_one (sd_app (pv 7) (px_of (pr_var (pv 9)))))) ssd_nil))) (ssd_one (sd_set (i := 6) nd rfl (Or.inl rfl) (pr_catA (pd_var (pv 6)) (pd_var (pv 7)))))))) (ssd_one (sd_set (i := 4) nd rfl (Or.inl rfl) (pr_add (pd_var (pv 4)) (PRd.e pr_int)))))) ssd_nil))) (ssd_fz 3 (ssd_one (sd_ret (pr_var (pv 3))))))))
   (fun W ds K h => by
    obtain ⟨S, kvs, lot, dd, rfl, hdd, hS, hB, z⟩ := h
    refine ⟨rfl, ?_⟩
    refine ⟨_, rfl, _, _, rfl, rfl, fun i ρ => ∃ h m x5 x6 x7 x8 x9, ρ = [.d (.lst (rowsD S)), .d (.dct kvs), .d (.ints (natsI lot)), .ot h, .d (.int m), x5, x6, x7, x8, x9] ∧ Hm S lot m h ∧ (∀ (j : Nat) s, j < i → S[j]? = some s → (dget h s).isSome) ∧ h.length + unv S h ≤ S.length, ?_, ?_, ?_⟩
    · exact ⟨[], 0, _, _, _, _, _, rfl, Hm.start, fun j s hj => absurd hj (Nat.not_lt_zero _), by simp [unv]; exact List.length_filter_le _ _⟩
    · rintro i x ρ hx ⟨h, m, x5, x6, x7, x8, x9, rfl, hm, hall, hlen⟩
      obtain ⟨start, hst, rfl⟩ := rows_at hx
      have hmem : start ∈ S := List.mem_of_getElem? hst
      have hlS : h.length ≤ S.length := by omega
      refine ⟨_, rfl, nofun, _, rfl, nofun, h, start, rfl, rfl, _, rfl, fun hb => ?_, fun hb => ?_⟩
      · -- a new island
        have hn : dget h start = none := by simpa using hb
        refine ⟨_, rfl, _, rfl, (by simp), _, rfl, _, _, h, start, rfl, (by decide), (by decide), rfl, (by omega), rfl, ?_⟩
        have u0 := unv_put (x := .int m) hmem hn
        have l0 := dput_len h start (.int m)
        refine ⟨fun μ ρ => ∃ h1 fresh c dn y7 y8 y9, ρ = [.d (.lst (rowsD S)), .d (.dct kvs), .d (.ints (natsI lot)), .ot h1, .d (.int m), .d (.ints start), .ol (rowsD fresh), y7, y8, y9] ∧ Fi S lot m h h1 start fresh c dn ∧ (fresh = [c] ∨ ∀ t, stp S lot c t → dn t) ∧
          μ = unv S h1 + fresh.length ∧ h1.length + unv S h1 ≤ S.length ∧ μ ≤ S.length, ⟨_, dput h start (.int m), [start], start, fun _ => False, _, _, _, rfl, hm.find hmem hn, .inl rfl, rfl, (by omega), (by simp; omega)⟩, ?_⟩
        rintro μ ρ ⟨h1, fresh, c0, dn0, y7, y8, y9, rfl, I0, hc0, hμ, hl1, hμ1⟩
        refine ⟨_, rfl, nofun, (by simp), _, _, rfl, rfl, flat_rowsL _ _, rfl, _, rfl, fun hb => ?_, fun hb => ?_⟩
        · -- a state is left
          rw [eqv_nilL] at hb
          have hne : fresh ≠ [] := fun e => by rw [e] at hb; simp [rowsD] at hb
          obtain ⟨rest, c, rfl⟩ : ∃ rest c, fresh = rest ++ [c] := ⟨fresh.dropLast, fresh.getLast hne, (List.dropLast_concat_getLast hne).symm⟩
          have I1 := I0.pop (by
            rcases hc0 with e | e
            · rcases List.append_eq_singleton_iff.mp e with ⟨_, q⟩ | ⟨_, q⟩
              · exact .inl (by simpa using q.symm)
              · simp at q
            · exact .inr (.inr e))
          have hcS : c ∈ S := by
            rcases I1.new c _ I1.cu.2 with q | q
            · rw [I1.cu.1] at q; cases q
            · exact q.2.1
          obtain ⟨ps, hps, hpm, hpl⟩ := hB.at' c hcS
          refine ⟨(by simp), _, rfl, nofun, kvs, rfl, rowsD rest, .ints c, (by rw [rowsD_app]; rfl), c, nbD ps, rfl, hps, ps.map nb1, rfl, ?_⟩
          refine ⟨fun j ρ => ∃ h2 later dn z8 z9, ρ = [.d (.lst (rowsD S)), .d (.dct kvs), .d (.ints (natsI lot)), .ot h2, .d (.int m), .d (.ints start), .ol (rowsD rest), .ol (rowsD later), z8, z9] ∧ Fi S lot m h h2 start (rest ++ later) c dn ∧ (∀ (i : Nat) k o, i < j → ps[i]? = some (k, o) → dn o) ∧
            unv S h2 + (rest ++ later).length + 1 ≤ μ ∧ h2.length + unv S h2 ≤ S.length, ⟨h1, [], fun _ => False, _, _, rfl, (by rw [List.append_nil]; exact I1), fun i k o hi => absurd hi (Nat.not_lt_zero _), (by simp at hμ ⊢; omega), hl1⟩, ?_, ?_⟩
          · rintro j x ρ hx ⟨h2, later, dn, z8, z9, rfl, I2, hdn, hμ2, hl2⟩
            obtain ⟨k, o, hko, rfl⟩ := nb_at hx
            have hmo := (hpm k o).mp (List.mem_of_getElem? hko)
            obtain ⟨put, skip⟩ := I2.item hdd hcS hmo.1 hmo.2
            have dn' : ∀ (i : Nat) k' o', i < j + 1 → ps[i]? = some (k', o') → dn o' ∨ o' = o := fun i k' o' hi he => by
              by_cases e : i = j
              · subst e; rw [hko] at he; cases he; exact .inr rfl
              · exact .inl (hdn i k' o' (by omega) he)
            refine ⟨_, rfl, rfl, ?_⟩
            refine ⟨_, rfl, nofun, _, rfl, nofun, _, _, rfl, rfl, _, rfl, fun hb1 => ?_, fun hb1 => ?_⟩
            · have k1 : k ∈ lot := natsI_mem.mp (of_decide_eq_true hb1)
              refine ⟨_, rfl, nofun, _, rfl, nofun, h2, o, rfl, rfl, _, rfl, fun hb2 => ?_, fun hb2 => ?_⟩
              · have k2 : dget h2 o = none := by simpa using hb2
                have u1 := unv_put (x := .int m) hmo.1 k2
                have l1 := dput_len h2 o (.int m)
                refine ⟨_, rfl, _, h2, rfl, rfl, (by omega), _, rfl, nofun, o, rfl, ?_⟩
                refine ⟨⟨_, rfl⟩, _, rfl, _, rfl, _, rfl, (by rw [rowsD_len]; simp at hμ2; omega), dput h2 o (.int m), later ++ [o], fun t => dn t ∨ t = o, _, _, (by rw [rowsD_app]; rfl), (by rw [← List.append_assoc]; exact put ⟨k1, k2⟩), dn', (by simp at hμ2 ⊢; omega), (by omega)⟩
              · exact ⟨h2, later, _, _, _, rfl, skip (fun q => by rw [q.2] at hb2; cases hb2), dn', hμ2, hl2⟩
            · exact ⟨nofun, fun _ => ⟨h2, later, _, _, _, rfl, skip (fun q => by rw [decide_eq_true (natsI_mem.mpr q.1)] at hb1; cases hb1), dn', hμ2, hl2⟩⟩
          · rintro ρ ⟨h2, later, dn, z8, z9, rfl, I2, hdn, hμ2, hl2⟩
            refine ⟨_, rfl, nofun, _, rfl, nofun, .inl ⟨_, _, rfl, rfl, (by rw [rowsD_len, rowsD_len]; simp at hμ2; omega), _, hμ2, h2, rest ++ later, c, dn, _, _, _, (by rw [rowsD_app]; rfl), I2, .inr fun t ht => ?_, (by rfl), hl2, (by omega)⟩⟩
            obtain ⟨_, hT, k, hk, he⟩ := ht
            obtain ⟨i, hi⟩ := List.getElem?_of_mem ((hpm k t).mpr ⟨hT, he⟩)
            exact hdn i k t (by rw [List.length_map]; exact (List.getElem?_eq_some_iff.mp hi).1) hi
        · -- the island is whole
          rw [eqv_nilL] at hb
          have e : fresh = [] := by cases fresh with | nil => rfl | cons _ _ => simp [rowsD] at hb
          subst e
          have H1 := I0.done hdd (by
            rcases hc0 with q | q
            · simp at q
            · exact q)
          refine ⟨_, rfl, nofun, _, _, rfl, rfl, ?_⟩
          refine ⟨h1, m + 1, _, _, _, _, _, rfl, H1, fun j s hj hs => ?_, hl1⟩
          by_cases e : j = i
          · subst e
            rw [hst] at hs
            cases hs
            rw [I0.st.2.2]; rfl
          · have := hall j s (by omega) hs
            obtain ⟨y, hy⟩ := Option.isSome_iff_exists.mp this
            rw [I0.sub s y hy]; rfl
      · -- known already
        refine ⟨h, m, _, _, _, _, _, rfl, hm, fun j s hj hs => ?_, hlen⟩
        by_cases e : j = i
        · subst e
          rw [hst] at hs
          cases hs
          simpa using hb
        · exact hall j s (by omega) hs
    · rintro ρ ⟨h, m, x5, x6, x7, x8, x9, rfl, hm, hall, hlen⟩
      refine ⟨_, rfl, _, rfl, z h (hm.homes fun s hs => ?_)⟩
      obtain ⟨j, hj⟩ := List.getElem?_of_mem hs
      exact hall j s (by rw [rowsD_len]; exact (List.getElem?_eq_some_iff.mp hj).1) hj)
end
end DL
namespace DL
open PySem PySem.Spec L2
/-! ### the words ahead of a comprehension, taken off -/
section
variable {pi : RI} {is : List Nat} {tg : D → List D → Prop} {pt : RT} {pe pb : RE} {ρ : List Sd} {K : DE} {q p1 p2 : RS} {n : Nat}
theorem uRetTuple (h : dLc pi is tg pt pe ρ fun s => gTuple [s] fun s' => ∃ d, s'.frz = some d ∧ K.rt d) : sRet (dCB gTuple (vCons (dLc pi is tg pt pe) vNil)) K ρ := h
theorem uRetAll (h : dLc pi is tg pt pe ρ fun s => gAll [s] fun s' => ∃ d, s'.frz = some d ∧ K.rt d) : sRet (dCB gAll (vCons (dLc pi is tg pt pe) vNil)) K ρ := h
theorem uRetLc (h : dLc pi is tg pt pe ρ fun s' => ∃ d, s'.frz = some d ∧ K.rt d) : sRet (dLc pi is tg pt pe) K ρ := h
theorem uSetTuple (h : dLc pi is tg pt pe ρ fun s => gTuple [s] fun s' => q K (ρ.set n s')) : sSeq (sSet n (dCB gTuple (vCons (dLc pi is tg pt pe) vNil))) q K ρ := h
theorem uSetLc (h : dLc pi is tg pt pe ρ fun s' => q K (ρ.set n s')) : sSeq (sSet n (dLc pi is tg pt pe)) q K ρ := h
theorem uIfNe (h : dLc pi is tg pt pe ρ fun sx => pb ρ fun sy => gNeD sx sy fun s => ∃ b, s = .d (.bl b) ∧ ((b = true → p1 K ρ) ∧ (b = false → p2 K ρ))) : sIf (dT2 gNeD (dLc pi is tg pt pe) pb) p1 p2 K ρ := h
theorem uIfNeSeq (h : dLc pi is tg pt pe ρ fun sx => pb ρ fun sy => gNeD sx sy fun s => ∃ b, s = .d (.bl b) ∧ ((b = true → p1 { K with nx := fun ρ' => q K ρ' } ρ) ∧ (b = false → p2 { K with nx := fun ρ' => q K ρ' } ρ))) : sSeq (sIf (dT2 gNeD (dLc pi is tg pt pe) pb) p1 p2) q K ρ := h
end
/-- [state[key] for key in lot] -/
theorem lcView {pi : RI} {i a : Nat} {ρ : List Sd} {K : Sd → Prop} (st : Row) (lot : List Nat) (hi : ∀ K' : List D → Prop, K' ((natsI lot).map .int) → pi ρ K') (hz : lot.length ≤ 100000) (hk : ∀ k ∈ lot, k < st.length)
    (h1 : ∀ x, ((blk ρ [i]).set i (.d x))[a]? = some (.d (.ints st))) (h2 : ∀ x, ((blk ρ [i]).set i (.d x))[i]? = some (.d x)) (k : K (.ol ((viewK st lot).map .int))) : dLc pi [i] tgN dYes (d2 gIx (dVarE a) (dVarE i)) ρ K := by
  refine lcN (xs := (natsI lot).map .int) (fun _ => true) (getP st) hi (by simpa [natsI] using hz) (fun x hx K' k' => k') (fun x hx _ K' k' => ?_) ?_
  · obtain ⟨j, hj, rfl⟩ := mem_nats hx
    have hlt := hk j hj
    refine ⟨_, h1 _, nofun, _, h2 _, nofun, _, _, _, rfl, rfl, ints_at hlt, k' _ ?_⟩
    simp [w_frz1, getP, hlt]
  · rw [filter_tt]
    have e : ((natsI lot).map D.int).map (getP st) = (viewK st lot).map .int := by
      simp [natsI, viewK, List.map_map, Function.comp_def, getP]
    rw [e]
    exact k
theorem zip_at {S : List Row} {qs : List Int} {i : Nat} {x : D} (h : (zipD (rowsD S) (qs.map .int))[i]? = some x) : ∃ s q, S[i]? = some s ∧ qs[i]? = some q ∧ x = .tup [.ints s, .int q] := by
  unfold zipD rowsD at h
  rw [List.getElem?_zipWith, List.getElem?_map, List.getElem?_map] at h
  cases e1 : S[i]? with
  | none => rw [e1] at h; cases h
  | some s =>
    cases e2 : qs[i]? with
    | none => rw [e1, e2] at h; cases h
    | some q => rw [e1, e2] at h; cases h; exact ⟨s, q, rfl, rfl, rfl⟩
theorem enum_at {S : List Row} {i : Nat} {x : D} (h : (enumD (rowsD S))[i]? = some x) : ∃ s, S[i]? = some s ∧ x = .tup [.int (i : Nat), .ints s] := by
  unfold enumD rowsD at h
  rw [List.getElem?_mapIdx, List.getElem?_map] at h
  cases e1 : S[i]? with
  | none => rw [e1] at h; cases h
  | some s => rw [e1] at h; cases h; exact ⟨s, rfl, rfl⟩
theorem viewK_len (st : Row) (lot : List Nat) : (viewK st lot).length = lot.length := by simp [viewK]
end DL
namespace DL
open PySem PySem.Spec L2 Tx
section
variable {P : Program} {w : World} {K : PySem.W.Frag} {mg : Str → Option Value} {base : Heap}
/-- states that agree on a lot have one answer -/
def tellsQ (S : List Row) (qs : List Int) (lot : List Nat) : Prop := ∀ (i j : Nat) s t (p q : Int), S[i]? = some s → S[j]? = some t → qs[i]? = some p → qs[j]? = some q → viewK s lot = viewK t lot → p = q
def s_law_tells : DSpec := fun _ ds K => ∃ (S : List Row) (qs : List Int) (lot : List Nat) (dd : Nat), ds = [.lst (rowsD S), .ints qs, .ints (natsI lot)] ∧ (∀ s ∈ S, s.length = dd) ∧ S.length ≤ 1000 ∧ qs.length = S.length ∧ (∀ k ∈ lot, k < dd) ∧ lot.length ≤ 100000 ∧ ∀ b : Bool, (b = true ↔ tellsQ S qs lot) → K (.bl b)
theorem sc_law_tells : FnScope ["_law_states", "_law_question_here", "_law_lot", "_law_seen", "_law_state", "_law_told", "_law_view", "_law_key"] ["_law_states", "_law_question_here", "_law_lot"] (defScope f_law_tells) := ⟨rfl, rfl, rfl, by decide +kernel, rfl, by decide +kernel, by decide +kernel⟩
theorem c_law_tells (ft : Fts mg) (d : DF K mg "_law_tells" f_law_tells) : Cl P w K mg base 2 "_law_tells" 3 s_law_tells :=
  cl_of (k := 1) d sc_law_tells rfl (fun _ _ _ _ _ _ us hl => match us, hl with | [_, _, _], _ => rfl) (fun W ds K h => by obtain ⟨_, _, _, _, e, _⟩ := h; rw [e]; rfl) (fun a W cdv A outer s H E hr =>
  have nd := sc_law_tells.nd
  (ssd_cons (sd_set (i := 3) nd rfl (Or.inl rfl) pr_dT) (ssd_cons (sd_for PassesOwn.never rfl (id_zz rfl ft.m_zip (pad_cons (pr_var (pv 0)) (pad_cons (pr_var (pv 1)) pad_nil))) (gd_tup (is := [4, 5]) rfl (pgs_cons (pg_name (i := 4) nd rfl (Or.inr rfl)) (pgs_cons (pg_name (i := 5) nd rfl (Or.inl rfl)) pgs_nil))) (ssd_cons (sd_set (i := 6) nd rfl (Or.inl rfl) (pr_tuple rfl ft.m_tuple (PRd.e (pr_lc (i := 7) rfl nd (id_ss (pr_var (pv 2))) (bok (own := [("_law_key", 7)]) rfl) (fun _ _ _ _ _ => pg_name (i := 7) nd rfl (Or.inl rfl)) (fun _ _ _ _ _ => ptsd_nil) (fun _ _ _ _ _ => (pr_item (pd_var (pv 4)) (pd_var (pv 7)))))))) (ssd_cons (sd_if (pt_dni hr (pd_var (pv 6)) (pd_var (pv 3))) (ssd_one (sd_putT hr (pv 3) (pd_var (pv 6)) (pr_var (pv 5)))) ssd_nil) (ssd_one (sd_if (pt_neS (PRd.e (pr_dget hr (pd_var (pv 3)) (pd_var (pv 6)))) (pd_var (pv 5))) (ssd_one (sd_ret pr_bl)) ssd_nil))))) (ssd_one (sd_ret pr_bl)))))
   (fun W ds K h => by
    obtain ⟨S, qs, lot, dd, rfl, hdd, hS, hq, hlot, hll, z⟩ := h
    refine ⟨_, rfl, _, rfl, _, rfl, _, rfl, _, _, _, _, rfl, rfl, rfl, fun i ρ => ∃ h x4 x5 x6 x7, ρ = [.d (.lst (rowsD S)), .d (.ints qs), .d (.ints (natsI lot)), .ot h, x4, x5, x6, x7] ∧ h.length ≤ i ∧
      (∀ (j : Nat) s q, j < i → S[j]? = some s → qs[j]? = some q → dget h (viewK s lot) = some (.int q)) ∧ (∀ v x, dget h v = some x → ∃ (j : Nat) (s : Row) (q : Int), j < i ∧ S[j]? = some s ∧ qs[j]? = some q ∧ viewK s lot = v ∧ x = .int q), ?_, ?_, ?_⟩
    · exact ⟨[], _, _, _, _, rfl, Nat.le_refl _, fun j s q hj => absurd hj (Nat.not_lt_zero _), fun v x e => by cases e⟩
    · rintro i x ρ hx ⟨h, x4, x5, x6, x7, rfl, hl, h1, h2⟩
      obtain ⟨s, q, hs, hqi, rfl⟩ := zip_at hx
      have hsm : s ∈ S := List.mem_of_getElem? hs
      have hiS : i < S.length := (List.getElem?_eq_some_iff.mp hs).1
      refine ⟨_, rfl, rfl, uSetTuple (lcView s lot (fun K' h' => ⟨_, rfl, _, _, rfl, rfl, h'⟩) hll (fun k hk => by rw [hdd s hsm]; exact hlot k hk) (fun _ => rfl) (fun _ => rfl) ⟨_, _, rfl, rfl, ?_⟩)⟩
      -- what is asked of the dict behind the first test
      have fin : ∀ h' : List (Row × D), h'.length ≤ i + 1 → (∀ (j : Nat) s' q', j < i → S[j]? = some s' → qs[j]? = some q' → dget h' (viewK s' lot) = some (.int q')) → (∀ v x, dget h' v = some x → ∃ (j : Nat) (s' : Row) (q' : Int), j < i + 1 ∧ S[j]? = some s' ∧ qs[j]? = some q' ∧ viewK s' lot = v ∧ x = .int q') →
          (dget h' (viewK s lot)).isSome → sIf (dT2 gNeS (dDGet (dVarE 3) (dVarE 6)) (dVarE 5)) (sRet (dC (.bl false))) sNext
            { nx := (fun i ρ => ∃ h x4 x5 x6 x7, ρ = [.d (.lst (rowsD S)), .d (.ints qs), .d (.ints (natsI lot)), .ot h, x4, x5, x6, x7] ∧ h.length ≤ i ∧
      (∀ (j : Nat) s q, j < i → S[j]? = some s → qs[j]? = some q → dget h (viewK s lot) = some (.int q)) ∧ (∀ v x, dget h v = some x → ∃ (j : Nat) (s : Row) (q : Int), j < i ∧ S[j]? = some s ∧ qs[j]? = some q ∧ viewK s lot = v ∧ x = .int q)) (i + 1), rt := K }
            [.d (.lst (rowsD S)), .d (.ints qs), .d (.ints (natsI lot)), .ot h', .d (.ints s), .d (.int q), .d (.ints (viewK s lot)), x7] := by
        intro h' l' a1 a2 a3
        obtain ⟨y, hy⟩ := Option.isSome_iff_exists.mp a3
        obtain ⟨j, s', q', hj, b1, b2, b3, rfl⟩ := a2 _ _ hy
        refine ⟨_, rfl, nofun, _, rfl, nofun, h', viewK s lot, .int q', rfl, rfl, hy, _, rfl, nofun, .int q', .int q, _, rfl, rfl, rfl, _, rfl, fun hb => ?_, fun hb => ?_⟩
        · refine ⟨_, rfl, z false ⟨nofun, fun ht => ?_⟩⟩
          have := ht j i s' s q' q b1 hs b2 hqi b3
          subst this
          simp at hb
        · have e : q' = q := by simpa using hb
          subst e
          refine ⟨h', _, _, _, _, rfl, l', fun j2 s2 q2 hj2 c1 c2 => ?_, a2⟩
          by_cases e : j2 = i
          · subst e
            rw [hs] at c1
            rw [hqi] at c2
            cases c1
            cases c2
            exact hy
          · exact a1 j2 s2 q2 (by omega) c1 c2
      refine ⟨_, rfl, nofun, _, rfl, nofun, h, viewK s lot, rfl, rfl, _, rfl, fun hb => ?_, fun hb => ?_⟩
      · have hn : dget h (viewK s lot) = none := by simpa using hb
        refine ⟨_, rfl, _, h, rfl, rfl, (by omega), _, rfl, nofun, viewK s lot, rfl, ?_⟩
        refine fin (dput h (viewK s lot) (.int q)) (by have := dput_len h (viewK s lot) (.int q); omega) (fun j s' q' hj c1 c2 => ?_) (fun v x e => ?_) (by rw [dget_dput, if_pos rfl]; rfl)
        · have := h1 j s' q' hj c1 c2
          rw [dget_dput, if_neg fun e => by rw [e, hn] at this; cases this]
          exact this
        · rw [dget_dput] at e
          by_cases hv : v = viewK s lot
          · rw [if_pos hv] at e
            cases e
            exact ⟨i, s, q, by omega, hs, hqi, hv.symm, rfl⟩
          · rw [if_neg hv] at e
            obtain ⟨j, s', q', c0, c⟩ := h2 v x e
            exact ⟨j, s', q', by omega, c⟩
      · exact fin h (by omega) h1 (fun v x e => by obtain ⟨j, s', q', c0, c⟩ := h2 v x e; exact ⟨j, s', q', by omega, c⟩) (by simpa using hb)
    · rintro ρ ⟨h, x4, x5, x6, x7, rfl, hl, h1, h2⟩
      refine ⟨_, rfl, z true ⟨fun _ => ?_, fun _ => rfl⟩⟩
      have e0 : (zipD (rowsD S) (qs.map .int)).length = S.length := by rw [zipD_len, rowsD_len, List.length_map]; omega
      intro i j s t p q a1 a2 a3 a4 a5
      have l1 := (List.getElem?_eq_some_iff.mp a1).1
      have l2 := (List.getElem?_eq_some_iff.mp a2).1
      have b1 := h1 i s p (by rw [e0]; exact l1) a1 a3
      have b2 := h1 j t q (by rw [e0]; exact l2) a2 a4
      rw [a5, b2] at b1
      cases b1
      rfl)
end
end DL
namespace DL
open PySem PySem.Spec L2 Tx
section
variable {P : Program} {w : World} {K : PySem.W.Frag} {mg : Str → Option Value} {base : Heap}
theorem Gs.forget {r : Row → Row → Prop} {fd : Row → Bool} {start c : Row} {fresh : List Row} {dn : Row → Prop} (I : Gs r fd start fresh c dn) : Gs r fd start fresh c (fun _ => False) := ⟨I.st, I.new, I.fr, I.cu, I.clo, fun _ _ z => z.elim⟩
theorem Gs.all {r : Row → Row → Prop} {fd : Row → Bool} {start c : Row} {fresh : List Row} {dn : Row → Prop} (I : Gs r fd start fresh c dn) (h : ∀ t, r c t → fd t = true) : Gs r fd start fresh c (fun _ => True) := ⟨I.st, I.new, I.fr, I.cu, I.clo, fun t ht _ => h t ht⟩
def inL (L : List Row) : Row → Bool := fun s => decide (s ∈ L)
theorem inL_snoc (L : List Row) (o s : Row) : inL (L ++ [o]) s = true ↔ inL L s = true ∨ s = o := by simp [inL]
abbrev lotD (l : List Nat) : D := .ints (natsI l)
def neP (s t : Row) : D → Bool
  | .int i => decide (s.getD i.toNat 0 ≠ t.getD i.toNat 0)
  | _ => false
theorem neP_empty {s t : Row} {lot : List Nat} : (((natsI lot).map D.int).filter (neP s t)).isEmpty = true ↔ agr lot s t := by
  rw [List.isEmpty_iff, List.filter_eq_nil_iff]
  constructor
  · intro h k hk
    have := h (.int (k : Nat)) (List.mem_map.mpr ⟨k, natsI_mem.mpr hk, rfl⟩)
    simpa [neP] using this
  · intro h x hx
    obtain ⟨k, hk, rfl⟩ := mem_nats hx
    have := h k hk
    simp [neP]
    simpa using this
/-- [key for key in lot if one[key] != other[key]] -/
theorem lcNe {pi : RI} {i a b : Nat} {ρ : List Sd} {K : Sd → Prop} (s t : Row) (lot : List Nat) (hi : ∀ K' : List D → Prop, K' ((natsI lot).map .int) → pi ρ K') (hz : lot.length ≤ 100000) (hk : ∀ k ∈ lot, k < s.length ∧ k < t.length)
    (h1 : ∀ x, ((blk ρ [i]).set i (.d x))[a]? = some (.d (.ints s))) (h3 : ∀ x, ((blk ρ [i]).set i (.d x))[b]? = some (.d (.ints t))) (h2 : ∀ x, ((blk ρ [i]).set i (.d x))[i]? = some (.d x)) (k : K (.ol (((natsI lot).map .int).filter (neP s t)))) :
    dLc pi [i] tgN (dT2 gNeS (d2 gIx (dVarE a) (dVarE i)) (d2 gIx (dVarE b) (dVarE i))) (dVar i) ρ K := by
  refine lcN (xs := (natsI lot).map .int) (neP s t) _root_.id hi (by simpa [natsI] using hz) (fun x hx K' k' => ?_) (fun x hx _ K' k' => ⟨x, h2 x, k' _ rfl⟩) (by rw [List.map_id]; exact k)
  obtain ⟨j, hj, rfl⟩ := mem_nats hx
  obtain ⟨l1, l2⟩ := hk j hj
  refine ⟨_, h1 _, nofun, _, h2 _, nofun, _, _, _, rfl, rfl, ints_at l1, _, h3 _, nofun, _, h2 _, nofun, _, _, _, rfl, rfl, ints_at l2, _, _, _, rfl, rfl, rfl, _, rfl, ?_⟩
  have e : neP s t (.int (j : Nat)) = !decide (s[j] = t[j]) := by simp [neP, l1, l2]
  rw [e] at k'
  exact k'
def indP (L : List Row) (y : D) : D := .int (if ((rowsD L).any fun z => PyData.eqv z.py y.py) = true then 1 else 0)
def s_law_part_question : DSpec := fun _ ds K => ∃ (S : List Row) (start : Row) (plans : List (List Nat)) (dd : Nat), ds = [.lst (rowsD S), .ints start, .lst (plans.map lotD)] ∧ (∀ s ∈ S, s.length = dd) ∧ S.length ≤ 1000 ∧ start ∈ S ∧ (∀ p ∈ plans, (∀ k ∈ p, k < dd) ∧ p.length ≤ 1000) ∧
  ∀ qs : List Int, qs.length = S.length → (∀ (i : Nat) s q, S[i]? = some s → qs[i]? = some q → (q = 1 ∨ q = 0) ∧ (q = 1 ↔ Rch (stpP S plans) start s)) → K (.ints qs)
theorem sc_law_part_question : FnScope ["_law_states", "_law_start", "_law_plans", "_law_found", "_law_fresh", "_law_now", "_law_lot", "_law_state", "_law_key"] ["_law_states", "_law_start", "_law_plans"] (defScope f_law_part_question) := ⟨rfl, rfl, rfl, by decide +kernel, rfl, by decide +kernel, by decide +kernel⟩
theorem c_law_part_question (ft : Fts mg) (d : DF K mg "_law_part_question" f_law_part_question) : Cl P w K mg base 2 "_law_part_question" 3 s_law_part_question :=
  cl_of (k := 1) d sc_law_part_question rfl (fun _ _ _ _ _ _ us hl => match us, hl with | [_, _, _], _ => rfl) (fun W ds K h => by obtain ⟨_, _, _, _, e, _⟩ := h; rw [e]; rfl) (fun a W cdv A outer s H E hr =>
  have nd := sc_law_part_question.nd
  (ssd_cons (sd_tupG (is := [3, 4]) rfl (pgs_cons (pg_name (i := 3) nd rfl (Or.inr rfl)) (pgs_cons (pg_name (i := 4) nd rfl (Or.inl rfl)) pgs_nil)) (pqd_cons (pr_lst (pad_cons (pr_var (pv 1)) pad_nil)) (pqd_cons (pr_lst (pad_cons (pr_var (pv 1)) pad_nil)) pqd_nil)) (by decide)) (ssd_cons (sd_while PassesOwn.never (pt_neD hr (pd_var (pv 4)) (PRd.e (pr_lst pad_nil))) (ssd_cons (sd_setX (n := 5) nd rfl (Or.inr rfl) (px_pop (pv 4))) (ssd_one (sd_for PassesOwn.never rfl (id_ss (pr_var (pv 2))) (gd_name (i := 6) nd rfl (Or.inl rfl)) (ssd_one (sd_for PassesOwn.never rfl (id_ss (pr_var (pv 0))) (gd_name (i := 7) nd rfl (Or.inr rfl)) (ssd_one (sd_if (PWd.t (pwd_and (pt_niD hr (pd_var (pv 7)) (pd_var (pv 3))) (pwd_and1 (pt_eqD hr (PRd.e (pr_lc (i := 8) rfl nd (id_ss (pr_var (pv 6))) (bok (own := [("_law_key", 8)]) rfl) (fun _ _ _ _ _ => pg_name (i := 8) nd rfl (Or.inl rfl)) (fun _ _ _ _ _ => ptsd_one (pt_neS (PRd.e (pr_item (pd_var (pv 7)) (pd_var (pv 8)))) (PRd.e (pr_item (pd_var (pv 5)) (pd_var (pv 8)))))) (fun _ _ _ _ _ => (pr_var (pv 8))))) (PRd.e (pr_lst pad_nil)))))) (ssd_cons (sd_app (pv 3) (px_of (pr_var (pv 7)))) (ssd_one (sd_app (pv 4) (px_of (pr_var (pv 7)))))) ssd_nil)))))))) (ssd_fz 3 (ssd_one (sd_ret (pr_tuple rfl ft.m_tuple (PRd.e (pr_lc (i := 7) rfl nd (id_ss (pr_var (pv 0))) (bok (own := [("_law_state", 7)]) rfl) (fun _ _ _ _ _ => pg_name (i := 7) nd rfl (Or.inl rfl)) (fun _ _ _ _ _ => ptsd_nil) (fun _ _ _ _ _ => (pr_if (pt_inD hr (pd_var (pv 7)) (pd_var (pv 3))) pr_int pr_int)))))))))))
   (fun W ds K h => by
    obtain ⟨S, start, plans, dd, rfl, hdd, hS, hst, hpl, z⟩ := h
    refine ⟨_, rfl, _, rfl, (by simp), _, rfl, _, rfl, (by simp), rfl, ?_⟩
    have u0 : unf S (inL [start]) + 1 ≤ S.length := by
      have := unf_put (S := S) (fd := fun _ => false) (fd' := inL [start]) hst rfl (fun s => by simp [inL])
      refine Nat.le_trans this ?_
      unfold unf
      exact List.length_filter_le _ _
    refine ⟨fun μ ρ => ∃ L fresh c dn x5 x6 x7 x8, ρ = [.d (.lst (rowsD S)), .d (.ints start), .d (.lst (plans.map lotD)), .ol (rowsD L), .ol (rowsD fresh), x5, x6, x7, x8] ∧ Gs (stpP S plans) (inL L) start fresh c dn ∧ (fresh = [c] ∨ ∀ t, stpP S plans c t → dn t) ∧ (∀ s ∈ L, s ∈ S) ∧
      μ = unf S (inL L) + fresh.length ∧ L.length + unf S (inL L) ≤ S.length ∧ μ ≤ S.length, ⟨_, [start], [start], start, fun _ => False, _, _, _, _, rfl, Gs.begin (fun s => by simp [inL]), .inl rfl, (by simpa using hst), rfl, (by simp; omega), (by simp; omega)⟩, ?_⟩
    rintro μ ρ ⟨L, fresh, c0, dn0, x5, x6, x7, x8, rfl, I0, hc0, hLS, hμ, hl, hμ1⟩
    refine ⟨_, rfl, nofun, (by simp), _, _, rfl, rfl, flat_rowsL _ _, rfl, _, rfl, fun hb => ?_, fun hb => ?_⟩
    · rw [eqv_nilL] at hb
      have hne : fresh ≠ [] := fun e => by rw [e] at hb; simp [rowsD] at hb
      obtain ⟨rest, c, rfl⟩ : ∃ rest c, fresh = rest ++ [c] := ⟨fresh.dropLast, fresh.getLast hne, (List.dropLast_concat_getLast hne).symm⟩
      have I1 := I0.pop (by
        rcases hc0 with e | e
        · rcases List.append_eq_singleton_iff.mp e with ⟨_, q⟩ | ⟨_, q⟩
          · exact .inl (by simpa using q.symm)
          · simp at q
        · exact .inr (.inr e))
      have hcS : c ∈ S := hLS c (by have := I1.cu; simpa [inL] using this)
      refine ⟨rowsD rest, .ints c, (by rw [rowsD_app]; rfl), ?_⟩
      -- the lots, one by one
      refine ⟨_, rfl, _, _, rfl, rfl, fun i ρ => ∃ L fresh y6 y7 y8, ρ = [.d (.lst (rowsD S)), .d (.ints start), .d (.lst (plans.map lotD)), .ol (rowsD L), .ol (rowsD fresh), .d (.ints c), y6, y7, y8] ∧ Gs (stpP S plans) (inL L) start fresh c (fun _ => False) ∧ (∀ s ∈ L, s ∈ S) ∧
        (∀ (i' : Nat) p t, i' < i → plans[i']? = some p → t ∈ S → agr p t c → inL L t = true) ∧ unf S (inL L) + fresh.length + 1 ≤ μ ∧ L.length + unf S (inL L) ≤ S.length, ⟨L, rest, _, _, _, rfl, I1, hLS, fun i' p t h => absurd h (Nat.not_lt_zero _), (by simp at hμ ⊢; omega), hl⟩, ?_, ?_⟩
      · rintro i x ρ hx ⟨L1, fr1, y6, y7, y8, rfl, I2, hLS1, hdn, hμ2, hl2⟩
        obtain ⟨p, hp, rfl⟩ : ∃ p, plans[i]? = some p ∧ x = lotD p := by
          rw [List.getElem?_map] at hx
          cases e : plans[i]? with
          | none => rw [e] at hx; cases hx
          | some p => rw [e] at hx; cases hx; exact ⟨p, rfl, rfl⟩
        obtain ⟨hpk, hpz⟩ := hpl p (List.mem_of_getElem? hp)
        refine ⟨_, rfl, _, _, rfl, rfl, fun j ρ => ∃ L fresh y7 y8, ρ = [.d (.lst (rowsD S)), .d (.ints start), .d (.lst (plans.map lotD)), .ol (rowsD L), .ol (rowsD fresh), .d (.ints c), .d (lotD p), y7, y8] ∧ Gs (stpP S plans) (inL L) start fresh c (fun _ => False) ∧ (∀ s ∈ L, s ∈ S) ∧
          (∀ (i' : Nat) p t, i' < i → plans[i']? = some p → t ∈ S → agr p t c → inL L t = true) ∧ (∀ (j' : Nat) t, j' < j → S[j']? = some t → agr p t c → inL L t = true) ∧ unf S (inL L) + fresh.length + 1 ≤ μ ∧ L.length + unf S (inL L) ≤ S.length, ⟨L1, fr1, _, _, rfl, I2, hLS1, hdn, fun j' t h => absurd h (Nat.not_lt_zero _), hμ2, hl2⟩, ?_, ?_⟩
        · rintro j x ρ hx ⟨L2, fr2, y7, y8, rfl, I3, hLS2, hdn1, hdn2, hμ3, hl3⟩
          obtain ⟨o, ho, rfl⟩ := rows_at hx
          have hoS : o ∈ S := List.mem_of_getElem? ho
          have hyes : inL L2 o = true ∨ ¬ agr p o c → (∀ (j' : Nat) t, j' < j + 1 → S[j']? = some t → agr p t c → inL L2 t = true) := fun q j' t h1 h2 h3 => by
            by_cases e : j' = j
            · subst e
              rw [ho] at h2
              cases h2
              rcases q with q | q
              · exact q
              · exact absurd h3 q
            · exact hdn2 j' t (by omega) h2 h3
          refine ⟨_, rfl, nofun, _, rfl, nofun, _, _, rfl, rfl, flat_ints' _ _, flatL_rows _ _, _, rfl, fun hb1 => ?_, fun hb1 => ?_⟩
          · rw [any_rows] at hb1
            have hno : inL L2 o = false := by simpa [inL] using hb1
            refine lcNe o c p (fun K' h' => ⟨_, rfl, _, _, rfl, rfl, h'⟩) (by omega) (fun k hk => ⟨by rw [hdd o hoS]; exact hpk k hk, by rw [hdd c hcS]; exact hpk k hk⟩) (fun _ => rfl) (fun _ => rfl) (fun _ => rfl) ⟨(by simp), _, _, rfl, rfl, ?_, rfl, _, rfl, fun hb2 => ?_, fun hb2 => ?_⟩
            · refine flatL_iff.mpr fun x hx => ?_
              obtain ⟨k, _, rfl⟩ := mem_nats (List.mem_filter.mp hx).1
              exact flat_int _ _
            · rw [eqv_nilL, neP_empty] at hb2
              have u1 := unf_put (S := S) (fd := inL L2) (fd' := inL (L2 ++ [o])) hoS hno (inL_snoc L2 o)
              refine ⟨⟨_, rfl⟩, _, rfl, _, rfl, _, rfl, (by rw [rowsD_len]; omega), ⟨_, rfl⟩, _, rfl, _, rfl, _, rfl, (by rw [rowsD_len]; omega), L2 ++ [o], fr2 ++ [o], _, _, (by rw [rowsD_app, rowsD_app]; rfl), ?_, ?_, ?_, ?_, ?_, ?_⟩
              · exact (I3.put (o := o) ⟨hcS, hoS, p, List.mem_of_getElem? hp, fun k hk => (hb2 k hk).symm⟩ (inL_snoc L2 o)).forget
              · intro s hs
                rcases List.mem_append.mp hs with q | q
                · exact hLS2 s q
                · simp at q; exact q ▸ hoS
              · intro i' p' t h1 h2 h3 h4
                exact (inL_snoc L2 o t).mpr (.inl (hdn1 i' p' t h1 h2 h3 h4))
              · intro j' t h1 h2 h3
                by_cases e : j' = j
                · subst e
                  rw [ho] at h2
                  cases h2
                  exact (inL_snoc L2 o o).mpr (.inr rfl)
                · exact (inL_snoc L2 o t).mpr (.inl (hdn2 j' t (by omega) h2 h3))
              · simp; omega
              · simp; omega
            · rw [eqv_nilL] at hb2
              have hna : ¬ agr p o c := fun q => by rw [neP_empty.mpr q] at hb2; cases hb2
              exact ⟨L2, fr2, _, _, rfl, I3, hLS2, hdn1, hyes (.inr hna), hμ3, hl3⟩
          · rw [any_rows] at hb1
            have hin : inL L2 o = true := by simpa [inL] using hb1
            exact ⟨nofun, fun _ => ⟨L2, fr2, _, _, rfl, I3, hLS2, hdn1, hyes (.inl hin), hμ3, hl3⟩⟩
        · rintro ρ ⟨L2, fr2, y7, y8, rfl, I3, hLS2, hdn1, hdn2, hμ3, hl3⟩
          refine ⟨L2, fr2, _, _, _, rfl, I3, hLS2, fun i' p' t h1 h2 h3 h4 => ?_, hμ3, hl3⟩
          by_cases e : i' = i
          · subst e
            rw [hp] at h2
            cases h2
            obtain ⟨j', hj'⟩ := List.getElem?_of_mem h3
            exact hdn2 j' t (by rw [rowsD_len]; exact (List.getElem?_eq_some_iff.mp hj').1) hj' h4
          · exact hdn1 i' p' t (by omega) h2 h3 h4
      · rintro ρ ⟨L1, fr1, y6, y7, y8, rfl, I2, hLS1, hdn, hμ2, hl2⟩
        refine ⟨_, hμ2, L1, fr1, c, fun _ => True, _, _, _, _, rfl, I2.all fun t ht => ?_, .inr fun _ _ => trivial, hLS1, rfl, hl2, by omega⟩
        obtain ⟨_, hT, p, hp, ha⟩ := ht
        obtain ⟨i', hi'⟩ := List.getElem?_of_mem hp
        exact hdn i' p t (by rw [List.length_map]; exact (List.getElem?_eq_some_iff.mp hi').1) hi' hT fun k hk => (ha k hk).symm
    · rw [eqv_nilL] at hb
      have e : fresh = [] := by cases fresh with | nil => rfl | cons _ _ => simp [rowsD] at hb
      subst e
      have fin := I0.done (by
        rcases hc0 with q | q
        · simp at q
        · exact q)
      show sRet (dCB gTuple (vCons (dLc (iS (dVar 0)) [7] tgN dYes _) vNil)) _ (fzAt 3 _)
      refine uRetTuple (lcN (xs := rowsD S) (fun _ => true) (indP L) (fun K' h' => ⟨_, rfl, _, _, rfl, rfl, h'⟩) (by rw [rowsD_len]; omega) (fun x hx K' k' => k') (fun x hx _ K' k' => ?_) ⟨_, _, rfl, rfl, _, rfl, ?_⟩)
      · obtain ⟨r, hr, rfl⟩ := mem_rowsD hx
        refine ⟨_, rfl, nofun, _, rfl, nofun, _, _, rfl, rfl, flat_ints' _ _, flatL_rows _ _, _, rfl, fun hb1 => ?_, fun hb1 => ?_⟩
        · exact k' _ (by show some _ = some (indP L _); unfold indP; rw [if_pos hb1])
        · exact k' _ (by show some _ = some (indP L _); unfold indP; rw [if_neg (by rw [hb1]; simp)])
      · rw [filter_tt]
        have e1 : (rowsD S).map (indP L) = (S.map fun s => (if s ∈ L then 1 else 0 : Int)).map .int := by
          unfold rowsD
          rw [List.map_map, List.map_map]
          refine List.map_congr_left fun s _ => ?_
          have := any_rows s L
          unfold rowsD at this
          show D.int (if (List.map D.ints L).any (fun z => PyData.eqv z.py (D.ints s).py) = true then 1 else 0) = D.int (if s ∈ L then 1 else 0)
          rw [this]
          simp
        rw [e1]
        refine z _ (by simp) fun i s q h1 h2 => ?_
        rw [List.getElem?_map, h1] at h2
        cases h2
        have f := fin s
        simp only [inL, decide_eq_true_eq] at f
        by_cases hs : s ∈ L
        · simp [hs, f.mp hs]
        · simp [hs]
          exact fun h => hs (f.mpr h))
end
end DL
namespace DL
open PySem PySem.Spec L2 Tx
section
variable {P : Program} {w : World} {K : PySem.W.Frag} {mg : Str → Option Value} {base : Heap}
theorem sIx_nat (n d i : Nat) (h : i ≤ n) : HT.sIx n d (some (i : Int)) = i := by
  rw [HT.sIx_nat]
  omega
theorem cutG_take {α : Type} (xs : List α) (i : Nat) (h : i ≤ xs.length) : cutG xs none (some (i : Int)) = xs.take i := by
  unfold cutG
  rw [sIx_nat _ _ _ h]
  show ((xs.drop 0).take (i - 0)) = _
  simp
theorem cutG_drop {α : Type} (xs : List α) (i : Nat) (h : i ≤ xs.length) : cutG xs (some (i : Int)) none = xs.drop i := by
  unfold cutG
  rw [sIx_nat _ _ _ h]
  show (xs.drop i).take (xs.length - i) = _
  rw [List.take_of_length_le (by simp)]
/-- [key for key in range(len(one)) if one[key] != other[key]] -/
theorem lcDiff {pi : RI} {i a b : Nat} {ρ : List Sd} {K : Sd → Prop} (s t : Row) (hi : ∀ K' : List D → Prop, K' (rangeD 0 s.length) → pi ρ K') (hl : s.length ≤ t.length) (hz : s.length ≤ 100000)
    (h1 : ∀ x, ((blk ρ [i]).set i (.d x))[a]? = some (.d (.ints s))) (h3 : ∀ x, ((blk ρ [i]).set i (.d x))[b]? = some (.d (.ints t))) (h2 : ∀ x, ((blk ρ [i]).set i (.d x))[i]? = some (.d x)) (k : K (.ol ((natsI (diffN s t)).map .int))) :
    dLc pi [i] tgN (dT2 gNeS (d2 gIx (dVarE a) (dVarE i)) (d2 gIx (dVarE b) (dVarE i))) (dVar i) ρ K := by
  refine lcN (xs := rangeD 0 s.length) (diffP s t) _root_.id hi (by rw [rangeD_len]; exact hz) (fun x hx K' k' => ?_) (fun x hx _ K' k' => ⟨x, h2 x, k' _ rfl⟩) ?_
  · obtain ⟨j, hj, rfl⟩ := mem_range0 hx
    have l2 : j < t.length := by omega
    refine ⟨_, h1 _, nofun, _, h2 _, nofun, _, _, _, rfl, rfl, ints_at hj, _, h3 _, nofun, _, h2 _, nofun, _, _, _, rfl, rfl, ints_at l2, _, _, _, rfl, rfl, rfl, _, rfl, ?_⟩
    simpa [diffP, hj, l2] using k'
  · have e : ((rangeD 0 s.length).filter (diffP s t)).map _root_.id = (natsI (diffN s t)).map D.int := by
      rw [rangeD0, List.filter_map, List.map_id, natsI, List.map_map]
      rfl
    rw [e]
    exact k
theorem dget_mapv {κ α β : Type} [DecidableEq κ] (f : α → β) (k : κ) : ∀ l : List (κ × α), dget (l.map fun kv => (kv.1, f kv.2)) k = (dget l k).map f
  | [] => rfl
  | p :: l => by
    rw [List.map_cons, dget_cons, dget_cons, dget_mapv f k l]
    by_cases e : p.1 = k <;> simp [e]
/-- pairs of places below i; and of i with those below j -/
def doneB (S : List Row) (i j : Nat) (s o : Row) : Prop := ∃ a b : Nat, S[a]? = some s ∧ S[b]? = some o ∧ ((a < i ∧ b < i) ∨ (a = i ∧ b < j) ∨ (b = i ∧ a < j))
structure BeI (S : List Row) (i j n : Nat) (h : List (Row × List D)) : Prop where
  keys : h.map (·.1) = S.take n
  at' : ∀ s ∈ S.take n, ∃ ps : List (Nat × Row), dget h s = some (ps.map nb1) ∧ ps.length ≤ i * 64 + j ∧ ∀ k o, (k, o) ∈ ps ↔ doneB S i j s o ∧ diffN s o = [k]
theorem at_inj {S : List Row} (nd : S.Nodup) {a b : Nat} {s : Row} (h1 : S[a]? = some s) (h2 : S[b]? = some s) : a = b := by
  exact (List.getElem?_inj (List.getElem?_eq_some_iff.mp h1).1 nd).mp (h1.trans h2.symm)
theorem BeI.key {S : List Row} {i j n : Nat} {h : List (Row × List D)} (nd : S.Nodup) (I : BeI S i j n h) : (h.map (·.1)).Nodup := by
  rw [I.keys]
  exact nd.sublist (List.take_sublist _ _)
theorem mem_take {S : List Row} {n : Nat} {s : Row} : s ∈ S.take n ↔ ∃ a : Nat, a < n ∧ S[a]? = some s := by
  constructor
  · intro h
    obtain ⟨a, ha⟩ := List.getElem?_of_mem h
    have l := (List.getElem?_eq_some_iff.mp ha).1
    rw [List.length_take] at l
    rw [List.getElem?_take_of_lt (by omega)] at ha
    exact ⟨a, by omega, ha⟩
  · rintro ⟨a, h1, h2⟩
    refine List.mem_of_getElem? (i := a) ?_
    rw [List.getElem?_take_of_lt h1]
    exact h2
/-- the next state -/
theorem BeI.next {S : List Row} {i : Nat} {h : List (Row × List D)} {one : Row} (nd : S.Nodup) (I : BeI S i 0 i h) (ho : S[i]? = some one) : dget h one = none ∧ BeI S i 0 (i + 1) (h ++ [(one, [])]) := by
  have hn : dget h one = none := dget_none_keys.mpr (by
    rw [I.keys]
    intro hm
    obtain ⟨a, h1, h2⟩ := mem_take.mp hm
    have := at_inj nd h2 ho
    omega)
  refine ⟨hn, ?_, fun s hs => ?_⟩
  · rw [List.map_append, I.keys, List.take_add_one, ho]; rfl
  · rw [dget_app, dget_cons, dget_nil]
    rw [List.take_add_one, ho] at hs
    rcases List.mem_append.mp hs with q | q
    · obtain ⟨ps, e, l, m⟩ := I.at' s q
      exact ⟨ps, by rw [e], l, m⟩
    · simp at q
      subst q
      refine ⟨[], by rw [hn]; simp, by simp, fun k o => ⟨fun z => by simp at z, fun ⟨⟨a, b, h1, h2, h3⟩, _⟩ => ?_⟩⟩
      have := at_inj nd h1 ho
      omega
theorem doneB_step {S : List Row} {i j : Nat} {one other s o : Row} (nd : S.Nodup) (h1 : S[i]? = some one) (h2 : S[j]? = some other) (hij : j < i) : doneB S i (j + 1) s o ↔ doneB S i j s o ∨ (s = one ∧ o = other) ∨ (s = other ∧ o = one) := by
  constructor
  · rintro ⟨a, b, g1, g2, g3⟩
    by_cases e1 : a = i ∧ b = j
    · rw [e1.1, h1] at g1
      rw [e1.2, h2] at g2
      cases g1; cases g2
      exact .inr (.inl ⟨rfl, rfl⟩)
    · by_cases e2 : b = i ∧ a = j
      · rw [e2.2, h2] at g1
        rw [e2.1, h1] at g2
        cases g1; cases g2
        exact .inr (.inr ⟨rfl, rfl⟩)
      · exact .inl ⟨a, b, g1, g2, by omega⟩
  · rintro (⟨a, b, g1, g2, g3⟩ | ⟨rfl, rfl⟩ | ⟨rfl, rfl⟩)
    · exact ⟨a, b, g1, g2, by omega⟩
    · exact ⟨i, j, h1, h2, by omega⟩
    · exact ⟨j, i, h2, h1, by omega⟩
theorem BeI.skip {S : List Row} {i j : Nat} {h : List (Row × List D)} {one other : Row} (nd : S.Nodup) {dd : Nat} (hd : ∀ s ∈ S, s.length = dd) (I : BeI S i j (i + 1) h) (h1 : S[i]? = some one) (h2 : S[j]? = some other) (hij : j < i) (hn : (diffN one other).length ≠ 1) : BeI S i (j + 1) (i + 1) h := by
  refine ⟨I.keys, fun s hs => ?_⟩
  obtain ⟨ps, e, l, m⟩ := I.at' s hs
  refine ⟨ps, e, by omega, fun k o => ?_⟩
  rw [m k o, doneB_step nd h1 h2 hij]
  constructor
  · rintro ⟨a, b⟩; exact ⟨.inl a, b⟩
  · rintro ⟨a | ⟨rfl, rfl⟩ | ⟨rfl, rfl⟩, b⟩
    · exact ⟨a, b⟩
    · rw [b] at hn; exact absurd rfl hn
    · rw [diffN_symm ((hd _ (List.mem_of_getElem? h2)).trans (hd _ (List.mem_of_getElem? h1)).symm)] at b
      rw [b] at hn; exact absurd rfl hn
theorem dput_map {h : List (Row × List D)} {k : Row} {x : List D} {n : Nat} {S : List Row} (hk : h.map (·.1) = S.take n) (hs : (dget h k).isSome) : (dput h k x).map (·.1) = S.take n := by
  rw [dput_keys h k x hs, hk]
theorem BeI.put {S : List Row} {i j k0 : Nat} {h : List (Row × List D)} {one other : Row} (nd : S.Nodup) {dd : Nat} (hd : ∀ s ∈ S, s.length = dd) (I : BeI S i j (i + 1) h) (h1 : S[i]? = some one) (h2 : S[j]? = some other) (hij : j < i) (hk : diffN one other = [k0]) :
    ∃ xs ys, dget h one = some xs ∧ xs.length ≤ i * 64 + j ∧ dget (dput h one (xs ++ [nb1 (k0, other)])) other = some ys ∧ ys.length ≤ i * 64 + j ∧ ((dput h one (xs ++ [nb1 (k0, other)])).map (·.1)).Nodup ∧ BeI S i (j + 1) (i + 1) (dput (dput h one (xs ++ [nb1 (k0, other)])) other (ys ++ [nb1 (k0, one)])) := by
  have m1 : one ∈ S.take (i + 1) := mem_take.mpr ⟨i, by omega, h1⟩
  have m2 : other ∈ S.take (i + 1) := mem_take.mpr ⟨j, by omega, h2⟩
  have ne : other ≠ one := fun e => by rw [e] at h2; have := at_inj nd h2 h1; omega
  obtain ⟨ps, e1, l1, p1⟩ := I.at' one m1
  obtain ⟨qs, e2, l2, p2⟩ := I.at' other m2
  have hk' : diffN other one = [k0] := by rw [diffN_symm ((hd _ (List.mem_of_getElem? h2)).trans (hd _ (List.mem_of_getElem? h1)).symm)]; exact hk
  have g1 : dget (dput h one (ps.map nb1 ++ [nb1 (k0, other)])) other = some (qs.map nb1) := by rw [dget_dput, if_neg ne, e2]
  have kk : (dput h one (ps.map nb1 ++ [nb1 (k0, other)])).map (·.1) = S.take (i + 1) := dput_map I.keys (by rw [e1]; rfl)
  refine ⟨ps.map nb1, qs.map nb1, e1, by simpa using l1, g1, by simpa using l2, by rw [kk]; exact nd.sublist (List.take_sublist _ _), dput_map kk (by rw [g1]; rfl), fun s hs => ?_⟩
  obtain ⟨rs, e3, l3, p3⟩ := I.at' s hs
  have st : ∀ s o, doneB S i (j + 1) s o ↔ doneB S i j s o ∨ (s = one ∧ o = other) ∨ (s = other ∧ o = one) := fun s o => doneB_step nd h1 h2 hij
  by_cases z2 : s = other
  · subst z2
    refine ⟨qs ++ [(k0, one)], by rw [dget_dput, if_pos rfl, List.map_append]; rfl, by simp; omega, fun k o => ?_⟩
    rw [List.mem_append, p2, st]
    constructor
    · rintro (⟨a, b⟩ | a)
      · exact ⟨.inl a, b⟩
      · simp at a
        rw [a.1, a.2]
        exact ⟨.inr (.inr ⟨rfl, rfl⟩), hk'⟩
    · rintro ⟨a | ⟨a, _⟩ | ⟨_, a⟩, b⟩
      · exact .inl ⟨a, b⟩
      · exact absurd a ne
      · subst a
        rw [hk'] at b
        cases b
        exact .inr (by simp)
  · by_cases z1 : s = one
    · subst z1
      refine ⟨ps ++ [(k0, other)], by rw [dget_dput, if_neg z2, dget_dput, if_pos rfl, List.map_append]; rfl, by simp; omega, fun k o => ?_⟩
      rw [List.mem_append, p1, st]
      constructor
      · rintro (⟨a, b⟩ | a)
        · exact ⟨.inl a, b⟩
        · simp at a
          rw [a.1, a.2]
          exact ⟨.inr (.inl ⟨rfl, rfl⟩), hk⟩
      · rintro ⟨a | ⟨_, a⟩ | ⟨a, _⟩, b⟩
        · exact .inl ⟨a, b⟩
        · subst a
          rw [hk] at b
          cases b
          exact .inr (by simp)
        · exact absurd a z2
    · refine ⟨rs, by rw [dget_dput, if_neg z2, dget_dput, if_neg z1, e3], by omega, fun k o => ?_⟩
      rw [p3, st]
      constructor
      · rintro ⟨a, b⟩; exact ⟨.inl a, b⟩
      · rintro ⟨a | ⟨a, _⟩ | ⟨a, _⟩, b⟩
        · exact ⟨a, b⟩
        · exact absurd a z1
        · exact absurd a z2
theorem BeI.turn {S : List Row} {i : Nat} {h : List (Row × List D)} {one : Row} (nd : S.Nodup) (I : BeI S i i (i + 1) h) (h1 : S[i]? = some one) (hS : S.length ≤ 64) : BeI S (i + 1) 0 (i + 1) h := by
  have hi := (List.getElem?_eq_some_iff.mp h1).1
  refine ⟨I.keys, fun s hs => ?_⟩
  obtain ⟨ps, e, l, m⟩ := I.at' s hs
  refine ⟨ps, e, by omega, fun k o => ?_⟩
  rw [m k o]
  constructor
  · rintro ⟨⟨a, b, g1, g2, g3⟩, c⟩
    exact ⟨⟨a, b, g1, g2, by omega⟩, c⟩
  · rintro ⟨⟨a, b, g1, g2, g3⟩, c⟩
    refine ⟨⟨a, b, g1, g2, ?_⟩, c⟩
    by_cases e1 : a = i
    · by_cases e2 : b = i
      · rw [e1, h1] at g1
        rw [e2, h1] at g2
        cases g1; cases g2
        rw [diffN_self] at c
        cases c
      · omega
    · omega
def s_law_beside : DSpec := fun _ ds K => ∃ (S : List Row) (dd : Nat), ds = [.lst (rowsD S)] ∧ (∀ s ∈ S, s.length = dd) ∧ dd ≤ 1000 ∧ S.length ≤ 64 ∧ S.Nodup ∧ ∀ kvs, BesOk S kvs → K (.dct kvs)
theorem sc_law_beside : FnScope ["_law_states", "_law_found", "_law_at", "_law_one", "_law_other", "_law_apart_here", "_law_key"] ["_law_states"] (defScope f_law_beside) := ⟨rfl, rfl, rfl, by decide +kernel, rfl, by decide +kernel, by decide +kernel⟩
theorem c_law_beside (ft : Fts mg) (d : DF K mg "_law_beside" f_law_beside) : Cl P w K mg base 2 "_law_beside" 1 s_law_beside :=
  cl_of (k := 1) d sc_law_beside rfl (fun _ _ _ _ _ _ us hl => match us, hl with | [_], _ => rfl) (fun W ds K h => by obtain ⟨_, _, e, _⟩ := h; rw [e]; rfl) (fun a W cdv A outer s H E hr =>
  have nd := sc_law_beside.nd
  (ssd_cons (sd_set (i := 1) nd rfl (Or.inl rfl) pr_dO) (ssd_cons (sd_for PassesOwn.never rfl (id_ee rfl ft.m_enumerate (pad_cons (pr_var (pv 0)) pad_nil)) (gd_tup (is := [2, 3]) rfl (pgs_cons (pg_name (i := 2) nd rfl (Or.inl rfl)) (pgs_cons (pg_name (i := 3) nd rfl (Or.inr rfl)) pgs_nil))) (ssd_cons (sd_putO hr (pv 1) (pd_var (pv 3)) (pr_lst pad_nil)) (ssd_one (sd_for PassesOwn.never rfl (id_ss (pr_slA (pd_var (pv 0)) pod_none (pod_some (pd_var (pv 2))))) (gd_name (i := 4) nd rfl (Or.inr rfl)) (ssd_cons (sd_setLc (i := 6) (n := 5) rfl nd rfl rfl (sw_true rfl rfl rfl rfl) (id_range1 rfl ft.m_range (pr_len rfl ft.m_len (pd_var (pv 3)))) (bok (own := [("_law_key", 6)]) rfl) (fun _ _ _ _ _ => pg_name (i := 6) nd rfl (Or.inl rfl)) (fun _ _ _ _ _ => ptsd_one (pt_neS (PRd.e (pr_item (pd_var (pv 3)) (pd_var (pv 6)))) (PRd.e (pr_item (pd_var (pv 4)) (pd_var (pv 6)))))) (fun _ _ _ _ _ => (pr_var (pv 6)))) (ssd_fz 5 (ssd_one (sd_if (pt_eqS (PRd.e (pr_len rfl ft.m_len (pd_var (pv 5)))) (PRd.e pr_int)) (ssd_cons (sd_appO hr (pv 1) (pd_var (pv 3)) (pr_tup (pad_cons (pr_item (pd_var (pv 5)) (PRd.e pr_int)) (pad_cons (pr_var (pv 4)) pad_nil)))) (ssd_one (sd_appO hr (pv 1) (pd_var (pv 4)) (pr_tup (pad_cons (pr_item (pd_var (pv 5)) (PRd.e pr_int)) (pad_cons (pr_var (pv 3)) pad_nil)))))) ssd_nil)))))))) (ssd_fz 1 (ssd_one (sd_ret (pr_var (pv 1))))))))
   (fun W ds K h => by
    obtain ⟨S, dd, rfl, hdd, hd2, hS, nd, z⟩ := h
    refine ⟨_, rfl, _, rfl, _, _, rfl, rfl, fun i ρ => ∃ h x2 x3 x4 x5 x6, ρ = [.d (.lst (rowsD S)), .oo h, x2, x3, x4, x5, x6] ∧ BeI S i 0 i h, ?_, ?_, ?_⟩
    · exact ⟨[], _, _, _, _, _, rfl, by simp, fun s hs => by simp at hs⟩
    · rintro i x ρ hx ⟨h, x2, x3, x4, x5, x6, rfl, I⟩
      obtain ⟨one, ho, rfl⟩ := enum_at hx
      have hi := (List.getElem?_eq_some_iff.mp ho).1
      obtain ⟨hn, I1⟩ := I.next nd ho
      have hl : h.length = i := by
        have := congrArg List.length I.keys
        rw [List.length_map, List.length_take] at this
        omega
      refine ⟨_, rfl, rfl, ?_⟩
      refine ⟨(by simp), _, h, rfl, rfl, (by omega), _, rfl, nofun, one, rfl, hn, ?_⟩
      have e0 : cutG (rowsD S) none (some ((i : Nat) : Int)) = rowsD (S.take i) := by
        rw [cutG_take _ _ (by rw [rowsD_len]; omega)]
        unfold rowsD
        rw [List.map_take]
      refine ⟨_, rfl, nofun, _, rfl, nofun, _, rfl, .inl ⟨_, rfl, .lst (rowsD (S.take i)), rowsD (S.take i), congrArg (fun zs => some (D.lst zs)) e0, rfl, ?_⟩⟩
      refine ⟨fun j ρ => ∃ h y4 y5 y6, ρ = [.d (.lst (rowsD S)), .oo h, .d (.int (i : Nat)), .d (.ints one), y4, y5, y6] ∧ BeI S i j (i + 1) h, ⟨_, _, _, _, rfl, I1⟩, ?_, ?_⟩
      · rintro j x ρ hx ⟨h, y4, y5, y6, rfl, I⟩
        obtain ⟨other, ho2', rfl⟩ := rows_at hx
        have hj : j < i := by
          have := (List.getElem?_eq_some_iff.mp ho2').1
          rw [List.length_take] at this
          omega
        have ho2 : S[j]? = some other := by rw [List.getElem?_take_of_lt hj] at ho2'; exact ho2'
        have lo := hdd one (List.mem_of_getElem? ho)
        have lo2 := hdd other (List.mem_of_getElem? ho2)
        refine uSetLc (lcDiff one other (fun K' h' => ⟨_, rfl, nofun, _, _, rfl, rfl, one.length, (by simp), (by omega), (by omega), (by simpa using h')⟩) (by omega) (by omega) (fun _ => rfl) (fun _ => rfl) (fun _ => rfl) ?_)
        refine ⟨_, rfl, nofun, _, _, rfl, rfl, _, _, _, rfl, rfl, rfl, _, rfl, fun hb => ?_, fun hb => ?_⟩
        · have hlen : (diffN one other).length = 1 := by
            have hb' : ((diffN one other).length : Int) = 1 := by simpa [natsI] using hb
            omega
          obtain ⟨k0, hk0⟩ := List.length_eq_one_iff.mp hlen
          obtain ⟨xs, ys, a1, a2, a3, a4, a5, a6⟩ := I.put nd hdd ho ho2 hj hk0
          have at0 : L2.atI ((natsI (diffN one other)).map D.int) 0 = some (.int (k0 : Nat)) := by rw [hk0]; rfl
          refine ⟨h, rfl, I.key nd, _, rfl, nofun, one, xs, rfl, a1, (by omega), _, rfl, nofun, _, 0, _, rfl, rfl, at0, _, rfl, _, rfl, _, rfl, (by simp), _, rfl, ?_⟩
          refine ⟨_, rfl, a5, _, rfl, nofun, other, ys, rfl, a3, (by omega), _, rfl, nofun, _, 0, _, rfl, rfl, at0, _, rfl, _, rfl, _, rfl, (by simp), _, rfl, ?_⟩
          exact ⟨_, _, _, _, rfl, a6⟩
        · exact ⟨h, _, _, _, rfl, I.skip nd hdd ho ho2 hj (fun e => by rw [show decide _ = true from by simp [natsI, e]] at hb; cases hb)⟩
      · rintro ρ ⟨h, y4, y5, y6, rfl, I⟩
        have e1 : (rowsD (S.take i)).length = i := by rw [rowsD_len, List.length_take]; omega
        rw [e1] at I
        exact ⟨h, _, _, _, _, _, rfl, I.turn nd ho hS⟩
    · rintro ρ ⟨h, x2, x3, x4, x5, x6, rfl, I⟩
      have e0 : (enumD (rowsD S)).length = S.length := by rw [enumD_len, rowsD_len]
      rw [e0] at I
      refine ⟨_, rfl, _, rfl, z _ ⟨fun s hs => ?_⟩⟩
      obtain ⟨ps, e, l, m⟩ := I.at' s (by rw [List.take_length]; exact hs)
      refine ⟨ps, by rw [dget_mapv, e]; rfl, fun k o => ?_, by omega⟩
      rw [m k o]
      constructor
      · rintro ⟨⟨a, b, g1, g2, g3⟩, c⟩
        exact ⟨List.mem_of_getElem? g2, c⟩
      · rintro ⟨a, c⟩
        obtain ⟨a1, h1⟩ := List.getElem?_of_mem hs
        obtain ⟨b1, h2⟩ := List.getElem?_of_mem a
        exact ⟨⟨a1, b1, h1, h2, .inl ⟨(List.getElem?_eq_some_iff.mp h1).1, (List.getElem?_eq_some_iff.mp h2).1⟩⟩, c⟩)
end
end DL
namespace DL
open PySem PySem.Spec L2 Tx
section
variable {P : Program} {w : World} {K : PySem.W.Frag} {mg : Str → Option Value} {base : Heap}
theorem natsI_inj : ∀ {a b : List Nat}, natsI a = natsI b → a = b
  | [], [], _ => rfl
  | x :: a, y :: b, h => by
    have h' : ((x : Int) :: natsI a) = ((y : Int) :: natsI b) := h
    injection h' with h1 h2
    rw [natsI_inj h2]
    congr 1
    omega
  | [], _ :: _, h => by cases h
  | _ :: _, [], h => by cases h
def pr2 (p : Row × Row) : D := .tup [.ints p.1, .ints p.2]
/-- the pairs without a chain, of the places below i, and of i with those below m -/
def apB (S : List Row) (i m : Nat) (p : Row × Row) : Prop := ∃ a b : Nat, a < b ∧ S[a]? = some p.1 ∧ S[b]? = some p.2 ∧ (a < i ∨ (a = i ∧ b < m)) ∧ ¬ joinedP S p.1 p.2
theorem apB_step {S : List Row} {i m : Nat} {one other : Row} (nd : S.Nodup) (h1 : S[i]? = some one) (h2 : S[m]? = some other) (him : i < m) (p : Row × Row) : apB S i (m + 1) p ↔ apB S i m p ∨ (p = (one, other) ∧ ¬ joinedP S one other) := by
  constructor
  · rintro ⟨a, b, g0, g1, g2, g3, g4⟩
    by_cases e : a = i ∧ b = m
    · rw [e.1, h1] at g1
      rw [e.2, h2] at g2
      cases g1; cases g2
      exact .inr ⟨rfl, g4⟩
    · exact .inl ⟨a, b, g0, g1, g2, by omega, g4⟩
  · rintro (⟨a, b, g0, g1, g2, g3, g4⟩ | ⟨rfl, g⟩)
    · exact ⟨a, b, g0, g1, g2, by omega, g4⟩
    · exact ⟨i, m, him, h1, h2, by omega, g⟩
def s_law_pairs_apart : DSpec := fun _ ds K => ∃ (S : List Row) (kvs : List (Row × D)) (dd : Nat), ds = [.lst (rowsD S), .dct kvs] ∧ (∀ s ∈ S, s.length = dd) ∧ dd ≤ 1000 ∧ S.length ≤ 64 ∧ S.Nodup ∧ BesOk S kvs ∧
  ∀ ps : List (Row × Row), (∀ p, p ∈ ps ↔ apB S S.length 0 p) → ps.length ≤ 5000 → K (.lst (ps.map pr2))
theorem sc_law_pairs_apart : FnScope ["_law_states", "_law_beside_here", "_law_known", "_law_found", "_law_at", "_law_one", "_law_other", "_law_lot"] ["_law_states", "_law_beside_here"] (defScope f_law_pairs_apart) := ⟨rfl, rfl, rfl, by decide +kernel, rfl, by decide +kernel, by decide +kernel⟩
theorem c_law_pairs_apart (ft : Fts mg) (c_law_apart : Cl P w K mg base 2 "_law_apart" 2 s_law_apart) (c_law_homes : Cl P w K mg base 2 "_law_homes" 3 s_law_homes) (d : DF K mg "_law_pairs_apart" f_law_pairs_apart) : Cl P w K mg base 3 "_law_pairs_apart" 2 s_law_pairs_apart :=
  cl_of (k := 2) d sc_law_pairs_apart rfl (fun _ _ _ _ _ _ us hl => match us, hl with | [_, _], _ => rfl) (fun W ds K h => by obtain ⟨_, _, _, e, _⟩ := h; rw [e]; rfl) (fun a W cdv A outer s H E hr =>
  have nd := sc_law_pairs_apart.nd
  (ssd_cons (sd_par (i := 2) (j := 3) rfl nd rfl rfl (by decide) rfl rfl (pqd_cons pr_dT (pqd_cons (pr_lst pad_nil) pqd_nil)) rfl) (ssd_cons (sd_for PassesOwn.never rfl (id_ee rfl ft.m_enumerate (pad_cons (pr_var (pv 0)) pad_nil)) (gd_tup (is := [4, 5]) rfl (pgs_cons (pg_name (i := 4) nd rfl (Or.inl rfl)) (pgs_cons (pg_name (i := 5) nd rfl (Or.inl rfl)) pgs_nil))) (ssd_one (sd_for PassesOwn.never rfl (id_ss (pr_slA (pd_var (pv 0)) (pod_some (PRd.e (pr_add (pd_var (pv 4)) (PRd.e pr_int)))) pod_none)) (gd_name (i := 6) nd rfl (Or.inl rfl)) (ssd_cons (sd_set (i := 7) nd rfl (Or.inl rfl) (pr_call c_law_apart (hr.mono (by decide)) rfl (pad_cons (pr_var (pv 5)) (pad_cons (pr_var (pv 6)) pad_nil)))) (ssd_cons (sd_if (pt_dni hr (pd_var (pv 7)) (pd_var (pv 2))) (ssd_one (sd_putT hr (pv 2) (pd_var (pv 7)) (pr_call c_law_homes (hr.mono (by decide)) rfl (pad_cons (pr_var (pv 0)) (pad_cons (pr_var (pv 1)) (pad_cons (pr_var (pv 7)) pad_nil)))))) ssd_nil) (ssd_one (sd_if (pt_neS (PRd.e (pr_dget hr (PRd.e (pr_dget hr (pd_var (pv 2)) (pd_var (pv 7)))) (pd_var (pv 5)))) (PRd.e (pr_dget hr (PRd.e (pr_dget hr (pd_var (pv 2)) (pd_var (pv 7)))) (pd_var (pv 6))))) (ssd_one (sd_app (pv 3) (px_of (pr_tup (pad_cons (pr_var (pv 5)) (pad_cons (pr_var (pv 6)) pad_nil)))))) ssd_nil))))))) (ssd_fz 3 (ssd_one (sd_ret (pr_var (pv 3))))))))
   (fun W ds K h => by
    obtain ⟨S, kvs, dd, rfl, hdd, hd2, hS, nd, hB, z⟩ := h
    refine ⟨(by simp), rfl, ?_⟩
    refine ⟨_, rfl, _, rfl, _, _, rfl, rfl, fun i ρ => ∃ (h : List (Row × D)) (ps : List (Row × Row)) (x4 x5 x6 x7 : Sd), ρ = [.d (.lst (rowsD S)), .d (.dct kvs), .ot h, .ol (ps.map pr2), x4, x5, x6, x7] ∧ (∀ v x, dget h v = some x → ∃ lot kv, v = natsI lot ∧ x = .dct kv ∧ HomesOk S lot kv) ∧ h.length ≤ i * 64 ∧ (∀ p, p ∈ ps ↔ apB S i 0 p) ∧ ps.length ≤ i * 64, ?_, ?_, ?_⟩
    · exact ⟨[], [], _, _, _, _, rfl, fun v x e => (by cases e), by simp, fun p => ⟨fun e => by simp at e, fun ⟨a, b, _, _, _, g, _⟩ => by omega⟩, by simp⟩
    · rintro i x ρ hx ⟨h, ps, x4, x5, x6, x7, rfl, hk, hl, hp, hpl⟩
      obtain ⟨one, ho, rfl⟩ := enum_at hx
      have hi := (List.getElem?_eq_some_iff.mp ho).1
      have hoS : one ∈ S := List.mem_of_getElem? ho
      refine ⟨_, rfl, rfl, ?_⟩
      have e0 : cutG (rowsD S) (some (((i : Nat) : Int) + 1)) none = rowsD (S.drop (i + 1)) := by
        have : ((i : Nat) : Int) + 1 = ((i + 1 : Nat) : Int) := by omega
        rw [this, cutG_drop _ _ (by rw [rowsD_len]; omega)]
        unfold rowsD
        rw [List.map_drop]
      refine ⟨_, rfl, nofun, _, rfl, nofun, _, _, rfl, rfl, _, rfl, .inl ⟨_, rfl, .lst (rowsD (S.drop (i + 1))), rowsD (S.drop (i + 1)), congrArg (fun zs => some (D.lst zs)) e0, rfl, ?_⟩⟩
      refine ⟨fun j ρ => ∃ (h : List (Row × D)) (ps : List (Row × Row)) (x6 x7 : Sd), ρ = [.d (.lst (rowsD S)), .d (.dct kvs), .ot h, .ol (ps.map pr2), .d (.int (i : Nat)), .d (.ints one), x6, x7] ∧ (∀ v x, dget h v = some x → ∃ lot kv, v = natsI lot ∧ x = .dct kv ∧ HomesOk S lot kv) ∧ h.length ≤ i * 64 + j ∧ (∀ p, p ∈ ps ↔ apB S i (i + 1 + j) p) ∧ ps.length ≤ i * 64 + j, ⟨h, ps, _, _, rfl, hk, by omega, fun p => ?_, by omega⟩, ?_, ?_⟩
      · rw [hp]
        constructor
        · rintro ⟨a, b, g0, g1, g2, g3, g4⟩
          exact ⟨a, b, g0, g1, g2, by omega, g4⟩
        · rintro ⟨a, b, g0, g1, g2, g3, g4⟩
          exact ⟨a, b, g0, g1, g2, by omega, g4⟩
      · rintro j x ρ hx ⟨h, ps, x6, x7, rfl, hk, hl, hp, hpl⟩
        obtain ⟨other, ho2', rfl⟩ := rows_at hx
        have hj : j < S.length - (i + 1) := by
          have := (List.getElem?_eq_some_iff.mp ho2').1
          rw [List.length_drop] at this
          exact this
        have ho2 : S[i + 1 + j]? = some other := by rw [List.getElem?_drop] at ho2'; exact ho2'
        have hoS2 : other ∈ S := List.mem_of_getElem? ho2
        have lo := hdd one hoS
        have lo2 := hdd other hoS2
        refine ⟨_, rfl, _, rfl, _, rfl, _, rfl, one, other, rfl, by omega, by omega, ?_⟩
        have fin : ∀ h' : List (Row × D), (∀ v x, dget h' v = some x → ∃ lot kv, v = natsI lot ∧ x = .dct kv ∧ HomesOk S lot kv) → h'.length ≤ i * 64 + (j + 1) → (∃ kv, dget h' (natsI (diffN one other)) = some (.dct kv) ∧ HomesOk S (diffN one other) kv) →
            sIf (dT2 gNeS (dDGet (dDGet (dVarE 2) (dVarE 7)) (dVarE 5)) (dDGet (dDGet (dVarE 2) (dVarE 7)) (dVarE 6))) (sApp 3 (xOf (dTup (dCons (dVar 5) (dCons (dVar 6) dNil))))) sNext
            { nx := (fun j ρ => ∃ (h : List (Row × D)) (ps : List (Row × Row)) (x6 x7 : Sd), ρ = [.d (.lst (rowsD S)), .d (.dct kvs), .ot h, .ol (ps.map pr2), .d (.int (i : Nat)), .d (.ints one), x6, x7] ∧ (∀ v x, dget h v = some x → ∃ lot kv, v = natsI lot ∧ x = .dct kv ∧ HomesOk S lot kv) ∧ h.length ≤ i * 64 + j ∧ (∀ p, p ∈ ps ↔ apB S i (i + 1 + j) p) ∧ ps.length ≤ i * 64 + j) (j + 1), rt := K }
            [.d (.lst (rowsD S)), .d (.dct kvs), .ot h', .ol (ps.map pr2), .d (.int (i : Nat)), .d (.ints one), .d (.ints other), .d (.ints (natsI (diffN one other)))] := by
          rintro h' hk' hl' ⟨kv, g1, g2⟩
          obtain ⟨n, hn⟩ := g2.has one hoS
          obtain ⟨m, hm⟩ := g2.has other hoS2
          have hiff := g2.iff one hoS other hoS2 n m hn hm
          refine ⟨_, rfl, nofun, _, rfl, nofun, h', _, _, rfl, rfl, g1, _, rfl, nofun, kv, one, _, rfl, rfl, hn, _, rfl, nofun, _, rfl, nofun, h', _, _, rfl, rfl, g1, _, rfl, nofun, kv, other, _, rfl, rfl, hm, _, _, _, rfl, rfl, rfl, _, rfl, fun hb => ?_, fun hb => ?_⟩
          · have ne : ¬ n = m := by simpa using hb
            have na : ¬ joinedP S one other := fun q => ne (hiff.mpr q)
            refine ⟨⟨_, rfl⟩, _, rfl, _, rfl, _, rfl, _, rfl, (by simp), _, rfl, _, rfl, (by rw [List.length_map]; omega), h', ps ++ [(one, other)], _, _, (by rw [List.map_append]; rfl), hk', hl', fun p => ?_, (by rw [List.length_append]; simp; omega)⟩
            rw [List.mem_append, hp, show i + 1 + (j + 1) = i + 1 + j + 1 from rfl, apB_step nd ho ho2 (by omega)]
            simp [na]
          · have e : n = m := by simpa using hb
            refine ⟨h', ps, _, _, rfl, hk', hl', fun p => ?_, by omega⟩
            rw [hp, show i + 1 + (j + 1) = i + 1 + j + 1 from rfl, apB_step nd ho ho2 (by omega)]
            constructor
            · exact .inl
            · rintro (q | ⟨_, q⟩)
              · exact q
              · exact absurd (hiff.mp e) q
        refine ⟨_, rfl, nofun, _, rfl, nofun, h, _, rfl, rfl, _, rfl, fun hb => ?_, fun hb => ?_⟩
        · have hn : dget h (natsI (diffN one other)) = none := by simpa using hb
          refine ⟨_, rfl, _, rfl, _, rfl, _, rfl, _, rfl, _, rfl, S, kvs, diffN one other, dd, rfl, hdd, by omega, hB, fun hh hok => ?_⟩
          refine ⟨_, h, rfl, rfl, (by omega), _, rfl, nofun, _, rfl, ?_⟩
          refine fin (dput h (natsI (diffN one other)) (.dct hh)) (fun v x e => ?_) (by have := dput_len h (natsI (diffN one other)) (.dct hh); omega) ⟨hh, by rw [dget_dput, if_pos rfl], hok⟩
          rw [dget_dput] at e
          by_cases q : v = natsI (diffN one other)
          · rw [if_pos q] at e
            cases e
            exact ⟨_, hh, q, rfl, hok⟩
          · rw [if_neg q] at e
            exact hk v x e
        · have hs : (dget h (natsI (diffN one other))).isSome := by simpa using hb
          obtain ⟨x, hx⟩ := Option.isSome_iff_exists.mp hs
          obtain ⟨lot, kv, e1, rfl, e3⟩ := hk _ _ hx
          have e4 : diffN one other = lot := natsI_inj e1
          rw [← e4] at e3
          exact fin h hk (by omega) ⟨kv, hx, e3⟩
      · rintro ρ ⟨h, ps, x6, x7, rfl, hk, hl, hp, hpl⟩
        have e1 : (rowsD (S.drop (i + 1))).length = S.length - (i + 1) := by rw [rowsD_len, List.length_drop]
        rw [e1] at hl hp hpl
        refine ⟨h, ps, _, _, _, _, rfl, hk, by omega, fun p => ?_, by omega⟩
        rw [hp]
        constructor
        · rintro ⟨a, b, g0, g1, g2, g3, g4⟩
          exact ⟨a, b, g0, g1, g2, by omega, g4⟩
        · rintro ⟨a, b, g0, g1, g2, g3, g4⟩
          have := (List.getElem?_eq_some_iff.mp g2).1
          exact ⟨a, b, g0, g1, g2, by omega, g4⟩
    · rintro ρ ⟨h, ps, x4, x5, x6, x7, rfl, hk, hl, hp, hpl⟩
      have e0 : (enumD (rowsD S)).length = S.length := by rw [enumD_len, rowsD_len]
      rw [e0] at hp hpl
      exact ⟨_, rfl, _, rfl, z ps hp (by omega)⟩)
end
end DL
namespace DL
open PySem PySem.Spec L2 Tx
section
variable {P : Program} {w : World} {K : PySem.W.Frag} {mg : Str → Option Value} {base : Heap}
theorem ints_inj : ∀ {a b : List Int}, a.map D.int = b.map D.int → a = b
  | [], [], _ => rfl
  | x :: a, y :: b, h => by
    rw [List.map_cons, List.map_cons] at h
    injection h with h1 h2
    injection h1 with h1
    rw [h1, ints_inj h2]
  | [], _ :: _, h => by cases h
  | _ :: _, [], h => by cases h
def notInt (x : D) : Bool := !x.isInt
theorem all_ints {xs : List D} (h : (xs.filter notInt).isEmpty = true) : ∃ ns : List Int, xs = ns.map .int := by
  rw [List.isEmpty_iff, List.filter_eq_nil_iff] at h
  induction xs with
  | nil => exact ⟨[], rfl⟩
  | cons x xs ih =>
    obtain ⟨ns, e⟩ := ih fun y hy => h y (List.mem_cons_of_mem _ hy)
    have hx := h x List.mem_cons_self
    cases x <;> first | (exfalso; exact hx rfl) | skip
    rename_i i
    exact ⟨i :: ns, by rw [e]; rfl⟩
theorem ints_all (ns : List Int) : ((ns.map D.int).filter notInt).isEmpty = true := by
  rw [List.isEmpty_iff, List.filter_eq_nil_iff]
  intro x hx
  obtain ⟨i, _, rfl⟩ := List.mem_map.mp hx
  exact Bool.false_ne_true
/-- [one for one in xs if not isinstance(one, int) or isinstance(one, bool)] -/
theorem lcBad {pi : RI} {i : Nat} {ρ : List Sd} {K : Sd → Prop} (xs : List D) (hi : ∀ K' : List D → Prop, K' xs → pi ρ K') (hz : xs.length ≤ 100000) (hk : ∀ x ∈ xs, x.kd = true) (h2 : ∀ x, ((blk ρ [i]).set i (.d x))[i]? = some (.d x)) (k : K (.ol (xs.filter notInt))) :
    dLc pi [i] tgN (dOr (dNot (dTB (dIsi "int" (dVarE i)))) (dTB (dIsi "bool" (dVarE i)))) (dVar i) ρ K := by
  refine lcN (xs := xs) notInt _root_.id hi hz (fun x hx K' k' => ?_) (fun x hx _ K' k' => ⟨x, h2 x, k' _ rfl⟩) (by rw [List.map_id]; exact k)
  have hkx := hk x hx
  cases x <;> first | (exfalso; revert hkx; simp [D.kd, Sd.ty]; done) | skip
  all_goals exact ⟨_, h2 _, nofun, _, rfl, _, rfl, by first | exact fun _ => k' | exact fun h => absurd h (by decide), by first | exact fun h => absurd h (by decide) | exact fun _ => ⟨_, h2 _, nofun, _, rfl, _, rfl, k'⟩⟩
theorem fineL_kd {n : Nat} {xs : List D} (h : fineL n xs = true) : ∀ x ∈ xs, x.kd = true := fun x hx => fine_kd (fineL_iff.mp h x hx)
theorem flatL_sub {n : Nat} {xs : List D} {p : D → Bool} (h : flatL n xs = true) : flatL n (xs.filter p) = true := flatL_iff.mpr fun x hx => flatL_iff.mp h x (List.mem_filter.mp hx).1
theorem flatL_up {n : Nat} : ∀ {xs : List D}, flatL n xs = true → flatL (n + 1) xs = true := by
  have key : ∀ (n : Nat), (∀ x : D, x.flat n = true → x.flat (n + 1) = true) := by
    intro n
    induction n with
    | zero => intro x h; cases x <;> first | rfl | cases h
    | succ n ih =>
      intro x h
      cases x with
      | tup xs => exact flatL_iff.mpr fun y hy => ih y (flatL_iff.mp h y hy)
      | lst xs => exact flatL_iff.mpr fun y hy => ih y (flatL_iff.mp h y hy)
      | _ => first | rfl | cases h
  intro xs h
  exact flatL_iff.mpr fun x hx => key n x (flatL_iff.mp h x hx)
theorem flat_up {n : Nat} {x : D} (h : x.flat n = true) : x.flat (n + 1) = true := by
  have : flatL n [x] = true := by show (x.flat n && true) = true; rw [h]; rfl
  have := flatL_up this
  simpa [flatL] using this
def s_law_is_state : DSpec := fun _ ds K => ∃ (S : List Row) (x : D), ds = [.lst (rowsD S), x] ∧ x.fine 8 = true ∧ ∀ b : Bool, (b = true ↔ ∃ r ∈ S, x = .ints r) → K (.bl b)
theorem sc_law_is_state : FnScope ["_law_states", "_law_value", "_law_one"] ["_law_states", "_law_value"] (defScope f_law_is_state) := ⟨rfl, rfl, rfl, by decide +kernel, rfl, by decide +kernel, by decide +kernel⟩
theorem c_law_is_state (ft : Fts mg) (d : DF K mg "_law_is_state" f_law_is_state) : Cl P w K mg base 2 "_law_is_state" 2 s_law_is_state :=
  cl_of (k := 1) d sc_law_is_state rfl (fun _ _ _ _ _ _ us hl => match us, hl with | [_, _], _ => rfl) (fun W ds K h => by obtain ⟨_, _, e, _⟩ := h; rw [e]; rfl) (fun a W cdv A outer s H E hr =>
  have nd := sc_law_is_state.nd
  (ssd_cons (sd_if (PWd.t (pwd_or (ptd_not (pt_v (PRd.e (pr_isi (c := "tuple") (by decide) rfl ft.m_isinstance (pd_var (pv 1)) rfl ft.m_tuple (by decide +kernel))))) (pwd_or1 (pt_neD hr (PRd.e (pr_lc (i := 2) rfl nd (id_ss (pr_var (pv 1))) (bok (own := [("_law_one", 2)]) rfl) (fun _ _ _ _ _ => pg_name (i := 2) nd rfl (Or.inl rfl)) (fun _ _ _ _ _ => ptsd_one (PWd.t (pwd_or (ptd_not (pt_v (PRd.e (pr_isi (c := "int") (by decide) rfl ft.m_isinstance (pd_var (pv 2)) rfl ft.m_int (by decide +kernel))))) (pwd_or1 (pt_v (PRd.e (pr_isi (c := "bool") (by decide) rfl ft.m_isinstance (pd_var (pv 2)) rfl ft.m_bool (by decide +kernel)))))))) (fun _ _ _ _ _ => (pr_var (pv 2))))) (PRd.e (pr_lst pad_nil)))))) (ssd_one (sd_ret pr_bl)) ssd_nil) (ssd_one (sd_ret (pr_inD hr (pd_var (pv 1)) (pd_var (pv 0)))))))
   (fun W ds K h => by
    obtain ⟨S, x, rfl, hx, z⟩ := h
    have hkd := fine_kd hx
    have hF : (¬ ∃ r ∈ S, x = .ints r) → K (.bl false) := fun h => z false ⟨nofun, fun q => absurd q h⟩
    by_cases ht : ∃ xs, x = .tup xs
    · obtain ⟨xs, rfl⟩ := ht
      obtain ⟨hl, hf⟩ := fine_tup hx
      refine ⟨_, rfl, nofun, _, rfl, true, rfl, nofun, fun _ => ?_⟩
      refine lcBad xs (fun K' h' => ⟨_, rfl, _, _, rfl, rfl, h'⟩) (by omega) (fineL_kd hf) (fun _ => rfl) ⟨(by simp), _, _, rfl, rfl, ?_, rfl, _, rfl, fun hb => ?_, fun hb => ?_⟩
      · exact flatL_sub (flatL_up (fineL_flat _ _ hf))
      · rw [eqv_nilL] at hb
        refine ⟨_, rfl, hF fun ⟨r, _, e⟩ => ?_⟩
        cases e
        rw [ints_all] at hb
        cases hb
      · rw [eqv_nilL] at hb
        obtain ⟨ns, rfl⟩ := all_ints (by simpa using hb)
        refine ⟨_, rfl, nofun, _, rfl, nofun, _, _, rfl, rfl, flat_ints' _ _, flatL_rows _ _, _, rfl, z _ ?_⟩
        rw [any_rows, decide_eq_true_eq]
        constructor
        · intro h; exact ⟨ns, h, rfl⟩
        · rintro ⟨r, hr, e⟩
          have : ns = r := by
            have e' : D.ints ns = D.ints r := e
            injection e' with e'
            exact ints_inj e'
          exact this ▸ hr
    · have e : ∀ T, (Sd.d x).ty = some T → isKind T "tuple" = false := fun T h => by
        cases x <;> first | (cases h; rfl) | (exact absurd ⟨_, rfl⟩ ht) | cases h
      obtain ⟨T, hT⟩ := Option.isSome_iff_exists.mp hkd
      refine ⟨_, rfl, nofun, T, hT, _, rfl, fun _ => ⟨fun _ => ⟨_, rfl, hF fun ⟨r, _, e⟩ => ht ⟨_, e⟩⟩, nofun⟩, fun hb => ?_⟩
      rw [e T hT] at hb
      cases hb)
/-- ascending keys below n -/
structure LotOk (n : Nat) (l : List Nat) : Prop where
  asc : l.Pairwise (· < ·)
  lt : ∀ k ∈ l, k < n
theorem asc_ext : ∀ {a b : List Int}, a.Pairwise (· < ·) → b.Pairwise (· < ·) → (∀ k, k ∈ a ↔ k ∈ b) → a = b
  | [], [], _, _, _ => rfl
  | [], y :: b, _, _, h => by have := (h y).mpr List.mem_cons_self; simp at this
  | x :: a, [], _, _, h => by have := (h x).mp List.mem_cons_self; simp at this
  | x :: a, y :: b, ha, hb, h => by
    obtain ⟨a1, a2⟩ := List.pairwise_cons.mp ha
    obtain ⟨b1, b2⟩ := List.pairwise_cons.mp hb
    have e : x = y := by
      have h1 := (h x).mp List.mem_cons_self
      have h2 := (h y).mpr List.mem_cons_self
      rcases List.mem_cons.mp h1 with z | z
      · exact z
      · rcases List.mem_cons.mp h2 with y' | y'
        · exact y'.symm
        · have := a1 y y'
          have := b1 x z
          omega
    subst e
    rw [asc_ext a2 b2 fun k => ?_]
    constructor
    · intro hk
      have := (h k).mp (List.mem_cons_of_mem _ hk)
      rcases List.mem_cons.mp this with z | z
      · subst z; have := a1 k hk; omega
      · exact z
    · intro hk
      have := (h k).mpr (List.mem_cons_of_mem _ hk)
      rcases List.mem_cons.mp this with z | z
      · subst z; have := b1 k hk; omega
      · exact z
def outP (n : Nat) : D → Bool
  | .int i => !(decide (0 ≤ i) && decide (i < (n : Int)))
  | _ => false
theorem nats_of : ∀ {ns : List Int} {n : Nat}, (∀ i ∈ ns, 0 ≤ i ∧ i < (n : Int)) → ∃ l : List Nat, ns = natsI l ∧ ∀ k ∈ l, k < n
  | [], _, _ => ⟨[], rfl, fun k h => by simp at h⟩
  | i :: ns, n, h => by
    obtain ⟨l, e, hl⟩ := nats_of (ns := ns) fun j hj => h j (List.mem_cons_of_mem _ hj)
    have hi := h i List.mem_cons_self
    refine ⟨i.toNat :: l, ?_, fun k hk => ?_⟩
    · show i :: ns = ((i.toNat : Nat) : Int) :: natsI l
      rw [e, Int.toNat_of_nonneg hi.1]
    · rcases List.mem_cons.mp hk with z | z
      · omega
      · exact hl k z
theorem natsI_asc {l : List Nat} : (natsI l).Pairwise (· < ·) ↔ l.Pairwise (· < ·) := by
  unfold natsI
  rw [List.pairwise_map]
  constructor <;> intro h <;> exact h.imp fun q => by omega
def s_law_is_lot : DSpec := fun _ ds K => ∃ (n : Nat) (x : D), ds = [.int (n : Nat), x] ∧ x.fine 8 = true ∧ ∀ b : Bool, (b = true ↔ ∃ l : List Nat, x = lotD l ∧ LotOk n l) → K (.bl b)
theorem sc_law_is_lot : FnScope ["_law_keys", "_law_value", "_law_one"] ["_law_keys", "_law_value"] (defScope f_law_is_lot) := ⟨rfl, rfl, rfl, by decide +kernel, rfl, by decide +kernel, by decide +kernel⟩
theorem c_law_is_lot (ft : Fts mg) (d : DF K mg "_law_is_lot" f_law_is_lot) : Cl P w K mg base 2 "_law_is_lot" 2 s_law_is_lot :=
  cl_of (k := 1) d sc_law_is_lot rfl (fun _ _ _ _ _ _ us hl => match us, hl with | [_, _], _ => rfl) (fun W ds K h => by obtain ⟨_, _, e, _⟩ := h; rw [e]; rfl) (fun a W cdv A outer s H E hr =>
  have nd := sc_law_is_lot.nd
  (ssd_cons (sd_if (PWd.t (pwd_or (ptd_not (pt_v (PRd.e (pr_isi (c := "tuple") (by decide) rfl ft.m_isinstance (pd_var (pv 1)) rfl ft.m_tuple (by decide +kernel))))) (pwd_or1 (pt_neD hr (PRd.e (pr_lc (i := 2) rfl nd (id_ss (pr_var (pv 1))) (bok (own := [("_law_one", 2)]) rfl) (fun _ _ _ _ _ => pg_name (i := 2) nd rfl (Or.inl rfl)) (fun _ _ _ _ _ => ptsd_one (PWd.t (pwd_or (ptd_not (pt_v (PRd.e (pr_isi (c := "int") (by decide) rfl ft.m_isinstance (pd_var (pv 2)) rfl ft.m_int (by decide +kernel))))) (pwd_or1 (pt_v (PRd.e (pr_isi (c := "bool") (by decide) rfl ft.m_isinstance (pd_var (pv 2)) rfl ft.m_bool (by decide +kernel)))))))) (fun _ _ _ _ _ => (pr_var (pv 2))))) (PRd.e (pr_lst pad_nil)))))) (ssd_one (sd_ret pr_bl)) ssd_nil) (ssd_one (sd_ret (pr_and (PRd.e (pr_eqD hr (PRd.e (pr_list rfl ft.m_list (pd_var (pv 1)))) (PRd.e (pr_sortSet rfl rfl ft.m_sorted rfl ft.m_set (pd_var (pv 1)))))) (pr_one (pr_eqD hr (PRd.e (pr_lc (i := 2) rfl nd (id_ss (pr_var (pv 1))) (bok (own := [("_law_one", 2)]) rfl) (fun _ _ _ _ _ => pg_name (i := 2) nd rfl (Or.inl rfl)) (fun _ _ _ _ _ => ptsd_one (ptd_not (pt_leLt (PRd.e pr_int) (pd_var (pv 2)) (pd_var (pv 0))))) (fun _ _ _ _ _ => (pr_var (pv 2))))) (PRd.e (pr_lst pad_nil)))))))))
   (fun W ds K h => by
    obtain ⟨n, x, rfl, hx, z⟩ := h
    have hkd := fine_kd hx
    have hF : (¬ ∃ l : List Nat, x = lotD l ∧ LotOk n l) → K (.bl false) := fun h => z false ⟨nofun, fun q => absurd q h⟩
    by_cases ht : ∃ xs, x = .tup xs
    · obtain ⟨xs, rfl⟩ := ht
      obtain ⟨hl, hf⟩ := fine_tup hx
      refine ⟨_, rfl, nofun, _, rfl, true, rfl, nofun, fun _ => ?_⟩
      refine lcBad xs (fun K' h' => ⟨_, rfl, _, _, rfl, rfl, h'⟩) (by omega) (fineL_kd hf) (fun _ => rfl) ⟨(by simp), _, _, rfl, rfl, ?_, rfl, _, rfl, fun hb => ?_, fun hb => ?_⟩
      · exact flatL_sub (flatL_up (fineL_flat _ _ hf))
      · rw [eqv_nilL] at hb
        refine ⟨_, rfl, hF fun ⟨l, e, _⟩ => ?_⟩
        cases e
        rw [ints_all] at hb
        cases hb
      · rw [eqv_nilL] at hb
        obtain ⟨ns, rfl⟩ := all_ints (by simpa using hb)
        have hl' : ns.length ≤ 60 := by simpa using hl
        refine ⟨_, rfl, nofun, _, _, rfl, rfl, _, rfl, nofun, ns, rfl, (by omega), fun ns' h1 h2 => ?_⟩
        refine ⟨_, _, rfl, rfl, flatL_ints _ _, flatL_ints _ _, _, rfl, fun hb1 => ?_, fun hb1 => ?_⟩
        · rw [eqv_lints, decide_eq_true_eq] at hb1
          subst hb1
          refine lcN (xs := ns.map .int) (outP n) _root_.id (fun K' h' => ⟨_, rfl, _, _, rfl, rfl, h'⟩) (by simp; omega) (fun y hy K' k' => ?_) (fun y hy _ K' k' => ⟨y, rfl, k' _ rfl⟩) ⟨(by simp), _, _, rfl, rfl, ?_, rfl, _, rfl, ?_⟩
          · obtain ⟨i, hi, rfl⟩ := List.mem_map.mp hy
            refine ⟨_, rfl, nofun, 0, i, rfl, rfl, _, rfl, fun h1 => ⟨_, rfl, nofun, i, n, rfl, rfl, _, rfl, ?_⟩, fun h1 => ⟨_, rfl, ?_⟩⟩
            · have e : outP n (.int i) = !decide (i < (n : Int)) := by
                show (!(decide (0 ≤ i) && decide (i < (n : Int)))) = _
                rw [h1, Bool.true_and]
              rw [e] at k'
              exact k'
            · have e : outP n (.int i) = true := by
                show (!(decide (0 ≤ i) && decide (i < (n : Int)))) = _
                rw [h1]; rfl
              rw [e] at k'
              exact k'
          · rw [List.map_id]
            exact flatL_sub (flatL_ints _ _)
          · refine z _ ?_
            rw [eqv_nilL, List.map_id, List.isEmpty_iff, List.filter_eq_nil_iff]
            constructor
            · intro h
              obtain ⟨l, e, hl⟩ := nats_of (ns := ns) (n := n) fun i hi => by
                have := h (.int i) (List.mem_map.mpr ⟨i, hi, rfl⟩)
                simpa [outP] using this
              exact ⟨l, by rw [e], natsI_asc.mp (by rw [← e]; exact h1), hl⟩
            · rintro ⟨l, e, h⟩ y hy
              obtain ⟨i, hi, rfl⟩ := List.mem_map.mp hy
              have e' : D.ints ns = D.ints (natsI l) := e
              injection e' with e'
              rw [ints_inj e'] at hi
              obtain ⟨k, hk, rfl⟩ := List.mem_map.mp hi
              have := h.lt k hk
              simp [outP]
              omega
        · exact ⟨_, rfl, hF fun ⟨l, e, h⟩ => by
            have e' : D.ints ns = D.ints (natsI l) := e
            injection e' with e'
            have e2 := ints_inj e'
            subst e2
            have : natsI l = ns' := asc_ext (natsI_asc.mpr h.asc) h1 fun k => (h2 k).symm
            rw [eqv_lints, decide_eq_false_iff_not] at hb1
            exact hb1 this⟩
    · have e : ∀ T, (Sd.d x).ty = some T → isKind T "tuple" = false := fun T h => by
        cases x <;> first | (cases h; rfl) | (exact absurd ⟨_, rfl⟩ ht) | cases h
      obtain ⟨T, hT⟩ := Option.isSome_iff_exists.mp hkd
      refine ⟨_, rfl, nofun, T, hT, _, rfl, fun _ => ⟨fun _ => ⟨_, rfl, hF fun ⟨r, e, _⟩ => ht ⟨_, e⟩⟩, nofun⟩, fun hb => ?_⟩
      rw [e T hT] at hb
      cases hb)
end
end DL
namespace DL
open PySem PySem.Spec L2 Tx
section
variable {P : Program} {w : World} {K : PySem.W.Frag} {mg : Str → Option Value} {base : Heap}
/-- v is torn plans -/
structure TornV (S : List Row) (n : Nat) (v : D) : Prop where
  ex : ∃ (a b : Row) (p1 p2 : List Nat) (qs : List Int), v = .tup [.ints a, .ints b, lotD p1, lotD p2, .ints qs] ∧ a ∈ S ∧ b ∈ S ∧ LotOk n p1 ∧ LotOk n p2 ∧ qs.length = S.length ∧ (∀ q ∈ qs, 0 ≤ q) ∧ (∀ k ∈ p1, k ∈ p2 → a.getD k 0 = b.getD k 0) ∧
    (∀ (i j : Nat) p q, S[i]? = some a → S[j]? = some b → qs[i]? = some p → qs[j]? = some q → p ≠ q) ∧ tellsQ S qs p1 ∧ tellsQ S qs p2
theorem torn_inj {a b a' b' : Row} {p1 p2 p1' p2' : List Nat} {qs qs' : List Int} (e : D.tup [.ints a, .ints b, lotD p1, lotD p2, .ints qs] = D.tup [.ints a', .ints b', lotD p1', lotD p2', .ints qs']) : a = a' ∧ b = b' ∧ p1 = p1' ∧ p2 = p2' ∧ qs = qs' := by
  have key : ∀ {x y : List Int}, D.ints x = D.ints y → x = y := fun h => by
    injection h with h
    exact ints_inj h
  injection e with e
  injection e with e1 e
  injection e with e2 e
  injection e with e3 e
  injection e with e4 e
  injection e with e5 e
  exact ⟨key e1, key e2, natsI_inj (key e3), natsI_inj (key e4), key e5⟩
theorem tup5 {x1 x2 x3 x4 x5 y1 y2 y3 y4 y5 : D} (e : D.tup [x1, x2, x3, x4, x5] = D.tup [y1, y2, y3, y4, y5]) : x1 = y1 ∧ x2 = y2 ∧ x3 = y3 ∧ x4 = y4 ∧ x5 = y5 := by
  injection e with e
  injection e with e1 e
  injection e with e2 e
  injection e with e3 e
  injection e with e4 e
  injection e with e5 e
  exact ⟨e1, e2, e3, e4, e5⟩
theorem uNext {K : DE} {ρ : List Sd} (h : K.nx ρ) : sNext K ρ := h
def notNum (x : D) : Bool := !x.isNum
theorem all_nums {xs : List D} (h : (xs.filter notNum).isEmpty = true) : ∃ ns : List Int, xs = ns.map .int ∧ ∀ q ∈ ns, 0 ≤ q := by
  rw [List.isEmpty_iff, List.filter_eq_nil_iff] at h
  induction xs with
  | nil => exact ⟨[], rfl, fun q hq => by simp at hq⟩
  | cons x xs ih =>
    obtain ⟨ns, e, hn⟩ := ih fun y hy => h y (List.mem_cons_of_mem _ hy)
    have hx := h x List.mem_cons_self
    cases x <;> first | (exfalso; exact hx rfl) | skip
    rename_i i
    refine ⟨i :: ns, by rw [e]; rfl, fun q hq => ?_⟩
    rcases List.mem_cons.mp hq with z | z
    · subst z
      simpa [notNum, D.isNum] using hx
    · exact hn q z
theorem nums_all {ns : List Int} (h : ∀ q ∈ ns, 0 ≤ q) : ((ns.map D.int).filter notNum).isEmpty = true := by
  rw [List.isEmpty_iff, List.filter_eq_nil_iff]
  intro x hx
  obtain ⟨i, hi, rfl⟩ := List.mem_map.mp hx
  have := h i hi
  simp [notNum, D.isNum, this]
/-- [one for one in xs if not isinstance(one, int) or isinstance(one, bool) or one < 0] -/
theorem lcNeg {pi : RI} {i : Nat} {ρ : List Sd} {K : Sd → Prop} (xs : List D) (hi : ∀ K' : List D → Prop, K' xs → pi ρ K') (hz : xs.length ≤ 100000) (hk : ∀ x ∈ xs, x.kd = true) (h2 : ∀ x, ((blk ρ [i]).set i (.d x))[i]? = some (.d x)) (k : K (.ol (xs.filter notNum))) :
    dLc pi [i] tgN (dOr (dNot (dTB (dIsi "int" (dVarE i)))) (dOr (dTB (dIsi "bool" (dVarE i))) (dT2 gLt (dVarE i) (dC (.int 0))))) (dVar i) ρ K := by
  refine lcN (xs := xs) notNum _root_.id hi hz (fun x hx K' k' => ?_) (fun x hx _ K' k' => ⟨x, h2 x, k' _ rfl⟩) (by rw [List.map_id]; exact k)
  have hkx := hk x hx
  cases x with
  | int j =>
    refine ⟨_, h2 _, nofun, _, rfl, _, rfl, fun h => absurd h (by decide), fun _ => ⟨_, h2 _, nofun, _, rfl, _, rfl, fun h => absurd h (by decide), fun _ => ⟨_, h2 _, nofun, j, 0, rfl, rfl, _, rfl, ?_⟩⟩⟩
    have e : notNum (.int j) = decide (j < 0) := by
      show (!decide (0 ≤ j)) = _
      by_cases h : 0 ≤ j
      · rw [decide_eq_true h, decide_eq_false (by omega)]; rfl
      · rw [decide_eq_false h, decide_eq_true (by omega)]; rfl
    rw [e] at k'
    exact k'
  | bl b => exact ⟨_, h2 _, nofun, _, rfl, _, rfl, fun h => k', fun _ => ⟨_, h2 _, nofun, _, rfl, _, rfl, fun _ => k', fun h => absurd h (by decide)⟩⟩
  | non => exact ⟨_, h2 _, nofun, _, rfl, _, rfl, fun h => k', fun h => absurd h (by decide)⟩
  | tup _ => exact ⟨_, h2 _, nofun, _, rfl, _, rfl, fun h => k', fun h => absurd h (by decide)⟩
  | lst _ => exact ⟨_, h2 _, nofun, _, rfl, _, rfl, fun h => k', fun h => absurd h (by decide)⟩
  | str _ => exact ⟨_, h2 _, nofun, _, rfl, _, rfl, fun h => k', fun h => absurd h (by decide)⟩
  | _ => revert hkx; simp [D.kd, Sd.ty]
def comP (p2 : List Nat) (a b : Row) : D → Bool
  | .int i => decide (i ∈ natsI p2) && decide (a.getD i.toNat 0 ≠ b.getD i.toNat 0)
  | _ => false
theorem comP_empty {p1 p2 : List Nat} {a b : Row} : (((natsI p1).map D.int).filter (comP p2 a b)).isEmpty = true ↔ ∀ k ∈ p1, k ∈ p2 → a.getD k 0 = b.getD k 0 := by
  rw [List.isEmpty_iff, List.filter_eq_nil_iff]
  constructor
  · intro h k hk h2
    have := h (.int (k : Nat)) (List.mem_map.mpr ⟨k, natsI_mem.mpr hk, rfl⟩)
    simpa [comP, natsI_mem, h2] using this
  · intro h x hx
    obtain ⟨k, hk, rfl⟩ := mem_nats hx
    have := h k hk
    simp [comP, natsI_mem]
    exact this
def s_law_is_torn : DSpec := fun _ ds K => ∃ (S : List Row) (x : D) (dd : Nat), ds = [.lst (rowsD S), x] ∧ (∀ s ∈ S, s.length = dd) ∧ S ≠ [] ∧ S.length ≤ 60 ∧ S.Nodup ∧ x.fine 9 = true ∧ ∀ b : Bool, (b = true ↔ TornV S dd x) → K (.bl b)
theorem sc_law_is_torn : FnScope ["_law_states", "_law_value", "_law_one", "_law_other", "_law_first", "_law_second", "_law_question_here", "_law_told", "_law_key"] ["_law_states", "_law_value"] (defScope f_law_is_torn) := ⟨rfl, rfl, rfl, by decide +kernel, rfl, by decide +kernel, by decide +kernel⟩
theorem c_law_is_torn (ft : Fts mg) (c_law_is_lot : Cl P w K mg base 2 "_law_is_lot" 2 s_law_is_lot) (c_law_is_state : Cl P w K mg base 2 "_law_is_state" 2 s_law_is_state) (c_law_tells : Cl P w K mg base 2 "_law_tells" 3 s_law_tells) (d : DF K mg "_law_is_torn" f_law_is_torn) : Cl P w K mg base 3 "_law_is_torn" 2 s_law_is_torn :=
  cl_of (k := 2) d sc_law_is_torn rfl (fun _ _ _ _ _ _ us hl => match us, hl with | [_, _], _ => rfl) (fun W ds K h => by obtain ⟨_, _, _, e, _⟩ := h; rw [e]; rfl) (fun a W cdv A outer s H E hr =>
  have nd := sc_law_is_torn.nd
  (ssd_cons (sd_if (PWd.t (pwd_or (ptd_not (pt_v (PRd.e (pr_isi (c := "tuple") (by decide) rfl ft.m_isinstance (pd_var (pv 1)) rfl ft.m_tuple (by decide +kernel))))) (pwd_or1 (pt_neS (PRd.e (pr_len rfl ft.m_len (pd_var (pv 1)))) (PRd.e pr_int))))) (ssd_one (sd_ret pr_bl)) ssd_nil) (ssd_cons (sd_asg (pr_var (pv 1)) (gd_tup (is := [2, 3, 4, 5, 6]) rfl (pgs_cons (pg_name (i := 2) nd rfl (Or.inr rfl)) (pgs_cons (pg_name (i := 3) nd rfl (Or.inr rfl)) (pgs_cons (pg_name (i := 4) nd rfl (Or.inl rfl)) (pgs_cons (pg_name (i := 5) nd rfl (Or.inr rfl)) (pgs_cons (pg_name (i := 6) nd rfl (Or.inl rfl)) pgs_nil))))))) (ssd_cons (sd_if (PWd.t (pwd_or (ptd_not (pt_v (PRd.e (pr_call c_law_is_state (hr.mono (by decide)) rfl (pad_cons (pr_var (pv 0)) (pad_cons (pr_var (pv 2)) pad_nil)))))) (pwd_or1 (ptd_not (pt_v (PRd.e (pr_call c_law_is_state (hr.mono (by decide)) rfl (pad_cons (pr_var (pv 0)) (pad_cons (pr_var (pv 3)) pad_nil))))))))) (ssd_one (sd_ret pr_bl)) ssd_nil) (ssd_cons (sd_if (PWd.t (pwd_or (ptd_not (pt_v (PRd.e (pr_call c_law_is_lot (hr.mono (by decide)) rfl (pad_cons (pr_len rfl ft.m_len (PRd.e (pr_item (pd_var (pv 0)) (PRd.e pr_int)))) (pad_cons (pr_var (pv 4)) pad_nil)))))) (pwd_or1 (ptd_not (pt_v (PRd.e (pr_call c_law_is_lot (hr.mono (by decide)) rfl (pad_cons (pr_len rfl ft.m_len (PRd.e (pr_item (pd_var (pv 0)) (PRd.e pr_int)))) (pad_cons (pr_var (pv 5)) pad_nil))))))))) (ssd_one (sd_ret pr_bl)) ssd_nil) (ssd_cons (sd_if (PWd.t (pwd_or (ptd_not (pt_v (PRd.e (pr_isi (c := "tuple") (by decide) rfl ft.m_isinstance (pd_var (pv 6)) rfl ft.m_tuple (by decide +kernel))))) (pwd_or1 (pt_neS (PRd.e (pr_len rfl ft.m_len (pd_var (pv 6)))) (PRd.e (pr_len rfl ft.m_len (pd_var (pv 0)))))))) (ssd_one (sd_ret pr_bl)) ssd_nil) (ssd_cons (sd_if (pt_neD hr (PRd.e (pr_lc (i := 7) rfl nd (id_ss (pr_var (pv 6))) (bok (own := [("_law_told", 7)]) rfl) (fun _ _ _ _ _ => pg_name (i := 7) nd rfl (Or.inl rfl)) (fun _ _ _ _ _ => ptsd_one (PWd.t (pwd_or (ptd_not (pt_v (PRd.e (pr_isi (c := "int") (by decide) rfl ft.m_isinstance (pd_var (pv 7)) rfl ft.m_int (by decide +kernel))))) (pwd_or (pt_v (PRd.e (pr_isi (c := "bool") (by decide) rfl ft.m_isinstance (pd_var (pv 7)) rfl ft.m_bool (by decide +kernel)))) (pwd_or1 (pt_lt (pd_var (pv 7)) (PRd.e pr_int))))))) (fun _ _ _ _ _ => (pr_var (pv 7))))) (PRd.e (pr_lst pad_nil))) (ssd_one (sd_ret pr_bl)) ssd_nil) (ssd_cons (sd_if (pt_neD hr (PRd.e (pr_lc (i := 8) rfl nd (id_ss (pr_var (pv 4))) (bok (own := [("_law_key", 8)]) rfl) (fun _ _ _ _ _ => pg_name (i := 8) nd rfl (Or.inl rfl)) (fun _ _ _ _ _ => ptsd_one (PWd.t (pwd_and (pt_inI (pd_var (pv 8)) (pd_var (pv 5))) (pwd_and1 (pt_neS (PRd.e (pr_item (pd_var (pv 2)) (pd_var (pv 8)))) (PRd.e (pr_item (pd_var (pv 3)) (pd_var (pv 8))))))))) (fun _ _ _ _ _ => (pr_var (pv 8))))) (PRd.e (pr_lst pad_nil))) (ssd_one (sd_ret pr_bl)) ssd_nil) (ssd_cons (sd_if (pt_eqS (PRd.e (pr_item (pd_var (pv 6)) (PRd.e (pr_index hr (pd_var (pv 0)) (pd_var (pv 2)))))) (PRd.e (pr_item (pd_var (pv 6)) (PRd.e (pr_index hr (pd_var (pv 0)) (pd_var (pv 3))))))) (ssd_one (sd_ret pr_bl)) ssd_nil) (ssd_one (sd_ret (pr_and (PRd.e (pr_call c_law_tells (hr.mono (by decide)) rfl (pad_cons (pr_var (pv 0)) (pad_cons (pr_var (pv 6)) (pad_cons (pr_var (pv 4)) pad_nil))))) (pr_one (pr_call c_law_tells (hr.mono (by decide)) rfl (pad_cons (pr_var (pv 0)) (pad_cons (pr_var (pv 6)) (pad_cons (pr_var (pv 5)) pad_nil)))))))))))))))))
   (fun W ds K h => by
    obtain ⟨S, x, dd, rfl, hdd, hne, hS, nd, hx, z⟩ := h
    have hkd := fine_kd hx
    have hF : (¬ TornV S dd x) → K (.bl false) := fun h => z false ⟨nofun, fun q => absurd q h⟩
    by_cases ht : ∃ xs, x = .tup xs
    · obtain ⟨xs, rfl⟩ := ht
      obtain ⟨hl, hf⟩ := fine_tup hx
      refine ⟨_, rfl, nofun, _, rfl, true, rfl, nofun, fun _ => ⟨_, rfl, nofun, _, _, rfl, rfl, _, _, _, rfl, rfl, rfl, _, rfl, fun hb => ?_, fun hb => ?_⟩⟩
      · have h5 : ¬ (xs.length : Int) = 5 := by simpa using hb
        refine ⟨_, rfl, hF fun ⟨a, b, p1, p2, qs, e, _⟩ => h5 ?_⟩
        cases e
        rfl
      · have h5 : xs.length = 5 := by
          have : (xs.length : Int) = 5 := by simpa using hb
          omega
        obtain ⟨x1, x2, x3, x4, x5, rfl⟩ : ∃ a b c d e, xs = [a, b, c, d, e] := by
          match xs, h5 with
          | [a, b, c, d, e], _ => exact ⟨a, b, c, d, e, rfl⟩
        have f1 : x1.fine 8 = true := fineL_iff.mp hf x1 (by simp)
        have f2 : x2.fine 8 = true := fineL_iff.mp hf x2 (by simp)
        have f3 : x3.fine 8 = true := fineL_iff.mp hf x3 (by simp)
        have f4 : x4.fine 8 = true := fineL_iff.mp hf x4 (by simp)
        have f5 : x5.fine 8 = true := fineL_iff.mp hf x5 (by simp)
        refine ⟨_, rfl, _, rfl, _, rfl, rfl, ?_⟩
        -- the two states
        refine ⟨_, rfl, _, rfl, _, rfl, _, rfl, S, x1, rfl, f1, fun b1 hb1 => ⟨b1, rfl, fun g => ⟨fun _ => ?_, nofun⟩, fun g => ?_⟩⟩
        · have : b1 = false := by simpa using g
          subst this
          refine ⟨_, rfl, hF fun ⟨a, b, p1, p2, qs, e, ha, _⟩ => ?_⟩
          exact absurd (hb1.mpr ⟨a, ha, (tup5 e).1⟩) (by simp)
        have : b1 = true := by simpa using g
        subst this
        obtain ⟨a, haS, rfl⟩ := hb1.mp rfl
        refine ⟨_, rfl, _, rfl, _, rfl, _, rfl, S, x2, rfl, f2, fun b2 hb2 => ⟨b2, rfl, fun g => ?_, fun g => ?_⟩⟩
        · have : b2 = false := by simpa using g
          subst this
          refine ⟨_, rfl, hF fun ⟨a, b, p1, p2, qs, e, ha, hb, _⟩ => ?_⟩
          exact absurd (hb2.mpr ⟨b, hb, (tup5 e).2.1⟩) (by simp)
        have : b2 = true := by simpa using g
        subst this
        obtain ⟨b, hbS, rfl⟩ := hb2.mp rfl
        -- the two lots
        obtain ⟨s0, hs0⟩ : ∃ s0, S[0]? = some s0 := by
          cases S with
          | nil => exact absurd rfl hne
          | cons s0 _ => exact ⟨s0, rfl⟩
        have l0 : (s0.length : Int) = ((dd : Nat) : Int) := by rw [hdd s0 (List.mem_of_getElem? hs0)]
        have hs0' : L2.atI (rowsD S) 0 = some (.ints s0) := atI_nat (i := 0) (by unfold rowsD; rw [List.getElem?_map, hs0]; rfl)
        refine ⟨_, rfl, nofun, _, 0, _, rfl, rfl, hs0', _, _, rfl, rfl, _, rfl, _, rfl, _, rfl, dd, x3, (by rw [← l0]; simp), f3, fun b1 hb1 => ⟨b1, rfl, fun g => ⟨fun _ => ?_, nofun⟩, fun g => ?_⟩⟩
        · have : b1 = false := by simpa using g
          subst this
          refine ⟨_, rfl, hF fun ⟨a, b, p1, p2, qs, e, _, _, h1, _⟩ => ?_⟩
          exact absurd (hb1.mpr ⟨p1, (tup5 e).2.2.1, h1⟩) (by simp)
        have : b1 = true := by simpa using g
        subst this
        obtain ⟨p1, rfl, o1⟩ := hb1.mp rfl
        refine ⟨_, rfl, nofun, _, 0, _, rfl, rfl, hs0', _, _, rfl, rfl, _, rfl, _, rfl, _, rfl, dd, x4, (by rw [← l0]; simp), f4, fun b2 hb2 => ⟨b2, rfl, fun g => ?_, fun g => ?_⟩⟩
        · have : b2 = false := by simpa using g
          subst this
          refine ⟨_, rfl, hF fun ⟨a, b, p1, p2, qs, e, _, _, _, h2, _⟩ => ?_⟩
          exact absurd (hb2.mpr ⟨p2, (tup5 e).2.2.2.1, h2⟩) (by simp)
        have : b2 = true := by simpa using g
        subst this
        obtain ⟨p2, rfl, o2⟩ := hb2.mp rfl
        have lp1 : p1.length ≤ 60 := by have := (fine_tup f3).1; simpa [natsI] using this
        have lp2 : p2.length ≤ 60 := by have := (fine_tup f4).1; simpa [natsI] using this
        -- the question
        by_cases ht5 : ∃ ys, x5 = .tup ys
        · obtain ⟨ys, rfl⟩ := ht5
          obtain ⟨hl5, hf5⟩ := fine_tup f5
          refine ⟨_, rfl, nofun, _, rfl, true, rfl, nofun, fun _ => ⟨_, rfl, nofun, _, _, rfl, rfl, _, rfl, nofun, _, _, rfl, rfl, _, _, _, rfl, rfl, rfl, _, rfl, fun hb => ?_, fun hb => ?_⟩⟩
          · refine ⟨_, rfl, hF fun ⟨a, b, p1, p2, qs, e, _, _, _, _, hq, _⟩ => ?_⟩
            have e5 := (tup5 e).2.2.2.2
            injection e5 with e5
            rw [e5] at hb
            simp [rowsD_len, hq] at hb
          have hlen : ys.length = S.length := by
            have : (ys.length : Int) = S.length := by simpa [rowsD_len] using hb
            omega
          refine uNext ?_
          dsimp only
          refine uIfNeSeq (lcNeg ys (fun K' h' => ⟨_, rfl, _, _, rfl, rfl, h'⟩) (by omega) (fineL_kd hf5) (fun _ => rfl) ⟨(by simp), _, _, rfl, rfl, ?_, rfl, _, rfl, fun hb => ?_, fun hb => ?_⟩)
          · exact flatL_sub (flatL_up (fineL_flat _ _ hf5))
          · rw [eqv_nilL] at hb
            refine ⟨_, rfl, hF fun ⟨a, b, p1, p2, qs, e, _, _, _, _, _, hq, _⟩ => ?_⟩
            have e5 := (tup5 e).2.2.2.2
            injection e5 with e5
            rw [e5, nums_all hq] at hb
            cases hb
          rw [eqv_nilL] at hb
          obtain ⟨qs, rfl, hqn⟩ := all_nums (by simpa using hb)
          have hq' : qs.length = S.length := by simpa using hlen
          -- the common keys
          have la := hdd a haS
          have lb := hdd b hbS
          refine uNext ?_
          dsimp only
          refine uIfNeSeq (lcN (xs := (natsI p1).map .int) (comP p2 a b) _root_.id (fun K' h' => ⟨_, rfl, _, _, rfl, rfl, h'⟩) (by simp [natsI]; omega) (fun y hy K' k' => ?_) (fun y hy _ K' k' => ⟨y, rfl, k' _ rfl⟩) ⟨(by simp), _, _, rfl, rfl, ?_, rfl, _, rfl, fun hb => ?_, fun hb => ?_⟩)
          · obtain ⟨k, hk, rfl⟩ := mem_nats hy
            have hkd := o1.lt k hk
            have ka : k < a.length := by omega
            have kb : k < b.length := by omega
            refine ⟨_, rfl, nofun, _, rfl, nofun, (k : Nat), natsI p2, rfl, rfl, _, rfl, fun h1 => ⟨_, rfl, nofun, _, rfl, nofun, _, _, _, rfl, rfl, ints_at ka, _, rfl, nofun, _, rfl, nofun, _, _, _, rfl, rfl, ints_at kb, _, _, _, rfl, rfl, rfl, _, rfl, ?_⟩, fun h1 => ?_⟩
            · have e : comP p2 a b (.int (k : Nat)) = !decide (a[k] = b[k]) := by
                show (decide ((k : Int) ∈ natsI p2) && decide (a.getD (k : Int).toNat 0 ≠ b.getD (k : Int).toNat 0)) = _
                rw [h1]
                simp [ka, kb]
              rw [e] at k'
              exact k'
            · have e : comP p2 a b (.int (k : Nat)) = false := by
                show (decide ((k : Int) ∈ natsI p2) && decide (a.getD (k : Int).toNat 0 ≠ b.getD (k : Int).toNat 0)) = _
                rw [h1]
                rfl
              rw [e] at k'
              exact k'
          · rw [List.map_id]
            exact flatL_sub (flatL_ints _ _)
          · rw [eqv_nilL, List.map_id] at hb
            refine ⟨_, rfl, hF fun ⟨a', b', p1', p2', qs', e, _, _, _, _, _, _, hc, _⟩ => ?_⟩
            obtain ⟨rfl, rfl, rfl, rfl, rfl⟩ := torn_inj e
            rw [comP_empty.mpr hc] at hb
            cases hb
          rw [eqv_nilL, List.map_id] at hb
          have hcom := comP_empty.mp (by simpa using hb)
          -- the two answers
          obtain ⟨ia, hia⟩ := List.getElem?_of_mem haS
          obtain ⟨ib, hib⟩ := List.getElem?_of_mem hbS
          have hia' := (List.getElem?_eq_some_iff.mp hia).1
          have hib' := (List.getElem?_eq_some_iff.mp hib).1
          have ix : ∀ (r : Row) (i : Nat), S[i]? = some r → ∃ z : D, (rowsD S)[i]? = some z ∧ PyData.eqv z.py (D.ints r).py = true ∧ ∀ (m : Nat) z', m < i → (rowsD S)[m]? = some z' → PyData.eqv z'.py (D.ints r).py = false := fun r i hi => by
            refine ⟨.ints r, by unfold rowsD; rw [List.getElem?_map, hi]; rfl, by rw [eqv_ints]; simp, fun m z' hm hz' => ?_⟩
            obtain ⟨r', hr', rfl⟩ := rows_at hz'
            rw [eqv_ints, decide_eq_false_iff_not]
            intro e
            subst e
            have := at_inj nd hr' hi
            omega
          obtain ⟨za, za1, za2, za3⟩ := ix a ia hia
          obtain ⟨zb, zb1, zb2, zb3⟩ := ix b ib hib
          have qa : qs[ia]? = some (qs[ia]'(by omega)) := List.getElem?_eq_getElem _
          have qb : qs[ib]? = some (qs[ib]'(by omega)) := List.getElem?_eq_getElem _
          refine ⟨_, rfl, nofun, _, rfl, nofun, _, rfl, flatL_rows _ _, _, rfl, nofun, _, rfl, flat_ints' _ _, ia, za, za1, za2, za3, _, (ia : Nat), _, rfl, rfl, ints_at (by omega), _, rfl, nofun, _, rfl, nofun, _, rfl, flatL_rows _ _, _, rfl, nofun, _, rfl, flat_ints' _ _, ib, zb, zb1, zb2, zb3, _, (ib : Nat), _, rfl, rfl, ints_at (by omega), _, _, _, rfl, rfl, rfl, _, rfl, fun hb => ?_, fun hb => ?_⟩
          · have he : qs[ia]'(by omega) = qs[ib]'(by omega) := of_decide_eq_true hb
            refine ⟨_, rfl, hF fun ⟨a', b', p1', p2', qs', e, _, _, _, _, _, _, _, hc, _⟩ => ?_⟩
            obtain ⟨rfl, rfl, rfl, rfl, rfl⟩ := torn_inj e
            exact hc ia ib _ _ hia hib qa qb he
          have hne' : qs[ia]'(by omega) ≠ qs[ib]'(by omega) := of_decide_eq_false hb
          have hap : ∀ (i j : Nat) p q, S[i]? = some a → S[j]? = some b → qs[i]? = some p → qs[j]? = some q → p ≠ q := fun i j p q h1 h2 h3 h4 => by
            have e1 := at_inj nd h1 hia
            have e2 := at_inj nd h2 hib
            subst e1 e2
            rw [qa] at h3
            rw [qb] at h4
            cases h3; cases h4
            exact hne'
          -- do both tell
          refine ⟨_, rfl, _, rfl, _, rfl, _, rfl, _, rfl, _, rfl, S, qs, p1, dd, rfl, hdd, by omega, hq', o1.lt, by omega, fun c1 hc1 => ⟨c1, rfl, fun g1 => ?_, fun g1 => ?_⟩⟩
          · refine ⟨_, rfl, _, rfl, _, rfl, _, rfl, _, rfl, _, rfl, S, qs, p2, dd, rfl, hdd, by omega, hq', o2.lt, by omega, fun c2 hc2 => ⟨_, rfl, z c2 ?_⟩⟩
            rw [hc2]
            constructor
            · intro h
              exact ⟨a, b, p1, p2, qs, rfl, haS, hbS, o1, o2, hq', hqn, hcom, hap, hc1.mp g1, h⟩
            · rintro ⟨a', b', p1', p2', qs', e, _, _, _, _, _, _, _, _, _, h⟩
              obtain ⟨rfl, rfl, rfl, rfl, rfl⟩ := torn_inj e
              exact h
          · refine ⟨_, rfl, hF fun ⟨a', b', p1', p2', qs', e, _, _, _, _, _, _, _, _, h, _⟩ => ?_⟩
            obtain ⟨rfl, rfl, rfl, rfl, rfl⟩ := torn_inj e
            rw [hc1.mpr h] at g1
            cases g1
        · have e : ∀ T, (Sd.d x5).ty = some T → isKind T "tuple" = false := fun T h => by
            cases x5 <;> first | (cases h; rfl) | (exact absurd ⟨_, rfl⟩ ht5) | cases h
          obtain ⟨T, hT⟩ := Option.isSome_iff_exists.mp (fine_kd f5)
          refine ⟨_, rfl, nofun, T, hT, _, rfl, fun _ => ⟨fun _ => ⟨_, rfl, hF fun ⟨_, _, _, _, qs, e, _⟩ => ht5 ?_⟩, nofun⟩, fun hb => ?_⟩
          · exact ⟨_, (tup5 e).2.2.2.2⟩
          rw [e T hT] at hb
          cases hb
    · have e : ∀ T, (Sd.d x).ty = some T → isKind T "tuple" = false := fun T h => by
        cases x <;> first | (cases h; rfl) | (exact absurd ⟨_, rfl⟩ ht) | cases h
      obtain ⟨T, hT⟩ := Option.isSome_iff_exists.mp hkd
      refine ⟨_, rfl, nofun, T, hT, _, rfl, fun _ => ⟨fun _ => ⟨_, rfl, hF fun ⟨_, _, _, _, _, e, _⟩ => ht ⟨_, e⟩⟩, nofun⟩, fun hb => ?_⟩
      rw [e T hT] at hb
      cases hb)
end
end DL
namespace DL
open PySem PySem.Spec L2 Tx
section
variable {P : Program} {w : World} {K : PySem.W.Frag} {mg : Str → Option Value} {base : Heap}
theorem perm_mapN {α β : Type} (g : α → β) : ∀ {ys xs' : List β}, ys.Perm xs' → ∀ {xs : List α}, xs' = xs.map g → ∃ zs : List α, zs.Perm xs ∧ ys = zs.map g := by
  intro ys xs' p
  induction p with
  | nil => intro xs e; exact ⟨xs, List.Perm.refl _, e⟩
  | cons y _ ih =>
    intro xs e
    cases xs with
    | nil => cases e
    | cons x xs =>
      injection e with e1 e2
      obtain ⟨zs, p1, e3⟩ := ih e2
      exact ⟨x :: zs, p1.cons x, by rw [e1, e3]; rfl⟩
  | swap y z l =>
    intro xs e
    cases xs with
    | nil => cases e
    | cons x xs =>
      cases xs with
      | nil => cases e
      | cons x2 xs =>
        injection e with e1 e
        injection e with e2 e
        exact ⟨x2 :: x :: xs, List.Perm.swap _ _ _, by rw [e1, e2, e]; rfl⟩
  | trans _ _ ih1 ih2 =>
    intro xs e
    obtain ⟨z1, p1, e1⟩ := ih2 e
    obtain ⟨z2, p2, e2⟩ := ih1 e1
    exact ⟨z2, p2.trans p1, e2⟩
theorem allL_head (n : Nat) : ∃ r, allL n = [] :: r := by
  induction n with
  | zero => exact ⟨[], rfl⟩
  | succ n ih =>
    obtain ⟨r, e⟩ := ih
    refine ⟨r ++ (allL n).map (· ++ [n]), ?_⟩
    show allL n ++ (allL n).map (· ++ [n]) = _
    conv => lhs; lhs; rw [e]
    rfl
def lotsD (ls : List (List Nat)) : List D := rowsD (ls.map natsI)
theorem lotsD_len (ls : List (List Nat)) : (lotsD ls).length = ls.length := by simp [lotsD, rowsD]
theorem natsI_snoc (l : List Nat) (k : Nat) : natsI (l ++ [k]) = natsI l ++ [(k : Int)] := by simp [natsI]
def addP (k : Nat) : D → D
  | .tup xs => .tup (xs ++ [.int (k : Nat)])
  | _ => .non
theorem lots_add (ls : List (List Nat)) (k : Nat) : (lotsD ls).map (addP k) = lotsD (ls.map (· ++ [k])) := by
  unfold lotsD rowsD
  rw [List.map_map, List.map_map, List.map_map, List.map_map]
  refine List.map_congr_left fun l _ => ?_
  show D.tup ((natsI l).map .int ++ [.int (k : Nat)]) = .tup ((natsI (l ++ [k])).map .int)
  rw [natsI_snoc, List.map_append]
  rfl
theorem allL_le {n m : Nat} (h : n ≤ m) : (allL n).length ≤ (allL m).length := by
  rw [allL_len, allL_len]
  exact Nat.pow_le_pow_right (by decide) h
def s_law_lots : DSpec := fun _ ds K => ∃ n : Nat, ds = [.int (n : Nat)] ∧ n ≤ 8 ∧ ∀ ls : List (List Nat), ls.Perm (allL n) → K (.lst (lotsD ls))
theorem sc_law_lots : FnScope ["_law_keys", "_law_found", "_law_key", "_law_lot"] ["_law_keys"] (defScope f_law_lots) := ⟨rfl, rfl, rfl, by decide +kernel, rfl, by decide +kernel, by decide +kernel⟩
theorem c_law_lots (ft : Fts mg) (d : DF K mg "_law_lots" f_law_lots) : Cl P w K mg base 2 "_law_lots" 1 s_law_lots :=
  cl_of (k := 1) d sc_law_lots rfl (fun _ _ _ _ _ _ us hl => match us, hl with | [_], _ => rfl) (fun W ds K h => by obtain ⟨_, e, _⟩ := h; rw [e]; rfl) (fun a W cdv A outer s H E hr =>
  have nd := sc_law_lots.nd
  (ssd_cons (sd_set (i := 1) nd rfl (Or.inl rfl) (pr_lst (pad_cons (pr_tup pad_nil) pad_nil))) (ssd_fz 1 (ssd_cons (sd_for PassesOwn.never rfl (id_range1 rfl ft.m_range (pr_var (pv 0))) (gd_name (i := 2) nd rfl (Or.inr rfl)) (ssd_cons (sd_set (i := 1) nd rfl (Or.inl rfl) (pr_catA (pd_var (pv 1)) (PRd.e (pr_lc (i := 3) rfl nd (id_ss (pr_var (pv 1))) (bok (own := [("_law_lot", 3)]) rfl) (fun _ _ _ _ _ => pg_name (i := 3) nd rfl (Or.inl rfl)) (fun _ _ _ _ _ => ptsd_nil) (fun _ _ _ _ _ => (pr_catA (pd_var (pv 3)) (PRd.e (pr_tup (pad_cons (pr_var (pv 2)) pad_nil))))))))) (ssd_fz 1 ssd_nil))) (ssd_one (sd_ret (pr_sort0 hr rfl ft.m_sorted (ha := (pd_var (pv 1))))))))))
   (fun W ds K h => by
    obtain ⟨n, rfl, hn, z⟩ := h
    refine ⟨(by simp), _, rfl, (by simp), ?_⟩
    refine ⟨_, rfl, ((n : Nat) : Int), rfl, (by omega), (by omega), fun i ρ => ∃ x2 x3, i ≤ n ∧ ρ = [.d (.int (n : Nat)), .d (.lst (lotsD (allL i))), x2, x3], ⟨_, _, by omega, rfl⟩, ?_, ?_⟩
    · rintro i x ρ hx ⟨x2, x3, hi, rfl⟩
      have hi' : i < n := by
        have := (List.getElem?_eq_some_iff.mp hx).1
        rwa [rangeD_len, Int.toNat_natCast] at this
      rw [rangeD_at _ _ _ (by rw [Int.toNat_natCast]; exact hi')] at hx
      cases hx
      have e0 : (0 : Int) + (i : Nat) = (i : Nat) := by omega
      rw [e0]
      have hlen : (allL i).length ≤ 256 := by
        have := allL_le (show i ≤ 8 by omega)
        rw [allL_len 8] at this
        exact this
      refine ⟨_, rfl, nofun, ?_⟩
      refine lcN (xs := lotsD (allL i)) (fun _ => true) (addP i) (fun K' h' => ⟨_, rfl, _, _, rfl, rfl, h'⟩) (by rw [lotsD_len]; omega) (fun y hy K' k' => k') (fun y hy _ K' k' => ?_) (.inl ⟨_, _, rfl, rfl, (by rw [List.length_map, filter_tt, lotsD_len]; omega), .d (.int (i : Nat)), x3, (by omega), ?_⟩)
      · obtain ⟨r, hr, rfl⟩ := mem_rowsD hy
        obtain ⟨l, hl, rfl⟩ := List.mem_map.mp hr
        have : l.length ≤ i := by
          have nd := (allL_sorted l hl).imp (fun h => Nat.ne_of_lt h)
          have := L2.nat_nodup_len l (List.range i) nd fun k hk => List.mem_range.mpr (allL_lt l hl k hk)
          simpa using this
        exact ⟨_, rfl, nofun, _, rfl, _, rfl, (by simp), .inr ⟨_, _, rfl, rfl, (by simp [natsI]; omega), k' _ rfl⟩⟩
      · rw [filter_tt, lots_add]
        show [Sd.d (.int (n : Nat)), Sd.d (.lst (lotsD (allL i) ++ lotsD ((allL i).map (· ++ [i])))), _, _] = _
        rw [show lotsD (allL i) ++ lotsD ((allL i).map (· ++ [i])) = lotsD (allL (i + 1)) from by unfold lotsD rowsD; rw [← List.map_append, ← List.map_append]; rfl]
    · rintro ρ ⟨x2, x3, hi, rfl⟩
      have e1 : (rangeD 0 ((n : Nat) : Int).toNat).length = n := by rw [rangeD_len, Int.toNat_natCast]
      rw [e1]
      obtain ⟨r, e⟩ := allL_head n
      refine ⟨_, rfl, nofun, _, r.map natsI, rfl, (by rw [e]; rfl), fun rows' hp => ⟨_, rfl, ?_⟩⟩
      have hp' : rows'.Perm ((allL n).map natsI) := by rw [e]; exact hp
      obtain ⟨ls, p1, e2⟩ := perm_mapN natsI hp' rfl
      rw [e2]
      exact z ls p1)
/-! ### all rows -/
def extR (s : Nat) (rows : List Row) : List Row := rows.flatMap fun row => (List.range s).map fun v : Nat => row ++ [(v : Int)]
def allR (sizes : List Nat) : List Row := sizes.foldl (fun rows s => extR s rows) [[]]
theorem allR_snoc (l : List Nat) (s : Nat) : allR (l ++ [s]) = extR s (allR l) := by unfold allR; rw [List.foldl_append]; rfl
theorem extR_len (s : Nat) (rows : List Row) : (extR s rows).length = rows.length * s := by
  unfold extR
  induction rows with
  | nil => simp
  | cons r rows ih => rw [List.flatMap_cons, List.length_append, ih, List.length_map, List.length_range, List.length_cons, Nat.succ_mul]; omega
theorem extR_snoc (s : Nat) (rows : List Row) (r : Row) : extR s (rows ++ [r]) = extR s rows ++ (List.range s).map fun v : Nat => r ++ [(v : Int)] := by
  unfold extR
  rw [List.flatMap_append]
  simp
theorem extR_row {s : Nat} {rows : List Row} {r : Row} (h : r ∈ extR s rows) : ∃ r0 ∈ rows, ∃ v : Nat, v < s ∧ r = r0 ++ [(v : Int)] := by
  unfold extR at h
  obtain ⟨r0, h1, h2⟩ := List.mem_flatMap.mp h
  obtain ⟨v, h3, rfl⟩ := List.mem_map.mp h2
  exact ⟨r0, h1, v, List.mem_range.mp h3, rfl⟩
theorem allR_row {sizes : List Nat} : ∀ r ∈ allR sizes, r.length = sizes.length ∧ ∀ (i : Nat) v s, r[i]? = some v → sizes[i]? = some s → 0 ≤ v ∧ v < (s : Int) := by
  induction hk : sizes.length generalizing sizes with
  | zero =>
    have : sizes = [] := List.eq_nil_of_length_eq_zero hk
    subst this
    intro r hr
    have : r = [] := by simpa [allR] using hr
    subst this
    exact ⟨rfl, fun i v s h => by simp at h⟩
  | succ n ih =>
    have hne : sizes ≠ [] := fun e => by rw [e] at hk; simp at hk
    obtain ⟨l, s, rfl⟩ : ∃ l s, sizes = l ++ [s] := ⟨sizes.dropLast, sizes.getLast hne, (List.dropLast_concat_getLast hne).symm⟩
    intro r hr
    rw [allR_snoc] at hr
    obtain ⟨r0, h0, v, hv, rfl⟩ := extR_row hr
    have hl : l.length = n := by simpa using hk
    obtain ⟨a, b⟩ := ih hl r0 h0
    refine ⟨by simp [a], fun i x s' h1 h2 => ?_⟩
    by_cases hi : i < n
    · rw [List.getElem?_append_left (by omega)] at h1
      rw [List.getElem?_append_left (by omega)] at h2
      exact b i x s' h1 h2
    · rw [List.getElem?_append_right (by omega)] at h1
      rw [List.getElem?_append_right (by omega)] at h2
      rw [a] at h1
      rw [hl] at h2
      have : i - n = 0 := by
        have := (List.getElem?_eq_some_iff.mp h1).1
        simp at this
        omega
      rw [this] at h1 h2
      cases h1; cases h2
      omega
def s_law_all : DSpec := fun _ ds K => ∃ sizes : List Nat, ds = [.lst ((natsI sizes).map .int)] ∧ (∀ i, (allR (sizes.take i)).length ≤ 64) ∧ (∀ s ∈ sizes, s ≤ 64) ∧ sizes.length ≤ 64 ∧ K (.lst (rowsD (allR sizes)))
def putP (r : Row) : D → D
  | .int i => .ints (r ++ [i])
  | _ => .non
theorem sc_law_all : FnScope ["_law_sizes_here", "_law_found", "_law_size", "_law_longer", "_law_row", "_law_value"] ["_law_sizes_here"] (defScope f_law_all) := ⟨rfl, rfl, rfl, by decide +kernel, rfl, by decide +kernel, by decide +kernel⟩
theorem c_law_all (ft : Fts mg) (d : DF K mg "_law_all" f_law_all) : Cl P w K mg base 2 "_law_all" 1 s_law_all :=
  cl_of (k := 1) d sc_law_all rfl (fun _ _ _ _ _ _ us hl => match us, hl with | [_], _ => rfl) (fun W ds K h => by obtain ⟨_, e, _⟩ := h; rw [e]; rfl) (fun a W cdv A outer s H E hr =>
  have nd := sc_law_all.nd
  (ssd_cons (sd_set (i := 1) nd rfl (Or.inl rfl) (pr_lst (pad_cons (pr_tup pad_nil) pad_nil))) (ssd_fz 1 (ssd_cons (sd_for PassesOwn.never rfl (id_ss (pr_var (pv 0))) (gd_name (i := 2) nd rfl (Or.inl rfl)) (ssd_cons (sd_set (i := 3) nd rfl (Or.inl rfl) (pr_lst pad_nil)) (ssd_fz 3 (ssd_cons (sd_for PassesOwn.never rfl (id_ss (pr_var (pv 1))) (gd_name (i := 4) nd rfl (Or.inr rfl)) (ssd_cons (sd_set (i := 3) nd rfl (Or.inl rfl) (pr_catA (pd_var (pv 3)) (PRd.e (pr_lc (i := 5) rfl nd (id_range1 rfl ft.m_range (pr_var (pv 2))) (bok (own := [("_law_value", 5)]) rfl) (fun _ _ _ _ _ => pg_name (i := 5) nd rfl (Or.inl rfl)) (fun _ _ _ _ _ => ptsd_nil) (fun _ _ _ _ _ => (pr_catA (pd_var (pv 4)) (PRd.e (pr_tup (pad_cons (pr_var (pv 5)) pad_nil))))))))) (ssd_fz 3 ssd_nil))) (ssd_one (sd_set (i := 1) nd rfl (Or.inl rfl) (pr_var (pv 3)))))))) (ssd_one (sd_ret (pr_var (pv 1))))))))
   (fun W ds K h => by
    obtain ⟨sizes, rfl, hR, hs, hsl, z⟩ := h
    refine ⟨(by simp), _, rfl, (by simp), ?_⟩
    refine ⟨_, rfl, _, _, rfl, rfl, fun i ρ => ∃ x2 x3 x4 x5, ρ = [.d (.lst ((natsI sizes).map .int)), .d (.lst (rowsD (allR (sizes.take i)))), x2, x3, x4, x5], ⟨_, _, _, _, rfl⟩, ?_, ?_⟩
    · rintro i x ρ hx ⟨x2, x3, x4, x5, rfl⟩
      obtain ⟨s, hsi, rfl⟩ : ∃ s : Nat, sizes[i]? = some s ∧ x = .int (s : Nat) := by
        unfold natsI at hx
        rw [List.getElem?_map, List.getElem?_map] at hx
        cases e : sizes[i]? with
        | none => rw [e] at hx; cases hx
        | some s => rw [e] at hx; cases hx; exact ⟨s, rfl, rfl⟩
      have hs64 := hs s (List.mem_of_getElem? hsi)
      have ht : sizes.take (i + 1) = sizes.take i ++ [s] := by rw [List.take_add_one, hsi]; rfl
      refine ⟨(by simp), ?_⟩
      refine ⟨_, rfl, _, _, rfl, rfl, fun j ρ => ∃ x4 x5, ρ = [.d (.lst ((natsI sizes).map .int)), .d (.lst (rowsD (allR (sizes.take i)))), .d (.int (s : Nat)), .d (.lst (rowsD (extR s ((allR (sizes.take i)).take j)))), x4, x5], ⟨_, _, rfl⟩, ?_, ?_⟩
      · rintro j x ρ hx ⟨x4, x5, rfl⟩
        obtain ⟨r, hr, rfl⟩ := rows_at hx
        have hrm := List.mem_of_getElem? hr
        have rl : r.length ≤ 64 := by
          have := (allR_row r hrm).1
          rw [List.length_take] at this
          omega
        have ht2 : (allR (sizes.take i)).take (j + 1) = (allR (sizes.take i)).take j ++ [r] := by rw [List.take_add_one, hr]; rfl
        have hl1 : (extR s ((allR (sizes.take i)).take j)).length ≤ 64 * 64 := by
          rw [extR_len]
          have : ((allR (sizes.take i)).take j).length ≤ 64 := by rw [List.length_take]; have := hR i; omega
          exact Nat.mul_le_mul this hs64
        refine ⟨_, rfl, nofun, ?_⟩
        refine lcN (xs := rangeD 0 s) (fun _ => true) (putP r) (fun K' h' => ⟨_, rfl, s, rfl, (by omega), (by omega), (by simpa using h')⟩) (by rw [rangeD_len]; omega) (fun y hy K' k' => k') (fun y hy _ K' k' => ?_) (.inl ⟨_, _, rfl, rfl, (by rw [List.length_map, filter_tt, rangeD_len, rowsD_len]; omega), .d (.ints r), x5, ?_⟩)
        · obtain ⟨v, hv, rfl⟩ := mem_range0 hy
          exact ⟨_, rfl, nofun, _, rfl, _, rfl, (by simp), .inr ⟨_, _, rfl, rfl, (by simp; omega), k' _ (by show some _ = some (D.ints (r ++ [(v : Int)])); unfold D.ints; rw [List.map_append]; rfl)⟩⟩
        · rw [filter_tt]
          show [Sd.d (.lst ((natsI sizes).map .int)), Sd.d (.lst (rowsD (allR (sizes.take i)))), Sd.d (.int (s : Nat)), Sd.d (.lst (rowsD (extR s ((allR (sizes.take i)).take j)) ++ (rangeD 0 s).map (putP r))), _, _] = _
          rw [ht2, extR_snoc, rowsD_app, rangeD0, List.map_map]
          unfold rowsD
          rw [List.map_map (l := List.range s)]
          rfl
      · rintro ρ ⟨x4, x5, rfl⟩
        refine ⟨_, rfl, .d (.int (s : Nat)), .d (.lst (rowsD (extR s ((allR (sizes.take i)).take (rowsD (allR (sizes.take i))).length)))), x4, x5, ?_⟩
        rw [ht, allR_snoc]
        have e : (allR (sizes.take i)).take (rowsD (allR (sizes.take i))).length = allR (sizes.take i) := by rw [rowsD_len, List.take_length]
        rw [e]
        rfl
    · rintro ρ ⟨x2, x3, x4, x5, rfl⟩
      refine ⟨_, rfl, _, rfl, ?_⟩
      have : sizes.take ((natsI sizes).map D.int).length = sizes := by rw [List.length_map, natsI, List.length_map, List.take_length]
      rw [this]
      exact z)
end
end DL
namespace DL
open PySem PySem.Spec L2 Tx
section
variable {P : Program} {w : World} {K : PySem.W.Frag} {mg : Str → Option Value} {base : Heap}
/-! ### the deal: a list of a list and a number -/
structure DlOk (H : Hp) (a d0 : Addr) : Prop where
  ex : ∃ (ns : List Int) (x : Int), H a = some (.lst [.ref d0, .int x]) ∧ H d0 = some (.lst (ns.map V.int)) ∧ (∀ n ∈ ns, 0 ≤ n) ∧ ns.length ≤ 64 ∧ 0 ≤ x ∧ x < 2147483647
structure HasDl (W : Amb) (a : Addr) : Prop where
  ex : ∃ d0, a ≠ d0 ∧ W.A a ∧ W.A d0 ∧ (∀ F H, W.J F H → DlOk H a d0) ∧ ∀ F H H', W.J F H → (∀ c, W.A c → c ≠ a → c ≠ d0 → H' c = H c) → DlOk H' a d0 → W.J F H'
/-- all but the deal is kept -/
def KpD (a d0 : Addr) (H H' : Hp) : Prop := ∀ c o, H c = some o → c ≠ a → c ≠ d0 → H' c = some o
theorem KpD.refl {a d0 : Addr} {H : Hp} : KpD a d0 H H := fun _ _ h _ _ => h
theorem KpD.fresh {a d0 p : Addr} {H H' : Hp} {o : HO} (k : KpD a d0 H H') (n : H' p = none) : KpD a d0 H (upd H' p o) := fun c u h h1 h2 => by
  have q := k c u h h1 h2
  rw [upd_ne (ne_of_none q n)]; exact q
theorem KpD.w1 {a d0 : Addr} {H H' : Hp} {o : HO} (k : KpD a d0 H H') : KpD a d0 H (upd H' a o) := fun c u h h1 h2 => by rw [upd_ne h1]; exact k c u h h1 h2
theorem KpD.w2 {a d0 : Addr} {H H' : Hp} {o : HO} (k : KpD a d0 H H') : KpD a d0 H (upd H' d0 o) := fun c u h h1 h2 => by rw [upd_ne h2]; exact k c u h h1 h2
theorem KpD.step {W : Amb} {a d0 : Addr} {F H H' : Hp} (ok : Okay W F H) (A1 : W.A a) (A2 : W.A d0) (cl : ∀ F H H', W.J F H → (∀ c, W.A c → c ≠ a → c ≠ d0 → H' c = H c) → DlOk H' a d0 → W.J F H') (k : KpD a d0 H H') (g : DlOk H' a d0) : Step W F H F H' := by
  have ne : ∀ {c o}, F c = some o → c ≠ a ∧ c ≠ d0 := fun {c o} h => by
    refine ⟨fun z => ?_, fun z => ?_⟩
    · rw [z, ok.na a A1] at h; cases h
    · rw [z, ok.na d0 A2] at h; cases h
  refine ⟨Same.refl _, fun c o h n => k c o h (fun z => n (z ▸ A1)) (fun z => n (z ▸ A2)), fun c o h => .inl h, ⟨fun c o h => k c o (ok.fh c o h) (ne h).1 (ne h).2, ok.na, cl F H H' ok.j (fun c hA h1 h2 => ?_) g⟩⟩
  cases q : H c with
  | none => exact absurd q (W.there ok.j c hA)
  | some o => exact k c o q h1 h2
def s_law_any : DSpec := fun W ds K => ∃ (a : Addr) (b : Int), ds = [.ref a, .int b] ∧ HasDl W a ∧ 0 < b ∧ b < 1073741824 ∧ ∀ r : Int, 0 ≤ r → r < b → K (.int r)
theorem sc_law_any : FnScope ["_law_deal", "_law_bound", "_law_rest"] ["_law_deal", "_law_bound"] (defScope f_law_any) := ⟨rfl, rfl, rfl, by decide +kernel, rfl, by decide +kernel, by decide +kernel⟩
abbrev tD0 (K : PySem.W.Frag) : TE := tOp (rIx K) (tVar 0) (tC (.int 0))
abbrev tD1 (K : PySem.W.Frag) : TE := tOp (rIx K) (tVar 0) (tC (.int 1))
section
variable {σ : L2.St} {H : Hp} {a d0 : Addr} {x : Int} {ns : List Int} {Q : VK}
theorem r_D0 (e : σ[0]? = some (some (.ref a))) (h : H a = some (.lst [.ref d0, .int x])) (q : Q (.ref d0) H) : tD0 K σ H Q := ⟨_, e, .inl ⟨a, _, 0, _, rfl, rfl, SqL.of h, rfl, q⟩⟩
theorem r_D1 (e : σ[0]? = some (some (.ref a))) (h : H a = some (.lst [.ref d0, .int x])) (q : Q (.int x) H) : tD1 K σ H Q := ⟨_, e, .inl ⟨a, _, 1, _, rfl, rfl, SqL.of h, rfl, q⟩⟩
theorem r_ne {Q : Bool → Hp → Prop} (e : σ[0]? = some (some (.ref a))) (h : H a = some (.lst [.ref d0, .int x])) (h0 : H d0 = some (.lst (ns.map V.int))) (q : ∀ p, H p = none → Q (!decide (ns = [])) (upd H p (.lst []))) : tTest (tOp (rNeD K) (tD0 K) (tLst tNil)) σ H Q := by
  refine r_D0 e h ⟨Nat.zero_le _, fun p hp => ?_⟩
  have n0 : d0 ≠ p := ne_of_none h0 hp
  have i1 : Is (upd H p (.lst [])) (.ref d0) (.lst (ns.map .int)) := .lst' (by rw [upd_ne n0]; exact h0) (isL_of_ints ns)
  have i2 : Is (upd H p (.lst [])) (.ref p) (.lst []) := .lst' upd_same trivial
  refine ⟨_, _, i1.dp (Same.refl _) (n := 1) (flatL_ints ns 0), i2.dp (Same.refl _) (n := 1) rfl, flat_shaped (n := 1) (flatL_ints ns 0) (by decide), flat_shaped (n := 1) rfl (by decide), _, rfl, ?_⟩
  rw [eqv_nilL]
  have : (ns.map D.int).isEmpty = decide (ns = []) := by cases ns <;> rfl
  rw [this]
  exact q p hp
end
theorem last_ints {ns : List Int} (h : ns ≠ []) : ∃ n, n ∈ ns ∧ (ns.map V.int)[(ns.map V.int).length - 1]? = some (.int n) ∧ atI (ns.map V.int) (-1) = some (.int n) ∧ (ns.map V.int).dropLast = ns.dropLast.map V.int := by
  obtain ⟨l, y, rfl⟩ : ∃ l y, ns = l ++ [y] := ⟨ns.dropLast, ns.getLast h, (List.dropLast_concat_getLast h).symm⟩
  refine ⟨y, by simp, by simp, ?_, by simp⟩
  rw [List.map_append]
  exact atI_last _ _
abbrev tPopC (K : PySem.W.Frag) : TT := tAnd (tTest (tOp (rNeD K) (tD0 K) (tLst tNil))) (tTest (tOp (rEqD K) (tOp (rIx K) (tD0 K) (tUn (rU fun i => V.int (-i)) (tC (.int 1)))) (tC (.int 0))))
theorem dl_mk {H : Hp} {a d0 : Addr} {ns : List Int} {x : Int} (h1 : H a = some (.lst [.ref d0, .int x])) (h2 : H d0 = some (.lst (ns.map V.int))) (h3 : ∀ n ∈ ns, 0 ≤ n) (h4 : ns.length ≤ 64) (h5 : 0 ≤ x) (h6 : x < 2147483647) : DlOk H a d0 := ⟨ns, x, h1, h2, h3, h4, h5, h6⟩
theorem r_while {σ : L2.St} {H : Hp} {a d0 : Addr} {D : Ends} (e : σ[0]? = some (some (.ref a))) (nad : a ≠ d0) (dl : DlOk H a d0) (k : ∀ H2, KpD a d0 H H2 → DlOk H2 a d0 → D.nx σ H2) : tWhile (tPopC K) (tSeq (tDrop (tBM0 K "list" rPop (tD0 K))) tNext) D σ H := by
  obtain ⟨ns, x, ha, h0, h3, h4, h5, h6⟩ := dl.ex
  refine ⟨fun m σ' H1 => σ' = σ ∧ KpD a d0 H H1 ∧ ∃ ns x, H1 a = some (.lst [.ref d0, .int x]) ∧ H1 d0 = some (.lst (ns.map V.int)) ∧ (∀ n ∈ ns, 0 ≤ n) ∧ ns.length ≤ 64 ∧ 0 ≤ x ∧ x < 2147483647 ∧ m = ns.length, ⟨_, rfl, .refl, ns, x, ha, h0, h3, h4, h5, h6, rfl⟩, ?_⟩
  rintro m σ' H1 ⟨rfl, kp, ns, x, ha, h0, h3, h4, h5, h6, rfl⟩
  refine r_ne e ha h0 fun p hp => ?_
  have ha' := (upd_ne (o := HO.lst []) (ne_of_none ha hp)).trans ha
  have h0' := (upd_ne (o := HO.lst []) (ne_of_none h0 hp)).trans h0
  have kp' := kp.fresh (o := HO.lst []) hp
  by_cases en : ns = []
  · rw [if_neg (by simp [en])]
    dsimp only
    rw [if_neg Bool.false_ne_true]
    exact k _ kp' (dl_mk ha' h0' h3 h4 h5 h6)
  · rw [if_pos (by simp [en])]
    obtain ⟨n, hn, e1, e2, e3⟩ := last_ints en
    refine r_D0 e ha' ⟨1, rfl, .inl ⟨d0, _, -1, _, rfl, rfl, SqL.of h0', e2, ?_⟩⟩
    refine ⟨.int n, .int 0, .int n, .int 0, rfl, rfl, _, rfl, ?_⟩
    by_cases z : PyData.eqv (.int n) (.int 0) = true
    · dsimp only
      rw [if_pos z]
      refine ⟨_, fun _ _ h => h, ?_⟩
      refine r_D0 e ha' ⟨.inl ⟨rfl, _, SqL.of h0'⟩, d0, _, _, rfl, rfl, h0', e1, ?_⟩
      have hl : 0 < ns.length := List.length_pos_iff.mpr en
      refine ⟨ns.dropLast.length, by rw [List.length_dropLast]; omega, rfl, kp'.w2, ns.dropLast, x, by rw [upd_ne nad]; exact ha', by rw [upd_same, e3], fun n hn => h3 n (List.dropLast_subset _ hn), by rw [List.length_dropLast]; omega, h5, h6, rfl⟩
    · dsimp only
      rw [if_neg z]
      exact k _ kp' (dl_mk ha' h0' h3 h4 h5 h6)
theorem c_law_any (ft : Fts mg) (d : DF K mg "_law_any" f_law_any) : Cl P w K mg base 2 "_law_any" 2 s_law_any := by
  obtain ⟨fa, fd, hm, Fn⟩ := d.ex
  refine ⟨fa, fd, ["_law_deal", "_law_bound"], hm, Fn.kp, rfl, Fn.bindsN (fun _ _ _ _ _ _ us hl => match us, hl with | [_, _], _ => rfl), ?_⟩
  have S := sc_law_any
  have nd := S.nd
  refine Fn.ok S (fun vs H Q E ⟨W, F, ds, K', ok, il, ⟨a, b, e, _⟩, _⟩ => by rw [il.length, e]; rfl) fun cdv A outer s H vs Q E hr ⟨W, F, ds, K', ok, il, ⟨a, b, e, hd, b0, b1, z⟩, k⟩ => ?_
  subst e
  refine ⟨_, PSs.nox (pss_cons (ps_while PassesOwn.never (PW.pt (pw_and (pt_cmpR (op_neD hr.units) (pe_ix ix_seq (pv 0) pe_int (by intro _ _; rfl)) (pe_lst pa_nil) (nomark _)) (pw_and1 (pt_cmpR (op_eqD hr.units) (pe_ix ix_seq (pe_ix ix_seq (pv 0) pe_int (by intro _ _; rfl)) (pe_un un_neg pe_int) (by intro _ _; rfl)) pe_int (nomark _)))))
      (pss_cons (ps_expr (pe_bm0 PySem.F.plainAttrs_list PySem.F.slot_list_pop PySem.F.type_list_pop (mt_pop : MtR _ "list.pop" rPop) (pe_ix ix_seq (pv 0) pe_int (by intro _ _; rfl)))) pss_nil))
    (pss_cons (ps_if (pt_cmpR (op_neD hr.units) (pe_ix ix_seq (pv 0) pe_int (by intro _ _; rfl)) (pe_lst pa_nil) (nomark _))
        (pss_cons (ps_set (i := 2) nd rfl (Or.inl rfl) (pe_callTy call_int1 rfl ft.m_int (by decide +kernel) (pa_cons (pe_bm0 PySem.F.plainAttrs_list PySem.F.slot_list_pop PySem.F.type_list_pop (mt_pop : MtR _ "list.pop" rPop) (pe_ix ix_seq (pv 0) pe_int (by intro _ _; rfl))) pa_nil)))
        (pss_cons (ps_expr (pe_bm PySem.F.plainAttrs_list PySem.F.slot_list_append PySem.F.type_list_append (mt_append : MtR _ "list.append" rAppend) (pe_ix ix_seq (pv 0) pe_int (by intro _ _; rfl)) (pa_cons (pe_op op_fdivN (pv 2) (pv 1)) pa_nil)))
        (pss_cons (ps_ret (pe_op op_mod (pv 2) (pv 1))) pss_nil))) pss_nil)
    (pss_cons (ps_asg (pe_op op_mod (pe_callTy call_int1 rfl ft.m_int (by decide +kernel) (pa_cons (pe_op op_add (pe_op op_mul (pe_ix ix_seq (pv 0) pe_int (by intro _ _; rfl)) pe_int) pe_int) pa_nil)) pe_int) (pg_sub (pv 0) pe_int set_list))
    (pss_cons (ps_ret (pe_op op_mod (pe_callTy call_int1 rfl ft.m_int (by decide +kernel) (pa_cons (pe_op op_fdivN (pe_ix ix_seq (pv 0) pe_int (by intro _ _; rfl)) pe_int) pa_nil)) (pv 1))) pss_nil)))), ?_⟩
  obtain ⟨d0, nad, A1, A2, jd, cl⟩ := hd.ex
  obtain ⟨v1, e1, e2⟩ : ∃ v1, vs = [.ref a, v1] ∧ v1 = .int b := by
    match vs, il with
    | [v0, v1], h => exact ⟨v1, by rw [h.1.ref_inv], h.2.1.int_inv⟩
  subst e1 e2
  refine r_while rfl nad (jd F H ok.j) fun H1 kp dl => ?_
  obtain ⟨ns, x, ha, h0, h3, h4, h5, h6⟩ := dl.ex
  refine r_ne rfl ha h0 fun p hp => ?_
  have ha' := (upd_ne (o := HO.lst []) (ne_of_none ha hp)).trans ha
  have h0' := (upd_ne (o := HO.lst []) (ne_of_none h0 hp)).trans h0
  have kp' := kp.fresh (o := HO.lst []) hp
  by_cases en : ns = []
  · rw [if_neg (by simp [en])]
    have x1 : 0 ≤ (x * 40693 + 71) % 2147483647 := Int.emod_nonneg _ (by decide)
    have x2 : (x * 40693 + 71) % 2147483647 < 2147483647 := Int.emod_lt_of_pos _ (by decide)
    refine r_D1 rfl ha' ⟨x, 40693, rfl, rfl, .inr (by decide), ⟨_, _, rfl, rfl, .inl ⟨_, rfl, ⟨_, _, rfl, rfl, (show (0 : Int) < 2147483647 by decide), ⟨_, rfl, a, _, 1, 1, rfl, rfl, ha', rfl, ?_⟩⟩⟩⟩⟩
    have ha2 : upd (upd H1 p (.lst [])) a (.lst ([.ref d0, .int x].set 1 (.int ((x * 40693 + 71) % 2147483647)))) a = some (.lst [.ref d0, .int ((x * 40693 + 71) % 2147483647)]) := upd_same
    refine r_D1 rfl ha2 ⟨_, _, rfl, rfl, ⟨by decide, by decide⟩, .inl ⟨_, rfl, _, rfl, _, _, rfl, rfl, b0, ?_⟩⟩
    exact k _ _ F _ (z _ (Int.emod_nonneg _ (by omega)) (Int.emod_lt_of_pos _ b0)) (KpD.step ok A1 A2 cl kp'.w1 (dl_mk ha2 (by rw [upd_ne (Ne.symm nad)]; exact h0') h3 h4 x1 x2)) (.int _)
  · rw [if_pos (by simp [en])]
    obtain ⟨n, hn, e1, e2, e3⟩ := last_ints en
    have hl : 0 < ns.length := List.length_pos_iff.mpr en
    refine r_D0 rfl ha' ⟨.inl ⟨rfl, _, SqL.of h0'⟩, d0, _, _, rfl, rfl, h0', e1, .inl ⟨_, rfl, ?_⟩⟩
    have ha2 : upd (upd H1 p (.lst [])) d0 (.lst (ns.map V.int).dropLast) a = some (.lst [.ref d0, .int x]) := by rw [upd_ne nad]; exact ha'
    have h02 : upd (upd H1 p (.lst [])) d0 (.lst (ns.map V.int).dropLast) d0 = some (.lst (ns.map V.int).dropLast) := upd_same
    refine r_D0 rfl ha2 ⟨.inl ⟨rfl, _, SqL.of h02⟩, ⟨_, rfl, _, rfl, _, _, rfl, rfl, ⟨by omega, by omega⟩, d0, _, _, rfl, rfl, h02, ?_, ?_⟩⟩
    · have : (64 : Nat) < sizeLine := by decide
      rw [e3, List.length_map, List.length_dropLast]; omega
    refine ⟨_, rfl, _, rfl, _, _, rfl, rfl, b0, ?_⟩
    have nn := h3 n hn
    refine k _ _ F _ (z _ (Int.emod_nonneg _ (by omega)) (Int.emod_lt_of_pos _ b0)) (KpD.step ok A1 A2 cl kp'.w2.w2 (dl_mk (ns := ns.dropLast ++ [n.fdiv b]) (by rw [upd_ne nad]; exact ha2) (by rw [upd_same, e3, List.map_append]; rfl) (fun m hm => ?_) (by rw [List.length_append, List.length_dropLast, List.length_singleton]; omega) h5 h6)) (.int _)
    rcases List.mem_append.mp hm with hm | hm
    · exact h3 m (List.dropLast_subset _ hm)
    · rw [List.mem_singleton.mp hm, Int.fdiv_eq_ediv_of_nonneg _ (by omega)]
      exact Int.ediv_nonneg nn (by omega)
end
end DL
namespace DL
open PySem PySem.Spec L2 Tx
section
variable {P : Program} {w : World} {K : PySem.W.Frag} {mg : Str → Option Value} {base : Heap}
/-! ### the script -/
def HasScr (K : PySem.W.Frag) (W : Amb) (a : Addr) (ns : List Int) : Prop := ∀ F H, W.J F H → SqL K H a (ns.map V.int)
def gScr (K : PySem.W.Frag) (W : Amb) : Sd → Option Int → Option Int → (Sd → Prop) → Prop := fun sx lo hi Q => ∃ a ns, sx = .d (.ref a) ∧ HasScr K W a ns ∧ Q (.ol ((cutG ns lo hi).map .int))
theorem pr_scr {K : PySem.W.Frag} {W : Amb} {X : Cx} (hK : X.K = K) {e : Expr} {pa : RE} {lo hi : Option Expr} {pl ph : RO} {p2 pos : Pos} (he : PEd W X e pa) (hl : POd W X lo pl) (hu : POd W X hi ph) : PRd W X (.Subscript e (.Slice lo hi none p2) pos) (dSl (gScr K W) pa pl ph) := by
  subst hK
  exact pr_slice sl_list (fun F H x ax sx lo hi Q R ok vx ⟨a, ns, e1, hs, q⟩ k => by
    subst e1
    obtain ⟨rfl, h1⟩ := vx
    refine ⟨a, ns.map V.int, h1.ref_inv, hs _ _ ok.j, fun p hp => ?_⟩
    have il : IsL F (cutV (ns.map V.int) lo hi) ((cutG ns lo hi).map .int) := by
      have := (isL_of_ints (H := F) ns).cut lo hi
      unfold cutG at this ⊢
      rw [List.map_take, List.map_drop]
      rwa [List.length_map] at this
    exact k _ _ [p] F _ q (Step.own ok hp) ⟨p, _, rfl, rfl, upd_same, il⟩ (new1 ok hp)) he hl hu
def absP : D → D
  | .int i => .int (if i < 0 then -i else i)
  | _ => .non
theorem abs_nn (i : Int) : 0 ≤ (if i < 0 then -i else i) := by split <;> omega
def bigP : D → Bool
  | .int i => decide (10 ^ 18 ≤ i)
  | _ => false
theorem fil_ints (p : D → Bool) : ∀ ns : List Int, (ns.map D.int).filter p = (ns.filter fun i => p (.int i)).map .int
  | [] => rfl
  | n :: ns => by
    rw [List.map_cons, List.filter_cons, List.filter_cons, fil_ints p ns]
    split <;> simp
def s_law_draw (K : PySem.W.Frag) : DSpec := fun W ds Q => ∃ (a : Addr) (ns : List Int), ds = [.ref a, .int 11] ∧ HasScr K W a ns ∧ ns.length ≤ 1000 ∧ ∀ (cs : List Int) (b : Int), (∀ n ∈ cs, 0 ≤ n) → cs.length ≤ 48 → 0 ≤ b → b < 2147483647 → Q (.lst [.lst (cs.map .int), .int b])
theorem sc_law_draw : FnScope ["_law_script", "_law_salt", "_law_cells", "_law_cell", "_law_blend"] ["_law_script", "_law_salt"] (defScope f_law_draw) := ⟨rfl, rfl, rfl, by decide +kernel, rfl, by decide +kernel, by decide +kernel⟩
theorem c_law_draw (ft : Fts mg) (d : DF K mg "_law_draw" f_law_draw) : Cl P w K mg base 2 "_law_draw" 2 (s_law_draw K) :=
  cl_of (k := 1) d sc_law_draw rfl (fun _ _ _ _ _ _ us hl => match us, hl with | [_, _], _ => rfl) (fun W ds K h => by obtain ⟨_, _, e, _⟩ := h; rw [e]; rfl) (fun a W cdv A outer s H E hr =>
  have nd := sc_law_draw.nd
  (ssd_cons (sd_setLc (i := 3) (n := 2) rfl nd rfl rfl (sw_true rfl rfl rfl rfl) (id_ss (pr_scr (K := K) rfl (pd_var (pv 0)) pod_none (pod_some (PRd.e pr_int)))) (bok (own := [("_law_cell", 3)]) rfl) (fun _ _ _ _ _ => pg_name (i := 3) nd rfl (Or.inl rfl)) (fun _ _ _ _ _ => ptsd_nil) (fun _ _ _ _ _ => (pr_abs rfl ft.m_abs (PRd.e (pr_intC rfl ft.m_int (pd_var (pv 3))))))) (ssd_fz 2 (ssd_cons (sd_set (i := 4) nd rfl (Or.inl rfl) (pr_add (PRd.e pr_int) (PRd.e (pr_mul (PRd.e pr_int) (pd_var (pv 1)))))) (ssd_cons (sd_for PassesOwn.never rfl (id_ss (pr_var (pv 2))) (gd_name (i := 3) nd rfl (Or.inl rfl)) (ssd_one (sd_set (i := 4) nd rfl (Or.inl rfl) (pr_mod (PRd.e (pr_intC rfl ft.m_int (PRd.e (pr_add (PRd.e (pr_add (PRd.e (pr_mul (pd_var (pv 4)) (PRd.e pr_int))) (PRd.e (pr_mod (pd_var (pv 3)) (PRd.e pr_int))))) (PRd.e pr_int))))) (PRd.e pr_int))))) (ssd_one (sd_ret (pr_lst (pad_cons (pr_revL (PRd.e (pr_lc (i := 3) rfl nd (id_ss (pr_var (pv 2))) (bok (own := [("_law_cell", 3)]) rfl) (fun _ _ _ _ _ => pg_name (i := 3) nd rfl (Or.inl rfl)) (fun _ _ _ _ _ => ptsd_one (pt_ge (pd_var (pv 3)) (PRd.e (pr_pow (PRd.e pr_int) (PRd.e pr_int))))) (fun _ _ _ _ _ => (pr_var (pv 3)))))) (pad_cons (pr_var (pv 4)) pad_nil))))))))))
   (fun W ds K h => by
    obtain ⟨a, ns, rfl, hs, hz, z⟩ := h
    simp only [sRet, dCB, vCons, vNil, d2, sSeq, sSet]
    have ec : cutG ns none (some ((48 : Nat) : Int)) = ns.take 48 := by
      unfold cutG
      rw [HT.sIx_nat]
      show (ns.drop 0).take (min 48 ns.length - 0) = _
      rw [List.drop_zero, Nat.sub_zero, List.take_eq_take_iff]
      omega
    refine lcN (xs := (ns.take 48).map .int) (fun _ => true) absP (fun K' h' => ⟨_, rfl, nofun, 48, rfl, a, ns, rfl, hs, _, _, rfl, rfl, (by rw [show (48 : Int) = ((48 : Nat) : Int) from rfl, ec]; exact h')⟩) (by rw [List.length_map, List.length_take]; omega) (fun y hy K' k' => k') (fun y hy _ K' k' => ?_) ?_
    · obtain ⟨i, _, rfl⟩ := List.mem_map.mp hy
      exact ⟨_, rfl, nofun, i, rfl, _, rfl, k' _ rfl⟩
    rw [filter_tt, List.map_map]
    have e2 : (ns.take 48).map (absP ∘ D.int) = ((ns.take 48).map fun i => if i < 0 then -i else i).map .int := by rw [List.map_map]; rfl
    rw [e2]
    have c0 : ∀ n ∈ (ns.take 48).map fun i : Int => if i < 0 then -i else i, 0 ≤ n := fun n hn => by
      obtain ⟨i, _, rfl⟩ := List.mem_map.mp hn
      exact abs_nn i
    have c1 : ((ns.take 48).map fun i : Int => if i < 0 then -i else i).length ≤ 48 := by rw [List.length_map, List.length_take]; omega
    generalize ((ns.take 48).map fun i : Int => if i < 0 then -i else i) = cs at c0 c1
    refine ⟨_, rfl, nofun, 104729, 11, rfl, rfl, .inl (by decide), 7919, 1152019, rfl, rfl, ?_⟩
    refine ⟨_, rfl, _, _, rfl, rfl, fun i ρ => ∃ b x3, ρ = [.d (.ref a), .d (.int 11), .d (.lst (cs.map .int)), x3, .d (.int b)] ∧ 0 ≤ b ∧ b < 2147483647, ⟨1159938, _, rfl, by decide, by decide⟩, ?_, ?_⟩
    · rintro i x ρ hx ⟨b, x3, rfl, h1, h2⟩
      obtain ⟨c, hc, rfl⟩ := List.mem_map.mp (List.mem_of_getElem? hx)
      refine ⟨_, rfl, nofun, _, _, rfl, rfl, .inr (by decide), ?_⟩
      refine ⟨_, rfl, nofun, _, _, rfl, rfl, (show (0 : Int) < 2147483549 by decide), ?_⟩
      refine ⟨_, _, rfl, rfl, _, _, rfl, rfl, _, rfl, _, _, rfl, rfl, (show (0 : Int) < 2147483647 by decide), ?_⟩
      exact ⟨_, _, rfl, Int.emod_nonneg _ (by decide), Int.emod_lt_of_pos _ (by decide)⟩
    · rintro ρ ⟨b, x3, rfl, h1, h2⟩
      dsimp only
      simp only [sRet, dLst, dCons, dRevL]
      refine lcN (xs := cs.map .int) bigP id (fun K' h' => ⟨_, rfl, _, _, rfl, rfl, h'⟩) (by rw [List.length_map]; omega) (fun y hy K' k' => ?_) (fun y hy _ K' k' => ⟨_, rfl, k' _ rfl⟩) ?_
      · obtain ⟨i, _, rfl⟩ := List.mem_map.mp hy
        exact ⟨_, rfl, nofun, 10, 18, rfl, rfl, ⟨by decide, by decide, by decide⟩, _, _, rfl, rfl, _, rfl, k'⟩
      · refine ⟨_, rfl, _, rfl, _, rfl, _, rfl, (by simp), _, rfl, ?_⟩
        rw [List.map_id, fil_ints, ← List.map_reverse]
        refine z _ b (fun n hn => c0 n ?_) ?_ h1 h2
        · exact (List.mem_filter.mp (List.mem_reverse.mp hn)).1
        · rw [List.length_reverse]
          exact Nat.le_trans (List.length_filter_le _ _) c1)
def s_law_of : DSpec := fun W ds Q => ∃ (a : Addr) (xs : List D), ds = [.ref a, .lst xs] ∧ HasDl W a ∧ xs ≠ [] ∧ xs.length ≤ 100000 ∧ ∀ x ∈ xs, Q x
theorem sc_law_of : FnScope ["_law_deal", "_law_some"] ["_law_deal", "_law_some"] (defScope f_law_of) := ⟨rfl, rfl, rfl, by decide +kernel, rfl, by decide +kernel, by decide +kernel⟩
theorem c_law_of (ft : Fts mg) (c_law_any : Cl P w K mg base 2 "_law_any" 2 s_law_any) (d : DF K mg "_law_of" f_law_of) : Cl P w K mg base 3 "_law_of" 2 s_law_of :=
  cl_of (k := 2) d sc_law_of rfl (fun _ _ _ _ _ _ us hl => match us, hl with | [_, _], _ => rfl) (fun W ds K h => by obtain ⟨_, _, e, _⟩ := h; rw [e]; rfl) (fun a W cdv A outer s H E hr =>
  have nd := sc_law_of.nd
  (ssd_one (sd_ret (pr_item (pd_var (pv 1)) (PRd.e (pr_call c_law_any (hr.mono (by decide)) rfl (pad_cons (pr_var (pv 0)) (pad_cons (pr_len rfl ft.m_len (pd_var (pv 1))) pad_nil))))))))
   (fun W ds K h => by
    obtain ⟨a, xs, rfl, hs, hz, hl, z⟩ := h
    have h0 : 0 < xs.length := List.length_pos_iff.mpr hz
    refine ⟨_, rfl, nofun, _, rfl, _, rfl, _, rfl, nofun, _, xs, rfl, rfl, _, rfl, a, _, rfl, hs, by omega, by omega, fun r h1 h2 => ?_⟩
    obtain ⟨n, rfl⟩ := Int.eq_ofNat_of_zero_le h1
    have hn : n < xs.length := by omega
    exact ⟨xs, (n : Nat), xs[n], rfl, rfl, atI_nat (by simp [hn]), _, rfl, z _ (List.getElem_mem hn)⟩)
theorem perm_erase : ∀ {xs : List D} {n : Nat} {d : D}, xs[n]? = some d → (d :: xs.eraseIdx n).Perm xs
  | [], n, d, h => by simp at h
  | x :: xs, 0, d, h => by
    have e : x = d := by simpa using h
    rw [e]; exact List.Perm.refl _
  | x :: xs, n + 1, d, h => by
    have q := perm_erase (xs := xs) (n := n) (d := d) (by simpa using h)
    exact (List.Perm.swap x d _).trans (q.cons x)
theorem perm_pop {xs ys : List D} {n : Nat} {d : D} (h : xs[n]? = some d) : (xs.eraseIdx n ++ (ys ++ [d])).Perm (xs ++ ys) := by
  have p1 : (d :: xs.eraseIdx n).Perm xs := perm_erase h
  have p2 : (xs.eraseIdx n ++ (ys ++ [d])).Perm (d :: (xs.eraseIdx n ++ ys)) := by
    rw [← List.append_assoc]
    exact List.perm_append_singleton _ _
  exact p2.trans (p1.append_right ys)
def s_law_mixed : DSpec := fun W ds Q => ∃ (a : Addr) (xs : List D), ds = [.ref a, .lst xs] ∧ HasDl W a ∧ xs.length ≤ 1000 ∧ flatL 8 xs = true ∧ ∀ ys : List D, ys.Perm xs → Q (.lst ys)
theorem sc_law_mixed : FnScope ["_law_deal", "_law_some", "_law_left", "_law_found"] ["_law_deal", "_law_some"] (defScope f_law_mixed) := ⟨rfl, rfl, rfl, by decide +kernel, rfl, by decide +kernel, by decide +kernel⟩
theorem c_law_mixed (ft : Fts mg) (c_law_any : Cl P w K mg base 2 "_law_any" 2 s_law_any) (d : DF K mg "_law_mixed" f_law_mixed) : Cl P w K mg base 3 "_law_mixed" 2 s_law_mixed :=
  cl_of (k := 2) d sc_law_mixed rfl (fun _ _ _ _ _ _ us hl => match us, hl with | [_, _], _ => rfl) (fun W ds K h => by obtain ⟨_, _, e, _⟩ := h; rw [e]; rfl) (fun a W cdv A outer s H E hr =>
  have nd := sc_law_mixed.nd
  (ssd_cons (sd_par (i := 2) (j := 3) rfl nd rfl rfl (by decide) rfl rfl (pqd_cons (pr_list rfl ft.m_list (pd_var (pv 1))) (pqd_cons (pr_lst pad_nil) pqd_nil)) rfl) (ssd_cons (sd_while PassesOwn.never (pt_neD hr (pd_var (pv 2)) (PRd.e (pr_lst pad_nil))) (ssd_one (sd_app (pv 3) (px_popAt (pv 2) (PRd.e (pr_call c_law_any (hr.mono (by decide)) rfl (pad_cons (pr_var (pv 0)) (pad_cons (pr_len rfl ft.m_len (pd_var (pv 2))) pad_nil)))))))) (ssd_fz 3 (ssd_one (sd_ret (pr_var (pv 3))))))))
   (fun W ds K h => by
    obtain ⟨a, xs, rfl, hs, hl, hf, z⟩ := h
    simp only [sRet, dCB, vCons, vNil, d2, sSeq, sSet]
    refine ⟨_, rfl, nofun, _, xs, rfl, rfl, (by simp), rfl, ?_⟩
    refine ⟨fun m ρ => ∃ left found : List D, ρ = [.d (.ref a), .d (.lst xs), .ol left, .ol found] ∧ (left ++ found).Perm xs ∧ flatL 8 left = true ∧ m = left.length, ⟨_, xs, [], rfl, by simp, hf, rfl⟩, ?_⟩
    rintro m ρ ⟨left, found, rfl, hp, hfl, rfl⟩
    have hlen : left.length + found.length = xs.length := by rw [← List.length_append, hp.length_eq]
    refine ⟨_, rfl, nofun, (by simp), _, _, rfl, rfl, hfl, rfl, _, rfl, fun hb => ?_, fun hb => ?_⟩
    · rw [eqv_nilL] at hb
      have h0 : 0 < left.length := by cases left with | nil => simp at hb | cons _ _ => simp
      refine ⟨⟨_, rfl⟩, left, rfl, (by omega), _, rfl, _, rfl, _, rfl, nofun, _, left, rfl, rfl, _, rfl, a, _, rfl, hs, by omega, by omega, fun r h1 h2 => ?_⟩
      obtain ⟨n, rfl⟩ := Int.eq_ofNat_of_zero_le h1
      have hn : n < left.length := by omega
      refine ⟨n, left[n], rfl, by simp [hn], found, rfl, by omega, left.eraseIdx n |>.length, by rw [List.length_eraseIdx, if_pos hn]; omega, left.eraseIdx n, found ++ [left[n]], rfl, (perm_pop (by simp [hn])).trans hp, ?_, rfl⟩
      exact flatL_iff.mpr fun x hx => flatL_iff.mp hfl x (List.mem_of_mem_eraseIdx hx)
    · rw [eqv_nilL] at hb
      have h0 : left = [] := by cases left with | nil => rfl | cons _ _ => simp at hb
      subst h0
      exact ⟨_, rfl, _, rfl, z _ (by simpa using hp)⟩)
end
end DL
namespace DL
open PySem PySem.Spec L2 Tx
section
variable {P : Program} {w : World} {K : PySem.W.Frag} {mg : Str → Option Value} {base : Heap}
/-! ### comprehensions by what their items are -/
section
variable {pi : RI} {pt : RT} {pe : RE} {ρ : List Sd} {K : Sd → Prop} {xs : List D} {i j : Nat}
theorem lcG (Pd : D → Prop) (hi : ∀ K' : List D → Prop, K' xs → pi ρ K') (hz : xs.length ≤ 100000)
    (hb : ∀ x ∈ xs, ∀ K' : Bool → Prop, K' true → K' false → pt ((blk ρ [i]).set i (.d x)) K') (he : ∀ x ∈ xs, ∀ K' : Sd → Prop, (∀ s d, s.frz = some d → Pd d → K' s) → pe ((blk ρ [i]).set i (.d x)) K')
    (k : ∀ acc : List D, (∀ d ∈ acc, Pd d) → acc.length ≤ xs.length → K (.ol acc)) : dLc pi [i] tgN pt pe ρ K := by
  refine hi _ ⟨hz, fun n acc => (∀ d ∈ acc, Pd d) ∧ acc.length ≤ n, ⟨fun d hd => by simp at hd, Nat.le_refl 0⟩, fun n x ys acc hx ht iv => ?_, fun n x _ => ⟨[x], rfl⟩, fun acc iv => k acc iv.1 iv.2⟩
  rw [show ys = [x] from ht]
  have hm : x ∈ xs := List.mem_of_getElem? hx
  refine hb x hm _ ⟨fun _ => he x hm _ fun s d hs hd => ⟨d, hs, fun e he => ?_, ?_⟩, fun e => (by cases e)⟩ ⟨fun e => (by cases e), fun _ => ⟨iv.1, Nat.le_succ_of_le iv.2⟩⟩
  · rcases List.mem_append.mp he with q | q
    · exact iv.1 e q
    · rw [List.mem_singleton.mp q]; exact hd
  · have := iv.2
    rw [List.length_append, List.length_singleton]; omega
/-- without a test -/
theorem lcG1 (Pd : D → Prop) (hi : ∀ K' : List D → Prop, K' xs → pi ρ K') (hz : xs.length ≤ 100000)
    (he : ∀ x ∈ xs, ∀ K' : Sd → Prop, (∀ s d, s.frz = some d → Pd d → K' s) → pe ((blk ρ [i]).set i (.d x)) K')
    (k : ∀ acc : List D, (∀ d ∈ acc, Pd d) → acc.length = xs.length → K (.ol acc)) : dLc pi [i] tgN dYes pe ρ K := by
  refine hi _ ⟨hz, fun n acc => (∀ d ∈ acc, Pd d) ∧ acc.length = n, ⟨fun d hd => by simp at hd, rfl⟩, fun n x ys acc hx ht iv => ?_, fun n x _ => ⟨[x], rfl⟩, fun acc iv => k acc iv.1 iv.2⟩
  rw [show ys = [x] from ht]
  have hm : x ∈ xs := List.mem_of_getElem? hx
  refine ⟨fun _ => he x hm _ fun s d hs hd => ⟨d, hs, fun e he => ?_, ?_⟩, fun e => (by cases e)⟩
  · rcases List.mem_append.mp he with q | q
    · exact iv.1 e q
    · rw [List.mem_singleton.mp q]; exact hd
  · have := iv.2
    rw [List.length_append, List.length_singleton]; omega
theorem lcGP (Pd : D → Prop) (hi : ∀ K' : List D → Prop, K' xs → pi ρ K') (hz : xs.length ≤ 100000) (hp : ∀ x ∈ xs, ∃ a b, x = .tup [a, b])
    (hb : ∀ a b, .tup [a, b] ∈ xs → ∀ K' : Bool → Prop, K' true → K' false → pt (((blk ρ [i, j]).set i (.d a)).set j (.d b)) K') (he : ∀ a b, .tup [a, b] ∈ xs → ∀ K' : Sd → Prop, (∀ s d, s.frz = some d → Pd d → K' s) → pe (((blk ρ [i, j]).set i (.d a)).set j (.d b)) K')
    (k : ∀ acc : List D, (∀ d ∈ acc, Pd d) → acc.length ≤ xs.length → K (.ol acc)) : dLc pi [i, j] tgP pt pe ρ K := by
  refine hi _ ⟨hz, fun n acc => (∀ d ∈ acc, Pd d) ∧ acc.length ≤ n, ⟨fun d hd => by simp at hd, Nat.le_refl 0⟩, fun n x ys acc hx ht iv => ?_, fun n x hx => ?_, fun acc iv => k acc iv.1 iv.2⟩
  · have hm : x ∈ xs := List.mem_of_getElem? hx
    obtain ⟨a, b, e⟩ := hp x hm
    obtain ⟨e2, _⟩ := ht
    rw [e] at e2
    cases e2
    subst e
    refine hb a b hm _ ⟨fun _ => he a b hm _ fun s d hs hd => ⟨d, hs, fun e he => ?_, ?_⟩, fun e => (by cases e)⟩ ⟨fun e => (by cases e), fun _ => ⟨iv.1, Nat.le_succ_of_le iv.2⟩⟩
    · rcases List.mem_append.mp he with q | q
      · exact iv.1 e q
      · rw [List.mem_singleton.mp q]; exact hd
    · have := iv.2
      rw [List.length_append, List.length_singleton]; omega
  · obtain ⟨a, b, e⟩ := hp x (List.mem_of_getElem? hx)
    exact ⟨[a, b], e, rfl⟩
/-- some of the rows -/
theorem lcSub (rows : List Row) (hi : ∀ K' : List D → Prop, K' (rowsD rows) → pi ρ K') (hz : rows.length ≤ 100000)
    (hb : ∀ r ∈ rows, ∀ K' : Bool → Prop, K' true → K' false → pt ((blk ρ [i]).set i (.d (.ints r))) K') (h2 : ∀ x, ((blk ρ [i]).set i (.d x))[i]? = some (.d x))
    (k : ∀ sub : List Row, sub.Sublist rows → K (.ol (rowsD sub))) : dLc pi [i] tgN pt (dVar i) ρ K := by
  refine hi _ ⟨by rw [rowsD_len]; exact hz, fun n acc => ∃ sub : List Row, acc = rowsD sub ∧ sub.Sublist (rows.take n), ⟨[], rfl, List.nil_sublist _⟩, fun n x ys acc hx ht iv => ?_, fun n x _ => ⟨[x], rfl⟩, fun acc ⟨sub, e, hs⟩ => ?_⟩
  · rw [show ys = [x] from ht]
    obtain ⟨r, hr, rfl⟩ := rows_at hx
    obtain ⟨sub, rfl, hs⟩ := iv
    have ht : rows.take (n + 1) = rows.take n ++ [r] := by rw [List.take_add_one, hr]; rfl
    refine hb r (List.mem_of_getElem? hr) _ ⟨fun _ => ⟨_, h2 _, _, rfl, sub ++ [r], by rw [rowsD_app]; rfl, by rw [ht]; exact hs.append (List.Sublist.refl _)⟩, fun e => (by cases e)⟩ ⟨fun e => (by cases e), fun _ => ⟨sub, rfl, by rw [ht]; exact hs.trans (List.sublist_append_left _ _)⟩⟩
  · rw [e]
    rw [rowsD_len, List.take_length] at hs
    exact k sub hs
end
theorem ints_of {xs : List D} {p : Int → Prop} (h : ∀ d ∈ xs, ∃ i, d = .int i ∧ p i) : ∃ ns : List Int, xs = ns.map .int ∧ ∀ n ∈ ns, p n := by
  induction xs with
  | nil => exact ⟨[], rfl, fun n hn => by simp at hn⟩
  | cons x xs ih =>
    obtain ⟨ns, e, hn⟩ := ih fun d hd => h d (List.mem_cons_of_mem _ hd)
    obtain ⟨i, e2, hi⟩ := h x List.mem_cons_self
    refine ⟨i :: ns, by rw [e, e2]; rfl, fun n h => ?_⟩
    rcases List.mem_cons.mp h with q | q
    · rw [q]; exact hi
    · exact hn n q
theorem rows_of {xs : List D} (h : ∀ d ∈ xs, ∃ r : Row, d = .ints r) : ∃ rows : List Row, xs = rowsD rows := by
  induction xs with
  | nil => exact ⟨[], rfl⟩
  | cons x xs ih =>
    obtain ⟨ns, e⟩ := ih fun d hd => h d (List.mem_cons_of_mem _ hd)
    obtain ⟨i, e2⟩ := h x List.mem_cons_self
    exact ⟨i :: ns, by rw [e, e2]; rfl⟩
/-! ### calls of the deal -/
section
variable {W : Amb} {a : Addr} {ρ : List Sd} {Q : Sd → Prop}
theorem anyC {b : Int} (h0 : ρ[0]? = some (.d (.ref a))) (hs : HasDl W a) (b0 : 0 < b) (b1 : b < 1073741824) (k : ∀ r : Int, 0 ≤ r → r < b → Q (.d (.int r))) : dCall W s_law_any (dCons (dVar 0) (dCons (dC (D.int b)) dNil)) ρ Q := ⟨_, h0, _, rfl, _, rfl, a, b, rfl, hs, b0, b1, k⟩
theorem ofC {j : Nat} {xs : List D} (h0 : ρ[0]? = some (.d (.ref a))) (hj : ρ[j]? = some (.d (.lst xs))) (hs : HasDl W a) (hn : xs ≠ []) (hz : xs.length ≤ 100000) (k : ∀ x ∈ xs, Q (.d x)) : dCall W s_law_of (dCons (dVar 0) (dCons (dVar j) dNil)) ρ Q := ⟨_, h0, _, rfl, _, hj, _, rfl, a, xs, rfl, hs, hn, hz, k⟩
end
structure SizesOk (sizes : List Nat) : Prop where
  ne : sizes ≠ []
  few : sizes.length ≤ 4
  one : ∀ s ∈ sizes, 1 ≤ s ∧ s ≤ 4
  rows : ∀ i, (allR (sizes.take i)).length ≤ 24
theorem small7 {x : D} (h : x ∈ [D.int 1, .int 2, .int 2, .int 3, .int 3, .int 3, .int 4] ∨ x ∈ [D.int 1, .int 2, .int 2, .int 2, .int 3, .int 3, .int 4]) : ∃ m : Nat, x = .int (m : Nat) ∧ 1 ≤ m ∧ m ≤ 4 := by
  rcases h with h | h <;> simp at h <;> rcases h with h | h | h | h <;> first | exact ⟨1, h, by decide, by decide⟩ | exact ⟨2, h, by decide, by decide⟩ | exact ⟨3, h, by decide, by decide⟩ | exact ⟨4, h, by decide, by decide⟩
theorem allR_app (l : List Nat) (s : Nat) : (allR (l ++ [s])).length = (allR l).length * s := by rw [allR_snoc, extR_len]
def s_law_sizes : DSpec := fun W ds Q => ∃ a : Addr, ds = [.ref a, .int 24] ∧ HasDl W a ∧ ∀ sizes : List Nat, SizesOk sizes → Q (.lst ((natsI sizes).map .int))
theorem sc_law_sizes : FnScope ["_law_deal", "_law_most", "_law_found", "_law_rows", "_law_turn", "_law_size"] ["_law_deal", "_law_most"] (defScope f_law_sizes) := ⟨rfl, rfl, rfl, by decide +kernel, rfl, by decide +kernel, by decide +kernel⟩
theorem c_law_sizes (ft : Fts mg) (c_law_of : Cl P w K mg base 3 "_law_of" 2 s_law_of) (d : DF K mg "_law_sizes" f_law_sizes) : Cl P w K mg base 4 "_law_sizes" 2 s_law_sizes :=
  cl_of (k := 3) d sc_law_sizes rfl (fun _ _ _ _ _ _ us hl => match us, hl with | [_, _], _ => rfl) (fun W ds K h => by obtain ⟨_, e, _⟩ := h; rw [e]; rfl) (fun a W cdv A outer s H E hr =>
  have nd := sc_law_sizes.nd
  (ssd_cons (sd_par (i := 2) (j := 3) rfl nd rfl rfl (by decide) rfl rfl (pqd_cons (pr_lst pad_nil) (pqd_cons pr_int pqd_nil)) rfl) (ssd_cons (sd_for PassesOwn.never rfl (id_range1 rfl ft.m_range (pr_call c_law_of (hr.mono (by decide)) rfl (pad_cons (pr_var (pv 0)) (pad_cons (pr_lst (pad_cons pr_int (pad_cons pr_int (pad_cons pr_int (pad_cons pr_int (pad_cons pr_int (pad_cons pr_int (pad_cons pr_int pad_nil)))))))) pad_nil)))) (gd_name (i := 4) nd rfl (Or.inl rfl)) (ssd_cons (sd_set (i := 5) nd rfl (Or.inl rfl) (pr_call c_law_of (hr.mono (by decide)) rfl (pad_cons (pr_var (pv 0)) (pad_cons (pr_lst (pad_cons pr_int (pad_cons pr_int (pad_cons pr_int (pad_cons pr_int (pad_cons pr_int (pad_cons pr_int (pad_cons pr_int pad_nil)))))))) pad_nil)))) (ssd_one (sd_if (pt_le (PRd.e (pr_mul (pd_var (pv 3)) (pd_var (pv 5)))) (pd_var (pv 1))) (ssd_cons (sd_app (pv 2) (px_of (pr_var (pv 5)))) (ssd_one (sd_set (i := 3) nd rfl (Or.inl rfl) (pr_mul (pd_var (pv 3)) (pd_var (pv 5)))))) ssd_nil)))) (ssd_fz 2 (ssd_fz 2 (ssd_one (sd_ret (pr_if (pt_neD hr (pd_var (pv 2)) (PRd.e (pr_lst pad_nil))) (pr_var (pv 2)) (pr_lst (pad_cons pr_int pad_nil))))))))))
   (fun W ds K h => by
    obtain ⟨a, rfl, hs, z⟩ := h
    simp only [sRet, dCB, vCons, vNil, d2, sSeq, sSet]
    refine ⟨(by simp), rfl, ?_⟩
    refine ⟨_, rfl, _, rfl, _, rfl, _, rfl, _, rfl, _, rfl, _, rfl, _, rfl, _, rfl, (by simp), _, rfl, a, _, rfl, hs, (by simp), (by simp), fun x hx => ?_⟩
    obtain ⟨m, rfl, m1, m2⟩ := small7 (.inl hx)
    refine ⟨_, rfl, by omega, by omega, fun i ρ => ∃ (found : List Nat) (x4 x5 : Sd), ρ = [.d (.ref a), .d (.int 24), .ol ((natsI found).map .int), .d (.int ((allR found).length : Nat)), x4, x5] ∧ found.length ≤ i ∧ (∀ s ∈ found, 1 ≤ s ∧ s ≤ 4) ∧ ∀ j, (allR (found.take j)).length ≤ 24, ⟨[], _, _, rfl, Nat.le_refl 0, fun s hs => by simp at hs, fun j => by simp [allR]⟩, ?_, ?_⟩
    · rintro i x ρ hx1 ⟨found, x4, x5, rfl, f1, f2, f3⟩
      refine ⟨_, rfl, _, rfl, _, rfl, _, rfl, _, rfl, _, rfl, _, rfl, _, rfl, _, rfl, (by simp), _, rfl, a, _, rfl, hs, (by simp), (by simp), fun x hx => ?_⟩
      obtain ⟨s, rfl, s1, s2⟩ := small7 (.inr hx)
      have r24 := f3 found.length
      rw [List.take_length] at r24
      refine ⟨_, rfl, nofun, _, rfl, nofun, _, _, rfl, rfl, .inl ⟨by omega, by omega⟩, _, rfl, nofun, _, _, rfl, rfl, _, rfl, fun hb => ?_, fun hb => ?_⟩
      · have hb' : (((allR found).length : Nat) : Int) * (s : Nat) ≤ 24 := of_decide_eq_true hb
        have hb2 : (allR found).length * s ≤ 24 := by
          have : (((allR found).length * s : Nat) : Int) ≤ 24 := by rw [Int.natCast_mul]; exact hb'
          omega
        have hi : i < m := by
          have := (List.getElem?_eq_some_iff.mp hx1).1
          rw [rangeD_len] at this
          omega
        refine ⟨⟨_, rfl⟩, _, rfl, _, rfl, (natsI found).map .int, rfl, by simp [natsI]; omega, _, rfl, nofun, _, rfl, nofun, _, _, rfl, rfl, .inl ⟨by omega, by omega⟩, found ++ [s], .d x, .d (.int (s : Nat)), ?_, by simp; omega, ?_, ?_⟩
        · rw [allR_app, Int.natCast_mul]
          unfold natsI
          rw [List.map_append, List.map_append]
          rfl
        · intro t ht
          rcases List.mem_append.mp ht with q | q
          · exact f2 t q
          · rw [List.mem_singleton.mp q]; exact ⟨s1, s2⟩
        · intro j
          by_cases hj : j ≤ found.length
          · rw [List.take_append_of_le_length hj]; exact f3 j
          · rw [List.take_of_length_le (by simp; omega), allR_app]; exact hb2
      · exact ⟨found, _, _, rfl, by omega, f2, f3⟩
    · rintro ρ ⟨found, x4, x5, rfl, f1, f2, f3⟩
      have hfl : flatL 8 ((natsI found).map D.int) = true := flatL_ints _ _
      refine ⟨_, rfl, nofun, (by simp), _, _, rfl, rfl, hfl, rfl, _, rfl, fun hb => ⟨_, rfl, _, rfl, z found ⟨?_, ?_, f2, f3⟩⟩, fun hb => ⟨_, rfl, (by simp), _, rfl, z [2] ⟨by simp, by simp, fun s hs => ?_, fun i => ?_⟩⟩⟩
      · rw [eqv_nilL] at hb
        intro e
        subst e
        simp [natsI] at hb
      · rw [rangeD_len] at f1
        omega
      · rw [List.mem_singleton.mp hs]; decide
      · cases i with
        | zero => decide
        | succ i => simp; decide)
end
end DL
namespace DL
open PySem PySem.Spec L2 Tx
section
variable {P : Program} {w : World} {K : PySem.W.Frag} {mg : Str → Option Value} {base : Heap}
def stV (sizes : List Nat) (S : List Row) : D := .tup [.lst ((natsI sizes).map .int), .lst (rowsD S)]
theorem store_tail {W : Amb} {a : Addr} {sizes : List Nat} {S : List Row} {KK : DE} {ρ : List Sd} (h0 : ρ[0]? = some (.d (.ref a))) (h2 : ρ[2]? = some (.d (.lst ((natsI sizes).map .int)))) (h3 : ρ[3]? = some (.d (.lst (rowsD (allR sizes)))))
    (h8 : ρ[8]? = some (.d (.lst (rowsD S)))) (hS : S.Sublist (allR sizes)) (hne : allR sizes ≠ []) (hl : (allR sizes).length ≤ 24) (hs : HasDl W a) (z : ∀ S : List Row, S ≠ [] → S.Sublist (allR sizes) → KK.rt (stV sizes S)) :
    sRet (dTup (dCons (dVar 2) (dCons (dIf (dT2 gNeD (dVarE 8) (dLst dNil)) (dVar 8) (dLst (dCons (dCall W s_law_of (dCons (dVar 0) (dCons (dVar 3) dNil))) dNil))) dNil))) KK ρ := by
  refine ⟨_, h2, _, rfl, _, h8, nofun, (by simp), _, _, rfl, rfl, flatL_rows _ _, rfl, _, rfl, fun hb => ?_, fun hb => ?_⟩
  · refine ⟨_, h8, _, rfl, by simp, _, rfl, z S (fun e => ?_) hS⟩
    subst e
    cases hb
  · refine ⟨_, h0, _, rfl, _, h3, _, rfl, a, _, rfl, hs, (fun e => hne (by simpa [rowsD] using e)), (by rw [rowsD_len]; omega), fun x hx => ?_⟩
    obtain ⟨r, hr, rfl⟩ := mem_rowsD hx
    exact ⟨_, rfl, by simp, _, rfl, by simp, _, rfl, z [r] (by simp) (List.singleton_sublist.mpr hr)⟩
theorem seqI {p q : RS} {K : DE} {ρ : List Sd} (h : ∀ KK : DE, KK.rt = K.rt → (∀ ρ', q K ρ' → KK.nx ρ') → p KK ρ) : sSeq p q K ρ := h { K with nx := fun ρ' => q K ρ' } rfl fun _ h => h
theorem fz8 {KK : DE} {ρ : List Sd} (h : KK.nx (fzAt 8 ρ)) : sFz 8 sNext KK ρ := h
theorem uFz {i : Nat} {p : RS} {K : DE} {ρ : List Sd} (h : p K (fzAt i ρ)) : sFz i p K ρ := h
theorem both {K' : Bool → Prop} (k1 : K' true) (k2 : K' false) : ∀ b, K' b
  | true => k1
  | false => k2
theorem sum_nats : ∀ l : List Nat, (∀ s ∈ l, 1 ≤ s ∧ s ≤ 4) → (l.length : Int) ≤ (natsI l).sum ∧ (natsI l).sum ≤ 4 * (l.length : Int)
  | [], _ => by simp [natsI]
  | x :: l, h => by
    have q := sum_nats l fun s hs => h s (List.mem_cons_of_mem _ hs)
    have hx := h x List.mem_cons_self
    have e : (natsI (x :: l)).sum = (x : Int) + (natsI l).sum := by simp [natsI]
    rw [e, List.length_cons]
    omega
theorem allR_ne : ∀ l : List Nat, (∀ s ∈ l, 1 ≤ s) → allR l ≠ [] := by
  intro l
  induction hk : l.length generalizing l with
  | zero => intro _; rw [List.eq_nil_of_length_eq_zero hk]; simp [allR]
  | succ n ih =>
    intro h
    have hne : l ≠ [] := fun e => by rw [e] at hk; simp at hk
    obtain ⟨l', s, rfl⟩ : ∃ l' s, l = l' ++ [s] := ⟨l.dropLast, l.getLast hne, (List.dropLast_concat_getLast hne).symm⟩
    have q := ih l' (by simpa using hk) fun t ht => h t (List.mem_append_left _ ht)
    have hs := h s (by simp)
    intro e
    have e2 := congrArg List.length e
    rw [allR_app, List.length_nil] at e2
    rcases Nat.mul_eq_zero.mp e2 with z | z
    · exact q (List.eq_nil_of_length_eq_zero z)
    · omega
theorem key_at {sizes : List Nat} {r : Row} (hr : r ∈ allR sizes) {k : Nat} (hk : k < sizes.length) : ∃ v : Int, L2.atI (r.map D.int) (k : Int) = some (.int v) := by
  have := (allR_row r hr).1
  exact ⟨_, ints_at (by omega)⟩
theorem cut_ints (r : Row) (lo hi : Option Int) : cutG (r.map D.int) lo hi = (cutG r lo hi).map .int := by
  unfold cutG
  rw [List.map_take, List.map_drop, List.length_map]
theorem zip_mem {a b : D} : ∀ {xs ys : List D}, .tup [a, b] ∈ zipD xs ys → a ∈ xs ∧ b ∈ ys
  | [], _, h => by simp [zipD] at h
  | _ :: _, [], h => by simp [zipD] at h
  | x :: xs, y :: ys, h => by
    rcases List.mem_cons.mp (show .tup [a, b] ∈ D.tup [x, y] :: zipD xs ys from h) with e | e
    · injection e with e
      injection e with e1 e
      injection e with e2 e
      exact ⟨by simp [e1], by simp [e2]⟩
    · have q := zip_mem e
      exact ⟨List.mem_cons_of_mem _ q.1, List.mem_cons_of_mem _ q.2⟩
theorem zip_pair {x : D} : ∀ {xs ys : List D}, x ∈ zipD xs ys → ∃ a b, x = .tup [a, b]
  | [], _, h => by simp [zipD] at h
  | _ :: _, [], h => by simp [zipD] at h
  | y :: xs, z :: ys, h => by
    rcases List.mem_cons.mp (show x ∈ D.tup [y, z] :: zipD xs ys from h) with e | e
    · exact ⟨y, z, e⟩
    · exact zip_pair e
theorem zip_len (xs ys : List D) : (zipD xs ys).length ≤ xs.length := by
  unfold zipD
  rw [List.length_zipWith]; omega
theorem enum_pair {x : D} {rows : List Row} (h : x ∈ enumD (rowsD rows)) : ∃ (i : Nat) (s : Row), x = .tup [.int (i : Nat), .ints s] := by
  obtain ⟨i, hi⟩ := List.getElem?_of_mem h
  obtain ⟨s, _, e⟩ := enum_at hi
  exact ⟨i, s, e⟩
theorem mem_cutG {α : Type} {xs : List α} {lo hi : Option Int} {x : α} (h : x ∈ cutG xs lo hi) : x ∈ xs := List.mem_of_mem_drop (List.mem_of_mem_take h)
section
variable {pi : RI} {is : List Nat} {tg : D → List D → Prop} {pt : RT} {pe pb pc : RE} {ρ : List Sd} {q : RQ} {K : List Sd → Prop} {Kb : Bool → Prop}
theorem uQLc (h : dLc pi is tg pt pe ρ fun s => q ρ fun ss => K (s :: ss)) : qCons (dLc pi is tg pt pe) q ρ K := h
theorem uModLc (h : dLc pi is tg pt pe ρ fun s => gSum [s] fun s1 => gInt [s1] fun sx => pb ρ fun sy => gMod sx sy fun s2 => pc ρ fun sz => gEqS s2 sz fun s => ∃ b, s = .d (.bl b) ∧ Kb b) : dT2 gEqS (d2 gMod (dCB gInt (vCons (dCB gSum (vCons (dLc pi is tg pt pe) vNil)) vNil)) pb) pc ρ Kb := h
end
def s_law_store : DSpec := fun W ds Q => ∃ a : Addr, ds = [.ref a, .int 24] ∧ HasDl W a ∧ ∀ (sizes : List Nat) (S : List Row), SizesOk sizes → S ≠ [] → S.Sublist (allR sizes) → Q (stV sizes S)
theorem sc_law_store : FnScope ["_law_deal", "_law_most", "_law_sizes_here", "_law_rows", "_law_form", "_law_many", "_law_keys", "_law_total", "_law_states", "_law_row", "_law_low", "_law_high", "_law_one", "_law_other", "_law_p", "_law_q", "_law_prime", "_law_weights", "_law_key", "_law_w", "_law_x", "_law_part", "_law_kept", "_law_at"] ["_law_deal", "_law_most"] (defScope f_law_store) := ⟨rfl, rfl, rfl, by decide +kernel, rfl, by decide +kernel, by decide +kernel⟩
theorem c_law_store (ft : Fts mg) (c_law_all : Cl P w K mg base 2 "_law_all" 1 s_law_all) (c_law_any : Cl P w K mg base 2 "_law_any" 2 s_law_any) (c_law_of : Cl P w K mg base 3 "_law_of" 2 s_law_of) (c_law_sizes : Cl P w K mg base 4 "_law_sizes" 2 s_law_sizes) (d : DF K mg "_law_store" f_law_store) : Cl P w K mg base 5 "_law_store" 2 s_law_store :=
  cl_of (k := 4) d sc_law_store rfl (fun _ _ _ _ _ _ us hl => match us, hl with | [_, _], _ => rfl) (fun W ds K h => by obtain ⟨_, e, _⟩ := h; rw [e]; rfl) (fun a W cdv A outer s H E hr =>
  have nd := sc_law_store.nd
  (ssd_cons (sd_set (i := 2) nd rfl (Or.inr rfl) (pr_call c_law_sizes (hr.mono (by decide)) rfl (pad_cons (pr_var (pv 0)) (pad_cons (pr_var (pv 1)) pad_nil)))) (ssd_cons (sd_par (i := 3) (j := 4) rfl nd rfl rfl (by decide) rfl rfl (pqd_cons (pr_call c_law_all (hr.mono (by decide)) rfl (pad_cons (pr_var (pv 2)) pad_nil)) (pqd_cons (pr_call c_law_any (hr.mono (by decide)) rfl (pad_cons (pr_var (pv 0)) (pad_cons pr_int pad_nil))) pqd_nil)) rfl) (ssd_cons (sd_tupG (is := [5, 6]) rfl (pgs_cons (pg_name (i := 5) nd rfl (Or.inr rfl)) (pgs_cons (pg_name (i := 6) nd rfl (Or.inl rfl)) pgs_nil)) (pqd_cons (pr_len rfl ft.m_len (pd_var (pv 2))) (pqd_cons (pr_listRg (pos2 := ⟨0, 0, 0, 0⟩) rfl rfl ft.m_list rfl ft.m_range (PRd.e (pr_len rfl ft.m_len (pd_var (pv 2))))) pqd_nil)) (by decide)) (ssd_fz 6 (ssd_cons (sd_if (pt_eqS (pd_var (pv 4)) (PRd.e pr_int)) (ssd_one (sd_ret (pr_tup (pad_cons (pr_var (pv 2)) (pad_cons (pr_var (pv 3)) pad_nil))))) ssd_nil) (ssd_cons (sd_if (pt_eqS (pd_var (pv 4)) (PRd.e pr_int)) (ssd_cons (sd_set (i := 7) nd rfl (Or.inr rfl) (pr_call c_law_any (hr.mono (by decide)) rfl (pad_cons (pr_var (pv 0)) (pad_cons (pr_add (PRd.e (pr_sub (PRd.e (pr_sum rfl rfl ft.m_sum (pd_var (pv 2)))) (pd_var (pv 5)))) (PRd.e pr_int)) pad_nil)))) (ssd_cons (sd_setLc (i := 9) (n := 8) rfl nd rfl rfl (sw_true rfl rfl rfl rfl) (id_ss (pr_var (pv 3))) (bok (own := [("_law_row", 9)]) rfl) (fun _ _ _ _ _ => pg_name (i := 9) nd rfl (Or.inl rfl)) (fun _ _ _ _ _ => ptsd_one (pt_eqS (PRd.e (pr_sum rfl rfl ft.m_sum (pd_var (pv 9)))) (pd_var (pv 7)))) (fun _ _ _ _ _ => (pr_var (pv 9)))) (ssd_fz 8 ssd_nil))) (ssd_one (sd_if (pt_eqS (pd_var (pv 4)) (PRd.e pr_int)) (ssd_cons (sd_set (i := 10) nd rfl (Or.inr rfl) (pr_call c_law_any (hr.mono (by decide)) rfl (pad_cons (pr_var (pv 0)) (pad_cons (pr_add (PRd.e (pr_sub (PRd.e (pr_sum rfl rfl ft.m_sum (pd_var (pv 2)))) (pd_var (pv 5)))) (PRd.e pr_int)) pad_nil)))) (ssd_cons (sd_set (i := 11) nd rfl (Or.inr rfl) (pr_add (PRd.e (pr_add (pd_var (pv 10)) (PRd.e pr_int))) (PRd.e (pr_call c_law_any (hr.mono (by decide)) rfl (pad_cons (pr_var (pv 0)) (pad_cons pr_int pad_nil)))))) (ssd_cons (sd_setLc (i := 9) (n := 8) rfl nd rfl rfl (sw_true rfl rfl rfl rfl) (id_ss (pr_var (pv 3))) (bok (own := [("_law_row", 9)]) rfl) (fun _ _ _ _ _ => pg_name (i := 9) nd rfl (Or.inl rfl)) (fun _ _ _ _ _ => ptsd_one (pt_leLe (pd_var (pv 10)) (PRd.e (pr_sum rfl rfl ft.m_sum (pd_var (pv 9)))) (pd_var (pv 11)))) (fun _ _ _ _ _ => (pr_var (pv 9)))) (ssd_fz 8 ssd_nil)))) (ssd_one (sd_if (pt_eqS (pd_var (pv 4)) (PRd.e pr_int)) (ssd_cons (sd_tupG (is := [12, 13, 14, 15]) rfl (pgs_cons (pg_name (i := 12) nd rfl (Or.inr rfl)) (pgs_cons (pg_name (i := 13) nd rfl (Or.inr rfl)) (pgs_cons (pg_name (i := 14) nd rfl (Or.inr rfl)) (pgs_cons (pg_name (i := 15) nd rfl (Or.inr rfl)) pgs_nil)))) (pqd_cons (pr_call c_law_of (hr.mono (by decide)) rfl (pad_cons (pr_var (pv 0)) (pad_cons (pr_var (pv 6)) pad_nil))) (pqd_cons (pr_call c_law_of (hr.mono (by decide)) rfl (pad_cons (pr_var (pv 0)) (pad_cons (pr_var (pv 6)) pad_nil))) (pqd_cons (pr_add (PRd.e pr_int) (PRd.e (pr_call c_law_any (hr.mono (by decide)) rfl (pad_cons (pr_var (pv 0)) (pad_cons pr_int pad_nil))))) (pqd_cons (pr_add (PRd.e pr_int) (PRd.e (pr_call c_law_any (hr.mono (by decide)) rfl (pad_cons (pr_var (pv 0)) (pad_cons pr_int pad_nil))))) pqd_nil)))) (by decide)) (ssd_cons (sd_setLc (i := 9) (n := 8) rfl nd rfl rfl (sw_true rfl rfl rfl rfl) (id_ss (pr_var (pv 3))) (bok (own := [("_law_row", 9)]) rfl) (fun _ _ _ _ _ => pg_name (i := 9) nd rfl (Or.inl rfl)) (fun _ _ _ _ _ => ptsd_one (PWd.t (pwd_or (pt_lt (PRd.e (pr_item (pd_var (pv 9)) (pd_var (pv 12)))) (pd_var (pv 14))) (pwd_or1 (pt_ge (PRd.e (pr_item (pd_var (pv 9)) (pd_var (pv 13)))) (PRd.e (pr_min2 rfl rfl ft.m_min (pd_var (pv 15)) (PRd.e (pr_sub (PRd.e (pr_item (pd_var (pv 2)) (pd_var (pv 13)))) (PRd.e pr_int)))))))))) (fun _ _ _ _ _ => (pr_var (pv 9)))) (ssd_fz 8 ssd_nil))) (ssd_one (sd_if (pt_eqS (pd_var (pv 4)) (PRd.e pr_int)) (ssd_cons (sd_tupG (is := [16, 17]) rfl (pgs_cons (pg_name (i := 16) nd rfl (Or.inr rfl)) (pgs_cons (pg_name (i := 17) nd rfl (Or.inr rfl)) pgs_nil)) (pqd_cons (pr_call c_law_of (hr.mono (by decide)) rfl (pad_cons (pr_var (pv 0)) (pad_cons (pr_lst (pad_cons pr_int (pad_cons pr_int (pad_cons pr_int pad_nil)))) pad_nil))) (pqd_cons (pr_lc (i := 18) rfl nd (id_ss (pr_var (pv 6))) (bok (own := [("_law_key", 18)]) rfl) (fun _ _ _ _ _ => pg_name (i := 18) nd rfl (Or.inl rfl)) (fun _ _ _ _ _ => ptsd_nil) (fun _ _ _ _ _ => (pr_call c_law_any (hr.mono (by decide)) rfl (pad_cons (pr_var (pv 0)) (pad_cons pr_int pad_nil))))) pqd_nil)) (by decide)) (ssd_fz 17 (ssd_cons (sd_setLc (i := 9) (n := 8) rfl nd rfl rfl (sw_true rfl rfl rfl rfl) (id_ss (pr_var (pv 3))) (bok (own := [("_law_row", 9)]) rfl) (fun _ _ _ _ _ => pg_name (i := 9) nd rfl (Or.inl rfl)) (fun _ _ _ _ _ => ptsd_one (pt_eqS (PRd.e (pr_mod (PRd.e (pr_intC rfl ft.m_int (PRd.e (pr_sum rfl rfl ft.m_sum (PRd.e (pr_lcP (i := 19) (j := 20) rfl nd (id_zz rfl ft.m_zip (pad_cons (pr_var (pv 17)) (pad_cons (pr_var (pv 9)) pad_nil))) (bok (own := [("_law_w", 19), ("_law_x", 20)]) rfl) (fun _ _ _ _ _ => pg_tup rfl (pgs_cons (pg_name (i := 19) nd rfl (Or.inl rfl)) (pgs_cons (pg_name (i := 20) nd rfl (Or.inl rfl)) pgs_nil))) (fun _ _ _ _ _ => ptsd_nil) (fun _ _ _ _ _ => (pr_mul (pd_var (pv 19)) (pd_var (pv 20)))))))))) (pd_var (pv 16)))) (PRd.e pr_int))) (fun _ _ _ _ _ => (pr_var (pv 9)))) (ssd_fz 8 ssd_nil)))) (ssd_one (sd_if (pt_eqS (pd_var (pv 4)) (PRd.e pr_int)) (ssd_cons (sd_tupG (is := [12, 13]) rfl (pgs_cons (pg_name (i := 12) nd rfl (Or.inr rfl)) (pgs_cons (pg_name (i := 13) nd rfl (Or.inr rfl)) pgs_nil)) (pqd_cons (pr_call c_law_of (hr.mono (by decide)) rfl (pad_cons (pr_var (pv 0)) (pad_cons (pr_var (pv 6)) pad_nil))) (pqd_cons (pr_call c_law_of (hr.mono (by decide)) rfl (pad_cons (pr_var (pv 0)) (pad_cons (pr_var (pv 6)) pad_nil))) pqd_nil)) (by decide)) (ssd_cons (sd_setLc (i := 9) (n := 8) rfl nd rfl rfl (sw_true rfl rfl rfl rfl) (id_ss (pr_var (pv 3))) (bok (own := [("_law_row", 9)]) rfl) (fun _ _ _ _ _ => pg_name (i := 9) nd rfl (Or.inl rfl)) (fun _ _ _ _ _ => ptsd_one (pt_eqS (PRd.e (pr_mod (PRd.e (pr_intC rfl ft.m_int (PRd.e (pr_sub (PRd.e (pr_item (pd_var (pv 9)) (pd_var (pv 12)))) (PRd.e (pr_item (pd_var (pv 9)) (pd_var (pv 13)))))))) (PRd.e pr_int))) (PRd.e pr_int))) (fun _ _ _ _ _ => (pr_var (pv 9)))) (ssd_fz 8 ssd_nil))) (ssd_one (sd_if (pt_eqS (pd_var (pv 4)) (PRd.e pr_int)) (ssd_cons (sd_setLc (i := 9) (n := 8) rfl nd rfl rfl (sw_true rfl rfl rfl rfl) (id_ss (pr_var (pv 3))) (bok (own := [("_law_row", 9)]) rfl) (fun _ _ _ _ _ => pg_name (i := 9) nd rfl (Or.inl rfl)) (fun _ _ _ _ _ => ptsd_one (pt_gt (PRd.e (pr_call c_law_any (hr.mono (by decide)) rfl (pad_cons (pr_var (pv 0)) (pad_cons pr_int pad_nil)))) (PRd.e pr_int))) (fun _ _ _ _ _ => (pr_var (pv 9)))) (ssd_fz 8 ssd_nil)) (ssd_one (sd_if (pt_eqS (pd_var (pv 4)) (PRd.e pr_int)) (ssd_cons (sd_setLc (i := 9) (n := 8) rfl nd rfl rfl (sw_true rfl rfl rfl rfl) (id_ss (pr_var (pv 3))) (bok (own := [("_law_row", 9)]) rfl) (fun _ _ _ _ _ => pg_name (i := 9) nd rfl (Or.inl rfl)) (fun _ _ _ _ _ => ptsd_one (pt_eqS (PRd.e (pr_call c_law_any (hr.mono (by decide)) rfl (pad_cons (pr_var (pv 0)) (pad_cons pr_int pad_nil)))) (PRd.e pr_int))) (fun _ _ _ _ _ => (pr_var (pv 9)))) (ssd_fz 8 ssd_nil)) (ssd_one (sd_if (pt_eqS (pd_var (pv 4)) (PRd.e pr_int)) (ssd_cons (sd_setLc (i := 9) (n := 8) rfl nd rfl rfl (sw_true rfl rfl rfl rfl) (id_ss (pr_var (pv 3))) (bok (own := [("_law_row", 9)]) rfl) (fun _ _ _ _ _ => pg_name (i := 9) nd rfl (Or.inl rfl)) (fun _ _ _ _ _ => ptsd_one (pt_eqS (PRd.e (pr_call c_law_any (hr.mono (by decide)) rfl (pad_cons (pr_var (pv 0)) (pad_cons pr_int pad_nil)))) (PRd.e pr_int))) (fun _ _ _ _ _ => (pr_var (pv 9)))) (ssd_fz 8 ssd_nil)) (ssd_cons (sd_set (i := 21) nd rfl (Or.inr rfl) (pr_lc (i := 9) rfl nd (id_ss (pr_var (pv 3))) (bok (own := [("_law_row", 9)]) rfl) (fun _ _ _ _ _ => pg_name (i := 9) nd rfl (Or.inl rfl)) (fun _ _ _ _ _ => ptsd_nil) (fun _ _ _ _ _ => (pr_slA (pd_var (pv 9)) pod_none (pod_some (PRd.e (pr_fdiv (pd_var (pv 5)) (PRd.e pr_int)))))))) (ssd_fz 21 (ssd_cons (sd_set (i := 22) nd rfl (Or.inr rfl) (pr_lcP (i := 23) (j := 12) rfl nd (id_ee rfl ft.m_enumerate (pad_cons (pr_var (pv 21)) pad_nil)) (bok (own := [("_law_at", 23), ("_law_one", 12)]) rfl) (fun _ _ _ _ _ => pg_tup rfl (pgs_cons (pg_name (i := 23) nd rfl (Or.inl rfl)) (pgs_cons (pg_name (i := 12) nd rfl (Or.inl rfl)) pgs_nil))) (fun _ _ _ _ _ => ptsd_one (PWd.t (pwd_and (pt_niD hr (pd_var (pv 12)) (PRd.e (pr_slA (pd_var (pv 21)) pod_none (pod_some (pd_var (pv 23)))))) (pwd_and1 (pt_gt (PRd.e (pr_call c_law_any (hr.mono (by decide)) rfl (pad_cons (pr_var (pv 0)) (pad_cons pr_int pad_nil)))) (PRd.e pr_int)))))) (fun _ _ _ _ _ => (pr_var (pv 12))))) (ssd_fz 22 (ssd_cons (sd_setLc (i := 9) (n := 8) rfl nd rfl rfl (sw_true rfl rfl rfl rfl) (id_ss (pr_var (pv 3))) (bok (own := [("_law_row", 9)]) rfl) (fun _ _ _ _ _ => pg_name (i := 9) nd rfl (Or.inl rfl)) (fun _ _ _ _ _ => ptsd_one (pt_inD hr (PRd.e (pr_slA (pd_var (pv 9)) pod_none (pod_some (PRd.e (pr_fdiv (pd_var (pv 5)) (PRd.e pr_int)))))) (pd_var (pv 22)))) (fun _ _ _ _ _ => (pr_var (pv 9)))) (ssd_fz 8 ssd_nil))))))))))))))))))))) (ssd_one (sd_ret (pr_tup (pad_cons (pr_var (pv 2)) (pad_cons (pr_if (pt_neD hr (pd_var (pv 8)) (PRd.e (pr_lst pad_nil))) (pr_var (pv 8)) (pr_lst (pad_cons (pr_call c_law_of (hr.mono (by decide)) rfl (pad_cons (pr_var (pv 0)) (pad_cons (pr_var (pv 3)) pad_nil))) pad_nil))) pad_nil))))))))))))
   (fun W ds K h => by
    obtain ⟨a, rfl, hs, z⟩ := h
    simp only [sRet, dCB, vCons, vNil, d2, sSeq, sSet]
    refine ⟨_, rfl, _, rfl, _, rfl, _, rfl, a, rfl, hs, fun sizes ok => ?_⟩
    have z2 := fun S h1 h2 => z sizes S ok h1 h2
    have hl : (allR sizes).length ≤ 24 := by have := ok.rows sizes.length; rwa [List.take_length] at this
    have hne := allR_ne sizes fun s hs => (ok.one s hs).1
    have hf := ok.few
    have hp : 0 < sizes.length := List.length_pos_iff.mpr ok.ne
    have hsum := sum_nats sizes ok.one
    have hzr : (allR sizes).length ≤ 100000 := by omega
    refine ⟨_, rfl, _, rfl, sizes, rfl, fun i => ?_, fun s h => ?_, by omega, ?_⟩
    · have := ok.rows i; omega
    · have := ok.one s h; omega
    refine ⟨_, rfl, _, rfl, _, rfl, a, _, rfl, hs, by decide, by decide, fun form f0 f1 => ?_⟩
    refine ⟨rfl, ?_⟩
    refine ⟨_, rfl, nofun, _, _, rfl, rfl, _, rfl, nofun, _, _, rfl, rfl, _, rfl, by simp [natsI], by simp [natsI]; omega, rfl, ?_⟩
    have el : ((natsI sizes).map D.int).length = sizes.length := by simp [natsI]
    rw [el]
    rw [Int.toNat_natCast]
    have hkn : rangeD 0 sizes.length ≠ [] := fun e => by have := congrArg List.length e; rw [rangeD_len, List.length_nil] at this; omega
    have hkl : (rangeD 0 sizes.length).length ≤ 100000 := by rw [rangeD_len]; omega
    -- form 0
    refine ⟨_, rfl, nofun, _, _, _, rfl, rfl, rfl, _, rfl, fun hb => ?_, fun hb => ?_⟩
    · exact ⟨_, rfl, _, rfl, _, rfl, _, rfl, by simp, _, rfl, z2 _ hne (List.Sublist.refl _)⟩
    refine uNext ?_
    dsimp only
    refine seqI ?_
    intro KK _ T0
    have T : ∀ (ρ : List Sd) (sub : List Row), ρ[0]? = some (.d (.ref a)) → ρ[2]? = some (.d (.lst ((natsI sizes).map .int))) → ρ[3]? = some (.d (.lst (rowsD (allR sizes)))) → ρ[8]? = some (.d (.lst (rowsD sub))) → sub.Sublist (allR sizes) → KK.nx ρ := fun ρ sub h0 h2 h3 h8 hsub => T0 _ (store_tail (S := sub) h0 h2 h3 h8 hsub hne hl hs z2)
    clear T0
    change sIf _ _ _ KK [.d (.ref a), .d (.int 24), .d (.lst ((natsI sizes).map .int)), .d (.lst (rowsD (allR sizes))), .d (.int form), .d (.int (sizes.length : Nat)), .d (.lst (rangeD 0 sizes.length)), .any, .any, .any, .any, .any, .any, .any, .any, .any, .any, .any, .any, .any, .any, .any, .any, .any]
    -- form 1
    refine ⟨_, rfl, nofun, _, _, _, rfl, rfl, rfl, _, rfl, fun hb => ?_, fun hb => ?_⟩
    · refine ⟨_, rfl, _, rfl, _, rfl, nofun, _, _, rfl, rfl, _, rfl, nofun, _, _, rfl, rfl, _, _, rfl, rfl, _, rfl, a, _, rfl, hs, by omega, by omega, fun t t0 t1 => ?_⟩
      refine uNext ?_
      dsimp only
      refine uSetLc ?_
      refine lcSub (allR sizes) (fun K' h' => ⟨_, rfl, _, _, rfl, rfl, h'⟩) hzr (fun r hr K' k1 k2 => ?_) (fun x => rfl) fun sub hsub => ?_
      · refine ⟨_, rfl, nofun, _, r, rfl, rfl, _, rfl, nofun, _, _, _, rfl, rfl, rfl, _, rfl, ?_⟩
        exact both k1 k2 _
      · exact fz8 (T _ sub rfl rfl rfl rfl hsub)
    -- form 2
    refine ⟨_, rfl, nofun, _, _, _, rfl, rfl, rfl, _, rfl, fun hb => ?_, fun hb => ?_⟩
    · refine ⟨_, rfl, _, rfl, _, rfl, nofun, _, _, rfl, rfl, _, rfl, nofun, _, _, rfl, rfl, _, _, rfl, rfl, _, rfl, a, _, rfl, hs, by omega, by omega, fun t t0 t1 => ?_⟩
      refine ⟨_, rfl, nofun, _, _, rfl, rfl, _, rfl, _, rfl, _, rfl, a, _, rfl, hs, by decide, by decide, fun u u0 u1 => ⟨_, _, rfl, rfl, ?_⟩⟩
      refine uNext ?_
      dsimp only
      refine uSetLc ?_
      refine lcSub (allR sizes) (fun K' h' => ⟨_, rfl, _, _, rfl, rfl, h'⟩) hzr (fun r hr K' k1 k2 => ?_) (fun x => rfl) fun sub hsub => ?_
      · refine ⟨_, rfl, nofun, _, rfl, nofun, _, r, rfl, rfl, _, _, rfl, rfl, _, rfl, fun c => ⟨_, rfl, nofun, _, _, rfl, rfl, _, rfl, ?_⟩, fun c => ⟨_, rfl, k2⟩⟩
        exact both k1 k2 _
      · exact fz8 (T _ sub rfl rfl rfl rfl hsub)
    -- form 3
    refine ⟨_, rfl, nofun, _, _, _, rfl, rfl, rfl, _, rfl, fun hb => ?_, fun hb => ?_⟩
    · refine ⟨_, rfl, _, rfl, _, rfl, _, rfl, a, _, rfl, hs, hkn, hkl, fun x hx => ?_⟩
      obtain ⟨i1, hi1, rfl⟩ := mem_range0 hx
      refine ⟨_, rfl, _, rfl, _, rfl, _, rfl, a, _, rfl, hs, hkn, hkl, fun x hx => ?_⟩
      obtain ⟨i2, hi2, rfl⟩ := mem_range0 hx
      refine ⟨_, rfl, _, rfl, _, rfl, a, _, rfl, hs, by decide, by decide, fun u u0 u1 => ⟨_, _, rfl, rfl, ?_⟩⟩
      refine ⟨_, rfl, _, rfl, _, rfl, a, _, rfl, hs, by decide, by decide, fun v v0 v1 => ⟨_, _, rfl, rfl, rfl, ?_⟩⟩
      refine uNext ?_
      dsimp only
      refine uSetLc ?_
      refine lcSub (allR sizes) (fun K' h' => ⟨_, rfl, _, _, rfl, rfl, h'⟩) hzr (fun r hr K' k1 k2 => ?_) (fun x => rfl) fun sub hsub => ?_
      · obtain ⟨x1, hx1⟩ := key_at hr hi1
        obtain ⟨x2, hx2⟩ := key_at hr hi2
        have hx3 : L2.atI ((natsI sizes).map D.int) (i2 : Int) = some (.int ((natsI sizes)[i2]'(by simpa [natsI] using hi2))) := ints_at (by simpa [natsI] using hi2)
        refine ⟨_, rfl, nofun, _, rfl, nofun, _, _, _, rfl, rfl, hx1, _, rfl, nofun, _, _, rfl, rfl, _, rfl, fun c => k1, fun c => ?_⟩
        refine ⟨_, rfl, nofun, _, rfl, nofun, _, _, _, rfl, rfl, hx2, _, rfl, nofun, _, rfl, nofun, _, rfl, nofun, _, _, _, rfl, rfl, hx3, _, _, rfl, rfl, _, _, rfl, _, _, rfl, rfl, _, rfl, ?_⟩
        exact both k1 k2 _
      · exact fz8 (T _ sub rfl rfl rfl rfl hsub)
    refine ⟨_, rfl, nofun, _, _, _, rfl, rfl, rfl, _, rfl, fun hb => ?_, fun hb => ?_⟩
    · refine ⟨_, rfl, _, rfl, _, rfl, _, rfl, _, rfl, by simp, _, rfl, a, _, rfl, hs, by simp, by simp, fun x hx => ?_⟩
      obtain ⟨m, rfl, m0⟩ : ∃ m : Int, x = .int m ∧ 0 < m := by
        simp at hx
        rcases hx with h | h
        · exact ⟨2, h, by decide⟩
        · exact ⟨3, h, by decide⟩
      refine uQLc ?_
      refine lcG1 (xs := rangeD 0 sizes.length) (fun d => ∃ i : Int, d = .int i ∧ (0 ≤ i ∧ i < 3)) (fun K' h' => ⟨_, rfl, _, _, rfl, rfl, h'⟩) hkl (fun x hx K' k' => ⟨_, rfl, _, rfl, _, rfl, a, _, rfl, hs, by decide, by decide, fun u u0 u1 => k' _ _ rfl ⟨u, rfl, u0, u1⟩⟩) fun acc hacc hal => ?_
      obtain ⟨ws, rfl, hws⟩ := ints_of hacc
      refine ⟨rfl, ?_⟩
      refine uNext ?_
      dsimp only
      refine uSetLc ?_
      refine lcSub (allR sizes) (fun K' h' => ⟨_, rfl, _, _, rfl, rfl, h'⟩) hzr (fun r hr K' k1 k2 => ?_) (fun x => rfl) fun sub hsub => ?_
      · refine uModLc ?_
        refine lcGP (xs := zipD (ws.map .int) (r.map .int)) (fun d => ∃ i : Int, d = .int i ∧ True) (fun K' h' => ⟨_, rfl, _, rfl, _, rfl, _, rfl, _, _, _, _, rfl, rfl, rfl, h'⟩) ?_ (fun x hx => zip_pair hx) (fun p q hx K' q1 q2 => q1) (fun p q hx K' k' => ?_) fun acc hacc _ => ?_
        · have h1 := zip_len (ws.map D.int) (r.map D.int)
          rw [rangeD_len] at hal
          omega
        · obtain ⟨h1, h2⟩ := zip_mem hx
          obtain ⟨i, hi, rfl⟩ := List.mem_map.mp h1
          obtain ⟨j, hj, rfl⟩ := List.mem_map.mp h2
          have := hws i hi
          exact ⟨_, rfl, nofun, _, rfl, nofun, i, j, rfl, rfl, .inl ⟨by omega, by omega⟩, k' _ _ rfl ⟨_, rfl, trivial⟩⟩
        · obtain ⟨ps, rfl, _⟩ := ints_of hacc
          refine ⟨_, ps, rfl, rfl, _, rfl, _, rfl, nofun, _, _, rfl, rfl, m0, _, _, _, rfl, rfl, rfl, _, rfl, ?_⟩
          exact both k1 k2 _
      · exact fz8 (T _ sub rfl rfl rfl rfl hsub)
    refine ⟨_, rfl, nofun, _, _, _, rfl, rfl, rfl, _, rfl, fun hb => ?_, fun hb => ?_⟩
    · refine ⟨_, rfl, _, rfl, _, rfl, _, rfl, a, _, rfl, hs, hkn, hkl, fun x hx => ?_⟩
      obtain ⟨i1, hi1, rfl⟩ := mem_range0 hx
      refine ⟨_, rfl, _, rfl, _, rfl, _, rfl, a, _, rfl, hs, hkn, hkl, fun x hx => ?_⟩
      obtain ⟨i2, hi2, rfl⟩ := mem_range0 hx
      refine ⟨rfl, ?_⟩
      refine uNext ?_
      dsimp only
      refine uSetLc ?_
      refine lcSub (allR sizes) (fun K' h' => ⟨_, rfl, _, _, rfl, rfl, h'⟩) hzr (fun r hr K' k1 k2 => ?_) (fun x => rfl) fun sub hsub => ?_
      · obtain ⟨x1, hx1⟩ := key_at hr hi1
        obtain ⟨x2, hx2⟩ := key_at hr hi2
        refine ⟨_, rfl, nofun, _, rfl, nofun, _, _, _, rfl, rfl, hx1, _, rfl, nofun, _, rfl, nofun, _, _, _, rfl, rfl, hx2, _, _, rfl, rfl, _, rfl, _, _, rfl, rfl, (show (0 : Int) < 2 by decide), _, _, _, rfl, rfl, rfl, _, rfl, ?_⟩
        exact both k1 k2 _
      · exact fz8 (T _ sub rfl rfl rfl rfl hsub)
    refine ⟨_, rfl, nofun, _, _, _, rfl, rfl, rfl, _, rfl, fun hb => ?_, fun hb => ?_⟩
    · refine uSetLc ?_
      refine lcSub (allR sizes) (fun K' h' => ⟨_, rfl, _, _, rfl, rfl, h'⟩) hzr (fun r hr K' k1 k2 => ?_) (fun x => rfl) fun sub hsub => ?_
      · refine ⟨_, rfl, _, rfl, _, rfl, a, _, rfl, hs, by decide, by decide, fun u u0 u1 => ⟨_, _, rfl, rfl, _, rfl, ?_⟩⟩
        exact both k1 k2 _
      · exact fz8 (T _ sub rfl rfl rfl rfl hsub)
    refine ⟨_, rfl, nofun, _, _, _, rfl, rfl, rfl, _, rfl, fun hb => ?_, fun hb => ?_⟩
    · refine uSetLc ?_
      refine lcSub (allR sizes) (fun K' h' => ⟨_, rfl, _, _, rfl, rfl, h'⟩) hzr (fun r hr K' k1 k2 => ?_) (fun x => rfl) fun sub hsub => ?_
      · refine ⟨_, rfl, _, rfl, _, rfl, a, _, rfl, hs, by decide, by decide, fun u u0 u1 => ⟨_, _, _, rfl, rfl, rfl, _, rfl, ?_⟩⟩
        exact both k1 k2 _
      · exact fz8 (T _ sub rfl rfl rfl rfl hsub)
    refine ⟨_, rfl, nofun, _, _, _, rfl, rfl, rfl, _, rfl, fun hb => ?_, fun hb => ?_⟩
    · refine uSetLc ?_
      refine lcSub (allR sizes) (fun K' h' => ⟨_, rfl, _, _, rfl, rfl, h'⟩) hzr (fun r hr K' k1 k2 => ?_) (fun x => rfl) fun sub hsub => ?_
      · refine ⟨_, rfl, _, rfl, _, rfl, a, _, rfl, hs, by decide, by decide, fun u u0 u1 => ⟨_, _, _, rfl, rfl, rfl, _, rfl, ?_⟩⟩
        exact both k1 k2 _
      · exact fz8 (T _ sub rfl rfl rfl rfl hsub)
    refine uSetLc ?_
    refine lcG1 (xs := rowsD (allR sizes)) (fun d => ∃ r : Row, d = .ints r) (fun K' h' => ⟨_, rfl, _, _, rfl, rfl, h'⟩) (by rw [rowsD_len]; exact hzr) (fun x hx K' k' => ?_) fun acc hacc hal => ?_
    · obtain ⟨r, hr, rfl⟩ := mem_rowsD hx
      exact ⟨_, rfl, nofun, _, rfl, nofun, _, _, rfl, rfl, ⟨by decide, by decide⟩, _, rfl, .inr ⟨_, rfl, k' _ _ rfl ⟨_, by rw [cut_ints]⟩⟩⟩
    obtain ⟨parts, rfl⟩ := rows_of hacc
    rw [rowsD_len, rowsD_len] at hal
    refine uFz ?_
    refine uSetLc ?_
    refine lcGP (xs := enumD (rowsD parts)) (fun d => ∃ r : Row, d = .ints r) (fun K' h' => ⟨_, rfl, _, rfl, _, _, rfl, rfl, h'⟩) ?_ (fun x hx => ?_) (fun p q hx K' k1 k2 => ?_) (fun p q hx K' k' => ?_) fun acc hacc _ => ?_
    · unfold enumD
      rw [List.length_mapIdx, rowsD_len]; omega
    · obtain ⟨i, s, rfl⟩ := enum_pair hx
      exact ⟨_, _, rfl⟩
    · obtain ⟨i, s, e⟩ := enum_pair hx
      cases e
      refine ⟨_, rfl, nofun, _, rfl, nofun, _, rfl, nofun, _, rfl, .inl ⟨_, rfl, _, _, rfl, rfl, flat_ints' _ _, ?_, _, rfl, fun c => ?_, fun c => k2⟩⟩
      · exact flatL_iff.mpr fun y hy => flatL_iff.mp (flatL_rows parts 7) y (mem_cutG hy)
      · refine ⟨_, rfl, _, rfl, _, rfl, a, _, rfl, hs, by decide, by decide, fun u u0 u1 => ⟨_, _, rfl, rfl, _, rfl, ?_⟩⟩
        exact both k1 k2 _
    · obtain ⟨i, s, e⟩ := enum_pair hx
      cases e
      exact ⟨_, rfl, k' _ _ rfl ⟨s, rfl⟩⟩
    · obtain ⟨kept, rfl⟩ := rows_of hacc
      refine uFz ?_
      refine uSetLc ?_
      refine lcSub (allR sizes) (fun K' h' => ⟨_, rfl, _, _, rfl, rfl, h'⟩) hzr (fun r hr K' k1 k2 => ?_) (fun x => rfl) fun sub hsub => ?_
      · refine ⟨_, rfl, nofun, _, rfl, nofun, _, _, rfl, rfl, ⟨by decide, by decide⟩, _, rfl, .inr ⟨_, rfl, _, rfl, nofun, _, _, rfl, rfl, (by rw [cut_ints]; exact flat_ints' _ _), flatL_rows _ _, _, rfl, ?_⟩⟩
        exact both k1 k2 _
      · exact fz8 (T _ sub rfl rfl rfl rfl hsub))
end
end DL
namespace DL
open PySem PySem.Spec L2 Tx
section
variable {P : Program} {w : World} {K : PySem.W.Frag} {mg : Str → Option Value} {base : Heap}
theorem natsD_of {xs : List D} {n : Nat} (h : ∀ d ∈ xs, ∃ i, d = .int i ∧ (0 ≤ i ∧ i < (n : Int))) : ∃ ks : List Nat, xs = (natsI ks).map .int ∧ ∀ k ∈ ks, k < n := by
  induction xs with
  | nil => exact ⟨[], rfl, fun n hn => by simp at hn⟩
  | cons x xs ih =>
    obtain ⟨ns, e, hn⟩ := ih fun d hd => h d (List.mem_cons_of_mem _ hd)
    obtain ⟨i, e2, hi, hi2⟩ := h x List.mem_cons_self
    obtain ⟨j, rfl⟩ := Int.eq_ofNat_of_zero_le hi
    refine ⟨j :: ns, by rw [e, e2]; rfl, fun n h => ?_⟩
    rcases List.mem_cons.mp h with q | q
    · rw [q]; omega
    · exact hn n q
theorem lcG2 {pi : RI} {pe : RE} {ρ : List Sd} {K : Sd → Prop} {xs : List D} {i : Nat} (Pd : D → D → Prop) (hi : ∀ K' : List D → Prop, K' xs → pi ρ K') (hz : xs.length ≤ 100000)
    (he : ∀ x ∈ xs, ∀ K' : Sd → Prop, (∀ s d, s.frz = some d → Pd x d → K' s) → pe ((blk ρ [i]).set i (.d x)) K')
    (k : ∀ acc : List D, (∀ d ∈ acc, ∃ x ∈ xs, Pd x d) → (∀ x ∈ xs, ∃ d ∈ acc, Pd x d) → acc.length = xs.length → K (.ol acc)) : dLc pi [i] tgN dYes pe ρ K := by
  refine hi _ ⟨hz, fun n acc => (∀ d ∈ acc, ∃ x ∈ xs, Pd x d) ∧ (∀ (j : Nat) x, j < n → xs[j]? = some x → ∃ d ∈ acc, Pd x d) ∧ acc.length = n, ⟨fun d hd => by simp at hd, fun j x hj => absurd hj (Nat.not_lt_zero _), rfl⟩, fun n x ys acc hx ht iv => ?_, fun n x _ => ⟨[x], rfl⟩, fun acc iv => k acc iv.1 (fun x hx => ?_) iv.2.2⟩
  · rw [show ys = [x] from ht]
    have hm : x ∈ xs := List.mem_of_getElem? hx
    refine ⟨fun _ => he x hm _ fun s d hs hd => ⟨d, hs, fun e he => ?_, fun j y hj hy => ?_, ?_⟩, fun e => (by cases e)⟩
    · rcases List.mem_append.mp he with q | q
      · exact iv.1 e q
      · rw [List.mem_singleton.mp q]; exact ⟨x, hm, hd⟩
    · by_cases e : j = n
      · subst e
        rw [hx] at hy
        cases hy
        exact ⟨d, by simp, hd⟩
      · obtain ⟨d', h1, h2⟩ := iv.2.1 j y (by omega) hy
        exact ⟨d', List.mem_append_left _ h1, h2⟩
    · rw [List.length_append, iv.2.2]; rfl
  · obtain ⟨j, hj⟩ := List.getElem?_of_mem hx
    exact iv.2.1 j x (List.getElem?_eq_some_iff.mp hj).1 hj
theorem uSumLc {pi : RI} {is : List Nat} {tg : D → List D → Prop} {pt : RT} {pe : RE} {ρ : List Sd} {K : Sd → Prop} (h : dLc pi is tg pt pe ρ fun s => gSum [s] K) : dCB gSum (vCons (dLc pi is tg pt pe) vNil) ρ K := h
def s_law_question : DSpec := fun W ds Q => ∃ (a : Addr) (S : List Row) (dd : Nat), ds = [.ref a, .lst (rowsD S)] ∧ HasDl W a ∧ S ≠ [] ∧ (∀ s ∈ S, s.length = dd) ∧ dd ≤ 1000 ∧ S.length ≤ 1000 ∧ ∀ q : List Int, q.length = S.length → Q (.lst (q.map .int))
theorem sc_law_question : FnScope ["_law_deal", "_law_states", "_law_form", "_law_many", "_law_state", "_law_keys", "_law_key", "_law_seen", "_law_found", "_law_view"] ["_law_deal", "_law_states"] (defScope f_law_question) := ⟨rfl, rfl, rfl, by decide +kernel, rfl, by decide +kernel, by decide +kernel⟩
theorem c_law_question (ft : Fts mg) (c_law_any : Cl P w K mg base 2 "_law_any" 2 s_law_any) (c_law_of : Cl P w K mg base 3 "_law_of" 2 s_law_of) (d : DF K mg "_law_question" f_law_question) : Cl P w K mg base 4 "_law_question" 2 s_law_question :=
  cl_of (k := 3) d sc_law_question rfl (fun _ _ _ _ _ _ us hl => match us, hl with | [_, _], _ => rfl) (fun W ds K h => by obtain ⟨_, _, _, e, _⟩ := h; rw [e]; rfl) (fun a W cdv A outer s H E hr =>
  have nd := sc_law_question.nd
  (ssd_cons (sd_tupG (is := [2, 3]) rfl (pgs_cons (pg_name (i := 2) nd rfl (Or.inl rfl)) (pgs_cons (pg_name (i := 3) nd rfl (Or.inr rfl)) pgs_nil)) (pqd_cons (pr_call c_law_any (hr.mono (by decide)) rfl (pad_cons (pr_var (pv 0)) (pad_cons pr_int pad_nil))) (pqd_cons (pr_call c_law_of (hr.mono (by decide)) rfl (pad_cons (pr_var (pv 0)) (pad_cons (pr_lst (pad_cons pr_int (pad_cons pr_int (pad_cons pr_int (pad_cons pr_int (pad_cons pr_int pad_nil)))))) pad_nil))) pqd_nil)) (by decide)) (ssd_cons (sd_if (pt_eqS (pd_var (pv 2)) (PRd.e pr_int)) (ssd_one (sd_ret (pr_lc (i := 4) rfl nd (id_ss (pr_var (pv 1))) (bok (own := [("_law_state", 4)]) rfl) (fun _ _ _ _ _ => pg_name (i := 4) nd rfl (Or.inl rfl)) (fun _ _ _ _ _ => ptsd_nil) (fun _ _ _ _ _ => (pr_call c_law_any (hr.mono (by decide)) rfl (pad_cons (pr_var (pv 0)) (pad_cons (pr_var (pv 3)) pad_nil))))))) ssd_nil) (ssd_cons (sd_set (i := 5) nd rfl (Or.inr rfl) (pr_lc (i := 6) rfl nd (id_range1 rfl ft.m_range (pr_len rfl ft.m_len (PRd.e (pr_item (pd_var (pv 1)) (PRd.e pr_int))))) (bok (own := [("_law_key", 6)]) rfl) (fun _ _ _ _ _ => pg_name (i := 6) nd rfl (Or.inl rfl)) (fun _ _ _ _ _ => ptsd_one (pt_eqS (PRd.e (pr_call c_law_any (hr.mono (by decide)) rfl (pad_cons (pr_var (pv 0)) (pad_cons pr_int pad_nil)))) (PRd.e pr_int))) (fun _ _ _ _ _ => (pr_var (pv 6))))) (ssd_fz 5 (ssd_cons (sd_if (pt_eqS (pd_var (pv 2)) (PRd.e pr_int)) (ssd_one (sd_ret (pr_lc (i := 4) rfl nd (id_ss (pr_var (pv 1))) (bok (own := [("_law_state", 4)]) rfl) (fun _ _ _ _ _ => pg_name (i := 4) nd rfl (Or.inr rfl)) (fun _ _ _ _ _ => ptsd_nil) (fun _ _ _ _ _ => (pr_sum rfl rfl ft.m_sum (PRd.e (pr_lc (i := 6) rfl nd (id_ss (pr_var (pv 5))) (bok (own := [("_law_key", 6)]) rfl) (fun _ _ _ _ _ => pg_name (i := 6) nd rfl (Or.inl rfl)) (fun _ _ _ _ _ => ptsd_nil) (fun _ _ _ _ _ => (pr_item (pd_var (pv 4)) (pd_var (pv 6))))))))))) ssd_nil) (ssd_cons (sd_par (i := 7) (j := 8) rfl nd rfl rfl (by decide) rfl rfl (pqd_cons pr_dT (pqd_cons (pr_lst pad_nil) pqd_nil)) rfl) (ssd_cons (sd_for PassesOwn.never rfl (id_ss (pr_var (pv 1))) (gd_name (i := 4) nd rfl (Or.inr rfl)) (ssd_cons (sd_set (i := 9) nd rfl (Or.inl rfl) (pr_tuple rfl ft.m_tuple (PRd.e (pr_lc (i := 6) rfl nd (id_ss (pr_var (pv 5))) (bok (own := [("_law_key", 6)]) rfl) (fun _ _ _ _ _ => pg_name (i := 6) nd rfl (Or.inl rfl)) (fun _ _ _ _ _ => ptsd_nil) (fun _ _ _ _ _ => (pr_item (pd_var (pv 4)) (pd_var (pv 6)))))))) (ssd_cons (sd_if (pt_dni hr (pd_var (pv 9)) (pd_var (pv 7))) (ssd_one (sd_putT hr (pv 7) (pd_var (pv 9)) (pr_call c_law_any (hr.mono (by decide)) rfl (pad_cons (pr_var (pv 0)) (pad_cons (pr_var (pv 3)) pad_nil))))) ssd_nil) (ssd_one (sd_app (pv 8) (px_of (pr_dget hr (pd_var (pv 7)) (pd_var (pv 9))))))))) (ssd_fz 8 (ssd_one (sd_ret (pr_var (pv 8)))))))))))))
   (fun W ds K h => by
    obtain ⟨a, S, dd, rfl, hs, hne, hd, hdd, hl, z⟩ := h
    simp only [sRet, dCB, vCons, vNil, d2, sSeq, sSet]
    have hz : (rowsD S).length ≤ 100000 := by rw [rowsD_len]; omega
    refine ⟨_, rfl, _, rfl, _, rfl, a, _, rfl, hs, by decide, by decide, fun form f0 f1 => ?_⟩
    refine ⟨_, rfl, _, rfl, _, rfl, _, rfl, _, rfl, _, rfl, _, rfl, by simp, _, rfl, a, _, rfl, hs, by simp, by simp, fun x hx => ?_⟩
    obtain ⟨m, rfl, m0, m1⟩ : ∃ m : Int, x = .int m ∧ 0 < m ∧ m ≤ 9 := by
      simp at hx
      rcases hx with h | h | h | h
      · exact ⟨1, h, by decide, by decide⟩
      · exact ⟨2, h, by decide, by decide⟩
      · exact ⟨3, h, by decide, by decide⟩
      · exact ⟨9, h, by decide, by decide⟩
    refine ⟨rfl, ?_⟩
    refine uNext ?_
    dsimp only
    change sIf _ _ _ _ [.d (.ref a), .d (.lst (rowsD S)), .d (.int form), .d (.int m), .any, .any, .any, .any, .any, .any]
    refine ⟨_, rfl, nofun, _, _, _, rfl, rfl, rfl, _, rfl, fun hb => ?_, fun hb => ?_⟩
    · refine uRetLc ?_
      refine lcG1 (xs := rowsD S) (fun d => ∃ i : Int, d = .int i ∧ True) (fun K' h' => ⟨_, rfl, _, _, rfl, rfl, h'⟩) hz (fun x hx K' k' => ⟨_, rfl, _, rfl, _, rfl, _, rfl, a, _, rfl, hs, m0, by omega, fun r r0 r1 => k' _ _ rfl ⟨r, rfl, trivial⟩⟩) fun acc hacc hal => ?_
      obtain ⟨q, rfl, _⟩ := ints_of hacc
      exact ⟨_, rfl, z q (by simpa [rowsD] using hal)⟩
    refine uNext ?_
    dsimp only
    obtain ⟨s0, S', rfl⟩ : ∃ s0 S', S = s0 :: S' := by cases S with | nil => exact absurd rfl hne | cons s l => exact ⟨s, l, rfl⟩
    have h0 := hd s0 (by simp)
    refine lcG (xs := rangeD 0 dd) (fun d => ∃ i : Int, d = .int i ∧ (0 ≤ i ∧ i < dd)) (fun K' h' => ?_) (by rw [rangeD_len]; omega) (fun x hx K' k1 k2 => ?_) (fun x hx K' k' => ?_) fun acc hacc hal => ?_
    · have e : (((s0.map D.int).length : Nat) : Int).toNat = dd := by simp [h0]
      exact ⟨_, rfl, nofun, _, 0, .ints s0, rfl, rfl, atI_0, _, _, rfl, rfl, _, rfl, by simp <;> omega, by simp <;> omega, by rw [e]; exact h'⟩
    · exact ⟨_, rfl, _, rfl, _, rfl, a, _, rfl, hs, by decide, by decide, fun u u0 u1 => ⟨_, _, _, rfl, rfl, rfl, _, rfl, both k1 k2 _⟩⟩
    · obtain ⟨i, hi, rfl⟩ := mem_range0 hx
      exact ⟨_, rfl, k' _ _ rfl ⟨_, rfl, by omega, by omega⟩⟩
    obtain ⟨ks, rfl, hks⟩ := natsD_of hacc
    have hkl : ks.length ≤ 100000 := by
      rw [rangeD_len] at hal
      simp [natsI] at hal
      omega
    refine uFz ?_
    change sSeq _ _ _ [.d (.ref a), .d (.lst (rowsD (s0 :: S'))), .d (.int form), .d (.int m), .any, .d (.lst ((natsI ks).map .int)), .any, .any, .any, .any]
    refine ⟨_, rfl, nofun, _, _, _, rfl, rfl, rfl, _, rfl, fun hb => ?_, fun hb => ?_⟩
    · refine uRetLc ?_
      refine lcG1 (xs := rowsD (s0 :: S')) (fun d => ∃ i : Int, d = .int i ∧ True) (fun K' h' => ⟨_, rfl, _, _, rfl, rfl, h'⟩) hz (fun x hx K' k' => ?_) fun acc hacc hal => ?_
      · obtain ⟨s, hs1, rfl⟩ := mem_rowsD hx
        refine uSumLc ?_
        exact lcView s ks (fun K' h' => ⟨_, rfl, _, _, rfl, rfl, h'⟩) hkl (fun k hk => by rw [hd s hs1]; exact hks k hk) (fun _ => rfl) (fun _ => rfl) ⟨_, viewK s ks, rfl, rfl, k' _ _ rfl ⟨_, rfl, trivial⟩⟩
      · obtain ⟨q, rfl, _⟩ := ints_of hacc
        exact ⟨_, rfl, z q (by simpa [rowsD] using hal)⟩
    refine uNext ?_
    dsimp only
    refine ⟨by simp, rfl, ?_⟩
    refine ⟨_, rfl, _, _, rfl, rfl, fun i ρ => ∃ (kvs : List (Row × D)) (q : List Int) (x4 x9 : Sd), ρ = [.d (.ref a), .d (.lst (rowsD (s0 :: S'))), .d (.int form), .d (.int m), x4, .d (.lst ((natsI ks).map .int)), .any, .ot kvs, .ol (q.map .int), x9] ∧ q.length = i ∧ kvs.length ≤ i ∧ ∀ k d, dget kvs k = some d → ∃ i, d = .int i, ⟨[], [], _, _, rfl, rfl, Nat.le_refl 0, fun k d e => by cases e⟩, ?_, ?_⟩
    · rintro i x ρ hx ⟨kvs, q, x4, x9, rfl, q1, q2, q3⟩
      obtain ⟨s, hsi, rfl⟩ := rows_at hx
      have hsm := List.mem_of_getElem? hsi
      have hiS := (List.getElem?_eq_some_iff.mp hsi).1
      have hi1000 : i < 1000 := by omega
      refine uSetTuple (lcView s ks (fun K' h' => ⟨_, rfl, _, _, rfl, rfl, h'⟩) hkl (fun k hk => by rw [hd s hsm]; exact hks k hk) (fun _ => rfl) (fun _ => rfl) ⟨_, _, rfl, rfl, ?_⟩)
      change sSeq _ _ _ [.d (.ref a), .d (.lst (rowsD (s0 :: S'))), .d (.int form), .d (.int m), .d (.ints s), .d (.lst ((natsI ks).map .int)), .any, .ot kvs, .ol (q.map .int), .d (.ints (viewK s ks))]
      refine seqI ?_
      intro KK _ T
      have T2 : ∀ kvs' : List (Row × D), kvs'.length ≤ i + 1 → (∀ k d, dget kvs' k = some d → ∃ i, d = .int i) → (dget kvs' (viewK s ks)).isSome → KK.nx [.d (.ref a), .d (.lst (rowsD (s0 :: S'))), .d (.int form), .d (.int m), .d (.ints s), .d (.lst ((natsI ks).map .int)), .any, .ot kvs', .ol (q.map .int), .d (.ints (viewK s ks))] := by
        intro kvs' a1 a2 a3
        refine T _ ?_
        obtain ⟨y, hy⟩ := Option.isSome_iff_exists.mp a3
        obtain ⟨j, rfl⟩ := a2 _ _ hy
        refine ⟨⟨_, rfl⟩, _, rfl, nofun, _, rfl, nofun, kvs', viewK s ks, .int j, rfl, rfl, hy, _, rfl, q.map .int, rfl, by simp [q1]; omega, kvs', q ++ [j], _, _, by rw [List.map_append]; rfl, by simp [q1], a1, a2⟩
      refine ⟨_, rfl, nofun, _, rfl, nofun, kvs, viewK s ks, rfl, rfl, _, rfl, fun hb => ?_, fun hb => ?_⟩
      · have hn : dget kvs (viewK s ks) = none := by simpa using hb
        refine ⟨_, rfl, _, rfl, _, rfl, _, rfl, a, m, rfl, hs, m0, by omega, fun r r0 r1 => ⟨_, kvs, rfl, rfl, by omega, _, rfl, nofun, viewK s ks, rfl, ?_⟩⟩
        refine T2 (dput kvs (viewK s ks) (.int r)) (by have := dput_len kvs (viewK s ks) (.int r); omega) (fun k d e => ?_) (by rw [dget_dput, if_pos rfl]; rfl)
        rw [dget_dput] at e
        split at e
        · cases e; exact ⟨r, rfl⟩
        · exact q3 k d e
      · exact T2 kvs (by omega) q3 (by simpa using hb)
    · rintro ρ ⟨kvs, q, x4, x9, rfl, q1, q2, q3⟩
      exact ⟨_, rfl, _, rfl, z q (by rw [q1, rowsD_len])⟩)
def s_law_given : DSpec := fun W ds Q => ∃ (a : Addr) (S : List Row), ds = [.ref a, .lst (rowsD S)] ∧ HasDl W a ∧ S ≠ [] ∧ S.length ≤ 100 ∧ ∀ xs : List D, xs.length ≤ S.length + 1 → (∀ x ∈ xs, ∃ r ∈ S, x = .ints r ∨ x = .lst (r.map .int)) → (∀ r ∈ S, ∃ x ∈ xs, x.sq = some (r.map .int)) → Q (.lst xs)
theorem sc_law_given : FnScope ["_law_deal", "_law_rows", "_law_found", "_law_row"] ["_law_deal", "_law_rows"] (defScope f_law_given) := ⟨rfl, rfl, rfl, by decide +kernel, rfl, by decide +kernel, by decide +kernel⟩
theorem c_law_given (ft : Fts mg) (c_law_any : Cl P w K mg base 2 "_law_any" 2 s_law_any) (c_law_mixed : Cl P w K mg base 3 "_law_mixed" 2 s_law_mixed) (c_law_of : Cl P w K mg base 3 "_law_of" 2 s_law_of) (d : DF K mg "_law_given" f_law_given) : Cl P w K mg base 4 "_law_given" 2 s_law_given :=
  cl_of (k := 3) d sc_law_given rfl (fun _ _ _ _ _ _ us hl => match us, hl with | [_, _], _ => rfl) (fun W ds K h => by obtain ⟨_, _, e, _⟩ := h; rw [e]; rfl) (fun a W cdv A outer s H E hr =>
  have nd := sc_law_given.nd
  (ssd_cons (sd_setLc (i := 3) (n := 2) rfl nd rfl rfl (sw_true rfl rfl rfl rfl) (id_ss (pr_var (pv 1))) (bok (own := [("_law_row", 3)]) rfl) (fun _ _ _ _ _ => pg_name (i := 3) nd rfl (Or.inl rfl)) (fun _ _ _ _ _ => ptsd_nil) (fun _ _ _ _ _ => (pr_if (pt_eqS (PRd.e (pr_call c_law_any (hr.mono (by decide)) rfl (pad_cons (pr_var (pv 0)) (pad_cons pr_int pad_nil)))) (PRd.e pr_int)) (pr_list rfl ft.m_list (pd_var (pv 3))) (pr_var (pv 3))))) (ssd_fz 2 (ssd_one (sd_ret (pr_call c_law_mixed (hr.mono (by decide)) rfl (pad_cons (pr_var (pv 0)) (pad_cons (pr_catA (pd_var (pv 2)) (PRd.e (pr_slA (PRd.e (pr_lst (pad_cons (pr_list rfl ft.m_list (PRd.e (pr_call c_law_of (hr.mono (by decide)) rfl (pad_cons (pr_var (pv 0)) (pad_cons (pr_var (pv 1)) pad_nil))))) pad_nil))) pod_none (pod_some (PRd.e (pr_call c_law_any (hr.mono (by decide)) rfl (pad_cons (pr_var (pv 0)) (pad_cons pr_int pad_nil)))))))) pad_nil))))))))
   (fun W ds K h => by
    obtain ⟨a, S, rfl, hs, hne, hl, z⟩ := h
    simp only [sRet, dCB, vCons, vNil, d2, sSeq, sSet]
    refine lcG2 (xs := rowsD S) (fun x d => ∃ r ∈ S, x = .ints r ∧ (d = .ints r ∨ d = .lst (r.map .int))) (fun K' h' => ⟨_, rfl, _, _, rfl, rfl, h'⟩) (by rw [rowsD_len]; omega) (fun x hx K' k' => ?_) fun acc h1 h2 hal => ?_
    · obtain ⟨r, hr, rfl⟩ := mem_rowsD hx
      refine ⟨_, rfl, _, rfl, _, rfl, a, _, rfl, hs, by decide, by decide, fun u u0 u1 => ⟨_, _, _, rfl, rfl, rfl, _, rfl, fun _ => ?_, fun _ => ?_⟩⟩
      · exact ⟨_, rfl, nofun, _, _, rfl, rfl, k' _ _ rfl ⟨r, hr, rfl, .inr rfl⟩⟩
      · exact ⟨_, rfl, k' _ _ rfl ⟨r, hr, rfl, .inl rfl⟩⟩
    rw [rowsD_len] at hal
    refine ⟨_, rfl, _, rfl, _, rfl, nofun, _, rfl, _, rfl, _, rfl, _, rfl, a, rowsD S, rfl, hs, fun e => hne (by simpa [rowsD] using e), by rw [rowsD_len]; omega, fun x hx => ?_⟩
    obtain ⟨r, hr, rfl⟩ := mem_rowsD hx
    have hc : ∀ u, (cutG [D.lst (r.map .int)] none (some u)).length ≤ 1 := fun u => cutG_length _ _ _
    have ha : ∀ u, ∀ d ∈ acc ++ cutG [D.lst (r.map .int)] none (some u), ∃ r ∈ S, d = .ints r ∨ d = .lst (r.map .int) := fun u d hd => by
      rcases List.mem_append.mp hd with q | q
      · obtain ⟨x, hx, r, hr, _, e⟩ := h1 d q
        exact ⟨r, hr, e⟩
      · exact ⟨r, hr, .inr (List.mem_singleton.mp (mem_cutG q))⟩
    refine ⟨_, _, rfl, rfl, _, rfl, by simp, _, rfl, _, rfl, _, rfl, a, _, rfl, hs, by decide, by decide, fun u u0 u1 => ⟨u, rfl, .inl ⟨_, rfl, .inl ⟨_, _, rfl, rfl, ?_, _, rfl, a, _, rfl, hs, ?_, ?_, fun ys hp => ⟨_, rfl, z ys ?_ ?_ ?_⟩⟩⟩⟩⟩
    · have := hc u; omega
    · have := hc u; rw [List.length_append]; omega
    · refine flatL_iff.mpr fun d hd => ?_
      obtain ⟨r, _, e | e⟩ := ha u d hd
      · rw [e]; exact flat_ints' _ _
      · rw [e]; exact flatL_ints _ _
    · have := hc u; rw [hp.length_eq, List.length_append]; omega
    · exact fun d hd => ha u d (hp.mem_iff.mp hd)
    · intro r hr
      obtain ⟨d, hd, r', _, e1, e2⟩ := h2 (.ints r) (List.mem_map.mpr ⟨r, hr, rfl⟩)
      have e3 : r = r' := by
        injection e1 with e1
        exact ints_inj e1
      subst e3
      refine ⟨d, hp.mem_iff.mpr (List.mem_append_left _ hd), ?_⟩
      rcases e2 with e | e <;> rw [e] <;> rfl)
end
end DL
namespace DL
open PySem PySem.Spec L2 Tx
section
variable {P : Program} {w : World} {K : PySem.W.Frag} {mg : Str → Option Value} {base : Heap}
theorem pr_neg {W : Amb} {X : Cx} {e : Expr} {pa : RE} {pos : Pos} (ha : PEd W X e pa) : PRd W X (.UnaryOp .USub e pos) (fun ρ K => pa ρ fun s => ∃ i, s = .d (.int i) ∧ K (.d (.int (-i)))) :=
  ⟨fun F0 B => (pe_un un_neg (ha.run F0 B)).imp fun σ H Q ⟨F, ρ, K, E, q, k⟩ => ⟨F, ρ, _, E, q, fun s v as F1 H1 ⟨i, e1, z⟩ st sv n => by
    subst e1
    exact ⟨i, sv.2.int_inv, k _ _ [] F1 H1 z st ⟨rfl, .int _⟩ New.nil⟩⟩⟩
/-- the pairs tell of all states -/
theorem ps_all {S : List Row} {dd : Nat} {ps : List (Row × Row)} (hd : ∀ s ∈ S, s.length = dd) (hps : ∀ p, p ∈ ps ↔ apB S S.length 0 p) {s t : Row} (hs : s ∈ S) (ht : t ∈ S) (hn : ¬ joinedP S s t) : ∃ p ∈ ps, (diffN p.1 p.2).length = (diffN s t).length := by
  have hl : s.length = t.length := (hd s hs).trans (hd t ht).symm
  obtain ⟨i, hi⟩ := List.getElem?_of_mem hs
  obtain ⟨j, hj⟩ := List.getElem?_of_mem ht
  have hiS := (List.getElem?_eq_some_iff.mp hi).1
  have hjS := (List.getElem?_eq_some_iff.mp hj).1
  have ne : i ≠ j := fun e => by
    subst e
    rw [hi] at hj
    cases hj
    exact hn .refl
  rcases Nat.lt_or_gt_of_ne ne with h | h
  · exact ⟨(s, t), (hps _).mpr ⟨i, j, h, hi, hj, .inl hiS, hn⟩, rfl⟩
  · exact ⟨(t, s), (hps _).mpr ⟨j, i, h, hj, hi, .inl hjS, fun z => hn (joinedP_symm hd ht hs z)⟩, by rw [diffN_symm hl]⟩
def notIn (n : Nat) (A : List Nat) : List Nat := (List.range n).filter fun k => !decide ((k : Int) ∈ natsI A)
theorem mem_notIn {n k : Nat} {A : List Nat} : k ∈ notIn n A ↔ k < n ∧ k ∉ A := by
  unfold notIn
  rw [List.mem_filter, List.mem_range]
  simp [natsI_mem]
theorem lot_notIn (n : Nat) (A : List Nat) : LotOk n (notIn n A) := ⟨List.Pairwise.sublist List.filter_sublist List.pairwise_lt_range, fun k hk => (mem_notIn.mp hk).1⟩
theorem torn_div {S : List Row} {dd : Nat} (hd : ∀ s ∈ S, s.length = dd) {a b : Row} (ha : a ∈ S) (hb : b ∈ S) (hn : ¬ joinedP S a b) (least : ∀ s ∈ S, ∀ t ∈ S, ¬ joinedP S s t → (diffN a b).length ≤ (diffN s t).length)
    {A B : List Nat} (hA : A ≠ []) (hB : B ≠ []) (hP : (A ++ B).Perm (diffN a b)) {qs : List Int} (hq : qs.length = S.length)
    (hqs : ∀ (i : Nat) s q, S[i]? = some s → qs[i]? = some q → (q = 1 ∨ q = 0) ∧ (q = 1 ↔ Rch (stpP S [notIn dd A, notIn dd B]) a s)) : TornV S dd (.tup [.ints a, .ints b, lotD (notIn dd A), lotD (notIn dd B), .ints qs]) := by
  have far := torn_nearest hd ha hb hn least hA hB hP (p1 := notIn dd A) (p2 := notIn dd B) (fun k h1 h2 => mem_notIn.mpr ⟨h1, h2⟩) (fun k h1 h2 => mem_notIn.mpr ⟨h1, h2⟩)
  have tell : ∀ p ∈ [notIn dd A, notIn dd B], tellsQ S qs p := by
    intro l hl i j s t p q h1 h2 h3 h4 h5
    have hs := List.mem_of_getElem? h1
    have ht := List.mem_of_getElem? h2
    have g := agr_view.mp h5
    have st : stpP S [notIn dd A, notIn dd B] s t := ⟨hs, ht, l, hl, g⟩
    obtain ⟨p0, p1⟩ := hqs i s p h1 h3
    obtain ⟨q0, q1⟩ := hqs j t q h2 h4
    have e : p = 1 ↔ q = 1 := by
      rw [p1, q1]
      exact ⟨fun z => z.tail st, fun z => z.tail (stpP_symm _ _ st)⟩
    rcases p0 with x | x <;> rcases q0 with y | y <;> subst x <;> subst y <;> first | rfl | (exfalso; simp at e)
  refine ⟨a, b, _, _, qs, rfl, ha, hb, lot_notIn _ _, lot_notIn _ _, hq, fun q hq' => ?_, fun k h1 h2 => ?_, fun i j p q h1 h2 h3 h4 => ?_, tell _ (by simp), tell _ (by simp)⟩
  · obtain ⟨i, hi⟩ := List.getElem?_of_mem hq'
    have hiq := (List.getElem?_eq_some_iff.mp hi).1
    rcases (hqs i S[i] q (by simp) hi).1 with e | e <;> omega
  · have k1 := mem_notIn.mp h1
    have k2 := mem_notIn.mp h2
    have nk : k ∉ diffN a b := fun z => by
      rcases List.mem_append.mp (hP.mem_iff.mpr z) with q | q
      · exact k1.2 q
      · exact k2.2 q
    rw [mem_diffN] at nk
    have hk : k < a.length := by rw [hd a ha]; exact k1.1
    have e : a[k]? = b[k]? := by
      by_cases e : a[k]? = b[k]?
      · exact e
      · exact absurd ⟨hk, e⟩ nk
    rw [List.getD_eq_getElem?_getD, List.getD_eq_getElem?_getD, e]
  · obtain ⟨p0, p1⟩ := hqs i a p h1 h3
    obtain ⟨q0, q1⟩ := hqs j b q h2 h4
    have e1 : p = 1 := p1.mpr .refl
    intro e
    rw [e] at e1
    exact far (q1.mp e1)
def unI : D → List Int
  | .tup xs => xs.map fun | .int i => i | _ => 0
  | _ => []
theorem unI_ints (r : Row) : unI (.ints r) = r := by
  induction r with
  | nil => rfl
  | cons x r ih => exact congrArg (x :: ·) ih
def lenP : D → D
  | .tup [x, y] => .int ((diffN (unI x) (unI y)).length : Nat)
  | _ => .non
theorem lenP_pr (p : Row × Row) : lenP (pr2 p) = .int ((diffN p.1 p.2).length : Nat) := by
  show D.int ((diffN (unI (.ints p.1)) (unI (.ints p.2))).length : Nat) = _
  rw [unI_ints, unI_ints]
def selP (m : Int) (x : D) : Bool := match lenP x with
  | .int i => decide (i = m)
  | _ => false
theorem selP_pr (m : Int) (p : Row × Row) : selP m (pr2 p) = decide ((((diffN p.1 p.2).length : Nat) : Int) = m) := by
  unfold selP
  rw [lenP_pr]
def outK (A : List Nat) : D → Bool
  | .int i => !decide (i ∈ natsI A)
  | _ => false
theorem range_out (n : Nat) (A : List Nat) : (rangeD 0 n).filter (outK A) = (natsI (notIn n A)).map .int := by
  rw [rangeD0]
  unfold notIn natsI
  rw [List.map_map]
  induction List.range n with
  | nil => rfl
  | cons k l ih =>
    rw [List.map_cons, List.filter_cons, List.filter_cons, ih]
    show (if (!decide ((k : Int) ∈ natsI A)) = true then _ else _) = _
    unfold natsI
    split <;> rfl
def unL : D → List Nat
  | .lst xs => xs.map fun | .int i => i.toNat | _ => 0
  | _ => []
theorem unL_nats (l : List Nat) : unL (.lst ((natsI l).map .int)) = l := by
  induction l with
  | nil => rfl
  | cons x r ih => exact congrArg (x :: ·) ih
theorem uTupLc {pi : RI} {is : List Nat} {tg : D → List D → Prop} {pt : RT} {pe : RE} {ρ : List Sd} {K : Sd → Prop} (h : dLc pi is tg pt pe ρ fun s => gTuple [s] K) : dCB gTuple (vCons (dLc pi is tg pt pe) vNil) ρ K := h
def s_law_divided : DSpec := fun W ds Q => ∃ (a : Addr) (S : List Row) (ps : List (Row × Row)) (dd : Nat), ds = [.ref a, .lst (rowsD S), .lst (ps.map pr2)] ∧ HasDl W a ∧ (∀ s ∈ S, s.length = dd) ∧ dd ≤ 50 ∧ S.length ≤ 60 ∧ ps ≠ [] ∧ ps.length ≤ 5000 ∧ (∀ p, p ∈ ps ↔ apB S S.length 0 p) ∧ ∀ v, TornV S dd v → Q v
theorem sc_law_divided : FnScope ["_law_deal", "_law_states", "_law_apart_here", "_law_least", "_law_one", "_law_other", "_law_pair", "_law_lot", "_law_cut", "_law_plans", "_law_key", "_law_part"] ["_law_deal", "_law_states", "_law_apart_here"] (defScope f_law_divided) := ⟨rfl, rfl, rfl, by decide +kernel, rfl, by decide +kernel, by decide +kernel⟩
theorem c_law_divided (ft : Fts mg) (c_law_any : Cl P w K mg base 2 "_law_any" 2 s_law_any) (c_law_apart : Cl P w K mg base 2 "_law_apart" 2 s_law_apart) (c_law_mixed : Cl P w K mg base 3 "_law_mixed" 2 s_law_mixed) (c_law_of : Cl P w K mg base 3 "_law_of" 2 s_law_of) (c_law_part_question : Cl P w K mg base 2 "_law_part_question" 3 s_law_part_question) (d : DF K mg "_law_divided" f_law_divided) : Cl P w K mg base 4 "_law_divided" 3 s_law_divided :=
  cl_of (k := 3) d sc_law_divided rfl (fun _ _ _ _ _ _ us hl => match us, hl with | [_, _, _], _ => rfl) (fun W ds K h => by obtain ⟨_, _, _, _, e, _⟩ := h; rw [e]; rfl) (fun a W cdv A outer s H E hr =>
  have nd := sc_law_divided.nd
  (ssd_cons (sd_set (i := 3) nd rfl (Or.inr rfl) (pr_minL rfl rfl ft.m_min (PRd.e (pr_lcP (i := 4) (j := 5) rfl nd (id_ss (pr_var (pv 2))) (bok (own := [("_law_one", 4), ("_law_other", 5)]) rfl) (fun _ _ _ _ _ => pg_tup rfl (pgs_cons (pg_name (i := 4) nd rfl (Or.inl rfl)) (pgs_cons (pg_name (i := 5) nd rfl (Or.inl rfl)) pgs_nil))) (fun _ _ _ _ _ => ptsd_nil) (fun _ _ _ _ _ => (pr_len rfl ft.m_len (PRd.e (pr_call c_law_apart (hr.mono (by decide)) rfl (pad_cons (pr_var (pv 4)) (pad_cons (pr_var (pv 5)) pad_nil)))))))))) (ssd_cons (sd_asg (pr_call c_law_of (hr.mono (by decide)) rfl (pad_cons (pr_var (pv 0)) (pad_cons (pr_lc (i := 6) rfl nd (id_ss (pr_var (pv 2))) (bok (own := [("_law_pair", 6)]) rfl) (fun _ _ _ _ _ => pg_name (i := 6) nd rfl (Or.inl rfl)) (fun _ _ _ _ _ => ptsd_one (pt_eqS (PRd.e (pr_len rfl ft.m_len (PRd.e (pr_call c_law_apart (hr.mono (by decide)) rfl (pad_cons (pr_item (pd_var (pv 6)) (PRd.e pr_int)) (pad_cons (pr_item (pd_var (pv 6)) (PRd.e pr_int)) pad_nil)))))) (pd_var (pv 3)))) (fun _ _ _ _ _ => (pr_var (pv 6)))) pad_nil))) (gd_tup (is := [4, 5]) rfl (pgs_cons (pg_name (i := 4) nd rfl (Or.inr rfl)) (pgs_cons (pg_name (i := 5) nd rfl (Or.inl rfl)) pgs_nil)))) (ssd_cons (sd_set (i := 7) nd rfl (Or.inl rfl) (pr_call c_law_mixed (hr.mono (by decide)) rfl (pad_cons (pr_var (pv 0)) (pad_cons (pr_list rfl ft.m_list (PRd.e (pr_call c_law_apart (hr.mono (by decide)) rfl (pad_cons (pr_var (pv 4)) (pad_cons (pr_var (pv 5)) pad_nil))))) pad_nil)))) (ssd_cons (sd_set (i := 8) nd rfl (Or.inl rfl) (pr_add (PRd.e pr_int) (PRd.e (pr_call c_law_any (hr.mono (by decide)) rfl (pad_cons (pr_var (pv 0)) (pad_cons (pr_sub (PRd.e (pr_len rfl ft.m_len (pd_var (pv 7)))) (PRd.e pr_int)) pad_nil)))))) (ssd_cons (sd_setLc (i := 11) (n := 9) rfl nd rfl rfl (sw_true rfl rfl rfl rfl) (id_ss (pr_tup (pad_cons (pr_slA (pd_var (pv 7)) pod_none (pod_some (pd_var (pv 8)))) (pad_cons (pr_slA (pd_var (pv 7)) (pod_some (pd_var (pv 8))) pod_none) pad_nil)))) (bok (own := [("_law_part", 11)]) rfl) (fun _ _ _ _ _ => pg_name (i := 11) nd rfl (Or.inr rfl)) (fun _ _ _ _ _ => ptsd_nil) (fun _ _ _ _ _ => (pr_tuple rfl ft.m_tuple (PRd.e (pr_lc (i := 10) rfl nd (id_range1 rfl ft.m_range (pr_len rfl ft.m_len (pd_var (pv 4)))) (bok (own := [("_law_key", 10)]) rfl) (fun _ _ _ _ _ => pg_name (i := 10) nd rfl (Or.inl rfl)) (fun _ _ _ _ _ => ptsd_one (pt_niI (pd_var (pv 10)) (pd_var (pv 11)))) (fun _ _ _ _ _ => (pr_var (pv 10)))))))) (ssd_fz 9 (ssd_one (sd_ret (pr_tup (pad_cons (pr_var (pv 4)) (pad_cons (pr_var (pv 5)) (pad_cons (pr_item (pd_var (pv 9)) (PRd.e pr_int)) (pad_cons (pr_item (pd_var (pv 9)) (PRd.e pr_int)) (pad_cons (pr_call c_law_part_question (hr.mono (by decide)) rfl (pad_cons (pr_var (pv 1)) (pad_cons (pr_var (pv 4)) (pad_cons (pr_var (pv 9)) pad_nil)))) pad_nil)))))))))))))))
   (fun W ds K h => by
    obtain ⟨a, S, ps, dd, rfl, hs, hd, hdd, hl, hne, hpl, hps, z⟩ := h
    simp only [sRet, dCB, vCons, vNil, d2, sSeq, sSet]
    have hz : (ps.map pr2).length ≤ 100000 := by rw [List.length_map]; omega
    have hp2 : ∀ x ∈ ps.map pr2, ∃ a b, x = .tup [a, b] := fun x hx => by
      obtain ⟨p, _, rfl⟩ := List.mem_map.mp hx
      exact ⟨_, _, rfl⟩
    have hin : ∀ p ∈ ps, p.1 ∈ S ∧ p.2 ∈ S ∧ ¬ joinedP S p.1 p.2 := fun p hp => by
      obtain ⟨i, j, _, h1, h2, _, h3⟩ := (hps p).mp hp
      exact ⟨List.mem_of_getElem? h1, List.mem_of_getElem? h2, h3⟩
    have hlen : ∀ p ∈ ps, p.1.length = dd ∧ p.2.length = dd := fun p hp => ⟨hd _ (hin p hp).1, hd _ (hin p hp).2.1⟩
    refine lcP (xs := ps.map pr2) (fun _ => true) lenP (fun K' h' => ⟨_, rfl, _, _, rfl, rfl, h'⟩) hz hp2 (fun x y hx K' k' => k') (fun x y hx _ K' k' => ?_) ?_
    · obtain ⟨p, hp, e⟩ := List.mem_map.mp hx
      rw [← e, lenP_pr] at k'
      cases e
      have := hlen p hp
      exact ⟨_, rfl, _, rfl, _, rfl, _, rfl, p.1, p.2, rfl, by omega, by omega, _, _, rfl, rfl, k' _ (by simp [natsI]; rfl)⟩
    rw [filter_tt, List.map_map]
    have em : ps.map (lenP ∘ pr2) = (ps.map fun p => (((diffN p.1 p.2).length : Nat) : Int)).map .int := by
      rw [List.map_map]
      exact List.map_congr_left fun p _ => lenP_pr p
    rw [em]
    refine ⟨_, _, rfl, rfl, fun e => hne (by simpa using e), fun m hm hmin => ?_⟩
    obtain ⟨p0, hp0, rfl⟩ := List.mem_map.mp hm
    have hmin' : ∀ p ∈ ps, (diffN p0.1 p0.2).length ≤ (diffN p.1 p.2).length := fun p hp => by
      have := hmin _ (List.mem_map.mpr ⟨p, hp, rfl⟩)
      omega
    change sAsg _ _ _ [.d (.ref a), .d (.lst (rowsD S)), .d (.lst (ps.map pr2)), .d (.int ((diffN p0.1 p0.2).length : Nat)), .any, .any, .any, .any, .any, .any, .any, .any]
    refine ⟨_, rfl, _, rfl, ?_⟩
    refine lcN (xs := ps.map pr2) (selP ((diffN p0.1 p0.2).length : Nat)) _root_.id (fun K' h' => ⟨_, rfl, _, _, rfl, rfl, h'⟩) hz (fun x hx K' k' => ?_) (fun x hx _ K' k' => ⟨_, rfl, k' _ rfl⟩) ?_
    · obtain ⟨p, hp, rfl⟩ := List.mem_map.mp hx
      rw [selP_pr] at k'
      have := hlen p hp
      refine ⟨_, rfl, nofun, _, 0, _, rfl, rfl, atI_0, _, rfl, _, rfl, nofun, _, 1, _, rfl, rfl, atI_1, _, rfl, p.1, p.2, rfl, by omega, by omega, _, _, rfl, rfl, _, rfl, nofun, _, _, _, rfl, rfl, rfl, _, rfl, ?_⟩
      rw [List.length_map, show (natsI (diffN p.1 p.2)).length = (diffN p.1 p.2).length from List.length_map ..]
      exact k'
    rw [List.map_id]
    refine ⟨_, rfl, a, _, rfl, hs, fun e => ?_, Nat.le_trans (List.length_filter_le _ _) hz, fun x hx => ?_⟩
    · rw [List.filter_eq_nil_iff] at e
      exact e (pr2 p0) (List.mem_map.mpr ⟨p0, hp0, rfl⟩) (by rw [selP_pr]; simp)
    obtain ⟨hx1, hx2⟩ := List.mem_filter.mp hx
    obtain ⟨p, hp, rfl⟩ := List.mem_map.mp hx1
    rw [selP_pr] at hx2
    have hpe : (diffN p.1 p.2).length = (diffN p0.1 p0.2).length := by
      have := of_decide_eq_true hx2
      omega
    obtain ⟨ha, hb, hn⟩ := hin p hp
    have least : ∀ s ∈ S, ∀ t ∈ S, ¬ joinedP S s t → (diffN p.1 p.2).length ≤ (diffN s t).length := fun s h1 t h2 h3 => by
      obtain ⟨p', hp', e⟩ := ps_all hd hps h1 h2 h3
      have := hmin' p' hp'
      omega
    have two := apart_two hd ha hb hn
    obtain ⟨r1, r2⟩ := p
    dsimp only at ha hb hn least two hpe
    have l1 : r1.length = dd := hd _ ha
    have l2 : r2.length = dd := hd _ hb
    have dl : (diffN r1 r2).length ≤ 50 := by
      unfold diffN
      exact Nat.le_trans (List.length_filter_le _ _) (by rw [List.length_range]; omega)
    refine ⟨_, rfl, _, rfl, rfl, ?_⟩
    dsimp only
    change dCall _ _ _ [.d (.ref a), .d (.lst (rowsD S)), .d (.lst (ps.map pr2)), .d (.int ((diffN p0.1 p0.2).length : Nat)), .d (.ints r1), .d (.ints r2), .any, .any, .any, .any, .any, .any] _
    refine ⟨_, rfl, _, rfl, _, rfl, _, rfl, _, rfl, _, rfl, r1, r2, rfl, by omega, by omega, _, _, rfl, rfl, _, rfl, a, _, rfl, hs, by simp [natsI]; omega, flatL_ints _ _, fun ys hp => ?_⟩
    obtain ⟨l, hpl2, rfl⟩ := perm_mapN (fun i : Nat => D.int (i : Int)) hp (xs := diffN r1 r2) (by unfold natsI; rw [List.map_map]; rfl)
    have el : (l.map fun i : Nat => D.int (i : Int)) = (natsI l).map .int := by unfold natsI; rw [List.map_map]; rfl
    rw [el]
    have ll : l.length = (diffN r1 r2).length := hpl2.length_eq
    have ln : ((natsI l).map D.int).length = l.length := by simp [natsI]
    refine ⟨_, rfl, _, rfl, _, rfl, nofun, _, _, rfl, rfl, _, _, rfl, rfl, _, rfl, a, _, rfl, hs, by omega, by omega, fun u u0 u1 => ⟨_, _, rfl, rfl, ?_⟩⟩
    obtain ⟨c, hc⟩ := Int.eq_ofNat_of_zero_le (show (0 : Int) ≤ 1 + u by omega)
    have hcl : c < l.length := by omega
    have hc0 : 0 < c := by omega
    change dLc _ _ _ _ _ [.d (.ref a), .d (.lst (rowsD S)), .d (.lst (ps.map pr2)), .d (.int ((diffN p0.1 p0.2).length : Nat)), .d (.ints r1), .d (.ints r2), .any, .d (.lst ((natsI l).map .int)), .d (.int (1 + u)), .any, .any, .any] _
    rw [hc]
    have eA : cutG ((natsI l).map D.int) none (some (c : Int)) = (natsI (l.take c)).map .int := by
      rw [cutG_take _ _ (by omega)]
      unfold natsI
      rw [List.map_take, List.map_take]
    have eB : cutG ((natsI l).map D.int) (some (c : Int)) none = (natsI (l.drop c)).map .int := by
      rw [cutG_drop _ _ (by omega)]
      unfold natsI
      rw [List.map_drop, List.map_drop]
    refine lcN (xs := [.lst ((natsI (l.take c)).map .int), .lst ((natsI (l.drop c)).map .int)]) (fun _ => true) (fun x => lotD (notIn dd (unL x))) (fun K' h' => ?_) (by simp) (fun x hx K' k' => k') (fun x hx _ K' k' => ?_) ?_
    · refine ⟨_, rfl, nofun, _, rfl, nofun, _, rfl, .inl ⟨_, rfl, _, rfl, _, rfl, nofun, _, rfl, nofun, _, rfl, .inl ⟨_, rfl, _, rfl, by simp, _, _, rfl, rfl, ?_⟩⟩⟩
      rw [eA, eB]
      exact h'
    · obtain ⟨A, rfl⟩ : ∃ A : List Nat, x = .lst ((natsI A).map .int) := by
        rcases List.mem_cons.mp hx with e | e
        · exact ⟨l.take c, e⟩
        · exact ⟨l.drop c, List.mem_singleton.mp e⟩
      refine uTupLc ?_
      refine lcN (xs := rangeD 0 dd) (outK A) _root_.id (fun K' h' => ?_) (by rw [rangeD_len]; omega) (fun y hy K' k' => ?_) (fun y hy _ K' k' => ⟨_, rfl, k' _ rfl⟩) ?_
      · refine ⟨_, rfl, nofun, _, _, rfl, rfl, _, rfl, by simp <;> omega, by simp <;> omega, ?_⟩
        have : (((r1.map D.int).length : Nat) : Int).toNat = dd := by simp [l1]
        rw [this]
        exact h'
      · obtain ⟨i, _, rfl⟩ := mem_range0 hy
        exact ⟨_, rfl, nofun, _, rfl, nofun, _, _, rfl, rfl, _, rfl, k'⟩
      · rw [List.map_id, range_out]
        refine ⟨_, _, rfl, rfl, k' _ ?_⟩
        rw [unL_nats]
        rfl
    · have nA : l.take c ≠ [] := fun e => by have := congrArg List.length e; rw [List.length_take, List.length_nil] at this; omega
      have nB : l.drop c ≠ [] := fun e => by have := congrArg List.length e; rw [List.length_drop, List.length_nil] at this; omega
      have hPm : (l.take c ++ l.drop c).Perm (diffN r1 r2) := by rw [List.take_append_drop]; exact hpl2
      have em2 : [D.lst ((natsI (l.take c)).map .int), D.lst ((natsI (l.drop c)).map .int)].map (fun x => lotD (notIn dd (unL x))) = [lotD (notIn dd (l.take c)), lotD (notIn dd (l.drop c))] := by
        show [lotD (notIn dd (unL _)), lotD (notIn dd (unL _))] = _
        rw [unL_nats, unL_nats]
      rw [filter_tt, em2]
      refine ⟨_, rfl, _, rfl, _, rfl, _, rfl, _, rfl, nofun, _, 0, _, rfl, rfl, atI_0, _, rfl, _, rfl, nofun, _, 1, _, rfl, rfl, atI_1, _, rfl, _, rfl, _, rfl, _, rfl, _, rfl, _, rfl, _, rfl, S, r1, [notIn dd (l.take c), notIn dd (l.drop c)], dd, rfl, hd, by omega, ha, fun q hq => ?_, fun qs h1 h2 => ⟨_, rfl, by simp, _, rfl, z _ (torn_div hd ha hb hn least nA nB hPm h1 h2)⟩⟩
      have key : ∀ A, (∀ k ∈ notIn dd A, k < dd) ∧ (notIn dd A).length ≤ 1000 := fun A => ⟨fun k hk => (mem_notIn.mp hk).1, by
        unfold notIn
        exact Nat.le_trans (List.length_filter_le _ _) (by rw [List.length_range]; omega)⟩
      simp at hq
      rcases hq with e | e <;> rw [e] <;> exact key _)
end
end DL
namespace DL
open PySem PySem.Spec L2 Tx
section
variable {P : Program} {w : World} {K : PySem.W.Frag} {mg : Str → Option Value} {base : Heap}
theorem asc_len : ∀ (l m : List Int), l.Pairwise (· < ·) → (∀ x ∈ l, x ∈ m) → l.length ≤ m.length
  | [], _, _, _ => Nat.zero_le _
  | x :: l, m, hn, hs => by
    obtain ⟨h1, h2⟩ := List.pairwise_cons.mp hn
    have hx := hs x List.mem_cons_self
    have ih := asc_len l (m.erase x) h2 fun y hy => (List.mem_erase_of_ne (fun e => by have := h1 y hy; omega)).2 (hs y (List.mem_cons_of_mem _ hy))
    have e := List.length_erase_of_mem hx
    have := List.length_pos_of_mem hx
    rw [List.length_cons]
    omega
theorem fineL_set {n m : Nat} {xs : List D} {x : D} (h : fineL n xs = true) (hx : x.fine n = true) : fineL n (xs.set m x) = true := fineL_iff.mpr fun y hy => by
  rcases List.mem_or_eq_of_mem_set hy with q | q
  · exact fineL_iff.mp h y q
  · rw [q]; exact hx
theorem fineL_app {n : Nat} {xs ys : List D} (h : fineL n xs = true) (h2 : fineL n ys = true) : fineL n (xs ++ ys) = true := fineL_iff.mpr fun y hy => by
  rcases List.mem_append.mp hy with q | q
  · exact fineL_iff.mp h y q
  · exact fineL_iff.mp h2 y q
theorem fineL_cut {n : Nat} {xs : List D} {lo hi : Option Int} (h : fineL n xs = true) : fineL n (cutG xs lo hi) = true := fineL_iff.mpr fun y hy => fineL_iff.mp h y (mem_cutG hy)
theorem fineL_rev {n : Nat} {xs : List D} (h : fineL n xs = true) : fineL n xs.reverse = true := fineL_iff.mpr fun y hy => fineL_iff.mp h y (List.mem_reverse.mp hy)
def nearV (r1 r2 l1 l2 q : List Int) : List D := [.ints r1, .ints r2, .ints l1, .ints l2, .ints q]
def s_law_near : DSpec := fun W ds Q => ∃ (a : Addr) (S : List Row) (r1 r2 l1 l2 q : List Int) (dd : Nat), ds = [.ref a, .lst (rowsD S), .tup [.ints r1, .ints r2, .ints l1, .ints l2, .ints q]] ∧ HasDl W a ∧ S ≠ [] ∧ (∀ s ∈ S, s.length = dd) ∧ 0 < dd ∧ dd ≤ 50 ∧ S.length ≤ 50 ∧ q.length = S.length ∧ r1.length ≤ 50 ∧ r2.length ≤ 50 ∧ l1.length ≤ 50 ∧ l2.length ≤ 50 ∧ ∀ v, v.fine 9 = true → Q v
theorem sc_law_near : FnScope ["_law_deal", "_law_states", "_law_value", "_law_found", "_law_form", "_law_keys", "_law_at", "_law_key", "_law_lot", "_law_one", "_law_row"] ["_law_deal", "_law_states", "_law_value"] (defScope f_law_near) := ⟨rfl, rfl, rfl, by decide +kernel, rfl, by decide +kernel, by decide +kernel⟩
theorem c_law_near (ft : Fts mg) (c_law_any : Cl P w K mg base 2 "_law_any" 2 s_law_any) (c_law_of : Cl P w K mg base 3 "_law_of" 2 s_law_of) (d : DF K mg "_law_near" f_law_near) : Cl P w K mg base 4 "_law_near" 3 s_law_near :=
  cl_of (k := 3) d sc_law_near rfl (fun _ _ _ _ _ _ us hl => match us, hl with | [_, _, _], _ => rfl) (fun W ds K h => by obtain ⟨_, _, _, _, _, _, _, _, e, _⟩ := h; rw [e]; rfl) (fun a W cdv A outer s H E hr =>
  have nd := sc_law_near.nd
  (ssd_cons (sd_par3 (i := 3) (j := 4) (l := 5) rfl nd rfl rfl rfl (by decide) (by decide) (by decide) rfl rfl rfl (pqd_cons (pr_list rfl ft.m_list (pd_var (pv 2))) (pqd_cons (pr_call c_law_any (hr.mono (by decide)) rfl (pad_cons (pr_var (pv 0)) (pad_cons pr_int pad_nil))) (pqd_cons (pr_len rfl ft.m_len (PRd.e (pr_item (pd_var (pv 1)) (PRd.e pr_int)))) pqd_nil))) rfl) (ssd_cons (sd_if (pt_lt (pd_var (pv 4)) (PRd.e pr_int)) (ssd_one (sd_setAt (pv 3) (pd_var (pv 4)) (pr_call c_law_of (hr.mono (by decide)) rfl (pad_cons (pr_var (pv 0)) (pad_cons (pr_catA (pd_var (pv 1)) (PRd.e (pr_lst (pad_cons pr_non (pad_cons (pr_list rfl ft.m_list (PRd.e (pr_item (pd_var (pv 3)) (pd_var (pv 4))))) (pad_cons (pr_catA (PRd.e (pr_item (pd_var (pv 3)) (pd_var (pv 4)))) (PRd.e (pr_tup (pad_cons pr_int pad_nil)))) pad_nil)))))) pad_nil))))) (ssd_one (sd_if (pt_lt (pd_var (pv 4)) (PRd.e pr_int)) (ssd_cons (sd_tupG (is := [6, 7]) rfl (pgs_cons (pg_name (i := 6) nd rfl (Or.inl rfl)) (pgs_cons (pg_name (i := 7) nd rfl (Or.inr rfl)) pgs_nil)) (pqd_cons (pr_add (PRd.e pr_int) (PRd.e (pr_call c_law_any (hr.mono (by decide)) rfl (pad_cons (pr_var (pv 0)) (pad_cons pr_int pad_nil))))) (pqd_cons (pr_call c_law_any (hr.mono (by decide)) rfl (pad_cons (pr_var (pv 0)) (pad_cons (pr_var (pv 5)) pad_nil))) pqd_nil)) (by decide)) (ssd_cons (sd_set (i := 8) nd rfl (Or.inl rfl) (pr_if (pt_niI (pd_var (pv 7)) (PRd.e (pr_item (pd_var (pv 3)) (pd_var (pv 6))))) (pr_sortSet rfl rfl ft.m_sorted rfl ft.m_set (PRd.e (pr_catA (PRd.e (pr_list rfl ft.m_list (PRd.e (pr_item (pd_var (pv 3)) (pd_var (pv 6)))))) (PRd.e (pr_lst (pad_cons (pr_var (pv 7)) pad_nil)))))) (pr_lc (i := 9) rfl nd (id_ss (pr_item (pd_var (pv 3)) (pd_var (pv 6)))) (bok (own := [("_law_one", 9)]) rfl) (fun _ _ _ _ _ => pg_name (i := 9) nd rfl (Or.inl rfl)) (fun _ _ _ _ _ => ptsd_one (pt_neD hr (pd_var (pv 9)) (pd_var (pv 7)))) (fun _ _ _ _ _ => (pr_var (pv 9)))))) (ssd_fz 8 (ssd_one (sd_setAt (pv 3) (pd_var (pv 6)) (pr_call c_law_of (hr.mono (by decide)) rfl (pad_cons (pr_var (pv 0)) (pad_cons (pr_lst (pad_cons (pr_tuple rfl ft.m_tuple (pd_var (pv 8))) (pad_cons (pr_tuple rfl ft.m_tuple (pd_var (pv 8))) (pad_cons (pr_tuple rfl ft.m_tuple (pd_var (pv 8))) (pad_cons (pr_var (pv 8)) (pad_cons (pr_catA (PRd.e (pr_tuple rfl ft.m_tuple (pd_var (pv 8)))) (PRd.e (pr_tup (pad_cons (pr_var (pv 5)) pad_nil)))) (pad_cons (pr_revT (PRd.e (pr_tuple rfl ft.m_tuple (pd_var (pv 8))))) (pad_cons pr_non pad_nil)))))))) pad_nil)))))))) (ssd_one (sd_if (pt_lt (pd_var (pv 4)) (PRd.e pr_int)) (ssd_cons (sd_par (i := 6) (j := 10) rfl nd rfl rfl (by decide) rfl rfl (pqd_cons (pr_call c_law_any (hr.mono (by decide)) rfl (pad_cons (pr_var (pv 0)) (pad_cons (pr_len rfl ft.m_len (pd_var (pv 1))) pad_nil))) (pqd_cons (pr_list rfl ft.m_list (PRd.e (pr_item (pd_var (pv 3)) (PRd.e pr_int)))) pqd_nil)) rfl) (ssd_cons (sd_setAt (pv 10) (pd_var (pv 6)) (pr_call c_law_of (hr.mono (by decide)) rfl (pad_cons (pr_var (pv 0)) (pad_cons (pr_lst (pad_cons (pr_add (PRd.e (pr_item (pd_var (pv 10)) (pd_var (pv 6)))) (PRd.e pr_int)) (pad_cons (pr_sub (PRd.e pr_int) (PRd.e (pr_min2 rfl rfl ft.m_min (PRd.e pr_int) (PRd.e (pr_item (pd_var (pv 10)) (pd_var (pv 6))))))) (pad_cons (pr_neg (PRd.e pr_int)) (pad_cons pr_non (pad_cons pr_bl pad_nil)))))) pad_nil)))) (ssd_fz 10 (ssd_one (sd_setAt (pv 3) (PRd.e pr_int) (pr_call c_law_of (hr.mono (by decide)) rfl (pad_cons (pr_var (pv 0)) (pad_cons (pr_lst (pad_cons (pr_tuple rfl ft.m_tuple (pd_var (pv 10))) (pad_cons (pr_tuple rfl ft.m_tuple (pd_var (pv 10))) (pad_cons (pr_tuple rfl ft.m_tuple (pd_var (pv 10))) (pad_cons (pr_var (pv 10)) (pad_cons (pr_tuple rfl ft.m_tuple (PRd.e (pr_slA (pd_var (pv 10)) (pod_some (PRd.e pr_int)) pod_none))) pad_nil)))))) pad_nil)))))))) (ssd_one (sd_if (pt_eqS (pd_var (pv 4)) (PRd.e pr_int)) (ssd_fz 3 (ssd_one (sd_ret (pr_call c_law_of (hr.mono (by decide)) rfl (pad_cons (pr_var (pv 0)) (pad_cons (pr_lst (pad_cons (pr_var (pv 3)) (pad_cons pr_non (pad_cons (pr_slA (pd_var (pv 2)) pod_none (pod_some (PRd.e pr_int))) (pad_cons (pr_catA (pd_var (pv 2)) (PRd.e (pr_tup (pad_cons pr_int pad_nil)))) (pad_cons (pr_revT (pd_var (pv 2))) (pad_cons (pr_catA (PRd.e (pr_tup (pad_cons (pr_item (pd_var (pv 2)) (PRd.e pr_int)) (pad_cons (pr_item (pd_var (pv 2)) (PRd.e pr_int)) pad_nil)))) (PRd.e (pr_slA (pd_var (pv 2)) (pod_some (PRd.e pr_int)) pod_none))) pad_nil))))))) pad_nil)))))) (ssd_one (sd_set (i := 3) nd rfl (Or.inl rfl) (pr_lst (pad_cons (pr_item (pd_var (pv 3)) (PRd.e pr_int)) (pad_cons (pr_item (pd_var (pv 3)) (PRd.e pr_int)) (pad_cons (pr_item (pd_var (pv 3)) (PRd.e pr_int)) (pad_cons (pr_item (pd_var (pv 3)) (PRd.e pr_int)) (pad_cons (pr_item (pd_var (pv 3)) (PRd.e pr_int)) pad_nil))))))))))))))) (ssd_fz 3 (ssd_one (sd_ret (pr_tuple rfl ft.m_tuple (pd_var (pv 3)))))))))
   (fun W ds K h => by
    obtain ⟨a, S, r1, r2, l1, l2, q, dd, rfl, hs, hne, hd, hd0, hdd, hl, hq, hr1, hr2, hl1, hl2, z⟩ := h
    obtain ⟨s0, S', rfl⟩ : ∃ s0 S', S = s0 :: S' := by cases S with | nil => exact absurd rfl hne | cons s l => exact ⟨s, l, rfl⟩
    have h0 := hd s0 (by simp)
    refine ⟨_, rfl, nofun, _, _, rfl, rfl, _, rfl, _, rfl, _, rfl, a, _, rfl, hs, by decide, by decide, fun form f0 f1 => ?_⟩
    refine ⟨_, rfl, nofun, _, 0, .ints s0, rfl, rfl, atI_0, _, _, rfl, rfl, rfl, ?_⟩
    have e0 : (((s0.map D.int).length : Nat) : Int) = (dd : Nat) := by simp [h0]
    refine uNext ?_
    dsimp only
    change sSeq _ _ _ [.d (.ref a), .d (.lst (rowsD (s0 :: S'))), .d (.tup (nearV r1 r2 l1 l2 q)), .ol (nearV r1 r2 l1 l2 q), .d (.int form), .d (.int (((s0.map D.int).length : Nat) : Int)), .any, .any, .any, .any, .any]
    rw [e0]
    have hF : fineL 8 (nearV r1 r2 l1 l2 q) = true := fineL_iff.mpr fun x hx => by
      simp [nearV] at hx
      rcases hx with e | e | e | e | e <;> rw [e] <;> exact fine_ints _ (by omega)
    refine seqI ?_
    intro KK hrt T0
    have T : ∀ (F : List D) (x6 x7 x8 x9 x10 : Sd), F.length ≤ 60 → fineL 8 F = true → KK.nx [.d (.ref a), .d (.lst (rowsD (s0 :: S'))), .d (.tup (nearV r1 r2 l1 l2 q)), .ol F, .d (.int form), .d (.int (dd : Nat)), x6, x7, x8, x9, x10] := fun F x6 x7 x8 x9 x10 h1 h2 => T0 _ ⟨_, rfl, nofun, _, _, rfl, rfl, _, rfl, z _ (fine_of_tup h1 h2)⟩
    clear T0
    have hrow : ∀ x ∈ rowsD (s0 :: S'), x.fine 8 = true := fun x hx => by
      obtain ⟨r, hr, rfl⟩ := mem_rowsD hx
      exact fine_ints _ (by rw [hd r hr]; omega)
    -- a state is replaced
    refine ⟨_, rfl, nofun, _, _, rfl, rfl, _, rfl, fun hb => ?_, fun hb => ?_⟩
    · have hf2 : form < 2 := of_decide_eq_true hb
      obtain ⟨r, m, hat, hix, hrl⟩ : ∃ (r : Row) (m : Nat), L2.atI (nearV r1 r2 l1 l2 q) form = some (.ints r) ∧ L2.ixN (nearV r1 r2 l1 l2 q).length form = some m ∧ r.length ≤ 50 := by
        have : form = 0 ∨ form = 1 := by omega
        rcases this with e | e <;> subst e
        · exact ⟨r1, 0, rfl, rfl, hr1⟩
        · exact ⟨r2, 1, rfl, rfl, hr2⟩
      refine ⟨_, rfl, _, rfl, _, rfl, nofun, _, rfl, _, rfl, nofun, _, rfl, nofun, _, _, _, rfl, rfl, hat, _, _, rfl, rfl, _, rfl, _, rfl, nofun, _, rfl, nofun, _, _, _, rfl, rfl, hat, _, rfl, by simp, .inr ⟨_, _, rfl, rfl, by simp; omega, _, rfl, by simp, .inl ⟨_, _, rfl, rfl, ?_, _, rfl, a, _, rfl, hs, by simp, ?_, fun x hx => ?_⟩⟩⟩
      · rw [rowsD_len]; simp at hl ⊢; omega
      · rw [List.length_append, rowsD_len]; simp at hl ⊢; omega
      · have hx8 : x.fine 8 = true := by
          rcases List.mem_append.mp hx with h | h
          · exact hrow x h
          · simp at h
            rcases h with e | e | e <;> rw [e]
            · rfl
            · exact fine_of_lst (by simp; omega) (fineL_ints r 7)
            · exact fine_of_tup (by simp; omega) (fineL_app (fineL_ints r 7) rfl)
        exact ⟨x, _, rfl, rfl, _, rfl, nofun, form, m, rfl, hix, T _ _ _ _ _ _ (by rw [List.length_set]; show 5 ≤ 60; decide) (fineL_set hF hx8)⟩
    refine ⟨_, rfl, nofun, _, _, rfl, rfl, _, rfl, fun hb => ?_, fun hb => ?_⟩
    · -- a lot is changed
      refine ⟨_, rfl, _, rfl, _, rfl, a, _, rfl, hs, by decide, by decide, fun u u0 u1 => ⟨_, _, rfl, rfl, ?_⟩⟩
      refine ⟨_, rfl, _, rfl, _, rfl, _, rfl, a, _, rfl, hs, by omega, by omega, fun k k0 k1 => ⟨rfl, ?_⟩⟩
      obtain ⟨lt, m, hat, hix, hll⟩ : ∃ (r : Row) (m : Nat), L2.atI (nearV r1 r2 l1 l2 q) (2 + u) = some (.ints r) ∧ L2.ixN (nearV r1 r2 l1 l2 q).length (2 + u) = some m ∧ r.length ≤ 50 := by
        have : u = 0 ∨ u = 1 := by omega
        rcases this with e | e <;> subst e
        · exact ⟨l1, 2, rfl, rfl, hl1⟩
        · exact ⟨l2, 3, rfl, rfl, hl2⟩
      refine uNext ?_
      dsimp only
      change sSeq _ _ _ [.d (.ref a), .d (.lst (rowsD (s0 :: S'))), .d (.tup (nearV r1 r2 l1 l2 q)), .ol (nearV r1 r2 l1 l2 q), .d (.int form), .d (.int (dd : Nat)), .d (.int (2 + u)), .d (.int k), .any, .any, .any]
      refine seqI ?_
      intro KK2 hrt2 T2
      have T3 : ∀ ns : List Int, ns.length ≤ 51 → KK2.nx [.d (.ref a), .d (.lst (rowsD (s0 :: S'))), .d (.tup (nearV r1 r2 l1 l2 q)), .ol (nearV r1 r2 l1 l2 q), .d (.int form), .d (.int (dd : Nat)), .d (.int (2 + u)), .d (.int k), .ol (ns.map .int), .any, .any] := by
        intro ns hns
        refine T2 _ (uFz ?_)
        have hn : fineL 7 (ns.map D.int) = true := fineL_ints ns 7
        refine ⟨_, rfl, _, rfl, _, rfl, nofun, _, _, rfl, rfl, _, rfl, _, rfl, nofun, _, _, rfl, rfl, _, rfl, _, rfl, nofun, _, _, rfl, rfl, _, rfl, _, rfl, _, rfl, _, rfl, nofun, _, _, rfl, rfl, _, rfl, _, rfl, by simp, .inr ⟨_, _, rfl, rfl, by simp; omega, _, rfl, _, rfl, nofun, _, _, rfl, rfl, _, rfl, _, rfl, _, rfl, by simp, _, rfl, a, _, rfl, hs, by simp, by simp, fun x hx => ?_⟩⟩
        have hx8 : x.fine 8 = true := by
          have hlen : (ns.map D.int).length ≤ 51 := by simpa using hns
          simp only [List.mem_cons, List.not_mem_nil, or_false] at hx
          rcases hx with e | e | e | e | e | e | e <;> rw [e]
          · exact fine_of_tup (by omega) hn
          · exact fine_of_tup (by omega) hn
          · exact fine_of_tup (by omega) hn
          · exact fine_of_lst (by omega) hn
          · exact fine_of_tup (by rw [List.length_append, List.length_singleton]; omega) (fineL_app hn (by simp [fineL, fine_int]))
          · exact fine_of_tup (by rw [List.length_reverse]; omega) (fineL_rev hn)
          · rfl
        exact ⟨x, _, rfl, rfl, _, rfl, nofun, _, m, rfl, hix, T _ _ _ _ _ _ (by rw [List.length_set]; show 5 ≤ 60; decide) (fineL_set hF hx8)⟩
      refine ⟨_, rfl, nofun, _, rfl, nofun, _, rfl, nofun, _, _, _, rfl, rfl, hat, _, _, rfl, rfl, _, rfl, fun hb => ?_, fun hb => ?_⟩
      · refine ⟨_, rfl, nofun, _, rfl, nofun, _, _, _, rfl, rfl, hat, _, _, rfl, rfl, _, rfl, _, rfl, by simp, .inl ⟨_, _, rfl, rfl, by simp; omega, lt ++ [k], ?_, by simp; omega, fun ns h1 h2 => T3 ns ?_⟩⟩
        · show some _ = some _
          rw [List.map_append]; rfl
        · have := asc_len ns (lt ++ [k]) h1 fun x hx => (h2 x).mp hx
          rw [List.length_append, List.length_singleton] at this
          omega
      · refine lcG (xs := lt.map .int) (fun d => ∃ i : Int, d = .int i ∧ True) (fun K' h' => ⟨_, rfl, nofun, _, rfl, nofun, _, _, _, rfl, rfl, hat, _, _, rfl, rfl, h'⟩) (by simp; omega) (fun x hx K' k1 k2 => ?_) (fun x hx K' k' => ?_) fun acc hacc hal => ?_
        · obtain ⟨i, _, rfl⟩ := List.mem_map.mp hx
          exact ⟨_, rfl, nofun, _, rfl, nofun, _, _, rfl, rfl, rfl, rfl, _, rfl, both k1 k2 _⟩
        · obtain ⟨i, _, rfl⟩ := List.mem_map.mp hx
          exact ⟨_, rfl, k' _ _ rfl ⟨i, rfl, trivial⟩⟩
        · obtain ⟨ns, rfl, _⟩ := ints_of hacc
          exact T3 ns (by simp at hal; omega)
    refine ⟨_, rfl, nofun, _, _, rfl, rfl, _, rfl, fun hb => ?_, fun hb => ?_⟩
    · -- an answer is changed
      have hSl : (rowsD (s0 :: S')).length = q.length := by rw [rowsD_len, hq]
      have hql : 0 < q.length ∧ q.length ≤ 50 := ⟨by rw [hq]; simp, by rw [hq]; exact hl⟩
      refine ⟨_, rfl, _, rfl, _, rfl, nofun, _, _, rfl, rfl, _, rfl, a, _, rfl, hs, by rw [hSl]; omega, by rw [hSl]; omega, fun i i0 i1 => ?_⟩
      obtain ⟨n, rfl⟩ := Int.eq_ofNat_of_zero_le i0
      have hn : n < q.length := by omega
      refine ⟨_, rfl, nofun, _, 4, .ints q, rfl, rfl, rfl, _, _, rfl, rfl, rfl, ?_⟩
      refine uNext ?_
      dsimp only
      change sSeq _ _ _ [.d (.ref a), .d (.lst (rowsD (s0 :: S'))), .d (.tup (nearV r1 r2 l1 l2 q)), .ol (nearV r1 r2 l1 l2 q), .d (.int form), .d (.int (dd : Nat)), .d (.int (n : Nat)), .any, .any, .any, .ol (q.map .int)]
      have hat : L2.atI (q.map D.int) (n : Int) = some (.int q[n]) := ints_at hn
      have hix : L2.ixN (q.map D.int).length (n : Int) = some n := by
        unfold L2.ixN
        rw [if_pos (by omega), if_pos (by simp; omega)]
        simp
      refine seqI ?_
      intro KK2 hrt2 T2
      refine ⟨_, rfl, _, rfl, _, rfl, nofun, _, rfl, nofun, _, _, _, rfl, rfl, hat, _, _, rfl, rfl, _, rfl, _, rfl, nofun, _, rfl, nofun, _, _, _, rfl, rfl, hat, _, _, rfl, _, _, rfl, rfl, _, rfl, _, rfl, _, rfl, _, rfl, _, rfl, by simp, _, rfl, a, _, rfl, hs, by simp, by simp, fun x hx => ?_⟩
      have hx7 : x.fine 7 = true := by
        simp only [List.mem_cons, List.not_mem_nil, or_false] at hx
        rcases hx with e | e | e | e | e <;> rw [e] <;> rfl
      refine ⟨x, _, rfl, rfl, _, rfl, nofun, _, n, rfl, hix, T2 _ (uFz ?_)⟩
      have hQ : fineL 7 ((q.map D.int).set n x) = true := fineL_set (fineL_ints q 7) hx7
      have hQl : ((q.map D.int).set n x).length ≤ 50 := by rw [List.length_set, List.length_map]; omega
      generalize (q.map D.int).set n x = row at hQ hQl
      refine ⟨_, rfl, _, rfl, _, rfl, nofun, _, _, rfl, rfl, _, rfl, _, rfl, nofun, _, _, rfl, rfl, _, rfl, _, rfl, nofun, _, _, rfl, rfl, _, rfl, _, rfl, _, rfl, _, rfl, nofun, 1, rfl, .inl ⟨_, rfl, _, _, rfl, rfl, _, rfl, by simp, _, rfl, a, _, rfl, hs, by simp, by simp, fun x hx => ?_⟩⟩
      have hx8 : x.fine 8 = true := by
        simp only [List.mem_cons, List.not_mem_nil, or_false] at hx
        rcases hx with e | e | e | e | e <;> rw [e]
        · exact fine_of_tup (by omega) hQ
        · exact fine_of_tup (by omega) hQ
        · exact fine_of_tup (by omega) hQ
        · exact fine_of_lst (by omega) hQ
        · exact fine_of_tup (by have := cutG_length row (some 1) none; omega) (fineL_cut hQ)
      exact ⟨x, _, rfl, rfl, 4, 4, rfl, rfl, T _ _ _ _ _ _ (by rw [List.length_set]; show 5 ≤ 60; decide) (fineL_set hF hx8)⟩
    refine ⟨_, rfl, nofun, _, _, _, rfl, rfl, rfl, _, rfl, fun hb => ?_, fun hb => ?_⟩
    · -- the whole is changed
      refine uFz ?_
      refine ⟨_, rfl, _, rfl, _, rfl, _, rfl, _, rfl, _, rfl, nofun, 4, rfl, .inr ⟨_, rfl, _, rfl, _, rfl, nofun, _, rfl, by simp, .inr ⟨_, _, rfl, rfl, by simp [nearV], _, rfl, _, rfl, nofun, _, rfl, _, rfl, _, rfl, nofun, _, 1, _, rfl, rfl, rfl, _, rfl, _, rfl, nofun, _, 0, _, rfl, rfl, rfl, _, rfl, by simp, _, rfl, nofun, 2, rfl, .inr ⟨_, rfl, .inr ⟨_, _, rfl, rfl, ?_, _, rfl, by simp, _, rfl, a, _, rfl, hs, by simp, by simp, fun x hx => ⟨_, rfl, ?_⟩⟩⟩⟩⟩⟩
      · have := cutG_length (nearV r1 r2 l1 l2 q) (some 2) none
        simp [nearV] at this ⊢
        omega
      · rw [hrt]
        refine z x ?_
        have h5 : (nearV r1 r2 l1 l2 q).length = 5 := rfl
        simp only [List.mem_cons, List.not_mem_nil, or_false] at hx
        rcases hx with e | e | e | e | e | e <;> rw [e]
        · exact fine_of_lst (by omega) hF
        · rfl
        · exact fine_of_tup (by have := cutG_length (nearV r1 r2 l1 l2 q) none (some 4); omega) (fineL_cut hF)
        · exact fine_of_tup (by rw [List.length_append, List.length_singleton]; omega) (fineL_app hF (by simp [fineL, fine_int]))
        · exact fine_of_tup (by rw [List.length_reverse]; omega) (fineL_rev hF)
        · refine fine_of_tup (by have := cutG_length (nearV r1 r2 l1 l2 q) (some 2) none; simp at this ⊢; omega) (fineL_app ?_ (fineL_cut hF))
          exact fineL_iff.mpr fun y hy => fineL_iff.mp hF y (by simp at hy; rcases hy with e | e <;> rw [e] <;> simp [nearV])
    · refine ⟨_, rfl, nofun, _, 0, _, rfl, rfl, rfl, _, rfl, _, rfl, nofun, _, 1, _, rfl, rfl, rfl, _, rfl, _, rfl, nofun, _, 3, _, rfl, rfl, rfl, _, rfl, _, rfl, nofun, _, 2, _, rfl, rfl, rfl, _, rfl, _, rfl, nofun, _, 4, _, rfl, rfl, rfl, _, rfl, by simp, ?_⟩
      refine T _ _ _ _ _ _ (by simp) ?_
      exact fineL_iff.mpr fun y hy => fineL_iff.mp hF y (by simp at hy; rcases hy with e | e | e | e | e <;> rw [e] <;> simp [nearV]))
end
end DL
/-! A dict whose keys are texts and nested tuples at once. -/
namespace DL.MX
open PySem PySem.Sem PySem.Spec L2
abbrev Rw := NestedKey × Value × Value
def ent (w : World) (x : Rw) : DictEntry := ⟨x.1.hash w, x.2.1, x.2.2⟩
/-- a key of the dict -/
def KeyV (h : Heap) (k : NestedKey) (v : Value) : Prop := NestedIs h k v ∧ k.depth ≤ 8
section
variable {prog : Program} {w : World} {A : Around} {E : Value → Shared → Prop} {s : Shared}
theorem eqb {x y : NestedKey} {a b : Value} {Q : Bool → Shared → Prop} (hu : A.units + 8 < cLine) (ha : KeyV s.heap x a) (hb : KeyV s.heap y b) (h : Q (decide (x = y)) s) : wpAny (model prog w) A (PySem.eqBool a b) Q E s :=
  eqAt_key x y A s a b ha.1 hb.1 (by have := ha.2; omega) _ _ _ _ (by rw [← NestedKey.decide_eq]; exact h)
theorem quiet {k : NestedKey} {v : Value} {Q : Bool → Shared → Prop} (hk : KeyV s.heap k v) (h : Q true s) : wpAny (model prog w) A (eqIsQuiet 8 v) Q E s := quiet_key k v 8 s hk.1 hk.2 A E Q h
theorem no_tell {k : NestedKey} {v : Value} {vs : List Value} {Q : Bool → Shared → Prop} (hk : KeyV s.heap k v) (hs : ∀ u ∈ vs, ∃ k', KeyV s.heap k' u) (h : Q false s) : wpAny (model prog w) A (tableMayTell v vs) Q E s := by
  unfold tableMayTell
  split
  · exact wpAny_pure h
  refine wpAny_bind (quiet hk ?_)
  rw [if_neg (by decide)]
  refine wpAny_bind (wpAny_forIn_list _ (fun rest r s' => s' = s ∧ r = (none, ()) ∧ ∀ u ∈ rest, ∃ k', KeyV s.heap k' u) _ ?_ ?_ _ _ ⟨rfl, rfl, hs⟩)
  · rintro u rest r s' ⟨rfl, rfl, hr⟩
    obtain ⟨k', hk'⟩ := hr u (by simp)
    refine wpAny_bind (quiet hk' ?_)
    rw [if_neg (by decide)]
    exact wpAny_pure ⟨rfl, rfl, fun v hv => hr v (by simp [hv])⟩
  · rintro r s' ⟨rfl, rfl, _⟩
    exact wpAny_pure h
theorem key_str {h : Heap} {k : NestedKey} {x : Str} {t : Tok} (hk : NestedIs h k (.str x t)) : k = .text x := by cases hk; rfl
theorem isStr_iff {h : Heap} {k : NestedKey} {v : Value} (hk : NestedIs h k v) (hs : isExactStrKey v = true) (x : Str) : v.isStr x = decide (k = .text x) := by
  cases hk <;> first | (cases hs; done) | skip
  rename_i y t
  rw [NestedKey.decide_eq]
  show (y == x) = decide (y = x)
  by_cases e : y = x
  · subst e; simp
  · simp [e]
/-- the dict's entries -/
structure Holds (w : World) (h : Heap) (d : Addr) (o : Obj) (es : Array DictEntry) (ep : Nat) (xs : List Rw) : Prop where
  ob : h.get? d = some o
  dt : o.data = .dict es ep
  en : es.toList = xs.map (ent w)
  ks : ∀ x ∈ xs, KeyV h x.1 x.2.1
  nd : (xs.map (·.1)).Nodup
variable {d : Addr} {o : Obj} {es : Array DictEntry} {ep : Nat} {xs : List Rw}
theorem Holds.at {h : Heap} (H : Holds w h d o es ep xs) (j : Nat) : es[j]? = (xs[j]?).map (ent w) := by
  rw [← Array.getElem?_toList, H.en, List.getElem?_map]
theorem Holds.size {h : Heap} (H : Holds w h d o es ep xs) : es.size = xs.length := by
  rw [← Array.length_toList, H.en, List.length_map]
theorem Holds.uniq {h : Heap} (H : Holds w h d o es ep xs) {i j : Nat} {x y : Rw} (hi : xs[i]? = some x) (hj : xs[j]? = some y) (e : x.1 = y.1) : i = j := by
  have a : (xs.map (·.1))[i]? = some x.1 := by rw [List.getElem?_map, hi]; rfl
  have b : (xs.map (·.1))[j]? = some y.1 := by rw [List.getElem?_map, hj]; rfl
  exact (List.getElem?_inj (List.getElem?_eq_some_iff.mp a).1 H.nd).mp (by rw [a, b, e])
/-- dict.find, any road -/
theorem find {k : NestedKey} {key : Value} {Q : Option Nat → Shared → Prop} (hkey : (∃ x t, key = .str x t) ∨ ∃ a, key = .ref a) (hu : A.units + 8 < cLine) (H : Holds w s.heap d o es ep xs) (hk : KeyV s.heap k key)
    (no : (∀ (j : Nat) x, xs[j]? = some x → x.1 ≠ k) → Q none s) (yes : ∀ (j : Nat) x, xs[j]? = some x → x.1 = k → Q (some j) s) : wpAny (model prog w) A (dictFind d key (k.hash w)) Q E s := by
  have plc : ∀ i, i ∈ placesWithHash es.size (fun i => es[i]?.map (·.hash)) (k.hash w) ↔ ∃ x, xs[i]? = some x ∧ x.1.hash w = k.hash w := fun i => by
    unfold placesWithHash
    rw [List.mem_filter, List.mem_range, H.size]
    constructor
    · rintro ⟨h1, h2⟩
      have h2 : ((es[i]?.map (·.hash)) == some (k.hash w)) = true := h2
      rw [H.at] at h2
      obtain ⟨x, hx⟩ : ∃ x, xs[i]? = some x := ⟨xs[i], by simp [h1]⟩
      rw [hx] at h2
      exact ⟨x, hx, by simpa [ent] using h2⟩
    · rintro ⟨x, hx, e⟩
      refine ⟨(List.getElem?_eq_some_iff.mp hx).1, ?_⟩
      show ((es[i]?.map (·.hash)) == some (k.hash w)) = true
      rw [H.at, hx]
      simp [ent, e]
  have pnd : (placesWithHash es.size (fun i => es[i]?.map (·.hash)) (k.hash w)).Nodup := by
    unfold placesWithHash
    exact List.Nodup.sublist List.filter_sublist List.nodup_range
  generalize hP : placesWithHash es.size (fun i => es[i]?.map (·.hash)) (k.hash w) = P at plc pnd
  have stk : ∀ u ∈ P.filterMap (fun i => es[i]?.map (·.key)), ∃ k', KeyV s.heap k' u := by
    intro u hu
    obtain ⟨i, hi, e⟩ := List.mem_filterMap.mp hu
    obtain ⟨x, hx, _⟩ := (plc i).mp hi
    rw [H.at, hx] at e
    have e2 : x.2.1 = u := by simpa [ent] using e
    exact ⟨x.1, e2 ▸ H.ks x (List.mem_of_getElem? hx)⟩
  unfold dictFind
  try with_reducible refine wpAny_holding ?_
  refine wpAny_bind (wpAny_dictEntries H.ob H.dt ?_)
  dsimp only
  rw [hP]
  have walk : wpAny (model prog w) A (dictWalkPlain d key (k.hash w) es P) Q E s := by
    unfold dictWalkPlain
    refine wpAny_bind (wpAny_forIn_list _ (fun rest b s' => s' = s ∧ b = (none, ()) ∧ (∀ i ∈ rest, i ∈ P) ∧ ∀ i ∈ P, i ∈ rest ∨ ∀ x, xs[i]? = some x → x.1 ≠ k) _ ?_ ?_ _ _ ⟨rfl, rfl, fun i h => h, fun i h => .inl h⟩)
    · rintro i rest b s' ⟨rfl, rfl, h1, h2⟩
      obtain ⟨x, hx, hh⟩ := (plc i).mp (h1 i (by simp))
      have hm := List.mem_of_getElem? hx
      have e0 : es[i]? = some (ent w x) := by rw [H.at, hx]; rfl
      rw [e0]
      dsimp only
      rw [if_pos (show ((ent w x).hash == k.hash w) = true by show (x.1.hash w == k.hash w) = true; rw [hh]; simp)]
      refine wpAny_bind (wpAny_dictEpoch H.ob H.dt (wpAny_bind (eqb hu (H.ks x hm) hk (wpAny_bind (wpAny_dictEpoch H.ob H.dt ?_)))))
      rw [if_neg (by simp)]
      by_cases e : x.1 = k
      · rw [decide_eq_true e]
        exact wpAny_bind (wpAny_rule (wpAny_pure (wpAny_pure (yes i x hx e))))
      · rw [decide_eq_false e]
        refine wpAny_bind (wpAny_rule (wpAny_pure ⟨rfl, rfl, fun j hj => h1 j (by simp [hj]), fun j hj => ?_⟩))
        rcases h2 j hj with q | q
        · rcases List.mem_cons.mp q with q | q
          · refine .inr fun y hy => ?_
            rw [q, hx] at hy
            cases hy
            exact e
          · exact .inl q
        · exact .inr q
    · rintro b s' ⟨rfl, rfl, h1, h2⟩
      refine wpAny_pure (no fun j x hj e => ?_)
      rcases h2 j ((plc j).mpr ⟨x, hj, by rw [e]⟩) with q | q
      · simp at q
      · exact q x hj e
  rcases hkey with ⟨x, t, rfl⟩ | ⟨a, rfl⟩
  case' inl =>
    dsimp only
    by_cases hall : (es.all fun e => isExactStrKey e.key) = true
    case pos =>
      rw [if_pos hall]
      have ek := key_str hk.1
      subst ek
      have isS : ∀ (j : Nat) y, xs[j]? = some y → y.2.1.isStr x = decide (y.1 = .text x) := fun j y hy => by
        refine isStr_iff (H.ks y (List.mem_of_getElem? hy)).1 ?_ x
        have hj : j < es.size := by rw [H.size]; exact (List.getElem?_eq_some_iff.mp hy).1
        have e0 : es[j]? = some (ent w y) := by rw [H.at, hy]; rfl
        rw [Array.getElem?_eq_getElem hj] at e0
        have := Array.all_eq_true.mp hall j hj
        rw [Option.some.inj e0] at this
        exact this
      unfold foundByValue
      cases hf : es.findIdx? (fun e => e.key.isStr x) with
      | none =>
        refine wpAny_pure (no fun j y hy e => ?_)
        have hj : j < es.size := by rw [H.size]; exact (List.getElem?_eq_some_iff.mp hy).1
        have e0 : es[j]? = some (ent w y) := by rw [H.at, hy]; rfl
        have := Array.findIdx?_eq_none_iff.mp hf (ent w y) (Array.mem_of_getElem? e0)
        have q := isS j y hy
        rw [decide_eq_true e] at q
        rw [show (ent w y).key = y.2.1 from rfl, q] at this
        cases this
      | some i =>
        obtain ⟨hlt, hi, _⟩ := Array.findIdx?_eq_some_iff_getElem.mp hf
        obtain ⟨y, hy⟩ : ∃ y, xs[i]? = some y := ⟨xs[i]'(by rw [← H.size]; exact hlt), List.getElem?_eq_getElem _⟩
        have e0 : es[i]? = some (ent w y) := by rw [H.at, hy]; rfl
        have e1 : y.1 = .text x := by
          have e2 := e0
          rw [Array.getElem?_eq_getElem hlt] at e2
          rw [Option.some.inj e2] at hi
          have q := isS i y hy
          rw [show y.2.1.isStr x = true from hi] at q
          exact of_decide_eq_true q.symm
        dsimp only
        rw [e0]
        dsimp only
        refine wpAny_bind (wpAny_dictEpoch H.ob H.dt (wpAny_bind (eqb hu (H.ks y (List.mem_of_getElem? hy)) hk (wpAny_bind (wpAny_dictEpoch H.ob H.dt ?_)))))
        rw [if_neg (by simp), decide_eq_true e1]
        exact wpAny_bind (wpAny_rule (wpAny_pure (yes i y hy e1)))
    rw [if_neg hall]
    by_cases hv : ((Value.str x t :: P.filterMap (fun i => es[i]?.map (·.key))).all carriedByValue) = true
    case pos =>
      rw [if_pos hv]
      exact walk
    rw [if_neg hv]
  case' inr =>
    dsimp only
    rw [if_neg (by simp [carriedByValue])]
    rw [if_neg (by
      rw [← Array.any_toList, List.any_eq_true]
      rintro ⟨e, he, hc⟩
      rw [H.en] at he
      obtain ⟨y, hy, rfl⟩ := List.mem_map.mp he
      simp only [ent, Bool.and_eq_true, beq_iff_eq, bne_iff_ne, ne_eq] at hc
      have q := (H.ks y hy).1
      rw [hc.1] at q
      exact hc.2 (by rw [NestedIs.inj _ _ _ q hk.1]))]
  all_goals
    split
  case' inl.isTrue => refine wpAny_bind (wpAny_pure ?_)
  case' inr.isTrue => refine wpAny_bind (wpAny_pure ?_)
  case' inl.isFalse => refine wpAny_bind (no_tell hk stk ?_)
  case' inr.isFalse => refine wpAny_bind (no_tell hk stk ?_)
  all_goals
    rw [if_neg (by simp)]
    refine wpAny_bind (wpAny_forIn_list _ (fun rest b s' => s' = s ∧ ∃ hit, b = (none, hit) ∧ rest.Nodup ∧ (∀ i ∈ rest, i ∈ P) ∧ ((hit = none ∧ ∀ i ∈ P, i ∈ rest ∨ ∀ x, xs[i]? = some x → x.1 ≠ k) ∨ ∃ j x, hit = some j ∧ j ∉ rest ∧ xs[j]? = some x ∧ x.1 = k)) _ ?_ ?_ _ _ ⟨rfl, none, rfl, pnd, fun i h => h, .inl ⟨rfl, fun i h => .inl h⟩⟩)
    · rintro i rest b s' ⟨rfl, hit, rfl, hn, h1, h2⟩
      obtain ⟨hn1, hn2⟩ := List.nodup_cons.mp hn
      obtain ⟨x, hx, hh⟩ := (plc i).mp (h1 i (by simp))
      have hm := List.mem_of_getElem? hx
      have e0 : es[i]? = some (ent w x) := by rw [H.at, hx]; rfl
      have h1' : ∀ j ∈ rest, j ∈ P := fun j hj => h1 j (by simp [hj])
      rw [e0]
      dsimp only
      rw [if_pos (show ((ent w x).hash == k.hash w) = true by show (x.1.hash w == k.hash w) = true; rw [hh]; simp)]
      refine wpAny_bind (wpAny_dictEpoch H.ob H.dt (wpAny_bind (eqb hu (H.ks x hm) hk (wpAny_bind (wpAny_dictEpoch H.ob H.dt ?_)))))
      rw [if_neg (by simp)]
      by_cases e : x.1 = k
      · rw [decide_eq_true e, if_pos rfl]
        rcases h2 with ⟨rfl, h2⟩ | ⟨j, y, rfl, hj, hy, e2⟩
        · rw [if_neg (by decide)]
          refine wpAny_bind (wpAny_rule ?_)
          split
          · exact wpAny_pure (wpAny_pure (yes i x hx e))
          · exact wpAny_pure ⟨rfl, some i, rfl, hn2, h1', .inr ⟨i, x, rfl, hn1, hx, e⟩⟩
        · have := H.uniq hy hx (e2.trans e.symm)
          subst this
          exact absurd (by simp) hj
      · rw [decide_eq_false e, if_neg (by decide)]
        refine wpAny_bind (wpAny_rule ?_)
        rw [if_neg (by simp)]
        refine wpAny_pure ⟨rfl, hit, rfl, hn2, h1', ?_⟩
        rcases h2 with ⟨h0, h2⟩ | ⟨j, y, h0, hj, hy, e2⟩
        · refine .inl ⟨h0, fun j hj => ?_⟩
          rcases h2 j hj with q | q
          · rcases List.mem_cons.mp q with q | q
            · refine .inr fun y hy => ?_
              rw [q, hx] at hy
              cases hy
              exact e
            · exact .inl q
          · exact .inr q
        · exact .inr ⟨j, y, h0, fun z => hj (List.mem_cons_of_mem _ z), hy, e2⟩
    · rintro b s' ⟨rfl, hit, rfl, _, h1, h2⟩
      rcases h2 with ⟨rfl, h2⟩ | ⟨j, x, rfl, _, hx, e⟩
      · refine wpAny_pure (no fun j x hj e => ?_)
        rcases h2 j ((plc j).mpr ⟨x, hj, by rw [e]⟩) with q | q
        · simp at q
        · exact q x hj e
      · exact wpAny_pure (yes j x hx e)
/-! ### get, set -/
def look (xs : List Rw) (k : NestedKey) : Option Value := (xs.find? fun x => decide (x.1 = k)).map (·.2.2)
theorem look_none {k : NestedKey} (h : ∀ (j : Nat) x, xs[j]? = some x → x.1 ≠ k) : look xs k = none := by
  unfold look
  rw [List.find?_eq_none.mpr (fun x hx => by
    obtain ⟨j, hj⟩ := List.getElem?_of_mem hx
    simpa using h j x hj)]
  rfl
theorem look_at {k : NestedKey} (nd : (xs.map (·.1)).Nodup) {j : Nat} {x : Rw} (h : xs[j]? = some x) (e : x.1 = k) : look xs k = some x.2.2 := by
  induction xs generalizing j with
  | nil => simp at h
  | cons y ys ih =>
    rw [List.map_cons, List.nodup_cons] at nd
    unfold look
    rw [List.find?_cons]
    cases j with
    | zero =>
      simp at h
      subst h
      simp [e]
    | succ j =>
      simp at h
      have ne : ¬ y.1 = k := fun z => nd.1 (List.mem_map.mpr ⟨x, List.mem_of_getElem? h, by rw [e, z]⟩)
      simp only [ne, decide_false]
      exact ih nd.2 h
theorem get {k : NestedKey} {key : Value} {Q : Option Value → Shared → Prop} (hkey : (∃ x t, key = .str x t) ∨ ∃ a, key = .ref a) (hu : A.units + 8 < cLine) (H : Holds w s.heap d o es ep xs) (hk : KeyV s.heap k key)
    (h : Q (look xs k) { s with toks := s.toks + k.draws }) : wpAny (model prog w) A (dictGet d key) Q E s := by
  unfold dictGet
  try with_reducible refine wpAny_holding ?_
  refine wpAny_bind (pyHash_key k key A s _ hk.1 (by have := hk.2; omega) (wpAny_bind (find (s := { s with toks := s.toks + k.draws }) hkey hu ⟨H.ob, H.dt, H.en, H.ks, H.nd⟩ hk ?_ ?_)))
  · intro no
    rw [look_none no] at h
    exact wpAny_pure h
  · intro j x hj e
    rw [look_at H.nd hj e] at h
    refine wpAny_bind (wpAny_dictEntries (s := { s with toks := s.toks + k.draws }) H.ob H.dt ?_)
    rw [H.at, hj]
    exact wpAny_pure h
end
end DL.MX
namespace DL.MX
open PySem PySem.Sem PySem.Spec L2
section
variable {prog : Program} {w : World} {A : Around} {E : Value → Shared → Prop} {s : Shared} {d : Addr} {o : Obj} {es : Array DictEntry} {ep : Nat} {xs : List Rw} {k : NestedKey} {key : Value}
theorem typ (ob : s.heap.get? d = some o) (ex : o.ExactDict) : s.TypeIs (.ref d) "dict" := ⟨o, ob, ex.1⟩
theorem has {Q : Bool → Shared → Prop} (hkey : (∃ x t, key = .str x t) ∨ ∃ a, key = .ref a) (hu : A.units + 9 < cLine) (hd : (d == sysModules) = false) (H : Holds w s.heap d o es ep xs) (ex : o.ExactDict) (hk : KeyV s.heap k key)
    (h : Q (look xs k).isSome { s with toks := s.toks + k.draws }) : wpAny (model prog w) A (contains (.ref d) key) Q E s := by
  have tI := typ H.ob ex
  unfold contains
  try with_reducible refine wpAny_holding ?_
  refine wpAny_bind (wpAny_specialOf tI slot_dict_contains.lookup ?_)
  rw [if_neg (by rw [beq_builtin_none]; decide)]
  refine wpAny_bind (wpAny_callSpecialUnlessNone?_slot (name := Str.ofString "__contains__") tI slot_dict_contains (wpAny_call_entry slot_dict_contains tI entry_dict_contains ?_ (args_dict_contains _ _)))
  show wpAny _ _ (dictGet d key >>= _) _ _ s
  refine wpAny_bind (get hkey hu H hk ?_)
  cases hf : look xs k with
  | some p =>
    rw [hf] at h
    exact wpAny_pure ⟨.bool true, rfl, wpAny_truthy_bool h⟩
  | none =>
    rw [hf] at h
    show wpAny _ _ (Builtin.Dict.pendingKey? d key >>= _) _ _ _
    exact wpAny_bind (wpAny_pendingKey_other hd (wpAny_pure ⟨.bool false, rfl, wpAny_truthy_bool h⟩))
theorem getIt {v : Value} {Q : Value → Shared → Prop} (hkey : (∃ x t, key = .str x t) ∨ ∃ a, key = .ref a) (hu : A.units + 9 < cLine) (H : Holds w s.heap d o es ep xs) (ex : o.ExactDict) (hk : KeyV s.heap k key) (hv : look xs k = some v)
    (h : Q v { s with toks := s.toks + k.draws }) : wpAny (model prog w) A (getItem (.ref d) key) Q E s := by
  have tI := typ H.ob ex
  unfold getItem
  try with_reducible refine wpAny_holding ?_
  refine wpAny_bind (wpAny_sequenceKey tI (by decide) ?_)
  refine wpAny_bind (wpAny_callSpecial?_slot (name := Str.ofString "__getitem__") tI slot_dict_getitem (wpAny_call_entry slot_dict_getitem tI entry_dict_getitem ?_ (args_dict_getitem _ _)))
  show wpAny _ _ (dictGet d key >>= _) _ _ s
  refine wpAny_bind (get hkey hu H hk ?_)
  rw [hv]
  exact wpAny_pure ⟨v, rfl, wpAny_pure h⟩
/-- a new key is put -/
theorem put {v : Value} {Q : Unit → Shared → Prop} (hkey : (∃ x t, key = .str x t) ∨ ∃ a, key = .ref a) (hu : A.units + 8 < cLine) (H : Holds w s.heap d o es ep xs) (ex : o.ExactDict) (hk : KeyV s.heap k key) (hn : look xs k = none) (hz : xs.length ≤ 10000)
    (h : ∀ h' o' es' ep', h'.get? d = some o' → o'.ExactDict → o'.data = .dict es' ep' → es'.toList = (xs ++ [(k, key, v)]).map (ent w) → Heap.SameBut d s.heap h' → Q () { s with heap := h', toks := s.toks + k.draws }) : wpAny (model prog w) A (dictSet d key v) Q E s := by
  unfold dictSet
  try with_reducible refine wpAny_holding ?_
  refine wpAny_bind (pyHash_key k key A s _ hk.1 (by have := hk.2; omega) ?_)
  unfold dictSetHashed
  try with_reducible refine wpAny_holding ?_
  refine wpAny_bind (find (s := { s with toks := s.toks + k.draws }) hkey hu ⟨H.ob, H.dt, H.en, H.ks, H.nd⟩ hk ?_ ?_)
  · intro no
    have hz' : es.size ≤ sizeLine := by rw [H.size]; exact Nat.le_trans hz (by decide)
    refine wpAny_bind (wpAny_rule (wpAny_updateDictKeys (hz := hz') (s := { s with toks := s.toks + k.draws }) H.ob H.dt (h _ _ _ (ep + 1) (Heap.get?_update_self _ H.ob (Obj.isFreed_of_dict (Obj.data_mapDictKeys H.dt _))) (ex.mapDictKeys _) (Obj.data_mapDictKeys H.dt _) ?_ (Heap.SameBut.update ..))))
    rw [List.map_append, ← H.en]
    simp [ent]
  · intro j x hj e
    rw [look_at H.nd hj e] at hn
    cases hn
theorem putIt {v : Value} {Q : Unit → Shared → Prop} (hkey : (∃ x t, key = .str x t) ∨ ∃ a, key = .ref a) (hu : A.units + 9 < cLine) (H : Holds w s.heap d o es ep xs) (ex : o.ExactDict) (hk : KeyV s.heap k key) (hn : look xs k = none) (hz : xs.length ≤ 10000)
    (h : ∀ h' o' es' ep', h'.get? d = some o' → o'.ExactDict → o'.data = .dict es' ep' → es'.toList = (xs ++ [(k, key, v)]).map (ent w) → Heap.SameBut d s.heap h' → Q () { s with heap := h', toks := s.toks + k.draws }) : wpAny (model prog w) A (setItem (.ref d) key v) Q E s := by
  have tI := typ H.ob ex
  unfold setItem
  try with_reducible refine wpAny_holding ?_
  refine wpAny_bind (wpAny_sequenceKey tI (by decide) ?_)
  refine wpAny_bind (wpAny_callSpecial?_slot (name := Str.ofString "__setitem__") tI slot_dict_setitem (wpAny_call_entry slot_dict_setitem tI entry_dict_setitem ?_ (args_dict_setitem _ _ _)))
  show wpAny _ _ (Builtin.Dict.notOrdered "__setitem__" ⟨[.ref d, key, v], []⟩ >>= _) _ _ s
  refine wpAny_bind (wpAny_notOrdered_dict tI ?_)
  show wpAny _ _ (dictSet d key v >>= _) _ _ s
  exact wpAny_bind (put hkey hu H ex hk hn hz fun h' o' es' ep' a1 a2 a3 a4 a5 => wpAny_pure ⟨.none, rfl, wpAny_pure (h h' o' es' ep' a1 a2 a3 a4 a5)⟩)
end
end DL.MX
namespace DL.MX
open PySem PySem.Sem PySem.Spec L2
abbrev Vw := NestedKey × V × V
def RelW (p : Vw) (q : Rw) : Prop := p.1 = q.1 ∧ RelV p.2.1 q.2.1 ∧ RelV p.2.2 q.2.2
/-- the dict at d with these entries -/
def MxO (w : World) (d : Addr) (rows : List Vw) : HO := .ext fun h => ∃ o es ep xs, Paired RelW rows xs ∧ h.get? d = some o ∧ o.ExactDict ∧ o.data = .dict es ep ∧ es.toList = xs.map (ent w) ∧ (d == sysModules) = false
/-- v is the key k -/
def KeyH (H : Hp) (k : NestedKey) (v : V) : Prop := (∃ x, k = .text x ∧ v = .str x) ∨ ∃ (a b : Addr) (x : Str) (ns : List Int), k = .tup [.text x, .tup (ns.map .num)] ∧ v = .ref a ∧ H a = some (.tup [.str x, .ref b]) ∧ H b = some (.tup (ns.map V.int))
def lookW (rows : List Vw) (k : NestedKey) : Option V := (rows.find? fun x => decide (x.1 = k)).map (·.2.2)
structure MxOk (H : Hp) (rows : List Vw) : Prop where
  ks : ∀ x ∈ rows, KeyH H x.1 x.2.1
  nd : (rows.map (·.1)).Nodup
  few : rows.length ≤ 10000
theorem nums {h : Heap} : ∀ {ns : List Int} {us : List Value}, Vals (ns.map V.int) us → NestedAll h (ns.map .num) us
  | [], [], _ => .nil
  | n :: ns, u :: us, r => by
    cases r with
    | cons r1 r2 =>
      obtain ⟨t, rfl⟩ := r1
      exact .cons (.int n t) (nums r2)
section
variable {X : Cx} {pins : List (Addr × Obj)} {σ : L2.St} {H : Hp} {s : Shared} {d : Addr} {rows : List Vw} {k : NestedKey} {v : V} {u : Value}
theorem tup_at (I : L2.Inv X pins σ H s) {a : Addr} {xs : List V} (h : H a = some (.tup xs)) : ∃ (us : List Value) (ob : Obj) (n : Nat), Vals xs us ∧ s.heap.get? a = some ob ∧ ob.cls = .type "tuple" ∧ ob.data = .seq us.toArray n := by
  obtain ⟨_, us, r, ob, e, c, n, dd⟩ := I.hok a _ h
  exact ⟨us, ob, n, r, e, c, dd⟩
theorem keyV (I : L2.Inv X pins σ H s) (h : KeyH H k v) (r : RelV v u) : KeyV s.heap k u ∧ ((∃ x t, u = .str x t) ∨ ∃ a, u = .ref a) := by
  rcases h with ⟨x, rfl, rfl⟩ | ⟨a, b, x, ns, rfl, rfl, ha, hb⟩
  · obtain ⟨t, rfl⟩ := r
    exact ⟨⟨.text x t, by show 0 ≤ 8; decide⟩, .inl ⟨x, t, rfl⟩⟩
  · cases r
    obtain ⟨us, ob, n, r1, e1, c1, d1⟩ := tup_at I ha
    obtain ⟨vs, ob2, n2, r2, e2, c2, d2⟩ := tup_at I hb
    refine ⟨⟨?_, ?_⟩, .inr ⟨a, rfl⟩⟩
    · cases r1 with
      | cons q1 q2 =>
        cases q2 with
        | cons q2 q3 =>
          cases q3
          obtain ⟨t, rfl⟩ := q1
          cases q2
          exact .tup e1 c1 d1 (.cons (.text x t) (.cons (.tup e2 c2 d2 (by simpa using nums r2)) .nil))
    · show NestedKey.depth (.tup [.text x, .tup (ns.map .num)]) ≤ 8
      have dn : ∀ l : List Int, NestedKey.depthAll (l.map .num) ≤ 3 := by
        intro l
        induction l with
        | nil => decide
        | cons y l ih =>
          show max (NestedKey.depth (.num y)) (NestedKey.depthAll (l.map .num)) ≤ 3
          exact Nat.max_le.mpr ⟨by show 0 ≤ 3; decide, ih⟩
      have := dn ns
      show max 0 (max (NestedKey.depthAll (ns.map .num) + 1) 0) + 1 ≤ 8
      omega
theorem keys_rel {rows : List Vw} {xs : List Rw} (r : Paired RelW rows xs) : xs.map (·.1) = rows.map (·.1) := by
  induction r with
  | nil => rfl
  | cons q _ ih => rw [List.map_cons, List.map_cons, ← q.1, ih]
/-- the entries that stand for the rows -/
theorem holds (I : L2.Inv X pins σ H s) (h : H d = some (MxO X.w d rows)) (m : MxOk H rows) : ∃ o es ep xs, Paired RelW rows xs ∧ Holds X.w s.heap d o es ep xs ∧ o.ExactDict ∧ (d == sysModules) = false := by
  obtain ⟨⟨o, es, ep, xs, r, ob, ex, dt, en, sm⟩, _⟩ := I.hok d _ h
  refine ⟨o, es, ep, xs, r, ⟨ob, dt, en, fun x hx => ?_, ?_⟩, ex, sm⟩
  · have key : ∀ {rows : List Vw} {xs : List Rw}, Paired RelW rows xs → (∀ p ∈ rows, KeyH H p.1 p.2.1) → ∀ x ∈ xs, KeyV s.heap x.1 x.2.1 := by
      intro rows xs r
      induction r with
      | nil => intro _ x hx; simp at hx
      | cons q _ ih =>
        intro hk x hx
        rcases List.mem_cons.mp hx with e | e
        · subst e
          rw [← q.1]
          exact (keyV I (hk _ (by simp)) q.2.1).1
        · exact ih (fun p hp => hk p (by simp [hp])) x e
    exact key r m.ks x hx
  · rw [keys_rel r]
    exact m.nd
theorem look_rel {rows : List Vw} {xs : List Rw} (r : Paired RelW rows xs) (k : NestedKey) : (lookW rows k = none ∧ look xs k = none) ∨ ∃ v u, lookW rows k = some v ∧ look xs k = some u ∧ RelV v u := by
  induction r with
  | nil => exact .inl ⟨rfl, rfl⟩
  | cons q _ ih =>
    rename_i a b l1 l2 _
    unfold lookW look
    rw [List.find?_cons, List.find?_cons, ← q.1]
    by_cases e : a.1 = k
    · rw [decide_eq_true e]
      exact .inr ⟨_, _, rfl, rfl, q.2.2⟩
    · rw [decide_eq_false e]
      exact ih
theorem Paired.len {rows : List Vw} {xs : List Rw} (r : Paired RelW rows xs) : xs.length = rows.length := by
  induction r with
  | nil => rfl
  | cons _ _ ih => rw [List.length_cons, List.length_cons, ih]
/-- an object like that -/
theorem mx_ok {P : Program} {w : World} {H' : Hp} {h' : Heap} {o : Obj} {es : Array DictEntry} {ep : Nat} {xs : List Rw} (r : Paired RelW rows xs) (ob : h'.get? d = some o) (ex : o.ExactDict) (dt : o.data = .dict es ep) (en : es.toList = xs.map (ent w)) (sm : (d == sysModules) = false) : ObjOk P w H' h' d (MxO w d rows) :=
  ⟨⟨o, es, ep, xs, r, ob, ex, dt, en, sm⟩, ⟨o, ob⟩, fun h1 h2 ⟨o, es, ep, xs, r, ob, ex, dt, en, sm⟩ k => ⟨o, es, ep, xs, r, k o ob, ex, dt, en, sm⟩⟩
end
section
variable {X : Cx}
/-- word not in d -/
def rNi (w : World) : R2 := fun x y H Q => ∃ d rows k, y = .ref d ∧ H d = some (MxO w d rows) ∧ MxOk H rows ∧ KeyH H k x ∧ Q (.bl (!(lookW rows k).isSome)) H
theorem op_ni (hu : X.A.units + 64 < cLine) : OpR X (compareOp .NotIn) (rNi X.w) := by
  intro pins s σ H x y v u Q I rx ry ⟨d, rows, k, e, hd, m, hk, q⟩
  subst e
  cases ry
  obtain ⟨o, es, ep, xs, r, HH, ex, sm⟩ := holds I hd m
  obtain ⟨kv, ks⟩ := keyV I hk rx
  show wpAny (model X.prog X.w) X.A ((do return Value.bool (!(← contains (.ref d) v)) : Sem Value)) _ _ s
  refine wpAny_bind (has ks (by omega) sm HH ex kv (wpAny_pure ⟨.bl (!(lookW rows k).isSome), H, I.tok _, ?_, q⟩))
  rcases look_rel r k with ⟨e1, e2⟩ | ⟨v, u, e1, e2, _⟩ <;> rw [e1, e2] <;> rfl
/-- d[word] -/
def rGt (w : World) : R2 := fun x y H Q => ∃ d rows k v, x = .ref d ∧ H d = some (MxO w d rows) ∧ MxOk H rows ∧ KeyH H k y ∧ lookW rows k = some v ∧ Q v H
theorem ix_mx (hu : X.A.units + 64 < cLine) : IxR X (rGt X.w) := by
  intro value slice pins s σ H x y v u Q I rx ry ⟨d, rows, k, z, e, hd, m, hk, hv, q⟩ hs
  subst e
  cases rx
  obtain ⟨o, es, ep, xs, r, HH, ex, sm⟩ := holds I hd m
  obtain ⟨kv, ks⟩ := keyV I hk ry
  rcases look_rel r k with ⟨e1, _⟩ | ⟨v', u', e1, e2, rv⟩
  · rw [hv] at e1; cases e1
  · rw [hv] at e1
    cases e1
    exact PyProof.Rows.tail_any (typ HH.ob ex) slot_dict_getitem.lookup (getIt ks (by omega) HH ex kv e2 ⟨z, H, I.tok _, rv, q⟩) hs
/-- d[word] = v, the word new -/
def rPt (w : World) : TSet := fun o i v H Q => ∃ d rows k, o = .ref d ∧ H d = some (MxO w d rows) ∧ MxOk H rows ∧ KeyH H k i ∧ lookW rows k = none ∧ Q (upd H d (MxO w d (rows ++ [(k, i, v)])))
theorem set_mx (hu : X.A.units + 64 < cLine) : PSet X (rPt X.w) := by
  intro pins s σ H o i v ov iv u Q I ro ri rv ⟨d, rows, k, e, hd, m, hk, hn, q⟩
  subst e
  cases ro
  obtain ⟨o, es, ep, xs, r, HH, ex, sm⟩ := holds I hd m
  obtain ⟨kv, ks⟩ := keyV I hk ri
  rcases look_rel r k with ⟨_, e2⟩ | ⟨v', u', e1, _, _⟩
  · refine putIt ks (by omega) HH ex kv e2 (by rw [Paired.len r]; exact m.few) fun h' o' es' ep' a1 a2 a3 a4 a5 => ?_
    refine ⟨_, I.write (x := d) (e := d) (by rw [hd]; trivial) (.inl rfl) (fun b o hb q => (a5.2 b hb).trans q) ⟨_, a1⟩ (mx_ok (r.snoc ⟨rfl, ri, rv⟩) a1 a2 a3 a4 sm), q⟩
  · rw [hn] at e1; cases e1
end
end DL.MX
namespace DL
open PySem PySem.Spec L2
/-- the object at a tells d as its attribute f -/
def AtOk (K : PySem.W.Frag) (W : Amb) (a : Addr) (f : Str) (d : D) : Prop := ∀ F H, W.J F H → ∃ C dx fs v, F a = some (.ins C dx fs) ∧ Cls K C ∧ NoAttr K C f ∧ fs.lookup f = some v ∧ Is F v d
def dAt (K : PySem.W.Frag) (W : Amb) (f : Str) (pa : RE) : RE := fun ρ Q => pa ρ fun s => ∃ a d, s = .d (.ref a) ∧ AtOk K W a f d ∧ Q (.d d)
section
variable {W : Amb} {X : Cx} {F H F' H' : Hp} {e o : Expr} {pa pd pk : RE} {pos apos cpos : Pos} {f : Str} {K : PySem.W.Frag}
theorem pr_at (hK : X.K = K) (he : PEd W X e pa) (hb : attributeBase e f X.env (eval e X.env) = eval e X.env := by rfl) : PRd W X (.Attribute e f pos) (dAt K W f pa) := by
  subst hK
  exact ⟨fun F0 B => (pe_fld (he.run F0 B) hb).imp fun σ H Q ⟨F, ρ, K', E, q, k⟩ => ⟨F, ρ, _, E, q, fun s v as F1 H1 ⟨a, d, e1, h, z⟩ st sv n => by
    subst e1
    obtain ⟨C, dx, fs, v', h1, h2, h3, h4, h5⟩ := h F1 H1 st.ok.j
    exact ⟨a, C, dx, fs, v', sv.2.ref_inv, st.ok.fh _ _ h1, h2, h3, h4, k _ _ [] F1 H1 z st ⟨rfl, h5⟩ New.nil⟩⟩⟩
theorem dct_at {v : V} {as : List Addr} {sx : Sd} {kvs : List (List Int × D)} (h : SV F H v as sx) (fh : Same F H) (e : sx.dct = some kvs) : ∃ a ps, v = .ref a ∧ H a = some (.dT ps) := by
  cases sx <;> first | (cases e; done) | skip
  · rename_i x
    cases x <;> first | (cases e; done) | skip
    obtain ⟨_, h⟩ := h
    obtain ⟨a, ps, e1, e2, _⟩ := h.dct_inv
    exact ⟨a, ps, e1, fh _ _ e2⟩
  · obtain ⟨a, ps, e1, _, e2, _⟩ := h
    exact ⟨a, ps, e1, e2⟩
/-- d.get(k) -/
def dGet1 (pd pk : RE) : RE := fun ρ Q => pd ρ fun sx => (∃ kvs, sx.dct = some kvs) ∧ pk ρ fun sy => ∃ kvs k, sx.dct = some kvs ∧ sy = .d (.ints k) ∧ Q (.d ((dget kvs k).getD .non))
theorem pr_get1 {m : Nat} (hr : Room m X.A) (ho : PEd W X o pd) (he : PEd W X e pk) (mm : M1 X o "get" apos e cpos) : PRd W X (.Call (.Attribute o "get" apos) [e] [] cpos) (dGet1 pd pk) :=
  ⟨fun F0 B => (pe_dget1 (hu_of hr) (ho.run F0 B) (he.run F0 B) mm).imp fun σ H Q ⟨F, ρ, K', E, q, k⟩ => ⟨F, ρ, _, E, q, fun sx v as F1 H1 ⟨⟨kvs0, e0⟩, z⟩ st sv n => by
    obtain ⟨a, ps, rfl, g⟩ := dct_at sv st.ok.fh e0
    refine ⟨a, rfl, .inr ⟨ps, .inl g⟩, F1, ρ, _, E.step st, z, fun sy w as2 F2 H2 ⟨kvs, k', e1, e2, kk⟩ st2 sv2 n2 => ?_⟩
    subst e2
    obtain ⟨a', ea, h⟩ := dget_t (sv.step n st2) sv2 st2.ok.fh e1
    cases ea
    rcases h with ⟨h1, h2⟩ | ⟨u, x', h1, h2, h3⟩
    · rw [h2] at kk
      exact ⟨none, h1, k _ _ [] F2 H2 kk (st.trans E.ok st2) ⟨rfl, .non⟩ New.nil⟩
    · rw [h2] at kk
      exact ⟨some u, h1, k _ _ [] F2 H2 kk (st.trans E.ok st2) ⟨rfl, h3⟩ New.nil⟩⟩⟩
/-- a method that keeps such a promise -/
structure ClM (P : Program) (w : World) (K : PySem.W.Frag) (mg : Str → Option Value) (base : Heap) (k : Nat) (C : Addr) (m : Str) (n : Nat) (f : DSpec) : Prop where
  ex : ∃ a fd ps, Meth K C m a ∧ ps.length = n ∧ Binds K fd ps [] ∧ FnOk P w K mg base CX0 k a fd ps (spD f)
def InsOk (W : Amb) (a C : Addr) (m : Str) : Prop := ∀ F H, W.J F H → ∃ dx fs, F a = some (.ins C dx fs) ∧ fs.lookup m = none
def dMeth (W : Amb) (C : Addr) (m : Str) (f : DSpec) (pa : RE) (q : RA) : RE := fun ρ Q => pa ρ fun s => ∃ a, s = .d (.ref a) ∧ InsOk W a C m ∧ q ρ fun ds => f W (.ref a :: ds) fun d => Q (.d d)
theorem pr_meth {C : Addr} {m : Str} {n k : Nat} {fsp : DSpec} {es : List Expr} {q : RA} {pl : Sem Bool} (c : ClM X.prog X.w X.K X.mg X.base k C m n fsp) (hc : Cls X.K C) (hr : Room k X.A) (ho : PEd W X o pa) (ha : PAd W X (e :: es) q)
    (hst : starEach (e :: es) X.env = (false, eval e X.env) :: starEach es X.env := by rfl) (hpl : (backTo pos (starEach es X.env)).any (·.1) = false := by rfl)
    (ht : eval (.Call (.Attribute o m apos) (e :: es) [] pos) X.env = (do
      let ov ← eval o X.env
      standAt apos.atName
      let (f, first) ← holding [ov] (getMethod ov m pl)
      callWith pos f first (backTo pos (starEach (e :: es) X.env)) (backToKw pos (keywordEach [] X.env))) := by rfl) : PRd W X (.Call (.Attribute o m apos) (e :: es) [] pos) (dMeth W C m fsp pa q) := ⟨fun F0 B => by
  obtain ⟨fa, fd, ps, hm, hn, hb, hF⟩ := c.ex
  refine (pe_meth (ho.run F0 B) hc hm hF hr hb .nil (pass0 (X := X)) (ha.run F0 B) hst hpl ht).imp fun σ H Q ⟨F, ρ, K', E, z, k⟩ => ⟨F, ρ, _, E, z, fun s v as F1 H1 ⟨a, e1, h1, z1⟩ st sv n => ?_⟩
  subst e1
  obtain ⟨dx, fs, g1, g2⟩ := h1 F1 H1 st.ok.j
  refine ⟨a, dx, fs, sv.2.ref_inv, st.ok.fh _ _ g1, g2, F1, ρ, _, E.step st, z1, fun ds vs F2 H2 z2 st2 il => ?_⟩
  show spD fsp (v :: (vs ++ [])) H2 Q E0
  rw [List.append_nil]
  exact ⟨W, F2, .ref a :: ds, _, st2.ok, ⟨sv.2.mono st2.ff, il⟩, z2, fun d v3 F3 H3 kd s3 i3 => k (.d d) v3 [] F3 H3 kd ((st.trans E.ok st2).trans E.ok s3) ⟨rfl, i3⟩ New.nil⟩⟩
end
end DL
namespace DL
open PySem PySem.Spec L2 Tx
/-- the method m of the class at C, by its text -/
structure DM (K : PySem.W.Frag) (C : Addr) (m q : Str) (st : Stmt) : Prop where
  ex : ∃ a fd, Meth K C m a ∧ FunD K m q (defArgs st) (defBody st) (defScope st) [] [] a fd
section
variable {P : Program} {w : World} {K : PySem.W.Frag} {mg : Str → Option Value} {base : Heap} {C : Addr} {m qn : Str} {st : Stmt} {N ps : List Str} {k n : Nat} {f : DSpec}
theorem clm_of (d : DM K C m qn st) (S : FnScope N ps (defScope st)) (hn : ps.length = n)
    (hbi : ∀ (kV doc pm : Value) (an : Option Addr) (cdv ct : Value) (us : List Value), us.length = ps.length → bindArgs (PySem.W.fnOf m qn (defArgs st) (defBody st) (defScope st) .none kV doc pm an cdv ct) ⟨us, []⟩ = pure (ps.zip us)) {pr : Amb → RS}
    (hlen : ∀ W ds K, f W ds K → ds.length = ps.length)
    (hb : ∀ (a : Addr) (W : Amb) (cdv : Value) (A : Around) (outer : List PySem.Env) (s : Shared) (H : Hp) (E : XK), Room k (A.deeper (PyProof.Rows.envOfC qn (defScope st) s.heap.objs.size a cdv)) → PSsd W (cxOf CX0 P w K mg base N qn (defScope st) a cdv A outer s H E).nox (defBody st) (pr W))
    (hp : ∀ (W : Amb) (ds : List D) (K : D → Prop), f W ds K → pr W { nx := fun _ => K .non, rt := K } (startD N.length ds)) : ClM P w K mg base (k + 1) C m n f := by
  obtain ⟨a, fd, hm, F⟩ := d.ex
  exact ⟨a, fd, ps, hm, hn, F.bindsN hbi, fn_ok F S hlen (fun W cdv A outer s H E hr => hb a W cdv A outer s H E hr) hp⟩
def s_index_of (K : PySem.W.Frag) : DSpec := fun W ds Q => ∃ (a : Addr) (r : List Int) (kvs : List (List Int × D)), ds = [.ref a, .ints r] ∧ AtOk K W a "_index" (.dct kvs) ∧ Q ((dget kvs r).getD .non)
theorem sc_index_of : FnScope ["self", "state"] ["self", "state"] (defScope m_index_of) := ⟨rfl, rfl, rfl, by decide +kernel, rfl, by decide +kernel, by decide +kernel⟩
theorem c_index_of (d : DM K C "index_of" "Store.index_of" m_index_of) : ClM P w K mg base 2 C "index_of" 2 (s_index_of K) :=
  clm_of (k := 1) d sc_index_of rfl (fun _ _ _ _ _ _ us hl => match us, hl with | [_, _], _ => rfl) (fun W ds K h => by obtain ⟨_, _, _, e, _⟩ := h; rw [e]; rfl) (fun a W cdv A outer s H E hr =>
    (ssd_one (sd_ret (pr_get1 hr (PRd.e (pr_at (K := K) rfl (pd_var (pv 0)))) (pd_var (pv 1)) ⟨rfl, rfl, rfl, rfl⟩))))
   (fun W ds Q h => by
    obtain ⟨a, r, kvs, rfl, hi, z⟩ := h
    exact ⟨_, rfl, nofun, a, _, rfl, hi, ⟨kvs, rfl⟩, _, rfl, nofun, kvs, r, rfl, rfl, _, rfl, z⟩)
end
end DL
namespace DL.MX
open PySem PySem.Sem PySem.Spec L2
/-- d[k] = v, the key new or old -/
def putR (xs : List Rw) (k : NestedKey) (key v : Value) : List Rw := if (look xs k).isSome = true then xs.map fun x => if x.1 = k then (x.1, x.2.1, v) else x else xs ++ [(k, key, v)]
section
variable {prog : Program} {w : World} {A : Around} {E : Value → Shared → Prop} {s : Shared} {d : Addr} {o : Obj} {es : Array DictEntry} {ep : Nat} {xs : List Rw} {k : NestedKey} {key : Value}
theorem modify_rows {v : Value} {h : Heap} (H : Holds w h d o es ep xs) {j : Nat} {x : Rw} (hj : xs[j]? = some x) (e : x.1 = k) : (es.modify j fun e => { e with val := v }).toList = (xs.map fun x => if x.1 = k then (x.1, x.2.1, v) else x).map (ent w) := by
  rw [Array.toList_modify]
  refine List.ext_getElem? fun m => ?_
  rw [List.getElem?_modify, H.en, List.getElem?_map, List.getElem?_map, List.getElem?_map]
  cases hm : xs[m]? with
  | none => rfl
  | some y =>
    by_cases z : j = m
    · subst z
      rw [hj] at hm
      cases hm
      simp [ent, e]
    · have ne : ¬ y.1 = k := fun q => z (H.uniq hj hm (e.trans q.symm))
      simp [ent, z, ne]
theorem putAny {v : Value} {Q : Unit → Shared → Prop} (hkey : (∃ x t, key = .str x t) ∨ ∃ a, key = .ref a) (hu : A.units + 8 < cLine) (H : Holds w s.heap d o es ep xs) (ex : o.ExactDict) (hk : KeyV s.heap k key) (hz : xs.length ≤ 10000)
    (h : ∀ h' o' es' ep', h'.get? d = some o' → o'.ExactDict → o'.data = .dict es' ep' → es'.toList = (putR xs k key v).map (ent w) → Heap.SameBut d s.heap h' → Q () { s with heap := h', toks := s.toks + k.draws }) : wpAny (model prog w) A (dictSet d key v) Q E s := by
  unfold dictSet
  try with_reducible refine wpAny_holding ?_
  refine wpAny_bind (pyHash_key k key A s _ hk.1 (by have := hk.2; omega) ?_)
  unfold dictSetHashed
  try with_reducible refine wpAny_holding ?_
  refine wpAny_bind (find (s := { s with toks := s.toks + k.draws }) hkey hu ⟨H.ob, H.dt, H.en, H.ks, H.nd⟩ hk ?_ ?_)
  · intro no
    have hz' : es.size ≤ sizeLine := by rw [H.size]; exact Nat.le_trans hz (by decide)
    refine wpAny_bind (wpAny_rule (wpAny_updateDictKeys (hz := hz') (s := { s with toks := s.toks + k.draws }) H.ob H.dt (h _ _ _ (ep + 1) (Heap.get?_update_self _ H.ob (Obj.isFreed_of_dict (Obj.data_mapDictKeys H.dt _))) (ex.mapDictKeys _) (Obj.data_mapDictKeys H.dt _) ?_ (Heap.SameBut.update ..))))
    unfold putR
    rw [look_none no, if_neg (by simp), List.map_append, ← H.en]
    simp [ent]
  · intro j x hj e
    refine wpAny_bind (wpAny_rule (wpAny_bind (wpAny_updateDict (s := { s with toks := s.toks + k.draws }) H.ob H.dt (wpAny_point (h _ _ _ ep (Heap.get?_update_self _ H.ob (Obj.isFreed_of_dict (Obj.data_mapDict H.dt _))) (ex.mapDict _) (Obj.data_mapDict H.dt _) ?_ (Heap.SameBut.update ..))))))
    unfold putR
    rw [look_at H.nd hj e, if_pos (by simp)]
    exact modify_rows H hj e
theorem putItA {v : Value} {Q : Unit → Shared → Prop} (hkey : (∃ x t, key = .str x t) ∨ ∃ a, key = .ref a) (hu : A.units + 9 < cLine) (H : Holds w s.heap d o es ep xs) (ex : o.ExactDict) (hk : KeyV s.heap k key) (hz : xs.length ≤ 10000)
    (h : ∀ h' o' es' ep', h'.get? d = some o' → o'.ExactDict → o'.data = .dict es' ep' → es'.toList = (putR xs k key v).map (ent w) → Heap.SameBut d s.heap h' → Q () { s with heap := h', toks := s.toks + k.draws }) : wpAny (model prog w) A (setItem (.ref d) key v) Q E s := by
  have tI := typ H.ob ex
  unfold setItem
  try with_reducible refine wpAny_holding ?_
  refine wpAny_bind (wpAny_sequenceKey tI (by decide) ?_)
  refine wpAny_bind (wpAny_callSpecial?_slot (name := Str.ofString "__setitem__") tI slot_dict_setitem (wpAny_call_entry slot_dict_setitem tI entry_dict_setitem ?_ (args_dict_setitem _ _ _)))
  show wpAny _ _ (Builtin.Dict.notOrdered "__setitem__" ⟨[.ref d, key, v], []⟩ >>= _) _ _ s
  refine wpAny_bind (wpAny_notOrdered_dict tI ?_)
  show wpAny _ _ (dictSet d key v >>= _) _ _ s
  exact wpAny_bind (putAny hkey hu H ex hk hz fun h' o' es' ep' a1 a2 a3 a4 a5 => wpAny_pure ⟨.none, rfl, wpAny_pure (h h' o' es' ep' a1 a2 a3 a4 a5)⟩)
end
/-! ### as rows of readings -/
def putW (rows : List Vw) (k : NestedKey) (i v : V) : List Vw := if (lookW rows k).isSome = true then rows.map fun x => if x.1 = k then (x.1, x.2.1, v) else x else rows ++ [(k, i, v)]
theorem putW_rel {rows : List Vw} {xs : List Rw} {k : NestedKey} {i v : V} {iu vu : Value} (r : Paired RelW rows xs) (ri : RelV i iu) (rv : RelV v vu) : Paired RelW (putW rows k i v) (putR xs k iu vu) := by
  unfold putW putR
  rcases look_rel r k with ⟨e1, e2⟩ | ⟨v', u', e1, e2, _⟩
  · rw [e1, e2, if_neg (by simp), if_neg (by simp)]
    exact r.snoc ⟨rfl, ri, rv⟩
  · rw [e1, e2, if_pos (by simp), if_pos (by simp)]
    clear e1 e2
    induction r with
    | nil => exact .nil
    | cons q _ ih =>
      rw [List.map_cons, List.map_cons]
      refine .cons ?_ ih
      rename_i a b l1 l2 _
      by_cases e : a.1 = k
      · rw [if_pos e, if_pos (q.1 ▸ e)]
        exact ⟨q.1, q.2.1, rv⟩
      · rw [if_neg e, if_neg (q.1 ▸ e)]
        exact q
/-- d[word] = v -/
def rPtA (w : World) : TSet := fun o i v H Q => ∃ d rows k, o = .ref d ∧ H d = some (MxO w d rows) ∧ MxOk H rows ∧ KeyH H k i ∧ Q (upd H d (MxO w d (putW rows k i v)))
theorem set_mxA {X : Cx} (hu : X.A.units + 64 < cLine) : PSet X (rPtA X.w) := by
  intro pins s σ H o i v ov iv u Q I ro ri rv ⟨d, rows, k, e, hd, m, hk, q⟩
  subst e
  cases ro
  obtain ⟨o, es, ep, xs, r, HH, ex, sm⟩ := holds I hd m
  obtain ⟨kv, ks⟩ := keyV I hk ri
  refine putItA ks (by omega) HH ex kv (by rw [Paired.len r]; exact m.few) fun h' o' es' ep' a1 a2 a3 a4 a5 => ?_
  exact ⟨_, I.write (x := d) (e := d) (by rw [hd]; trivial) (.inl rfl) (fun b o hb q => (a5.2 b hb).trans q) ⟨_, a1⟩ (mx_ok (putW_rel r ri rv) a1 a2 a3 a4 sm), q⟩
/-! ### looks -/
theorem lookW_put {rows : List Vw} {k k' : NestedKey} {i v : V} : lookW (putW rows k i v) k' = if k' = k then some v else lookW rows k' := by
  unfold putW
  by_cases h : (lookW rows k).isSome = true
  · rw [if_pos h]
    induction rows with
    | nil => cases h
    | cons x xs ih =>
      unfold lookW at h ih ⊢
      rw [List.map_cons, List.find?_cons, List.find?_cons]
      by_cases e : x.1 = k
      · rw [if_pos e]
        by_cases e' : k' = k
        · rw [if_pos e', e', decide_eq_true e]
          rfl
        · have : ¬ x.1 = k' := fun z => e' (z ▸ e)
          rw [if_neg e', decide_eq_false this]
          simp only
          clear ih h
          induction xs with
          | nil => rfl
          | cons y ys ih =>
            rw [List.map_cons, List.find?_cons, List.find?_cons]
            by_cases g : y.1 = k
            · have g' : ¬ y.1 = k' := fun z => e' (z ▸ g)
              rw [if_pos g, decide_eq_false g']
              exact ih
            · rw [if_neg g]
              by_cases g' : y.1 = k'
              · rw [decide_eq_true g']
              · rw [decide_eq_false g']
                exact ih
      · rw [if_neg e]
        rw [List.find?_cons, decide_eq_false e] at h
        have ih := ih h
        by_cases e' : k' = k
        · rw [if_pos e'] at ih ⊢
          have : ¬ x.1 = k' := fun z => e (z.trans e')
          rw [decide_eq_false this]
          exact ih
        · rw [if_neg e'] at ih ⊢
          by_cases g : x.1 = k'
          · rw [decide_eq_true g]
          · rw [decide_eq_false g]
            exact ih
  · rw [if_neg h]
    have h0 : lookW rows k = none := by
      cases q : lookW rows k with
      | none => rfl
      | some y => rw [q] at h; exact absurd rfl h
    clear h
    induction rows with
    | nil =>
      unfold lookW
      rw [List.nil_append, List.find?_cons]
      by_cases e : k' = k
      · rw [if_pos e, decide_eq_true e.symm]; rfl
      · rw [if_neg e, decide_eq_false (Ne.symm e)]
    | cons x xs ih =>
      unfold lookW at h0 ih ⊢
      rw [List.find?_cons] at h0
      rw [List.cons_append, List.find?_cons, List.find?_cons]
      by_cases g : x.1 = k
      · rw [decide_eq_true g] at h0; cases h0
      · rw [decide_eq_false g] at h0
        by_cases g' : x.1 = k'
        · have : ¬ k' = k := fun z => g (g'.trans z)
          rw [decide_eq_true g', if_neg this]
        · rw [decide_eq_false g']
          exact ih h0
theorem mem_putW {rows : List Vw} {k : NestedKey} {i v : V} {x : Vw} (h : x ∈ putW rows k i v) : (x ∈ rows ∧ x.1 ≠ k) ∨ (x.1 = k ∧ x.2.2 = v ∧ ((∃ y ∈ rows, y.1 = k ∧ x.2.1 = y.2.1) ∨ x.2.1 = i)) := by
  unfold putW at h
  split at h
  · obtain ⟨y, hy, rfl⟩ := List.mem_map.mp h
    by_cases e : y.1 = k
    · rw [if_pos e]
      exact .inr ⟨e, rfl, .inl ⟨y, hy, e, rfl⟩⟩
    · rw [if_neg e]
      exact .inl ⟨hy, e⟩
  · rename_i hn
    rcases List.mem_append.mp h with h | h
    · refine .inl ⟨h, fun e => hn ?_⟩
      unfold lookW
      rw [Option.isSome_map, List.find?_isSome]
      exact ⟨x, h, by simp [e]⟩
    · rw [List.mem_singleton.mp h]
      exact .inr ⟨rfl, rfl, .inr rfl⟩
theorem keys_putW {rows : List Vw} {k : NestedKey} {i v : V} : (putW rows k i v).map (·.1) = rows.map (·.1) ∨ ((putW rows k i v).map (·.1) = rows.map (·.1) ++ [k] ∧ k ∉ rows.map (·.1)) := by
  unfold putW
  split
  · refine .inl ?_
    rw [List.map_map]
    refine List.map_congr_left fun x _ => ?_
    show (if x.1 = k then (x.1, x.2.1, v) else x).1 = x.1
    split <;> rfl
  · rename_i hn
    refine .inr ⟨by simp, fun h => hn ?_⟩
    obtain ⟨x, hx, e⟩ := List.mem_map.mp h
    unfold lookW
    rw [Option.isSome_map, List.find?_isSome]
    exact ⟨x, hx, by simp [e]⟩
theorem lookW_mem {rows : List Vw} {k : NestedKey} {v : V} (h : lookW rows k = some v) : ∃ x ∈ rows, x.1 = k ∧ x.2.2 = v := by
  unfold lookW at h
  obtain ⟨x, hx, e⟩ := Option.map_eq_some_iff.mp h
  exact ⟨x, List.mem_of_find?_eq_some hx, by simpa using List.find?_some hx, e⟩
theorem KeyH.mono {H H' : Hp} (e : Same H H') {k : NestedKey} {v : V} (h : KeyH H k v) : KeyH H' k v := by
  rcases h with h | ⟨a, b, x, ns, h1, h2, h3, h4⟩
  · exact .inl h
  · exact .inr ⟨a, b, x, ns, h1, h2, e _ _ h3, e _ _ h4⟩
theorem MxOk.mono {H H' : Hp} (e : Same H H') {rows : List Vw} (h : MxOk H rows) : MxOk H' rows := ⟨fun x hx => (h.ks x hx).mono e, h.nd, h.few⟩
theorem MxOk.put {H : Hp} {rows : List Vw} {k : NestedKey} {i v : V} (m : MxOk H rows) (hk : KeyH H k i) (hf : (putW rows k i v).length ≤ 10000) : MxOk H (putW rows k i v) := by
  refine ⟨fun x hx => ?_, ?_, hf⟩
  · rcases mem_putW hx with ⟨h, _⟩ | ⟨e, _, ⟨y, hy, e1, e2⟩ | e2⟩
    · exact m.ks x h
    · rw [e, e2, ← e1]
      exact m.ks y hy
    · rw [e, e2]
      exact hk
  · rcases keys_putW (rows := rows) (k := k) (i := i) (v := v) with e | ⟨e, n⟩
    · rw [e]; exact m.nd
    · rw [e]
      exact List.nodup_append.mpr ⟨m.nd, by simp, fun a ha b hb z => n (by simp at hb; rw [← hb, ← z]; exact ha)⟩
end DL.MX
namespace DL
open PySem PySem.Spec L2 Tx
section
variable {P : Program} {w : World} {K : PySem.W.Frag} {mg : Str → Option Value} {base : Heap} {C : Addr}
/-- the store at a, of these states -/
structure HasSt (K : PySem.W.Frag) (C : Addr) (W : Amb) (a : Addr) (S : List Row) (sizes : List Nat) : Prop where
  n : AtOk K W a "key_count" (.int (sizes.length : Nat))
  sz : AtOk K W a "sizes" (.ints (natsI sizes))
  st : AtOk K W a "states" (.tup (rowsD S))
  ix : ∃ kvs, AtOk K W a "_index" (.dct kvs) ∧ (∀ (i : Nat) r, S[i]? = some r → dget kvs r = some (.int (i : Nat))) ∧ ∀ r, r ∉ S → dget kvs r = none
  mi : InsOk W a C "index_of"
  mf : InsOk W a C "found"
structure StS (S : List Row) (sizes : List Nat) : Prop where
  ok : SizesOk sizes
  row : ∀ s ∈ S, s.length = sizes.length ∧ ∀ (i : Nat) v z, s[i]? = some v → sizes[i]? = some z → 0 ≤ v ∧ v < (z : Int)
  nd : S.Nodup
  ne : S ≠ []
  few : S.length ≤ 24
theorem lot_len {n : Nat} {l : List Nat} (h : LotOk n l) : l.length ≤ n := by
  have := L2.nat_nodup_len l (List.range n) (h.asc.imp fun h => Nat.ne_of_lt h) fun k hk => List.mem_range.mpr (h.lt k hk)
  rwa [List.length_range] at this
def s_checked_lot (K : PySem.W.Frag) (C : Addr) : DSpec := fun W ds Q => ∃ (a : Addr) (S : List Row) (sizes l : List Nat), ds = [.ref a, lotD l] ∧ HasSt K C W a S sizes ∧ StS S sizes ∧ LotOk sizes.length l ∧ Q (lotD l)
theorem sc_checked_lot : FnScope ["store", "value", "seen", "at", "key"] ["store", "value"] (defScope f_checked_lot) := ⟨rfl, rfl, rfl, by decide +kernel, rfl, by decide +kernel, by decide +kernel⟩
theorem c_checked_lot (ft : Fts mg) (c_is_index : Cl P w K mg base 4 "is_index" 2 s_is_index) (c_is_sequence : Cl P w K mg base 2 "is_sequence" 1 s_is_sequence) (d : DF K mg "checked_lot" f_checked_lot) : Cl P w K mg base 5 "checked_lot" 2 (s_checked_lot K C) :=
  cl_of (k := 4) d sc_checked_lot rfl (fun _ _ _ _ _ _ us hl => match us, hl with | [_, _], _ => rfl) (fun W ds K h => by obtain ⟨_, _, _, _, e, _⟩ := h; rw [e]; rfl) (fun a W cdv A outer s H E hr =>
  have nd := sc_checked_lot.nd
  (ssd_cons (sd_if (ptd_not (pt_v (PRd.e (pr_call c_is_sequence (hr.mono (by decide)) rfl (pad_cons (pr_var (pv 1)) pad_nil))))) (ssd_one sd_never) ssd_nil) (ssd_cons (sd_set (i := 2) nd rfl (Or.inl rfl) pr_dI) (ssd_cons (sd_for PassesOwn.never rfl (id_ee rfl ft.m_enumerate (pad_cons (pr_var (pv 1)) pad_nil)) (gd_tup (is := [3, 4]) rfl (pgs_cons (pg_name (i := 3) nd rfl (Or.inl rfl)) (pgs_cons (pg_name (i := 4) nd rfl (Or.inl rfl)) pgs_nil))) (ssd_cons (sd_if (PWd.t (pwd_or (ptd_not (pt_v (PRd.e (pr_call c_is_index (hr.mono (by decide)) rfl (pad_cons (pr_var (pv 4)) (pad_cons (pr_at (K := K) rfl (pd_var (pv 0))) pad_nil)))))) (pwd_or1 (pt_iin hr (pd_var (pv 4)) (pv 2))))) (ssd_one sd_never) ssd_nil) (ssd_one (sd_putI hr (pv 2) (pd_var (pv 4)) pr_bl)))) (ssd_one (sd_ret (pr_tuple rfl ft.m_tuple (PRd.e (pr_sortI rfl ft.m_sorted (ha := (pd_var (pv 1))))))))))))
   (fun W ds K h => by
    obtain ⟨a, S, sizes, l, rfl, hS, hs, hl, z⟩ := h
    simp only [sRet, dCB, vCons, vNil, d2, sSeq, sSet]
    have nd : l.Nodup := hl.asc.imp fun h => Nat.ne_of_lt h
    have ll := lot_len hl
    have few := hs.ok.few
    refine ⟨_, rfl, _, rfl, lotD l, rfl, rfl, _, rfl, fun hb => (by cases hb), fun _ => ?_⟩
    refine ⟨_, rfl, _, rfl, _, _, rfl, rfl, fun i ρ => ∃ (kvs : List (Int × D)) (x3 x4 : Sd), ρ = [.d (.ref a), .d (lotD l), .oi kvs, x3, x4] ∧ kvs.length ≤ i ∧ ∀ k, (dget kvs k).isSome = true → ∃ (j m : Nat), j < i ∧ l[j]? = some m ∧ k = (m : Int), ⟨[], _, _, rfl, Nat.le_refl 0, fun k h => by cases h⟩, ?_, ?_⟩
    · rintro i x ρ hx ⟨kvs, x3, x4, rfl, q1, q2⟩
      obtain ⟨m, hm, rfl⟩ : ∃ m : Nat, l[i]? = some m ∧ x = .tup [.int (i : Nat), .int (m : Nat)] := by
        unfold enumD natsI at hx
        rw [List.getElem?_mapIdx, List.getElem?_map, List.getElem?_map] at hx
        cases e : l[i]? with
        | none => rw [e] at hx; cases hx
        | some m => rw [e] at hx; cases hx; exact ⟨m, rfl, rfl⟩
      have hml := hl.lt m (List.mem_of_getElem? hm)
      have hil := (List.getElem?_eq_some_iff.mp hm).1
      have hno : dget kvs (m : Int) = none := by
        cases e : dget kvs (m : Int) with
        | none => rfl
        | some y =>
          obtain ⟨j, m', h1, h2, h3⟩ := q2 m (by rw [e]; rfl)
          have : m = m' := by omega
          subst this
          have := (List.getElem?_inj (List.getElem?_eq_some_iff.mp h2).1 nd).mp (h2.trans hm.symm)
          omega
      refine ⟨_, rfl, rfl, ?_⟩
      have hid : (D.int (m : Nat)).isIdx (sizes.length : Nat) = true := by
        show (decide (0 ≤ (m : Int)) && decide ((m : Int) < (sizes.length : Nat))) = true
        simp
        omega
      refine ⟨_, rfl, _, rfl, _, rfl, nofun, a, _, rfl, hS.n, _, rfl, .int (m : Nat), (sizes.length : Nat), rfl, rfl, _, rfl, fun hb => ?_, fun _ => ⟨_, rfl, nofun, (m : Int), kvs, rfl, rfl, _, rfl, fun hb => ?_, fun _ => ?_⟩⟩
      · rw [hid] at hb; cases hb
      · rw [hno] at hb; cases hb
      · refine ⟨_, kvs, rfl, rfl, by omega, _, rfl, nofun, (m : Int), rfl, dput kvs (m : Int) (.bl true), _, _, rfl, ?_, fun k hk => ?_⟩
        · have := dput_len kvs (m : Int) (.bl true)
          omega
        · rw [dget_dput] at hk
          split at hk
          · rename_i e
            exact ⟨i, m, by omega, hm, e⟩
          · obtain ⟨j, m', h1, h2, h3⟩ := q2 k hk
            exact ⟨j, m', by omega, h2, h3⟩
    · rintro ρ ⟨kvs, x3, x4, rfl, q1, q2⟩
      refine ⟨_, rfl, nofun, _, natsI l, rfl, rfl, fun ns' hp hw => ⟨_, _, rfl, rfl, _, rfl, ?_⟩⟩
      have ndI : (natsI l).Nodup := by
        unfold natsI
        exact (List.pairwise_map.mpr (nd.imp fun {a b} h e => h (by omega)))
      have e : ns' = natsI l := asc_ext ((hw.and (hp.nodup_iff.mpr ndI)).imp fun {a b} ⟨h1, h2⟩ => by omega) (by unfold natsI; exact List.pairwise_map.mpr (hl.asc.imp fun {a b} h => by omega)) fun k => hp.mem_iff
      rw [e]
      exact z)
def s_other_keys (K : PySem.W.Frag) (C : Addr) : DSpec := fun W ds Q => ∃ (a : Addr) (S : List Row) (sizes l : List Nat), ds = [.ref a, lotD l] ∧ HasSt K C W a S sizes ∧ StS S sizes ∧ LotOk sizes.length l ∧ Q (lotD (notIn sizes.length l))
theorem sc_other_keys : FnScope ["store", "lot", "some", "key"] ["store", "lot"] (defScope f_other_keys) := ⟨rfl, rfl, rfl, by decide +kernel, rfl, by decide +kernel, by decide +kernel⟩
theorem c_other_keys (ft : Fts mg) (c_checked_lot : Cl P w K mg base 5 "checked_lot" 2 (s_checked_lot K C)) (d : DF K mg "other_keys" f_other_keys) : Cl P w K mg base 6 "other_keys" 2 (s_other_keys K C) :=
  cl_of (k := 5) d sc_other_keys rfl (fun _ _ _ _ _ _ us hl => match us, hl with | [_, _], _ => rfl) (fun W ds K h => by obtain ⟨_, _, _, _, e, _⟩ := h; rw [e]; rfl) (fun a W cdv A outer s H E hr =>
  have nd := sc_other_keys.nd
  (ssd_cons (sd_set (i := 2) nd rfl (Or.inr rfl) (pr_call c_checked_lot (hr.mono (by decide)) rfl (pad_cons (pr_var (pv 0)) (pad_cons (pr_var (pv 1)) pad_nil)))) (ssd_one (sd_ret (pr_tuple rfl ft.m_tuple (PRd.e (pr_lc (i := 3) rfl nd (id_range1 rfl ft.m_range (pr_at (K := K) rfl (pd_var (pv 0)))) (bok (own := [("key", 3)]) rfl) (fun _ _ _ _ _ => pg_name (i := 3) nd rfl (Or.inl rfl)) (fun _ _ _ _ _ => ptsd_one (pt_niI (pd_var (pv 3)) (pd_var (pv 2)))) (fun _ _ _ _ _ => (pr_var (pv 3))))))))))
   (fun W ds K h => by
    obtain ⟨a, S, sizes, l, rfl, hS, hs, hl, z⟩ := h
    simp only [sRet, dCB, vCons, vNil, d2, sSeq, sSet]
    have few := hs.ok.few
    refine ⟨_, rfl, _, rfl, _, rfl, _, rfl, a, S, sizes, l, rfl, hS, hs, hl, ?_⟩
    refine lcN (xs := rangeD 0 sizes.length) (outK l) _root_.id (fun K' h' => ⟨_, rfl, nofun, a, _, rfl, hS.n, _, rfl, by omega, by omega, (by rw [Int.toNat_natCast]; exact h')⟩) (by rw [rangeD_len]; omega) (fun x hx K' k' => ?_) (fun x hx _ K' k' => ⟨_, rfl, k' _ rfl⟩) ?_
    · obtain ⟨i, _, rfl⟩ := mem_range0 hx
      exact ⟨_, rfl, nofun, _, rfl, nofun, _, natsI l, rfl, rfl, _, rfl, k'⟩
    · rw [List.map_id, range_out]
      exact ⟨_, _, rfl, rfl, _, rfl, z⟩)
end
end DL
namespace DL
open PySem PySem.Spec L2 Tx
section
variable {P : Program} {w : World} {K : PySem.W.Frag} {mg : Str → Option Value} {base : Heap} {C : Addr}
def viewsD (S : List Row) (l : List Nat) : List D := rowsD (S.map fun s => viewK s l)
def viewP (l : List Nat) (x : D) : D := .ints (viewK (unI x) l)
def s_views (K : PySem.W.Frag) (C : Addr) : DSpec := fun W ds Q => ∃ (a : Addr) (S : List Row) (sizes l : List Nat), ds = [.ref a, lotD l] ∧ HasSt K C W a S sizes ∧ StS S sizes ∧ LotOk sizes.length l ∧ Q (.lst (viewsD S l))
theorem sc_views : FnScope ["store", "lot", "state"] ["store", "lot"] (defScope f_views) := ⟨rfl, rfl, rfl, by decide +kernel, rfl, by decide +kernel, by decide +kernel⟩
theorem c_views (ft : Fts mg) (c_seen_on : Cl P w K mg base 2 "seen_on" 2 s_seen_on) (d : DF K mg "views" f_views) : Cl P w K mg base 3 "views" 2 (s_views K C) :=
  cl_of (k := 2) d sc_views rfl (fun _ _ _ _ _ _ us hl => match us, hl with | [_, _], _ => rfl) (fun W ds K h => by obtain ⟨_, _, _, _, e, _⟩ := h; rw [e]; rfl) (fun a W cdv A outer s H E hr =>
  have nd := sc_views.nd
  (ssd_one (sd_ret (pr_lc (i := 2) rfl nd (id_ss (pr_at (K := K) rfl (pd_var (pv 0)))) (bok (own := [("state", 2)]) rfl) (fun _ _ _ _ _ => pg_name (i := 2) nd rfl (Or.inl rfl)) (fun _ _ _ _ _ => ptsd_nil) (fun _ _ _ _ _ => (pr_call c_seen_on (hr.mono (by decide)) rfl (pad_cons (pr_var (pv 2)) (pad_cons (pr_var (pv 1)) pad_nil))))))))
   (fun W ds K h => by
    obtain ⟨a, S, sizes, l, rfl, hS, hs, hl, z⟩ := h
    simp only [sRet, dCB, vCons, vNil, d2, sSeq, sSet]
    have ll := lot_len hl
    have few := hs.ok.few
    have hf := hs.few
    refine lcN (xs := rowsD S) (fun _ => true) (viewP l) (fun K' h' => ⟨_, rfl, nofun, a, _, rfl, hS.st, _, _, rfl, rfl, h'⟩) (by rw [rowsD_len]; omega) (fun y hy K' k' => k') (fun y hy _ K' k' => ?_) ?_
    · obtain ⟨s, hs1, rfl⟩ := mem_rowsD hy
      refine ⟨_, rfl, _, rfl, _, rfl, _, rfl, s, l, rfl, fun k hk => by rw [(hs.row s hs1).1]; exact hl.lt k hk, by omega, k' _ ?_⟩
      show some (D.ints (viewK s l)) = some (D.ints (viewK (unI (.ints s)) l))
      rw [unI_ints]
    · rw [filter_tt]
      refine ⟨_, rfl, ?_⟩
      have e : (rowsD S).map (viewP l) = viewsD S l := by
        unfold viewsD rowsD
        rw [List.map_map, List.map_map]
        refine List.map_congr_left fun s _ => ?_
        show D.ints (viewK (unI (.ints s)) l) = D.ints (viewK s l)
        rw [unI_ints]
      rw [e]
      exact z)
theorem uAllLc {pi : RI} {is : List Nat} {tg : D → List D → Prop} {pt : RT} {pe : RE} {ρ : List Sd} {K : Sd → Prop} (h : dLc pi is tg pt pe ρ fun s => gAll [s] K) : dCB gAll (vCons (dLc pi is tg pt pe) vNil) ρ K := h
def s_is_asked (K : PySem.W.Frag) (C : Addr) : DSpec := fun W ds Q => ∃ (a : Addr) (S : List Row) (sizes : List Nat) (x : D), ds = [.ref a, x] ∧ HasSt K C W a S sizes ∧ StS S sizes ∧ x.fine 8 = true ∧ ∀ b : Bool, (b = true ↔ ∃ q : List Int, x = .ints q ∧ q.length = S.length ∧ ∀ i ∈ q, 0 ≤ i) → Q (.bl b)
theorem sc_is_asked : FnScope ["store", "value", "told"] ["store", "value"] (defScope f_is_asked) := ⟨rfl, rfl, rfl, by decide +kernel, rfl, by decide +kernel, by decide +kernel⟩
theorem c_is_asked (ft : Fts mg) (c_is_number : Cl P w K mg base 3 "is_number" 1 s_is_number) (d : DF K mg "is_asked" f_is_asked) : Cl P w K mg base 4 "is_asked" 2 (s_is_asked K C) :=
  cl_of (k := 3) d sc_is_asked rfl (fun _ _ _ _ _ _ us hl => match us, hl with | [_, _], _ => rfl) (fun W ds K h => by obtain ⟨_, _, _, _, e, _⟩ := h; rw [e]; rfl) (fun a W cdv A outer s H E hr =>
  have nd := sc_is_asked.nd
  (ssd_one (sd_ret (pr_and (PRd.e (pr_isi (c := "tuple") (by decide) rfl ft.m_isinstance (pd_var (pv 1)) rfl ft.m_tuple (by decide +kernel))) (pr_and (PRd.e (pr_eqS (PRd.e (pr_len rfl ft.m_len (pd_var (pv 1)))) (PRd.e (pr_len rfl ft.m_len (PRd.e (pr_at (K := K) rfl (pd_var (pv 0)))))))) (pr_one (pr_all rfl rfl ft.m_all (PRd.e (pr_lc (i := 2) rfl nd (id_ss (pr_var (pv 1))) (bok (own := [("told", 2)]) rfl) (fun _ _ _ _ _ => pg_name (i := 2) nd rfl (Or.inl rfl)) (fun _ _ _ _ _ => ptsd_nil) (fun _ _ _ _ _ => (pr_call c_is_number (hr.mono (by decide)) rfl (pad_cons (pr_var (pv 2)) pad_nil))))))))))))
   (fun W ds K h => by
    obtain ⟨a, S, sizes, x, rfl, hS, hs, hx, z⟩ := h
    simp only [sRet, dCB, vCons, vNil, d2, sSeq, sSet]
    by_cases ht : ∃ xs, x = .tup xs
    · obtain ⟨xs, rfl⟩ := ht
      obtain ⟨hl, hf⟩ := fine_tup hx
      refine ⟨_, rfl, nofun, _, rfl, true, rfl, fun _ => ?_, nofun⟩
      refine ⟨_, rfl, nofun, _, xs, rfl, rfl, _, rfl, nofun, a, _, rfl, hS.st, _, _, rfl, rfl, _, _, _, rfl, rfl, rfl, _, rfl, fun hb => ?_, fun hb => ?_⟩
      · have e0 : xs.length = S.length := by
          have := of_decide_eq_true hb
          rw [rowsD_len] at this
          omega
        refine uAllLc ?_
        refine lcN (xs := xs) (fun _ => true) (fun y => .bl y.isNum) (fun K' h' => ⟨_, rfl, _, _, rfl, rfl, h'⟩) (by omega) (fun y hy K' k' => k') (fun y hy _ K' k' => ⟨_, rfl, _, rfl, y, rfl, fine_kd (fineL_iff.mp hf y hy), k' _ rfl⟩) ?_
        rw [filter_tt]
        have em : xs.map (fun y : D => D.bl y.isNum) = (xs.map D.isNum).map .bl := by rw [List.map_map]; rfl
        rw [em]
        refine ⟨_, _, rfl, rfl, _, rfl, z _ ?_⟩
        rw [List.all_map, List.all_eq_true]
        constructor
        · intro h
          obtain ⟨q, rfl, hq⟩ := all_nums (xs := xs) (by rw [List.isEmpty_iff, List.filter_eq_nil_iff]; intro y hy; have := h y hy; simp at this; simp [notNum, this])
          exact ⟨q, rfl, by simpa using e0, hq⟩
        · rintro ⟨q, e, _, hq⟩ y hy
          injection e with e
          subst e
          obtain ⟨i, hi, rfl⟩ := List.mem_map.mp hy
          have := hq i hi
          simp [D.isNum, this]
      · refine ⟨_, rfl, z false ⟨nofun, fun ⟨q, e, h1, _⟩ => ?_⟩⟩
        injection e with e
        subst e
        rw [rowsD_len, List.length_map, h1] at hb
        simp at hb
    · have e : ∀ T, (Sd.d x).ty = some T → isKind T "tuple" = false := fun T h => by
        cases x <;> first | (cases h; rfl) | (exact absurd ⟨_, rfl⟩ ht) | cases h
      obtain ⟨T, hT⟩ := Option.isSome_iff_exists.mp (fine_kd hx)
      refine ⟨_, rfl, nofun, T, hT, _, rfl, fun hb => ?_, fun _ => ⟨_, rfl, z false ⟨nofun, fun ⟨q, e, _⟩ => absurd ⟨_, e⟩ ht⟩⟩⟩
      rw [e T hT] at hb
      cases hb)
end
end DL
namespace DL
open PySem PySem.Spec L2 Tx
section
variable {P : Program} {w : World} {K : PySem.W.Frag} {mg : Str → Option Value} {base : Heap} {C : Addr}
theorem row_ints : ∀ {xs : List D} {sz : List Int}, xs.length = sz.length → (List.zipWith (fun x s => x.isIdx s) xs sz).all _root_.id = true → ∃ r : List Int, xs = r.map .int
  | [], [], _, _ => ⟨[], rfl⟩
  | x :: xs, s :: sz, h, hz => by
    rw [List.zipWith_cons_cons, List.all_cons, Bool.and_eq_true] at hz
    obtain ⟨r, e⟩ := row_ints (xs := xs) (sz := sz) (by simpa using h) hz.2
    cases x with
    | int i => exact ⟨i :: r, by rw [e]; rfl⟩
    | _ => exact absurd hz.1 (by simp [D.isIdx])
  | [], _ :: _, h, _ => by simp at h
  | _ :: _, [], h, _ => by simp at h
theorem ints_row : ∀ {r : List Int} {sizes : List Nat}, r.length = sizes.length → (∀ (i : Nat) v z, r[i]? = some v → sizes[i]? = some z → 0 ≤ v ∧ v < (z : Int)) → (List.zipWith (fun x s => x.isIdx s) (r.map D.int) (natsI sizes)).all _root_.id = true
  | [], [], _, _ => rfl
  | v :: r, z :: sizes, h, hz => by
    have q := ints_row (r := r) (sizes := sizes) (by simpa using h) fun i v' z' h1 h2 => hz (i + 1) v' z' (by simpa using h1) (by simpa using h2)
    have q0 := hz 0 v z rfl rfl
    show (_ && (List.zipWith (fun x s => D.isIdx s x) (r.map D.int) (natsI sizes)).all _root_.id) = true
    rw [q, Bool.and_true]
    show (decide (0 ≤ v) && decide (v < (z : Int))) = true
    simp [q0]
  | [], _ :: _, h, _ => by simp at h
  | _ :: _, [], h, _ => by simp at h
def s_all_lots (K : PySem.W.Frag) (C : Addr) : DSpec := fun W ds Q => ∃ (a : Addr) (S : List Row) (sizes : List Nat), ds = [.ref a] ∧ HasSt K C W a S sizes ∧ StS S sizes ∧ ∀ ls : List (List Nat), ls.Perm (allL sizes.length) → Q (.lst (lotsD ls))
theorem sc_all_lots : FnScope ["store", "found", "key", "lot"] ["store"] (defScope f_all_lots) := ⟨rfl, rfl, rfl, by decide +kernel, rfl, by decide +kernel, by decide +kernel⟩
theorem c_all_lots (ft : Fts mg) (d : DF K mg "all_lots" f_all_lots) : Cl P w K mg base 2 "all_lots" 1 (s_all_lots K C) :=
  cl_of (k := 1) d sc_all_lots rfl (fun _ _ _ _ _ _ us hl => match us, hl with | [_], _ => rfl) (fun W ds K h => by obtain ⟨_, _, _, e, _⟩ := h; rw [e]; rfl) (fun a W cdv A outer s H E hr =>
  have nd := sc_all_lots.nd
  (ssd_cons (sd_set (i := 1) nd rfl (Or.inl rfl) (pr_lst (pad_cons (pr_tup pad_nil) pad_nil))) (ssd_fz 1 (ssd_cons (sd_for PassesOwn.never rfl (id_range1 rfl ft.m_range (pr_at (K := K) rfl (pd_var (pv 0)))) (gd_name (i := 2) nd rfl (Or.inr rfl)) (ssd_cons (sd_set (i := 1) nd rfl (Or.inl rfl) (pr_catA (pd_var (pv 1)) (PRd.e (pr_lc (i := 3) rfl nd (id_ss (pr_var (pv 1))) (bok (own := [("lot", 3)]) rfl) (fun _ _ _ _ _ => pg_name (i := 3) nd rfl (Or.inl rfl)) (fun _ _ _ _ _ => ptsd_nil) (fun _ _ _ _ _ => (pr_tup (pad_star (pd_var (pv 3)) (pad_cons (pr_var (pv 2)) pad_nil)))))))) (ssd_fz 1 ssd_nil))) (ssd_one (sd_ret (pr_sort0 hr rfl ft.m_sorted (ha := (pd_var (pv 1))))))))))
   (fun W ds K h => by
    obtain ⟨a, S, sizes, rfl, hS, hs, z⟩ := h
    simp only [sRet, dCB, vCons, vNil, d2, sSeq, sSet]
    have few := hs.ok.few
    generalize hn0 : sizes.length = n at z few
    have hSn := hS.n
    rw [hn0] at hSn
    refine ⟨(by simp), _, rfl, (by simp), ?_⟩
    refine ⟨_, rfl, nofun, a, _, rfl, hSn, ((n : Nat) : Int), rfl, (by omega), (by omega), fun i ρ => ∃ x2 x3, i ≤ n ∧ ρ = [.d (.ref a), .d (.lst (lotsD (allL i))), x2, x3], ⟨_, _, by omega, rfl⟩, ?_, ?_⟩
    · rintro i x ρ hx ⟨x2, x3, hi, rfl⟩
      have hi' : i < n := by
        have := (List.getElem?_eq_some_iff.mp hx).1
        rwa [rangeD_len, Int.toNat_natCast] at this
      rw [rangeD_at _ _ _ (by rw [Int.toNat_natCast]; exact hi')] at hx
      cases hx
      have e0 : (0 : Int) + (i : Nat) = (i : Nat) := by omega
      rw [e0]
      have hlen : (allL i).length ≤ 256 := by
        have := allL_le (show i ≤ 8 by omega)
        rw [allL_len 8] at this
        exact this
      refine ⟨_, rfl, nofun, ?_⟩
      refine lcN (xs := lotsD (allL i)) (fun _ => true) (addP i) (fun K' h' => ⟨_, rfl, _, _, rfl, rfl, h'⟩) (by rw [lotsD_len]; omega) (fun y hy K' k' => k') (fun y hy _ K' k' => ?_) (.inl ⟨_, _, rfl, rfl, (by rw [List.length_map, filter_tt, lotsD_len]; omega), .d (.int (i : Nat)), x3, (by omega), ?_⟩)
      · obtain ⟨r, hr, rfl⟩ := mem_rowsD hy
        obtain ⟨l, hl, rfl⟩ := List.mem_map.mp hr
        have : l.length ≤ i := by
          have nd := (allL_sorted l hl).imp (fun h => Nat.ne_of_lt h)
          have := L2.nat_nodup_len l (List.range i) nd fun k hk => List.mem_range.mpr (allL_lt l hl k hk)
          simpa using this
        exact ⟨_, rfl, nofun, _, rfl, _, rfl, _, rfl, (by simp [natsI]; omega), k' _ rfl⟩
      · rw [filter_tt, lots_add]
        show [Sd.d (.ref a), Sd.d (.lst (lotsD (allL i) ++ lotsD ((allL i).map (· ++ [i])))), _, _] = _
        rw [show lotsD (allL i) ++ lotsD ((allL i).map (· ++ [i])) = lotsD (allL (i + 1)) from by unfold lotsD rowsD; rw [← List.map_append, ← List.map_append]; rfl]
    · rintro ρ ⟨x2, x3, hi, rfl⟩
      have e1 : (rangeD 0 ((n : Nat) : Int).toNat).length = n := by rw [rangeD_len, Int.toNat_natCast]
      rw [e1]
      obtain ⟨r, e⟩ := allL_head n
      refine ⟨_, rfl, nofun, _, r.map natsI, rfl, (by rw [e]; rfl), fun rows' hp => ⟨_, rfl, ?_⟩⟩
      have hp' : rows'.Perm ((allL n).map natsI) := by rw [e]; exact hp
      obtain ⟨ls, p1, e2⟩ := perm_mapN natsI hp' rfl
      rw [e2]
      exact z ls p1)
def s_is_allowed (K : PySem.W.Frag) (C : Addr) : DSpec := fun W ds Q => ∃ (a : Addr) (S : List Row) (sizes : List Nat) (x : D), ds = [.ref a, x] ∧ HasSt K C W a S sizes ∧ StS S sizes ∧ x.fine 8 = true ∧ ∀ b : Bool, (b = true ↔ ∃ r ∈ S, x = .ints r) → Q (.bl b)
theorem sc_is_allowed : FnScope ["store", "value"] ["store", "value"] (defScope f_is_allowed) := ⟨rfl, rfl, rfl, by decide +kernel, rfl, by decide +kernel, by decide +kernel⟩
theorem c_is_allowed (ft : Fts mg) (c_is_state_of : Cl P w K mg base 5 "is_state_of" 2 s_is_state_of) (hcl : Cls K C) (c_index_of : ClM P w K mg base 2 C "index_of" 2 (s_index_of K)) (d : DF K mg "is_allowed" f_is_allowed) : Cl P w K mg base 6 "is_allowed" 2 (s_is_allowed K C) :=
  cl_of (k := 5) d sc_is_allowed rfl (fun _ _ _ _ _ _ us hl => match us, hl with | [_, _], _ => rfl) (fun W ds K h => by obtain ⟨_, _, _, _, e, _⟩ := h; rw [e]; rfl) (fun a W cdv A outer s H E hr =>
  have nd := sc_is_allowed.nd
  (ssd_one (sd_ret (pr_and (PRd.e (pr_isi (c := "tuple") (by decide) rfl ft.m_isinstance (pd_var (pv 1)) rfl ft.m_tuple (by decide +kernel))) (pr_and (PRd.e (pr_call c_is_state_of (hr.mono (by decide)) rfl (pad_cons (pr_at (K := K) rfl (pd_var (pv 0))) (pad_cons (pr_var (pv 1)) pad_nil)))) (pr_one (pr_notN (PRd.e (pr_meth c_index_of hcl (hr.mono (by decide)) (pd_var (pv 0)) (pad_cons (pr_var (pv 1)) pad_nil))))))))))
   (fun W ds K h => by
    obtain ⟨a, S, sizes, x, rfl, hS, hs, hx, z⟩ := h
    simp only [sRet, dCB, vCons, vNil, d2, sSeq, sSet]
    by_cases ht : ∃ xs, x = .tup xs
    · obtain ⟨xs, rfl⟩ := ht
      obtain ⟨hl, hf⟩ := fine_tup hx
      refine ⟨_, rfl, nofun, _, rfl, true, rfl, fun _ => ?_, nofun⟩
      refine ⟨_, rfl, nofun, a, _, rfl, hS.sz, _, rfl, _, rfl, _, rfl, natsI sizes, .tup xs, rfl, rfl, fun ys hy => ?_, _, rfl, fun hb => ?_, fun hb => ?_⟩
      · cases hy
        exact ⟨by omega, fun y hy => fine_kd (fineL_iff.mp hf y hy)⟩
      · have hb' : (decide (xs.length = (natsI sizes).length) && (List.zipWith (fun x s => x.isIdx s) xs (natsI sizes)).all _root_.id) = true := hb
        rw [Bool.and_eq_true] at hb'
        obtain ⟨r, rfl⟩ := row_ints (of_decide_eq_true hb'.1) hb'.2
        obtain ⟨kvs, k1, k2, k3⟩ := hS.ix
        refine ⟨_, rfl, nofun, a, rfl, hS.mi, _, rfl, _, rfl, a, r, kvs, rfl, k1, ?_⟩
        by_cases hr : r ∈ S
        · obtain ⟨i, hi⟩ := List.getElem?_of_mem hr
          rw [k2 i r hi]
          exact ⟨nofun, _, rfl, z true ⟨fun _ => ⟨r, hr, rfl⟩, fun _ => rfl⟩⟩
        · rw [k3 r hr]
          refine ⟨nofun, _, rfl, z false ⟨nofun, fun ⟨r', hr', e⟩ => ?_⟩⟩
          injection e with e
          rw [ints_inj e] at hr
          exact absurd hr' hr
      · refine ⟨_, rfl, z false ⟨nofun, fun ⟨r, hr, e⟩ => ?_⟩⟩
        injection e with e
        subst e
        have hb' : (decide ((r.map D.int).length = (natsI sizes).length) && (List.zipWith (fun x s => x.isIdx s) (r.map D.int) (natsI sizes)).all _root_.id) = false := hb
        obtain ⟨h1, h2⟩ := hs.row r hr
        rw [ints_row h1 h2] at hb'
        simp [natsI, h1] at hb'
    · have e : ∀ T, (Sd.d x).ty = some T → isKind T "tuple" = false := fun T h => by
        cases x <;> first | (cases h; rfl) | (exact absurd ⟨_, rfl⟩ ht) | cases h
      obtain ⟨T, hT⟩ := Option.isSome_iff_exists.mp (fine_kd hx)
      refine ⟨_, rfl, nofun, T, hT, _, rfl, fun hb => ?_, fun _ => ⟨_, rfl, z false ⟨nofun, fun ⟨q, _, e⟩ => absurd ⟨_, e⟩ ht⟩⟩⟩
      rw [e T hT] at hb
      cases hb)
end
end DL
namespace DL
open PySem PySem.Spec L2 Tx
section
variable {P : Program} {w : World} {K : PySem.W.Frag} {mg : Str → Option Value} {base : Heap} {C : Addr}
def ltP : D → D
  | .tup [.int a, .int b] => .bl (decide (a < b))
  | _ => .non
def adjB : List Nat → List Bool
  | x :: y :: l => decide (x < y) :: adjB (y :: l)
  | _ => []
theorem cut_tail (l : List Nat) : cutG ((natsI l).map D.int) (some 1) none = (natsI l.tail).map .int := by
  cases l with
  | nil => rfl
  | cons x l =>
    rw [show (1 : Int) = ((1 : Nat) : Int) from rfl, cutG_drop _ _ (by simp [natsI])]
    rfl
theorem adj_map : ∀ l : List Nat, (zipD ((natsI l).map .int) ((natsI l.tail).map .int)).map ltP = (adjB l).map .bl
  | [] => rfl
  | [x] => rfl
  | x :: y :: l => by
    have ih := adj_map (y :: l)
    show ltP (.tup [.int (x : Int), .int (y : Int)]) :: (zipD ((natsI (y :: l)).map .int) ((natsI l).map .int)).map ltP = .bl (decide (x < y)) :: (adjB (y :: l)).map .bl
    rw [show (natsI l) = natsI (y :: l).tail from rfl, ih]
    show D.bl (decide ((x : Int) < (y : Int))) :: _ = _
    congr 2
    simp
theorem adj_asc : ∀ l : List Nat, (adjB l).all _root_.id = true ↔ l.Pairwise (· < ·)
  | [] => by simp [adjB]
  | [x] => by simp [adjB]
  | x :: y :: l => by
    have ih := adj_asc (y :: l)
    show (decide (x < y) && (adjB (y :: l)).all _root_.id) = true ↔ _
    rw [Bool.and_eq_true, ih, List.pairwise_cons (a := x)]
    constructor
    · rintro ⟨h1, h2⟩
      have h1 := of_decide_eq_true h1
      refine ⟨fun z hz => ?_, h2⟩
      rcases List.mem_cons.mp hz with e | e
      · rw [e]; exact h1
      · exact Nat.lt_trans h1 ((List.pairwise_cons.mp h2).1 z e)
    · rintro ⟨h1, h2⟩
      exact ⟨decide_eq_true (h1 y (by simp)), h2⟩
theorem uAllT {pi : RI} {is : List Nat} {tg : D → List D → Prop} {pt : RT} {pe : RE} {ρ : List Sd} {K : Bool → Prop} (h : dLc pi is tg pt pe ρ fun s => gAll [s] fun s => ∃ b, s = .d (.bl b) ∧ K (!b)) : dNot (dTB (dCB gAll (vCons (dLc pi is tg pt pe) vNil))) ρ K := h
def s_is_lot (K : PySem.W.Frag) (C : Addr) : DSpec := fun W ds Q => ∃ (a : Addr) (S : List Row) (sizes : List Nat) (x : D), ds = [.ref a, x] ∧ HasSt K C W a S sizes ∧ StS S sizes ∧ x.fine 8 = true ∧ ∀ b : Bool, (b = true ↔ ∃ l : List Nat, x = lotD l ∧ LotOk sizes.length l) → Q (.bl b)
theorem sc_is_lot : FnScope ["store", "value", "key", "after"] ["store", "value"] (defScope f_is_lot) := ⟨rfl, rfl, rfl, by decide +kernel, rfl, by decide +kernel, by decide +kernel⟩
theorem c_is_lot (ft : Fts mg) (c_is_index : Cl P w K mg base 4 "is_index" 2 s_is_index) (d : DF K mg "is_lot" f_is_lot) : Cl P w K mg base 5 "is_lot" 2 (s_is_lot K C) :=
  cl_of (k := 4) d sc_is_lot rfl (fun _ _ _ _ _ _ us hl => match us, hl with | [_, _], _ => rfl) (fun W ds K h => by obtain ⟨_, _, _, _, e, _⟩ := h; rw [e]; rfl) (fun a W cdv A outer s H E hr =>
  have nd := sc_is_lot.nd
  (ssd_cons (sd_if (PWd.t (pwd_or (ptd_not (pt_v (PRd.e (pr_isi (c := "tuple") (by decide) rfl ft.m_isinstance (pd_var (pv 1)) rfl ft.m_tuple (by decide +kernel))))) (pwd_or1 (ptd_not (pt_v (PRd.e (pr_all rfl rfl ft.m_all (PRd.e (pr_lc (i := 2) rfl nd (id_ss (pr_var (pv 1))) (bok (own := [("key", 2)]) rfl) (fun _ _ _ _ _ => pg_name (i := 2) nd rfl (Or.inl rfl)) (fun _ _ _ _ _ => ptsd_nil) (fun _ _ _ _ _ => (pr_call c_is_index (hr.mono (by decide)) rfl (pad_cons (pr_var (pv 2)) (pad_cons (pr_at (K := K) rfl (pd_var (pv 0))) pad_nil))))))))))))) (ssd_one (sd_ret pr_bl)) ssd_nil) (ssd_one (sd_ret (pr_all rfl rfl ft.m_all (PRd.e (pr_lcP (i := 2) (j := 3) rfl nd (id_zz rfl ft.m_zip (pad_cons (pr_var (pv 1)) (pad_cons (pr_slA (pd_var (pv 1)) (pod_some (PRd.e pr_int)) pod_none) pad_nil))) (bok (own := [("key", 2), ("after", 3)]) rfl) (fun _ _ _ _ _ => pg_tup rfl (pgs_cons (pg_name (i := 2) nd rfl (Or.inl rfl)) (pgs_cons (pg_name (i := 3) nd rfl (Or.inl rfl)) pgs_nil))) (fun _ _ _ _ _ => ptsd_nil) (fun _ _ _ _ _ => (pr_lt (pd_var (pv 2)) (pd_var (pv 3)))))))))))
   (fun W ds K h => by
    obtain ⟨a, S, sizes, x, rfl, hS, hs, hx, z⟩ := h
    simp only [sRet, dCB, vCons, vNil, d2, sSeq, sSet]
    have few := hs.ok.few
    by_cases ht : ∃ xs, x = .tup xs
    · obtain ⟨xs, rfl⟩ := ht
      obtain ⟨hl, hf⟩ := fine_tup hx
      refine ⟨_, rfl, nofun, _, rfl, true, rfl, nofun, fun _ => ?_⟩
      refine uAllT ?_
      refine lcN (xs := xs) (fun _ => true) (fun y => .bl (y.isIdx (sizes.length : Nat))) (fun K' h' => ⟨_, rfl, _, _, rfl, rfl, h'⟩) (by omega) (fun y hy K' k' => k') (fun y hy _ K' k' => ⟨_, rfl, _, rfl, _, rfl, nofun, a, _, rfl, hS.n, _, rfl, y, (sizes.length : Nat), rfl, fine_kd (fineL_iff.mp hf y hy), k' _ rfl⟩) ?_
      rw [filter_tt]
      have em : xs.map (fun y : D => D.bl (y.isIdx (sizes.length : Nat))) = (xs.map fun y => y.isIdx (sizes.length : Nat)).map .bl := by rw [List.map_map]; rfl
      rw [em]
      refine ⟨_, _, rfl, rfl, _, rfl, fun hb => ⟨_, rfl, z false ⟨nofun, fun ⟨l, e, hlo⟩ => ?_⟩⟩, fun hb => ?_⟩
      · exfalso
        injection e with e
        subst e
        have : (((natsI l).map D.int).map fun y => y.isIdx (sizes.length : Nat)).all _root_.id = true := by
          rw [List.all_map, List.all_eq_true]
          intro y hy
          obtain ⟨m, hm, rfl⟩ := mem_nats hy
          have := hlo.lt m hm
          show (decide (0 ≤ (m : Int)) && decide ((m : Int) < (sizes.length : Nat))) = true
          simp
          omega
        rw [this] at hb
        cases hb
      · have hall : (xs.map fun y => y.isIdx (sizes.length : Nat)).all _root_.id = true := by simpa using hb
        rw [List.all_map, List.all_eq_true] at hall
        obtain ⟨l, rfl, hlt⟩ := natsD_of (xs := xs) (n := sizes.length) (fun y hy => by
          have := hall y hy
          cases y with
          | int i =>
            refine ⟨i, rfl, ?_⟩
            simpa [D.isIdx] using this
          | _ => simp [D.isIdx] at this)
        refine uNext ?_
        dsimp only
        refine lcP (xs := zipD ((natsI l).map .int) (cutG ((natsI l).map .int) (some 1) none)) (fun _ => true) ltP (fun K' h' => ⟨_, rfl, _, rfl, _, rfl, nofun, 1, rfl, .inr ⟨_, rfl, _, rfl, _, _, _, _, rfl, rfl, rfl, h'⟩⟩) (by have := zip_len ((natsI l).map D.int) (cutG ((natsI l).map D.int) (some 1) none); omega) (fun y hy => zip_pair hy) (fun p q hy K' k' => k') (fun p q hy _ K' k' => ?_) ?_
        · obtain ⟨h1, h2⟩ := zip_mem hy
          obtain ⟨i, hi, rfl⟩ := List.mem_map.mp h1
          obtain ⟨j, hj, rfl⟩ := List.mem_map.mp (mem_cutG h2)
          exact ⟨_, rfl, nofun, _, rfl, nofun, i, j, rfl, rfl, k' _ rfl⟩
        · rw [filter_tt, cut_tail, adj_map]
          refine ⟨_, _, rfl, rfl, _, rfl, z _ ?_⟩
          rw [adj_asc]
          constructor
          · intro h
            exact ⟨l, rfl, h, hlt⟩
          · rintro ⟨l', e, hl'⟩
            have e' : D.ints (natsI l) = D.ints (natsI l') := e
            injection e' with e'
            rw [natsI_inj (ints_inj e')]
            exact hl'.asc
    · have e : ∀ T, (Sd.d x).ty = some T → isKind T "tuple" = false := fun T h => by
        cases x <;> first | (cases h; rfl) | (exact absurd ⟨_, rfl⟩ ht) | cases h
      obtain ⟨T, hT⟩ := Option.isSome_iff_exists.mp (fine_kd hx)
      refine ⟨_, rfl, nofun, T, hT, _, rfl, fun _ => ⟨fun _ => ⟨_, rfl, z false ⟨nofun, fun ⟨l, e, _⟩ => absurd ⟨_, e⟩ ht⟩⟩, nofun⟩, fun hb => ?_⟩
      rw [e T hT] at hb
      cases hb)
end
end DL
namespace DL
open PySem PySem.Spec L2 Tx
section
variable {P : Program} {w : World} {K : PySem.W.Frag} {mg : Str → Option Value} {base : Heap} {C : Addr}
def s_first_fault (K : PySem.W.Frag) (C : Addr) : DSpec := fun W ds Q => ∃ (a : Addr) (S : List Row) (sizes l : List Nat) (qs : List Int), ds = [.ref a, .ints qs, lotD l] ∧ HasSt K C W a S sizes ∧ StS S sizes ∧ LotOk sizes.length l ∧ qs.length = S.length ∧ (tellsQ S qs l → Q .non) ∧ (¬ tellsQ S qs l → ∀ r s : Row, Q (.tup [.ints r, .ints s]))
theorem sc_first_fault : FnScope ["store", "question", "lot", "seen", "at", "view", "begin"] ["store", "question", "lot"] (defScope f_first_fault) := ⟨rfl, rfl, rfl, by decide +kernel, rfl, by decide +kernel, by decide +kernel⟩
theorem c_first_fault (ft : Fts mg) (c_views : Cl P w K mg base 3 "views" 2 (s_views K C)) (d : DF K mg "first_fault" f_first_fault) : Cl P w K mg base 4 "first_fault" 3 (s_first_fault K C) :=
  cl_of (k := 3) d sc_first_fault rfl (fun _ _ _ _ _ _ us hl => match us, hl with | [_, _, _], _ => rfl) (fun W ds K h => by obtain ⟨_, _, _, _, _, e, _⟩ := h; rw [e]; rfl) (fun a W cdv A outer s H E hr =>
  have nd := sc_first_fault.nd
  (ssd_cons (sd_set (i := 3) nd rfl (Or.inl rfl) pr_dT) (ssd_cons (sd_for PassesOwn.never rfl (id_ee rfl ft.m_enumerate (pad_cons (pr_call c_views (hr.mono (by decide)) rfl (pad_cons (pr_var (pv 0)) (pad_cons (pr_var (pv 2)) pad_nil))) pad_nil)) (gd_tup (is := [4, 5]) rfl (pgs_cons (pg_name (i := 4) nd rfl (Or.inl rfl)) (pgs_cons (pg_name (i := 5) nd rfl (Or.inl rfl)) pgs_nil))) (ssd_cons (sd_setX (n := 6) nd rfl (Or.inl rfl) (px_setd hr (pv 3) (pd_var (pv 5)) (pr_var (pv 4)) ⟨rfl, rfl, rfl, rfl⟩)) (ssd_one (sd_if (pt_neS (PRd.e (pr_item (pd_var (pv 1)) (pd_var (pv 6)))) (PRd.e (pr_item (pd_var (pv 1)) (pd_var (pv 4))))) (ssd_one (sd_ret (pr_tup (pad_cons (pr_item (PRd.e (pr_at (K := K) rfl (pd_var (pv 0)))) (pd_var (pv 6))) (pad_cons (pr_item (PRd.e (pr_at (K := K) rfl (pd_var (pv 0)))) (pd_var (pv 4))) pad_nil))))) ssd_nil)))) (ssd_one (sd_ret pr_non)))))
   (fun W ds K h => by
    obtain ⟨a, S, sizes, l, qs, rfl, hS, hs, hl, hq, z1, z2⟩ := h
    simp only [sRet, dCB, vCons, vNil, d2, sSeq, sSet]
    have few := hs.few
    have vat : ∀ (i : Nat) x, (enumD (viewsD S l))[i]? = some x → ∃ s, S[i]? = some s ∧ x = .tup [.int (i : Nat), .ints (viewK s l)] := fun i x h => by
      obtain ⟨v, h1, e⟩ := enum_at h
      rw [List.getElem?_map] at h1
      cases e1 : S[i]? with
      | none => rw [e1] at h1; cases h1
      | some s => rw [e1] at h1; cases h1; exact ⟨s, rfl, e⟩
    have sat : ∀ (i : Nat) s, S[i]? = some s → L2.atI (rowsD S) (i : Int) = some (.ints s) := fun i s h => atI_nat (by unfold rowsD; rw [List.getElem?_map, h]; rfl)
    refine ⟨_, rfl, _, rfl, _, rfl, _, rfl, a, S, sizes, l, rfl, hS, hs, hl, _, rfl, _, _, rfl, rfl, fun i ρ => ∃ (kvs : List (Row × D)) (x4 x5 x6 : Sd), ρ = [.d (.ref a), .d (.ints qs), .d (lotD l), .ot kvs, x4, x5, x6] ∧ kvs.length ≤ i ∧ (∀ v d, dget kvs v = some d → ∃ (j : Nat) (s : Row), j < i ∧ S[j]? = some s ∧ viewK s l = v ∧ d = .int (j : Nat)) ∧ (∀ (j : Nat) s, j < i → S[j]? = some s → ∃ b : Nat, dget kvs (viewK s l) = some (.int (b : Nat)) ∧ qs[b]? = qs[j]?), ⟨[], _, _, _, rfl, Nat.le_refl 0, fun v d h => (by cases h), fun j s h => absurd h (Nat.not_lt_zero _)⟩, ?_, ?_⟩
    · rintro i x ρ hx ⟨kvs, x4, x5, x6, rfl, q1, q2, q3⟩
      obtain ⟨s, hsi, rfl⟩ := vat i x hx
      have hiS := (List.getElem?_eq_some_iff.mp hsi).1
      have hiq : i < qs.length := by omega
      refine ⟨_, rfl, rfl, ?_⟩
      refine ⟨⟨_, rfl⟩, _, rfl, nofun, viewK s l, rfl, _, rfl, _, kvs, rfl, rfl, by omega, fun y hy => ?_, fun hn => ?_⟩
      · obtain ⟨b, t, hb1, hb2, hb3, rfl⟩ := q2 _ _ hy
        have hbq : b < qs.length := by omega
        refine ⟨_, rfl, nofun, _, rfl, nofun, _, _, _, rfl, rfl, ints_at hbq, _, rfl, nofun, _, rfl, nofun, _, _, _, rfl, rfl, ints_at hiq, _, _, _, rfl, rfl, rfl, _, rfl, fun hb => ?_, fun hb => ?_⟩
        · refine ⟨_, rfl, nofun, a, _, rfl, hS.st, _, rfl, nofun, _, _, _, rfl, rfl, sat b t hb2, _, rfl, _, rfl, nofun, a, _, rfl, hS.st, _, rfl, nofun, _, _, _, rfl, rfl, sat i s hsi, _, rfl, by simp, _, rfl, z2 (fun ht => ?_) t s⟩
          have := ht b i t s _ _ hb2 hsi (List.getElem?_eq_getElem hbq) (List.getElem?_eq_getElem hiq) hb3
          rw [this] at hb
          simp at hb
        · have e : qs[b] = qs[i] := by simpa using hb
          refine ⟨kvs, _, _, _, rfl, by omega, fun v d h => ?_, fun j s' hj h => ?_⟩
          · obtain ⟨j, s', h1, h2⟩ := q2 v d h
            exact ⟨j, s', by omega, h2⟩
          · by_cases ej : j = i
            · subst ej
              rw [hsi] at h
              cases h
              exact ⟨b, hy, by rw [List.getElem?_eq_getElem hbq, List.getElem?_eq_getElem hiq, e]⟩
            · exact q3 j s' (by omega) h
      · refine ⟨_, rfl, nofun, _, rfl, nofun, _, _, _, rfl, rfl, ints_at hiq, _, rfl, nofun, _, rfl, nofun, _, _, _, rfl, rfl, ints_at hiq, _, _, _, rfl, rfl, rfl, _, rfl, fun hb => ?_, fun hb => ?_⟩
        · simp at hb
        · have dg : ∀ v, dget (kvs ++ [(viewK s l, D.int (i : Nat))]) v = if v = viewK s l then some (.int (i : Nat)) else dget kvs v := fun v => by
            have := dget_dput kvs (viewK s l) v (D.int (i : Nat))
            rw [← this]
            unfold dput
            rw [dget_isSome, hn]
            rfl
          refine ⟨kvs ++ [(viewK s l, .int (i : Nat))], _, _, _, rfl, by simp; omega, fun v d h => ?_, fun j s' hj h => ?_⟩
          · rw [dg] at h
            split at h
            · rename_i e
              cases h
              exact ⟨i, s, by omega, hsi, e.symm, rfl⟩
            · obtain ⟨j, s', h1, h2⟩ := q2 v d h
              exact ⟨j, s', by omega, h2⟩
          · by_cases ej : j = i
            · subst ej
              rw [hsi] at h
              cases h
              exact ⟨j, by rw [dg, if_pos rfl], rfl⟩
            · obtain ⟨b, h1, h2⟩ := q3 j s' (by omega) h
              refine ⟨b, ?_, h2⟩
              rw [dg, if_neg (fun e => by rw [e, hn] at h1; cases h1)]
              exact h1
    · rintro ρ ⟨kvs, x4, x5, x6, rfl, q1, q2, q3⟩
      refine ⟨_, rfl, z1 fun i j s t p q h1 h2 h3 h4 h5 => ?_⟩
      have el : (enumD (viewsD S l)).length = S.length := by unfold enumD viewsD rowsD; simp
      rw [el] at q3
      obtain ⟨b, b1, b2⟩ := q3 i s (List.getElem?_eq_some_iff.mp h1).1 h1
      obtain ⟨c, c1, c2⟩ := q3 j t (List.getElem?_eq_some_iff.mp h2).1 h2
      rw [h5, c1] at b1
      have e : c = b := by
        injection b1 with b1
        injection b1 with b1
        omega
      subst e
      rw [b2] at c2
      rw [h3, h4] at c2
      exact Option.some.inj c2)
end
end DL
/-! A def whose function object stays in sight: for calls by keywords. -/
namespace DL
open PySem PySem.Spec L2
section
variable {P : Program} {w : World} {K : PySem.W.Frag} {mg : Str → Option Value} {base : Heap} {x : Str} {st : Stmt} {N ps : List Str} {k n : Nat} {f : DSpec}
structure ClX (P : Program) (w : World) (K : PySem.W.Frag) (mg : Str → Option Value) (base : Heap) (k : Nat) (x : Str) (st : Stmt) (ps : List Str) (f : DSpec) : Prop where
  ex : ∃ a fd, mg x = some (.ref a) ∧ FunD K x x (defArgs st) (defBody st) (defScope st) [] [] a fd ∧ FnOk P w K mg base CX0 k a fd ps (spD f)
theorem clx_of (d : DF K mg x st) (S : FnScope N ps (defScope st)) {pr : Amb → RS} (hlen : ∀ W ds K, f W ds K → ds.length = ps.length)
    (hb : ∀ (a : Addr) (W : Amb) (cdv : Value) (A : Around) (outer : List PySem.Env) (s : Shared) (H : Hp) (E : XK), Room k (A.deeper (PyProof.Rows.envOfC x (defScope st) s.heap.objs.size a cdv)) → PSsd W (cxOf CX0 P w K mg base N x (defScope st) a cdv A outer s H E).nox (defBody st) (pr W))
    (hp : ∀ (W : Amb) (ds : List D) (K : D → Prop), f W ds K → pr W { nx := fun _ => K .non, rt := K } (startD N.length ds)) : ClX P w K mg base (k + 1) x st ps f := by
  obtain ⟨a, fd, hm, F⟩ := d.ex
  exact ⟨a, fd, hm, F, fn_ok F S hlen (fun W cdv A outer s H E hr => hb a W cdv A outer s H E hr) hp⟩
theorem ClX.cl (c : ClX P w K mg base k x st ps f) (hn : ps.length = n)
    (hbi : ∀ (kV doc pm : Value) (an : Option Addr) (cdv ct : Value) (us : List Value), us.length = ps.length → bindArgs (PySem.W.fnOf x x (defArgs st) (defBody st) (defScope st) .none kV doc pm an cdv ct) ⟨us, []⟩ = pure (ps.zip us)) : Cl P w K mg base k x n f := by
  obtain ⟨a, fd, hm, F, o⟩ := c.ex
  exact ⟨a, fd, ps, hm, F.kp, hn, F.bindsN hbi, o⟩
theorem vals_rev {vs : List V} {us : List Value} (h : Vals vs us) : Vals vs.reverse us.reverse := by
  induction h with
  | nil => exact .nil
  | cons r1 _ ih =>
    rw [List.reverse_cons, List.reverse_cons]
    exact ih.append (.cons r1 .nil)
/-- how it binds keywords, named backwards -/
def KwB (x : Str) (st : Stmt) (ps ks : List Str) : Prop := ∀ (kV doc pm : Value) (an : Option Addr) (cdv ct : Value) (ws : List Value), ws.length = ks.length → bindArgs (PySem.W.fnOf x x (defArgs st) (defBody st) (defScope st) .none kV doc pm an cdv ct) ⟨[], ks.zip ws⟩ = pure (ps.zip ws.reverse)
theorem pe_callKw {X : Cx} {CX : CXT} {a : Addr} {fd : FuncData} {sp : Sp} {E : XK} {kws : List Keyword} {tk : TA} {ks : List Str} {p pos : Pos} (F : FnOk X.prog X.w X.K X.mg X.base CX k a fd ps sp) (hr : Room k X.A) (hg : Gl X x) (hm : X.mg x = some (.ref a)) (hk : PySem.W.keepIn X.K (.ref a) = true) (hx : Passes CX X E)
    (hb : ∀ (s : Shared) (ws : List Value), ws.length = ks.length → X.K.In s.heap → BindsTo s fd ⟨[], ks.zip ws⟩ (ps.zip ws.reverse)) (hkw : PK X kws tk) (hall : (backToKw pos (keywordEach kws X.env)).all (·.1.isSome) = true := by rfl) (hks : (backToKw pos (keywordEach kws X.env)).filterMap (·.1) = ks := by rfl)
    (hdb : (x == ("__debug__" : Str)) = false := by decide) (hpl : ((backTo pos (starEach [] X.env)).any (·.1) || (backToKw pos (keywordEach kws X.env)).any (·.1.isNone)) = false := by rfl) :
    PE X (.Call (.Name x p) [] kws pos) (fun σ H Q => tk σ H fun zs H2 => zs.length = ks.length ∧ sp zs.reverse H2 Q E) := by
  refine ⟨fun pins s σ H Q I h => ?_⟩
  refine wpAny_Call_Name_kw (ld_glob I hg hm ?_ hdb)
  refine PySem.W.callWith_KW0 (h₀ := X.base) I.ok.mod.kin hk hall (thn (hkw.run pos pins s σ H _ I h) fun ws s2 ⟨zs, H2, I2, rz, hl, q⟩ => ⟨I2.kIn, ?_⟩) hpl
  rw [hks]
  have hl2 : ws.length = ks.length := by rw [← rz.length]; exact hl
  have rr : Vals zs.reverse ws.reverse := vals_rev rz
  refine wpAny_call (codeAny_mono (F.run X.A X.stack s2 H2 _ ws.reverse zs.reverse Q E hr I2.env0 (hb s2 ws hl2 I2.kIn) rr q) fun r s3 hq => ?_)
  cases r with
  | error e => exact hx pins σ H2 s2 e s3 I2 hq
  | ok fl =>
    cases fl with
    | ret u => exact I2.after hq
    | next => exact False.elim hq
    | brk => exact False.elim hq
    | cont => exact False.elim hq
theorem ClX.binds (F : FunD K x x (defArgs st) (defBody st) (defScope st) [] [] a fd) {ks : List Str} (hb : KwB x st ps ks) (s : Shared) (ws : List Value) (hl : ws.length = ks.length) : BindsTo s fd ⟨[], ks.zip ws⟩ (ps.zip ws.reverse) := by
  obtain ⟨oc, od, dV, kV, doc, pm, an, cdv, ct, osl, rfl, lk, hcd, hD, hK⟩ := F.ex
  rcases hD with ⟨_, rfl⟩ | ⟨e, _⟩
  · exact BindsTo.of_eq (hb kV doc pm an cdv ct ws hl)
  · exact absurd rfl e
/-- f(k = e) -/
def dKw1 (W : Amb) (f : DSpec) (p1 : RE) : RE := fun ρ Q => p1 ρ fun s => ∃ d, s.frz = some d ∧ f W [d] fun r => Q (.d r)
def dKw2 (W : Amb) (f : DSpec) (p1 p2 : RE) : RE := fun ρ Q => p1 ρ fun s => ∃ d, s.frz = some d ∧ p2 ρ fun s2 => ∃ d2, s2.frz = some d2 ∧ f W [d2, d] fun r => Q (.d r)
variable {W : Amb} {X : Cx} {e1 e2 : Expr} {q1 q2 : RE} {k1 k2 : Str} {p pos kp1 kp2 : Pos}
theorem pr_kw1 (c : ClX X.prog X.w X.K X.mg X.base k x st ps f) (hb : KwB x st ps [k1]) (hr : Room k X.A) (hg : Gl X x) (h1 : PRd W X e1 q1) (hdb : (x == ("__debug__" : Str)) = false := by decide) : PRd W X (.Call (.Name x p) [] [⟨some k1, e1, kp1⟩] pos) (dKw1 W f q1) := ⟨fun F0 B => by
  obtain ⟨a, fd, hm, Fn, o⟩ := c.ex
  refine (pe_callKw (ks := [k1]) (E := E0) o hr hg hm Fn.kp (pass0 (X := X)) (fun s ws hl _ => ClX.binds Fn hb s ws hl) (pk_cons (h1.run F0 B) pk_nil) rfl rfl hdb rfl).imp fun σ H Q ⟨F, ρ, Q', E, z, kk⟩ => ⟨F, ρ, _, E, z, fun s v as F1 H1 ⟨d, ed, z1⟩ st sv n => ?_⟩
  obtain ⟨F2, s2, i2, _⟩ := st.frz E.ok sv n ed
  refine ⟨rfl, ?_⟩
  exact ⟨W, F2, [d], _, s2.ok, ⟨i2, trivial⟩, z1, fun r v' F3 H3 kr s3 i3 => kk (.d r) v' [] F3 H3 kr (s2.trans E.ok s3) ⟨rfl, i3⟩ New.nil⟩⟩
theorem pr_kw2 (c : ClX X.prog X.w X.K X.mg X.base k x st ps f) (hb : KwB x st ps [k1, k2]) (hr : Room k X.A) (hg : Gl X x) (h1 : PRd W X e1 q1) (h2 : PRd W X e2 q2) (hdb : (x == ("__debug__" : Str)) = false := by decide) : PRd W X (.Call (.Name x p) [] [⟨some k1, e1, kp1⟩, ⟨some k2, e2, kp2⟩] pos) (dKw2 W f q1 q2) := ⟨fun F0 B => by
  obtain ⟨a, fd, hm, Fn, o⟩ := c.ex
  refine (pe_callKw (ks := [k1, k2]) (E := E0) o hr hg hm Fn.kp (pass0 (X := X)) (fun s ws hl _ => ClX.binds Fn hb s ws hl) (pk_cons (h1.run F0 B) (pk_cons (h2.run F0 B) pk_nil)) rfl rfl hdb rfl).imp fun σ H Q ⟨F, ρ, Q', E, z, kk⟩ => ⟨F, ρ, _, E, z, fun s v as F1 H1 ⟨d, ed, z1⟩ st sv n => ?_⟩
  obtain ⟨F2, s2, i2, _⟩ := st.frz E.ok sv n ed
  refine ⟨F2, ρ, _, E.step s2, z1, fun s3 v3 as3 F3 H3 ⟨d3, ed3, z3⟩ st3 sv3 n3 => ?_⟩
  obtain ⟨F4, s4, i4, _⟩ := st3.frz s2.ok sv3 n3 ed3
  have s24 := s2.trans E.ok s4
  refine ⟨rfl, ?_⟩
  exact ⟨W, F4, [d3, d], _, s24.ok, ⟨i4, i2.mono s4.ff, trivial⟩, z3, fun r v' F5 H5 kr s5 i5 => kk (.d r) v' [] F5 H5 kr (s24.trans E.ok s5) ⟨rfl, i5⟩ New.nil⟩⟩
end
end DL
namespace DL
open PySem PySem.Spec L2 Tx
section
variable {P : Program} {w : World} {K : PySem.W.Frag} {mg : Str → Option Value} {base : Heap} {C : Addr}
def inKP (p : List Nat) : D → Bool
  | .int i => decide (i ∈ natsI p)
  | _ => false
def sameK (r s : Row) : D → D
  | .int i => .bl (decide (r.getD i.toNat 0 = s.getD i.toNat 0))
  | _ => .non
theorem same_map (r s : Row) (p2 : List Nat) : ∀ p : List Nat, (((natsI p).map D.int).filter (inKP p2)).map (sameK r s) = ((p.filter fun k => decide (k ∈ p2)).map fun k => decide (r.getD k 0 = s.getD k 0)).map .bl
  | [] => rfl
  | k :: p => by
    have ih := same_map r s p2 p
    have e : inKP p2 (.int (k : Int)) = decide (k ∈ p2) := by
      show decide ((k : Int) ∈ natsI p2) = _
      simp [natsI_mem]
    show ((D.int (k : Int) :: (natsI p).map D.int).filter (inKP p2)).map (sameK r s) = _
    rw [List.filter_cons, List.filter_cons, e]
    split
    · rw [List.map_cons, ih]
      rfl
    · exact ih
def s_are_torn_plans (K : PySem.W.Frag) (C : Addr) : DSpec := fun W ds Q => ∃ (a : Addr) (S : List Row) (sizes : List Nat) (x : D), ds = [.ref a, x] ∧ HasSt K C W a S sizes ∧ StS S sizes ∧ x.fine 9 = true ∧ ∀ b : Bool, (b = true ↔ TornV S sizes.length x) → Q (.bl b)
theorem sc_are_torn_plans : FnScope ["store", "value", "one", "other", "first", "second", "question", "key"] ["store", "value"] (defScope f_are_torn_plans) := ⟨rfl, rfl, rfl, by decide +kernel, rfl, by decide +kernel, by decide +kernel⟩
theorem cx_are_torn_plans (ft : Fts mg) (c_first_fault : Cl P w K mg base 4 "first_fault" 3 (s_first_fault K C)) (c_is_allowed : Cl P w K mg base 6 "is_allowed" 2 (s_is_allowed K C)) (c_is_asked : Cl P w K mg base 4 "is_asked" 2 (s_is_asked K C)) (c_is_lot : Cl P w K mg base 5 "is_lot" 2 (s_is_lot K C)) (hcl : Cls K C) (c_index_of : ClM P w K mg base 2 C "index_of" 2 (s_index_of K)) (d : DF K mg "are_torn_plans" f_are_torn_plans) : ClX P w K mg base 7 "are_torn_plans" f_are_torn_plans ["store", "value"] (s_are_torn_plans K C) :=
  clx_of (k := 6) d sc_are_torn_plans (fun W ds K h => by obtain ⟨_, _, _, _, e, _⟩ := h; rw [e]; rfl) (fun a W cdv A outer s H E hr =>
  have nd := sc_are_torn_plans.nd
  (ssd_cons (sd_if (PWd.t (pwd_or (ptd_not (pt_v (PRd.e (pr_isi (c := "tuple") (by decide) rfl ft.m_isinstance (pd_var (pv 1)) rfl ft.m_tuple (by decide +kernel))))) (pwd_or1 (pt_neS (PRd.e (pr_len rfl ft.m_len (pd_var (pv 1)))) (PRd.e pr_int))))) (ssd_one (sd_ret pr_bl)) ssd_nil) (ssd_cons (sd_asg (pr_var (pv 1)) (gd_tup (is := [2, 3, 4, 5, 6]) rfl (pgs_cons (pg_name (i := 2) nd rfl (Or.inr rfl)) (pgs_cons (pg_name (i := 3) nd rfl (Or.inr rfl)) (pgs_cons (pg_name (i := 4) nd rfl (Or.inl rfl)) (pgs_cons (pg_name (i := 5) nd rfl (Or.inr rfl)) (pgs_cons (pg_name (i := 6) nd rfl (Or.inl rfl)) pgs_nil))))))) (ssd_cons (sd_if (PWd.t (pwd_or (ptd_not (pt_v (PRd.e (pr_call c_is_allowed (hr.mono (by decide)) rfl (pad_cons (pr_var (pv 0)) (pad_cons (pr_var (pv 2)) pad_nil)))))) (pwd_or1 (ptd_not (pt_v (PRd.e (pr_call c_is_allowed (hr.mono (by decide)) rfl (pad_cons (pr_var (pv 0)) (pad_cons (pr_var (pv 3)) pad_nil))))))))) (ssd_one (sd_ret pr_bl)) ssd_nil) (ssd_cons (sd_if (PWd.t (pwd_or (ptd_not (pt_v (PRd.e (pr_call c_is_lot (hr.mono (by decide)) rfl (pad_cons (pr_var (pv 0)) (pad_cons (pr_var (pv 4)) pad_nil)))))) (pwd_or1 (ptd_not (pt_v (PRd.e (pr_call c_is_lot (hr.mono (by decide)) rfl (pad_cons (pr_var (pv 0)) (pad_cons (pr_var (pv 5)) pad_nil))))))))) (ssd_one (sd_ret pr_bl)) ssd_nil) (ssd_cons (sd_if (PWd.t (pwd_or (ptd_not (pt_v (PRd.e (pr_call c_is_asked (hr.mono (by decide)) rfl (pad_cons (pr_var (pv 0)) (pad_cons (pr_var (pv 6)) pad_nil)))))) (pwd_or1 (pt_eqS (PRd.e (pr_item (pd_var (pv 6)) (PRd.e (pr_meth c_index_of hcl (hr.mono (by decide)) (pd_var (pv 0)) (pad_cons (pr_var (pv 2)) pad_nil))))) (PRd.e (pr_item (pd_var (pv 6)) (PRd.e (pr_meth c_index_of hcl (hr.mono (by decide)) (pd_var (pv 0)) (pad_cons (pr_var (pv 3)) pad_nil))))))))) (ssd_one (sd_ret pr_bl)) ssd_nil) (ssd_cons (sd_if (ptd_not (pt_v (PRd.e (pr_all rfl rfl ft.m_all (PRd.e (pr_lc (i := 7) rfl nd (id_ss (pr_var (pv 4))) (bok (own := [("key", 7)]) rfl) (fun _ _ _ _ _ => pg_name (i := 7) nd rfl (Or.inl rfl)) (fun _ _ _ _ _ => ptsd_one (pt_inI (pd_var (pv 7)) (pd_var (pv 5)))) (fun _ _ _ _ _ => (pr_eqS (PRd.e (pr_item (pd_var (pv 2)) (pd_var (pv 7)))) (PRd.e (pr_item (pd_var (pv 3)) (pd_var (pv 7)))))))))))) (ssd_one (sd_ret pr_bl)) ssd_nil) (ssd_one (sd_ret (pr_and (PRd.e (pr_isN (PRd.e (pr_call c_first_fault (hr.mono (by decide)) rfl (pad_cons (pr_var (pv 0)) (pad_cons (pr_var (pv 6)) (pad_cons (pr_var (pv 4)) pad_nil))))))) (pr_one (pr_isN (PRd.e (pr_call c_first_fault (hr.mono (by decide)) rfl (pad_cons (pr_var (pv 0)) (pad_cons (pr_var (pv 6)) (pad_cons (pr_var (pv 5)) pad_nil)))))))))))))))))
   (fun W ds K h => by
    obtain ⟨a, S, sizes, x, rfl, hS, hs, hx, z⟩ := h
    simp only [sRet, dCB, vCons, vNil, d2, sSeq, sSet]
    have hF : ¬ TornV S sizes.length x → K (.bl false) := fun h => z false ⟨nofun, fun t => absurd t h⟩
    by_cases ht : ∃ xs, x = .tup xs
    · obtain ⟨xs, rfl⟩ := ht
      obtain ⟨hl, hf⟩ := fine_tup hx
      refine ⟨_, rfl, nofun, _, rfl, true, rfl, nofun, fun _ => ⟨_, rfl, nofun, _, _, rfl, rfl, _, _, _, rfl, rfl, rfl, _, rfl, fun hb => ?_, fun hb => ?_⟩⟩
      · have h5 : ¬ (xs.length : Int) = 5 := by simpa using hb
        refine ⟨_, rfl, hF fun ⟨a, b, p1, p2, qs, e, _⟩ => h5 ?_⟩
        cases e
        rfl
      · have h5 : xs.length = 5 := by
          have : (xs.length : Int) = 5 := by simpa using hb
          omega
        obtain ⟨x1, x2, x3, x4, x5, rfl⟩ : ∃ a b c d e, xs = [a, b, c, d, e] := by
          match xs, h5 with
          | [a, b, c, d, e], _ => exact ⟨a, b, c, d, e, rfl⟩
        have f1 : x1.fine 8 = true := fineL_iff.mp hf x1 (by simp)
        have f2 : x2.fine 8 = true := fineL_iff.mp hf x2 (by simp)
        have f3 : x3.fine 8 = true := fineL_iff.mp hf x3 (by simp)
        have f4 : x4.fine 8 = true := fineL_iff.mp hf x4 (by simp)
        have f5 : x5.fine 8 = true := fineL_iff.mp hf x5 (by simp)
        refine ⟨_, rfl, _, rfl, _, rfl, rfl, ?_⟩
        refine uNext ?_
        dsimp only
        refine ⟨_, rfl, _, rfl, _, rfl, _, rfl, a, S, sizes, x1, rfl, hS, hs, f1, fun b1 hb1 => ⟨b1, rfl, fun g => ⟨fun _ => ?_, nofun⟩, fun g => ?_⟩⟩
        · have : b1 = false := by simpa using g
          subst this
          exact ⟨_, rfl, hF fun ⟨a, b, p1, p2, qs, e, ha, _⟩ => absurd (hb1.mpr ⟨a, ha, (tup5 e).1⟩) (by simp)⟩
        have : b1 = true := by simpa using g
        subst this
        obtain ⟨r1, haS, rfl⟩ := hb1.mp rfl
        refine ⟨_, rfl, _, rfl, _, rfl, _, rfl, a, S, sizes, x2, rfl, hS, hs, f2, fun b2 hb2 => ⟨b2, rfl, fun g => ?_, fun g => ?_⟩⟩
        · have : b2 = false := by simpa using g
          subst this
          exact ⟨_, rfl, hF fun ⟨a, b, p1, p2, qs, e, ha, hb, _⟩ => absurd (hb2.mpr ⟨b, hb, (tup5 e).2.1⟩) (by simp)⟩
        have : b2 = true := by simpa using g
        subst this
        obtain ⟨r2, hbS, rfl⟩ := hb2.mp rfl
        refine uNext ?_
        dsimp only
        refine ⟨_, rfl, _, rfl, _, rfl, _, rfl, a, S, sizes, x3, rfl, hS, hs, f3, fun b1 hb1 => ⟨b1, rfl, fun g => ⟨fun _ => ?_, nofun⟩, fun g => ?_⟩⟩
        · have : b1 = false := by simpa using g
          subst this
          exact ⟨_, rfl, hF fun ⟨a, b, p1, p2, qs, e, _, _, h1, _⟩ => absurd (hb1.mpr ⟨p1, (tup5 e).2.2.1, h1⟩) (by simp)⟩
        have : b1 = true := by simpa using g
        subst this
        obtain ⟨p1, rfl, o1⟩ := hb1.mp rfl
        refine ⟨_, rfl, _, rfl, _, rfl, _, rfl, a, S, sizes, x4, rfl, hS, hs, f4, fun b2 hb2 => ⟨b2, rfl, fun g => ?_, fun g => ?_⟩⟩
        · have : b2 = false := by simpa using g
          subst this
          exact ⟨_, rfl, hF fun ⟨a, b, p1, p2, qs, e, _, _, _, h2, _⟩ => absurd (hb2.mpr ⟨p2, (tup5 e).2.2.2.1, h2⟩) (by simp)⟩
        have : b2 = true := by simpa using g
        subst this
        obtain ⟨p2, rfl, o2⟩ := hb2.mp rfl
        refine uNext ?_
        dsimp only
        refine ⟨_, rfl, _, rfl, _, rfl, _, rfl, a, S, sizes, x5, rfl, hS, hs, f5, fun b1 hb1 => ⟨b1, rfl, fun g => ⟨fun _ => ?_, nofun⟩, fun g => ?_⟩⟩
        · have : b1 = false := by simpa using g
          subst this
          exact ⟨_, rfl, hF fun ⟨a, b, p1, p2, qs, e, _, _, _, _, h3, h4, _⟩ => absurd (hb1.mpr ⟨qs, (tup5 e).2.2.2.2, h3, h4⟩) (by simp)⟩
        have : b1 = true := by simpa using g
        subst this
        obtain ⟨qs, rfl, hq1, hq2⟩ := hb1.mp rfl
        obtain ⟨kvs, k1, k2, k3⟩ := hS.ix
        obtain ⟨i, hi⟩ := List.getElem?_of_mem haS
        obtain ⟨j, hj⟩ := List.getElem?_of_mem hbS
        have hiq : i < qs.length := by rw [hq1]; exact (List.getElem?_eq_some_iff.mp hi).1
        have hjq : j < qs.length := by rw [hq1]; exact (List.getElem?_eq_some_iff.mp hj).1
        refine ⟨_, rfl, nofun, _, rfl, nofun, a, rfl, hS.mi, _, rfl, _, rfl, a, r1, kvs, rfl, k1, ?_⟩
        rw [k2 i r1 hi]
        refine ⟨_, (i : Nat), _, rfl, rfl, ints_at hiq, _, rfl, nofun, _, rfl, nofun, a, rfl, hS.mi, _, rfl, _, rfl, a, r2, kvs, rfl, k1, ?_⟩
        rw [k2 j r2 hj]
        refine ⟨_, (j : Nat), _, rfl, rfl, ints_at hjq, _, _, _, rfl, rfl, rfl, _, rfl, fun hb => ?_, fun hb => ?_⟩
        · refine ⟨_, rfl, hF fun ⟨a', b', p1', p2', qs', e, _, _, _, _, _, _, _, hne, _⟩ => ?_⟩
          obtain ⟨e1, e2, _, _, e5⟩ := torn_inj e
          subst e1 e2 e5
          exact hne i j _ _ hi hj (List.getElem?_eq_getElem hiq) (List.getElem?_eq_getElem hjq) (by simpa using hb)
        refine uNext ?_
        dsimp only
        have hij : qs[i] ≠ qs[j] := by simpa using hb
        have r1l := (hs.row r1 haS).1
        have r2l := (hs.row r2 hbS).1
        have lp1 := lot_len o1
        have few := hs.ok.few
        refine uAllT ?_
        refine lcN (xs := (natsI p1).map .int) (inKP p2) (sameK r1 r2) (fun K' h' => ⟨_, rfl, _, _, rfl, rfl, h'⟩) (by simp [natsI]; omega) (fun y hy K' k' => ?_) (fun y hy _ K' k' => ?_) ?_
        · obtain ⟨k, hk, rfl⟩ := mem_nats hy
          exact ⟨_, rfl, nofun, _, rfl, nofun, _, natsI p2, rfl, rfl, _, rfl, k'⟩
        · obtain ⟨k, hk, rfl⟩ := mem_nats hy
          have hk1 := o1.lt k hk
          refine ⟨_, rfl, nofun, _, rfl, nofun, _, _, _, rfl, rfl, ints_at (show k < r1.length by omega), _, rfl, nofun, _, rfl, nofun, _, _, _, rfl, rfl, ints_at (show k < r2.length by omega), _, _, _, rfl, rfl, rfl, k' _ ?_⟩
          show some (D.bl (decide (r1[k] = r2[k]))) = some (D.bl (decide (r1.getD ((k : Nat) : Int).toNat 0 = r2.getD ((k : Nat) : Int).toNat 0)))
          rw [Int.toNat_natCast, List.getD_eq_getElem?_getD, List.getD_eq_getElem?_getD, List.getElem?_eq_getElem (show k < r1.length by omega), List.getElem?_eq_getElem (show k < r2.length by omega)]
          rfl
        · rw [same_map]
          refine ⟨_, _, rfl, rfl, _, rfl, fun hb => ?_, fun hb => ?_⟩
          · refine ⟨_, rfl, hF fun ⟨a', b', p1', p2', qs', e, _, _, _, _, _, _, hcm, _⟩ => ?_⟩
            obtain ⟨e1, e2, e3, e4, _⟩ := torn_inj e
            subst e1 e2 e3 e4
            have : ((p1.filter fun k => decide (k ∈ p2)).map fun k => decide (r1.getD k 0 = r2.getD k 0)).all _root_.id = true := by
              rw [List.all_map, List.all_eq_true]
              intro k hk
              obtain ⟨h1, h2⟩ := List.mem_filter.mp hk
              exact decide_eq_true (hcm k h1 (of_decide_eq_true h2))
            rw [this] at hb
            cases hb
          · have hcm : ∀ k ∈ p1, k ∈ p2 → r1.getD k 0 = r2.getD k 0 := fun k h1 h2 => by
              have hb' : ((p1.filter fun k => decide (k ∈ p2)).map fun k => decide (r1.getD k 0 = r2.getD k 0)).all _root_.id = true := by simpa using hb
              rw [List.all_map, List.all_eq_true] at hb'
              exact of_decide_eq_true (hb' k (List.mem_filter.mpr ⟨h1, decide_eq_true h2⟩))
            have hF1 : ∀ l, (l = p1 ∨ l = p2) → ¬ tellsQ S qs l → K (.bl false) := fun l hl hn => hF fun ⟨a', b', p1', p2', qs', e, _, _, _, _, _, _, _, _, t1, t2⟩ => by
              obtain ⟨_, _, e3, e4, e5⟩ := torn_inj e
              subst e3 e4 e5
              rcases hl with h | h
              · exact hn (h ▸ t1)
              · exact hn (h ▸ t2)
            refine uNext ?_
            dsimp only
            refine ⟨_, rfl, _, rfl, _, rfl, _, rfl, _, rfl, _, rfl, a, S, sizes, p1, qs, rfl, hS, hs, o1, hq1, fun t1 => ⟨nofun, true, rfl, fun _ => ?_, nofun⟩, fun hn r s => ⟨nofun, false, rfl, nofun, fun _ => ⟨_, rfl, hF1 p1 (.inl rfl) hn⟩⟩⟩
            refine ⟨_, rfl, _, rfl, _, rfl, _, rfl, _, rfl, _, rfl, a, S, sizes, p2, qs, rfl, hS, hs, o2, hq1, fun t2 => ⟨nofun, _, rfl, z true ⟨fun _ => ?_, fun _ => rfl⟩⟩, fun hn r s => ⟨nofun, _, rfl, hF1 p2 (.inr rfl) hn⟩⟩
            refine ⟨r1, r2, p1, p2, qs, rfl, haS, hbS, o1, o2, hq1, hq2, hcm, fun i' j' p q g1 g2 g3 g4 => ?_, t1, t2⟩
            have ei := (List.getElem?_inj (List.getElem?_eq_some_iff.mp hi).1 hs.nd).mp (hi.trans g1.symm)
            have ej := (List.getElem?_inj (List.getElem?_eq_some_iff.mp hj).1 hs.nd).mp (hj.trans g2.symm)
            subst ei ej
            rw [List.getElem?_eq_getElem hiq] at g3
            rw [List.getElem?_eq_getElem hjq] at g4
            cases g3
            cases g4
            exact hij
    · have e : ∀ T, (Sd.d x).ty = some T → isKind T "tuple" = false := fun T h => by
        cases x <;> first | (cases h; rfl) | (exact absurd ⟨_, rfl⟩ ht) | cases h
      obtain ⟨T, hT⟩ := Option.isSome_iff_exists.mp (fine_kd hx)
      refine ⟨_, rfl, nofun, T, hT, _, rfl, fun _ => ⟨fun _ => ⟨_, rfl, hF fun ⟨a, b, p1, p2, qs, e, _⟩ => ht ⟨_, e⟩⟩, nofun⟩, fun hb => ?_⟩
      rw [e T hT] at hb
      cases hb)
theorem c_are_torn_plans (ft : Fts mg) (c_first_fault : Cl P w K mg base 4 "first_fault" 3 (s_first_fault K C)) (c_is_allowed : Cl P w K mg base 6 "is_allowed" 2 (s_is_allowed K C)) (c_is_asked : Cl P w K mg base 4 "is_asked" 2 (s_is_asked K C)) (c_is_lot : Cl P w K mg base 5 "is_lot" 2 (s_is_lot K C)) (hcl : Cls K C) (c_index_of : ClM P w K mg base 2 C "index_of" 2 (s_index_of K)) (d : DF K mg "are_torn_plans" f_are_torn_plans) : Cl P w K mg base 7 "are_torn_plans" 2 (s_are_torn_plans K C) := (cx_are_torn_plans ft c_first_fault c_is_allowed c_is_asked c_is_lot hcl c_index_of d).cl rfl (fun _ _ _ _ _ _ us hl => match us, hl with | [_, _], _ => rfl)
end
end DL
namespace DL
open PySem PySem.Spec L2 Tx
section
variable {P : Program} {w : World} {K : PySem.W.Frag} {mg : Str → Option Value} {base : Heap} {C : Addr}
theorem rg_at {n i : Nat} {x : D} (h : (rangeD 0 ((n : Nat) : Int).toNat)[i]? = some x) : i < n ∧ x = .int (i : Nat) := by
  rw [Int.toNat_natCast] at h
  have hi := (List.getElem?_eq_some_iff.mp h).1
  rw [rangeD_len] at hi
  rw [rangeD_at 0 n i hi] at h
  cases h
  exact ⟨hi, by simp⟩
theorem rg_len (n : Nat) : (rangeD 0 ((n : Nat) : Int).toNat).length = n := by rw [Int.toNat_natCast, rangeD_len]
theorem nats_at {l : List Nat} {i z : Nat} (h : l[i]? = some z) : L2.atI ((natsI l).map D.int) (i : Int) = some (.int (z : Nat)) := atI_nat (by simp [natsI, h])
theorem set_tup {s : Row} {i : Nat} {v : Int} (hi : i < s.length) : cutG (s.map D.int) none (some (i : Int)) ++ (D.int v :: (cutG (s.map D.int) (some ((i : Int) + 1)) none ++ [])) = (s.set i v).map D.int := by
  have e : ((i : Int) + 1) = ((i + 1 : Nat) : Int) := by omega
  rw [cutG_take _ i (by simp; omega), e, cutG_drop _ (i + 1) (by simp; omega), List.append_nil, List.set_eq_take_append_cons_drop, if_pos hi, List.map_append, List.map_cons, List.map_take, List.map_drop]
theorem dTupSet {a b c : Nat} {ρ : List Sd} {Q : Sd → Prop} {s : Row} {i j : Nat} (h1 : ρ[a]? = some (.d (.ints s))) (h2 : ρ[b]? = some (.d (.int (i : Nat)))) (h3 : ρ[c]? = some (.d (.int (j : Nat)))) (hi : i < s.length) (hl : s.length ≤ 1000) (k : Q (.d (.ints (s.set i (j : Nat))))) :
    dTup (dStar (dSl gSlA (dVarE a) dNoPart (dPart (dVarE b))) (dCons (dVar c) (dStar (dSl gSlA (dVarE a) (dPart (d2 gAdd (dVarE b) (dC (.int 1)))) dNoPart) dNil))) ρ Q := by
  refine ⟨_, h1, nofun, _, h2, nofun, _, rfl, .inr ⟨_, rfl, _, rfl, _, h3, _, rfl, _, h1, nofun, _, h2, nofun, _, _, rfl, rfl, _, rfl, .inr ⟨_, rfl, _, rfl, ?_, ?_⟩⟩⟩
  · rw [set_tup hi]
    simp
    omega
  · rw [set_tup hi]
    exact k
theorem diffN_set {s : Row} {k : Nat} {v : Int} (hk : k < s.length) (hv : v ≠ s[k]) : diffN s (s.set k v) = [k] := by
  have nd : (diffN s (s.set k v)).Pairwise (· < ·) := List.Pairwise.sublist List.filter_sublist List.pairwise_lt_range
  have m : ∀ j, j ∈ diffN s (s.set k v) ↔ j = k := fun j => by
    rw [mem_diffN]
    constructor
    · rintro ⟨h1, h2⟩
      by_cases e : k = j
      · exact e.symm
      · rw [List.getElem?_set_ne e] at h2
        exact absurd rfl h2
    · rintro rfl
      refine ⟨hk, ?_⟩
      rw [List.getElem?_set_self hk, List.getElem?_eq_getElem hk]
      exact fun e => hv (Option.some.inj e).symm
  match h : diffN s (s.set k v), nd, m with
  | [], _, m => exact absurd ((m k).mpr rfl) (by simp)
  | [a], _, m => rw [(m a).mp (by simp)]
  | a :: b :: r, nd, m =>
    have e1 := (m a).mp (by simp)
    have e2 := (m b).mp (by simp)
    have := (List.pairwise_cons.mp nd).1 b (by simp)
    omega
theorem set_of_diff {s o : Row} {k : Nat} (hl : s.length = o.length) (h : diffN s o = [k]) : ∃ hk : k < o.length, o = s.set k o[k] ∧ ∃ hk2 : k < s.length, o[k] ≠ s[k] := by
  have m : ∀ j, j ∈ diffN s o ↔ j = k := fun j => by rw [h]; simp
  have hk := mem_diffN.mp ((m k).mpr rfl)
  refine ⟨by omega, ?_, hk.1, fun e => ?_⟩
  · refine List.ext_getElem? fun j => ?_
    by_cases e : k = j
    · subst e
      rw [List.getElem?_set_self hk.1, List.getElem?_eq_getElem]
    · rw [List.getElem?_set_ne e]
      by_cases hj : j < s.length
      · have : ¬ (j < s.length ∧ s[j]? ≠ o[j]?) := fun z => e ((m j).mp (mem_diffN.mpr z)).symm
        by_cases z : s[j]? = o[j]?
        · exact z.symm
        · exact absurd ⟨hj, z⟩ this
      · rw [List.getElem?_eq_none (by omega), List.getElem?_eq_none (by omega)]
  · exact hk.2 ((List.getElem?_eq_getElem hk.1).trans ((congrArg some e.symm).trans (List.getElem?_eq_getElem _).symm))
theorem uSet {n : Nat} {p : RE} {q : RS} {K : DE} {ρ : List Sd} (h : p ρ fun s' => q K (ρ.set n s')) : sSeq (sSet n p) q K ρ := h
theorem dLc_any {pi : RI} {is : List Nat} {tg : D → List D → Prop} {pt : RT} {pe : RE} {ρ : List Sd} {K : Sd → Prop} (Pd : List D → Prop) (hp : ∀ K' : List D → Prop, (∀ xs, Pd xs → K' xs) → pi ρ K') (h : ∀ xs, Pd xs → dLc (fun _ K' => K' xs) is tg pt pe ρ K) : dLc pi is tg pt pe ρ K := hp _ h
theorem uPutT {i : Nat} {pk : RE} {pi : RI} {is : List Nat} {tg : D → List D → Prop} {pt : RT} {pe : RE} {ρ : List Sd} {K : DE} (h : dLc pi is tg pt pe ρ fun sv => ∃ d kvs, sv.frz = some d ∧ ρ[i]? = some (.ot kvs) ∧ kvs.length < 100000 ∧ pk ρ fun sk => ∃ k, sk = .d (.ints k) ∧ K.nx (ρ.set i (.ot (dput kvs k d)))) : sPutT i pk (dLc pi is tg pt pe) K ρ := h
def s_near (K : PySem.W.Frag) (C : Addr) : DSpec := fun W ds Q => ∃ (a : Addr) (S : List Row) (sizes : List Nat) (s : Row), ds = [.ref a, .ints s] ∧ HasSt K C W a S sizes ∧ StS S sizes ∧ s ∈ S ∧ ∀ rows : List Row, (∀ o, o ∈ rows ↔ o ∈ S ∧ ∃ k, diffN s o = [k]) → rows.length ≤ 60 → Q (.lst (rowsD rows))
theorem sc_near : FnScope ["store", "state", "found", "key", "value", "other"] ["store", "state"] (defScope f_near) := ⟨rfl, rfl, rfl, by decide +kernel, rfl, by decide +kernel, by decide +kernel⟩
theorem c_near (ft : Fts mg) (hcl : Cls K C) (c_index_of : ClM P w K mg base 2 C "index_of" 2 (s_index_of K)) (d : DF K mg "near" f_near) : Cl P w K mg base 3 "near" 2 (s_near K C) :=
  cl_of (k := 2) d sc_near rfl (fun _ _ _ _ _ _ us hl => match us, hl with | [_, _], _ => rfl) (fun W ds K h => by obtain ⟨_, _, _, _, e, _⟩ := h; rw [e]; rfl) (fun a W cdv A outer s H E hr =>
  have nd := sc_near.nd
  (ssd_cons (sd_set (i := 2) nd rfl (Or.inl rfl) (pr_lst pad_nil)) (ssd_cons (sd_for PassesOwn.never rfl (id_range1 rfl ft.m_range (pr_at (K := K) rfl (pd_var (pv 0)))) (gd_name (i := 3) nd rfl (Or.inl rfl)) (ssd_one (sd_for PassesOwn.never rfl (id_range1 rfl ft.m_range (pr_item (PRd.e (pr_at (K := K) rfl (pd_var (pv 0)))) (pd_var (pv 3)))) (gd_name (i := 4) nd rfl (Or.inl rfl)) (ssd_cons (sd_set (i := 5) nd rfl (Or.inl rfl) (pr_tup (pad_star (PRd.e (pr_slA (pd_var (pv 1)) pod_none (pod_some (pd_var (pv 3))))) (pad_cons (pr_var (pv 4)) (pad_star (PRd.e (pr_slA (pd_var (pv 1)) (pod_some (PRd.e (pr_add (pd_var (pv 3)) (PRd.e pr_int)))) pod_none)) pad_nil))))) (ssd_one (sd_if (PWd.t (pwd_and (pt_neS (pd_var (pv 4)) (PRd.e (pr_item (pd_var (pv 1)) (pd_var (pv 3))))) (pwd_and1 (pt_notN (PRd.e (pr_meth c_index_of hcl (hr.mono (by decide)) (pd_var (pv 0)) (pad_cons (pr_var (pv 5)) pad_nil))))))) (ssd_one (sd_app (pv 2) (px_of (pr_var (pv 5))))) ssd_nil)))))) (ssd_fz 2 (ssd_one (sd_ret (pr_sortE rfl ft.m_sorted (ha := (pd_var (pv 2))))))))))
   (fun W ds K h => by
    obtain ⟨a, S, sizes, s, rfl, hS, hs, hsS, z⟩ := h
    simp only [sRet, dCB, vCons, vNil, d2, sSeq, sSet]
    have few := hs.ok.few
    obtain ⟨sl, sr⟩ := hs.row s hsS
    obtain ⟨kvs, k1, k2, k3⟩ := hS.ix
    refine ⟨by simp, ?_⟩
    refine ⟨_, rfl, nofun, a, _, rfl, hS.n, _, rfl, by omega, by omega, fun i ρ => ∃ (rows : List Row) (x3 x4 x5 : Sd), ρ = [.d (.ref a), .d (.ints s), .ol (rowsD rows), x3, x4, x5] ∧ rows.length ≤ 4 * i ∧ (∀ o ∈ rows, o ∈ S ∧ ∃ k, diffN s o = [k]) ∧
      ∀ o ∈ S, ∀ k, diffN s o = [k] → k < i → o ∈ rows, ⟨[], _, _, _, rfl, by simp, nofun, fun _ _ _ _ h => absurd h (Nat.not_lt_zero _)⟩, ?_, ?_⟩
    · rintro i x ρ hx ⟨rows, x3, x4, x5, rfl, q1, q2, q3⟩
      obtain ⟨hi, rfl⟩ := rg_at hx
      obtain ⟨n, hn⟩ : ∃ n, sizes[i]? = some n := ⟨sizes[i], by simp [hi]⟩
      have hn4 := (hs.ok.one n (List.mem_of_getElem? hn)).2
      refine ⟨_, rfl, nofun, a, _, rfl, hS.sz, _, rfl, nofun, _, (i : Nat), _, rfl, rfl, nats_at hn, _, rfl, by omega, by omega, fun j ρ => ∃ (rows : List Row) (x4 x5 : Sd), ρ = [.d (.ref a), .d (.ints s), .ol (rowsD rows), .d (.int (i : Nat)), x4, x5] ∧ rows.length ≤ 4 * i + j ∧ (∀ o ∈ rows, o ∈ S ∧ ∃ k, diffN s o = [k]) ∧
        ∀ o ∈ S, ∀ k, diffN s o = [k] → (k < i ∨ (k = i ∧ o.getD k 0 < (j : Int))) → o ∈ rows, ⟨rows, _, _, rfl, by omega, q2, fun o ho k hk h => ?_⟩, ?_, ?_⟩
      · rcases h with h | ⟨h1, h2⟩
        · exact q3 o ho k hk h
        · exfalso
          obtain ⟨hko, _⟩ := set_of_diff (sl.trans (hs.row o ho).1.symm) hk
          have := (hs.row o ho).2 k o[k] sizes[k] (by simp) (by simp)
          rw [List.getD_eq_getElem?_getD, List.getElem?_eq_getElem hko] at h2
          simp at h2
          omega
      · rintro j x ρ hx ⟨rows, x4, x5, rfl, q1, q2, q3⟩
        obtain ⟨hj, rfl⟩ := rg_at hx
        have his : i < s.length := by omega
        refine uSet (dTupSet rfl rfl rfl his (by omega) ?_)
        have skip : (¬ ((j : Int) ≠ s[i] ∧ s.set i (j : Nat) ∈ S)) → ∀ o ∈ S, ∀ k, diffN s o = [k] → (k < i ∨ (k = i ∧ o.getD k 0 < ((j + 1 : Nat) : Int))) → o ∈ rows := fun hno o ho k hk h => by
          by_cases e : k = i ∧ o.getD k 0 = (j : Int)
          · exfalso
            obtain ⟨e1, e2⟩ := e
            subst e1
            obtain ⟨hko, g1, hk2, g2⟩ := set_of_diff (sl.trans (hs.row o ho).1.symm) hk
            rw [List.getD_eq_getElem?_getD, List.getElem?_eq_getElem hko] at e2
            have e2 : o[k] = (j : Int) := e2
            rw [e2] at g1 g2
            exact hno ⟨g2, g1 ▸ ho⟩
          · refine q3 o ho k hk ?_
            rcases h with h | ⟨h1, h2⟩
            · exact .inl h
            · refine .inr ⟨h1, ?_⟩
              have : ¬ o.getD k 0 = (j : Int) := fun z => e ⟨h1, z⟩
              omega
        refine ⟨_, rfl, nofun, _, rfl, nofun, _, rfl, nofun, _, (i : Nat), _, rfl, rfl, ints_at his, _, _, _, rfl, rfl, rfl, _, rfl, fun hb => ?_, fun hb => ?_⟩
        · have hne : (j : Int) ≠ s[i] := by simpa using hb
          refine ⟨_, rfl, nofun, a, rfl, hS.mi, _, rfl, _, rfl, a, s.set i (j : Nat), kvs, rfl, k1, ?_⟩
          by_cases hm : s.set i (j : Nat) ∈ S
          · obtain ⟨m, hm'⟩ := List.getElem?_of_mem hm
            rw [k2 m _ hm']
            refine ⟨nofun, _, rfl, fun _ => ?_, nofun⟩
            refine ⟨⟨_, rfl⟩, _, rfl, _, rfl, _, rfl, by rw [rowsD_len]; omega, rows ++ [s.set i (j : Nat)], _, _, by rw [rowsD_app]; rfl, by simp; omega, fun o ho => ?_, fun o ho k hk h => ?_⟩
            · rcases List.mem_append.mp ho with h | h
              · exact q2 o h
              · rw [List.mem_singleton.mp h]
                exact ⟨hm, i, diffN_set his hne⟩
            · by_cases e : o = s.set i (j : Nat)
              · rw [e]; simp
              · refine List.mem_append_left _ (q3 o ho k hk ?_)
                rcases h with h | ⟨h1, h2⟩
                · exact .inl h
                · refine .inr ⟨h1, ?_⟩
                  have : ¬ o.getD k 0 = (j : Int) := fun e2 => e (by
                    subst h1
                    obtain ⟨hko, g1, hk2, g2⟩ := set_of_diff (sl.trans (hs.row o ho).1.symm) hk
                    rw [List.getD_eq_getElem?_getD, List.getElem?_eq_getElem hko] at e2
                    have e2 : o[k] = (j : Int) := e2
                    rw [e2] at g1
                    exact g1)
                  omega
          · rw [k3 _ hm]
            refine ⟨nofun, _, rfl, nofun, fun _ => ?_⟩
            exact ⟨rows, _, _, rfl, by omega, q2, skip fun h => hm h.2⟩
        · have hne : (j : Int) = s[i] := by simpa using hb
          exact ⟨nofun, fun _ => ⟨rows, _, _, rfl, by omega, q2, skip fun h => h.1 hne⟩⟩
      · rintro ρ ⟨rows, x4, x5, rfl, q1, q2, q3⟩
        rw [rg_len] at q1 q3
        refine ⟨rows, _, _, _, rfl, by omega, q2, fun o ho k hk h => ?_⟩
        refine q3 o ho k hk ?_
        by_cases e : k = i
        · refine .inr ⟨e, ?_⟩
          subst e
          obtain ⟨hko, _⟩ := set_of_diff (sl.trans (hs.row o ho).1.symm) hk
          have := (hs.row o ho).2 k o[k] n (by simp) hn
          rw [List.getD_eq_getElem?_getD, List.getElem?_eq_getElem hko]
          exact this.2
        · exact .inl (by omega)
    · rintro ρ ⟨rows, x3, x4, x5, rfl, q1, q2, q3⟩
      rw [rg_len] at q1 q3
      have hne : sizes.length ≠ 0 := fun e => hs.ok.ne (List.length_eq_zero_iff.mp e)
      dsimp only
      refine uFz ?_
      refine ⟨_, rfl, nofun, _, rows, sizes.length, 100, rfl, rfl, by omega, by omega, fun r hr => ⟨(hs.row r (q2 r hr).1).1, fun m hm => ?_⟩, fun rows' hp => ⟨_, rfl, z rows' (fun o => ?_) ?_⟩⟩
      · obtain ⟨i, hi⟩ := List.getElem?_of_mem hm
        have hlt := (List.getElem?_eq_some_iff.mp hi).1
        rw [(hs.row r (q2 r hr).1).1] at hlt
        have h1 := (hs.row r (q2 r hr).1).2 i m sizes[i] hi (by simp [hlt])
        have h2 := (hs.ok.one sizes[i] (List.getElem_mem hlt)).2
        omega
      · rw [hp.mem_iff]
        refine ⟨q2 o, fun ⟨ho, k, hk⟩ => q3 o ho k hk ?_⟩
        obtain ⟨hko, _⟩ := set_of_diff (sl.trans (hs.row o ho).1.symm) hk
        rw [(hs.row o ho).1] at hko
        exact hko
      · rw [hp.length_eq]
        omega)
def nearPs (s : Row) (rows : List Row) : List (Nat × Row) := rows.map fun o => ((diffN s o).headD 0, o)
def nearP (s : Row) (x : D) : D := .tup [.int (((diffN s (unI x)).headD 0 : Nat) : Int), x]
theorem near_map (s : Row) (rows : List Row) : (rowsD rows).map (nearP s) = (nearPs s rows).map nb1 := by
  unfold rowsD nearPs
  rw [List.map_map, List.map_map]
  refine List.map_congr_left fun o _ => ?_
  show D.tup [.int (((diffN s (unI (.ints o))).headD 0 : Nat) : Int), .ints o] = .tup [.int ((diffN s o).headD 0 : Nat), .ints o]
  rw [unI_ints]
def s_find_near (K : PySem.W.Frag) (C : Addr) : DSpec := fun W ds Q => ∃ (a : Addr) (S : List Row) (sizes : List Nat), ds = [.ref a] ∧ HasSt K C W a S sizes ∧ StS S sizes ∧ ∀ kvs, BesOk S kvs → Q (.dct kvs)
theorem sc_find_near : FnScope ["store", "found", "state", "other"] ["store"] (defScope f_find_near) := ⟨rfl, rfl, rfl, by decide +kernel, rfl, by decide +kernel, by decide +kernel⟩
theorem c_find_near (ft : Fts mg) (c_changed_key : Cl P w K mg base 2 "changed_key" 2 s_changed_key) (c_near : Cl P w K mg base 3 "near" 2 (s_near K C)) (d : DF K mg "find_near" f_find_near) : Cl P w K mg base 4 "find_near" 1 (s_find_near K C) :=
  cl_of (k := 3) d sc_find_near rfl (fun _ _ _ _ _ _ us hl => match us, hl with | [_], _ => rfl) (fun W ds K h => by obtain ⟨_, _, _, e, _⟩ := h; rw [e]; rfl) (fun a W cdv A outer s H E hr =>
  have nd := sc_find_near.nd
  (ssd_cons (sd_set (i := 1) nd rfl (Or.inl rfl) pr_dT) (ssd_cons (sd_for PassesOwn.never rfl (id_ss (pr_at (K := K) rfl (pd_var (pv 0)))) (gd_name (i := 2) nd rfl (Or.inr rfl)) (ssd_one (sd_putT hr (pv 1) (pd_var (pv 2)) (pr_lc (i := 3) rfl nd (id_ss (pr_call c_near (hr.mono (by decide)) rfl (pad_cons (pr_var (pv 0)) (pad_cons (pr_var (pv 2)) pad_nil)))) (bok (own := [("other", 3)]) rfl) (fun _ _ _ _ _ => pg_name (i := 3) nd rfl (Or.inl rfl)) (fun _ _ _ _ _ => ptsd_nil) (fun _ _ _ _ _ => (pr_tup (pad_cons (pr_call c_changed_key (hr.mono (by decide)) rfl (pad_cons (pr_var (pv 2)) (pad_cons (pr_var (pv 3)) pad_nil))) (pad_cons (pr_var (pv 3)) pad_nil)))))))) (ssd_fz 1 (ssd_one (sd_ret (pr_var (pv 1))))))))
   (fun W ds K h => by
    obtain ⟨a, S, sizes, rfl, hS, hs, z⟩ := h
    simp only [sRet, dCB, vCons, vNil, d2, sSeq, sSet]
    have few := hs.ok.few
    have hf := hs.few
    refine ⟨_, rfl, nofun, a, _, rfl, hS.st, _, _, rfl, rfl, fun i ρ => ∃ (kvs : List (Row × D)) (x2 x3 : Sd), ρ = [.d (.ref a), .ot kvs, x2, x3] ∧ kvs.length ≤ i ∧ ∀ (j : Nat) s, j < i → S[j]? = some s → ∃ ps : List (Nat × Row), dget kvs s = some (nbD ps) ∧ (∀ k o, (k, o) ∈ ps ↔ o ∈ S ∧ diffN s o = [k]) ∧ ps.length ≤ 10000,
      ⟨[], _, _, rfl, by simp, fun _ _ h => absurd h (Nat.not_lt_zero _)⟩, ?_, ?_⟩
    · rintro i x ρ hx ⟨kvs, x2, x3, rfl, q1, q2⟩
      obtain ⟨s, hsi, rfl⟩ := rows_at hx
      have hsS := List.mem_of_getElem? hsi
      have hi := (List.getElem?_eq_some_iff.mp hsi).1
      refine uPutT (dLc_any (fun xs => ∃ rows : List Row, xs = rowsD rows ∧ (∀ o, o ∈ rows ↔ o ∈ S ∧ ∃ k, diffN s o = [k]) ∧ rows.length ≤ 60) (fun K' hK => ⟨_, rfl, _, rfl, _, rfl, _, rfl, a, S, sizes, s, rfl, hS, hs, hsS, fun rows hr hl => ⟨_, rowsD rows, rfl, rfl, hK _ ⟨rows, rfl, hr, hl⟩⟩⟩) ?_)
      rintro _ ⟨rows, rfl, hr, hl⟩
      refine lcN (xs := rowsD rows) (fun _ => true) (nearP s) (fun K' h' => h') (by rw [rowsD_len]; omega) (fun y hy K' k' => k') (fun y hy _ K' k' => ?_) ?_
      · obtain ⟨o, ho, rfl⟩ := mem_rowsD hy
        obtain ⟨hoS, k, hk⟩ := (hr o).mp ho
        have l1 := (hs.row s hsS).1
        have l2 := (hs.row o hoS).1
        refine ⟨_, rfl, _, rfl, _, rfl, _, rfl, s, o, k, [], rfl, by omega, by omega, hk, _, rfl, _, rfl, _, rfl, by simp, k' _ ?_⟩
        show some (D.tup [.int (k : Nat), .ints o]) = some (.tup [.int (((diffN s (unI (.ints o))).headD 0 : Nat) : Int), .ints o])
        rw [unI_ints, hk]
        rfl
      · rw [filter_tt, near_map]
        refine ⟨_, kvs, rfl, rfl, by omega, _, rfl, nofun, s, rfl, _, _, _, rfl, ?_, fun j s' hj hs' => ?_⟩
        · have := dput_len kvs s (.lst ((nearPs s rows).map nb1))
          omega
        · rw [dget_dput]
          by_cases e : s' = s
          · subst e
            rw [if_pos rfl]
            refine ⟨nearPs s' rows, rfl, fun k o => ?_, by unfold nearPs; rw [List.length_map]; omega⟩
            unfold nearPs
            rw [List.mem_map]
            constructor
            · rintro ⟨o', ho', e2⟩
              cases e2
              obtain ⟨h1, k', h2⟩ := (hr o).mp ho'
              exact ⟨h1, by rw [h2]; rfl⟩
            · rintro ⟨h1, h2⟩
              exact ⟨o, (hr o).mpr ⟨h1, k, h2⟩, by rw [h2]; rfl⟩
          · rw [if_neg e]
            refine q2 j s' ?_ hs'
            by_cases e2 : j = i
            · subst e2
              rw [hsi] at hs'
              cases hs'
              exact absurd rfl e
            · omega
    · rintro ρ ⟨kvs, x2, x3, rfl, q1, q2⟩
      refine ⟨_, rfl, _, rfl, z kvs ⟨fun s hsS => ?_⟩⟩
      obtain ⟨j, hj⟩ := List.getElem?_of_mem hsS
      exact q2 j s (by rw [rowsD_len]; exact (List.getElem?_eq_some_iff.mp hj).1) hj)
end
end DL
namespace DL
open PySem PySem.Spec L2 Tx MX
/-! ### the cache -/
def hKey (l : List Nat) : NestedKey := .tup [.text "homes", .tup ((natsI l).map .num)]
def kNear : NestedKey := .text "near"
def kJoined : NestedKey := .text "joined"
theorem num_inj : ∀ {a b : List Int}, a.map NestedKey.num = b.map NestedKey.num → a = b
  | [], [], _ => rfl
  | x :: a, y :: b, h => by
    rw [List.map_cons, List.map_cons] at h
    injection h with h1 h2
    rw [NestedKey.num.inj h1, num_inj h2]
  | [], _ :: _, h => by cases h
  | _ :: _, [], h => by cases h
theorem hKey_inj {a b : List Nat} (h : hKey a = hKey b) : a = b := by
  unfold hKey at h
  injection h with h
  injection h with _ h
  injection h with h
  injection h with h
  exact natsI_inj (num_inj h)
/-- what the cache tells of a word -/
structure Good (S : List Row) (k : NestedKey) (d : D) : Prop where
  near : k = kNear → ∃ kvs, d = .dct kvs ∧ BesOk S kvs
  joined : k = kJoined → ∃ b : Bool, d = .bl b ∧ (b = true ↔ ∀ s ∈ S, ∀ t ∈ S, joinedP S s t)
  homes : ∀ l, k = hKey l → ∃ h, d = .dct h ∧ HomesOk S l h
def WordD (n : Nat) (k : NestedKey) (x : D) : Prop := (k = kNear ∧ x = .str "near") ∨ (k = kJoined ∧ x = .str "joined") ∨ ∃ l, LotOk n l ∧ k = hKey l ∧ x = .tup [.str "homes", lotD l]
theorem WordD.key {n : Nat} {k : NestedKey} {x : D} {F : Hp} {v : V} (h : WordD n k x) (i : Is F v x) : KeyH F k v := by
  rcases h with ⟨rfl, rfl⟩ | ⟨rfl, rfl⟩ | ⟨l, _, rfl, rfl⟩
  · exact .inl ⟨_, rfl, i.str_inv⟩
  · exact .inl ⟨_, rfl, i.str_inv⟩
  · obtain ⟨a, ys, rfl, h1, h2⟩ := i.tup_inv
    match ys, h2 with
    | [y1, y2], h2 =>
      have e1 := Is.str_inv h2.1
      obtain ⟨b, zs, e2, h3, h4⟩ := Is.tup_inv h2.2.1
      subst e1 e2
      rw [isL_ints h4] at h3
      exact .inr ⟨a, b, "homes", natsI l, rfl, rfl, h1, h3⟩
def keys2 (n : Nat) : List NestedKey := kNear :: kJoined :: (allL n).map hKey
theorem lot_allL {n : Nat} {l : List Nat} (h : LotOk n l) : l ∈ allL n := by
  have e : l = (List.range n).filter (fun k => decide (k ∈ l)) := by
    have a1 : l.Pairwise (· < ·) := h.asc
    have a2 : ((List.range n).filter (fun k => decide (k ∈ l))).Pairwise (· < ·) := List.Pairwise.sublist List.filter_sublist List.pairwise_lt_range
    have m : ∀ k, k ∈ l ↔ k ∈ (List.range n).filter (fun k => decide (k ∈ l)) := fun k => by
      rw [List.mem_filter, List.mem_range]
      exact ⟨fun hk => ⟨h.lt k hk, by simpa using hk⟩, fun hk => by simpa using hk.2⟩
    have : natsI l = natsI ((List.range n).filter (fun k => decide (k ∈ l))) := asc_ext (by unfold natsI; exact List.pairwise_map.mpr (a1.imp fun {a b} h => by omega)) (by unfold natsI; exact List.pairwise_map.mpr (a2.imp fun {a b} h => by omega)) fun k => by
      unfold natsI
      rw [List.mem_map, List.mem_map]
      constructor
      · rintro ⟨i, hi, rfl⟩; exact ⟨i, (m i).mp hi, rfl⟩
      · rintro ⟨i, hi, rfl⟩; exact ⟨i, (m i).mpr hi, rfl⟩
    exact natsI_inj this
  rw [e]
  exact mem_allL _
theorem WordD.mem {n : Nat} {k : NestedKey} {x : D} (h : WordD n k x) : k ∈ keys2 n := by
  unfold keys2
  rcases h with ⟨rfl, _⟩ | ⟨rfl, _⟩ | ⟨l, hl, rfl, _⟩
  · simp
  · simp
  · exact List.mem_cons_of_mem _ (List.mem_cons_of_mem _ (List.mem_map.mpr ⟨l, lot_allL hl, rfl⟩))
theorem nodup_sub {α : Type} [DecidableEq α] : ∀ {l m : List α}, l.Nodup → (∀ x ∈ l, x ∈ m) → l.length ≤ m.length
  | [], m, _, _ => Nat.zero_le _
  | a :: l, m, nd, h => by
    obtain ⟨n1, n2⟩ := List.nodup_cons.mp nd
    have ha := h a (by simp)
    have := nodup_sub (l := l) (m := m.erase a) n2 fun x hx => (List.mem_erase_of_ne (fun e => n1 (by rw [← e]; exact hx))).mpr (h x (by simp [hx]))
    rw [List.length_erase_of_mem ha] at this
    have : 0 < m.length := List.length_pos_of_mem ha
    simp
    omega
structure CaOk (w : World) (S : List Row) (n : Nat) (F H : Hp) (fd : Addr) : Prop where
  ex : ∃ rows, H fd = some (MxO w fd rows) ∧ MxOk F rows ∧ ∀ x ∈ rows, (∃ d, WordD n x.1 d) ∧ ∃ d, Is F x.2.2 d ∧ Good S x.1 d
structure HasCa (K : PySem.W.Frag) (w : World) (W : Amb) (a : Addr) (S : List Row) (n : Nat) : Prop where
  few : n ≤ 4
  ex : ∃ fd, AtOk K W a "_found" (.ref fd) ∧ W.A fd ∧ (∀ F H, W.J F H → CaOk w S n F H fd) ∧ ∀ F H H', W.J F H → (∀ c, W.A c → c ≠ fd → H' c = H c) → CaOk w S n F H' fd → W.J F H'
theorem rows_few {n : Nat} {F : Hp} {rows : List Vw} (hn : n ≤ 4) (nd : (rows.map (·.1)).Nodup) (h : ∀ x ∈ rows, ∃ d, WordD n x.1 d) : rows.length ≤ 10000 := by
  have := nodup_sub nd (m := keys2 n) fun k hk => by
    obtain ⟨x, hx, rfl⟩ := List.mem_map.mp hk
    obtain ⟨d, hd⟩ := h x hx
    exact hd.mem
  unfold keys2 at this
  simp only [List.length_map, List.length_cons, allL_len] at this
  have : 2 ^ n ≤ 2 ^ 4 := Nat.pow_le_pow_right (by decide) hn
  omega
theorem CaOk.put {w : World} {S : List Row} {n : Nat} {F H : Hp} {fd : Addr} {rows : List Vw} {k : NestedKey} {x d : D} {i v : V} (hn : n ≤ 4) (m : MxOk F rows) (hr : ∀ x ∈ rows, (∃ d, WordD n x.1 d) ∧ ∃ d, Is F x.2.2 d ∧ Good S x.1 d) (hx : WordD n k x) (ix : Is F i x) (iv : Is F v d) (g : Good S k d) :
    MxOk F (putW rows k i v) ∧ ∀ x ∈ putW rows k i v, (∃ d, WordD n x.1 d) ∧ ∃ d, Is F x.2.2 d ∧ Good S x.1 d := by
  have h2 : ∀ x ∈ putW rows k i v, (∃ d, WordD n x.1 d) ∧ ∃ d, Is F x.2.2 d ∧ Good S x.1 d := fun y hy => by
    rcases mem_putW hy with ⟨h, _⟩ | ⟨e1, e2, _⟩
    · exact hr y h
    · rw [e1, e2]
      exact ⟨⟨x, hx⟩, d, iv, g⟩
  have nd : ((putW rows k i v).map (·.1)).Nodup := by
    rcases keys_putW (rows := rows) (k := k) (i := i) (v := v) with e | ⟨e, hk⟩
    · rw [e]; exact m.nd
    · rw [e]
      exact List.nodup_append.mpr ⟨m.nd, by simp, fun a ha b hb z => hk (by simp at hb; rw [← hb, ← z]; exact ha)⟩
  exact ⟨m.put (hx.key ix) (rows_few (F := F) hn nd fun x hx => (h2 x hx).1), h2⟩
/-! ### found -/
abbrev tFnd (K : PySem.W.Frag) : TE := tFld K (tVar 0) "_found"
def tFound (K : PySem.W.Frag) (w : World) (tw : TE) : TS := tSeq (tIfS (tTest (tOp (rNi w) (tVar 1) (tFnd K))) (tSeq (tAsg tw (L2.gSub (tFnd K) (tVar 1) (rPtA w))) tNext) tNext) (tSeq (tRet (tOp (rGt w) (tFnd K) (tVar 1))) tNext)
theorem found_sem {K : PySem.W.Frag} {w : World} {W : Amb} {F H : Hp} {a : Addr} {S : List Row} {n : Nat} {key : NestedKey} {x : D} {v1 v2 : V} {tw : TE} {T : Ends} (ok : Okay W F H) (ca : HasCa K w W a S n) (hx : WordD n key x) (ix : Is F v1 x)
    (work : ∀ Q' : VK, (∀ d v F' H', Good S key d → Step W F H F' H' → Is F' v d → Q' v H') → tw [some (.ref a), some v1, some v2] H Q')
    (k : ∀ d v F' H', Good S key d → Step W F H F' H' → Is F' v d → T.rt v H') : tFound K w tw T [some (.ref a), some v1, some v2] H := by
  obtain ⟨fd, hat, afd, jc, cl⟩ := ca.ex
  have rd : ∀ F1 H1 (Q : VK), Okay W F1 H1 → Q (.ref fd) H1 → tFnd K [some (.ref a), some v1, some v2] H1 Q := fun F1 H1 Q ok1 q => by
    obtain ⟨C, dx, fs, v, h1, h2, h3, h4, h5⟩ := hat F1 H1 ok1.j
    have e := h5.ref_inv
    subst e
    exact ⟨_, rfl, a, C, dx, fs, _, rfl, ok1.fh _ _ h1, h2, h3, h4, q⟩
  have fin : ∀ F1 H1 rows v d, Step W F H F1 H1 → H1 fd = some (MxO w fd rows) → MxOk F1 rows → lookW rows key = some v → Is F1 v d → Good S key d → tSeq (tRet (tOp (rGt w) (tFnd K) (tVar 1))) tNext T [some (.ref a), some v1, some v2] H1 :=
    fun F1 H1 rows v d st hd m lk iv g => by
      show tFnd K [some (.ref a), some v1, some v2] H1 (fun x1 H2 => tVar 1 [some (.ref a), some v1, some v2] H2 fun y1 H3 => rGt w x1 y1 H3 T.rt)
      exact rd F1 H1 _ st.ok ⟨_, rfl, fd, rows, key, v, rfl, hd, m.mono st.ok.fh, (hx.key (ix.mono st.ff)).mono st.ok.fh, lk, k d v F1 H1 g st iv⟩
  obtain ⟨rows, hd, m, hr⟩ := (jc F H ok.j).ex
  refine ⟨_, rfl, rd F H _ ok ⟨fd, rows, key, rfl, hd, m.mono ok.fh, (hx.key ix).mono ok.fh, _, rfl, ?_⟩⟩
  cases lk : lookW rows key with
  | some v =>
    obtain ⟨y, hy, e1, e2⟩ := lookW_mem lk
    obtain ⟨_, d, iv, g⟩ := hr y hy
    rw [if_neg (by simp)]
    rw [e2] at iv
    rw [e1] at g
    exact fin F H rows v d (Step.refl ok) hd m lk iv g
  | none =>
    rw [if_pos (by simp)]
    refine work _ fun d v F1 H1 g st iv => ?_
    obtain ⟨rows1, hd1, m1, hr1⟩ := (jc F1 H1 st.ok.j).ex
    refine rd F1 H1 _ st.ok ⟨_, rfl, fd, rows1, key, rfl, hd1, m1.mono st.ok.fh, (hx.key (ix.mono st.ff)).mono st.ok.fh, ?_⟩
    obtain ⟨m2, hr2⟩ := CaOk.put (H := H1) (fd := fd) (w := w) ca.few m1 hr1 hx (ix.mono st.ff) iv g
    have s2 : Step W F1 H1 F1 (upd H1 fd (MxO w fd (putW rows1 key v1 v))) := by
      refine ⟨Same.refl _, fun c o h nA => by
        rw [upd_ne (show c ≠ fd from fun e => nA (by rw [e]; exact afd))]
        exact h, fun c o h => .inl h, ⟨fun c o h => ?_, st.ok.na, cl F1 H1 _ st.ok.j (fun c _ ne => upd_ne ne) ⟨_, upd_same, m2, hr2⟩⟩⟩
      have ne : c ≠ fd := fun e => by rw [e, st.ok.na fd afd] at h; cases h
      rw [upd_ne ne]
      exact st.ok.fh c o h
    exact fin F1 _ _ v d (st.trans ok s2) upd_same m2 (by rw [lookW_put, if_pos rfl]) iv g
section
variable {P : Program} {w : World} {K : PySem.W.Frag} {mg : Str → Option Value} {base : Heap} {C : Addr}
/-- a def of the top, held by its address -/
structure HeldD (P : Program) (w : World) (K : PySem.W.Frag) (mg : Str → Option Value) (base : Heap) (k : Nat) (f : Addr) (sp : DSpec) : Prop where
  ex : ∃ (fd : FuncData) (ps : List Str), PySem.W.keepIn K (.ref f) = true ∧ Binds K fd ps [] ∧ FnOk P w K mg base CX0 k f fd ps (spD sp)
def s_found (P : Program) (w : World) (K : PySem.W.Frag) (mg : Str → Option Value) (base : Heap) (C : Addr) (kk : Nat) : DSpec := fun W ds Q => ∃ (a wk : Addr) (S : List Row) (n : Nat) (key : NestedKey) (x : D) (f : DSpec), ds = [.ref a, x, .ref wk] ∧ HasCa K w W a S n ∧ WordD n key x ∧ HeldD P w K mg base kk wk f ∧
  (∀ Q' : D → Prop, (∀ d, Good S key d → Q' d) → f W [.ref a] Q') ∧ ∀ d, Good S key d → Q d
theorem sc_found : FnScope ["self", "word", "work"] ["self", "word", "work"] (defScope m_found) := ⟨rfl, rfl, rfl, by decide +kernel, rfl, by decide +kernel, by decide +kernel⟩
theorem c_found (kk : Nat) (d : DM K C "found" "Store.found" m_found) : ClM P w K mg base (kk + 1) C "found" 3 (s_found P w K mg base C kk) := by
  obtain ⟨fa, fd, hm, Fn⟩ := d.ex
  have S0 := sc_found
  refine ⟨fa, fd, ["self", "word", "work"], hm, rfl, Fn.bindsN (fun _ _ _ _ _ _ us hl => match us, hl with | [_, _, _], _ => rfl), ?_⟩
  refine Fn.ok S0 (fun vs H Q E ⟨W, F, ds, K', ok, il, ⟨_, _, _, _, _, _, _, e, _⟩, _⟩ => by rw [il.length, e]; rfl) fun cdv A outer s H vs Q E hr ⟨W, F, ds, K', ok, il, ⟨a, wk, S, n, key, x, f, e, ca, hx, hf, hw, hg⟩, k⟩ => ?_
  subst e
  obtain ⟨fdw, psw, kp, hb, Fw⟩ := hf.ex
  match vs, il with
  | [v0, v1, v2], il =>
  have e0 := Is.ref_inv il.1
  have e2 := Is.ref_inv il.2.2.1
  subst e0 e2
  refine ⟨tFound K w _, PSs.nox (pss_cons (ps_if (pt_cmpR (op_ni hr.units) (pv 1) (pe_fld (pv 0) rfl) rfl) (pss_cons (ps_asg (pe_callL (i := 2) (sp := spD f) (dvs := []) (E := E0) Fw hr rfl (.inl rfl) kp hb .nil (pass0 (X := _)) (pa_cons (pv 0) pa_nil)) (pg_sub (pe_fld (pv 0) rfl) (pv 1) (set_mxA hr.units))) pss_nil) pss_nil) (pss_cons (ps_ret (pe_ix (ix_mx hr.units) (pe_fld (pv 0) rfl) (pv 1) (by intro _ _; rfl))) pss_nil)), ?_⟩
  refine found_sem ok ca hx il.2.1 (fun Q' hQ' => ⟨rfl, ?_⟩) fun d v F' H' g st iv => k d v F' H' (hg d g) st iv
  refine ⟨_, rfl, ?_⟩
  show spD f ([V.ref a] ++ []) H Q' E0
  exact ⟨W, F, [.ref a], fun d => Good S key d, ok, ⟨.ref a, trivial⟩, hw _ fun d g => g, fun d v F' H' g st iv => hQ' d v F' H' g st iv⟩
end
end DL
/-! A lambda with one parameter, handed to a method beside another argument. -/
namespace DL.LX
open PySem PySem.Spec PyProof.Rows L2 LamX
abbrev lamQ (X : Cx) : Str := X.env.qual ++ "<lambda>"
abbrev lamO (X : Cx) (ar : Arguments) (bd : Expr) (sc : Scope) (pm : Value) (c' : Addr) (ctv : Value) : Obj := PySem.W.kla_obj "<lambda>" (lamQ X) ar bd sc (cloFrom X.env.cells sc.names []) pm c' ctv
abbrev lamF (X : Cx) (ar : Arguments) (bd : Expr) (sc : Scope) (pm : Value) (c' : Addr) (ctv : Value) : FuncData := PySem.W.kla_fn "<lambda>" (lamQ X) ar bd sc (cloFrom X.env.cells sc.names []) pm (.ref c') ctv
/-- what the table at P tells, as the code objects stand in F -/
structure TabF (F H : Hp) (P : Addr) (q : Str) : Prop where
  ex : ∃ ps : Array Value, H P = some (.tbl ps) ∧ TriplesOk ps.toList ∧ ∀ (p : Pos) (cv : Value), codeAmong p ps.toList = some cv → ∃ c, cv = .ref c ∧ F c = some (CodeO c q)
/-- the heap behind the making of the lambda -/
def Made (H H1 : Hp) (P c' : Addr) (q : Str) (ps : Array Value) : Prop := (H1 = H ∧ ∃ p : Pos, codeAmong p ps.toList = some (.ref c')) ∨ ∃ ps' : Array Value, H c' = none ∧ c' ≠ P ∧ H1 = upd (upd H P (.tbl ps')) c' (CodeO c' q) ∧ TriplesOk ps'.toList ∧ ∀ (p : Pos) (cv : Value), codeAmong p ps'.toList = some cv → codeAmong p ps.toList = some cv ∨ cv = .ref c'
section
variable {X : Cx} {pins : List (Addr × Obj)} {σ : L2.St} {H : Hp} {s : Shared}
theorem lam_mk {c P : Addr} {ar : Arguments} {bd : Expr} {sc : Scope} {pos : Pos} {ps : Array Value} {E Q : Value → Shared → Prop} (I : Inv X pins σ H s) (TB : TabB X.base X.mg c P) (hcd : X.env.code = .ref c) (hP : H P = some (.tbl ps)) (ht : TriplesOk ps.toList)
    (ha : ∀ (p : Pos) (cv : Value), codeAmong p ps.toList = some cv → ∃ c1, cv = .ref c1 ∧ H c1 = some (CodeO c1 (lamQ X))) (hdf : defaultsOf ar X.env = ([], [])) (hfr : ∀ y ∈ sc.names, y.2 = .free → ∃ c1, X.env.cells.lookup y.1 = some c1)
    (h : ∀ (f c' : Addr) (pm ctv : Value) (H1 : Hp) (s1 : Shared), Inv X pins σ H1 s1 → Made H H1 P c' (lamQ X) ps → s1.heap.get? f = some (lamO X ar bd sc pm c' ctv) → H1 f = none → f ∉ frs X.stack → H1 c' = some (CodeO c' (lamQ X)) → Q (.ref f) s1) :
    wpAny (model X.prog X.w) X.A (eval (.Lambda ar bd sc pos) X.env) Q E s := by
  refine PySem.W.kla_eval hdf ?_
  have bP := TB.bm.keeps I.bk
  have hP2 := I.hok P _ hP
  have far : ∀ f, s.heap.objs.size ≤ f → f ∉ frs X.stack := fun f hf z => by
    rcases List.mem_cons.mp (I.stkSub _ z) with e | e
    · have h1 := I.lt
      rw [← e] at h1
      exact Nat.lt_irrefl _ (Nat.lt_of_lt_of_le h1 hf)
    · exact I.nofs hf e
  cases hc : codeAmong pos ps.toList with
  | none =>
    refine PySem.W.kla_makeFunction (mg := X.mg) (c := c) (P := P) (ps := ps) (closure_ok hfr) I.ok.glob (I.mod.glob.keeps I.bk) hcd (TB.code.keeps I.bk) hP2 ht hc TB.gP bP fun c' ctv h1 tk hx hge hlt hrec htb => ?_
    obtain ⟨c2, oc, vs, t, e2, g1, g2, g3⟩ := hrec
    cases e2
    have le : s.heap.objs.size ≤ h1.objs.size := by omega
    have nC : H c' = none := I.hok.fresh hge
    have I1 := inv_table (t' := tk) (more := #[rawInt pos.line, rawInt pos.col, .ref c']) (h' := h1.push (lamO X ar bd sc ((X.mg "__name__").getD .none) c' ctv)) I hP
      (fun b o hb e => Heap.get?_push_of_some _ (hx b o hb e)) (Heap.get?_push_of_some _ htb) hge ⟨oc, vs, t, Heap.get?_push_of_some _ g1, g2, g3⟩
    have eL : (ps ++ #[rawInt pos.line, rawInt pos.col, .ref c']).toList = ps.toList ++ [rawInt pos.line, rawInt pos.col, .ref c'] := by simp
    have nP : c' ≠ P := fun e => by rw [e, hP] at nC; cases nC
    refine h h1.objs.size c' _ ctv _ _ I1 (.inr ⟨_, nC, nP, rfl, ?_, fun p cv hcv => ?_⟩) (Heap.get?_push_size _ rfl) ?_ (far _ le) upd_same
    · rw [eL]; exact PySem.TriplesOk_snoc _ _ _ _ ht
    · rw [eL] at hcv
      exact among_app _ ht hcv
    · have n1 : h1.objs.size ≠ c' := Nat.ne_of_gt hlt
      have n2 : h1.objs.size ≠ P := Nat.ne_of_gt (Nat.lt_of_lt_of_le (Heap.lt_size hP2) le)
      rw [upd_ne n1, upd_ne n2]
      exact I.hok.fresh le
  | some cv =>
    obtain ⟨c', e, hco⟩ := ha pos cv hc
    subst e
    refine PySem.W.kla_makeFunctionHit (mg := X.mg) (c := c) (P := P) (ps := ps) (closure_ok hfr) I.ok.glob (I.mod.glob.keeps I.bk) hcd (TB.code.keeps I.bk) hP2 ht hc bP fun ctv h1 tk hx le => ?_
    have I1 : Inv X pins σ H { s with heap := h1.push (lamO X ar bd sc ((X.mg "__name__").getD .none) c' ctv), toks := tk } := I.kept fun b o e => Heap.get?_push_of_some _ (hx b o e)
    exact h h1.objs.size c' _ ctv H _ I1 (.inl ⟨rfl, pos, hc⟩) (Heap.get?_push_size _ rfl) (I.hok.fresh le) (far _ le) hco
end
/-- one parameter y, no other name of its own -/
structure LamP (sc0 sc : Scope) (y : Str) : Prop where
  kind : sc.kind = .function
  co : sc.isCoroutine = false
  gen : sc.isGenerator = false
  own : ∀ z ∈ sc.names, z.2 ≠ .cell ∧ (z.2 = .local → z.1 = y)
  par : sc.names.lookup y = some .local
  free : ∀ z ∈ sc.names, z.2 = .free → sc0.names.lookup z.1 = some .cell ∨ sc0.names.lookup z.1 = some .free
/-- the context of its body -/
def lamC (X : Cx) (A : Around) (outer : List PySem.Env) (s : Shared) (H : Hp) (sc : Scope) (f c' : Addr) (y : Str) : Cx := { lamCx X A outer s H E0 sc f c' with N := X.N ++ [y], xe := fun _ _ => False }
section
variable {X : Cx} {pins : List (Addr × Obj)} {σ : L2.St} {H HZ : Hp} {s s1 : Shared}
theorem lam_st {A : Around} {outer : List PySem.Env} {sc : Scope} {f c' : Addr} {y : Str} {v : V} {u : Value} {hh : Heap} {tk : Nat} (I : Inv X pins σ H s) (L : LamP X.env.scope sc y) (hy : y ∉ X.N) (e0 : Env0 X.prog X.w X.K X.mg X.base A outer s1 HZ) (hd : A.handled = none) (rv : RelV v u)
    (un : Un (frs X.stack) [] H HZ s.heap s1.heap) (hns : hh.Ns s1.heap.objs.size fun z => ([(y, u)] : List (Str × Value)).reverse.lookup z) (kp : ∀ b o, s1.heap.get? b = some o → hh.get? b = some o) :
    Inv (lamC X A outer s1 HZ sc f c' y) [] (σ ++ [some v]) HZ { s1 with heap := hh, toks := tk } := by
  have has : ∀ z ∈ sc.names, z.2 = .free → ∃ c, X.env.cells.lookup z.1 = some c := fun z hz e => (L.free z hz e).elim (fun k => I.ok.has _ (.inl k)) fun k => I.ok.has _ (.inr k)
  have cm : ∀ {z c}, (cloFrom X.env.cells sc.names []).lookup z = some c → X.env.cells.lookup z = some c := fun {z c} e => by
    rcases cloFrom_mem (PySem.mem_of_lookup e) with hm | ⟨h1, h2⟩
    · cases hm
    · obtain ⟨c1, hc⟩ := has _ h1 rfl
      have hc : X.env.cells.lookup z = some c1 := hc
      have e2 : c = c1 := by
        rw [h2, hc] <;> rfl
      rw [e2]
      exact hc
  have look : ∀ {z}, sc.names.lookup z = some .free → ∃ c, (cloFrom X.env.cells sc.names []).lookup z = some c := fun {z} hl => mem_lookup (cloFrom_has (cells := X.env.cells) (acc := []) (PySem.mem_of_lookup hl))
  have cellK : ∀ {c : Addr} {o : Option Value}, H c = none → s.heap.IsCell c o → hh.IsCell c o := fun {c o} n ⟨b, hb, hd⟩ => by
    obtain ⟨sl, q⟩ := un.any hb n (by simp)
    exact ⟨_, kp _ _ q, hd⟩
  have noA : ∀ b : Addr, b ∉ (lamC X A outer s1 HZ sc f c' y).ex := fun b z => absurd (show b ∈ ([] : List Addr) from z) (by simp)
  have nocell : ∀ z, sc.names.lookup z ≠ some .cell := fun z hz => (L.own _ (PySem.mem_of_lookup hz)).1 rfl
  refine ⟨⟨e0.mod, L.kind, rfl, rfl, Nat.le_refl _, fun z1 z2 c e1 e2 => I.ok.inj z1 z2 c (cm e1) (cm e2), fun z hz => ?_, fun z c k _ => absurd (show false = true from k) (by decide), fun _ => hd, Around.frames_deeper e0.frames, .inr ⟨rfl, rfl⟩, fun b z => absurd z (noA b), e0.bs, e0.bsz, fun b _ _ => noA b, fun b z => absurd z (noA b), e0.funs, e0.frf⟩,
    rfl, e0.bare, Un.kept kp, ⟨_, hns, fun i z v' e1 e2 e3 => ?_⟩, fun z c e => ?_, e0.hok.fresh (Nat.le_refl _), fun z c e => ?_, fun q hq => absurd (show q ∈ ([] : List (Addr × Obj)) ++ [] from hq) (by simp), e0.hok.kept kp, ?_⟩
  · have hz : sc.names.lookup z = some .cell ∨ sc.names.lookup z = some .free := hz
    rcases hz with hz | hz
    · exact absurd hz (nocell z)
    · exact look hz
  · have e1 : (X.N ++ [y])[i]? = some z := e1
    have hlen := I.len
    by_cases hi : i < X.N.length
    · rw [List.getElem?_append_left hi] at e1
      rw [List.getElem?_append_left (by rw [hlen]; exact hi)] at e2
      have ne : z ≠ y := fun e => hy (e ▸ List.mem_of_getElem? e1)
      have e3 : Vis sc z := e3
      rcases e3 with k | k | k
      · exact absurd ((L.own _ (PySem.mem_of_lookup k)).2 rfl) ne
      · exact absurd k (nocell z)
      · obtain ⟨m, hn, hl⟩ := I.loc
        have vis : Vis X.env.scope z := (L.free _ (PySem.mem_of_lookup k) rfl).elim (fun k => .inr (.inl k)) fun k => .inr (.inr k)
        obtain ⟨w', r, q⟩ := hl i z v' e1 e2 vis
        obtain ⟨c2, h2⟩ := look k
        refine ⟨w', r, .inr ⟨.inr k, c2, h2, ?_⟩⟩
        have c1 := cm h2
        rcases q with ⟨k', _⟩ | ⟨_, c3, e', g⟩
        · have k' : X.env.scope.names.lookup z = some .local := k'
          rcases L.free _ (PySem.mem_of_lookup k) rfl with k2 | k2 <;> rw [show X.env.scope.names.lookup z = _ from k2] at k' <;> cases k'
        · rw [c1] at e'
          cases e'
          exact cellK (I.freeC z _ c1) g
    · rw [List.getElem?_append_right (by omega)] at e1
      rw [List.getElem?_append_right (by omega), hlen] at e2
      have hi0 : i - X.N.length = 0 := by
        have := (List.getElem?_eq_some_iff.mp e1).1
        simp at this
        omega
      rw [hi0] at e1 e2
      cases e1
      cases e2
      exact ⟨u, rv, .inl ⟨L.par, by simp [List.lookup]⟩⟩
  · obtain ⟨w', g⟩ := I.cell z c (cm e)
    exact ⟨w', cellK (I.freeC z c (cm e)) g⟩
  · obtain ⟨v', o, ho, hd⟩ := I.cell z c (cm e)
    exact un.free c o ho (I.freeC z c (cm e)) (by simp)
  · show (σ ++ [some v]).length = (X.N ++ [y]).length
    rw [List.length_append, List.length_append, I.len]
    rfl
/-- x(e) in the def that got the lambda -/
theorem pe_act1 {Ng : List Str} {qg : Str} {sg : Scope} {g f c' : Addr} {cdg pm ctv : Value} {ar : Arguments} {bd : Expr} {sc : Scope} {k i : Nat} {a y : Str} {tb : TE} {ta : TA} {e : Expr} {p1 p2 : Pos}
    (I : Inv X pins σ H s) (L : LamP X.env.scope sc y) (hy : y ∉ X.N) (hf : s.heap.get? f = some (lamO X ar bd sc pm c' ctv)) (hfn : H f = none) (hfr : f ∉ frs X.stack)
    (hbind : ∀ u, bindArgs (lamF X ar bd sc pm c' ctv) ⟨[u], []⟩ = pure [(y, u)]) (hr : Room (k + 1) (X.A.deeper (envOfC qg sg s.heap.objs.size g cdg)))
    (hbody : ∀ (A : Around) (outer : List PySem.Env) (s : Shared) (H : Hp), Room k (A.deeper (lamEnv X sc s.heap.objs.size f c')) → PE (lamC X A outer s H sc f c' y) bd tb)
    (hN : Ng[i]? = some a) (hv : Vis sg a) (ha : PA (cxOf CX0 X.prog X.w X.K X.mg X.base Ng qg sg g cdg X.A X.stack s H E0).nox [e] ta) (hd : (a == ("__debug__" : Str)) = false := by decide) (hcd : (a == ("__classdict__" : Str)) = false := by decide)
    (he : starEach [e] (envOfC qg sg s.heap.objs.size g cdg) = (false, eval e (envOfC qg sg s.heap.objs.size g cdg)) :: starEach [] (envOfC qg sg s.heap.objs.size g cdg) := by rfl) :
    PE (cxOf CX0 X.prog X.w X.K X.mg X.base Ng qg sg g cdg X.A X.stack s H E0).nox (.Call (.Name a p1) [e] [] p2)
      (fun σZ HZ Q => σZ[i]? = some (some (.ref f)) ∧ ta σZ HZ fun vs H1 => ∃ v, vs = [v] ∧ H1 c' = some (CodeO c' (lamQ X)) ∧ tb (σ ++ [some v]) H1 Q) := by
  refine ⟨fun pinsZ sZ σZ HZ Q IZ ⟨hs, ht⟩ => ?_⟩
  refine wpAny_Call_Name_kw (thn ((pe_var (pos := p1) (i := i) hN hv hd hcd).run pinsZ sZ σZ HZ (fun v H1 => v = .ref f ∧ H1 = HZ) IZ ⟨.ref f, hs, rfl, rfl⟩) fun u s1 ⟨v, H1, I1, r1, q1⟩ => ?_)
  obtain ⟨ev, eH⟩ := q1
  subst ev
  rw [eH] at I1
  obtain rfl : u = Value.ref f := r1
  have stay : ∀ {pz σz Hz sz}, Inv (cxOf CX0 X.prog X.w X.K X.mg X.base Ng qg sg g cdg X.A X.stack s H E0).nox pz σz Hz sz → sz.heap.get? f = some (lamO X ar bd sc pm c' ctv) := fun J => J.base.keep f _ hf hfn hfr (fun z => nomatch (show f ∈ ([] : List Addr) from z))
  refine PySem.W.callWith_F (first := []) ⟨_, _, _, _, stay I1⟩ (thn (ha.run p2 pinsZ s1 σZ HZ _ I1 ht) fun us s2 ⟨vs, H2, I2, r, v, e1, hc, q⟩ => ⟨⟨_, _, _, _, stay I2⟩, ?_⟩) he (by rfl)
  subst e1
  obtain ⟨u, eu, rv⟩ : ∃ u, us = [u] ∧ RelV v u := by
    cases r with
    | cons rv r0 =>
      cases r0
      exact ⟨_, rfl, rv⟩
  subst eu
  have of2 := stay I2
  have un : Un (frs X.stack) [] H H2 s.heap s2.heap := I2.base
  obtain ⟨⟨oc, vs, t, hoc, hdc, hvc⟩, _, _⟩ := I2.hok c' _ hc
  have rc : codeAny (model X.prog X.w) (X.A.deeper (envOfC qg sg s.heap.objs.size g cdg)) (.call (.ref f) ⟨[u], []⟩) (CR CX0 (envOfC qg sg s.heap.objs.size g cdg :: X.stack) X.prog X.w H2 s2 Q E0) s2 := by
    refine PySem.W.kla_callFunE hr.depth of2 rfl L.co L.gen rfl ⟨c', oc, vs, t, rfl, hoc, hdc, hvc⟩ ?_
    rw [hbind]
    refine wpAny_pure (wpAny_newFunctionEnv (fun z hz => (L.own z hz).1) (fun z hz => by rw [List.mem_singleton.mp hz]; exact L.par) (fun hh hns hsb => ⟨I2.nolimit.fresh _ hsb, ?_⟩) L.kind)
    show codeAny _ _ (.expr bd (lamEnv X sc s2.heap.objs.size f c')) _ _
    have kp : ∀ b o, s2.heap.get? b = some o → hh.get? b = some o := fun b o e => hsb.extBut b o (Nat.ne_of_lt (Heap.lt_size e)) (Heap.get?_push_of_some _ e)
    have J := lam_st (tk := s2.toks + [(y, u)].length) (f := f) (c' := c') I L hy I2.env0 hr.hd rv un hns kp
    refine PySem.W.kla_codeExpr (wpAny_mono ((hbody _ _ s2 H2 (hr.deeper _)).run [] _ _ H2 Q J q) (fun v' s3 hq => ?_) fun e s3 hq => hq.elim)
    obtain ⟨w', H', J', rv', q'⟩ := hq
    exact ⟨w', H', J'.os, J'.bare, J'.base, J'.hok, rv', q'⟩
  refine wpAny_call (codeAny_mono rc fun r s3 hq => ?_)
  cases r with
  | error e => exact (show False from hq).elim
  | ok fl =>
    cases fl with
    | ret u => exact I2.after hq
    | next => exact False.elim hq
    | brk => exact False.elim hq
    | cont => exact False.elim hq
end
end DL.LX
namespace DL
open PySem PySem.Spec L2 Tx MX LX LamX
section
variable {S : Bs} {W : Amb} {F H : Hp}
theorem Slots.snoc {v : V} {x : D} : ∀ {σ : L2.St} {ρ : List Sd} {os : List (List Addr)}, Slots F H σ ρ os → Is F v x → Slots F H (σ ++ [some v]) (ρ ++ [.d x]) (os ++ [[]])
  | [], ρ, os, h, i => h.nil fun e1 e2 => by
    subst e1 e2
    exact ⟨⟨v, rfl, rfl, i⟩, trivial⟩
  | o :: σ, ρ, os, h, i => h.cases fun s ρ' as os' e1 e2 h1 h2 => by
    subst e1 e2
    exact ⟨h1, Slots.snoc h2 i⟩
theorem Env.snoc {σ : L2.St} {ρ : List Sd} {v : V} {x : D} (E : Env S F H σ ρ) (i : Is F v x) : Env S F H (σ ++ [some v]) (ρ ++ [.d x]) := by
  obtain ⟨os, nd, fr, sl⟩ := E.own
  exact ⟨E.ok, E.f0, E.kp, E.nw, os ++ [[]], by simpa using nd, by simpa using fr, sl.snoc i⟩
end
/-- the table of the code objects that are made in a def -/
structure HasTab (W : Amb) (P : Addr) (q : Str) : Prop where
  am : W.A P
  at_ : ∀ F H, W.J F H → TabF F H P q
  cl : ∀ F H H', W.J F H → (∀ c, W.A c → c ≠ P → H' c = H c) → TabF F H' P q → W.J F H'
theorem made_step {W : Amb} {F H H1 : Hp} {P c' : Addr} {q : Str} {ps : Array Value} (ok : Okay W F H) (ht : HasTab W P q) (hP : H P = some (.tbl ps)) (ha : ∀ (p : Pos) (cv : Value), codeAmong p ps.toList = some cv → ∃ c, cv = .ref c ∧ F c = some (CodeO c q)) (md : Made H H1 P c' q ps) (hc : H1 c' = some (CodeO c' q)) : ∃ F1, Step W F H F1 H1 ∧ F1 c' = some (CodeO c' q) := by
  rcases md with ⟨e, p, hp⟩ | ⟨ps', nC, nP, e, ht', hcs⟩
  · subst e
    obtain ⟨c1, e1, e2⟩ := ha p _ hp
    cases e1
    exact ⟨F, Step.refl ok, e2⟩
  · subst e
    have nF : F c' = none := ok.fresh nC
    have nA : ¬ W.A c' := ok.alive nC
    have ff : Same F (upd F c' (CodeO c' q)) := fun a o h => by rw [upd_ne (ne_of_none h nF)]; exact h
    have naP : ∀ {a o}, F a = some o → a ≠ P := fun {a o} h e => by rw [e, ok.na P ht.am] at h; cases h
    refine ⟨upd F c' (CodeO c' q), ⟨ff, fun a o h na => ?_, fun a o h => ?_, fun a o h => ?_, fun a h => ?_, ?_⟩, upd_same⟩
    · have n1 : a ≠ c' := ne_of_none h nC
      have n2 : a ≠ P := fun e => na (by rw [e]; exact ht.am)
      rw [upd_ne n1, upd_ne n2]
      exact h
    · by_cases z : a = c'
      · rw [z]; exact .inr nC
      · rw [upd_ne z] at h; exact .inl h
    · by_cases z : a = c'
      · rw [z, upd_same] at h ⊢; exact h
      · rw [upd_ne z] at h
        rw [upd_ne z, upd_ne (naP h)]
        exact ok.fh a o h
    · rw [upd_ne (show a ≠ c' from fun e => nA (by rw [← e]; exact h))]
      exact ok.na a h
    · have j1 : W.J (upd F c' (CodeO c' q)) H := W.mono ff (fun _ _ => rfl) ok.j
      refine ht.cl _ H _ j1 (fun a h n => ?_) ⟨ps', ?_, ht', fun p cv h => ?_⟩
      · rw [upd_ne (show a ≠ c' from fun e => nA (by rw [← e]; exact h)), upd_ne n]
      · rw [upd_ne (Ne.symm nP), upd_same]
      · rcases hcs p cv h with h | h
        · obtain ⟨c, e1, e2⟩ := ha p cv h
          exact ⟨c, e1, ff _ _ e2⟩
        · exact ⟨c', h, upd_same⟩
def dFoundLam (K : PySem.W.Frag) (w : World) (W : Amb) (C P : Addr) (q : Str) (pa p1 pb : RE) : RE := fun ρ Q => pa ρ fun s => ∃ a S n, s = .d (.ref a) ∧ InsOk W a C "found" ∧ HasCa K w W a S n ∧ HasTab W P q ∧ p1 ρ fun sx => ∃ x key, sx = .d x ∧ WordD n key x ∧
  (∀ Q' : D → Prop, (∀ d, Good S key d → Q' d) → pb (ρ.map Sd.fr ++ [.d (.ref a)]) fun s => ∃ d, s.frz = some d ∧ Q' d) ∧ ∀ d, Good S key d → Q (.d d)
theorem pr_foundLam {W : Amb} {X : Cx} {C c P : Addr} {y : Str} {k : Nat} {o e1 bd : Expr} {ar : Arguments} {sc : Scope} {apos lpos pos : Pos} {pa p1 pb : RE} {pl : Sem Bool} {K : PySem.W.Frag} {w : World} {q : Str} (hK : X.K = K) (hw : X.w = w) (hq : lamQ X = q) (dm : DM X.K C "found" "Store.found" m_found) (hcl : Cls X.K C) (TB : TabB X.base X.mg c P) (hcode : X.env.code = .ref c) (hdf : defaultsOf ar X.env = ([], [])) (L : LamP X.env.scope sc y) (hy : y ∉ X.N)
    (hbind : ∀ (q : Str) (cl : List (Str × Addr)) (pm cv ctv u : Value), bindArgs (PySem.W.kla_fn "<lambda>" q ar bd sc cl pm cv ctv) ⟨[u], []⟩ = pure [(y, u)]) (hr : Room (k + 2) X.A) (ho : PEd W X o pa) (h1 : PRd W X e1 p1)
    (hbody : ∀ (A : Around) (outer : List PySem.Env) (s : Shared) (H : Hp) (f c' : Addr), Room k (A.deeper (lamEnv X sc s.heap.objs.size f c')) → PRd W (lamC X A outer s H sc f c' y) bd pb)
    (hst : starEach [e1, .Lambda ar bd sc lpos] X.env = (false, eval e1 X.env) :: starEach [.Lambda ar bd sc lpos] X.env := by rfl)
    (ht : eval (.Call (.Attribute o "found" apos) [e1, .Lambda ar bd sc lpos] [] pos) X.env = (do
      let ov ← eval o X.env
      standAt apos.atName
      let (f, first) ← holding [ov] (getMethod ov "found" pl)
      callWith pos f first (backTo pos (starEach [e1, .Lambda ar bd sc lpos] X.env)) (backToKw pos (keywordEach [] X.env))) := by rfl) :
    PRd W X (.Call (.Attribute o "found" apos) [e1, .Lambda ar bd sc lpos] [] pos) (dFoundLam K w W C P q pa p1 pb) := by
  subst hK hw hq
  refine ⟨fun F0 B => ⟨fun pins s σ H Q I h => ?_⟩⟩
  obtain ⟨F, ρ, K', E, z, kk⟩ := h
  obtain ⟨fa, fd, hm, FD⟩ := dm.ex
  refine PySem.W.methodCall_KW (pl := pl) (thn ((ho.run F0 B).run pins s σ H (fun v H1 => ∃ F1 a S n, v = .ref a ∧ Step W F H F1 H1 ∧ InsOk W a C "found" ∧ HasCa X.K X.w W a S n ∧ HasTab W P (lamQ X) ∧ p1 ρ fun sx => ∃ x key, sx = .d x ∧ WordD n key x ∧
    (∀ Q' : D → Prop, (∀ d, Good S key d → Q' d) → pb (ρ.map Sd.fr ++ [.d (.ref a)]) fun s => ∃ d, s.frz = some d ∧ Q' d) ∧ ∀ d, Good S key d → K' (.d d)) I ⟨F, ρ, _, E, z, fun sd v as F1 H1 ⟨a, S, n, e, r⟩ st sv na => ?_⟩) fun u s1 ⟨v, H1, I1, r1, F1, a, S, n, ev, st1, hio, hca, htb, z1⟩ => ?_) ht
  · subst e
    exact ⟨F1, a, S, n, sv.2.ref_inv, st, r⟩
  subst ev
  obtain rfl : u = Value.ref a := r1
  obtain ⟨dx, fs, g1, g2⟩ := hio F1 H1 st1.ok.j
  refine getmeth_ok I1 (st1.ok.fh _ _ g1) hcl hm g2 ?_
  refine PySem.W.callWith_K (first := [.ref a]) (h₀ := X.base) I1.ok.mod.kin hm.kp ?_ hst (by rfl)
  rw [hst]
  show wpAny _ _ (spliced ((false, eval e1 X.env) :: (false, eval (.Lambda ar bd sc lpos) X.env) :: [])) _ _ s1
  refine Calls.spliced_cons (thn ((h1.run F0 B).run pins s1 σ H1 (fun v H2 => ∃ F2 x key, Is F2 v x ∧ Step W F1 H1 F2 H2 ∧ WordD n key x ∧
    (∀ Q' : D → Prop, (∀ d, Good S key d → Q' d) → pb (ρ.map Sd.fr ++ [.d (.ref a)]) fun s => ∃ d, s.frz = some d ∧ Q' d) ∧ ∀ d, Good S key d → K' (.d d)) I1 ⟨F1, ρ, _, E.step st1, z1, fun sd v as F2 H2 ⟨x, key, e, r⟩ st sv na => ?_⟩) fun u1 s2 ⟨v1, H2, I2, r1, F2, x, key, ix, st2, hx, hb, hg⟩ => ?_)
  · subst e
    exact ⟨F2, x, key, sv.2, st, r⟩
  obtain ⟨ps, hP, hT, ha⟩ := (htb.at_ F2 H2 st2.ok.j).ex
  have hfree : ∀ z ∈ sc.names, z.2 = .free → ∃ c, X.env.cells.lookup z.1 = some c := fun z hz e => (L.free z hz e).elim (fun k => I2.ok.has _ (.inl k)) fun k => I2.ok.has _ (.inr k)
  refine Calls.spliced_cons (lam_mk I2 TB hcode hP hT (fun p cv h => ?_) hdf hfree fun f c' pm ctv H3 s3 I3 md hf hfn hfr hco => ?_)
  · obtain ⟨c1, e1, e2⟩ := ha p cv h
    exact ⟨c1, e1, st2.ok.fh _ _ e2⟩
  refine Calls.spliced_nil ⟨I3.kIn, ?_⟩
  obtain ⟨F3, st3, hcF⟩ := made_step st2.ok htb hP ha md hco
  have st12 := st1.trans E.ok st2
  have st13 := st12.trans E.ok st3
  have E3 := E.step st13
  obtain ⟨oc, od, dV, kV, doc, pm0, an, cdv, ct, osl, rfl, lk, hcd, _, _⟩ := FD.ex
  have S0 := sc_found
  have rc : codeAny (model X.prog X.w) X.A (.call (.ref fa) ⟨[.ref a, u1, .ref f], []⟩) (CR CX0 X.stack X.prog X.w H3 s3 Q E0) s3 := by
    refine run_ofS (N := ["self", "word", "work"]) (ps := ["self", "word", "work"]) (us := [.ref a, u1, .ref f]) (vs := [.ref a, v1, .ref f]) lk hcd S0 hr I3.env0 ((FD.bindsN (fun _ _ _ _ _ _ us hl => match us, hl with | [_, _, _], _ => rfl)) s3 [.ref a, u1, .ref f] I3.kIn rfl) (.cons rfl (.cons r1 (.cons rfl .nil))) rfl fun hr' => ?_
    refine ⟨tFound X.K X.w _, PSs.nox (pss_cons (ps_if (pt_cmpR (op_ni hr'.units) (pv 1) (pe_fld (pv 0) rfl) rfl) (pss_cons (ps_asg (pe_act1 (i := 2) (tb := liftR ⟨W, F3, H3⟩ pb) I3 L hy hf hfn hfr (fun u => hbind _ _ _ _ _ u) hr' (fun A outer s H hr2 => (hbody A outer s H f c' hr2).run F3 H3) rfl (.inl rfl) (pa_cons (pv 0) pa_nil)) (pg_sub (pe_fld (pv 0) rfl) (pv 1) (set_mxA hr'.units))) pss_nil) pss_nil) (pss_cons (ps_ret (pe_ix (ix_mx hr'.units) (pe_fld (pv 0) rfl) (pv 1) (by intro _ _; rfl))) pss_nil)), ?_⟩
    refine found_sem st3.ok hca hx (ix.mono st3.ff) (fun Q' hQ' => ⟨rfl, ⟨_, rfl, _, rfl, st3.ok.fh _ _ hcF, F3, _, _, (E3.reb).snoc (.ref a), hb (fun d => Good S key d) (fun d g => g), fun s v as F' H' ⟨d, e1, g⟩ st sv na => ?_⟩⟩) fun d v F' H' g st iv => kk (.d d) v [] F' H' (hg d g) (st13.trans E.ok st) ⟨rfl, iv⟩ New.nil
    obtain ⟨F2, s2, i2, _⟩ := st.frz st3.ok sv na e1
    exact hQ' d v F2 H' g s2 i2
  refine wpAny_call (codeAny_mono rc fun r s4 hq => ?_)
  cases r with
  | error e => exact (show False from hq).elim
  | ok fl =>
    cases fl with
    | ret u => exact I3.after hq
    | next => exact False.elim hq
    | brk => exact False.elim hq
    | cont => exact False.elim hq
end DL
namespace DL
open PySem PySem.Spec L2 Tx MX
section
variable {P : Program} {w : World} {K : PySem.W.Frag} {mg : Str → Option Value} {base : Heap} {C : Addr}
theorem pr_glb {W : Amb} {X : Cx} {x : Str} {p : Pos} {a : Addr} (hg : Gl X x) (hm : X.mg x = some (.ref a)) (hd : (x == ("__debug__" : Str)) = false := by decide) : PRd W X (.Name x p) (dC (.ref a)) := pr_c (pe_glob (v := .ref a) hg hm rfl hd) fun _ => .ref a
theorem good_near {S : List Row} {kvs : List (Row × D)} (h : BesOk S kvs) : Good S kNear (.dct kvs) := ⟨fun _ => ⟨kvs, rfl, h⟩, fun e => by injection e with e; exact absurd e (by decide), fun l e => by cases e⟩
theorem good_joined {S : List Row} {b : Bool} (h : b = true ↔ ∀ s ∈ S, ∀ t ∈ S, joinedP S s t) : Good S kJoined (.bl b) := ⟨fun e => by injection e with e; exact absurd e (by decide), fun _ => ⟨b, rfl, h⟩, fun l e => by cases e⟩
theorem good_homes {S : List Row} {lot : List Nat} {h : List (Row × D)} (g : HomesOk S lot h) : Good S (hKey lot) (.dct h) := ⟨fun e => (by cases e), fun e => (by cases e), fun l e => ⟨h, rfl, by rw [← hKey_inj e]; exact g⟩⟩
def s_near_by_keys (K : PySem.W.Frag) (w : World) (C : Addr) : DSpec := fun W ds Q => ∃ (a : Addr) (S : List Row) (sizes : List Nat), ds = [.ref a] ∧ HasSt K C W a S sizes ∧ StS S sizes ∧ HasCa K w W a S sizes.length ∧ ∀ kvs, BesOk S kvs → Q (.dct kvs)
theorem sc_near_by_keys : FnScope ["store"] ["store"] (defScope f_near_by_keys) := ⟨rfl, rfl, rfl, by decide +kernel, rfl, by decide +kernel, by decide +kernel⟩
theorem c_near_by_keys (c_find_near : Cl P w K mg base 4 "find_near" 1 (s_find_near K C)) (hcl : Cls K C) (dm : DM K C "found" "Store.found" m_found) (d : DF K mg "near_by_keys" f_near_by_keys) : Cl P w K mg base 6 "near_by_keys" 1 (s_near_by_keys K w C) := by
  obtain ⟨fw, fd, ps, hmw, kp, hn, hb, Fw⟩ := c_find_near.ex
  have c_found := c_found (P := P) (w := w) (mg := mg) (base := base) 4 dm
  exact cl_of (k := 5) d sc_near_by_keys rfl (fun _ _ _ _ _ _ us hl => match us, hl with | [_], _ => rfl) (fun W ds K h => by obtain ⟨_, _, _, e, _⟩ := h; rw [e]; rfl) (fun a W cdv A outer s H E hr =>
    (ssd_one (sd_ret (pr_meth c_found hcl (hr.mono (by decide)) (pd_var (pv 0)) (pad_cons pr_str (pad_cons (pr_glb rfl hmw) pad_nil))))))
   (fun W ds Q h => by
    obtain ⟨a, S, sizes, rfl, hS, hs, hca, z⟩ := h
    refine ⟨_, rfl, nofun, a, rfl, hS.mf, _, rfl, _, rfl, a, fw, S, sizes.length, kNear, .str "near", s_find_near K C, rfl, hca, .inl ⟨rfl, rfl⟩, ⟨⟨fd, ps, kp, hb, Fw⟩⟩, fun Q' hQ' => ⟨a, S, sizes, rfl, hS, hs, fun kvs hk => hQ' _ (good_near hk)⟩, fun d g => ?_⟩
    obtain ⟨kvs, rfl, hk⟩ := g.near rfl
    exact ⟨_, rfl, z kvs hk⟩)
def s_homes_of (K : PySem.W.Frag) (w : World) (C : Addr) : DSpec := fun W ds Q => ∃ (a : Addr) (S : List Row) (sizes lot : List Nat), ds = [.ref a, lotD lot] ∧ HasSt K C W a S sizes ∧ StS S sizes ∧ HasCa K w W a S sizes.length ∧ ∀ h, HomesOk S lot h → Q (.dct h)
theorem sc_homes_of : FnScope ["store", "lot", "beside", "homes", "many", "start", "fresh", "state", "key", "other"] ["store", "lot"] (defScope f_homes_of) := ⟨rfl, rfl, rfl, by decide +kernel, rfl, by decide +kernel, by decide +kernel⟩
theorem c_homes_of (ft : Fts mg) (c_near_by_keys : Cl P w K mg base 6 "near_by_keys" 1 (s_near_by_keys K w C)) (d : DF K mg "homes_of" f_homes_of) : Cl P w K mg base 7 "homes_of" 2 (s_homes_of K w C) :=
  cl_of (k := 6) d sc_homes_of rfl (fun _ _ _ _ _ _ us hl => match us, hl with | [_, _], _ => rfl) (fun W ds K h => by obtain ⟨_, _, _, _, e, _⟩ := h; rw [e]; rfl) (fun a W cdv A outer s H E hr =>
  have nd := sc_homes_of.nd
  (ssd_cons (sd_par3 (i := 2) (j := 3) (l := 4) rfl nd rfl rfl rfl (by decide) (by decide) (by decide) rfl rfl rfl (pqd_cons (pr_call c_near_by_keys (hr.mono (by decide)) rfl (pad_cons (pr_var (pv 0)) pad_nil)) (pqd_cons pr_dT (pqd_cons pr_int pqd_nil))) rfl) (ssd_cons (sd_for PassesOwn.never rfl (id_ss (pr_at (K := K) rfl (pd_var (pv 0)))) (gd_name (i := 5) nd rfl (Or.inl rfl)) (ssd_cons (sd_if (pt_din hr (pd_var (pv 5)) (pd_var (pv 3))) (ssd_one sd_cont) ssd_nil) (ssd_cons (sd_tupA hr rfl (pv 3) (pv 5) nd (n := 6) rfl (Or.inl rfl) (pqd_cons (pr_var (pv 4)) (pqd_cons (pr_lst (pad_cons (pr_var (pv 5)) pad_nil)) pqd_nil))) (ssd_cons (sd_while PassesOwn.never (pt_gt (PRd.e (pr_len rfl ft.m_len (pd_var (pv 6)))) (PRd.e pr_int)) (ssd_cons (sd_setX (n := 7) nd rfl (Or.inl rfl) (px_pop (pv 6))) (ssd_one (sd_for PassesOwn.never rfl (id_ss (pr_dget hr (pd_var (pv 2)) (pd_var (pv 7)))) (gd_tup (is := [8, 9]) rfl (pgs_cons (pg_name (i := 8) nd rfl (Or.inl rfl)) (pgs_cons (pg_name (i := 9) nd rfl (Or.inl rfl)) pgs_nil))) (ssd_one (sd_if (PWd.t (pwd_and (pt_inI (pd_var (pv 8)) (pd_var (pv 1))) (pwd_and1 (pt_dni hr (pd_var (pv 9)) (pd_var (pv 3)))))) (ssd_cons (sd_putT hr (pv 3) (pd_var (pv 9)) (pr_var (pv 4))) (ssd_one (sd_app (pv 6) (px_of (pr_var (pv 9)))))) ssd_nil)))))) (ssd_one (sd_set (i := 4) nd rfl (Or.inl rfl) (pr_add (pd_var (pv 4)) (PRd.e pr_int)))))))) (ssd_fz 3 (ssd_one (sd_ret (pr_var (pv 3))))))))
   (fun W ds K h => by
    obtain ⟨a, S, sizes, lot, rfl, hS, hs, hca, z⟩ := h
    have hdd : ∀ s ∈ S, s.length = sizes.length := fun s h => (hs.row s h).1
    have hf := hs.few
    refine ⟨_, rfl, _, rfl, a, S, sizes, rfl, hS, hs, hca, fun kvs hB => ⟨rfl, ?_⟩⟩
    refine ⟨_, rfl, nofun, a, _, rfl, hS.st, _, _, rfl, rfl, fun i ρ => ∃ h m x5 x6 x7 x8 x9, ρ = [.d (.ref a), .d (lotD lot), .d (.dct kvs), .ot h, .d (.int m), x5, x6, x7, x8, x9] ∧ Hm S lot m h ∧ (∀ (j : Nat) s, j < i → S[j]? = some s → (dget h s).isSome) ∧ h.length + unv S h ≤ S.length, ?_, ?_, ?_⟩
    · exact ⟨[], 0, _, _, _, _, _, rfl, Hm.start, fun j s hj => absurd hj (Nat.not_lt_zero _), by simp [unv]; exact List.length_filter_le _ _⟩
    · rintro i x ρ hx ⟨h, m, x5, x6, x7, x8, x9, rfl, hm, hall, hlen⟩
      obtain ⟨start, hst, rfl⟩ := rows_at hx
      have hmem : start ∈ S := List.mem_of_getElem? hst
      have hlS : h.length ≤ S.length := by omega
      refine ⟨_, rfl, nofun, _, rfl, nofun, h, start, rfl, rfl, _, rfl, fun hb => ?_, fun hb => ?_⟩
      · -- told already
        refine ⟨h, m, _, _, _, _, _, rfl, hm, fun j s hj hs' => ?_, hlen⟩
        by_cases e : j = i
        · subst e
          rw [hst] at hs'
          cases hs'
          exact hb
        · exact hall j s (by omega) hs'
      · -- one more island
        have hn : dget h start = none := by simpa using hb
        refine uNext ?_
        dsimp only
        refine ⟨_, rfl, _, rfl, _, rfl, (by simp), _, _, h, start, rfl, rfl, (by omega), rfl, ?_⟩
        have u0 := unv_put (x := .int m) hmem hn
        have l0 := dput_len h start (.int m)
        refine ⟨fun μ ρ => ∃ h1 fresh c dn y7 y8 y9, ρ = [.d (.ref a), .d (lotD lot), .d (.dct kvs), .ot h1, .d (.int m), .d (.ints start), .ol (rowsD fresh), y7, y8, y9] ∧ Fi S lot m h h1 start fresh c dn ∧ (fresh = [c] ∨ ∀ t, stp S lot c t → dn t) ∧
          μ = unv S h1 + fresh.length ∧ h1.length + unv S h1 ≤ S.length ∧ μ ≤ S.length, ⟨_, dput h start (.int m), [start], start, fun _ => False, _, _, _, rfl, hm.find hmem hn, .inl rfl, rfl, (by omega), (by simp; omega)⟩, ?_⟩
        rintro μ ρ ⟨h1, fresh, c0, dn0, y7, y8, y9, rfl, I0, hc0, hμ, hl1, hμ1⟩
        refine ⟨_, rfl, nofun, _, rowsD fresh, rfl, rfl, _, _, rfl, rfl, _, rfl, fun hb => ?_, fun hb => ?_⟩
        · -- a state is left to look at
          have hne : fresh ≠ [] := fun e => by rw [e] at hb; simp [rowsD] at hb
          obtain ⟨rest, c, rfl⟩ : ∃ rest c, fresh = rest ++ [c] := ⟨fresh.dropLast, fresh.getLast hne, (List.dropLast_concat_getLast hne).symm⟩
          have I1 := I0.pop (by
            rcases hc0 with e | e
            · rcases List.append_eq_singleton_iff.mp e with ⟨_, q⟩ | ⟨_, q⟩
              · exact .inl (by simpa using q.symm)
              · simp at q
            · exact .inr (.inr e))
          have hcS : c ∈ S := by
            rcases I1.new c _ I1.cu.2 with q | q
            · rw [I1.cu.1] at q; cases q
            · exact q.2.1
          obtain ⟨ps, hps, hpm, hpl⟩ := hB.at' c hcS
          refine ⟨rowsD rest, .ints c, (by rw [rowsD_app]; rfl), ?_⟩
          refine ⟨_, rfl, nofun, _, rfl, nofun, kvs, c, nbD ps, rfl, rfl, hps, _, ps.map nb1, rfl, rfl, ?_⟩
          refine ⟨fun j ρ => ∃ h2 fr dn z8 z9, ρ = [.d (.ref a), .d (lotD lot), .d (.dct kvs), .ot h2, .d (.int m), .d (.ints start), .ol (rowsD fr), .d (.ints c), z8, z9] ∧ Fi S lot m h h2 start fr c dn ∧ (∀ (i : Nat) k o, i < j → ps[i]? = some (k, o) → dn o) ∧
            unv S h2 + fr.length + 1 ≤ μ ∧ h2.length + unv S h2 ≤ S.length, ⟨h1, rest, fun _ => False, _, _, rfl, I1, fun i k o hi => absurd hi (Nat.not_lt_zero _), (by simp at hμ ⊢; omega), hl1⟩, ?_, ?_⟩
          · rintro j x ρ hx ⟨h2, fr, dn, z8, z9, rfl, I2, hdn, hμ2, hl2⟩
            obtain ⟨k, o, hko, rfl⟩ := nb_at hx
            have hmo := (hpm k o).mp (List.mem_of_getElem? hko)
            obtain ⟨put, skip⟩ := I2.item hdd hcS hmo.1 hmo.2
            have dn' : ∀ (i : Nat) k' o', i < j + 1 → ps[i]? = some (k', o') → dn o' ∨ o' = o := fun i k' o' hi he => by
              by_cases e : i = j
              · subst e; rw [hko] at he; cases he; exact .inr rfl
              · exact .inl (hdn i k' o' (by omega) he)
            refine ⟨_, rfl, rfl, ?_⟩
            refine ⟨_, rfl, nofun, _, rfl, nofun, _, _, rfl, rfl, _, rfl, fun hb1 => ?_, fun hb1 => ?_⟩
            · have k1 : k ∈ lot := natsI_mem.mp (of_decide_eq_true hb1)
              refine ⟨_, rfl, nofun, _, rfl, nofun, h2, o, rfl, rfl, _, rfl, fun hb2 => ?_, fun hb2 => ?_⟩
              · have k2 : dget h2 o = none := by simpa using hb2
                have u1 := unv_put (x := .int m) hmo.1 k2
                have l1 := dput_len h2 o (.int m)
                refine ⟨_, rfl, _, h2, rfl, rfl, (by omega), _, rfl, nofun, o, rfl, ?_⟩
                refine ⟨⟨_, rfl⟩, _, rfl, _, rfl, _, rfl, (by rw [rowsD_len]; omega), dput h2 o (.int m), fr ++ [o], fun t => dn t ∨ t = o, _, _, (by rw [rowsD_app]; rfl), put ⟨k1, k2⟩, dn', (by simp at hμ2 ⊢; omega), (by omega)⟩
              · exact ⟨h2, fr, _, _, _, rfl, skip (fun q => by rw [q.2] at hb2; cases hb2), dn', hμ2, hl2⟩
            · exact ⟨nofun, fun _ => ⟨h2, fr, _, _, _, rfl, skip (fun q => by rw [decide_eq_true (natsI_mem.mpr q.1)] at hb1; cases hb1), dn', hμ2, hl2⟩⟩
          · rintro ρ ⟨h2, fr, dn, z8, z9, rfl, I2, hdn, hμ2, hl2⟩
            refine ⟨unv S h2 + fr.length, (by omega), h2, fr, c, dn, _, _, _, rfl, I2, .inr fun t ht => ?_, rfl, hl2, (by omega)⟩
            obtain ⟨_, hT, k, hk, he⟩ := ht
            obtain ⟨i, hi⟩ := List.getElem?_of_mem ((hpm k t).mpr ⟨hT, he⟩)
            exact hdn i k t (by rw [List.length_map]; exact (List.getElem?_eq_some_iff.mp hi).1) hi
        · -- nothing left
          have e : fresh = [] := by cases fresh with | nil => rfl | cons _ _ => simp [rowsD] at hb
          subst e
          have H1 := I0.done hdd (by
            rcases hc0 with q | q
            · simp at q
            · exact q)
          refine ⟨_, rfl, nofun, _, _, rfl, rfl, ?_⟩
          refine ⟨h1, m + 1, _, _, _, _, _, rfl, H1, fun j s hj hs' => ?_, hl1⟩
          by_cases e : j = i
          · subst e
            rw [hst] at hs'
            cases hs'
            rw [I0.st.2.2]; rfl
          · have := hall j s (by omega) hs'
            obtain ⟨y, hy⟩ := Option.isSome_iff_exists.mp this
            rw [I0.sub s y hy]; rfl
    · rintro ρ ⟨h, m, x5, x6, x7, x8, x9, rfl, hm, hall, hlen⟩
      refine ⟨_, rfl, _, rfl, z h (hm.homes fun s hs' => ?_)⟩
      obtain ⟨j, hj⟩ := List.getElem?_of_mem hs'
      exact hall j s (by rw [rowsD_len]; exact (List.getElem?_eq_some_iff.mp hj).1) hj)
end
end DL
namespace DL
open PySem PySem.Spec L2 Tx MX LX LamX
section
variable {P : Program} {w : World} {K : PySem.W.Frag} {mg : Str → Option Value} {base : Heap} {C T : Addr}
/-- a def of the top whose code object is known -/
structure DFC (K : PySem.W.Frag) (mg : Str → Option Value) (x : Str) (st : Stmt) (c : Addr) : Prop where
  ex : ∃ a fd, mg x = some (.ref a) ∧ FunD K x x (defArgs st) (defBody st) (defScope st) [] [] a fd ∧ fd.code = .ref c
theorem cl_ofC {x : Str} {st : Stmt} {c : Addr} {N ps : List Str} {k n : Nat} {f : DSpec} (d : DFC K mg x st c) (S : FnScope N ps (defScope st)) (hn : ps.length = n)
    (hbi : ∀ (kV doc pm : Value) (an : Option Addr) (cdv ct : Value) (us : List Value), us.length = ps.length → bindArgs (PySem.W.fnOf x x (defArgs st) (defBody st) (defScope st) .none kV doc pm an cdv ct) ⟨us, []⟩ = pure (ps.zip us)) {pr : Amb → RS}
    (hlen : ∀ W ds K, f W ds K → ds.length = ps.length)
    (hb : ∀ (a : Addr) (W : Amb) (A : Around) (outer : List PySem.Env) (s : Shared) (H : Hp) (E : XK), Room k (A.deeper (PyProof.Rows.envOfC x (defScope st) s.heap.objs.size a (.ref c))) → PSsd W (cxOf CX0 P w K mg base N x (defScope st) a (.ref c) A outer s H E).nox (defBody st) (pr W))
    (hp : ∀ (W : Amb) (ds : List D) (K : D → Prop), f W ds K → pr W { nx := fun _ => K .non, rt := K } (startD N.length ds)) : Cl P w K mg base (k + 1) x n f := by
  obtain ⟨a, fd, hm, F, hc⟩ := d.ex
  refine ⟨a, fd, ps, hm, F.kp, hn, F.bindsN hbi, ?_⟩
  have hpl : ps.length ≤ N.length := by
    have e := congrArg List.length S.pre
    rw [List.length_take] at e
    omega
  obtain ⟨oc, od, dV, kV, doc, pm, an, cdv, ct, osl, rfl, lk, hcd, _, _⟩ := F.ex
  have hc : cdv = .ref c := hc
  subst hc
  exact fn_of lk hcd S (fun vs H Q E ⟨W, F, ds, K', ok, il, hf, _⟩ => il.length.trans (hlen W ds K' hf)) fun A outer s H vs Q E hr ⟨W, F, ds, K', ok, il, hf, k⟩ =>
    ⟨_, PSs.nox ((hb a W A outer s H E hr).run F H), F, startD N.length ds, { nx := fun _ => K' .non, rt := K' }, env_start ok il (by rw [hlen W ds K' hf]; exact hpl), hp W ds K' hf, fun ρ' σ' F' H' z E' => k .non .non F' H' z E'.rt .non, fun d v F' H' z st i => k d v F' H' z st i, fun _ _ _ _ z _ => z.elim, fun _ _ _ _ z _ => z.elim⟩
def hq : Str := "homes.<locals>.<lambda>"
/-- the store at a, of these states, with its cache -/
structure HasAll (K : PySem.W.Frag) (w : World) (C T : Addr) (W : Amb) (a : Addr) (S : List Row) (sizes : List Nat) : Prop where
  st : HasSt K C W a S sizes
  ok : StS S sizes
  ca : HasCa K w W a S sizes.length
  tab : HasTab W T hq
def s_homes (K : PySem.W.Frag) (w : World) (C T : Addr) : DSpec := fun W ds Q => ∃ (a : Addr) (S : List Row) (sizes lot : List Nat), ds = [.ref a, lotD lot] ∧ HasAll K w C T W a S sizes ∧ LotOk sizes.length lot ∧ ∀ h, HomesOk S lot h → Q (.dct h)
theorem sc_homes : FnScope ["store", "lot"] ["store", "lot"] (defScope f_homes) := ⟨rfl, rfl, rfl, by decide +kernel, rfl, by decide +kernel, by decide +kernel⟩
def hSc : Scope := { kind := .function, names := [("one", .local), ("lot", .free), ("homes_of", .globalImplicit)], isGenerator := false, isCoroutine := false, more := [] }
theorem lamP_homes : LamP (defScope f_homes) hSc "one" := ⟨rfl, rfl, rfl, by decide +kernel, rfl, by decide +kernel⟩
theorem one_new : ("one" : Str) ∉ (["store", "lot"] : List Str) := by decide +kernel
theorem c_homes {c : Addr} (c_homes_of : Cl P w K mg base 7 "homes_of" 2 (s_homes_of K w C)) (hcl : Cls K C) (dm : DM K C "found" "Store.found" m_found) (TB : TabB base mg c T) (d : DFC K mg "homes" f_homes c) : Cl P w K mg base 10 "homes" 2 (s_homes K w C T) :=
  cl_ofC (k := 9) d sc_homes rfl (fun _ _ _ _ _ _ us hl => match us, hl with | [_, _], _ => rfl) (fun W ds K h => by obtain ⟨_, _, _, _, e, _⟩ := h; rw [e]; rfl) (fun a W A outer s H E hr =>
    (ssd_one (sd_ret (pr_foundLam (K := K) (w := w) (y := "one") (k := 7) (q := hq) rfl rfl rfl dm hcl TB rfl rfl lamP_homes one_new (fun _ _ _ _ _ _ => rfl) hr (pd_var (pv 0)) (pr_tup (pad_cons pr_str (pad_cons (pr_var (pv 1)) pad_nil)))
      (fun A outer s H f c' hr2 => pr_call c_homes_of hr2 rfl (pad_cons (pr_var (pv 2)) (pad_cons (pr_var (pv 1)) pad_nil)))))))
   (fun W ds Q h => by
    obtain ⟨a, S, sizes, lot, rfl, hA, hl, z⟩ := h
    refine ⟨_, rfl, nofun, a, S, sizes.length, rfl, hA.st.mf, hA.ca, hA.tab, _, rfl, _, rfl, _, rfl, by simp, _, hKey lot, rfl, .inr (.inr ⟨lot, hl, rfl, rfl⟩), fun Q' hQ' => ?_, fun d g => ?_⟩
    · exact ⟨_, rfl, _, rfl, _, rfl, _, rfl, a, S, sizes, lot, rfl, hA.st, hA.ok, hA.ca, fun h hh => ⟨_, rfl, hQ' _ (good_homes hh)⟩⟩
    · obtain ⟨h, rfl, hh⟩ := g.homes lot rfl
      exact ⟨_, rfl, z h hh⟩)
end
end DL
namespace DL
open PySem PySem.Spec L2 Tx MX
section
variable {P : Program} {w : World} {K : PySem.W.Frag} {mg : Str → Option Value} {base : Heap} {C T : Addr}
theorem lot_same (s t : Row) : LotOk s.length (sameN s t) := ⟨List.Pairwise.sublist List.filter_sublist List.pairwise_lt_range, fun k hk => List.mem_range.mp (List.mem_filter.mp hk).1⟩
theorem lot_diff (s t : Row) : LotOk s.length (diffN s t) := ⟨List.Pairwise.sublist List.filter_sublist List.pairwise_lt_range, fun k hk => List.mem_range.mp (List.mem_filter.mp hk).1⟩
theorem notIn_same (s t : Row) : notIn s.length (sameN s t) = diffN s t := by
  unfold notIn diffN
  refine List.filter_congr fun k hk => ?_
  have hk := List.mem_range.mp hk
  have e : (k : Int) ∈ natsI (sameN s t) ↔ s[k]? = t[k]? := by
    rw [natsI_mem]
    unfold sameN
    rw [List.mem_filter, List.mem_range]
    simp [hk]
  by_cases h : s[k]? = t[k]?
  · rw [decide_eq_true (e.mpr h), decide_eq_false (fun z : s[k]? ≠ t[k]? => z h)]; rfl
  · rw [decide_eq_false (fun z => h (e.mp z)), decide_eq_true (show s[k]? ≠ t[k]? from h)]; rfl
def s_together (K : PySem.W.Frag) (w : World) (C T : Addr) : DSpec := fun W ds Q => ∃ (a : Addr) (S : List Row) (sizes : List Nat) (s t : Row), ds = [.ref a, .ints s, .ints t] ∧ HasAll K w C T W a S sizes ∧ s ∈ S ∧ t ∈ S ∧ ∀ b : Bool, (b = true ↔ joinedP S s t) → Q (.bl b)
theorem sc_together : FnScope ["store", "one", "other", "apart", "led"] ["store", "one", "other"] (defScope f_together) := ⟨rfl, rfl, rfl, by decide +kernel, rfl, by decide +kernel, by decide +kernel⟩
theorem c_together (ft : Fts mg) (c_homes : Cl P w K mg base 10 "homes" 2 (s_homes K w C T)) (c_other_keys : Cl P w K mg base 6 "other_keys" 2 (s_other_keys K C)) (c_same_keys : Cl P w K mg base 2 "same_keys" 2 s_same_keys) (d : DF K mg "together" f_together) : Cl P w K mg base 11 "together" 3 (s_together K w C T) :=
  cl_of (k := 10) d sc_together rfl (fun _ _ _ _ _ _ us hl => match us, hl with | [_, _, _], _ => rfl) (fun W ds K h => by obtain ⟨_, _, _, _, _, e, _⟩ := h; rw [e]; rfl) (fun a W cdv A outer s H E hr =>
  have nd := sc_together.nd
  (ssd_cons (sd_set (i := 3) nd rfl (Or.inl rfl) (pr_call c_other_keys (hr.mono (by decide)) rfl (pad_cons (pr_var (pv 0)) (pad_cons (pr_call c_same_keys (hr.mono (by decide)) rfl (pad_cons (pr_var (pv 1)) (pad_cons (pr_var (pv 2)) pad_nil))) pad_nil)))) (ssd_cons (sd_set (i := 4) nd rfl (Or.inl rfl) (pr_call c_homes (hr.mono (by decide)) rfl (pad_cons (pr_var (pv 0)) (pad_cons (pr_var (pv 3)) pad_nil)))) (ssd_one (sd_ret (pr_eqS (PRd.e (pr_dget hr (pd_var (pv 4)) (pd_var (pv 1)))) (PRd.e (pr_dget hr (pd_var (pv 4)) (pd_var (pv 2))))))))))
   (fun W ds K h => by
    obtain ⟨a, S, sizes, s, t, rfl, hA, hs, ht, z⟩ := h
    have few := hA.ok.ok.few
    have sl := (hA.ok.row s hs).1
    have tl := (hA.ok.row t ht).1
    simp only [sRet, dCB, vCons, vNil, d2, sSeq, sSet]
    refine ⟨_, rfl, _, rfl, _, rfl, _, rfl, _, rfl, _, rfl, s, t, rfl, by omega, by omega, _, rfl, a, S, sizes, sameN s t, rfl, hA.st, hA.ok, by rw [← sl]; exact lot_same s t, ?_⟩
    rw [← sl, notIn_same]
    refine ⟨_, rfl, _, rfl, _, rfl, _, rfl, a, S, sizes, diffN s t, rfl, hA, by rw [← sl]; exact lot_diff s t, fun h hh => ?_⟩
    obtain ⟨n, hn⟩ := hh.has s hs
    obtain ⟨m, hm⟩ := hh.has t ht
    refine ⟨_, rfl, nofun, _, rfl, nofun, h, s, _, rfl, rfl, hn, _, rfl, nofun, _, rfl, nofun, h, t, _, rfl, rfl, hm, _, _, _, rfl, rfl, rfl, _, rfl, z _ ?_⟩
    rw [decide_eq_true_iff]
    exact hh.iff s hs t ht n m hn hm)
theorem agr_iff {s t : Row} {lot : List Nat} {n : Nat} (sl : s.length = n) (tl : t.length = n) : viewK s (notIn n lot) = viewK t (notIn n lot) ↔ ∀ k ∈ diffN s t, k ∈ lot := by
  rw [agr_view]
  constructor
  · intro h k hk
    obtain ⟨h1, h2⟩ := mem_diffN.mp hk
    by_cases hl : k ∈ lot
    · exact hl
    · exfalso
      have := h k (mem_notIn.mpr ⟨by omega, hl⟩)
      rw [List.getD_eq_getElem?_getD, List.getD_eq_getElem?_getD, List.getElem?_eq_getElem h1, List.getElem?_eq_getElem (by omega)] at this
      exact h2 (by rw [List.getElem?_eq_getElem h1, List.getElem?_eq_getElem (by omega)]; exact congrArg some this)
  · intro h k hk
    obtain ⟨h1, h2⟩ := mem_notIn.mp hk
    have : ¬ (k ∈ diffN s t) := fun z => h2 (h k z)
    rw [mem_diffN] at this
    have e : s[k]? = t[k]? := by
      by_cases z : s[k]? = t[k]?
      · exact z
      · exact absurd ⟨by omega, z⟩ this
    rw [List.getD_eq_getElem?_getD, List.getD_eq_getElem?_getD, e]
def s_whole (K : PySem.W.Frag) (w : World) (C T : Addr) : DSpec := fun W ds Q => ∃ (a : Addr) (S : List Row) (sizes lot : List Nat), ds = [.ref a, lotD lot] ∧ HasAll K w C T W a S sizes ∧ LotOk sizes.length lot ∧ ∀ b : Bool, (b = true ↔ wholeP S lot) → Q (.bl b)
theorem sc_whole : FnScope ["store", "lot", "led", "rest", "seen", "state"] ["store", "lot"] (defScope f_whole) := ⟨rfl, rfl, rfl, by decide +kernel, rfl, by decide +kernel, by decide +kernel⟩
theorem c_whole (ft : Fts mg) (c_homes : Cl P w K mg base 10 "homes" 2 (s_homes K w C T)) (c_other_keys : Cl P w K mg base 6 "other_keys" 2 (s_other_keys K C)) (c_seen_on : Cl P w K mg base 2 "seen_on" 2 s_seen_on) (d : DF K mg "whole" f_whole) : Cl P w K mg base 11 "whole" 2 (s_whole K w C T) :=
  cl_of (k := 10) d sc_whole rfl (fun _ _ _ _ _ _ us hl => match us, hl with | [_, _], _ => rfl) (fun W ds K h => by obtain ⟨_, _, _, _, e, _⟩ := h; rw [e]; rfl) (fun a W cdv A outer s H E hr =>
  have nd := sc_whole.nd
  (ssd_cons (sd_par3 (i := 2) (j := 3) (l := 4) rfl nd rfl rfl rfl (by decide) (by decide) (by decide) rfl rfl rfl (pqd_cons (pr_call c_homes (hr.mono (by decide)) rfl (pad_cons (pr_var (pv 0)) (pad_cons (pr_var (pv 1)) pad_nil))) (pqd_cons (pr_call c_other_keys (hr.mono (by decide)) rfl (pad_cons (pr_var (pv 0)) (pad_cons (pr_var (pv 1)) pad_nil))) (pqd_cons pr_dT pqd_nil))) rfl) (ssd_cons (sd_for PassesOwn.never rfl (id_ss (pr_at (K := K) rfl (pd_var (pv 0)))) (gd_name (i := 5) nd rfl (Or.inl rfl)) (ssd_one (sd_ifNe (px_setd hr (pv 4) (PRd.e (pr_call c_seen_on (hr.mono (by decide)) rfl (pad_cons (pr_var (pv 5)) (pad_cons (pr_var (pv 3)) pad_nil)))) (pr_dget hr (pd_var (pv 2)) (pd_var (pv 5))) ⟨rfl, rfl, rfl, rfl⟩) (PRd.e (pr_dget hr (pd_var (pv 2)) (pd_var (pv 5)))) (ssd_one (sd_ret pr_bl)) ssd_nil))) (ssd_one (sd_ret pr_bl)))))
   (fun W ds K h => by
    obtain ⟨a, S, sizes, lot, rfl, hA, hl, z⟩ := h
    have few := hA.ok.ok.few
    have hf := hA.ok.few
    have ll := lot_len (lot_notIn sizes.length lot)
    refine ⟨_, rfl, _, rfl, _, rfl, _, rfl, a, S, sizes, lot, rfl, hA, hl, fun h hh => ?_⟩
    refine ⟨_, rfl, _, rfl, _, rfl, _, rfl, a, S, sizes, lot, rfl, hA.st, hA.ok, hl, rfl, ?_⟩
    refine ⟨_, rfl, nofun, a, _, rfl, hA.st.st, _, _, rfl, rfl, fun i ρ => ∃ (kvs : List (Row × D)) (x5 : Sd), ρ = [.d (.ref a), .d (lotD lot), .d (.dct h), .d (lotD (notIn sizes.length lot)), .ot kvs, x5] ∧ kvs.length ≤ i ∧
      (∀ v x, dget kvs v = some x → ∃ s ∈ S, viewK s (notIn sizes.length lot) = v ∧ dget h s = some x) ∧ ∀ (j : Nat) s, j < i → S[j]? = some s → dget kvs (viewK s (notIn sizes.length lot)) = dget h s, ⟨[], _, rfl, by simp, fun v x e => (by cases e), fun _ _ h => absurd h (Nat.not_lt_zero _)⟩, ?_, ?_⟩
    · rintro i x ρ hx ⟨kvs, x5, rfl, q1, q2, q3⟩
      obtain ⟨s, hsi, rfl⟩ := rows_at hx
      have hsS := List.mem_of_getElem? hsi
      have hi := (List.getElem?_eq_some_iff.mp hsi).1
      have sl := (hA.ok.row s hsS).1
      obtain ⟨n, hn⟩ := hh.has s hsS
      refine ⟨⟨_, rfl⟩, _, rfl, _, rfl, _, rfl, _, rfl, s, notIn sizes.length lot, rfl, fun k hk => by rw [sl]; exact (mem_notIn.mp hk).1, by omega, _, rfl, _, rfl, nofun, _, rfl, nofun, h, s, _, rfl, rfl, hn, .int n, kvs, rfl, rfl, by omega, fun x hx' => ?_, fun hno => ?_⟩
      · obtain ⟨s', hs', e1, e2⟩ := q2 _ x hx'
        obtain ⟨m, hm⟩ := hh.has s' hs'
        rw [hm] at e2
        cases e2
        refine ⟨_, rfl, nofun, _, rfl, nofun, h, s, _, rfl, rfl, hn, _, _, rfl, rfl, fun hb => ?_, fun hb => ?_⟩
        · refine ⟨_, rfl, z false ⟨nofun, fun hw => ?_⟩⟩
          have hne : ¬ m = n := of_decide_eq_false hb
          exact absurd ((hh.iff s' hs' s hsS m n hm hn).mpr (hw s' hs' s hsS ((agr_iff (hA.ok.row s' hs').1 sl).mp e1))) hne
        · have hmn : m = n := of_decide_eq_true hb
          subst hmn
          refine uNext ?_
          refine ⟨kvs, _, rfl, by omega, q2, fun j t hj ht => ?_⟩
          by_cases e : j = i
          · subst e
            rw [hsi] at ht
            cases ht
            rw [hx', hn]
          · exact q3 j t (by omega) ht
      · refine ⟨_, rfl, nofun, _, rfl, nofun, h, s, _, rfl, rfl, hn, _, _, rfl, rfl, fun hb => ?_, fun hb => ?_⟩
        · exact absurd rfl (of_decide_eq_false hb)
        · refine uNext ?_
          refine ⟨kvs ++ [(viewK s (notIn sizes.length lot), .int n)], _, rfl, by simp; omega, fun v x e => ?_, fun j t hj ht => ?_⟩
          · rw [dget_app] at e
            cases e2 : dget kvs v with
            | some y =>
              rw [e2] at e
              cases e
              exact q2 v _ e2
            | none =>
              rw [e2] at e
              have e : dget [(viewK s (notIn sizes.length lot), D.int n)] v = some x := e
              rw [dget_cons] at e
              split at e
              · rename_i e3
                cases e
                exact ⟨s, hsS, e3, hn⟩
              · cases e
          · rw [dget_app]
            by_cases e : j = i
            · subst e
              rw [hsi] at ht
              cases ht
              rw [hno, hn]
              simp [dget_cons]
            · have := q3 j t (by omega) ht
              obtain ⟨m, hm⟩ := hh.has t (List.mem_of_getElem? ht)
              rw [this, hm]
    · rintro ρ ⟨kvs, x5, rfl, q1, q2, q3⟩
      rw [rowsD_len] at q3
      refine ⟨_, rfl, z true ⟨fun _ => fun s hs t ht hk => ?_, fun _ => rfl⟩⟩
      obtain ⟨i, hi⟩ := List.getElem?_of_mem hs
      obtain ⟨j, hj⟩ := List.getElem?_of_mem ht
      have e1 := q3 i s (List.getElem?_eq_some_iff.mp hi).1 hi
      have e2 := q3 j t (List.getElem?_eq_some_iff.mp hj).1 hj
      rw [(agr_iff (hA.ok.row s hs).1 (hA.ok.row t ht).1).mpr hk, e2] at e1
      obtain ⟨n, hn⟩ := hh.has s hs
      obtain ⟨m, hm⟩ := hh.has t ht
      rw [hn, hm] at e1
      cases e1
      exact (hh.iff s hs t ht n n hn hm).mp rfl)
open Classical in
noncomputable def wholeB (S : List Row) (x : D) : Bool := decide (wholeP S ((unI x).map Int.toNat))
theorem nats_back (l : List Nat) : (natsI l).map Int.toNat = l := by
  unfold natsI
  rw [List.map_map]
  conv => rhs; rw [← List.map_id l]
  exact List.map_congr_left fun k _ => rfl
open Classical in
theorem wholeB_iff {S : List Row} (l : List Nat) : wholeB S (lotD l) = true ↔ wholeP S l := by
  unfold wholeB
  rw [unI_ints, nats_back, decide_eq_true_iff]
def s_find_joined (K : PySem.W.Frag) (w : World) (C T : Addr) : DSpec := fun W ds Q => ∃ (a : Addr) (S : List Row) (sizes : List Nat), ds = [.ref a] ∧ HasAll K w C T W a S sizes ∧ ∀ b : Bool, (b = true ↔ ∀ s ∈ S, ∀ t ∈ S, joinedP S s t) → Q (.bl b)
theorem sc_find_joined : FnScope ["store", "lot"] ["store"] (defScope f_find_joined) := ⟨rfl, rfl, rfl, by decide +kernel, rfl, by decide +kernel, by decide +kernel⟩
theorem c_find_joined (ft : Fts mg) (c_all_lots : Cl P w K mg base 2 "all_lots" 1 (s_all_lots K C)) (c_whole : Cl P w K mg base 11 "whole" 2 (s_whole K w C T)) (d : DF K mg "find_joined" f_find_joined) : Cl P w K mg base 12 "find_joined" 1 (s_find_joined K w C T) :=
  cl_of (k := 11) d sc_find_joined rfl (fun _ _ _ _ _ _ us hl => match us, hl with | [_], _ => rfl) (fun W ds K h => by obtain ⟨_, _, _, e, _⟩ := h; rw [e]; rfl) (fun a W cdv A outer s H E hr =>
  have nd := sc_find_joined.nd
  (ssd_one (sd_ret (pr_all rfl rfl ft.m_all (PRd.e (pr_lc (i := 1) rfl nd (id_ss (pr_call c_all_lots (hr.mono (by decide)) rfl (pad_cons (pr_var (pv 0)) pad_nil))) (bok (own := [("lot", 1)]) rfl) (fun _ _ _ _ _ => pg_name (i := 1) nd rfl (Or.inl rfl)) (fun _ _ _ _ _ => ptsd_nil) (fun _ _ _ _ _ => (pr_call c_whole (hr.mono (by decide)) rfl (pad_cons (pr_var (pv 0)) (pad_cons (pr_var (pv 1)) pad_nil))))))))))
   (fun W ds K h => by
    obtain ⟨a, S, sizes, rfl, hA, z⟩ := h
    have few := hA.ok.ok.few
    refine uRetAll (dLc_any (fun xs => ∃ ls : List (List Nat), xs = lotsD ls ∧ ls.Perm (allL sizes.length)) (fun K' hK => ⟨_, rfl, _, rfl, a, S, sizes, rfl, hA.st, hA.ok, fun ls hp => ⟨_, _, rfl, rfl, hK _ ⟨ls, rfl, hp⟩⟩⟩) ?_)
    rintro _ ⟨ls, rfl, hp⟩
    have hln : ls.length ≤ 16 := by
      rw [hp.length_eq, allL_len]
      exact Nat.pow_le_pow_right (by decide) few
    refine lcN (xs := lotsD ls) (fun _ => true) (fun x => .bl (wholeB S x)) (fun K' h' => h') (by rw [lotsD_len]; omega) (fun y hy K' k' => k') (fun y hy _ K' k' => ?_) ?_
    · obtain ⟨r, hr, rfl⟩ := mem_rowsD hy
      obtain ⟨l, hl, rfl⟩ := List.mem_map.mp hr
      have hl := hp.mem_iff.mp hl
      refine ⟨_, rfl, _, rfl, _, rfl, _, rfl, a, S, sizes, l, rfl, hA, ⟨allL_sorted l hl, allL_lt l hl⟩, fun b hb => k' _ ?_⟩
      show some (D.bl b) = some (D.bl (wholeB S (.ints (natsI l))))
      have e : b = wholeB S (lotD l) := Bool.eq_iff_iff.mpr (hb.trans (wholeB_iff l).symm)
      rw [e]
    · rw [filter_tt]
      have em : (lotsD ls).map (fun x => D.bl (wholeB S x)) = (ls.map fun l => wholeB S (lotD l)).map .bl := by
        unfold lotsD rowsD
        rw [List.map_map, List.map_map, List.map_map]
        rfl
      rw [em]
      refine ⟨_, _, rfl, rfl, _, rfl, z _ ?_⟩
      rw [List.all_map, List.all_eq_true, ← whole_all (allL sizes.length) (diffN_allL (d := sizes.length) fun s hs => (hA.ok.row s hs).1)]
      have hB := fun l => wholeB_iff (S := S) l
      constructor
      · intro h l hl
        exact (hB l).mp (h l (hp.mem_iff.mpr hl))
      · intro h l hl
        exact (hB l).mpr (h l (hp.mem_iff.mp hl)))
def s_is_joined (K : PySem.W.Frag) (w : World) (C T : Addr) : DSpec := fun W ds Q => ∃ (a : Addr) (S : List Row) (sizes : List Nat), ds = [.ref a] ∧ HasAll K w C T W a S sizes ∧ ∀ b : Bool, (b = true ↔ ∀ s ∈ S, ∀ t ∈ S, joinedP S s t) → Q (.bl b)
theorem sc_is_joined : FnScope ["store"] ["store"] (defScope f_is_joined) := ⟨rfl, rfl, rfl, by decide +kernel, rfl, by decide +kernel, by decide +kernel⟩
theorem c_is_joined (c_find_joined : Cl P w K mg base 12 "find_joined" 1 (s_find_joined K w C T)) (hcl : Cls K C) (dm : DM K C "found" "Store.found" m_found) (d : DF K mg "is_joined" f_is_joined) : Cl P w K mg base 14 "is_joined" 1 (s_is_joined K w C T) := by
  obtain ⟨fw, fd, ps, hmw, kp, hn, hb, Fw⟩ := c_find_joined.ex
  have c_found := c_found (P := P) (w := w) (mg := mg) (base := base) 12 dm
  exact cl_of (k := 13) d sc_is_joined rfl (fun _ _ _ _ _ _ us hl => match us, hl with | [_], _ => rfl) (fun W ds K h => by obtain ⟨_, _, _, e, _⟩ := h; rw [e]; rfl) (fun a W cdv A outer s H E hr =>
    (ssd_one (sd_ret (pr_meth c_found hcl (hr.mono (by decide)) (pd_var (pv 0)) (pad_cons pr_str (pad_cons (pr_glb rfl hmw) pad_nil))))))
   (fun W ds Q h => by
    obtain ⟨a, S, sizes, rfl, hA, z⟩ := h
    refine ⟨_, rfl, nofun, a, rfl, hA.st.mf, _, rfl, _, rfl, a, fw, S, sizes.length, kJoined, .str "joined", s_find_joined K w C T, rfl, hA.ca, .inr (.inl ⟨rfl, rfl⟩), ⟨⟨fd, ps, kp, hb, Fw⟩⟩, fun Q' hQ' => ⟨a, S, sizes, rfl, hA, fun b hb => hQ' _ (good_joined hb)⟩, fun d g => ?_⟩
    obtain ⟨b, rfl, hb⟩ := g.joined rfl
    exact ⟨_, rfl, z b hb⟩)
end
end DL
namespace DL
open PySem PySem.Spec L2 Tx MX
section
variable {P : Program} {w : World} {K : PySem.W.Frag} {mg : Str → Option Value} {base : Heap} {C T : Addr}
theorem same_diff_len (s t : Row) : (sameN s t).length + (diffN s t).length = s.length := by
  unfold sameN diffN
  have h : ∀ l : List Nat, (l.filter fun i => decide (s[i]? = t[i]?)).length + (l.filter fun i => decide (s[i]? ≠ t[i]?)).length = l.length := by
    intro l
    induction l with
    | nil => rfl
    | cons k l ih =>
      rw [List.filter_cons, List.filter_cons]
      by_cases e : s[k]? = t[k]?
      · rw [if_pos (decide_eq_true e), if_neg (by simp [e])]
        simp only [List.length_cons]
        omega
      · rw [if_neg (by simp [e]), if_pos (by simp [e])]
        simp only [List.length_cons]
        omega
  rw [h, List.length_range]
/-- the best pair so far -/
def bestD : Option (Row × Row) → D
  | none => .non
  | some p => .tup [.int ((sameN p.1 p.2).length : Nat), .ints p.1, .ints p.2]
structure Best (S : List Row) (i m : Nat) (o : Option (Row × Row)) : Prop where
  no : o = none → ∀ p, ¬ apB S i m p
  yes : ∀ p, o = some p → p.1 ∈ S ∧ p.2 ∈ S ∧ ¬ joinedP S p.1 p.2 ∧ ∀ q, apB S i m q → (sameN q.1 q.2).length ≤ (sameN p.1 p.2).length
theorem Best.skip {S : List Row} {i m : Nat} {o : Option (Row × Row)} {one other : Row} (B : Best S i m o) (nd : S.Nodup) (h1 : S[i]? = some one) (h2 : S[m]? = some other) (him : i < m) (h : joinedP S one other ∨ ∃ p, o = some p ∧ (sameN one other).length ≤ (sameN p.1 p.2).length) : Best S i (m + 1) o := by
  have key := apB_step nd h1 h2 him
  refine ⟨fun e p hp => ?_, fun p e => ?_⟩
  · rcases (key p).mp hp with g | ⟨rfl, g⟩
    · exact B.no e p g
    · rcases h with h | ⟨q, hq, _⟩
      · exact g h
      · rw [e] at hq; cases hq
  · obtain ⟨a, b, c, d⟩ := B.yes p e
    refine ⟨a, b, c, fun q hq => ?_⟩
    rcases (key q).mp hq with g | ⟨rfl, g⟩
    · exact d q g
    · rcases h with h | ⟨q, hq, hl⟩
      · exact absurd h g
      · rw [e] at hq; cases hq; exact hl
theorem Best.take {S : List Row} {i m : Nat} {o : Option (Row × Row)} {one other : Row} (B : Best S i m o) (nd : S.Nodup) (h1 : S[i]? = some one) (h2 : S[m]? = some other) (him : i < m) (hn : ¬ joinedP S one other) (h : ∀ p, o = some p → (sameN p.1 p.2).length ≤ (sameN one other).length) : Best S i (m + 1) (some (one, other)) := by
  refine ⟨fun e => (by cases e), fun p e => ?_⟩
  cases e
  refine ⟨List.mem_of_getElem? h1, List.mem_of_getElem? h2, hn, fun q hq => ?_⟩
  rcases (apB_step nd h1 h2 him q).mp hq with g | ⟨rfl, _⟩
  · cases ho : o with
    | none => exact absurd g (B.no ho q)
    | some p => exact Nat.le_trans ((B.yes p ho).2.2.2 q g) (h p ho)
  · exact Nat.le_refl _
def s_nearest_apart (K : PySem.W.Frag) (w : World) (C T : Addr) : DSpec := fun W ds Q => ∃ (a : Addr) (S : List Row) (sizes : List Nat), ds = [.ref a] ∧ HasAll K w C T W a S sizes ∧ (¬ ∀ s ∈ S, ∀ t ∈ S, joinedP S s t) ∧
  ∀ p q : Row, p ∈ S → q ∈ S → ¬ joinedP S p q → (∀ s ∈ S, ∀ t ∈ S, ¬ joinedP S s t → (diffN p q).length ≤ (diffN s t).length) → Q (.tup [.ints p, .ints q])
theorem sc_nearest_apart : FnScope ["store", "found", "at", "one", "other", "shared"] ["store"] (defScope f_nearest_apart) := ⟨rfl, rfl, rfl, by decide +kernel, rfl, by decide +kernel, by decide +kernel⟩
theorem c_nearest_apart (ft : Fts mg) (c_same_keys : Cl P w K mg base 2 "same_keys" 2 s_same_keys) (c_together : Cl P w K mg base 11 "together" 3 (s_together K w C T)) (d : DF K mg "nearest_apart" f_nearest_apart) : Cl P w K mg base 12 "nearest_apart" 1 (s_nearest_apart K w C T) :=
  cl_of (k := 11) d sc_nearest_apart rfl (fun _ _ _ _ _ _ us hl => match us, hl with | [_], _ => rfl) (fun W ds K h => by obtain ⟨_, _, _, e, _⟩ := h; rw [e]; rfl) (fun a W cdv A outer s H E hr =>
  have nd := sc_nearest_apart.nd
  (ssd_cons (sd_set (i := 1) nd rfl (Or.inl rfl) pr_non) (ssd_cons (sd_for PassesOwn.never rfl (id_ee rfl ft.m_enumerate (pad_cons (pr_at (K := K) rfl (pd_var (pv 0))) pad_nil)) (gd_tup (is := [2, 3]) rfl (pgs_cons (pg_name (i := 2) nd rfl (Or.inl rfl)) (pgs_cons (pg_name (i := 3) nd rfl (Or.inl rfl)) pgs_nil))) (ssd_one (sd_for PassesOwn.never rfl (id_ss (pr_slA (PRd.e (pr_at (K := K) rfl (pd_var (pv 0)))) (pod_some (PRd.e (pr_add (pd_var (pv 2)) (PRd.e pr_int)))) pod_none)) (gd_name (i := 4) nd rfl (Or.inl rfl)) (ssd_cons (sd_set (i := 5) nd rfl (Or.inl rfl) (pr_len rfl ft.m_len (PRd.e (pr_call c_same_keys (hr.mono (by decide)) rfl (pad_cons (pr_var (pv 3)) (pad_cons (pr_var (pv 4)) pad_nil)))))) (ssd_one (sd_if (PWd.t (pwd_and (PWd.t (pwd_or (pt_isN (pd_var (pv 1))) (pwd_or1 (pt_gt (pd_var (pv 5)) (PRd.e (pr_item (pd_var (pv 1)) (PRd.e pr_int))))))) (pwd_and1 (ptd_not (pt_v (PRd.e (pr_call c_together (hr.mono (by decide)) rfl (pad_cons (pr_var (pv 0)) (pad_cons (pr_var (pv 3)) (pad_cons (pr_var (pv 4)) pad_nil)))))))))) (ssd_one (sd_set (i := 1) nd rfl (Or.inl rfl) (pr_tup (pad_cons (pr_var (pv 5)) (pad_cons (pr_var (pv 3)) (pad_cons (pr_var (pv 4)) pad_nil)))))) ssd_nil)))))) (ssd_one (sd_ret (pr_slA (pd_var (pv 1)) (pod_some (PRd.e pr_int)) pod_none))))))
   (fun W ds Q0 h => by
    obtain ⟨a, S, sizes, rfl, hA, hnj, z⟩ := h
    have few := hA.ok.ok.few
    have hf := hA.ok.few
    have snd := hA.ok.nd
    simp only [sRet, dCB, vCons, vNil, d2, sSeq, sSet]
    refine ⟨_, rfl, nofun, a, _, rfl, hA.st.st, _, rfl, _, _, rfl, rfl, fun i ρ => ∃ (o : Option (Row × Row)) (x2 x3 x4 x5 : Sd), ρ = [.d (.ref a), .d (bestD o), x2, x3, x4, x5] ∧ Best S i 0 o, ⟨none, _, _, _, _, rfl, fun _ p ⟨a, b, _, _, _, g, _⟩ => by omega, fun p e => (by cases e)⟩, ?_, ?_⟩
    · rintro i x ρ hx ⟨o, x2, x3, x4, x5, rfl, B⟩
      obtain ⟨one, ho, rfl⟩ := enum_at hx
      have hi := (List.getElem?_eq_some_iff.mp ho).1
      have hoS := List.mem_of_getElem? ho
      refine ⟨_, rfl, rfl, ?_⟩
      have e0 : cutG (rowsD S) (some (((i : Nat) : Int) + 1)) none = rowsD (S.drop (i + 1)) := by
        rw [show ((i : Nat) : Int) + 1 = ((i + 1 : Nat) : Int) by omega, cutG_drop _ _ (by rw [rowsD_len]; omega)]
        unfold rowsD
        rw [List.map_drop]
      have B0 : Best S i (i + 1) o := by
        have e : ∀ p, apB S i (i + 1) p ↔ apB S i 0 p := fun p => by
          constructor
          · rintro ⟨a, b, g0, g1, g2, g3, g4⟩; exact ⟨a, b, g0, g1, g2, by omega, g4⟩
          · rintro ⟨a, b, g0, g1, g2, g3, g4⟩; exact ⟨a, b, g0, g1, g2, by omega, g4⟩
        exact ⟨fun h p hp => B.no h p ((e p).mp hp), fun p h => ⟨(B.yes p h).1, (B.yes p h).2.1, (B.yes p h).2.2.1, fun q hq => (B.yes p h).2.2.2 q ((e q).mp hq)⟩⟩
      refine ⟨_, rfl, nofun, a, _, rfl, hA.st.st, _, rfl, nofun, _, _, rfl, rfl, _, rfl, .inr ⟨_, rfl, .tup (rowsD (S.drop (i + 1))), rowsD (S.drop (i + 1)), congrArg (fun zs => some (D.tup zs)) e0, rfl, ?_⟩⟩
      refine ⟨fun j ρ => ∃ (o : Option (Row × Row)) (x4 x5 : Sd), ρ = [.d (.ref a), .d (bestD o), .d (.int (i : Nat)), .d (.ints one), x4, x5] ∧ Best S i (i + 1 + j) o, ⟨o, _, _, rfl, B0⟩, ?_, ?_⟩
      · rintro j x ρ hx ⟨o, x4, x5, rfl, B⟩
        obtain ⟨other, ho2', rfl⟩ := rows_at hx
        have ho2 : S[i + 1 + j]? = some other := by rw [List.getElem?_drop] at ho2'; exact ho2'
        have hoS2 := List.mem_of_getElem? ho2
        have sl := (hA.ok.row one hoS).1
        have sl2 := (hA.ok.row other hoS2).1
        refine ⟨_, rfl, _, rfl, _, rfl, _, rfl, one, other, rfl, by omega, by omega, .d (.ints (natsI (sameN one other))), (natsI (sameN one other)).map .int, rfl, rfl, ?_⟩
        have eL : ((natsI (sameN one other)).map D.int).length = (sameN one other).length := by simp [natsI]
        rw [eL]
        -- the second test
        have tst : ∀ KK : DE, (∀ ρ', (∃ (o : Option (Row × Row)) (x4 x5 : Sd), ρ' = [.d (.ref a), .d (bestD o), .d (.int (i : Nat)), .d (.ints one), x4, x5] ∧ Best S i (i + 1 + (j + 1)) o) → KK.nx ρ') → (∀ p, o = some p → (sameN p.1 p.2).length ≤ (sameN one other).length) →
            dNot (dTB (dCall W (s_together K w C T) (dCons (dVar 0) (dCons (dVar 3) (dCons (dVar 4) dNil))))) [.d (.ref a), .d (bestD o), .d (.int (i : Nat)), .d (.ints one), .d (.ints other), .d (.int ((sameN one other).length : Nat))] fun b => (b = true → sSet 1 (dTup (dCons (dVar 5) (dCons (dVar 3) (dCons (dVar 4) dNil)))) KK [.d (.ref a), .d (bestD o), .d (.int (i : Nat)), .d (.ints one), .d (.ints other), .d (.int ((sameN one other).length : Nat))]) ∧ (b = false → sNext KK [.d (.ref a), .d (bestD o), .d (.int (i : Nat)), .d (.ints one), .d (.ints other), .d (.int ((sameN one other).length : Nat))]) := by
          intro KK hKK hle
          refine ⟨_, rfl, _, rfl, _, rfl, _, rfl, _, rfl, _, rfl, a, S, sizes, one, other, rfl, hA, hoS, hoS2, fun b hb => ⟨b, rfl, fun g => ?_, fun g => ?_⟩⟩
          · have e : b = false := by simpa using g
            refine ⟨_, rfl, _, rfl, _, rfl, _, rfl, _, rfl, _, rfl, by simp, hKK _ ⟨some (one, other), _, _, rfl, B.take snd ho ho2 (by omega) (fun h => by rw [hb.mpr h] at e; cases e) hle⟩⟩
          · have e : b = true := by simpa using g
            exact hKK _ ⟨o, _, _, rfl, B.skip snd ho ho2 (by omega) (.inl (hb.mp e))⟩
        have nin : ∀ KK : DE, (∀ ρ', (∃ (o : Option (Row × Row)) (x4 x5 : Sd), ρ' = [.d (.ref a), .d (bestD o), .d (.int (i : Nat)), .d (.ints one), x4, x5] ∧ Best S i (i + 1 + (j + 1)) o) → KK.nx ρ') → sIf (dAnd (dOr (dTB (dIsN (dVarE 1))) (dT2 gGt (dVarE 5) (d2 gIx (dVarE 1) (dC (.int 0))))) (dNot (dTB (dCall W (s_together K w C T) (dCons (dVar 0) (dCons (dVar 3) (dCons (dVar 4) dNil))))))) (sSet 1 (dTup (dCons (dVar 5) (dCons (dVar 3) (dCons (dVar 4) dNil))))) sNext KK
            [.d (.ref a), .d (bestD o), .d (.int (i : Nat)), .d (.ints one), .d (.ints other), .d (.int ((sameN one other).length : Nat))] := by
          intro KK hKK
          cases o with
          | none => exact ⟨_, rfl, nofun, nofun, true, rfl, fun _ => ⟨fun _ => tst KK hKK (fun p e => (by cases e)), nofun⟩, nofun⟩
          | some p =>
            refine ⟨_, rfl, nofun, nofun, false, rfl, nofun, fun _ => ⟨_, rfl, nofun, _, rfl, nofun, _, 0, _, rfl, rfl, rfl, _, _, rfl, rfl, _, rfl, fun hb => ?_, fun hb => ?_⟩⟩
            · have hlt : (sameN p.1 p.2).length < (sameN one other).length := by
                have := of_decide_eq_true hb
                omega
              exact tst KK hKK (fun q e => by cases e; omega)
            · have hle : (sameN one other).length ≤ (sameN p.1 p.2).length := by
                have := of_decide_eq_false hb
                omega
              exact ⟨nofun, fun _ => hKK _ ⟨some p, _, _, rfl, B.skip snd ho ho2 (by omega) (.inr ⟨p, rfl, hle⟩)⟩⟩
        refine nin _ ?_
        intro ρ' h
        exact h
      · rintro ρ ⟨o, x4, x5, rfl, B⟩
        rw [rowsD_len, List.length_drop] at B
        refine ⟨o, _, _, _, _, rfl, ?_⟩
        have e : ∀ p, apB S (i + 1) 0 p ↔ apB S i (i + 1 + (S.length - (i + 1))) p := fun p => by
          constructor
          · rintro ⟨a, b, g0, g1, g2, g3, g4⟩
            have := (List.getElem?_eq_some_iff.mp g2).1
            exact ⟨a, b, g0, g1, g2, by omega, g4⟩
          · rintro ⟨a, b, g0, g1, g2, g3, g4⟩; exact ⟨a, b, g0, g1, g2, by omega, g4⟩
        exact ⟨fun h p hp => B.no h p ((e p).mp hp), fun p h => ⟨(B.yes p h).1, (B.yes p h).2.1, (B.yes p h).2.2.1, fun q hq => (B.yes p h).2.2.2 q ((e q).mp hq)⟩⟩
    · rintro ρ ⟨o, x2, x3, x4, x5, rfl, B⟩
      have e0 : (enumD (rowsD S)).length = S.length := by rw [enumD_len, rowsD_len]
      rw [e0] at B
      have hdd : ∀ s ∈ S, s.length = sizes.length := fun s hs => (hA.ok.row s hs).1
      -- each pair without a chain, either way
      have hall : ∀ s ∈ S, ∀ t ∈ S, ¬ joinedP S s t → ∃ q, apB S S.length 0 q ∧ (diffN q.1 q.2).length = (diffN s t).length := fun s hs t ht hn => by
        obtain ⟨i, hi⟩ := List.getElem?_of_mem hs
        obtain ⟨j, hj⟩ := List.getElem?_of_mem ht
        have li := (List.getElem?_eq_some_iff.mp hi).1
        have lj := (List.getElem?_eq_some_iff.mp hj).1
        rcases Nat.lt_trichotomy i j with h | h | h
        · exact ⟨(s, t), ⟨i, j, h, hi, hj, .inl li, hn⟩, rfl⟩
        · subst h
          rw [hi] at hj
          cases hj
          exact absurd Rch.refl hn
        · exact ⟨(t, s), ⟨j, i, h, hj, hi, .inl lj, fun g => hn (joinedP_symm hdd ht hs g)⟩, by rw [diffN_symm ((hdd t ht).trans (hdd s hs).symm)]⟩
      obtain ⟨p, rfl⟩ : ∃ p, o = some p := by
        cases o with
        | some p => exact ⟨p, rfl⟩
        | none =>
          exfalso
          refine hnj fun s hs t ht => ?_
          by_cases h : joinedP S s t
          · exact h
          · obtain ⟨q, hq, _⟩ := hall s hs t ht h
            exact absurd hq (B.no rfl q)
      obtain ⟨b1, b2, b3, b4⟩ := B.yes p rfl
      refine ⟨_, rfl, nofun, _, rfl, .inr ⟨_, rfl, _, rfl, ?_⟩⟩
      refine z p.1 p.2 b1 b2 b3 fun s hs t ht hn => ?_
      obtain ⟨q, hq, e⟩ := hall s hs t ht hn
      have h1 := b4 q hq
      have h2 := same_diff_len q.1 q.2
      have h3 := same_diff_len p.1 p.2
      obtain ⟨i, j, _, g1, g2, _⟩ := hq
      have l1 := hdd q.1 (List.mem_of_getElem? g1)
      have l2 := hdd p.1 b1
      omega)
end
end DL
/-! Two dicts of lists, made by a comprehension and changed by a loop's name. -/
namespace DL
open PySem PySem.Spec L2
/-! ### a slot without a name -/
theorem inv_virt {X : Cx} {pins : List (Addr × Obj)} {σ : L2.St} {H : Hp} {s : Shared} {i : Nat} {x : Str} (I : L2.Inv X pins σ H s) (hi : X.N[i]? = some x) (hv : ¬ Vis X.env.scope x) (o : V) : L2.Inv X pins (σ.set i (some o)) H s :=
  ⟨I.ok, I.os, I.bare, I.base, by
    obtain ⟨m, h1, h2⟩ := I.loc
    refine ⟨m, h1, fun j y v e1 e2 e3 => ?_⟩
    by_cases z : i = j
    · subst z
      rw [hi] at e1
      cases e1
      exact absurd e3 hv
    · rw [List.getElem?_set_ne z] at e2
      exact h2 j y v e1 e2 e3, I.cell, I.free, I.freeC, I.pin, I.hok, by rw [List.length_set]; exact I.len⟩
def tVirt (i : Nat) (t : TS) : TS := fun D σ H => t { D with nx := fun σ' H' => ∃ o : V, D.nx (σ'.set i (some o)) H' } σ H
theorem ps_virt {X : Cx} {st : Stmt} {t : TS} {i : Nat} {x : Str} (h : PS X st t) (hi : X.N[i]? = some x) (hv : ¬ Vis X.env.scope x) : PS X st (tVirt i t) := ⟨fun pins s σ H D I hw => by
  refine thn (h.run pins s σ H _ I hw) fun fl s' hs => ?_
  cases fl with
  | next =>
    obtain ⟨σ', H', J, o, q⟩ := hs
    exact ⟨_, H', inv_virt J hi hv o, q⟩
  | ret u => exact hs
  | brk => exact hs
  | cont => exact hs⟩
/-! ### rooms = [{} for x in xs] -/
def sRooms (n v1 v2 : Nat) (pi : RI) : RS := fun K ρ => pi ρ fun xs => xs.length = 2 ∧ ∀ d1 d2 : Addr, K.nx (((ρ.set n (.d (.lst [.ref d1, .ref d2]))).set v1 (.oa d1 [])).set v2 (.oa d2 []))
theorem sd_rooms {W : Amb} {X : Cx} {n i v1 v2 : Nat} {x y z1 z2 : Str} {tg iter : Expr} {scope : Scope} {py pd pos spos : Pos} {pi : RI} (hc : X.calm = true) (hN : X.N.Nodup) (hy : X.N[n]? = some y) (hyl : X.env.scope.names.lookup y = some .local)
    (hsw : swapsWith (.ListComp (.Dict [] [] pd) [⟨tg, iter, [], 0⟩] scope pos) (some (.Name y py)) spos.line X.env = pure true) (hi : PId W X tg iter pi) (ok : BlkOk X.N X.env.scope scope [(x, i)])
    (hg : ∀ (s : Shared) (H : Hp) (C : Addr) (cl : List (Str × Addr)) (fp : List Addr), PG (X.blk s H scope (compEnvC scope cl C X.env) fp) tg (gName i)) (h1 : X.N[v1]? = some z1) (n1 : ¬ Vis X.env.scope z1) (h2 : X.N[v2]? = some z2) (n2 : ¬ Vis X.env.scope z2)
    (hs : ∀ x, foldedSetIterable iter X.env x = pure x := by intro _; rfl) :
    PSd W X (.Assign [.Name y py] (.ListComp (.Dict [] [] pd) [⟨tg, iter, [], 0⟩] scope pos) spos) (sRooms n v1 v2 pi) := ⟨fun F0 B => (ps_virt (ps_virt (ps_setLc hc hN hy hyl hsw (hi.run F0 B) ok hg (fun s H C cl fp => pts_nil) (fun s H C cl fp => pe_dnewT) hs) h1 n1) h2 n2).imp fun T σ H ⟨F, ρ, K, E, q, k⟩ => by
  refine ⟨F, ρ, _, E, q, fun xs J F1 H1 ⟨hlen, hk⟩ st wd Dl hD => ?_⟩
  obtain ⟨⟨G, Y, wk, hG, hY⟩⟩ := wd
  have E1 := E.step st
  have nA : ¬ W.A Dl := E1.ok.alive hD
  have st0 : Step W F1 H1 F1 (upd H1 Dl (.lst [])) := Step.own E1.ok hD
  refine lc_it (te := tDNewT) (tt := tYes) (g := gName i) wk (fun i H => ∃ (F2 : Hp) (ps : List Addr), Step W F1 H1 F2 H ∧ ps.length = i ∧ ps.Nodup ∧ (∀ p ∈ ps, p ≠ Dl ∧ H1 p = none ∧ F2 p = none ∧ H p = some (.dT [])) ∧ H Dl = some (.lst (ps.map V.ref)) ∧ F2 Dl = none)
    ⟨F1, [], st0, rfl, List.nodup_nil, nofun, upd_same, E1.ok.fresh hD⟩ (fun i H hi ⟨F2, _, st2, _⟩ => hG F2 H st2.ff st2.ok) (fun j v H2 H3 hj ⟨F2, ps, st2, hl, nd, hp, hDl, nF⟩ hy' => ?_) (fun Hf ⟨F2, ps, st2, hl, nd, hp, hDl, nF⟩ => ?_)
  · obtain ⟨F3, x', hx, ix, st3⟩ := hY j H2 v H3 F2 hj st2.ff st2.ok hy'
    have keep : ∀ {a o}, H1 a = none → F2 a = none → H2 a = some o → H3 a = some o ∧ F3 a = none := fun {a o} g1 g2 g3 => by
      refine ⟨st3.kp _ _ g3 (E1.ok.alive g1), ?_⟩
      cases e : F3 a with
      | none => rfl
      | some u =>
        rcases st3.nw _ _ e with z | z
        · rw [g2] at z; cases z
        · rw [g3] at z; cases z
    refine ⟨wipe1 σ i _, fun p hpn => ?_⟩
    obtain ⟨kD, kF⟩ := keep hD nF hDl
    have st23 := st2.trans E1.ok st3
    have pn1 : H1 p = none := st23.free E1.ok hpn
    have pD : p ≠ Dl := fun e => by rw [e, kD] at hpn; cases hpn
    have st4 : Step W F3 H3 F3 (upd H3 p (.dT [])) := Step.own st23.ok hpn
    refine ⟨ps.map V.ref, by rw [upd_ne (Ne.symm pD)]; exact kD, by rw [List.length_map]; exact big5 (by omega), F3, ps ++ [p], ?_, by simp [hl], ?_, fun a ha => ?_, by rw [upd_same, List.map_append]; rfl, kF⟩
    · have s34 := st23.trans E1.ok st4
      refine ⟨s34.ff, fun a o h na => ?_, s34.nw, ?_⟩
      · rw [upd_ne (show a ≠ Dl from ne_of_none h hD)]
        exact s34.kp a o h na
      · have ok4 := s34.ok
        exact ok4.write kF nA
    · refine List.nodup_append.mpr ⟨nd, by simp, fun a ha b hb e => ?_⟩
      rw [List.mem_singleton.mp hb] at e
      subst e
      have := (keep (hp a ha).2.1 (hp a ha).2.2.1 (hp a ha).2.2.2).1
      rw [hpn] at this
      cases this
    · rcases List.mem_append.mp ha with h | h
      · obtain ⟨g0, g1, g2, g3⟩ := hp a h
        obtain ⟨g4, g5⟩ := keep g1 g2 g3
        refine ⟨g0, g1, g5, ?_⟩
        rw [upd_ne g0, upd_ne (fun e : a = p => by rw [e, hpn] at g4; cases g4)]
        exact g4
      · rw [List.mem_singleton.mp h]
        refine ⟨pD, pn1, st23.ok.fresh hpn, ?_⟩
        rw [upd_ne pD, upd_same]
  · rw [hlen] at hl
    match ps, hl, nd, hp, hDl with
    | [p1, p2], _, nd, hp, hDl =>
    obtain ⟨a0, a1, a2, a3⟩ := hp p1 (by simp)
    obtain ⟨b0, b1, b2, b3⟩ := hp p2 (by simp)
    have stB := st2.frz1 E1.ok hDl hD nF
    have F3e : ∀ {p}, p ≠ Dl → F2 p = none → upd F2 Dl (.lst [V.ref p1, V.ref p2]) p = none := fun {p} h1 h2 => by rw [upd_ne h1]; exact h2
    have stAll := st.trans E.ok stB
    obtain ⟨os, E0⟩ := E.o
    have EO := E0.step stAll
    have out : ∀ {p}, H1 p = none → p ∉ os.flatten := fun {p} h z => E0.sl.alive p z (st.free E.ok h)
    have sb : ∀ {p}, H1 p = none → B p = none ∧ ¬ W.A p := fun {p} h => ⟨(E.free (st.free E.ok h)).1, E1.ok.alive h⟩
    obtain ⟨os1, EA, m1⟩ := EO.put n (v := .ref Dl) (as := []) (s := .d (.lst [.ref p1, .ref p2])) ⟨rfl, .lst' upd_same ⟨.ref p1, .ref p2, trivial⟩⟩ List.nodup_nil nofun nofun
    obtain ⟨os2, EB, m2⟩ := EA.put v1 (v := .ref p1) (as := [p1]) (s := .oa p1 []) ⟨[], [], rfl, rfl, a3, trivial⟩ (by simp) (fun a ha => by rw [List.mem_singleton.mp ha]; exact ⟨F3e a0 a2, sb a1⟩) (fun a ha hf => by
      rw [List.mem_singleton.mp ha] at hf
      rcases m1 _ hf with z | z
      · simp at z
      · exact out a1 z)
    obtain ⟨os3, EC, m3⟩ := EB.put v2 (v := .ref p2) (as := [p2]) (s := .oa p2 []) ⟨[], [], rfl, rfl, b3, trivial⟩ (by simp) (fun a ha => by rw [List.mem_singleton.mp ha]; exact ⟨F3e b0 b2, sb b1⟩) (fun a ha hf => by
      rw [List.mem_singleton.mp ha] at hf
      rcases m2 _ hf with z | z
      · rw [List.mem_singleton] at z
        rw [z] at nd
        simp at nd
      · rcases m1 _ z with z | z
        · simp at z
        · exact out b1 z)
    exact ⟨.ref p1, .ref p2, k.1 _ _ _ _ (hk p1 p2) EC.env⟩⟩
/-! ### d.setdefault(k, []).append(x), d another name's dict -/
def addR (kvs : List (List Int × List D)) (k : List Int) (x : D) : List (List Int × List D) := match dget kvs k with
  | some xs => dput kvs k (xs ++ [x])
  | none => kvs ++ [(k, [x])]
theorem upd_comm {H : Hp} {a b : Addr} {x y : HO} (h : a ≠ b) : upd (upd H a x) b y = upd (upd H b y) a x := by
  funext c
  by_cases h1 : c = a
  · subst h1
    rw [upd_ne h, upd_same, upd_same]
  · by_cases h2 : c = b
    · subst h2
      rw [upd_same, upd_ne h1, upd_same]
    · rw [upd_ne h2, upd_ne h1, upd_ne h1, upd_ne h2]
theorem upd_twice {H : Hp} {a : Addr} {x y : HO} : upd (upd H a x) a y = upd H a y := by
  funext c
  by_cases h : c = a
  · subst h
    rw [upd_same, upd_same]
  · rw [upd_ne h, upd_ne h, upd_ne h]
def sRoomApp (i j : Nat) (pk : RE) : RS := fun K ρ => ∃ v d kvs x, ρ[i]? = some (.d (.ref d)) ∧ ρ[v]? = some (.oa d kvs) ∧ ρ[j]? = some (.d x) ∧ (kvs.map (·.1)).Nodup ∧ kvs.length < 100000 ∧ (∀ k xs, dget kvs k = some xs → xs.length < 100000) ∧ pk ρ fun sk => ∃ k, sk = .d (.ints k) ∧ K.nx (ρ.set v (.oa d (addR kvs k x)))
section
variable {W : Amb} {X : Cx} {e : Expr} {pk : RE} {pos p p1 p2 apos cpos apos2 cpos2 : Pos} {i j m : Nat} {x y : Str}
theorem sd_roomApp (hr : Room m X.A) (h : PE X (.Name x p) (tVar i)) (hk : PEd W X e pk) (hx : PE X (.Name y p2) (tVar j)) (mm : M2 X (.Name x p) "setdefault" apos e (.List [] p1) cpos)
    (hbase : attributeBase (.Call (.Attribute (.Name x p) "setdefault" apos) [e, .List [] p1] [] cpos) "append" X.env (eval (.Call (.Attribute (.Name x p) "setdefault" apos) [e, .List [] p1] [] cpos) X.env) = eval (.Call (.Attribute (.Name x p) "setdefault" apos) [e, .List [] p1] [] cpos) X.env := by rfl)
    (hfew : ((backTo cpos2 (starEach [.Name y p2] X.env)).all (fun x => !x.1) && (backToKw cpos2 (keywordEach [] X.env)).all (fun x => x.1.isSome) && decide ([(.Name y p2 : Expr)].length + ([] : List Keyword).length + (if ([] : List Keyword).isEmpty then 0 else 1) < 30)) = true := by rfl)
    (hline : (apos2.endLine == cpos2.line) = true := by rfl) (hs : starEach [.Name y p2] X.env = (false, eval (.Name y p2) X.env) :: starEach [] X.env := by rfl)
    (hsw : swapsWith (.Call (.Attribute (.Call (.Attribute (.Name x p) "setdefault" apos) [e, .List [] p1] [] cpos) "append" apos2) [.Name y p2] [] cpos2) none pos.line X.env = pure false := by rfl) :
    PSd W X (.Expr (.Call (.Attribute (.Call (.Attribute (.Name x p) "setdefault" apos) [e, .List [] p1] [] cpos) "append" apos2) [.Name y p2] [] cpos2) pos) (sRoomApp i j pk) :=
  ⟨fun F0 B => (ps_expr (pe_bm PySem.F.plainAttrs_list PySem.F.slot_list_append PySem.F.type_list_append (mt_append : MtR X "list.append" rAppend) (pe_dsetdT (hu_of hr) h (hk.run F0 B) (pe_lst pa_nil) mm) (pa_cons hx pa_nil hs) hbase hfew hline hs) hsw).imp fun T σ H ⟨F, ρ, K, E, ⟨v, d, kvs, x, r1, r2, r3, nk, hz, hzs, z⟩, k⟩ => by
  obtain ⟨vd, as0, g1, ⟨_, g1'⟩, _⟩ := E.get r1 (by intro z; cases z)
  have := g1'.ref_inv
  subst this
  obtain ⟨vv, asv, gv, ⟨psv, lsv, ev, _, gH, _⟩, _⟩ := E.get r2 (by intro z; cases z)
  subst ev
  refine ⟨_, g1, d, rfl, .inr ⟨psv, .inl gH⟩, F, ρ, _, E, z, fun sk w as1 F1 H1 ⟨k', e1, z1⟩ st sv n1 => ?_⟩
  subst e1
  have E1 := E.step st
  obtain ⟨vx, asx, gx, ⟨_, ixx⟩, _⟩ := E1.get r3 (by intro z; cases z)
  obtain ⟨os, EO⟩ := E1.o
  obtain ⟨o, as2, q1, q2, q3⟩ := EO.sl.get r2
  rw [gv] at q1
  cases q1
  obtain ⟨v', eo, ps, ls, ev, eas, hd, hoo⟩ := q3
  cases eo
  subst eas
  refine ⟨Nat.zero_le _, fun a na => ?_⟩
  have nd : d ≠ a := ne_of_none hd na
  obtain ⟨b, rfl, hb⟩ := sv.2.key
  have hbH := E1.ok.fh _ _ hb
  have nb : b ≠ a := ne_of_none hbH na
  have nd1 : (d :: ls).Nodup := (List.pairwise_flatten.mp EO.nd).1 _ (List.mem_of_getElem? q2)
  have hlen : ps.length = kvs.length := hoo.len
  have nos : a ∉ os.flatten := fun hf => EO.sl.alive a hf na
  have mem : ∀ c ∈ d :: ls, c ∈ os.flatten := fun c hc => List.mem_flatten.mpr ⟨_, List.mem_of_getElem? q2, hc⟩
  have frA := E1.free na
  refine ⟨ps, kT k', b, by rw [upd_ne nd]; exact hd, rfl, by rw [upd_ne nb]; exact hbH, big5 (by omega), fun u hu => ?_, fun hn => ?_⟩
  · -- the key is there
    rcases hoo.val k' with y | ⟨l, ys, xs, y1, y2, y3, y4, y5⟩
    · rw [hu] at y; cases y.1
    rw [hu] at y1
    cases y1
    have nl : l ≠ a := fun e => nos (e ▸ mem l (by simp [y3]))
    have s2 : Step W F1 H1 F1 (upd H1 a (.lst [])) := Step.own E1.ok na
    have EO2 := EO.step s2
    have hl := y5.length
    have hxs := hzs k' xs y2
    refine ⟨.inl ⟨rfl, ys, SqL.of (by rw [upd_ne nl]; exact y4)⟩, vx, gx, l, ys, vx, rfl, rfl, by rw [upd_ne nl]; exact y4, big5 (by omega), ?_⟩
    have key : addR kvs k' x = dput kvs k' (xs ++ [x]) := by unfold addR; rw [y2]
    rw [key] at z1
    refine k.1 _ σ F1 _ z1 (EnvO.env (EO2.repl (as' := d :: ls) q2 gv (l := l) (by simp [y3]) nd1 (fun c hc => .inl hc) ⟨ps, ls, rfl, rfl, ?_, ?_⟩))
    · rw [upd_ne fun z : d = l => by rw [List.nodup_cons] at nd1; exact nd1.1 (z ▸ y3), upd_ne nd]
      exact hd
    · rw [List.nodup_cons] at nd1
      have h4 : IsOO F1 (upd H1 a (.lst [])) ps kvs ls := hoo.mono (Same.refl _) fun c hc => upd_ne fun z : c = a => nos (z ▸ mem c (by simp [hc]))
      exact IsOO.wr (y5.snoc ixx) h4 nd1.2 nk hu
  · -- the key is new
    rcases hoo.val k' with y | ⟨l, ys, xs, y1, _⟩
    case inr => rw [hn] at y1; cases y1
    have key : addR kvs k' x = kvs ++ [(k', [x])] := by unfold addR; rw [y.2]
    rw [key] at z1
    have hA : upd (upd H1 a (.lst [])) d (.dT (putK ps (kT k') (.ref a))) a = some (.lst []) := by rw [upd_ne (Ne.symm nd), upd_same]
    refine ⟨.inl ⟨rfl, [], SqL.of hA⟩, vx, gx, a, [], vx, rfl, rfl, hA, by decide, ?_⟩
    rw [upd_comm nd, upd_twice, putK_none hn]
    have s2 : Step W F1 H1 F1 (upd H1 a (.lst ([] ++ [vx]))) := Step.own E1.ok na
    have EO2 := EO.step s2
    refine k.1 _ σ F1 _ z1 (EnvO.env (EO2.repl (as' := d :: (ls ++ [a])) q2 gv (l := d) (by simp) ?_ (fun c hc => ?_) ⟨_, ls ++ [a], rfl, rfl, upd_same, ?_⟩))
    · rw [List.nodup_cons] at nd1 ⊢
      have aout : a ∉ ls := fun z => nos (mem a (by simp [z]))
      refine ⟨fun hc => ?_, List.nodup_append.mpr ⟨nd1.2, by simp, fun c hc e he z => aout (by simp at he; rw [← he, ← z]; exact hc)⟩⟩
      rcases List.mem_append.mp hc with y | y
      · exact nd1.1 y
      · simp at y; exact nd y
    · rcases List.mem_cons.mp hc with y | y
      · exact .inl (by simp [y])
      · rcases List.mem_append.mp y with y | y
        · exact .inl (by simp [y])
        · simp at y
          subst y
          exact .inr ⟨frA.2.1, frA.1, frA.2.2, nos⟩
    · have h4 : IsOO F1 (upd (upd H1 a (.lst ([] ++ [vx]))) d (.dT (ps ++ [(kT k', V.ref a)]))) ps kvs ls := hoo.mono (Same.refl _) fun c hc => by
        rw [upd_ne (fun z : c = d => by rw [List.nodup_cons] at nd1; exact nd1.1 (z ▸ hc)), upd_ne (fun z : c = a => nos (z ▸ mem c (by simp [hc])))]
      exact IsOO.snoc (zs := [x]) (ws := [vx]) (by rw [upd_ne (Ne.symm nd), upd_same]; rfl) (show IsL F1 [vx] [x] from ⟨ixx, trivial⟩) h4⟩
end
/-! ### the rooms frozen -/
def frzK (kvs : List (List Int × List D)) : List (List Int × D) := kvs.map fun kv => (kv.1, .lst kv.2)
theorem env_fzA {S : Bs} {F H : Hp} {σ : L2.St} {ρ : List Sd} (E : Env S F H σ ρ) {i : Nat} {d : Addr} {kvs : List (List Int × List D)} (e : ρ[i]? = some (.oa d kvs)) : ∃ F', Same F F' ∧ Env S F' H σ (ρ.set i (.d (.dct (frzK kvs)))) := by
  have hs : (Sd.oa d kvs) ≠ .any := by intro z; cases z
  obtain ⟨v, as, h1, h2, h3⟩ := E.get e hs
  have ok := E.ok.freezeL (as := as) fun a ha => ⟨(h3 a ha).1, (h3 a ha).2.2⟩
  refine ⟨updL F H as, ok.2, E.mut e hs _ H ok.2 (fun a o q => ?_) fun v' as' g1 g2 g3 g4 => ?_⟩
  · by_cases z : a ∈ as
    · exact .inr (h3 a z).2.1
    · rw [updL_out z] at q; exact .inl q
  · rw [h1] at g1
    cases g1
    have key : as' = as := by
      obtain ⟨ps, ls, e1, rfl, q1, q2⟩ := h2
      obtain ⟨ps', ls', e1', rfl, q1', q2'⟩ := g2
      rw [q1] at q1'
      cases q1'
      have aux : ∀ {ps : List (List Key × V)} {qs : List (List Int × List D)} {ls ls' : List Addr}, IsOO F H ps qs ls → IsOO F H ps qs ls' → ls = ls' := by
        intro ps
        induction ps with
        | nil =>
          intro qs ls ls' a b
          cases qs <;> cases ls <;> cases ls' <;> first | rfl | exact a.elim | exact b.elim
        | cons p ps ih =>
          intro qs ls ls' a b
          cases qs <;> cases ls <;> cases ls' <;> first | exact a.elim | exact b.elim | skip
          have e1 := a.2.1
          have e2 := b.2.1
          rw [e1] at e2
          cases e2
          rw [ih a.2.2.2 b.2.2.2]
      rw [aux q2 q2']
    subst key
    refine ⟨[], List.nodup_nil, nofun, fun a ha _ => ⟨rfl, updL_out ha⟩, nofun, ok.1, ?_⟩
    obtain ⟨ps, ls, e1, rfl, q1, q2⟩ := h2
    subst e1
    exact ⟨rfl, .dct' (by rw [updL_in (by simp)]; exact q1) (isT_oo q2 ok.2 fun a ha => updL_in (by simp [ha]))⟩
def sView (n v1 v2 : Nat) (p : RS) : RS := fun K ρ => ∃ d1 d2 k1 k2, v1 ≠ v2 ∧ n ≠ v1 ∧ n ≠ v2 ∧ ρ[n]? = some (.d (.lst [.ref d1, .ref d2])) ∧ ρ[v1]? = some (.oa d1 k1) ∧ ρ[v2]? = some (.oa d2 k2) ∧ p K (((ρ.set v1 (.d (.dct (frzK k1)))).set v2 (.d (.dct (frzK k2)))).set n (.d (.lst [.dct (frzK k1), .dct (frzK k2)])))
theorem ssd_view {W : Amb} {X : Cx} {sts : List Stmt} {p : RS} (n v1 v2 : Nat) (h : PSsd W X sts p) : PSsd W X sts (sView n v1 v2 p) := ⟨fun F0 B => (h.run F0 B).imp fun T σ H ⟨F, ρ, K, E, ⟨d1, d2, k1, k2, n12, nn1, nn2, e0, e1, e2, q⟩, k⟩ => by
  obtain ⟨u0, _, g0, ⟨_, i0⟩, _⟩ := E.get e0 (by intro z; cases z)
  obtain ⟨u1, _, g1, ⟨_, _, ev1, _⟩, _⟩ := E.get e1 (by intro z; cases z)
  obtain ⟨u2, _, g2, ⟨_, _, ev2, _⟩, _⟩ := E.get e2 (by intro z; cases z)
  subst ev1 ev2
  obtain ⟨F1, ff1, E1⟩ := env_fzA E e1
  obtain ⟨F2, ff2, E2⟩ := env_fzA E1 (i := v2) (d := d2) (kvs := k2) (by rw [List.getElem?_set_ne n12]; exact e2)
  have l1 := (List.getElem?_eq_some_iff.mp e1).1
  have l2 := (List.getElem?_eq_some_iff.mp e2).1
  obtain ⟨w1, _, c1, ⟨_, j1⟩, _⟩ := E2.get (i := v1) (s := .d (.dct (frzK k1))) (by rw [List.getElem?_set_ne (Ne.symm n12), List.getElem?_set_self l1]) (by intro z; cases z)
  obtain ⟨w2, _, c2, ⟨_, j2⟩, _⟩ := E2.get (i := v2) (s := .d (.dct (frzK k2))) (by rw [List.getElem?_set_self (by rw [List.length_set]; exact l2)]) (by intro z; cases z)
  rw [g1] at c1
  cases c1
  rw [g2] at c2
  cases c2
  obtain ⟨r, ys, er, hr, il⟩ := i0.lst_inv
  subst er
  match ys, il with
  | [y1, y2], il =>
  have t1 := Is.ref_inv il.1
  have t2 := Is.ref_inv il.2.1
  subst t1 t2
  have E3 := E2.putD (i := n) (v := .ref r) (x := .lst [.dct (frzK k1), .dct (frzK k2)]) (.lst' ((ff1.trans ff2) _ _ hr) ⟨j1, j2, trivial⟩)
  have hσ : σ.set n (some (.ref r)) = σ := by
    refine List.ext_getElem? fun j => ?_
    by_cases z : n = j
    · subst z; rw [List.getElem?_set_self (List.getElem?_eq_some_iff.mp g0).1, g0]
    · rw [List.getElem?_set_ne z]
  rw [hσ] at E3
  exact ⟨F2, _, K, E3, q, k⟩⟩
end DL
/-! {k: v}, a dict with one tuple key. -/
namespace DL
open PySem PySem.Spec L2
section
variable {X : Cx} {pins : List (Addr × Obj)} {σ : L2.St} {H : Hp} {s : Shared} {a b : Addr} {r : Value} {d : V} {A : Around} {E : Value → Shared → Prop}
/-- d[k] = v, k a tuple, as the machine stores it -/
theorem d_storeT {kvs : List (List Key × V)} {ky : List Key} {Q : Unit → Shared → Prop} (hu : A.units + 1 < cLine) (I : L2.Inv X pins σ H s) (e : H a = some (.dT kvs)) (eb : H b = some (.tup (ky.map kV))) (rd : RelV d r) (hlt : kvs.length < sizeLine)
    (h : ∀ s' : Shared, L2.Inv X pins σ (upd H a (.dT (putK kvs ky d))) s' → Q () s') : wpAny (model X.prog X.w) A (dictSet a (.ref b) r) Q E s := by
  obtain ⟨z, hd, xs, rel, dd⟩ := dt_of I.hok e
  have hz : xs.length ≤ sizeLine := by
    have q := Paired.length rel
    omega
  refine wpAny_dictSet_heap (hsz := hz) (knd := tupleKind (mixKind X.prog X.w)) (show A.units < cLine by omega) (key_of I.hok eb) dd fun h' dd' hs => ?_
  have hl : (putK kvs ky d).length ≤ sizeLine := by
    have q := length_putK kvs ky d
    omega
  obtain ⟨o1, es, ep, hq, h2, h3, h4, _, h5⟩ := dd'
  refine h _ (d_write I (by rw [e]; exact True.intro) hs ⟨o1, hq⟩ ⟨hl, hd, _, (rel.put ky eb rd).keeps fun c ys ec => ?_, o1, es, ep, hq, h2, h3, h4, h5⟩)
  rw [upd_ne (ne_of ec e (fun y => nomatch y))]
  exact ec
end
def tDp (tk tv : TE) : TE := fun σ H Q => ∀ d, H d = none → tk σ (upd H d (.dT [])) fun y H1 => tv σ H1 fun z H2 => ∃ (ky : List Key) (b : Addr), y = .ref b ∧ H2 b = some (.tup (ky.map kV)) ∧ H2 d = some (.dT []) ∧ Q (.ref d) (upd H2 d (.dT [(ky, z)]))
theorem pe_d1 {X : Cx} {kx vx : Expr} {pos : Pos} {tk tv : TE} (hu : X.A.units + 1 < cLine) (hk : PE X kx tk) (hv : PE X vx tv) : PE X (.Dict [some kx] [vx] pos) (tDp tk tv) := by
  refine ⟨fun pins s σ H Q I h => ?_⟩
  refine wpAny_Dict_any rfl rfl (by simp) (by simp) ?_
  have I1 : L2.Inv X pins σ (upd H s.heap.objs.size (.dT [])) { s with heap := s.heap.push { cls := .type "dict", data := .dict #[] } } := I.laid (a := s.heap.objs.size) (o := .dT []) (t' := s.toks) (fun _ _ q => Heap.get?_push_of_some _ q) (Nat.le_refl _) (dt_empty s.heap I.big)
  show wpAny _ _ (evalPairs [(eval kx X.env, do let x ← eval vx X.env; standAt pos; pure x)]) _ _ _
  unfold evalPairs
  refine wpAny_bind (thn (hk.run pins _ σ _ _ I1 (h _ (I.hok.fresh (Nat.le_refl _)))) fun kv s1 ⟨y, H1, I2, r1, q1⟩ => ?_)
  refine wpAny_bind (wpAny_holding (wpAny_bind (thn (hv.run pins s1 σ H1 _ I2 q1) fun vv s2 ⟨z, H2, I3, r2, ky, b, ey, hb, hd, q⟩ => wpAny_bind (wpAny_standAt (wpAny_pure ?_)))))
  unfold evalPairs
  refine wpAny_bind (wpAny_holding (wpAny_pure (wpAny_pure ?_)))
  subst ey
  obtain rfl : kv = Value.ref b := r1
  unfold storeAll
  rw [List.forIn_cons]
  refine wpAny_bind (wpAny_bind (d_storeT hu I3 hd hb r2 (by decide) fun s3 I4 => wpAny_pure ?_))
  show wpAny _ _ (forIn [] _ _) _ _ _
  rw [List.forIn_nil]
  exact wpAny_pure ⟨.ref s.heap.objs.size, _, I4, rfl, q⟩
def dD1 (pk pv : RE) : RE := fun ρ K => pk ρ fun sk => ∃ k, sk = .d (.ints k) ∧ pv ρ fun sv => ∃ x, sv = .d x ∧ K (.ot [(k, x)])
theorem pr_d1 {W : Amb} {X : Cx} {kx vx : Expr} {pos : Pos} {pk pv : RE} {m : Nat} (hr : Room m X.A) (hk : PRd W X kx pk) (hv : PRd W X vx pv) : PRd W X (.Dict [some kx] [vx] pos) (dD1 pk pv) := ⟨fun F0 B => (pe_d1 (hu_of hr) (hk.run F0 B) (hv.run F0 B)).imp fun σ H Q ⟨F, ρ, K, E, q, k⟩ => fun d hd => by
  have s0 : Step W F H F (upd H d (.dT [])) := Step.own E.ok hd
  have nA := E.ok.alive hd
  have nF := E.ok.fresh hd
  refine ⟨F, ρ, _, E.step s0, q, fun sk y as1 F1 H1 ⟨k', e1, q1⟩ st1 sv1 n1 => ?_⟩
  subst e1
  have s01 := s0.trans E.ok st1
  refine ⟨F1, ρ, _, E.step s01, q1, fun sv z as2 F2 H2 ⟨x, e2, q2⟩ st2 sv2 n2 => ?_⟩
  subst e2
  have s02 := s01.trans E.ok st2
  obtain ⟨b, ey, hb⟩ := sv1.2.key
  have hd2 : H2 d = some (.dT []) := st2.kp _ _ (st1.kp _ _ upd_same nA) nA
  have nF2 : F2 d = none := by
    cases e : F2 d with
    | none => rfl
    | some o =>
      rcases st2.nw _ _ e with z | z
      · rcases st1.nw _ _ z with z | z
        · rw [nF] at z; cases z
        · rw [upd_same] at z; cases z
      · rw [st1.kp _ _ upd_same nA] at z; cases z
  refine ⟨kT k', b, ey, st2.ok.fh _ _ (st2.ff _ _ hb), hd2, k (.ot [(k', x)]) _ [d] F2 _ q2 ⟨s02.ff, fun a o h na => ?_, s02.nw, st2.ok.write nF2 nA⟩ ⟨d, _, rfl, rfl, upd_same, ⟨rfl, sv2.2, trivial⟩⟩ ⟨by simp, fun a ha => by rw [List.mem_singleton.mp ha]; exact ⟨hd, nF2⟩⟩⟩
  rw [upd_ne (show a ≠ d from ne_of_none h hd)]
  exact s02.kp a o h na⟩
end DL
namespace DL
open PySem PySem.Spec L2 Tx MX
section
variable {P : Program} {w : World} {K : PySem.W.Frag} {mg : Str → Option Value} {base : Heap} {C T : Addr}
structure RoomOk (S : List Row) (l : List Nat) (i : Nat) (kvs : List (Row × List D)) : Prop where
  nd : (kvs.map (·.1)).Nodup
  len : kvs.length ≤ i
  at' : ∀ k xs, dget kvs k = some xs → ∃ rs : List Row, xs = rowsD rs ∧ rs.length ≤ i ∧ ∀ o, o ∈ rs ↔ ∃ j, j < i ∧ S[j]? = some o ∧ viewK o l = k
  has : ∀ (j : Nat) s, j < i → S[j]? = some s → (dget kvs (viewK s l)).isSome = true
theorem RoomOk.start {S : List Row} {l : List Nat} : RoomOk S l 0 [] := ⟨by simp, by simp, fun k xs e => (by cases e), fun j s h => absurd h (Nat.not_lt_zero _)⟩
theorem RoomOk.step {S : List Row} {l : List Nat} {i : Nat} {kvs : List (Row × List D)} {s : Row} (I : RoomOk S l i kvs) (h : S[i]? = some s) : RoomOk S l (i + 1) (addR kvs (viewK s l) (.ints s)) := by
  have old : ∀ k, k ≠ viewK s l → ∀ o, (∃ j, j < i ∧ S[j]? = some o ∧ viewK o l = k) ↔ ∃ j, j < i + 1 ∧ S[j]? = some o ∧ viewK o l = k := fun k hk o => by
    constructor
    · rintro ⟨j, a, b, c⟩; exact ⟨j, by omega, b, c⟩
    · rintro ⟨j, a, b, c⟩
      by_cases e : j = i
      · subst e
        rw [h] at b
        cases b
        exact absurd c.symm hk
      · exact ⟨j, by omega, b, c⟩
  have new : ∀ o, ((∃ j, j < i ∧ S[j]? = some o ∧ viewK o l = viewK s l) ∨ o = s) ↔ ∃ j, j < i + 1 ∧ S[j]? = some o ∧ viewK o l = viewK s l := fun o => by
    constructor
    · rintro (⟨j, a, b, c⟩ | rfl)
      · exact ⟨j, by omega, b, c⟩
      · exact ⟨i, by omega, h, rfl⟩
    · rintro ⟨j, a, b, c⟩
      by_cases e : j = i
      · subst e
        rw [h] at b
        cases b
        exact .inr rfl
      · exact .inl ⟨j, by omega, b, c⟩
  unfold addR
  cases e : dget kvs (viewK s l) with
  | some xs =>
    obtain ⟨rs, rfl, hl, hm⟩ := I.at' _ xs e
    refine ⟨?_, ?_, fun k ys hk => ?_, fun j t hj ht => ?_⟩
    · dsimp only
      rw [dput_keys _ _ _ (by rw [e]; rfl)]
      exact I.nd
    · have := dput_len kvs (viewK s l) (rowsD rs ++ [D.ints s])
      have := I.len
      dsimp only
      omega
    · rw [dget_dput] at hk
      split at hk
      · rename_i ek
        cases hk
        refine ⟨rs ++ [s], by rw [rowsD_app]; rfl, by simp; omega, fun o => ?_⟩
        rw [ek, ← new o, List.mem_append, hm o]
        simp
      · rename_i ek
        obtain ⟨rs', e1, h1, h2⟩ := I.at' k ys hk
        exact ⟨rs', e1, by omega, fun o => by rw [h2 o]; exact old k ek o⟩
    · rw [dget_dput]
      split
      · rfl
      · rename_i ne
        by_cases e2 : j = i
        · subst e2
          rw [h] at ht
          cases ht
          exact absurd rfl ne
        · exact I.has j t (by omega) ht
  | none =>
    refine ⟨?_, ?_, fun k ys hk => ?_, fun j t hj ht => ?_⟩
    · dsimp only
      rw [List.map_append]
      exact List.nodup_append.mpr ⟨I.nd, by simp, fun a ha b hb z => dget_none_keys.mp e (by simp at hb; rw [← hb, ← z]; exact ha)⟩
    · have := I.len
      simp
      omega
    · rw [dget_app] at hk
      cases e2 : dget kvs k with
      | some zs =>
        rw [e2] at hk
        cases hk
        have ne : k ≠ viewK s l := fun z => by rw [z, e] at e2; cases e2
        obtain ⟨rs', e1, h1, h2⟩ := I.at' k _ e2
        exact ⟨rs', e1, by omega, fun o => by rw [h2 o]; exact old k ne o⟩
      | none =>
        rw [e2] at hk
        have hk : dget [(viewK s l, [D.ints s])] k = some ys := hk
        rw [dget_cons] at hk
        split at hk
        · rename_i ek
          cases hk
          have ek : viewK s l = k := ek
          refine ⟨[s], rfl, by simp, fun o => ?_⟩
          rw [← ek, ← new o, List.mem_singleton]
          constructor
          · exact .inr
          · rintro (⟨j, a, b, c⟩ | q)
            · have := I.has j o a b
              rw [c, e] at this
              cases this
            · exact q
        · cases hk
    · rw [dget_app]
      by_cases e2 : j = i
      · subst e2
        rw [h] at ht
        cases ht
        rw [e]
        show (dget [(viewK s l, [D.ints s])] (viewK s l)).isSome = true
        rw [dget_cons, if_pos rfl]
        rfl
      · obtain ⟨y, hy⟩ := Option.isSome_iff_exists.mp (I.has j t (by omega) ht)
        rw [hy]
        rfl
theorem dget_frz {kvs : List (Row × List D)} {k : Row} {xs : List D} (h : dget kvs k = some xs) : dget (frzK kvs) k = some (.lst xs) := by
  unfold frzK
  rw [dget_mapv, h]
  rfl
def fdB (fv : List (Row × D)) : Row → Bool := fun s => (dget fv s).isSome
theorem fdB_put (fv : List (Row × D)) (o : Row) (x : D) (s : Row) : fdB (dput fv o x) s = true ↔ fdB fv s = true ∨ s = o := by
  unfold fdB
  rw [dget_dput]
  split
  · rename_i e; simp [e]
  · rename_i e; simp [e]
theorem nv1 : ¬ Vis (defScope f_part_of) "_r1" := by unfold Vis; decide +kernel
theorem nv2 : ¬ Vis (defScope f_part_of) "_r2" := by unfold Vis; decide +kernel
def s_part_of (K : PySem.W.Frag) (C : Addr) : DSpec := fun W ds Q => ∃ (a : Addr) (S : List Row) (sizes : List Nat) (start : Row) (l1 l2 : List Nat), ds = [.ref a, .ints start, .tup [lotD l1, lotD l2]] ∧ HasSt K C W a S sizes ∧ StS S sizes ∧ start ∈ S ∧ LotOk sizes.length l1 ∧ LotOk sizes.length l2 ∧
  ∀ fv : List (Row × D), (∀ s, (dget fv s).isSome = true ↔ Rch (stpP S [l1, l2]) start s) → Q (.dct fv)
theorem sc_part_of : FnScope ["store", "start", "plans", "rooms", "lot", "state", "room", "found", "fresh", "other", "_r1", "_r2"] ["store", "start", "plans"] (defScope f_part_of) := ⟨rfl, rfl, rfl, by decide +kernel, rfl, by decide +kernel, by decide +kernel⟩
theorem c_part_of (ft : Fts mg) (c_seen_on : Cl P w K mg base 2 "seen_on" 2 s_seen_on) (d : DF K mg "part_of" f_part_of) : Cl P w K mg base 3 "part_of" 3 (s_part_of K C) :=
  cl_of (k := 2) d sc_part_of rfl (fun _ _ _ _ _ _ us hl => match us, hl with | [_, _, _], _ => rfl) (fun W ds K h => by obtain ⟨_, _, _, _, _, _, e, _⟩ := h; rw [e]; rfl) (fun a W cdv A outer s H E hr =>
  have nd := sc_part_of.nd
  (ssd_cons (sd_rooms (i := 4) (n := 3) (v1 := 10) (v2 := 11) rfl nd rfl rfl (sw_true rfl rfl rfl rfl) (id_ss (pr_var (pv 2))) (bok (own := [("lot", 4)]) rfl) (fun _ _ _ _ _ => pg_name (i := 4) nd rfl (Or.inl rfl)) rfl nv1 rfl nv2) (ssd_fz 3 (ssd_cons (sd_for PassesOwn.never rfl (id_ss (pr_at (K := K) rfl (pd_var (pv 0)))) (gd_name (i := 5) nd rfl (Or.inl rfl)) (ssd_one (sd_for PassesOwn.never rfl (id_zz rfl ft.m_zip (pad_cons (pr_var (pv 2)) (pad_cons (pr_var (pv 3)) pad_nil))) (gd_tup (is := [4, 6]) rfl (pgs_cons (pg_name (i := 4) nd rfl (Or.inl rfl)) (pgs_cons (pg_name (i := 6) nd rfl (Or.inl rfl)) pgs_nil))) (ssd_one (sd_roomApp hr (pv 6) (PRd.e (pr_call c_seen_on (hr.mono (by decide)) rfl (pad_cons (pr_var (pv 5)) (pad_cons (pr_var (pv 4)) pad_nil)))) (pv 5) ⟨rfl, rfl, rfl, rfl⟩))))) (ssd_view 3 10 11 (ssd_cons (sd_par (i := 7) (j := 8) rfl nd rfl rfl (by decide) rfl rfl (pqd_cons (pr_d1 hr (pr_var (pv 1)) pr_bl) (pqd_cons (pr_lst (pad_cons (pr_var (pv 1)) pad_nil)) pqd_nil)) rfl) (ssd_cons (sd_while PassesOwn.never (pt_gt (PRd.e (pr_len rfl ft.m_len (pd_var (pv 8)))) (PRd.e pr_int)) (ssd_cons (sd_setX (n := 5) nd rfl (Or.inl rfl) (px_pop (pv 8))) (ssd_one (sd_for PassesOwn.never rfl (id_zz rfl ft.m_zip (pad_cons (pr_var (pv 2)) (pad_cons (pr_var (pv 3)) pad_nil))) (gd_tup (is := [4, 6]) rfl (pgs_cons (pg_name (i := 4) nd rfl (Or.inl rfl)) (pgs_cons (pg_name (i := 6) nd rfl (Or.inl rfl)) pgs_nil))) (ssd_one (sd_for PassesOwn.never rfl (id_ss (pr_dget hr (pd_var (pv 6)) (PRd.e (pr_call c_seen_on (hr.mono (by decide)) rfl (pad_cons (pr_var (pv 5)) (pad_cons (pr_var (pv 4)) pad_nil)))))) (gd_name (i := 9) nd rfl (Or.inl rfl)) (ssd_one (sd_if (pt_dni hr (pd_var (pv 9)) (pd_var (pv 7))) (ssd_cons (sd_putT hr (pv 7) (pd_var (pv 9)) pr_bl) (ssd_one (sd_app (pv 8) (px_of (pr_var (pv 9)))))) ssd_nil)))))))) (ssd_fz 7 (ssd_one (sd_ret (pr_var (pv 7))))))))))))
   (fun W ds K h => by
    obtain ⟨a, S, sizes, start, l1, l2, rfl, hS, hs, hst, o1, o2, z⟩ := h
    have few := hs.ok.few
    have hf := hs.few
    have ll1 := lot_len o1
    have ll2 := lot_len o2
    have hdd : ∀ s ∈ S, s.length = sizes.length := fun s h => (hs.row s h).1
    refine ⟨_, rfl, _, _, rfl, rfl, rfl, fun d1 d2 => ?_⟩
    refine ⟨_, rfl, nofun, a, _, rfl, hS.st, _, _, rfl, rfl, fun i ρ => ∃ (kA kB : List (Row × List D)) (x4 x5 x6 x7 x8 x9 : Sd), ρ = [.d (.ref a), .d (.ints start), .d (.tup [lotD l1, lotD l2]), .d (.lst [.ref d1, .ref d2]), x4, x5, x6, x7, x8, x9, .oa d1 kA, .oa d2 kB] ∧ RoomOk S l1 i kA ∧ RoomOk S l2 i kB,
      ⟨[], [], _, _, _, _, _, _, rfl, .start, .start⟩, ?_, ?_⟩
    · rintro i x ρ hx ⟨kA, kB, x4, x5, x6, x7, x8, x9, rfl, IA, IB⟩
      obtain ⟨s, hsi, rfl⟩ := rows_at hx
      have hsS := List.mem_of_getElem? hsi
      have hi := (List.getElem?_eq_some_iff.mp hsi).1
      have sl := hdd s hsS
      refine ⟨_, rfl, _, rfl, _, rfl, _, rfl, _, _, _, _, rfl, rfl, rfl, fun j ρ => ∃ (kA kB : List (Row × List D)) (x4 x6 x7 x8 x9 : Sd), ρ = [.d (.ref a), .d (.ints start), .d (.tup [lotD l1, lotD l2]), .d (.lst [.ref d1, .ref d2]), x4, .d (.ints s), x6, x7, x8, x9, .oa d1 kA, .oa d2 kB] ∧ RoomOk S l1 (if 0 < j then i + 1 else i) kA ∧ RoomOk S l2 (if 1 < j then i + 1 else i) kB,
        ⟨kA, kB, _, _, _, _, _, rfl, IA, IB⟩, ?_, ?_⟩
      · rintro j x ρ hx ⟨kA, kB, x4, x6, x7, x8, x9, rfl, IA, IB⟩
        have bnd : ∀ {l : List Nat} {m : Nat} {kv : List (Row × List D)}, m ≤ 25 → RoomOk S l m kv → kv.length < 100000 ∧ ∀ k xs, dget kv k = some xs → xs.length < 100000 := fun {l m kv} hm I => by
          refine ⟨by have := I.len; omega, fun k xs e => ?_⟩
          obtain ⟨rs, rfl, h1, _⟩ := I.at' k xs e
          rw [rowsD_len]
          omega
        match j, hx with
        | 0, hx =>
          cases hx
          have IA : RoomOk S l1 i kA := IA
          obtain ⟨b1, b2⟩ := bnd (by omega) IA
          refine ⟨_, rfl, rfl, ?_⟩
          refine ⟨10, d1, kA, .ints s, rfl, rfl, rfl, IA.nd, b1, b2, _, rfl, _, rfl, _, rfl, _, rfl, s, l1, rfl, fun k hk => by rw [sl]; exact o1.lt k hk, by omega, viewK s l1, rfl, ?_⟩
          exact ⟨_, kB, _, _, _, _, _, rfl, IA.step hsi, IB⟩
        | 1, hx =>
          cases hx
          have IB : RoomOk S l2 i kB := IB
          obtain ⟨b1, b2⟩ := bnd (by omega) IB
          refine ⟨_, rfl, rfl, ?_⟩
          refine ⟨11, d2, kB, .ints s, rfl, rfl, rfl, IB.nd, b1, b2, _, rfl, _, rfl, _, rfl, _, rfl, s, l2, rfl, fun k hk => by rw [sl]; exact o2.lt k hk, by omega, viewK s l2, rfl, ?_⟩
          exact ⟨kA, _, _, _, _, _, _, rfl, IA, IB.step hsi⟩
        | j + 2, hx => cases hx
      · rintro ρ ⟨kA, kB, x4, x6, x7, x8, x9, rfl, IA, IB⟩
        exact ⟨kA, kB, _, _, _, _, _, _, rfl, IA, IB⟩
    · rintro ρ ⟨kA, kB, x4, x5, x6, x7, x8, x9, rfl, IA, IB⟩
      rw [rowsD_len] at IA IB
      refine ⟨d1, d2, kA, kB, by decide, by decide, by decide, rfl, rfl, rfl, ?_⟩
      -- a lot and its room
      have rm : ∀ (j : Nat) x, (zipD [lotD l1, lotD l2] [.dct (frzK kA), .dct (frzK kB)])[j]? = some x → ∃ l kv, [l1, l2][j]? = some l ∧ LotOk sizes.length l ∧ x = .tup [lotD l, .dct (frzK kv)] ∧ RoomOk S l S.length kv := fun j x hx => by
        match j, hx with
        | 0, hx => cases hx; exact ⟨l1, kA, rfl, o1, rfl, IA⟩
        | 1, hx => cases hx; exact ⟨l2, kB, rfl, o2, rfl, IB⟩
        | j + 2, hx => cases hx
      refine ⟨_, rfl, _, rfl, _, rfl, _, rfl, _, rfl, by simp, rfl, ?_⟩
      have u0 : unf S (fdB [(start, .bl true)]) + 1 ≤ S.length := by
        have := unf_put (S := S) (fd := fun _ => false) (fd' := fdB [(start, .bl true)]) hst rfl (fun s => by
          unfold fdB
          rw [dget_cons]
          by_cases e : start = s
          · rw [if_pos e]; simp [e]
          · rw [if_neg e]; simp [dget_nil, Ne.symm e])
        refine Nat.le_trans this ?_
        unfold unf
        exact List.length_filter_le _ _
      have begin : ∀ s, fdB [(start, .bl true)] s = true ↔ s = start := fun s => by
        unfold fdB
        rw [dget_cons]
        by_cases e : start = s
        · rw [if_pos e]; simp [e]
        · rw [if_neg e]; simp [dget_nil, Ne.symm e]
      refine ⟨fun μ ρ => ∃ fv fresh c dn x4 x5 x6 x9 x10 x11, ρ = [.d (.ref a), .d (.ints start), .d (.tup [lotD l1, lotD l2]), .d (.lst [.dct (frzK kA), .dct (frzK kB)]), x4, x5, x6, .ot fv, .ol (rowsD fresh), x9, x10, x11] ∧ Gs (stpP S [l1, l2]) (fdB fv) start fresh c dn ∧ (fresh = [c] ∨ ∀ t, stpP S [l1, l2] c t → dn t) ∧ (∀ s, fdB fv s = true → s ∈ S) ∧
        μ = unf S (fdB fv) + fresh.length ∧ fv.length + unf S (fdB fv) ≤ S.length ∧ μ ≤ S.length, ⟨_, [(start, .bl true)], [start], start, fun _ => False, _, _, _, _, _, _, rfl, Gs.begin begin, .inl rfl, (fun s h => by rw [(begin s).mp h]; exact hst), rfl, (by simp; omega), (by simp; omega)⟩, ?_⟩
      rintro μ ρ ⟨fv, fresh, c0, dn0, x4, x5, x6, x9, x10, x11, rfl, I0, hc0, hLS, hμ, hl, hμ1⟩
      refine ⟨_, rfl, nofun, _, rowsD fresh, rfl, rfl, _, _, rfl, rfl, _, rfl, fun hb => ?_, fun hb => ?_⟩
      · have hne : fresh ≠ [] := fun e => by rw [e] at hb; simp [rowsD] at hb
        obtain ⟨rest, c, rfl⟩ : ∃ rest c, fresh = rest ++ [c] := ⟨fresh.dropLast, fresh.getLast hne, (List.dropLast_concat_getLast hne).symm⟩
        have I1 := I0.pop (by
          rcases hc0 with e | e
          · rcases List.append_eq_singleton_iff.mp e with ⟨_, q⟩ | ⟨_, q⟩
            · exact .inl (by simpa using q.symm)
            · simp at q
          · exact .inr (.inr e))
        have hcS : c ∈ S := hLS c I1.cu
        have cl := hdd c hcS
        refine ⟨rowsD rest, .ints c, (by rw [rowsD_app]; rfl), ?_⟩
        refine ⟨_, rfl, _, rfl, _, rfl, _, rfl, _, _, _, _, rfl, rfl, rfl, fun i ρ => ∃ fv fresh x4 x6 x9 x10 x11, ρ = [.d (.ref a), .d (.ints start), .d (.tup [lotD l1, lotD l2]), .d (.lst [.dct (frzK kA), .dct (frzK kB)]), x4, .d (.ints c), x6, .ot fv, .ol (rowsD fresh), x9, x10, x11] ∧ Gs (stpP S [l1, l2]) (fdB fv) start fresh c (fun _ => False) ∧ (∀ s, fdB fv s = true → s ∈ S) ∧
          (∀ (i' : Nat) p t, i' < i → [l1, l2][i']? = some p → t ∈ S → agr p t c → fdB fv t = true) ∧ unf S (fdB fv) + fresh.length + 1 ≤ μ ∧ fv.length + unf S (fdB fv) ≤ S.length, ⟨fv, rest, _, _, _, _, _, rfl, I1, hLS, fun i' p t h => absurd h (Nat.not_lt_zero _), (by simp at hμ ⊢; omega), hl⟩, ?_, ?_⟩
        · rintro i x ρ hx ⟨fv1, fr1, x4, x6, x9, x10, x11, rfl, I2, hLS1, hdn, hμ2, hl2⟩
          obtain ⟨l, kv, hp, ol, rfl, IR⟩ := rm i x hx
          have ll := lot_len ol
          obtain ⟨ci, hci⟩ := List.getElem?_of_mem hcS
          have hlt := (List.getElem?_eq_some_iff.mp hci).1
          obtain ⟨xs, hxs⟩ := Option.isSome_iff_exists.mp (IR.has ci c hlt hci)
          obtain ⟨rs, rfl, hrl, hrm⟩ := IR.at' _ xs hxs
          have hrm : ∀ o, o ∈ rs ↔ o ∈ S ∧ agr l o c := fun o => by
            rw [hrm o]
            constructor
            · rintro ⟨j, _, h1, h2⟩; exact ⟨List.mem_of_getElem? h1, agr_view.mp h2⟩
            · rintro ⟨h1, h2⟩
              obtain ⟨j, hj⟩ := List.getElem?_of_mem h1
              exact ⟨j, (List.getElem?_eq_some_iff.mp hj).1, hj, agr_view.mpr h2⟩
          refine ⟨_, rfl, rfl, ?_⟩
          refine ⟨_, rfl, nofun, _, rfl, _, rfl, _, rfl, _, rfl, c, l, rfl, fun k hk => by rw [cl]; exact ol.lt k hk, by omega, frzK kv, viewK c l, _, rfl, rfl, dget_frz hxs, _, _, rfl, rfl, fun j ρ => ∃ fv fresh x9 x10 x11, ρ = [.d (.ref a), .d (.ints start), .d (.tup [lotD l1, lotD l2]), .d (.lst [.dct (frzK kA), .dct (frzK kB)]), .d (lotD l), .d (.ints c), .d (.dct (frzK kv)), .ot fv, .ol (rowsD fresh), x9, x10, x11] ∧ Gs (stpP S [l1, l2]) (fdB fv) start fresh c (fun _ => False) ∧ (∀ s, fdB fv s = true → s ∈ S) ∧
            (∀ (i' : Nat) p t, i' < i → [l1, l2][i']? = some p → t ∈ S → agr p t c → fdB fv t = true) ∧ (∀ (j' : Nat) t, j' < j → rs[j']? = some t → fdB fv t = true) ∧ unf S (fdB fv) + fresh.length + 1 ≤ μ ∧ fv.length + unf S (fdB fv) ≤ S.length, ⟨fv1, fr1, _, _, _, rfl, I2, hLS1, hdn, fun j' t h => absurd h (Nat.not_lt_zero _), hμ2, hl2⟩, ?_, ?_⟩
          · rintro j x ρ hx ⟨fv2, fr2, x9, x10, x11, rfl, I3, hLS2, hdn1, hdn2, hμ3, hl3⟩
            obtain ⟨o, ho, rfl⟩ := rows_at hx
            obtain ⟨hoS, hag⟩ := (hrm o).mp (List.mem_of_getElem? ho)
            refine ⟨_, rfl, nofun, _, rfl, nofun, fv2, o, rfl, rfl, _, rfl, fun hb1 => ?_, fun hb1 => ?_⟩
            · have hno : fdB fv2 o = false := by simpa [fdB] using hb1
              have u1 := unf_put (S := S) (fd := fdB fv2) (fd' := fdB (dput fv2 o (.bl true))) hoS hno (fdB_put fv2 o _)
              have d1 := dput_len fv2 o (D.bl true)
              refine ⟨_, fv2, rfl, rfl, (by omega), _, rfl, nofun, o, rfl, ?_⟩
              refine ⟨⟨_, rfl⟩, _, rfl, _, rfl, _, rfl, (by rw [rowsD_len]; omega), dput fv2 o (.bl true), fr2 ++ [o], _, _, _, (by rw [rowsD_app]; rfl), ?_, ?_, ?_, ?_, ?_, ?_⟩
              · exact (I3.put (o := o) ⟨hcS, hoS, l, List.mem_of_getElem? hp, fun k hk => (hag k hk).symm⟩ (fdB_put fv2 o _)).forget
              · intro s hs'
                rcases (fdB_put fv2 o _ s).mp hs' with q | q
                · exact hLS2 s q
                · exact q ▸ hoS
              · intro i' p' t h1 h2 h3 h4
                exact (fdB_put fv2 o _ t).mpr (.inl (hdn1 i' p' t h1 h2 h3 h4))
              · intro j' t h1 h2
                by_cases e : j' = j
                · subst e
                  rw [ho] at h2
                  cases h2
                  exact (fdB_put fv2 o _ o).mpr (.inr rfl)
                · exact (fdB_put fv2 o _ t).mpr (.inl (hdn2 j' t (by omega) h2))
              · simp; omega
              · omega
            · have hin : fdB fv2 o = true := by simpa [fdB] using hb1
              refine ⟨fv2, fr2, _, _, _, rfl, I3, hLS2, hdn1, fun j' t h1 h2 => ?_, hμ3, hl3⟩
              by_cases e : j' = j
              · subst e
                rw [ho] at h2
                cases h2
                exact hin
              · exact hdn2 j' t (by omega) h2
          · rintro ρ ⟨fv2, fr2, x9, x10, x11, rfl, I3, hLS2, hdn1, hdn2, hμ3, hl3⟩
            refine ⟨fv2, fr2, _, _, _, _, _, rfl, I3, hLS2, fun i' p t h1 h2 h3 h4 => ?_, hμ3, hl3⟩
            by_cases e : i' = i
            · subst e
              rw [hp] at h2
              cases h2
              obtain ⟨j', hj'⟩ := List.getElem?_of_mem ((hrm t).mpr ⟨h3, h4⟩)
              exact hdn2 j' t (by rw [rowsD_len]; exact (List.getElem?_eq_some_iff.mp hj').1) hj'
            · exact hdn1 i' p t (by omega) h2 h3 h4
        · rintro ρ ⟨fv1, fr1, x4, x6, x9, x10, x11, rfl, I2, hLS1, hdn, hμ2, hl2⟩
          refine ⟨_, hμ2, fv1, fr1, c, fun _ => True, _, _, _, _, _, _, rfl, I2.all fun t ht => ?_, .inr fun _ _ => trivial, hLS1, rfl, hl2, by omega⟩
          obtain ⟨_, hT, p, hp, ha⟩ := ht
          obtain ⟨i', hi'⟩ := List.getElem?_of_mem hp
          exact hdn i' p t (by have := (List.getElem?_eq_some_iff.mp hi').1; rw [zipD_len]; simpa using this) hi' hT fun k hk => (ha k hk).symm
      · have e : fresh = [] := by cases fresh with | nil => rfl | cons _ _ => simp [rowsD] at hb
        subst e
        have fin := I0.done (by
          rcases hc0 with q | q
          · simp at q
          · exact q)
        exact ⟨_, rfl, _, rfl, z fv fun s => fin s⟩)
end
end DL
namespace DL
open PySem PySem.Spec L2 Tx MX
section
variable {P : Program} {w : World} {K : PySem.W.Frag} {mg : Str → Option Value} {base : Heap} {C T : Addr}
theorem LotOk.sub {n : Nat} {l m : List Nat} (h : LotOk n l) (s : m.Sublist l) : LotOk n m := ⟨h.asc.sublist s, fun k hk => h.lt k (s.subset hk)⟩
theorem cut_take1 {l : List Nat} (h : 1 ≤ l.length) : cutG ((natsI l).map D.int) none (some 1) = (natsI (l.take 1)).map .int := by
  have := cutG_take ((natsI l).map D.int) 1 (by simp [natsI]; omega)
  rw [show ((1 : Nat) : Int) = 1 from rfl] at this
  rw [this]
  unfold natsI
  rw [List.map_take, List.map_take]
theorem cut_drop1 {l : List Nat} (h : 1 ≤ l.length) : cutG ((natsI l).map D.int) (some 1) none = (natsI (l.drop 1)).map .int := by
  have := cutG_drop ((natsI l).map D.int) 1 (by simp [natsI]; omega)
  rw [show ((1 : Nat) : Int) = 1 from rfl] at this
  rw [this]
  unfold natsI
  rw [List.map_drop, List.map_drop]
def partP (fv : List (Row × D)) (x : D) : D := .int (if (dget fv (unI x)).isSome = true then 1 else 0)
def partQ (fv : List (Row × D)) (s : Row) : Int := if (dget fv s).isSome = true then 1 else 0
def s_torn_plans (K : PySem.W.Frag) (w : World) (C T : Addr) : DSpec := fun W ds Q => ∃ (a : Addr) (S : List Row) (sizes : List Nat), ds = [.ref a] ∧ HasAll K w C T W a S sizes ∧ ((∀ s ∈ S, ∀ t ∈ S, joinedP S s t) → Q .non) ∧ ((¬ ∀ s ∈ S, ∀ t ∈ S, joinedP S s t) → ∀ v, TornV S sizes.length v → Q v)
theorem sc_torn_plans : FnScope ["store", "one", "other", "apart", "plans", "part", "question", "state"] ["store"] (defScope f_torn_plans) := ⟨rfl, rfl, rfl, by decide +kernel, rfl, by decide +kernel, by decide +kernel⟩
theorem cx_torn_plans (ft : Fts mg) (c_is_joined : Cl P w K mg base 14 "is_joined" 1 (s_is_joined K w C T)) (c_nearest_apart : Cl P w K mg base 12 "nearest_apart" 1 (s_nearest_apart K w C T)) (c_other_keys : Cl P w K mg base 6 "other_keys" 2 (s_other_keys K C)) (c_part_of : Cl P w K mg base 3 "part_of" 3 (s_part_of K C)) (c_same_keys : Cl P w K mg base 2 "same_keys" 2 s_same_keys) (d : DF K mg "torn_plans" f_torn_plans) : ClX P w K mg base 15 "torn_plans" f_torn_plans ["store"] (s_torn_plans K w C T) :=
  clx_of (k := 14) d sc_torn_plans (fun W ds K h => by obtain ⟨_, _, _, e, _⟩ := h; rw [e]; rfl) (fun a W cdv A outer s H E hr =>
  have nd := sc_torn_plans.nd
  (ssd_cons (sd_if (pt_v (PRd.e (pr_call c_is_joined (hr.mono (by decide)) rfl (pad_cons (pr_var (pv 0)) pad_nil)))) (ssd_one (sd_ret pr_non)) ssd_nil) (ssd_cons (sd_asg (pr_call c_nearest_apart (hr.mono (by decide)) rfl (pad_cons (pr_var (pv 0)) pad_nil)) (gd_tup (is := [1, 2]) rfl (pgs_cons (pg_name (i := 1) nd rfl (Or.inl rfl)) (pgs_cons (pg_name (i := 2) nd rfl (Or.inl rfl)) pgs_nil)))) (ssd_cons (sd_set (i := 3) nd rfl (Or.inl rfl) (pr_call c_other_keys (hr.mono (by decide)) rfl (pad_cons (pr_var (pv 0)) (pad_cons (pr_call c_same_keys (hr.mono (by decide)) rfl (pad_cons (pr_var (pv 1)) (pad_cons (pr_var (pv 2)) pad_nil))) pad_nil)))) (ssd_cons (sd_set (i := 4) nd rfl (Or.inl rfl) (pr_tup (pad_cons (pr_call c_other_keys (hr.mono (by decide)) rfl (pad_cons (pr_var (pv 0)) (pad_cons (pr_slA (pd_var (pv 3)) pod_none (pod_some (PRd.e pr_int))) pad_nil))) (pad_cons (pr_call c_other_keys (hr.mono (by decide)) rfl (pad_cons (pr_var (pv 0)) (pad_cons (pr_slA (pd_var (pv 3)) (pod_some (PRd.e pr_int)) pod_none) pad_nil))) pad_nil)))) (ssd_cons (sd_set (i := 5) nd rfl (Or.inr rfl) (pr_call c_part_of (hr.mono (by decide)) rfl (pad_cons (pr_var (pv 0)) (pad_cons (pr_var (pv 1)) (pad_cons (pr_var (pv 4)) pad_nil))))) (ssd_cons (sd_set (i := 6) nd rfl (Or.inl rfl) (pr_tuple rfl ft.m_tuple (PRd.e (pr_lc (i := 7) rfl nd (id_ss (pr_at (K := K) rfl (pd_var (pv 0)))) (bok (own := [("state", 7)]) rfl) (fun _ _ _ _ _ => pg_name (i := 7) nd rfl (Or.inl rfl)) (fun _ _ _ _ _ => ptsd_nil) (fun _ _ _ _ _ => (pr_if (pt_din hr (pd_var (pv 7)) (pd_var (pv 5))) pr_int pr_int)))))) (ssd_one (sd_ret (pr_tup (pad_cons (pr_var (pv 1)) (pad_cons (pr_var (pv 2)) (pad_cons (pr_item (pd_var (pv 4)) (PRd.e pr_int)) (pad_cons (pr_item (pd_var (pv 4)) (PRd.e pr_int)) (pad_cons (pr_var (pv 6)) pad_nil)))))))))))))))
   (fun W ds K h => by
    obtain ⟨a, S, sizes, rfl, hA, z1, z2⟩ := h
    have few := hA.ok.ok.few
    have hf := hA.ok.few
    have hdd : ∀ s ∈ S, s.length = sizes.length := fun s h => (hA.ok.row s h).1
    refine ⟨_, rfl, _, rfl, a, S, sizes, rfl, hA, fun b hb => ⟨b, rfl, fun g => ?_, fun g => ?_⟩⟩
    · exact ⟨_, rfl, z1 (hb.mp g)⟩
    have hnj : ¬ ∀ s ∈ S, ∀ t ∈ S, joinedP S s t := fun h => by rw [hb.mpr h] at g; cases g
    refine uNext ?_
    refine ⟨_, rfl, _, rfl, a, S, sizes, rfl, hA, hnj, fun p q hp hq hpq least => ⟨_, rfl, _, rfl, rfl, ?_⟩⟩
    have pl := hdd p hp
    have ql := hdd q hq
    have two := apart_two hdd hp hq hpq
    have lod : LotOk sizes.length (diffN p q) := by rw [← pl]; exact lot_diff p q
    refine ⟨_, rfl, _, rfl, _, rfl, _, rfl, _, rfl, _, rfl, p, q, rfl, by omega, by omega, _, rfl, a, S, sizes, sameN p q, rfl, hA.st, hA.ok, by rw [← pl]; exact lot_same p q, ?_⟩
    rw [← pl, notIn_same]
    have e1 := cut_take1 (l := diffN p q) (by omega)
    have e2 := cut_drop1 (l := diffN p q) (by omega)
    refine ⟨_, rfl, _, rfl, _, rfl, nofun, _, rfl, .inr ⟨_, rfl, _, rfl, a, S, sizes, (diffN p q).take 1, by rw [e1], hA.st, hA.ok, lod.sub (List.take_sublist _ _), ?_⟩⟩
    refine ⟨_, rfl, _, rfl, _, rfl, _, rfl, nofun, _, rfl, .inr ⟨_, rfl, _, rfl, a, S, sizes, (diffN p q).drop 1, by rw [e2], hA.st, hA.ok, lod.sub (List.drop_sublist _ _), _, rfl, by simp, ?_⟩⟩
    refine ⟨_, rfl, _, rfl, _, rfl, _, rfl, _, rfl, _, rfl, a, S, sizes, p, notIn sizes.length ((diffN p q).take 1), notIn sizes.length ((diffN p q).drop 1), rfl, hA.st, hA.ok, hp, lot_notIn _ _, lot_notIn _ _, fun fv hfv => ?_⟩
    dsimp only
    refine uSetTuple (lcN (xs := rowsD S) (fun _ => true) (partP fv) (fun K' h' => ⟨_, rfl, nofun, a, _, rfl, hA.st.st, _, _, rfl, rfl, h'⟩) (by rw [rowsD_len]; omega) (fun y hy K' k' => k') (fun y hy _ K' k' => ?_) ?_)
    · obtain ⟨s, hs, rfl⟩ := mem_rowsD hy
      refine ⟨_, rfl, nofun, _, rfl, nofun, fv, s, rfl, rfl, _, rfl, fun hb1 => k' _ ?_, fun hb1 => k' _ ?_⟩
      · show some (D.int 1) = some (.int (if (dget fv (unI (.ints s))).isSome = true then 1 else 0))
        rw [unI_ints, if_pos hb1]
      · show some (D.int 0) = some (.int (if (dget fv (unI (.ints s))).isSome = true then 1 else 0))
        rw [unI_ints, if_neg (by rw [hb1]; simp)]
    · rw [filter_tt]
      have em : (rowsD S).map (partP fv) = (S.map (partQ fv)).map .int := by
        unfold rowsD
        rw [List.map_map, List.map_map]
        refine List.map_congr_left fun s _ => ?_
        show D.int (if (dget fv (unI (.ints s))).isSome = true then 1 else 0) = D.int (partQ fv s)
        rw [unI_ints]
        rfl
      rw [em]
      refine ⟨_, _, rfl, rfl, ?_⟩
      refine ⟨_, rfl, _, rfl, _, rfl, _, rfl, _, rfl, nofun, _, 0, _, rfl, rfl, atI_0, _, rfl, _, rfl, nofun, _, 1, _, rfl, rfl, atI_1, _, rfl, _, rfl, _, rfl, by simp, _, rfl, z2 hnj _ ?_⟩
      have ne1 : (diffN p q).take 1 ≠ [] := fun e => by
        have h0 : ((diffN p q).take 1).length = 0 := by rw [e]; rfl
        rw [List.length_take] at h0
        omega
      have ne2 : (diffN p q).drop 1 ≠ [] := fun e => by
        have h0 : ((diffN p q).drop 1).length = 0 := by rw [e]; rfl
        rw [List.length_drop] at h0
        omega
      refine torn_div hdd hp hq hpq least ne1 ne2 (by rw [List.take_append_drop]) (qs := S.map (partQ fv)) (by simp) fun i s r h1 h2 => ?_
      rw [List.getElem?_map, h1] at h2
      cases h2
      have := hfv s
      unfold partQ
      by_cases hc : (dget fv s).isSome = true
      · rw [if_pos hc]
        exact ⟨.inl rfl, fun _ => this.mp hc, fun _ => rfl⟩
      · rw [if_neg hc]
        exact ⟨.inr rfl, nofun, fun h => absurd (this.mpr h) hc⟩)
theorem c_torn_plans (ft : Fts mg) (c_is_joined : Cl P w K mg base 14 "is_joined" 1 (s_is_joined K w C T)) (c_nearest_apart : Cl P w K mg base 12 "nearest_apart" 1 (s_nearest_apart K w C T)) (c_other_keys : Cl P w K mg base 6 "other_keys" 2 (s_other_keys K C)) (c_part_of : Cl P w K mg base 3 "part_of" 3 (s_part_of K C)) (c_same_keys : Cl P w K mg base 2 "same_keys" 2 s_same_keys) (d : DF K mg "torn_plans" f_torn_plans) : Cl P w K mg base 15 "torn_plans" 1 (s_torn_plans K w C T) := (cx_torn_plans ft c_is_joined c_nearest_apart c_other_keys c_part_of c_same_keys d).cl rfl (fun _ _ _ _ _ _ us hl => match us, hl with | [_], _ => rfl)
end
end DL
/-! {k: v for .. in ..} whose keys are tuples. -/
namespace DL
open PySem PySem.Spec PyProof.Rows L2
/-- what such a comprehension asks; Dn the new dict -/
def tDT (wi : TI) (g : TG) (tk tv : TE) (vs : List Nat) : TE := fun σ H Q => wi σ H fun J Ha => ∀ Dn, Ha Dn = none → ∃ Wn : Nat → Nat → Hp → Prop, (∃ m, Wn 0 m (upd Ha Dn (.dT []))) ∧ ∀ i m Hi, Wn i m Hi →
  (J.stop i Hi ∧ Q (.ref Dn) Hi) ∨ (J.go i Hi ∧ ∃ Nx : Hp → Prop, (∀ Hn, Nx Hn → ∃ m', m' < m ∧ Wn (i + 1) m' Hn) ∧ ∀ x Hy, J.yld i Hi x Hy → g x (wipe σ vs) Hy fun τ Hg => wipe τ vs = wipe σ vs ∧
    tk τ Hg fun y Hk => tv τ Hk fun z Hv => ∃ kvs ky b, y = .ref b ∧ Hv b = some (.tup (ky.map kV)) ∧ Hv Dn = some (.dT kvs) ∧ kvs.length < sizeLine ∧ Nx (upd Hv Dn (.dT (putK kvs ky z))))
section
variable {X : Cx}
theorem dcT_core {pins : List (Addr × Obj)} {s : Shared} {σ : L2.St} {H : Hp} {Q : VK} {kx vx tg iter : Expr} {scope : Scope} {own : List (Str × Nat)} {pos pos' : Pos} {wi : TI} {g : TG} {tk tv : TE} {use : Option (Value → Sem Unit)} {Qf : Value → Shared → Prop} (hu : X.A.units + 1 < cLine)
    (hc : X.calm = true) (hN : X.N.Nodup) (I : L2.Inv X pins σ H s) (hi : PI X tg iter wi) (ok : BlkOk X.N X.env.scope scope own)
    (hg : ∀ (sb : Shared) (Hb : Hp) (cb : Addr) (lb : List (Str × Addr)) (fb : List Addr), PG (X.blk sb Hb scope (compEnvC scope lb cb X.env) fb) tg g)
    (hk : ∀ (sb : Shared) (Hb : Hp) (cb : Addr) (lb : List (Str × Addr)) (fb : List Addr), PE (X.blk sb Hb scope (compEnvC scope lb cb X.env) fb) kx tk)
    (hv : ∀ (sb : Shared) (Hb : Hp) (cb : Addr) (lb : List (Str × Addr)) (fb : List Addr), PE (X.blk sb Hb scope (compEnvC scope lb cb X.env) fb) vx tv) (hs : ∀ x, foldedSetIterable iter X.env x = pure x) (h : tDT wi g tk tv (own.map (·.2)) σ H Q)
    (hE : ∀ Dn cb t m Hz, L2.Inv X pins σ Hz t → Q (.ref Dn) Hz → t.heap.Ns cb m → FpOk X pins Hz cb → compPost (model X.prog X.w) X.A X.xe use Qf (.ref Dn) cb (.ok .next) t) :
    wpAny (model X.prog X.w) X.A (comprehension (.DictComp kx vx [⟨tg, iter, [], 0⟩] scope pos) scope X.env pos' newDict false (eval iter X.env) use) Qf X.xe s := by
  have cap : ∀ y ∈ scope.names, y.2 = .free → ∃ c, X.env.cells.lookup y.1 = some c := fun y hy e => (ok.free y hy e).elim (fun q => I.ok.has _ (.inl q)) fun q => I.ok.has _ (.inr q)
  refine wpAny_comprehension_free (use := use) rfl hs (closure_ok cap) ok.kind (fun y hy e => by rw [ok.uniq y hy, e]) (thn (hi.run pins s σ H _ I h) fun _ _ q1 => thn q1 fun _ t2 q2 => ?_)
  obtain ⟨it, fp, tn, J, Ha, e, Ia, T, at0, fpn, q⟩ := q2
  subst e
  refine wpAny_newObj_type (newEnv_comp ?_)
  generalize hD : t2.heap.objs.size = Dn
  have nD : Ha Dn = none := Ia.hok.fresh (Nat.le_of_eq hD)
  obtain ⟨Wn, ⟨m0, w0⟩, turn⟩ := q Dn nD
  generalize ht3 : ({ t2 with heap := t2.heap.push { cls := .type "dict", data := .dict #[] } } : Shared) = t3
  have I3 : L2.Inv X pins σ (upd Ha Dn (.dT [])) t3 := by
    rw [← ht3]
    refine Ia.laid (t' := t2.toks) (fun _ _ e => Heap.get?_push_of_some _ e) (Nat.le_of_eq hD) ?_
    rw [← hD]
    exact dt_empty t2.heap Ia.big
  have hp3 : t3.heap = t2.heap.push { cls := .type "dict", data := .dict #[] } := by rw [← ht3]
  have fp3 : ∀ b ∈ fp, FpOk X pins (upd Ha Dn (.dT [])) b ∧ b < t3.heap.objs.size := fun b hb => by
    obtain ⟨o, e, _⟩ := T.obj _ _ at0 b hb
    have lt := Heap.lt_size e
    refine ⟨⟨?_, (fpn b hb).2⟩, by rw [hp3, Heap.size_push]; exact Nat.lt_succ_of_lt lt⟩
    rw [upd_ne (show b ≠ Dn by rw [← hD]; exact Nat.ne_of_lt lt)]
    exact (fpn b hb).1
  have at3 : tn 0 t3.heap := T.keep _ _ _ at0 fun b _ o e => by rw [hp3]; exact Heap.get?_push_of_some _ e
  have Ib := block_start I3 ok hN fp3
  have pg := hg t3 (upd Ha Dn (.dT [])) t3.heap.objs.size (cellsFrom (t3.heap.objs.size + 1) scope.names (cloFrom X.env.cells scope.names [])) fp
  have pk := hk t3 (upd Ha Dn (.dT [])) t3.heap.objs.size (cellsFrom (t3.heap.objs.size + 1) scope.names (cloFrom X.env.cells scope.names [])) fp
  have pw := hv t3 (upd Ha Dn (.dT [])) t3.heap.objs.size (cellsFrom (t3.heap.objs.size + 1) scope.names (cloFrom X.env.cells scope.names [])) fp
  show codeAny _ _ (.compStart (.DictComp kx vx [⟨tg, iter, [], 0⟩] scope pos) 0 (.ref it) (.ref Dn) (compEnvC scope (cellsFrom (t3.heap.objs.size + 1) scope.names (cloFrom X.env.cells scope.names [])) t3.heap.objs.size X.env)) (compPost (model X.prog X.w) X.A X.xe use Qf (.ref Dn) t3.heap.objs.size) { t3 with heap := pushCells (t3.heap.push { cls := .type "dict", data := .dict #[] }) scope.names }
  have out3 : ∀ b ∈ fp, (upd Ha Dn (.dT [])) b = none := fun b hb => (fp3 b hb).1.1
  generalize hce : compEnvC scope (cellsFrom (t3.heap.objs.size + 1) scope.names (cloFrom X.env.cells scope.names [])) t3.heap.objs.size X.env = ce at Ib pg pk pw ⊢
  have eL : ce.locals = t3.heap.objs.size := by subst hce; rfl
  generalize hHb : upd Ha Dn (.dT []) = Hb at I3 Ib pg pk pw w0 out3 fp3
  generalize ht4 : ({ t3 with heap := pushCells (t3.heap.push { cls := .type "dict", data := .dict #[] }) scope.names } : Shared) = t4 at Ib ⊢
  have at4 : tn 0 t4.heap := T.keep _ _ _ at3 fun b _ o e => by rw [← ht4]; exact pushCells_keeps _ _ _ _ (Heap.get?_push_of_some _ e)
  have stay : ∀ {τ : L2.St} {Hx : Hp} {t : Shared}, L2.Inv (X.blk t3 Hb scope ce fp) [] τ Hx t → (∀ b ∈ fp, Hx b = none) → ∀ b ∈ fp, FpOk (X.blk t3 Hb scope ce fp) [] Hx b := fun {τ Hx t} J hn b hb =>
    ⟨hn b hb, (J.ok.exf b hb).1, J.ok.exfs b hb, .inl hb, fun x c e => (J.ok.exf b hb).2 x c e, fun p hp => absurd (show p ∈ ([] : List (Addr × Obj)) ++ [] from hp) (by simp)⟩
  have loop : codeAny (model X.prog X.w) X.A (.compLoop (.DictComp kx vx [⟨tg, iter, [], 0⟩] scope pos) 0 (.ref it) (.ref Dn) ce) (compPost (model X.prog X.w) X.A X.xe use Qf (.ref Dn) t3.heap.objs.size) t4 := by
    refine compLoop_anyD (fun n t => ∃ i Hx, L2.Inv (X.blk t3 Hb scope ce fp) [] (wipe σ (own.map (·.2))) Hx t ∧ tn i t.heap ∧ (∀ b ∈ fp, Hx b = none) ∧ Wn i n Hx) ?_ m0 ⟨0, Hb, Ib, at4, out3, w0⟩
    rintro n t5 ⟨i, H5, I5, at5, out5, w5⟩
    rcases turn i n H5 w5 with ⟨stop, fin⟩ | ⟨go, Nx, hNx, step⟩
    · refine thnF (T.done (X.blk t3 Hb scope ce fp) rfl rfl rfl hc i [] t5 _ H5 (fun _ _ => False) I5 (stay I5 out5) at5 stop) fun r t6 ⟨hr, I6⟩ => ?_
      subst hr
      have I7 : L2.Inv X pins σ H5 t6 := I3.call' (ch := fp) I6.os I6.base I6.hok I6.bare fun b hb => ⟨(fp3 b hb).1.2.2.2.1, (fp3 b hb).1.2.1, (fp3 b hb).1.2.2.2.2.1, (fp3 b hb).1.2.2.2.2.2⟩
      have nC : H5 ce.locals = none := I6.free
      obtain ⟨m, hn, _⟩ := I6.loc
      have hn : t6.heap.Ns ce.locals m := hn
      rw [eL] at hn nC
      exact hE Dn t3.heap.objs.size t6 m H5 I7 fin hn (I3.fpOk (Nat.le_refl _) nC)
    · refine thnF (T.item (X.blk t3 Hb scope ce fp) rfl rfl rfl hc i [] t5 _ H5 (fun _ _ => False) I5 (stay I5 out5) at5 go) fun r t6 ⟨u, hr, q6⟩ => ?_
      subst hr
      refine thnF q6 fun _ t7 ⟨x, H7, I7, r7, y7, at7, out7⟩ => ?_
      have J7 := I7.pinned (stay I7 out7) (T.obj _ _ at7)
      refine thnF (pg.run _ t7 _ H7 x u _ J7 r7 (step x H7 y7)) fun _ t8 ⟨τ, H8, I8, hw, q8⟩ => ?_
      refine thnF ((pts_nil (X := X.blk t3 Hb scope ce fp)).run _ t8 τ H8 (fun b Hx => b = true ∧ Hx = H8) I8 ⟨rfl, rfl⟩) fun b t9 ⟨H9, I9, eb, e9⟩ => ?_
      subst eb e9
      rw [if_pos rfl]
      refine thnF (pk.run _ t9 τ H9 _ I9 q8) fun zk t10 ⟨yk, H10, I10, r10, q10⟩ => ?_
      refine thnF (pw.run _ t10 τ H10 _ I10 q10) fun zv t11 ⟨yv, H11, I11, r11, kvs, ky, b, ek, hb11, hD11, few, nx⟩ => ?_
      subst ek
      obtain rfl : zk = Value.ref b := r10
      refine d_storeT (X := X.blk t3 Hb scope ce fp) hu I11 hD11 hb11 r11 few fun t12 I12 => ?_
      obtain ⟨m', hm, wn⟩ := hNx _ nx
      have pin' : ∀ b ∈ fp, ∀ o, t7.heap.get? b = some o → t12.heap.get? b = some o ∧ (upd H11 Dn (.dT (putK kvs ky yv))) b = none := fun b hb o e =>
        let z := I12.pin (b, o) (List.mem_append_right _ (List.mem_append_right _ (mem_pinsAt hb e)))
        ⟨z.1, z.2.1⟩
      have hl : (wipe σ (own.map (·.2))).length = τ.length := by rw [← hw, wipe_length]
      refine ⟨m', hm, i + 1, _, (I12.unpinned (pins := [])).weak hl (fun j v e => ?_), T.keep _ _ _ at7 fun b hb o e => (pin' b hb o e).1, fun b hb => ?_, wn⟩
      · rw [← hw] at e
        exact (wipe_some e).1
      · obtain ⟨o, e, _⟩ := T.obj _ _ at7 b hb
        exact (pin' b hb o e).2
  exact codeAny_compStart_dict loop (T.self X.A 0 _ _ _ at4 loop)
theorem pe_dcT {kx vx tg iter : Expr} {scope : Scope} {own : List (Str × Nat)} {pos : Pos} {wi : TI} {g : TG} {tk tv : TE} (hu : X.A.units + 1 < cLine) (hc : X.calm = true) (hN : X.N.Nodup) (hi : PI X tg iter wi) (ok : BlkOk X.N X.env.scope scope own)
    (hg : ∀ (sb : Shared) (Hb : Hp) (cb : Addr) (lb : List (Str × Addr)) (fb : List Addr), PG (X.blk sb Hb scope (compEnvC scope lb cb X.env) fb) tg g)
    (hk : ∀ (sb : Shared) (Hb : Hp) (cb : Addr) (lb : List (Str × Addr)) (fb : List Addr), PE (X.blk sb Hb scope (compEnvC scope lb cb X.env) fb) kx tk)
    (hv : ∀ (sb : Shared) (Hb : Hp) (cb : Addr) (lb : List (Str × Addr)) (fb : List Addr), PE (X.blk sb Hb scope (compEnvC scope lb cb X.env) fb) vx tv) (hs : ∀ x, foldedSetIterable iter X.env x = pure x := by intro _; rfl) :
    PE X (.DictComp kx vx [⟨tg, iter, [], 0⟩] scope pos) (tDT wi g tk tv (own.map (·.2))) := ⟨fun pins s σ H Q I h => by
  rw [arm_eval_DictComp]
  refine dcT_core hu hc hN I hi ok hg hk hv hs h fun Dn cb t m Hz J q hn f => ⟨m, hn, fun hh sb => ?_⟩
  obtain ⟨f0, f1, f2, f3, f4, f5⟩ := f
  exact ⟨.ref Dn, Hz, J.turned (t' := t.toks) (fun b o hb e => (sb.2 b hb).trans e) f0 f1 f3 f4 f5, rfl, q⟩⟩
end
end DL
/-! An instance of one's own, filled by its __init__. -/
namespace DL
open PySem PySem.Spec L2 MX
/-! ### a body read over data, what follows it by hand -/
def Raw (S : Bs) (p : RS) (u : TS) : TS := fun T σ H => liftS S p { T with nx := fun σ' H' => u T σ' H' } σ H
section
variable {W : Amb} {X : Cx} {st : Stmt} {rest : List Stmt} {p1 p2 : RS} {F0 B : Hp} {u : TS}
theorem raw_nil (h : PSs X rest u) : PSs X rest (Raw ⟨W, F0, B⟩ sNext u) := h.imp fun T σ H ⟨F, ρ, K, E, q, k, _⟩ => k ρ σ F H q E
theorem raw_cons (h1 : PSd W X st p1) (h2 : PSs X rest (Raw ⟨W, F0, B⟩ p2 u)) : PSs X (st :: rest) (Raw ⟨W, F0, B⟩ (sSeq p1 p2) u) := (pss_cons (h1.run F0 B) h2).imp fun T σ H ⟨F, ρ, K, E, q, k1, k2, k3, k4⟩ =>
  ⟨F, ρ, { K with nx := fun ρ' => p2 K ρ' }, E, q, fun ρ' σ' F' H' z E' => ⟨F', ρ', K, E', z, k1, k2, k3, k4⟩, k2, k3, k4⟩
theorem raw_fz (i : Nat) (h : PSs X rest (Raw ⟨W, F0, B⟩ p1 u)) : PSs X rest (Raw ⟨W, F0, B⟩ (sFz i p1) u) := h.imp fun T σ H ⟨F, ρ, K, E, q, k⟩ => let ⟨F', E'⟩ := E.fz i; ⟨F', fzAt i ρ, K, E', q, k⟩
end
/-! ### fields -/
theorem isKV_lookup {F : Hp} {f : Str} {d : D} : ∀ {ps : List (Str × V)} {fs : List (Str × D)}, IsKV (id : Str → Str) F ps fs → fs.lookup f = some d → ∃ v, ps.lookup f = some v ∧ Is F v d
  | [], [], _, h => by cases h
  | p :: ps, q :: fs, ⟨h1, h2, h3⟩, h => by
    have h1 : p.1 = q.1 := h1
    rw [List.lookup_cons] at h ⊢
    rw [h1]
    by_cases e : f = q.1
    · rw [beq_iff_eq.mpr e] at h ⊢
      cases h
      exact ⟨_, rfl, h2⟩
    · rw [beq_eq_false_iff_ne.mpr e] at h ⊢
      exact isKV_lookup h3 h
  | [], _ :: _, h, _ => h.elim
  | _ :: _, [], h, _ => h.elim
theorem isKV_no {F : Hp} {f : Str} : ∀ {ps : List (Str × V)} {fs : List (Str × D)}, IsKV (id : Str → Str) F ps fs → fs.lookup f = none → ps.lookup f = none
  | [], [], _, _ => rfl
  | p :: ps, q :: fs, ⟨h1, h2, h3⟩, h => by
    have h1 : p.1 = q.1 := h1
    rw [List.lookup_cons] at h ⊢
    rw [h1]
    by_cases e : f = q.1
    · rw [beq_iff_eq.mpr e] at h; cases h
    · rw [beq_eq_false_iff_ne.mpr e] at h ⊢
      exact isKV_no h3 h
  | [], _ :: _, h, _ => h.elim
  | _ :: _, [], h, _ => h.elim
theorem putF_new {f : Str} {v : V} : ∀ {ps : List (Str × V)}, ps.lookup f = none → putF f v ps = ps ++ [(f, v)]
  | [], _ => rfl
  | (g, x) :: r, h => by
    rw [List.lookup_cons] at h
    by_cases e : f = g
    · rw [beq_iff_eq.mpr e] at h; cases h
    · rw [beq_eq_false_iff_ne.mpr e] at h
      unfold putF
      rw [if_neg (fun z => e z.symm), putF_new h]
      rfl
section
variable {W : Amb} {X : Cx} {e value : Expr} {pv : RE} {pos p pos' : Pos} {i : Nat} {x f : Str} {K : PySem.W.Frag}
/-- self.f = e, the field new -/
def sSetF (K : PySem.W.Frag) (i : Nat) (f : Str) (pv : RE) : RS := fun Q ρ => pv ρ fun sv => ∃ d a C fs, sv.frz = some d ∧ ρ[i]? = some (.ob a C fs) ∧ Cls K C ∧ NoAttr K C f ∧ fs.lookup f = none ∧ fs.length < 1000 ∧ Q.nx (ρ.set i (.ob a C (fs ++ [(f, d)])))
theorem sd_setF (hK : X.K = K) (h : PE X (.Name x p) (tVar i)) (hv : PRd W X value pv) (hs : swapsWith value (some (.Attribute (.Name x p) f pos')) pos.line X.env = pure false := by rfl) : PSd W X (.Assign [.Attribute (.Name x p) f pos'] value pos) (sSetF K i f pv) := by
  subst hK
  exact ⟨fun F0 B => (ps_fld h (hv.run F0 B) hs).imp fun T σ H ⟨F, ρ, Q, E, q, k⟩ => ⟨F, ρ, _, E, q, fun s v as F1 H1 ⟨d, a, C, fs, e1, e2, hc, hn, hl, hz, z⟩ st sv n => by
    obtain ⟨F2, s2, i2, _⟩ := st.frz E.ok sv n e1
    have E2 := E.step s2
    obtain ⟨vd, as0, g1, ⟨dx, ps, rfl, rfl, g2, g3⟩, _⟩ := E2.get e2 (by intro z; cases z)
    have hlen := g3.length
    refine ⟨_, g1, a, C, dx, ps, rfl, g2, hc, hn, by omega, ?_⟩
    rw [putF_new (isKV_no g3 hl)]
    refine k.1 _ σ F2 _ z (E2.write e2 (by intro z; cases z) a _ fun v' as' h1 h2 => ?_)
    rw [g1] at h1
    cases h1
    obtain ⟨dx', ps', _, rfl, h4, h5⟩ := h2
    rw [g2] at h4
    cases h4
    exact ⟨by simp, fun _ => ⟨dx, _, rfl, rfl, upd_same, h5.app ⟨rfl, i2, trivial⟩⟩⟩⟩⟩
/-- self.f -/
def dObF (K : PySem.W.Frag) (i : Nat) (f : Str) : RE := fun ρ Q => ∃ a C fs d, ρ[i]? = some (.ob a C fs) ∧ Cls K C ∧ NoAttr K C f ∧ fs.lookup f = some d ∧ Q (.d d)
theorem pr_obF (hK : X.K = K) (h : PE X (.Name x p) (tVar i)) (hb : attributeBase (.Name x p) f X.env (eval (.Name x p) X.env) = eval (.Name x p) X.env := by rfl) : PRd W X (.Attribute (.Name x p) f pos) (dObF K i f) := by
  subst hK
  exact ⟨fun F0 B => (pe_fld h hb).imp fun σ H Q ⟨F, ρ, K', E, ⟨a, C, fs, d, e1, hc, hn, hl, z⟩, k⟩ => by
    obtain ⟨vd, as0, g1, ⟨dx, ps, rfl, rfl, g2, g3⟩, _⟩ := E.get e1 (by intro z; cases z)
    obtain ⟨v, hv, iv⟩ := isKV_lookup g3 hl
    exact ⟨_, g1, a, C, dx, ps, v, rfl, g2, hc, hn, hv, k _ v [] F H z (Step.refl E.ok) ⟨rfl, iv⟩ New.nil⟩⟩
end
/-! ### sorted(set(rows)) -/
def dSortT (pa : RE) : RE := fun ρ Q => pa ρ fun s => ∃ (rows : List (List Int)) (d : Nat) (Bd : Int), s.list = some (rowsD rows) ∧ rows.length < 64 ∧ 1 ≤ d ∧ (∀ r ∈ rows, r.length = d ∧ ∀ m ∈ r, 0 ≤ m ∧ m < Bd) ∧
  ∀ rows' : List (List Int), (∀ r, r ∈ rows' ↔ r ∈ rows) → rows'.Nodup → rows'.Pairwise (fun q r => TS.code Bd q ≤ TS.code Bd r) → Q (.ol (rowsD rows'))
theorem isL_refs {F : Hp} : ∀ {ys : List V} {rows : List (List Int)}, IsL F ys (rowsD rows) → ∃ ks : List (Addr × List Int), ys = ks.map (fun p => V.ref p.1) ∧ rows = ks.map (·.2) ∧ ∀ p ∈ ks, F p.1 = some (.tup (p.2.map V.int))
  | [], [], _ => ⟨[], rfl, rfl, fun p h => by simp at h⟩
  | y0 :: ys, r0 :: rows, h => by
    obtain ⟨t, zs, e2, h1, h2⟩ := h.1.tup_inv
    obtain ⟨ks, e3, e4, h3⟩ := isL_refs (ys := ys) (rows := rows) h.2
    rw [isL_ints h2] at h1
    refine ⟨(t, r0) :: ks, by rw [e2, e3]; rfl, by rw [e4]; rfl, fun p hp => ?_⟩
    rcases List.mem_cons.mp hp with e | e
    · rw [e]; exact h1
    · exact h3 p e
  | [], _ :: _, h => h.elim
  | _ :: _, [], h => h.elim
theorem refs_isL {F : Hp} : ∀ {ks : List (Addr × List Int)}, (∀ p ∈ ks, F p.1 = some (.tup (p.2.map V.int))) → IsL F (ks.map fun p => V.ref p.1) (rowsD (ks.map (·.2)))
  | [], _ => trivial
  | (t, r) :: ks, h => ⟨.tup' (h (t, r) (by simp)) (isL_of_ints r), refs_isL fun p hp => h p (List.mem_cons_of_mem _ hp)⟩
section
variable {W : Amb} {X : Cx} {e : Expr} {pa : RE} {pos p p2 pos2 : Pos} {m : Nat}
theorem pr_sortSetT (hr : Room m X.A) (hc : X.calm = true) (hg : Gl X "sorted") (hm : X.mg "sorted" = none) (hg2 : Gl X "set") (hm2 : X.mg "set" = none) (ha : PEd W X e pa) (hv : bootBuiltins "sorted" = some (.builtin "sorted") := by decide +kernel) (hv2 : bootBuiltins "set" = some (.type "set") := by decide +kernel)
    (he : starEach [e] X.env = (false, eval e X.env) :: starEach [] X.env := by rfl) (he2 : starEach [.Call (.Name "set" p2) [e] [] pos2] X.env = (false, eval (.Call (.Name "set" p2) [e] [] pos2) X.env) :: starEach [] X.env := by rfl) :
    PRd W X (.Call (.Name "sorted" p) [.Call (.Name "set" p2) [e] [] pos2] [] pos) (dSortT pa) := ⟨fun F0 B => (pe_callB (cr_sortedT hc) hg hm hv (pa_cons (pe_callTy (cr_setOfT hc hr.units) hg2 hm2 hv2 (pa_cons (ha.run F0 B) pa_nil he) (he := he)) pa_nil he2) (he := he2)).imp fun σ H Q ⟨F, ρ, K, E, q, k⟩ =>
  ⟨F, ρ, _, E, q, fun s v as F1 H1 ⟨rows, d, Bd, e1, h64, hd, hB, z⟩ st sv n => by
    obtain ⟨l, ys, rfl, h3, h4⟩ := sv.list st.ok.fh e1
    obtain ⟨ks, e2, e3, hk⟩ := isL_refs h4
    subst e2 e3
    refine ⟨l, ks, rfl, SqL.of h3, fun p hp => SqT.of (st.ok.fh _ _ (hk p hp)), by simpa using h64, fun a L na hL hall => ?_⟩
    have s2 := Step.own (o := SetTO X.prog X.w a L) st.ok na
    have hkL : ∀ p ∈ L, F1 p.1 = some (.tup (p.2.map V.int)) := fun p hp => hk p (hL p hp)
    refine ⟨a, L, d, Bd, rfl, upd_same, fun p hp => SqT.of (s2.ok.fh _ _ (hkL p hp)), hd, fun p hp => ?_, fun L' r pm nd _ pw hr => ?_⟩
    · exact hB p.2 (List.mem_map.mpr ⟨p, hL p hp, rfl⟩)
    · have s3 := Step.own (o := .lst (L'.map fun q => V.ref q.1)) s2.ok hr
      have s12 := st.trans E.ok s2
      refine k _ _ [r] F1 _ (z (L'.map (·.2)) (fun x => ?_) nd (List.pairwise_map.mpr pw)) (s12.trans E.ok s3) ⟨r, _, rfl, rfl, upd_same, refs_isL fun p hp => hkL p (pm.mem_iff.mp hp)⟩ ((new1 s2.ok hr).back E.ok s12)
      rw [List.mem_map, List.mem_map]
      constructor
      · rintro ⟨p, hp, rfl⟩; exact ⟨p, hL p (pm.mem_iff.mp hp), rfl⟩
      · rintro ⟨p, hp, rfl⟩
        obtain ⟨q, hq, e⟩ := List.mem_map.mp (hall p hp)
        exact ⟨q, pm.mem_iff.mpr hq, e⟩⟩⟩
end
/-! ### {k: v for a, b in ..} -/
def dDcT (pi : RI) (is : List Nat) (pk pv : RE) : RE := fun ρ Q => pi ρ fun xs => xs.length ≤ 100000 ∧ ∃ Iv : Nat → List (List Int × D) → Prop, Iv 0 [] ∧
  (∀ (n : Nat) x ys acc, xs[n]? = some x → tgP x ys → Iv n acc → pk (setsD (blk ρ is) is (ys.map .d)) fun sk => ∃ k, sk = .d (.ints k) ∧ pv (setsD (blk ρ is) is (ys.map .d)) fun sv => ∃ d, sv.frz = some d ∧ Iv (n + 1) (dput acc k d)) ∧
  (∀ (n : Nat) x, xs[n]? = some x → ∃ ys, tgP x ys) ∧ ∀ acc, Iv xs.length acc → Q (.ot acc)
section
variable {W : Amb} {X : Cx} {kx vx tg iter : Expr} {scope : Scope} {pos : Pos} {pi : RI} {pk pv : RE} {i j m : Nat} {x y : Str}
theorem pr_dcT (hr : Room m X.A) (hc : X.calm = true) (hN : X.N.Nodup) (hi : PId W X tg iter pi) (ok : BlkOk X.N X.env.scope scope [(x, i), (y, j)])
    (hg : ∀ (s : Shared) (H : Hp) (C : Addr) (cl : List (Str × Addr)) (fp : List Addr), PG (X.blk s H scope (compEnvC scope cl C X.env) fp) tg (gTup X.K 2 (gNames [i, j])))
    (hk : ∀ (s : Shared) (H : Hp) (C : Addr) (cl : List (Str × Addr)) (fp : List Addr), PRd W (X.blk s H scope (compEnvC scope cl C X.env) fp) kx pk)
    (hv : ∀ (s : Shared) (H : Hp) (C : Addr) (cl : List (Str × Addr)) (fp : List Addr), PRd W (X.blk s H scope (compEnvC scope cl C X.env) fp) vx pv) (hs : ∀ x, foldedSetIterable iter X.env x = pure x := by intro _; rfl) :
    PRd W X (.DictComp kx vx [⟨tg, iter, [], 0⟩] scope pos) (dDcT pi [i, j] pk pv) := ⟨fun F0 B => (pe_dcT (hu_of hr) hc hN (hi.run F0 B) ok hg (fun s H C cl fp => PE.ex fun S : Hp × Hp => (hk s H C cl fp).run S.1 S.2) (fun s H C cl fp => PE.ex fun S : Hp × Hp => (hv s H C cl fp).run S.1 S.2) hs).imp fun σ H Q ⟨F, ρ, K, E, q, k⟩ => by
  refine ⟨F, ρ, _, E, q, fun xs J F1 H1 ⟨hlen, Iv, i0, turn, htg, fin⟩ st wd Dn hD => ?_⟩
  obtain ⟨⟨G, Y, wk, hG, hY⟩⟩ := wd
  have E1 := E.step st
  have nA : ¬ W.A Dn := E1.ok.alive hD
  have st0 : Step W F1 H1 F1 (upd H1 Dn (.dT [])) := Step.own E1.ok hD
  refine ⟨fun n m H => m = xs.length - n ∧ n ≤ xs.length ∧ ∃ F2 acc ps, Iv n acc ∧ acc.length ≤ n ∧ Step W F1 H1 F2 H ∧ H Dn = some (.dT ps) ∧ IsT F2 ps acc ∧ F2 Dn = none, ⟨xs.length, by simp, Nat.zero_le _, F1, [], [], i0, Nat.le_refl _, st0, upd_same, trivial, E1.ok.fresh hD⟩, ?_⟩
  rintro n m H ⟨rfl, hn, F2, acc, ps, iv, hal, st2, hDl, il, nF⟩
  by_cases hlt : n < xs.length
  · refine .inr ⟨wk.goes n H hlt (hG F2 H st2.ff st2.ok), fun H => n + 1 ≤ xs.length ∧ ∃ F2 acc ps, Iv (n + 1) acc ∧ acc.length ≤ n + 1 ∧ Step W F1 H1 F2 H ∧ H Dn = some (.dT ps) ∧ IsT F2 ps acc ∧ F2 Dn = none, fun H' p' => ⟨xs.length - (n + 1), by omega, rfl, p'⟩, fun v H3 hy => ?_⟩
    obtain ⟨F3, x', hx, ix, st3⟩ := hY n H v H3 F2 hlt st2.ff st2.ok (wk.yields n H v H3 hlt (hG F2 H st2.ff st2.ok) hy)
    have keepD : ∀ {F4 H4}, Step W F2 H F4 H4 → H4 Dn = some (.dT ps) ∧ F4 Dn = none := fun {F4 H4} s4 => by
      refine ⟨s4.kp _ _ hDl nA, ?_⟩
      cases e : F4 Dn with
      | none => rfl
      | some o =>
        rcases s4.nw _ _ e with z | z
        · rw [nF] at z; cases z
        · rw [hDl] at z; cases z
    obtain ⟨ys, e1, e2⟩ := htg n x' hx
    subst e1
    obtain ⟨a, vs, rfl, h1, h2⟩ := ix.tup_inv
    have hv2 : vs.length = 2 := h2.length.trans e2
    refine ⟨a, vs, rfl, SqT.of (st3.ok.fh _ _ h1), hv2, gNames_of [i, j] hv2 ⟨?_, (F1, H1), ?_⟩⟩
    · match vs, hv2 with
      | [u, w], _ => exact wipe2 σ i j _ _
    have EB : Env ⟨W, F1, H1⟩ F1 H1 (L2.wipe σ [i, j]) (blk ρ [i, j]) := (E1.reb).wipe [i, j]
    have E3 : Env ⟨W, F1, H1⟩ F3 H3 (sets (L2.wipe σ [i, j]) [i, j] vs) (setsD (blk ρ [i, j]) [i, j] (ys.map .d)) := (EB.step (st2.trans E1.ok st3)).putsD [i, j] h2
    refine ⟨F3, _, _, E3, turn n _ ys acc hx ⟨rfl, e2⟩ iv, fun sk w as4 F4 H4 ⟨k', ek, z1⟩ st4 sv4 n4 => ⟨(F1, H1), F4, _, _, E3.step st4, z1, fun s5 w5 as5 F5 H5 ⟨d, ed, z2⟩ st5 sv5 n5 => ?_⟩⟩
    subst ek
    obtain ⟨F6, s6, i6, ff6⟩ := st5.frz st4.ok sv5 n5 ed
    obtain ⟨b, rfl, hb⟩ := sv4.2.key
    have s36 := (st3.trans st2.ok st4).trans st2.ok s6
    obtain ⟨d1, d2⟩ := keepD s36
    have hl := il.length
    refine ⟨ps, kT k', b, rfl, s6.ok.fh _ _ (s6.ff _ _ hb), d1, big5 (by omega), hlt, F6, dput acc k' d, _, z2, by have := dput_len acc k' d; omega, ?_, upd_same, (il.mono s36.ff).put kT_inj i6 k', d2⟩
    have sB := st2.trans E1.ok s36
    exact ⟨sB.ff, fun a o h na => by rw [upd_ne (ne_of_none h hD)]; exact sB.kp a o h na, sB.nw, sB.ok.write d2 nA⟩
  · have e : n = xs.length := by omega
    subst e
    exact .inl ⟨wk.stops H (hG F2 H st2.ff st2.ok), k (.ot acc) (.ref Dn) [Dn] F2 H (fin acc iv) (st.trans E.ok st2) ⟨Dn, ps, rfl, rfl, hDl, il⟩ ⟨by simp, fun a ha => by rw [List.mem_singleton.mp ha]; exact ⟨st.free E.ok hD, nF⟩⟩⟩⟩
end
/-! ### the empty cache -/
def tDNewM (w : World) : TE := fun _ H Q => ∀ p, H p = none → Q (.ref p) (upd H p (MxO w p []))
theorem pe_dnewM {X : Cx} {pos : Pos} : PE X (.Dict [] [] pos) (tDNewM X.w) := ⟨fun pins s σ H Q I h =>
  wpAny_Dict_empty ⟨.ref s.heap.objs.size, _, I.laid (a := s.heap.objs.size) (o := MxO X.w s.heap.objs.size []) (t' := s.toks) (fun _ _ q => Heap.get?_push_of_some _ q) (Nat.le_refl _)
    (mx_ok .nil (Heap.get?_push_size _ rfl) ⟨rfl, rfl, rfl⟩ rfl rfl (beq_eq_false_iff_ne.mpr (Ne.symm (Nat.ne_of_lt I.big)))), rfl, h _ (I.hok.fresh (Nat.le_refl _))⟩⟩
end DL
namespace DL
open PySem PySem.Spec L2 Tx MX
/-! ### the rows stand in ascending order -/
theorem code_snoc (B : Int) (v : Int) : ∀ r : List Int, TS.code B (r ++ [v]) = TS.code B r * B + v
  | [] => by simp [TS.code]
  | d :: r => by
    show d * B ^ (r ++ [v]).length + TS.code B (r ++ [v]) = (d * B ^ r.length + TS.code B r) * B + v
    rw [code_snoc B v r, List.length_append, List.length_singleton, Int.pow_succ, Int.add_mul, Int.mul_assoc]
    omega
theorem extR_asc {B : Int} {s : Nat} (hs : (s : Int) ≤ B) : ∀ {rows : List Row}, rows.Pairwise (fun q r => TS.code B q < TS.code B r) → (extR s rows).Pairwise (fun q r => TS.code B q < TS.code B r)
  | [], _ => by simp [extR]
  | r :: rows, h => by
    obtain ⟨h1, h2⟩ := List.pairwise_cons.mp h
    unfold extR
    rw [List.flatMap_cons]
    refine List.pairwise_append.mpr ⟨?_, extR_asc hs h2, fun a ha b hb => ?_⟩
    · refine List.pairwise_map.mpr (List.pairwise_lt_range.imp fun {i j} hij => ?_)
      rw [code_snoc, code_snoc]
      omega
    · obtain ⟨i, hi, rfl⟩ := List.mem_map.mp ha
      obtain ⟨q, hq, hb⟩ := List.mem_flatMap.mp hb
      obtain ⟨j, hj, rfl⟩ := List.mem_map.mp hb
      rw [code_snoc, code_snoc]
      have hi := List.mem_range.mp hi
      have c := h1 q hq
      have c2 : (TS.code B r + 1) * B ≤ TS.code B q * B := Int.mul_le_mul_of_nonneg_right (by omega) (by omega)
      rw [Int.add_mul, Int.one_mul] at c2
      omega
theorem allR_asc {B : Int} : ∀ (n : Nat) (sizes : List Nat), sizes.length = n → (∀ s ∈ sizes, (s : Int) ≤ B) → (allR sizes).Pairwise (fun q r => TS.code B q < TS.code B r)
  | 0, sizes, hn, _ => by rw [List.length_eq_zero_iff.mp hn]; simp [allR]
  | n + 1, sizes, hn, h => by
    have hne : sizes ≠ [] := fun e => by rw [e] at hn; simp at hn
    obtain ⟨l, s, rfl⟩ : ∃ l s, sizes = l ++ [s] := ⟨sizes.dropLast, sizes.getLast hne, (List.dropLast_concat_getLast hne).symm⟩
    rw [allR_snoc]
    exact extR_asc (h s (by simp)) (allR_asc n l (by simpa using hn) fun s hs => h s (by simp [hs]))
/-- two ascending lists of the same rows are one -/
theorem asc_rows {B : Int} {a b : List Row} (ha : a.Pairwise (fun q r => TS.code B q ≤ TS.code B r)) (na : a.Nodup) (hb : b.Pairwise (fun q r => TS.code B q < TS.code B r)) (m : ∀ r, r ∈ a ↔ r ∈ b) : a = b := by
  have nb : b.Nodup := hb.imp fun {x y} h e => by rw [e] at h; exact Int.lt_irrefl _ h
  have inj : ∀ x ∈ b, ∀ y ∈ b, TS.code B x = TS.code B y → x = y := fun x hx y hy e => by
    obtain ⟨i, hi⟩ := List.getElem?_of_mem hx
    obtain ⟨j, hj⟩ := List.getElem?_of_mem hy
    obtain ⟨li, ei⟩ := List.getElem?_eq_some_iff.mp hi
    obtain ⟨lj, ej⟩ := List.getElem?_eq_some_iff.mp hj
    rcases Nat.lt_trichotomy i j with h | h | h
    · have := List.pairwise_iff_getElem.mp hb i j li lj h
      rw [ei, ej] at this
      omega
    · subst h
      rw [← ei, ← ej]
    · have := List.pairwise_iff_getElem.mp hb j i lj li h
      rw [ei, ej] at this
      omega
  have e : a.map (TS.code B) = b.map (TS.code B) := asc_ext (List.pairwise_map.mpr ((List.pairwise_iff_getElem.mpr fun i j hi hj hij => by
      have h1 := List.pairwise_iff_getElem.mp ha i j hi hj hij
      have h2 := List.pairwise_iff_getElem.mp na i j hi hj hij
      by_cases h : TS.code B a[i] = TS.code B a[j]
      · exact absurd (inj _ ((m _).mp (List.getElem_mem hi)) _ ((m _).mp (List.getElem_mem hj)) h) h2
      · omega) : a.Pairwise fun q r => TS.code B q < TS.code B r)) (List.pairwise_map.mpr hb) fun k => by
    rw [List.mem_map, List.mem_map]
    constructor
    · rintro ⟨x, hx, rfl⟩; exact ⟨x, (m x).mp hx, rfl⟩
    · rintro ⟨x, hx, rfl⟩; exact ⟨x, (m x).mpr hx, rfl⟩
  refine List.ext_getElem? fun i => ?_
  have ei : (a.map (TS.code B))[i]? = (b.map (TS.code B))[i]? := by rw [e]
  rw [List.getElem?_map, List.getElem?_map] at ei
  cases h1 : a[i]? with
  | none =>
    rw [h1] at ei
    cases h2 : b[i]? with
    | none => rfl
    | some y => rw [h2] at ei; cases ei
  | some x =>
    rw [h1] at ei
    cases h2 : b[i]? with
    | none => rw [h2] at ei; cases ei
    | some y =>
      rw [h2] at ei
      have ei : TS.code B x = TS.code B y := Option.some.inj ei
      rw [inj x ((m x).mp (List.mem_of_getElem? h1)) y (List.mem_of_getElem? h2) ei]
section
variable {P : Program} {w : World} {K : PySem.W.Frag} {mg : Str → Option Value} {base : Heap} {C T : Addr}
/-- is_state_of, the sizes in a list, a row of theirs -/
def s_is_state_ofT : DSpec := fun _ ds Q => ∃ (sizes : List Nat) (x : D) (r : Row), ds = [.lst ((natsI sizes).map .int), x] ∧ x.sq = some (r.map .int) ∧ r.length = sizes.length ∧ sizes.length ≤ 1000 ∧ (∀ (i : Nat) v z, r[i]? = some v → sizes[i]? = some z → 0 ≤ v ∧ v < (z : Int)) ∧ Q (.bl true)
theorem c_is_state_ofT (ft : Fts mg) (c_is_index : Cl P w K mg base 4 "is_index" 2 s_is_index) (c_is_sequence : Cl P w K mg base 2 "is_sequence" 1 s_is_sequence) (d : DF K mg "is_state_of" f_is_state_of) : Cl P w K mg base 5 "is_state_of" 2 s_is_state_ofT :=
  cl_of (k := 4) d sc_is_state_of rfl (fun _ _ _ _ _ _ us hl => match us, hl with | [_, _], _ => rfl) (fun W ds K h => by obtain ⟨_, _, _, e, _⟩ := h; rw [e]; rfl) (fun a W cdv A outer s H E hr =>
  have nd := sc_is_state_of.nd
  (ssd_cons (sd_if (PWd.t (pwd_or (ptd_not (pt_v (PRd.e (pr_call c_is_sequence (hr.mono (by decide)) rfl (pad_cons (pr_var (pv 1)) pad_nil))))) (pwd_or1 (pt_neS (PRd.e (pr_len rfl ft.m_len (pd_var (pv 1)))) (PRd.e (pr_len rfl ft.m_len (pd_var (pv 0)))))))) (ssd_one (sd_ret pr_bl)) ssd_nil) (ssd_one (sd_ret (pr_all rfl rfl ft.m_all (PRd.e (pr_lcP (i := 2) (j := 3) rfl nd (id_zz rfl ft.m_zip (pad_cons (pr_var (pv 1)) (pad_cons (pr_var (pv 0)) pad_nil))) (bok (own := [("one", 2), ("size", 3)]) rfl) (fun _ _ _ _ _ => pg_tup rfl (pgs_cons (pg_name (i := 2) nd rfl (Or.inl rfl)) (pgs_cons (pg_name (i := 3) nd rfl (Or.inl rfl)) pgs_nil))) (fun _ _ _ _ _ => ptsd_nil) (fun _ _ _ _ _ => (pr_call c_is_index (hr.mono (by decide)) rfl (pad_cons (pr_var (pv 2)) (pad_cons (pr_var (pv 3)) pad_nil)))))))))))
   (fun W ds Q0 h => by
    obtain ⟨sizes, x, r, rfl, hq, hl, hz, hb, z⟩ := h
    have hlr : (r.map D.int).length = sizes.length := by simpa using hl
    have hls : ((natsI sizes).map D.int).length = sizes.length := by simp [natsI]
    have e : x = .lst (r.map .int) ∨ x = .tup (r.map .int) := D.sq_cases hq
    have hk : x.kd = true := by rcases e with e | e <;> rw [e] <;> rfl
    have hs : x.isSeq = true := by rcases e with e | e <;> rw [e] <;> rfl
    have hseq : (Sd.d x).seq = some (r.map .int) := by rcases e with e | e <;> rw [e] <;> rfl
    refine ⟨_, rfl, _, rfl, x, rfl, hk, _, rfl, fun hb1 => ?_, fun _ => ?_⟩
    · rw [hs] at hb1; cases hb1
    refine ⟨_, rfl, nofun, _, _, rfl, hseq, _, rfl, nofun, _, _, rfl, rfl, _, _, _, rfl, rfl, rfl, _, rfl, fun hb1 => ?_, fun _ => ?_⟩
    · rw [hlr, hls] at hb1
      simp at hb1
    refine uNext ?_
    dsimp only
    refine uRetAll (lcP (xs := zipD (r.map .int) ((natsI sizes).map .int)) (fun _ => true) idxP (fun K' h' => ⟨x, rfl, x, rfl, _, rfl, _, rfl, x, _, _, _, rfl, hq, rfl, h'⟩) (by rw [zipD_len]; omega) (fun y hy => ?_) (fun a b _ K' k' => k') (fun a b hy _ K' k' => ?_) ?_)
    · obtain ⟨a, b, _, _, e⟩ := mem_zipD hy
      exact ⟨a, b, e⟩
    · obtain ⟨a', b', ha, hb, e⟩ := mem_zipD hy
      cases e
      obtain ⟨m, _, rfl⟩ := List.mem_map.mp hb
      obtain ⟨v, _, rfl⟩ := List.mem_map.mp ha
      exact ⟨_, rfl, _, rfl, _, rfl, _, rfl, _, m, rfl, rfl, k' _ rfl⟩
    · rw [filter_tt, zip_map_idx]
      refine ⟨_, _, rfl, rfl, _, rfl, ?_⟩
      have ht : (List.zipWith (fun x s => D.isIdx s x) (r.map .int) (natsI sizes)).all _root_.id = true := by
        rw [List.all_eq_true]
        intro c hc
        obtain ⟨i, hi⟩ := List.getElem?_of_mem hc
        rw [List.getElem?_zipWith] at hi
        unfold natsI at hi
        rw [List.getElem?_map, List.getElem?_map] at hi
        cases h1 : r[i]? with
        | none => rw [h1] at hi; cases hi
        | some v =>
          cases h2 : sizes[i]? with
          | none => rw [h1, h2] at hi; cases hi
          | some s =>
            rw [h1, h2] at hi
            cases hi
            have := hb i v s h1 h2
            show (decide (0 ≤ v) && decide (v < (s : Int))) = true
            simp
            exact this
      rw [ht]
      exact z)
end
end DL
namespace DL
open PySem PySem.Spec L2 Tx MX
section
variable {P : Program} {w : World} {K : PySem.W.Frag} {mg : Str → Option Value} {base : Heap} {C T : Addr}
def fieldsS (sizes : List Nat) (S : List Row) (kvs : List (Row × D)) : List (Str × D) := [("key_count", .int (sizes.length : Nat)), ("sizes", .ints (natsI sizes)), ("states", .tup (rowsD S)), ("_index", .dct kvs)]
structure IxOk (S : List Row) (kvs : List (Row × D)) : Prop where
  at' : ∀ (i : Nat) r, S[i]? = some r → dget kvs r = some (.int (i : Nat))
  no : ∀ r, r ∉ S → dget kvs r = none
/-- the states as they are given -/
structure GivenOk (S : List Row) (xs : List D) : Prop where
  few : xs.length ≤ S.length + 1
  sub : ∀ x ∈ xs, ∃ r ∈ S, x = .ints r ∨ x = .lst (r.map .int)
  all : ∀ r ∈ S, ∃ x ∈ xs, x.sq = some (r.map .int)
def spInit (K : PySem.W.Frag) (w : World) (C : Addr) : Sp := fun vs H Q _ => ∃ (W : Amb) (F : Hp) (a dx : Addr) (v1 v2 : V) (sizes : List Nat) (xs : List D) (S : List Row), vs = [.ref a, v1, v2] ∧ Okay W F H ∧ H a = some (.ins C dx []) ∧ F a = none ∧ ¬ W.A a ∧ Is F v1 (.lst ((natsI sizes).map .int)) ∧ Is F v2 (.lst xs) ∧
  SizesOk sizes ∧ S ≠ [] ∧ S.Sublist (allR sizes) ∧ S.length ≤ 24 ∧ GivenOk S xs ∧
  ∀ (F' H' : Hp) (fd dx' : Addr) (ps : List (Str × V)) (kvs : List (Row × D)), Same F F' → (∀ b o, H b = some o → ¬ W.A b → b ≠ a → H' b = some o) → (∀ b o, F' b = some o → F b = some o ∨ H b = none) → Okay W F' H' → F' a = none → H' a = some (.ins C dx' (ps ++ ([("_found", V.ref fd)] : List (Str × V)))) → IsKV (id : Str → Str) F' ps (fieldsS sizes S kvs) →
    IxOk S kvs → H fd = none → F' fd = none → fd ≠ a → ¬ W.A fd → H' fd = some (MxO w fd []) → Q .non H'
theorem rows_bound {sizes : List Nat} {S : List Row} (ok : SizesOk sizes) (hS : S.Sublist (allR sizes)) {r : Row} (hr : r ∈ S) : r.length = sizes.length ∧ (∀ (i : Nat) v z, r[i]? = some v → sizes[i]? = some z → 0 ≤ v ∧ v < (z : Int)) ∧ ∀ m ∈ r, 0 ≤ m ∧ m < 4 := by
  obtain ⟨h1, h2⟩ := allR_row r (hS.subset hr)
  refine ⟨h1, h2, fun m hm => ?_⟩
  obtain ⟨i, hi⟩ := List.getElem?_of_mem hm
  have hlt := (List.getElem?_eq_some_iff.mp hi).1
  rw [h1] at hlt
  have h3 := h2 i m sizes[i] hi (by simp [hlt])
  have h4 := (ok.one sizes[i] (List.getElem_mem hlt)).2
  omega
def unR : D → D
  | .lst xs => .tup xs
  | x => x
theorem given_rows {S : List Row} {xs : List D} (g : ∀ x ∈ xs, ∃ r ∈ S, x = .ints r ∨ x = .lst (r.map .int)) : ∃ rows : List Row, xs.map unR = rowsD rows ∧ rows.length = xs.length ∧ ∀ r, r ∈ rows ↔ ∃ x ∈ xs, x.sq = some (r.map .int) := by
  induction xs with
  | nil => exact ⟨[], rfl, rfl, fun r => by simp⟩
  | cons x xs ih =>
    obtain ⟨rows, e, hl, h⟩ := ih fun y hy => g y (by simp [hy])
    obtain ⟨r, _, hr⟩ := g x (by simp)
    have hx : x.sq = some (r.map .int) := by rcases hr with hr | hr <;> rw [hr] <;> rfl
    have hu : unR x = .ints r := by rcases hr with hr | hr <;> rw [hr] <;> rfl
    refine ⟨r :: rows, by rw [List.map_cons, hu, e]; rfl, by simp [hl], fun q => ?_⟩
    rw [List.mem_cons, h q]
    constructor
    · rintro (rfl | ⟨y, hy, hq⟩)
      · exact ⟨x, by simp, hx⟩
      · exact ⟨y, by simp [hy], hq⟩
    · rintro ⟨y, hy, hq⟩
      rcases List.mem_cons.mp hy with rfl | hy
      · rw [hx] at hq
        have e : r.map D.int = q.map D.int := Option.some.inj hq
        have : (D.ints r) = .ints q := congrArg D.tup e
        have e2 := congrArg unI this
        rw [unI_ints, unI_ints] at e2
        exact .inl e2.symm
      · exact .inr ⟨y, hy, hq⟩
theorem uSortF {i : Nat} {f : Str} {pi : RI} {is : List Nat} {tg : D → List D → Prop} {pt : RT} {pe : RE} {ρ : List Sd} {KK : DE} {q : RS} (h : dLc pi is tg pt pe ρ fun s => ∃ (rows : List Row) (d : Nat) (Bd : Int), s.list = some (rowsD rows) ∧ rows.length < 64 ∧ 1 ≤ d ∧ (∀ r ∈ rows, r.length = d ∧ ∀ m ∈ r, 0 ≤ m ∧ m < Bd) ∧
    ∀ rows' : List Row, (∀ r, r ∈ rows' ↔ r ∈ rows) → rows'.Nodup → rows'.Pairwise (fun q r => TS.code Bd q ≤ TS.code Bd r) → gTuple [.ol (rowsD rows')] fun sv => ∃ d a C fs, sv.frz = some d ∧ ρ[i]? = some (.ob a C fs) ∧ Cls K C ∧ NoAttr K C f ∧ fs.lookup f = none ∧ fs.length < 1000 ∧ q KK (ρ.set i (.ob a C (fs ++ [(f, d)])))) :
    sSeq (sSetF K i f (dCB gTuple (vCons (dSortT (dLc pi is tg pt pe)) vNil))) q KK ρ := h
theorem sc_init : FnScope ["self", "sizes", "states", "size", "at", "state"] ["self", "sizes", "states"] (defScope m_init) := ⟨rfl, rfl, rfl, by decide +kernel, rfl, by decide +kernel, by decide +kernel⟩
theorem init_env {W : Amb} {F H : Hp} {a C dx : Addr} {v1 v2 : V} {d1 d2 : D} (ok : Okay W F H) (ha : H a = some (.ins C dx [])) (na : F a = none) (nA : ¬ W.A a) (i1 : Is F v1 d1) (i2 : Is F v2 d2) :
    Env ⟨W, F, fun b => if b = a then none else H b⟩ F H [some (.ref a), some v1, some v2, none, none, none] [.ob a C [], .d d1, .d d2, .any, .any, .any] := by
  refine ⟨ok, Same.refl _, fun b o h _ => ?_, fun b o h => .inl h, [[a], [], [], [], [], []], by simp, fun b hb => ?_, ⟨.ref a, rfl, dx, [], rfl, rfl, ha, trivial⟩, ⟨v1, rfl, rfl, i1⟩, ⟨v2, rfl, rfl, i2⟩, rfl, rfl, rfl, trivial⟩
  · have h : (if b = a then none else H b) = some o := h
    split at h
    · cases h
    · exact h
  · have : b = a := by simpa using hb
    subst this
    exact ⟨na, if_pos rfl, nA⟩
theorem init_ok {fa : Addr} {fd : FuncData} (ft : Fts mg) (c_is_number : Cl P w K mg base 3 "is_number" 1 s_is_number) (c_is_sequence : Cl P w K mg base 2 "is_sequence" 1 s_is_sequence) (c_is_state_of : Cl P w K mg base 5 "is_state_of" 2 s_is_state_ofT) (hcl : Cls K C) (hna : ∀ f ∈ (["key_count", "sizes", "states", "_index", "_found"] : List Str), NoAttr K C f)
    (Fn : FunD K "__init__" "Store.__init__" (defArgs m_init) (defBody m_init) (defScope m_init) [] [] fa fd) : FnOk P w K mg base CX0 6 fa fd ["self", "sizes", "states"] (spInit K w C) := by
  have S0 := sc_init
  have nd := S0.nd
  refine Fn.ok S0 (fun vs H Q E ⟨W, F, a, dx, v1, v2, sizes, xs, S, e, _⟩ => by rw [e]; rfl) fun cdv A outer s H vs Q E hr ⟨W, F, a, dx, v1, v2, sizes, xs, S, e, ok, ha, na, nA, i1, i2, hok, hne, hS, hS24, hg, z⟩ => ?_
  subst e
  refine ⟨_, PSs.nox (raw_cons (W := W) (F0 := F) (B := fun b => if b = a then none else H b) (sd_if (PWd.t (pwd_or (ptd_not (pt_v (PRd.e (pr_call c_is_sequence (hr.mono (by decide)) rfl (pad_cons (pr_var (pv 1)) pad_nil))))) (pwd_or (pt_eqS (PRd.e (pr_len rfl ft.m_len (pd_var (pv 1)))) (PRd.e pr_int)) (pwd_or1 (ptd_not (pt_v (PRd.e (pr_all rfl rfl ft.m_all (PRd.e (pr_lc (i := 3) rfl nd (id_ss (pr_var (pv 1))) (bok (own := [("size", 3)]) rfl) (fun _ _ _ _ _ => pg_name (i := 3) nd rfl (Or.inl rfl)) (fun _ _ _ _ _ => ptsd_nil) (fun _ _ _ _ _ => (pr_and (PRd.e (pr_call c_is_number (hr.mono (by decide)) rfl (pad_cons (pr_var (pv 3)) pad_nil))) (pr_one (pr_gt (pd_var (pv 3)) (PRd.e pr_int))))))))))))))) (ssd_one sd_never) ssd_nil)
    (raw_cons (sd_if (PWd.t (pwd_or (ptd_not (pt_v (PRd.e (pr_call c_is_sequence (hr.mono (by decide)) rfl (pad_cons (pr_var (pv 2)) pad_nil))))) (pwd_or1 (pt_eqS (PRd.e (pr_len rfl ft.m_len (pd_var (pv 2)))) (PRd.e pr_int))))) (ssd_one sd_never) ssd_nil)
    (raw_cons (sd_for PassesOwn.never rfl (id_ee rfl ft.m_enumerate (pad_cons (pr_var (pv 2)) pad_nil)) (gd_tup (is := [4, 5]) rfl (pgs_cons (pg_name (i := 4) nd rfl (Or.inl rfl)) (pgs_cons (pg_name (i := 5) nd rfl (Or.inl rfl)) pgs_nil))) (ssd_one (sd_if (ptd_not (pt_v (PRd.e (pr_call c_is_state_of (hr.mono (by decide)) rfl (pad_cons (pr_var (pv 1)) (pad_cons (pr_var (pv 5)) pad_nil)))))) (ssd_one sd_never) ssd_nil)))
    (raw_cons (sd_setF (K := K) rfl (pv 0) (pr_len rfl ft.m_len (pd_var (pv 1))))
    (raw_cons (sd_setF (K := K) rfl (pv 0) (pr_tuple rfl ft.m_tuple (pd_var (pv 1))))
    (raw_cons (sd_setF (K := K) rfl (pv 0) (pr_tuple rfl ft.m_tuple (PRd.e (pr_sortSetT hr rfl rfl ft.m_sorted rfl ft.m_set (PRd.e (pr_lc (i := 5) rfl nd (id_ss (pr_var (pv 2))) (bok (own := [("state", 5)]) rfl) (fun _ _ _ _ _ => pg_name (i := 5) nd rfl (Or.inl rfl)) (fun _ _ _ _ _ => ptsd_nil) (fun _ _ _ _ _ => (pr_tuple rfl ft.m_tuple (pd_var (pv 5))))))))))
    (raw_cons (sd_setF (K := K) rfl (pv 0) (pr_dcT (i := 4) (j := 5) hr rfl nd (id_ee rfl ft.m_enumerate (pad_cons (pr_obF (K := K) rfl (pv 0)) pad_nil)) (bok (own := [("at", 4), ("state", 5)]) rfl) (fun _ _ _ _ _ => pg_tup rfl (pgs_cons (pg_name (i := 4) nd rfl (Or.inl rfl)) (pgs_cons (pg_name (i := 5) nd rfl (Or.inl rfl)) pgs_nil))) (fun _ _ _ _ _ => (pr_var (pv 5))) (fun _ _ _ _ _ => (pr_var (pv 4)))))
    (raw_nil (pss_one (ps_fld (tv := tDNewM w) (pv 0) pe_dnewM rfl)))))))))), ?_⟩
  have few := hok.few
  refine ⟨F, _, { nx := fun ρ => ∃ kvs x3 x4 x5, ρ = [.ob a C (fieldsS sizes S kvs), .d (.lst ((natsI sizes).map .int)), .d (.lst xs), x3, x4, x5] ∧ IxOk S kvs, rt := fun _ => False }, init_env ok ha na nA i1 i2, ?_, fun ρ' σ' F' H' ⟨kvs, x3, x4, x5, e, hix⟩ E' => ?_, fun _ _ _ _ h => h.elim, fun _ _ _ _ h => h.elim, fun _ _ _ _ h => h.elim⟩
  · have hsz : ∀ m ∈ sizes, 1 ≤ m := fun m hm => (hok.one m hm).1
    have hsl : sizes.length ≠ 0 := fun e => hok.ne (List.length_eq_zero_iff.mp e)
    have hxl : xs ≠ [] := fun e => by
      obtain ⟨r, hr⟩ := List.exists_mem_of_ne_nil S hne
      obtain ⟨x, hx, _⟩ := hg.all r hr
      rw [e] at hx
      cases hx
    have hxf := hg.few
    refine ⟨_, rfl, _, rfl, _, rfl, rfl, _, rfl, fun hb => (by cases hb), fun _ => ⟨_, rfl, nofun, _, _, rfl, rfl, _, _, _, rfl, rfl, rfl, _, rfl, fun hb => ?_, fun _ => ?_⟩⟩
    · have : ((natsI sizes).map D.int).length = sizes.length := by simp [natsI]
      rw [this] at hb
      have := of_decide_eq_true hb
      omega
    refine uAllT (lcN (xs := (natsI sizes).map .int) (fun _ => true) (fun _ => .bl true) (fun K' h' => ⟨_, rfl, _, _, rfl, rfl, h'⟩) (by simp [natsI]; omega) (fun y hy K' k' => k') (fun y hy _ K' k' => ?_) ?_)
    · obtain ⟨k, hk, rfl⟩ := mem_nats hy
      have := hsz k hk
      refine ⟨_, rfl, _, rfl, _, rfl, rfl, _, rfl, fun _ => ⟨_, rfl, nofun, _, _, rfl, rfl, k' _ ?_⟩, fun h => ?_⟩
      · show some (D.bl (decide ((0 : Int) < (k : Nat)))) = some (.bl true)
        rw [decide_eq_true (by omega)]
      · have h : decide (0 ≤ (k : Int)) = false := h
        have := of_decide_eq_false h
        omega
    rw [filter_tt]
    have em : ((natsI sizes).map D.int).map (fun _ => D.bl true) = (sizes.map fun _ => true).map .bl := by
      unfold natsI
      rw [List.map_map, List.map_map, List.map_map]
      rfl
    rw [em]
    refine ⟨_, _, rfl, rfl, _, rfl, fun hb => ?_, fun _ => ?_⟩
    · have : ((sizes.map fun _ => true).all _root_.id) = true := by simp
      rw [this] at hb
      cases hb
    refine uNext ?_
    dsimp only
    refine ⟨_, rfl, _, rfl, _, rfl, rfl, _, rfl, fun hb => (by cases hb), fun _ => ⟨_, rfl, nofun, _, _, rfl, rfl, _, _, _, rfl, rfl, rfl, _, rfl, fun hb => ?_, fun _ => ?_⟩⟩
    · have := of_decide_eq_true hb
      exact absurd (List.length_eq_zero_iff.mp (by omega)) hxl
    refine uNext ?_
    dsimp only
    refine ⟨_, rfl, _, rfl, _, _, rfl, rfl, fun i ρ => ∃ x4 x5, ρ = [.ob a C [], .d (.lst ((natsI sizes).map .int)), .d (.lst xs), .any, x4, x5], ⟨_, _, rfl⟩, ?_, ?_⟩
    · rintro i x ρ hx ⟨x4, x5, rfl⟩
      obtain ⟨y, hy, rfl⟩ : ∃ y, xs[i]? = some y ∧ x = .tup [.int (i : Nat), y] := by
        unfold enumD at hx
        rw [List.getElem?_mapIdx] at hx
        cases e : xs[i]? with
        | none => rw [e] at hx; cases hx
        | some m => rw [e] at hx; cases hx; exact ⟨m, rfl, rfl⟩
      obtain ⟨r, hr, hyr⟩ := hg.sub y (List.mem_of_getElem? hy)
      obtain ⟨rl, rb, _⟩ := rows_bound hok hS hr
      refine ⟨_, rfl, rfl, ?_⟩
      refine ⟨_, rfl, _, rfl, _, rfl, _, rfl, sizes, y, r, rfl, by rcases hyr with e | e <;> rw [e] <;> rfl, rl, by omega, rb, _, rfl, nofun, fun _ => ?_⟩
      exact ⟨_, _, rfl⟩
    rintro ρ ⟨x4, x5, rfl⟩
    dsimp only
    refine ⟨_, rfl, nofun, _, _, rfl, rfl, _, a, C, _, rfl, rfl, hcl, hna _ (by simp), rfl, by decide, ?_⟩
    refine ⟨_, rfl, nofun, _, _, rfl, rfl, _, a, C, _, rfl, rfl, hcl, hna _ (by simp), by rfl, by simp, ?_⟩
    obtain ⟨rows, er, hrl, hrm⟩ := given_rows hg.sub
    have hmem : ∀ r, r ∈ rows ↔ r ∈ S := fun r => by
      rw [hrm r]
      constructor
      · rintro ⟨x, hx, hq⟩
        obtain ⟨q, hq1, hq2⟩ := hg.sub x hx
        have h3 : x.sq = some (q.map .int) := by rcases hq2 with e | e <;> rw [e] <;> rfl
        rw [hq] at h3
        have e2 := congrArg unI (congrArg D.tup (Option.some.inj h3))
        have e3 : unI (.ints r) = unI (.ints q) := e2
        rw [unI_ints, unI_ints] at e3
        rw [e3]; exact hq1
      · exact hg.all r
    dsimp only
    refine uSortF ?_
    refine lcN (xs := xs) (fun _ => true) unR (fun K' h' => ⟨_, rfl, _, _, rfl, rfl, h'⟩) (by omega) (fun y hy K' k' => k') (fun y hy _ K' k' => ?_) ?_
    · obtain ⟨r, _, hr⟩ := hg.sub y hy
      rcases hr with e | e <;> subst e <;> exact ⟨_, rfl, nofun, _, _, rfl, rfl, k' _ rfl⟩
    rw [filter_tt, er]
    refine ⟨rows, sizes.length, 4, rfl, by omega, by omega, fun r hr => ?_, fun rows' hm nd' pw => ?_⟩
    · obtain ⟨h1, _, h3⟩ := rows_bound hok hS ((hmem r).mp hr)
      exact ⟨h1, h3⟩
    have eS : rows' = S := asc_rows pw nd' ((allR_asc (B := 4) sizes.length sizes rfl fun s hs => by have := (hok.one s hs).2; omega).sublist hS) fun r => (hm r).trans (hmem r)
    subst eS
    refine ⟨_, _, rfl, rfl, _, a, C, _, rfl, rfl, hcl, hna _ (by simp), by rfl, by simp, ?_⟩
    have hnd : rows'.Nodup := nd'
    refine ⟨a, C, _, .tup (rowsD rows'), rfl, hcl, hna _ (by simp), by rfl, _, rfl, _, _, rfl, rfl, by rw [enumD_len, rowsD_len]; omega, fun n acc => (∀ (i : Nat) r, i < n → rows'[i]? = some r → dget acc r = some (.int (i : Nat))) ∧ ∀ r, r ∉ rows' → dget acc r = none, ⟨fun i r h => absurd h (Nat.not_lt_zero _), fun r _ => rfl⟩, fun n x ys acc hx ht ⟨q1, q2⟩ => ?_, fun n x hx => ?_, fun acc ⟨q1, q2⟩ => ?_⟩
    · obtain ⟨r, hr, rfl⟩ := enum_at hx
      obtain ⟨e, _⟩ := ht
      cases e
      refine ⟨_, rfl, r, rfl, _, rfl, _, rfl, fun i q hi hq => ?_, fun q hq => ?_⟩
      · rw [dget_dput]
        by_cases e : q = r
        · subst e
          have := (List.getElem?_inj (List.getElem?_eq_some_iff.mp hr).1 hnd).mp (hr.trans hq.symm)
          rw [if_pos rfl, this]
        · rw [if_neg e]
          refine q1 i q ?_ hq
          by_cases e2 : i = n
          · subst e2
            rw [hr] at hq
            cases hq
            exact absurd rfl e
          · omega
      · rw [dget_dput, if_neg (fun e => hq (by rw [e]; exact List.mem_of_getElem? hr))]
        exact q2 q hq
    · obtain ⟨r, hr, rfl⟩ := enum_at hx
      exact ⟨_, rfl, rfl⟩
    · refine ⟨_, a, C, _, rfl, rfl, hcl, hna _ (by simp), by rfl, by simp, ?_⟩
      have el : ((natsI sizes).map D.int).length = sizes.length := by simp [natsI]
      refine ⟨acc, .any, x4, x5, by rw [el]; rfl, fun i r h => q1 i r (by rw [enumD_len, rowsD_len]; exact (List.getElem?_eq_some_iff.mp h).1) h, q2⟩
  · subst e
    obtain ⟨v0, as, g1, ⟨dx', ps, rfl, rfl, g2, g3⟩, g4⟩ := E'.get (i := 0) rfl (by intro z; cases z)
    obtain ⟨g5, g6, g7⟩ := g4 a (by simp)
    refine fun fd hfd => ⟨_, g1, a, C, dx', ps, rfl, ?_, hcl, hna _ (by simp), ?_, ?_⟩
    · rw [upd_ne (ne_of_none g2 hfd)]; exact g2
    · have := g3.length
      rw [this]
      exact (by decide : (4 : Nat) < 1000)
    have nfa : fd ≠ a := fun e => by rw [e, g2] at hfd; cases hfd
    obtain ⟨b1, b2, b3⟩ := E'.free hfd
    have b1 : (if fd = a then none else H fd) = none := b1
    rw [if_neg nfa] at b1
    rw [putF_new (isKV_no g3 (by rfl))]
    have keep : ∀ b, b ≠ a → b ≠ fd → upd (upd H' fd (MxO w fd [])) a (.ins C dx' (ps ++ ([("_found", V.ref fd)] : List (Str × V)))) b = H' b := fun b h1 h2 => by rw [upd_ne h1, upd_ne h2]
    refine z F' _ fd dx' ps kvs E'.f0 (fun b o hb nb ne => ?_) (fun b o hb => ?_) ⟨fun b o hb => ?_, E'.ok.na, ?_⟩ g5 upd_same g3 hix b1 b2 nfa b3 ?_
    · rw [keep b ne (fun e => by rw [e, b1] at hb; cases hb)]
      exact E'.kp b o (by show (if b = a then none else H b) = some o; rw [if_neg ne]; exact hb) nb
    · rcases E'.nw b o hb with h | h
      · exact .inl h
      · have h : (if b = a then none else H b) = none := h
        by_cases e : b = a
        · rw [e, g5] at hb; cases hb
        · rw [if_neg e] at h; exact .inr h
    · rw [keep b (fun e => by rw [e, g5] at hb; cases hb) (fun e => by rw [e, b2] at hb; cases hb)]
      exact E'.ok.fh b o hb
    · exact W.mono (Same.refl _) (fun b hb => keep b (fun e => nA (by rw [← e]; exact hb)) (fun e => b3 (by rw [← e]; exact hb))) E'.ok.j
    · rw [upd_ne nfa, upd_same]
end
end DL
namespace DL
open PySem PySem.Spec L2 Tx MX
section
variable {P : Program} {w : World} {K : PySem.W.Frag} {mg : Str → Option Value} {base : Heap} {C T : Addr}
/-- all states have chains -/
def JoinS (S : List Row) : Prop := ∀ s ∈ S, ∀ t ∈ S, joinedP S s t
/-- what torn_plans tells -/
def Told (S : List Row) (n : Nat) (v : D) : Prop := (JoinS S → v = .non) ∧ (¬ JoinS S → TornV S n v)
theorem told_call {W : Amb} {a : Addr} {S : List Row} {sizes : List Nat} {i : Nat} {ρ : List Sd} {Q : Sd → Prop} (hi : ρ[i]? = some (.d (.ref a))) (hA : HasAll K w C T W a S sizes) (z : ∀ v, Told S sizes.length v → Q (.d v)) : dCall W (s_torn_plans K w C T) (dCons (dVar i) dNil) ρ Q :=
  ⟨_, hi, _, rfl, a, S, sizes, rfl, hA, fun h => z _ ⟨fun _ => rfl, fun g => absurd h g⟩, fun h v hv => z v ⟨fun g => absurd g h, fun _ => hv⟩⟩
theorem told_kw {W : Amb} {a : Addr} {S : List Row} {sizes : List Nat} {i : Nat} {ρ : List Sd} {Q : Sd → Prop} (hi : ρ[i]? = some (.d (.ref a))) (hA : HasAll K w C T W a S sizes) (z : ∀ v, Told S sizes.length v → Q (.d v)) : dKw1 W (s_torn_plans K w C T) (dVar i) ρ Q :=
  ⟨_, hi, _, rfl, a, S, sizes, rfl, hA, fun h => z _ ⟨fun _ => rfl, fun g => absurd h g⟩, fun h v hv => z v ⟨fun g => absurd g h, fun _ => hv⟩⟩
theorem told_two {W : Amb} {a : Addr} {S : List Row} {sizes : List Nat} {i : Nat} {ρ : List Sd} {R : List D → Prop} (hi : ρ[i]? = some (.d (.ref a))) (hA : HasAll K w C T W a S sizes) (z : ∀ v1 v2, Told S sizes.length v1 → Told S sizes.length v2 → R [v1, v2]) : iS (dLst (dCons (dCall W (s_torn_plans K w C T) (dCons (dVar i) dNil)) (dCons (dKw1 W (s_torn_plans K w C T) (dVar i)) dNil))) ρ R := by
  refine told_call (Q := fun s => ∃ d, s.frz = some d ∧ dCons (dKw1 W (s_torn_plans K w C T) (dVar i)) dNil ρ fun ds => (d :: ds).length ≤ 100000 ∧ ∃ d' xs, (Sd.ol (d :: ds)).frz = some d' ∧ d'.sq = some xs ∧ R xs) hi hA fun v1 h1 => ⟨_, rfl, ?_⟩
  refine told_kw (Q := fun s => ∃ d, s.frz = some d ∧ dNil ρ fun ds => (v1 :: d :: ds).length ≤ 100000 ∧ ∃ d' xs, (Sd.ol (v1 :: d :: ds)).frz = some d' ∧ d'.sq = some xs ∧ R xs) hi hA fun v2 h2 => ⟨_, rfl, ?_⟩
  exact ⟨by simp, _, _, rfl, rfl, z v1 v2 h1 h2⟩
theorem told_for {W : Amb} {a : Addr} {S : List Row} {sizes : List Nat} {i : Nat} {ρ : List Sd} {g : RG} {p : RS} {KK : DE} (hi : ρ[i]? = some (.d (.ref a))) (hA : HasAll K w C T W a S sizes) (z : ∀ v1 v2, Told S sizes.length v1 → Told S sizes.length v2 → sFor (fun _ K' => K' [v1, v2]) g p KK ρ) : sFor (iS (dLst (dCons (dCall W (s_torn_plans K w C T) (dCons (dVar i) dNil)) (dCons (dKw1 W (s_torn_plans K w C T) (dVar i)) dNil)))) g p KK ρ := told_two hi hA z
structure ShapeV (S : List Row) (v : D) : Prop where
  ex : ∃ r1 r2 l1 l2 q : List Int, v = .tup [.ints r1, .ints r2, .ints l1, .ints l2, .ints q] ∧ q.length = S.length ∧ r1.length ≤ 50 ∧ r2.length ≤ 50 ∧ l1.length ≤ 50 ∧ l2.length ≤ 50
theorem LotOk.len {n : Nat} {l : List Nat} (h : LotOk n l) : (natsI l).length ≤ n := by
  have := lot_len h
  simpa [natsI] using this
theorem torn_shape {S : List Row} {n : Nat} {v : D} (hd : ∀ s ∈ S, s.length = n) (hn : n ≤ 50) (h : TornV S n v) : ShapeV S v := by
  obtain ⟨a, b, p1, p2, qs, e, ha, hb, h1, h2, hq, _⟩ := h.ex
  have l1 := h1.len
  have l2 := h2.len
  exact ⟨a, b, natsI p1, natsI p2, qs, e, hq, by rw [hd a ha]; exact hn, by rw [hd b hb]; exact hn, by omega, by omega⟩
theorem shape_fine {S : List Row} {v : D} (hS : S.length ≤ 24) (h : ShapeV S v) : v.fine 9 = true := by
  obtain ⟨r1, r2, l1, l2, q, rfl, h1, h2, h3, h4, h5⟩ := h.ex
  exact fine_of_tup (by simp) (fineL_iff.mpr fun x hx => by
    simp at hx
    rcases hx with e | e | e | e | e <;> rw [e] <;> exact fine_ints _ (by omega))
theorem at_diff {S : List Row} {i j : Nat} {s : Row} (nd : S.Nodup) (h1 : S[i]? = some s) (h2 : S[j]? = some s) : i = j := (List.getElem?_inj (List.getElem?_eq_some_iff.mp h1).1 nd).mp (h1.trans h2.symm)
/-- where all states have chains nothing is torn -/
theorem join_no_torn {S : List Row} {n : Nat} {v : D} (nd : S.Nodup) (hd : ∀ s ∈ S, s.length = n) (hj : JoinS S) : ¬ TornV S n v := fun h => by
  obtain ⟨a, b, p1, p2, qs, e, ha, hb, h1, h2, hq, _, hc, hap, t1, t2⟩ := h.ex
  have val : ∀ s ∈ S, ∃ (i : Nat) (q : Int), S[i]? = some s ∧ qs[i]? = some q := fun s hs => by
    obtain ⟨i, hi⟩ := List.getElem?_of_mem hs
    have hlt := (List.getElem?_eq_some_iff.mp hi).1
    exact ⟨i, qs[i]'(by omega), hi, List.getElem?_eq_getElem _⟩
  have vf : ∀ (i : Nat) s q, S[i]? = some s → qs[i]? = some q → qs.getD (S.idxOf s) 0 = q := fun i s q hi hqi => by
    have e1 : S.idxOf s = i := by
      have hm := List.mem_of_getElem? hi
      have := List.idxOf_lt_length_of_mem hm
      exact at_diff nd (by rw [List.getElem?_eq_getElem this, List.getElem_idxOf]) hi
    rw [e1, List.getD_eq_getElem?_getD, hqi]
    rfl
  refine no_torn (q := fun s => qs.getD (S.idxOf s) 0) hd hj ha hb (p1 := p1) (p2 := p2) ⟨hc, ?_, ?_, ?_⟩
  · obtain ⟨i, x, hi, hx⟩ := val a ha
    obtain ⟨j, y, hj2, hy⟩ := val b hb
    rw [vf i a x hi hx, vf j b y hj2 hy]
    exact hap i j x y hi hj2 hx hy
  · intro s hs t ht hag
    obtain ⟨i, x, hi, hx⟩ := val s hs
    obtain ⟨j, y, hj2, hy⟩ := val t ht
    rw [vf i s x hi hx, vf j t y hj2 hy]
    exact t1 i j s t x y hi hj2 hx hy (agr_view.mpr hag)
  · intro s hs t ht hag
    obtain ⟨i, x, hi, hx⟩ := val s hs
    obtain ⟨j, y, hj2, hy⟩ := val t ht
    rw [vf i s x hi hx, vf j t y hj2 hy]
    exact t2 i j s t x y hi hj2 hx hy (agr_view.mpr hag)
theorem ps_join {S : List Row} {dd : Nat} {ps : List (Row × Row)} (hd : ∀ s ∈ S, s.length = dd) (hps : ∀ p, p ∈ ps ↔ apB S S.length 0 p) : ps.isEmpty = true ↔ JoinS S := by
  rw [List.isEmpty_iff]
  constructor
  · intro e s hs t ht
    by_cases h : joinedP S s t
    · exact h
    · obtain ⟨p, hp, _⟩ := ps_all hd hps hs ht h
      rw [e] at hp
      cases hp
  · intro h
    match ps, hps with
    | [], _ => rfl
    | p :: ps, hps =>
      obtain ⟨i, j, _, h1, h2, _, h3⟩ := (hps p).mp (by simp)
      exact absurd (h _ (List.mem_of_getElem? h1) _ (List.mem_of_getElem? h2)) h3
theorem told_isN {S : List Row} {n : Nat} {v : D} {e : Bool} (h : Told S n v) (he : e = true ↔ JoinS S) : (Sd.d v).isN = e := by
  cases e with
  | true => rw [h.1 (he.mp rfl)]; rfl
  | false =>
    obtain ⟨_, _, _, _, _, e, _⟩ := (h.2 fun g => by cases he.mpr g).ex
    rw [e]; rfl
theorem flat_ps (ps : List (Row × Row)) : (D.lst (ps.map pr2)).flat 9 = true := flatL_iff.mpr fun x hx => by
  obtain ⟨p, _, rfl⟩ := List.mem_map.mp hx
  exact flatL_iff.mpr fun y hy => by
    simp at hy
    rcases hy with e | e <;> rw [e] <;> exact flat_ints' _ _
theorem eqv_ps (ps : List (Row × Row)) : PyData.eqv (D.lst (ps.map pr2)).py (D.lst []).py = ps.isEmpty := by
  rw [eqv_nilL]
  cases ps <;> rfl
theorem kb_torn_plans : KwB "torn_plans" f_torn_plans ["store"] ["store"] := fun _ _ _ _ _ _ ws hl => match ws, hl with | [_], _ => rfl
theorem kb_are_torn_plans : KwB "are_torn_plans" f_are_torn_plans ["store", "value"] ["value", "store"] := fun _ _ _ _ _ _ ws hl => match ws, hl with | [_, _], _ => rfl
def lawN : List Str := ["_law_script", "_law_deal", "_law_sizes_here", "_law_states", "_law_store_here", "_law_keys", "_law_apart_here", "_law_lots_here", "_law_drawn", "_law_some", "_law_told", "_law_turn", "_law_own", "_law_value", "_law_near_here", "_law_again"]
theorem sc_law : FnScope lawN ["_law_script"] (defScope f_law) := ⟨rfl, rfl, rfl, by decide +kernel, rfl, by decide +kernel, by decide +kernel⟩
/-- what the rest of law does -/
theorem law_rest {a : Addr} {cdv : Value} {A : Around} {outer : List PySem.Env} {s : Shared} {H : Hp} {E : XK} (ft : Fts mg)
    (c_law_pairs_apart : Cl P w K mg base 3 "_law_pairs_apart" 2 s_law_pairs_apart) (c_law_beside : Cl P w K mg base 2 "_law_beside" 1 s_law_beside) (c_law_lots : Cl P w K mg base 2 "_law_lots" 1 s_law_lots)
    (c_law_of : Cl P w K mg base 3 "_law_of" 2 s_law_of) (c_law_question : Cl P w K mg base 4 "_law_question" 2 s_law_question) (c_law_is_torn : Cl P w K mg base 3 "_law_is_torn" 2 s_law_is_torn)
    (c_law_divided : Cl P w K mg base 4 "_law_divided" 3 s_law_divided) (c_law_near : Cl P w K mg base 4 "_law_near" 3 s_law_near)
    (c_torn_plans : Cl P w K mg base 15 "torn_plans" 1 (s_torn_plans K w C T)) (cx_torn_plans : ClX P w K mg base 15 "torn_plans" f_torn_plans ["store"] (s_torn_plans K w C T))
    (c_are_torn_plans : Cl P w K mg base 7 "are_torn_plans" 2 (s_are_torn_plans K C)) (cx_are_torn_plans : ClX P w K mg base 7 "are_torn_plans" f_are_torn_plans ["store", "value"] (s_are_torn_plans K C))
    (hr : Room 15 (A.deeper (PyProof.Rows.envOfC "law" (defScope f_law) s.heap.objs.size a cdv))) :
    ∃ pr : Amb → RS, (∀ W, PSsd W (cxOf CX0 P w K mg base lawN "law" (defScope f_law) a cdv A outer s H E).nox ((defBody f_law).drop 3) (pr W)) ∧
      ∀ (W : Amb) (da sa : Addr) (S : List Row) (sizes : List Nat) (KK : DE) (x0 : Sd), HasAll K w C T W sa S sizes → HasDl W da → KK.rt (.bl true) →
        pr W KK [x0, .d (.ref da), .d (.lst ((natsI sizes).map .int)), .d (.lst (rowsD S)), .d (.ref sa), .d (.int (sizes.length : Nat)), .any, .any, .any, .any, .any, .any, .any, .any, .any, .any] := by
  have nd := sc_law.nd
  refine ⟨_, fun W => (ssd_cons (sd_set (i := 6) nd rfl (Or.inl rfl) (pr_call c_law_pairs_apart (hr.mono (by decide)) rfl (pad_cons (pr_var (pv 3)) (pad_cons (pr_call c_law_beside (hr.mono (by decide)) rfl (pad_cons (pr_var (pv 3)) pad_nil)) pad_nil)))) (ssd_cons (sd_set (i := 7) nd rfl (Or.inl rfl) (pr_call c_law_lots (hr.mono (by decide)) rfl (pad_cons (pr_var (pv 5)) pad_nil))) (ssd_cons (sd_set (i := 8) nd rfl (Or.inl rfl) (pr_tup (pad_cons (pr_call c_law_of (hr.mono (by decide)) rfl (pad_cons (pr_var (pv 1)) (pad_cons (pr_var (pv 3)) pad_nil))) (pad_cons (pr_call c_law_of (hr.mono (by decide)) rfl (pad_cons (pr_var (pv 1)) (pad_cons (pr_var (pv 3)) pad_nil))) (pad_cons (pr_call c_law_of (hr.mono (by decide)) rfl (pad_cons (pr_var (pv 1)) (pad_cons (pr_var (pv 7)) pad_nil))) (pad_cons (pr_call c_law_of (hr.mono (by decide)) rfl (pad_cons (pr_var (pv 1)) (pad_cons (pr_var (pv 7)) pad_nil))) (pad_cons (pr_tuple rfl ft.m_tuple (PRd.e (pr_call c_law_question (hr.mono (by decide)) rfl (pad_cons (pr_var (pv 1)) (pad_cons (pr_var (pv 3)) pad_nil))))) pad_nil))))))) (ssd_cons (sd_set (i := 9) nd rfl (Or.inl rfl) (pr_lst (pad_cons (pr_var (pv 8)) pad_nil))) (ssd_cons (sd_for PassesOwn.never rfl (id_ss (pr_lst (pad_cons (pr_call c_torn_plans (hr.mono (by decide)) rfl (pad_cons (pr_var (pv 4)) pad_nil)) (pad_cons (pr_kw1 cx_torn_plans kb_torn_plans (hr.mono (by decide)) rfl (pr_var (pv 4))) pad_nil)))) (gd_name (i := 10) nd rfl (Or.inl rfl)) (ssd_cons (sd_if (PWd.t (pwd_or (pt_neS (PRd.e (pr_isN (pd_var (pv 10)))) (PRd.e (pr_eqD hr (pd_var (pv 6)) (PRd.e (pr_lst pad_nil))))) (pwd_or1 (PWd.t (pwd_and (pt_neD hr (pd_var (pv 6)) (PRd.e (pr_lst pad_nil))) (pwd_and1 (ptd_not (pt_v (PRd.e (pr_call c_law_is_torn (hr.mono (by decide)) rfl (pad_cons (pr_var (pv 3)) (pad_cons (pr_var (pv 10)) pad_nil)))))))))))) (ssd_one (sd_ret pr_bl)) ssd_nil) (ssd_one (sd_set (i := 9) nd rfl (Or.inl rfl) (pr_catA (pd_var (pv 9)) (PRd.e (pr_if (pt_notN (pd_var (pv 10))) (pr_lst (pad_cons (pr_var (pv 10)) pad_nil)) (pr_lst pad_nil)))))))) (ssd_cons (sd_if (pt_neD hr (pd_var (pv 6)) (PRd.e (pr_lst pad_nil))) (ssd_one (sd_for PassesOwn.never rfl (id_range1 rfl ft.m_range pr_int) (gd_name (i := 11) nd rfl (Or.inl rfl)) (ssd_cons (sd_set (i := 12) nd rfl (Or.inl rfl) (pr_call c_law_divided (hr.mono (by decide)) rfl (pad_cons (pr_var (pv 1)) (pad_cons (pr_var (pv 3)) (pad_cons (pr_var (pv 6)) pad_nil))))) (ssd_cons (sd_if (PWd.t (pwd_or (ptd_not (pt_v (PRd.e (pr_call c_law_is_torn (hr.mono (by decide)) rfl (pad_cons (pr_var (pv 3)) (pad_cons (pr_var (pv 12)) pad_nil)))))) (pwd_or1 (pt_notB (PRd.e (pr_call c_are_torn_plans (hr.mono (by decide)) rfl (pad_cons (pr_var (pv 4)) (pad_cons (pr_var (pv 12)) pad_nil)))) (PRd.e pr_bl))))) (ssd_one (sd_ret pr_bl)) ssd_nil) (ssd_one (sd_app (pv 9) (px_of (pr_var (pv 12))))))))) ssd_nil) (ssd_fz 9 (ssd_cons (sd_for PassesOwn.never rfl (id_range1 rfl ft.m_range pr_int) (gd_name (i := 11) nd rfl (Or.inl rfl)) (ssd_cons (sd_set (i := 13) nd rfl (Or.inl rfl) (pr_call c_law_of (hr.mono (by decide)) rfl (pad_cons (pr_var (pv 1)) (pad_cons (pr_var (pv 9)) pad_nil)))) (ssd_cons (sd_set (i := 14) nd rfl (Or.inl rfl) (pr_if (pt_gt (pd_var (pv 11)) (PRd.e pr_int)) (pr_call c_law_near (hr.mono (by decide)) rfl (pad_cons (pr_var (pv 1)) (pad_cons (pr_var (pv 3)) (pad_cons (pr_var (pv 13)) pad_nil)))) (pr_var (pv 13)))) (ssd_cons (sd_if (pt_neS (PRd.e (pr_repr rfl ft.m_repr (PRd.e (pr_kw2 cx_are_torn_plans kb_are_torn_plans (hr.mono (by decide)) rfl (pr_var (pv 14)) (pr_var (pv 4)))))) (PRd.e (pr_repr rfl ft.m_repr (PRd.e (pr_call c_law_is_torn (hr.mono (by decide)) rfl (pad_cons (pr_var (pv 3)) (pad_cons (pr_var (pv 14)) pad_nil))))))) (ssd_one (sd_ret pr_bl)) ssd_nil) (ssd_one (sd_if (PWd.t (pwd_and (pt_eqD hr (pd_var (pv 6)) (PRd.e (pr_lst pad_nil))) (pwd_and1 (pt_v (PRd.e (pr_call c_law_is_torn (hr.mono (by decide)) rfl (pad_cons (pr_var (pv 3)) (pad_cons (pr_var (pv 14)) pad_nil)))))))) (ssd_one (sd_ret pr_bl)) ssd_nil)))))) (ssd_cons (sd_set (i := 15) nd rfl (Or.inl rfl) (pr_call c_torn_plans (hr.mono (by decide)) rfl (pad_cons (pr_var (pv 4)) pad_nil))) (ssd_one (sd_ret (pr_if (pt_eqD hr (pd_var (pv 6)) (PRd.e (pr_lst pad_nil))) (pr_isN (pd_var (pv 15))) (pr_call c_law_is_torn (hr.mono (by decide)) rfl (pad_cons (pr_var (pv 3)) (pad_cons (pr_var (pv 15)) pad_nil))))))))))))))), fun W da sa S sizes KK x0 hA hdl z => ?_⟩
  have few := hA.ok.ok.few
  have hf := hA.ok.few
  have hne := hA.ok.ne
  have hnd := hA.ok.nd
  have hdd : ∀ s ∈ S, s.length = sizes.length := fun s h => (hA.ok.row s h).1
  have hd0 : 0 < sizes.length := List.length_pos_iff.mpr hA.ok.ok.ne
  have hz : (rowsD S).length ≤ 100000 := by rw [rowsD_len]; omega
  refine uSet ?_
  refine ⟨_, rfl, _, rfl, _, rfl, _, rfl, S, sizes.length, rfl, hdd, by omega, by omega, hnd, fun kvs hkvs => ⟨_, rfl, S, kvs, sizes.length, rfl, hdd, by omega, by omega, hnd, hkvs, fun ps hps hpl => ?_⟩⟩
  have hj := ps_join hdd hps
  dsimp only
  refine uSet ?_
  refine ⟨_, rfl, _, rfl, sizes.length, rfl, by omega, fun ls hls => ?_⟩
  dsimp only
  have hlsl : ls.length = 2 ^ sizes.length := by rw [hls.length_eq, allL_len]
  have hls0 : lotsD ls ≠ [] := fun e => by
    have := congrArg List.length e
    rw [lotsD_len, hlsl] at this
    exact absurd this (by simp)
  have hlsm : (lotsD ls).length ≤ 100000 := by
    rw [lotsD_len, hlsl]
    exact Nat.le_trans (Nat.pow_le_pow_right (by decide) few) (by decide)
  have hlot : ∀ x ∈ lotsD ls, ∃ l : List Int, x = .ints l ∧ l.length ≤ 50 := fun x hx => by
    obtain ⟨r, hr, rfl⟩ := List.mem_map.mp hx
    obtain ⟨l, hl, rfl⟩ := List.mem_map.mp hr
    have hl2 := hls.subset hl
    have : LotOk sizes.length l := ⟨allL_sorted l hl2, allL_lt l hl2⟩
    have := this.len
    exact ⟨_, rfl, by omega⟩
  have hrow : ∀ x ∈ rowsD S, ∃ r : List Int, x = .ints r ∧ r.length ≤ 50 := fun x hx => by
    obtain ⟨r, hr, rfl⟩ := mem_rowsD hx
    exact ⟨r, rfl, by rw [hdd r hr]; omega⟩
  have hr0 : rowsD S ≠ [] := fun e => by
    have := congrArg List.length e
    rw [rowsD_len] at this
    exact hne (List.length_eq_zero_iff.mp this)
  refine uSet ?_
  refine ⟨_, rfl, _, rfl, _, rfl, _, rfl, da, _, rfl, hdl, hr0, hz, fun y1 hy1 => ⟨_, rfl, _, rfl, _, rfl, _, rfl, _, rfl, da, _, rfl, hdl, hr0, hz, fun y2 hy2 => ⟨_, rfl, _, rfl, _, rfl, _, rfl, _, rfl, da, _, rfl, hdl, hls0, hlsm, fun y3 hy3 => ⟨_, rfl, _, rfl, _, rfl, _, rfl, _, rfl, da, _, rfl, hdl, hls0, hlsm, fun y4 hy4 => ⟨_, rfl, ?_⟩⟩⟩⟩⟩
  refine ⟨_, rfl, _, rfl, _, rfl, _, rfl, da, S, sizes.length, rfl, hdl, hne, hdd, by omega, by omega, fun q hq => ⟨_, _, rfl, rfl, _, rfl, by simp, ?_⟩⟩
  obtain ⟨r1, rfl, hl1⟩ := hrow y1 hy1
  obtain ⟨r2, rfl, hl2⟩ := hrow y2 hy2
  obtain ⟨r3, rfl, hl3⟩ := hlot y3 hy3
  obtain ⟨r4, rfl, hl4⟩ := hlot y4 hy4
  have hdrawn : ShapeV S (.tup [.ints r1, .ints r2, .ints r3, .ints r4, .ints q]) := ⟨r1, r2, r3, r4, q, rfl, hq, hl1, hl2, hl3, hl4⟩
  refine uSet ?_
  refine ⟨_, rfl, _, rfl, by simp, ?_⟩
  dsimp only
  have e0 := eqv_ps ps
  have hfi : ∀ {v}, ShapeV S v → v.fine 9 = true := fun h => shape_fine hf h
  have hts : ∀ {v}, TornV S sizes.length v → ShapeV S v := fun h => torn_shape hdd (by omega) h
  refine seqI ?_
  intro K1 hK1 T1
  refine told_for (i := 4) rfl hA fun v1 v2 hv1 hv2 => ?_
  refine ⟨fun i ρ => ∃ (x10 : Sd) (vs : List D), ρ = [x0, .d (.ref da), .d (.lst ((natsI sizes).map .int)), .d (.lst (rowsD S)), .d (.ref sa), .d (.int (sizes.length : Nat)), .d (.lst (ps.map pr2)), .d (.lst (lotsD ls)), .d (.tup [.ints r1, .ints r2, .ints r3, .ints r4, .ints q]), .ol vs, x10, .any, .any, .any, .any, .any] ∧ (∀ v ∈ vs, ShapeV S v) ∧ vs.length ≤ i + 1 ∧ vs ≠ [],
    ⟨_, _, rfl, by simpa using hdrawn, Nat.le_refl _, by simp⟩, ?_, ?_⟩
  · rintro i v ρ hx ⟨x10, vs, rfl, hvs, hvl, hvn⟩
    have hv : Told S sizes.length v := by
      match i, hx with
      | 0, hx => cases hx; exact hv1
      | 1, hx => cases hx; exact hv2
    have hi : i < 2 := (List.getElem?_eq_some_iff.mp hx).1
    have hvN := told_isN hv hj
    change sSeq _ _ _ [x0, .d (.ref da), .d (.lst ((natsI sizes).map .int)), .d (.lst (rowsD S)), .d (.ref sa), .d (.int (sizes.length : Nat)), .d (.lst (ps.map pr2)), .d (.lst (lotsD ls)), .d (.tup [.ints r1, .ints r2, .ints r3, .ints r4, .ints q]), .ol vs, .d v, .any, .any, .any, .any, .any]
    refine seqI ?_
    intro K2 hK2 T2
    have N : K2.nx [x0, .d (.ref da), .d (.lst ((natsI sizes).map .int)), .d (.lst (rowsD S)), .d (.ref sa), .d (.int (sizes.length : Nat)), .d (.lst (ps.map pr2)), .d (.lst (lotsD ls)), .d (.tup [.ints r1, .ints r2, .ints r3, .ints r4, .ints q]), .ol vs, .d v, .any, .any, .any, .any, .any] := by
      refine T2 _ ?_
      refine ⟨_, rfl, nofun, _, rfl, nofun, nofun, _, rfl, fun hb => ?_, fun hb => ?_⟩
      · have hs : ShapeV S v := by
          rw [hvN] at hb
          exact hts (hv.2 fun g => by rw [hj.mpr g] at hb; cases hb)
        refine ⟨_, rfl, _, rfl, by simp, .inl ⟨_, _, rfl, rfl, by simp; omega, _, vs ++ [v], rfl, fun y hy => ?_, by simp; omega, by simp⟩⟩
        rcases List.mem_append.mp hy with h | h
        · exact hvs y h
        · rw [List.mem_singleton.mp h]; exact hs
      · refine ⟨by simp, .inl ⟨_, _, rfl, rfl, by simp; omega, _, vs ++ [], rfl, fun y hy => ?_, by simp; omega, by simpa using hvn⟩⟩
        rw [List.append_nil] at hy
        exact hvs y hy
    refine ⟨_, rfl, nofun, nofun, _, rfl, nofun, by simp, _, _, rfl, rfl, flat_ps ps, rfl, _, _, _, rfl, rfl, rfl, _, rfl, fun hb => ?_, fun _ => ?_⟩
    · rw [hvN, e0] at hb
      simp at hb
    refine ⟨_, rfl, nofun, by simp, _, _, rfl, rfl, flat_ps ps, rfl, _, rfl, fun hb => ?_, fun _ => ⟨nofun, fun _ => uNext N⟩⟩
    rw [e0] at hb
    have ht := hv.2 fun g => by rw [hj.mpr g] at hb; cases hb
    refine ⟨_, rfl, _, rfl, _, rfl, _, rfl, S, v, sizes.length, rfl, hdd, hne, by omega, hnd, hfi (hts ht), fun b hb3 => ⟨b, rfl, ?_⟩⟩
    have eb := hb3.mpr ht
    subst eb
    exact ⟨nofun, fun _ => uNext N⟩
  rintro ρ ⟨x10, vs, rfl, hvs, hvl, hvn⟩
  refine T1 _ ?_
  refine seqI ?_
  intro K2 hK2 T2
  have N : ∀ (vs : List D) (x10 x11 x12 : Sd), (∀ v ∈ vs, ShapeV S v) → vs.length ≤ 100 → vs ≠ [] → K2.nx [x0, .d (.ref da), .d (.lst ((natsI sizes).map .int)), .d (.lst (rowsD S)), .d (.ref sa), .d (.int (sizes.length : Nat)), .d (.lst (ps.map pr2)), .d (.lst (lotsD ls)), .d (.tup [.ints r1, .ints r2, .ints r3, .ints r4, .ints q]), .ol vs, x10, x11, x12, .any, .any, .any] := by
    clear hvs hvl hvn vs x10
    intro vs x10 x11 x12 hvs hvl hvn
    refine T2 _ ?_
    refine uFz ?_
    change sSeq _ _ _ [x0, .d (.ref da), .d (.lst ((natsI sizes).map .int)), .d (.lst (rowsD S)), .d (.ref sa), .d (.int (sizes.length : Nat)), .d (.lst (ps.map pr2)), .d (.lst (lotsD ls)), .d (.tup [.ints r1, .ints r2, .ints r3, .ints r4, .ints q]), .d (.lst vs), x10, x11, x12, .any, .any, .any]
    refine seqI ?_
    intro K3 hK3 T3
    refine ⟨_, rfl, by decide, by decide, fun i ρ => ∃ (x11 x13 x14 : Sd), ρ = [x0, .d (.ref da), .d (.lst ((natsI sizes).map .int)), .d (.lst (rowsD S)), .d (.ref sa), .d (.int (sizes.length : Nat)), .d (.lst (ps.map pr2)), .d (.lst (lotsD ls)), .d (.tup [.ints r1, .ints r2, .ints r3, .ints r4, .ints q]), .d (.lst vs), x10, x11, x12, x13, x14, .any], ⟨_, _, _, rfl⟩, ?_, ?_⟩
    · rintro i x ρ hx ⟨x11, x13, x14, rfl⟩
      obtain ⟨j, hj8, rfl⟩ := mem_range0 (n := 8) (List.mem_of_getElem? hx)
      change sSeq _ _ _ [x0, .d (.ref da), .d (.lst ((natsI sizes).map .int)), .d (.lst (rowsD S)), .d (.ref sa), .d (.int (sizes.length : Nat)), .d (.lst (ps.map pr2)), .d (.lst (lotsD ls)), .d (.tup [.ints r1, .ints r2, .ints r3, .ints r4, .ints q]), .d (.lst vs), x10, .d (.int (j : Nat)), x12, x13, x14, .any]
      refine uSet ?_
      refine ⟨_, rfl, _, rfl, _, rfl, _, rfl, da, vs, rfl, hdl, hvn, by omega, fun y hy => ?_⟩
      have hy1 := hvs y hy
      change sSeq _ _ _ [x0, .d (.ref da), .d (.lst ((natsI sizes).map .int)), .d (.lst (rowsD S)), .d (.ref sa), .d (.int (sizes.length : Nat)), .d (.lst (ps.map pr2)), .d (.lst (lotsD ls)), .d (.tup [.ints r1, .ints r2, .ints r3, .ints r4, .ints q]), .d (.lst vs), x10, .d (.int (j : Nat)), x12, .d y, x14, .any]
      refine seqI ?_
      intro K5 hK5 T5
      have N5 : ∀ v : D, v.fine 9 = true → K5.nx [x0, .d (.ref da), .d (.lst ((natsI sizes).map .int)), .d (.lst (rowsD S)), .d (.ref sa), .d (.int (sizes.length : Nat)), .d (.lst (ps.map pr2)), .d (.lst (lotsD ls)), .d (.tup [.ints r1, .ints r2, .ints r3, .ints r4, .ints q]), .d (.lst vs), x10, .d (.int (j : Nat)), x12, .d y, .d v, .any] := fun v hv => T5 _ <| by
        refine ⟨_, rfl, _, rfl, _, rfl, _, rfl, sa, S, sizes, v, rfl, hA.st, hA.ok, hv, fun b1 hb1 => ⟨b1, rfl, _, rfl, _, rfl, _, rfl, _, rfl, S, v, sizes.length, rfl, hdd, hne, by omega, hnd, hv, fun b2 hb2 => ⟨b2, rfl, _, _, _, rfl, rfl, rfl, _, rfl, fun h => ?_, fun _ => ?_⟩⟩⟩
        · have : b1 = b2 := Bool.eq_iff_iff.mpr (hb1.trans hb2.symm)
          subst this
          simp at h
        refine uNext ?_
        refine ⟨_, rfl, nofun, by simp, _, _, rfl, rfl, flat_ps ps, rfl, _, rfl, fun hb => ⟨_, rfl, _, rfl, _, rfl, _, rfl, S, v, sizes.length, rfl, hdd, hne, by omega, hnd, hv, fun b hb3 => ⟨b, rfl, fun h => ?_, fun _ => ?_⟩⟩, fun hb => ⟨nofun, fun _ => ?_⟩⟩
        · rw [e0] at hb
          exact absurd (hb3.mp h) (join_no_torn hnd hdd (hj.mp hb))
        · exact uNext ⟨_, _, _, rfl⟩
        · exact uNext ⟨_, _, _, rfl⟩
      refine ⟨_, rfl, nofun, _, _, rfl, rfl, _, rfl, fun _ => ?_, fun _ => ⟨_, rfl, N5 y (hfi hy1)⟩⟩
      obtain ⟨s1, s2, m1, m2, p, rfl, g1, g2, g3, g4, g5⟩ := hy1.ex
      exact ⟨_, rfl, _, rfl, _, rfl, _, rfl, _, rfl, _, rfl, da, S, s1, s2, m1, m2, p, sizes.length, rfl, hdl, hne, hdd, hd0, by omega, by omega, g1, g2, g3, g4, g5, fun v hv => N5 v hv⟩
    · rintro ρ ⟨x11, x13, x14, rfl⟩
      refine T3 _ ?_
      refine uSet ?_
      refine told_call (i := 4) rfl hA fun v hv => ?_
      have hvN := told_isN hv hj
      change sRet _ _ [x0, .d (.ref da), .d (.lst ((natsI sizes).map .int)), .d (.lst (rowsD S)), .d (.ref sa), .d (.int (sizes.length : Nat)), .d (.lst (ps.map pr2)), .d (.lst (lotsD ls)), .d (.tup [.ints r1, .ints r2, .ints r3, .ints r4, .ints q]), .d (.lst vs), x10, x11, x12, x13, x14, .d v]
      refine ⟨_, rfl, nofun, by simp, _, _, rfl, rfl, flat_ps ps, rfl, _, rfl, fun hb => ⟨_, rfl, nofun, nofun, _, rfl, ?_⟩, fun hb => ⟨_, rfl, _, rfl, _, rfl, _, rfl, S, v, sizes.length, rfl, hdd, hne, by omega, hnd, ?_, fun b hb3 => ⟨_, rfl, ?_⟩⟩⟩
      · rw [e0] at hb
        rw [hvN, hb]
        exact z
      · rw [e0] at hb
        exact hfi (hts (hv.2 fun g => by rw [hj.mpr g] at hb; cases hb))
      · rw [e0] at hb
        rw [hb3.mpr (hv.2 fun g => by rw [hj.mpr g] at hb; cases hb)]
        exact z
  refine ⟨_, rfl, nofun, by simp, _, _, rfl, rfl, flat_ps ps, rfl, _, rfl, fun hb => ?_, fun _ => uNext (N vs x10 .any .any hvs (by simp at hvl; omega) hvn)⟩
  rw [e0] at hb
  have hp0 : ps ≠ [] := fun e => by rw [e] at hb; cases hb
  refine ⟨_, rfl, by decide, by decide, fun i ρ => ∃ (x11 x12 : Sd) (vs : List D), ρ = [x0, .d (.ref da), .d (.lst ((natsI sizes).map .int)), .d (.lst (rowsD S)), .d (.ref sa), .d (.int (sizes.length : Nat)), .d (.lst (ps.map pr2)), .d (.lst (lotsD ls)), .d (.tup [.ints r1, .ints r2, .ints r3, .ints r4, .ints q]), .ol vs, x10, x11, x12, .any, .any, .any] ∧ (∀ v ∈ vs, ShapeV S v) ∧ vs.length ≤ i + 3 ∧ vs ≠ [], ⟨_, _, vs, rfl, hvs, hvl, hvn⟩, ?_, ?_⟩
  · clear hvs hvl hvn vs
    rintro i x ρ hx ⟨x11, x12, vs, rfl, hvs, hvl, hvn⟩
    have hi : i < 2 := (List.getElem?_eq_some_iff.mp hx).1
    change sSeq _ _ _ [x0, .d (.ref da), .d (.lst ((natsI sizes).map .int)), .d (.lst (rowsD S)), .d (.ref sa), .d (.int (sizes.length : Nat)), .d (.lst (ps.map pr2)), .d (.lst (lotsD ls)), .d (.tup [.ints r1, .ints r2, .ints r3, .ints r4, .ints q]), .ol vs, x10, .d x, x12, .any, .any, .any]
    refine uSet ?_
    refine ⟨_, rfl, _, rfl, _, rfl, _, rfl, _, rfl, _, rfl, da, S, ps, sizes.length, rfl, hdl, hdd, by omega, by omega, hp0, hpl, hps, fun own hown => ?_⟩
    change sSeq _ _ _ [x0, .d (.ref da), .d (.lst ((natsI sizes).map .int)), .d (.lst (rowsD S)), .d (.ref sa), .d (.int (sizes.length : Nat)), .d (.lst (ps.map pr2)), .d (.lst (lotsD ls)), .d (.tup [.ints r1, .ints r2, .ints r3, .ints r4, .ints q]), .ol vs, x10, .d x, .d own, .any, .any, .any]
    have hfo := hfi (hts hown)
    refine ⟨_, rfl, _, rfl, _, rfl, _, rfl, S, own, sizes.length, rfl, hdd, hne, by omega, hnd, hfo, fun b hb3 => ⟨b, rfl, fun h => ?_, fun _ => ?_⟩⟩
    · rw [hb3.mpr hown] at h
      cases h
    refine ⟨_, rfl, _, rfl, _, rfl, _, rfl, sa, S, sizes, own, rfl, hA.st, hA.ok, hfo, fun b hb3 => ⟨_, _, rfl, rfl, _, rfl, fun h => ?_, fun _ => ?_⟩⟩
    · rw [hb3.mpr hown] at h
      cases h
    refine ⟨⟨_, rfl⟩, _, rfl, _, rfl, _, rfl, by omega, _, _, vs ++ [own], rfl, fun y hy => ?_, by simp; omega, by simp⟩
    rcases List.mem_append.mp hy with h | h
    · exact hvs y h
    · rw [List.mem_singleton.mp h]; exact hts hown
  · rintro ρ ⟨x11, x12, vs, rfl, hvs, hvl, hvn⟩
    exact N vs x10 x11 x12 hvs (Nat.le_trans hvl (by decide)) hvn
end
end DL
namespace DL
open PySem PySem.Spec L2 Tx MX LX
theorem CaOk.mono {w : World} {S : List Row} {n : Nat} {F H F' H' : Hp} {fd : Addr} (h : CaOk w S n F H fd) (ff : Same F F') (e : H' fd = H fd) : CaOk w S n F' H' fd := by
  obtain ⟨rows, h1, h2, h3⟩ := h.ex
  refine ⟨rows, e.trans h1, h2.mono ff, fun x hx => ?_⟩
  obtain ⟨q, d, i, g⟩ := h3 x hx
  exact ⟨q, d, i.mono ff, g⟩
theorem DlOk.mono {H H' : Hp} {a d0 : Addr} (h : DlOk H a d0) (e1 : H' a = H a) (e2 : H' d0 = H d0) : DlOk H' a d0 := by
  obtain ⟨ns, x, h1, h2, h3⟩ := h.ex
  exact ⟨ns, x, e1.trans h1, e2.trans h2, h3⟩
theorem LX.TabF.mono {F H F' H' : Hp} {P : Addr} {q : Str} (h : TabF F H P q) (ff : Same F F') (e : H' P = H P) : TabF F' H' P q := by
  obtain ⟨ps, h1, h2, h3⟩ := h.ex
  refine ⟨ps, e.trans h1, h2, fun p cv hc => ?_⟩
  obtain ⟨c, e1, e2⟩ := h3 p cv hc
  exact ⟨c, e1, ff _ _ e2⟩
theorem LX.TabF.there {F H : Hp} {P : Addr} {q : Str} (h : TabF F H P q) : H P ≠ none := by
  obtain ⟨ps, h1, _⟩ := h.ex
  rw [h1]; intro z; cases z
theorem DlOk.there {H : Hp} {a d0 : Addr} (h : DlOk H a d0) : H a ≠ none ∧ H d0 ≠ none := by
  obtain ⟨ns, x, h1, h2, _⟩ := h.ex
  exact ⟨by rw [h1]; (intro z; cases z), by rw [h2]; (intro z; cases z)⟩
theorem CaOk.there {w : World} {S : List Row} {n : Nat} {F H : Hp} {fd : Addr} (h : CaOk w S n F H fd) : H fd ≠ none := by
  obtain ⟨rows, h1, _⟩ := h.ex
  rw [h1]; intro z; cases z
theorem rd_keep {H H' : Hp} {a : Addr} {o : HO} (h : Rd H a o) (e : H' a = H a) : Rd H' a o := by
  rcases h with h | ⟨u, h⟩
  · exact .inl (e.trans h)
  · exact .inr ⟨u, e.trans h⟩
theorem rd_there {H : Hp} {a : Addr} {o : HO} (h : Rd H a o) : H a ≠ none := by
  rcases h with h | ⟨u, h⟩ <;> rw [h] <;> (intro z; cases z)
/-- the table, the script -/
def amb0 (T a : Addr) (xs : List V) (hs : Prop) : Amb where
  A b := b = T ∨ (b = a ∧ hs)
  J F H := TabF F H T hq ∧ (hs → Rd H a (.lst xs))
  mono ff k h := ⟨h.1.mono ff (k T (.inl rfl)), fun z => rd_keep (h.2 z) (k a (.inr ⟨rfl, z⟩))⟩
  there h b hb := by
    rcases hb with e | ⟨e, z⟩
    · rw [e]; exact h.1.there
    · rw [e]; exact rd_there (h.2 z)
/-- the table, the deal -/
def amb1 (T da d0 : Addr) : Amb where
  A b := b = T ∨ b = da ∨ b = d0
  J F H := TabF F H T hq ∧ DlOk H da d0
  mono ff k h := ⟨h.1.mono ff (k T (.inl rfl)), h.2.mono (k da (.inr (.inl rfl))) (k d0 (.inr (.inr rfl)))⟩
  there h b hb := by
    rcases hb with e | e | e <;> rw [e]
    · exact h.1.there
    · exact h.2.there.1
    · exact h.2.there.2
/-- the table, the deal, the store's cache -/
def amb2 (w : World) (S : List Row) (n : Nat) (T da d0 fd : Addr) (F0 : Hp) : Amb where
  A b := b = T ∨ b = da ∨ b = d0 ∨ b = fd
  J F H := Same F0 F ∧ TabF F H T hq ∧ DlOk H da d0 ∧ CaOk w S n F H fd
  mono ff k h := ⟨h.1.trans ff, h.2.1.mono ff (k T (.inl rfl)), h.2.2.1.mono (k da (.inr (.inl rfl))) (k d0 (.inr (.inr (.inl rfl)))), h.2.2.2.mono ff (k fd (.inr (.inr (.inr rfl))))⟩
  there h b hb := by
    rcases hb with e | e | e | e <;> rw [e]
    · exact h.2.1.there
    · exact h.2.2.1.there.1
    · exact h.2.2.1.there.2
    · exact h.2.2.2.there
theorem dl_amb1 {T da d0 : Addr} (n1 : T ≠ da) (n2 : T ≠ d0) (n3 : da ≠ d0) : HasDl (amb1 T da d0) da :=
  ⟨d0, n3, .inr (.inl rfl), .inr (.inr rfl), fun F H j => j.2, fun F H H' j k dl => ⟨j.1.mono (Same.refl _) (k T (.inl rfl) n1 n2), dl⟩⟩
section
variable {w : World} {S : List Row} {n : Nat} {T da d0 fd : Addr} {F0 : Hp}
theorem dl_amb2 (n1 : T ≠ da) (n2 : T ≠ d0) (n3 : da ≠ d0) (f2 : fd ≠ da) (f3 : fd ≠ d0) : HasDl (amb2 w S n T da d0 fd F0) da :=
  ⟨d0, n3, .inr (.inl rfl), .inr (.inr (.inl rfl)), fun F H j => j.2.2.1, fun F H H' j k dl => ⟨j.1, j.2.1.mono (Same.refl _) (k T (.inl rfl) n1 n2), dl, j.2.2.2.mono (Same.refl _) (k fd (.inr (.inr (.inr rfl))) f2 f3)⟩⟩
theorem tab_amb2 (n1 : T ≠ da) (n2 : T ≠ d0) (f1 : fd ≠ T) : HasTab (amb2 w S n T da d0 fd F0) T hq :=
  ⟨.inl rfl, fun F H j => j.2.1, fun F H H' j k tb => ⟨j.1, tb, j.2.2.1.mono (k da (.inr (.inl rfl)) n1.symm) (k d0 (.inr (.inr (.inl rfl))) n2.symm), j.2.2.2.mono (Same.refl _) (k fd (.inr (.inr (.inr rfl))) f1)⟩⟩
end
/-- slots of frozen data -/
theorem slots_d {F H : Hp} : ∀ {σ : L2.St} {ρ : List Sd}, σ.length = ρ.length → (∀ s ∈ ρ, s = .any ∨ ∃ d, s = .d d) → (∀ (i : Nat) d, ρ[i]? = some (.d d) → ∃ v, σ[i]? = some (some v) ∧ Is F v d) → Slots F H σ ρ (ρ.map fun _ => [])
  | [], [], _, _, _ => trivial
  | o :: σ, s :: ρ, hl, h1, h2 => by
    refine ⟨?_, slots_d (by simpa using hl) (fun x hx => h1 x (by simp [hx])) (fun i d e => by simpa using h2 (i + 1) d (by simpa using e))⟩
    rcases h1 s (by simp) with e | ⟨d, e⟩
    · subst e; rfl
    · subst e
      obtain ⟨v, e1, e2⟩ := h2 0 d rfl
      have e1 : o = some v := by simpa using e1
      exact ⟨v, e1, rfl, e2⟩
  | [], _ :: _, hl, _, _ => by simp at hl
  | _ :: _, [], hl, _, _ => by simp at hl
theorem env_d {W : Amb} {F H : Hp} {σ : L2.St} {ρ : List Sd} (ok : Okay W F H) (hl : σ.length = ρ.length) (h1 : ∀ s ∈ ρ, s = .any ∨ ∃ d, s = .d d) (h2 : ∀ (i : Nat) d, ρ[i]? = some (.d d) → ∃ v, σ[i]? = some (some v) ∧ Is F v d) : Env ⟨W, F, fun _ => none⟩ F H σ ρ := by
  have fl : ∀ ρ : List Sd, (ρ.map fun _ => ([] : List Addr)).flatten = [] := fun ρ => by
    induction ρ with
    | nil => rfl
    | cons s ρ ih => rw [List.map_cons, List.flatten_cons, ih]; rfl
  refine ⟨ok, Same.refl _, fun a o h _ => (by cases h), fun a o h => .inl h, ρ.map fun _ => [], ?_, ?_, slots_d hl h1 h2⟩
  · rw [fl]; exact List.nodup_nil
  · rw [fl]; intro a ha; cases ha
theorem Env.slot {B : Bs} {F H : Hp} {σ : L2.St} {ρ : List Sd} {i : Nat} {d : D} (E : Env B F H σ ρ) (h : ρ[i]? = some (.d d)) : ∃ v, σ[i]? = some (some v) ∧ Is F v d := by
  obtain ⟨v, as, g1, g2, _⟩ := E.get h (by intro z; cases z)
  exact ⟨v, g1, g2.2⟩
end DL
namespace DL
open PySem PySem.Spec L2 Tx MX LX
section
variable {P : Program} {w : World} {K : PySem.W.Frag} {mg : Str → Option Value} {base : Heap} {C T : Addr}
def spLaw (K : PySem.W.Frag) (T : Addr) : Sp := fun vs H Q _ => ∃ (a : Addr) (ns : List Int), vs = [.ref a] ∧ ns.length ≤ 63 ∧ H T = some (.tbl #[]) ∧ SqL K H a (ns.map V.int) ∧ ∀ H', Q (.bl true) H'
theorem lookup_at {ps : List (Str × V)} {fs : List (Str × D)} {F : Hp} {K : PySem.W.Frag} {W : Amb} {a C dx : Addr} {f : Str} {d : D} (hx : F a = some (.ins C dx (ps ++ ([("_found", V.ref T)] : List (Str × V))))) (kv : IsKV (id : Str → Str) F ps fs) (hcl : Cls K C) (hna : NoAttr K C f) (hf : fs.lookup f = some d)
    (hJ : ∀ F' H', W.J F' H' → Same F F') : AtOk K W a f d := fun F' H' j => by
  obtain ⟨v, h1, h2⟩ := isKV_lookup kv hf
  exact ⟨C, dx, _, v, hJ F' H' j _ _ hx, hcl, hna, by rw [List.lookup_append, h1]; rfl, h2.mono (hJ F' H' j)⟩
theorem run_s {W : Amb} {X : Cx} {st : Stmt} {p : RS} {F0 : Hp} (h : PSd W X st p) : PS X st (liftS ⟨W, F0, fun _ => none⟩ p) := h.run _ _
theorem run_ss {W : Amb} {X : Cx} {st : List Stmt} {p : RS} {F0 : Hp} (h : PSsd W X st p) : PSs X st (liftS ⟨W, F0, fun _ => none⟩ p) := h.run _ _
theorem run_r {W : Amb} {X : Cx} {e : Expr} {p : RE} {F0 : Hp} (h : PRd W X e p) : PE X e (liftR ⟨W, F0, fun _ => none⟩ p) := h.run _ _
theorem law_ok {fa fi : Addr} {fd fdi : FuncData} (ft : Fts mg)
    (c_law_draw : Cl P w K mg base 2 "_law_draw" 2 (s_law_draw K)) (c_law_store : Cl P w K mg base 5 "_law_store" 2 s_law_store) (c_law_given : Cl P w K mg base 4 "_law_given" 2 s_law_given)
    (c_law_pairs_apart : Cl P w K mg base 3 "_law_pairs_apart" 2 s_law_pairs_apart) (c_law_beside : Cl P w K mg base 2 "_law_beside" 1 s_law_beside) (c_law_lots : Cl P w K mg base 2 "_law_lots" 1 s_law_lots)
    (c_law_of : Cl P w K mg base 3 "_law_of" 2 s_law_of) (c_law_question : Cl P w K mg base 4 "_law_question" 2 s_law_question) (c_law_is_torn : Cl P w K mg base 3 "_law_is_torn" 2 s_law_is_torn)
    (c_law_divided : Cl P w K mg base 4 "_law_divided" 3 s_law_divided) (c_law_near : Cl P w K mg base 4 "_law_near" 3 s_law_near)
    (c_torn_plans : Cl P w K mg base 15 "torn_plans" 1 (s_torn_plans K w C T)) (cx_torn_plans : ClX P w K mg base 15 "torn_plans" f_torn_plans ["store"] (s_torn_plans K w C T))
    (c_are_torn_plans : Cl P w K mg base 7 "are_torn_plans" 2 (s_are_torn_plans K C)) (cx_are_torn_plans : ClX P w K mg base 7 "are_torn_plans" f_are_torn_plans ["store", "value"] (s_are_torn_plans K C))
    (M : Mk K C fi) (hmS : mg "Store" = some (.ref C)) (hcl : Cls K C) (hna : ∀ f ∈ (["key_count", "sizes", "states", "_index", "_found"] : List Str), NoAttr K C f)
    (Fi : FunD K "__init__" "Store.__init__" (defArgs m_init) (defBody m_init) (defScope m_init) [] [] fi fdi) (oki : FnOk P w K mg base CX0 6 fi fdi ["self", "sizes", "states"] (spInit K w C))
    (Fn : FunD K "law" "law" (defArgs f_law) (defBody f_law) (defScope f_law) [] [] fa fd) : FnOk P w K mg base CX0 16 fa fd ["_law_script"] (spLaw K T) := by
  have S0 := sc_law
  have nd := S0.nd
  refine Fn.ok S0 (fun vs H Q E ⟨a, ns, e, _⟩ => by rw [e]; rfl) fun cdv A outer s H vs Q E hr ⟨a, ns, e, hl, hT, hS, z⟩ => ?_
  subst e
  obtain ⟨pr, hpr, hpr2⟩ := law_rest (a := fa) (cdv := cdv) (A := A) (outer := outer) (s := s) (H := H) (E := E) ft c_law_pairs_apart c_law_beside c_law_lots c_law_of c_law_question c_law_is_torn c_law_divided c_law_near c_torn_plans cx_torn_plans c_are_torn_plans cx_are_torn_plans hr
  have bi : Binds K fdi ["self", "sizes", "states"] [] := Fi.bindsN (fun _ _ _ _ _ _ us hl => match us, hl with | [_, _, _], _ => rfl)
  refine ⟨_, PSs.nox (pss_cons (run_s (W := amb0 T a (ns.map V.int) (Rd H a (.lst (ns.map V.int)))) (F0 := fun _ => none) (sd_set (i := 1) nd rfl (Or.inl rfl) (pr_call c_law_draw (hr.mono (by decide)) rfl (pad_cons (pr_var (pv 0)) (pad_cons pr_int pad_nil)))))
    (PSs.ex fun p : Amb × Hp => pss_cons (run_s (W := p.1) (F0 := p.2) (sd_asg (pr_call c_law_store (hr.mono (by decide)) rfl (pad_cons (pr_var (pv 1)) (pad_cons pr_int pad_nil))) (gd_tup (is := [2, 3]) rfl (pgs_cons (pg_name (i := 2) nd rfl (Or.inl rfl)) (pgs_cons (pg_name (i := 3) nd rfl (Or.inl rfl)) pgs_nil)))))
    (pss_cons (ps_par (i := 4) (j := 5) rfl nd rfl rfl (by decide) rfl rfl (pa_cons (pe_make M oki (hr.mono (by decide)) rfl hmS bi .nil pass0 (pa_cons (pv 2) (pa_cons (PE.ex fun p : Amb × Hp => run_r (W := p.1) (F0 := p.2) (pr_call c_law_given (hr.mono (by decide)) rfl (pad_cons (pr_var (pv 1)) (pad_cons (pr_var (pv 3)) pad_nil)))) pa_nil))) (pa_cons (PE.ex fun p : Amb × Hp => run_r (W := p.1) (F0 := p.2) (pr_len rfl ft.m_len (pd_var (pv 2)))) pa_nil)) rfl)
    (PSs.ex fun p : Amb × Hp => run_ss (F0 := p.2) (hpr p.1))))), ?_⟩
  -- the script
  have ok0 : Okay (amb0 T a (ns.map V.int) (Rd H a (.lst (ns.map V.int)))) (fun _ => none) H := ⟨fun b o h => (by cases h), fun b h => rfl, ⟨⟨#[], hT, trivial, fun p cv h => (by cases h)⟩, fun h => h⟩⟩
  have hscr : HasScr K (amb0 T a (ns.map V.int) (Rd H a (.lst (ns.map V.int)))) a ns := fun F' H' j => by
    rcases hS with r | r
    · exact .inl (j.2 r)
    · exact .inr r
  refine ⟨fun _ => none, [.d (.ref a), .any, .any, .any, .any, .any, .any, .any, .any, .any, .any, .any, .any, .any, .any, .any], { nx := fun ρ => ∃ (cs : List Int) (b : Int), ρ = [.d (.ref a), .d (.lst [.lst (cs.map .int), .int b]), .any, .any, .any, .any, .any, .any, .any, .any, .any, .any, .any, .any, .any, .any] ∧ (∀ n ∈ cs, 0 ≤ n) ∧ cs.length ≤ 48 ∧ 0 ≤ b ∧ b < 2147483647, rt := fun _ => False },
    env_d ok0 rfl (by simp) (fun i d h => ?_), ?_, fun ρ1 σ1 F1 H1 ⟨cs, b, e1, c1, c2, c3, c4⟩ E1 => ?_, fun _ _ _ _ h => h.elim, fun _ _ _ _ h => h.elim, fun _ _ _ _ h => h.elim⟩
  · rcases i with _|_|_|_|_|_|_|_|_|_|_|_|_|_|_|_|i
    all_goals try (cases h; done)
    cases h
    exact ⟨_, rfl, .ref a⟩
  · exact ⟨_, rfl, _, rfl, _, rfl, a, ns, rfl, hscr, by omega, fun cs b h1 h2 h3 h4 => ⟨cs, b, rfl, h1, h2, h3, h4⟩⟩
  subst e1
  have len1 := E1.len
  obtain ⟨vd, g1, g2⟩ := E1.slot (i := 1) rfl
  obtain ⟨da, ys, rfl, hda, il⟩ := g2.lst_inv
  obtain ⟨y1, y2, rfl, i1, i2⟩ : ∃ y1 y2, ys = [y1, y2] ∧ Is F1 y1 (.lst (cs.map .int)) ∧ Is F1 y2 (.int b) := by
    match ys, il with
    | [y1, y2], ⟨j1, j2, _⟩ => exact ⟨y1, y2, rfl, j1, j2⟩
  obtain ⟨d0, zs, rfl, hd0, il0⟩ := i1.lst_inv
  have ez := isL_ints il0
  subst ez
  have ei := i2.int_inv
  subst ei
  have tT : F1 T = none := E1.ok.na T (.inl rfl)
  have n1 : T ≠ da := fun e => by rw [← e, tT] at hda; cases hda
  have n2 : T ≠ d0 := fun e => by rw [← e, tT] at hd0; cases hd0
  have n3 : da ≠ d0 := fun e => by
    rw [← e, hda] at hd0
    have e2 := HO.lst.inj (Option.some.inj hd0)
    cases cs with
    | nil => cases e2
    | cons x cs => cases e2
  have hdl := dl_amb1 n1 n2 n3
  have ok1 : Okay (amb1 T da d0) (fun b => if b = da ∨ b = d0 then none else F1 b) H1 := by
    refine ⟨fun b o h => ?_, fun b h => ?_, ⟨?_, ⟨cs, b, E1.ok.fh _ _ hda, E1.ok.fh _ _ hd0, c1, by omega, c3, c4⟩⟩⟩
    · have h : (if b = da ∨ b = d0 then none else F1 b) = some o := h
      split at h
      · cases h
      · exact E1.ok.fh b o h
    · show (if b = da ∨ b = d0 then none else F1 b) = none
      rcases h with e | e
      · rw [e, if_neg (by simp [n1, n2])]; exact tT
      · rw [if_pos e]
    · obtain ⟨ps, h1, h2, h3⟩ := E1.ok.j.1.ex
      refine ⟨ps, h1, h2, fun p cv hc => ?_⟩
      obtain ⟨c, e1, e2⟩ := h3 p cv hc
      refine ⟨c, e1, ?_⟩
      show (if c = da ∨ c = d0 then none else F1 c) = _
      rw [if_neg, e2]
      rintro (e | e)
      · rw [e, hda] at e2; cases e2
      · rw [e, hd0] at e2; cases e2
  -- the sizes and the states
  refine ⟨(amb1 T da d0, fun b => if b = da ∨ b = d0 then none else F1 b), _, [.any, .d (.ref da), .any, .any, .any, .any, .any, .any, .any, .any, .any, .any, .any, .any, .any, .any], { nx := fun ρ => ∃ (sizes : List Nat) (S : List Row), ρ = [.any, .d (.ref da), .d (.lst ((natsI sizes).map .int)), .d (.lst (rowsD S)), .any, .any, .any, .any, .any, .any, .any, .any, .any, .any, .any, .any] ∧ SizesOk sizes ∧ S ≠ [] ∧ S.Sublist (allR sizes), rt := fun _ => False },
    env_d ok1 len1.symm (by simp) (fun i d h => ?_), ?_, fun ρ2 σ2 F2 H2 ⟨sizes, S, e2, hok, hne, hsub⟩ E2 => ?_, fun _ _ _ _ h => h.elim, fun _ _ _ _ h => h.elim, fun _ _ _ _ h => h.elim⟩
  · rcases i with _|_|_|_|_|_|_|_|_|_|_|_|_|_|_|_|i
    all_goals try (cases h; done)
    cases h
    exact ⟨_, g1, .ref da⟩
  · exact ⟨_, rfl, _, rfl, _, rfl, da, rfl, hdl, fun sizes S h1 h2 h3 => ⟨_, rfl, _, rfl, rfl, sizes, S, rfl, h1, h2, h3⟩⟩
  subst e2
  have len2 := E2.len
  obtain ⟨v1, p1, q1⟩ := E2.slot (i := 1) rfl
  obtain ⟨v2, p2, q2⟩ := E2.slot (i := 2) rfl
  obtain ⟨v3, p3, q3⟩ := E2.slot (i := 3) rfl
  have hS24 : S.length ≤ 24 := by
    have h1 := hsub.length_le
    have h2 := hok.rows sizes.length
    rw [List.take_length] at h2
    omega
  have hS0 : StS S sizes := ⟨hok, fun s hs => ⟨(rows_bound hok hsub hs).1, (rows_bound hok hsub hs).2.1⟩, ((allR_asc (B := 4) sizes.length sizes rfl fun s hs => by have := (hok.one s hs).2; omega).sublist hsub).imp (fun h e => by rw [e] at h; omega), hne, hS24⟩
  -- the store
  refine ⟨v2, p2, (amb1 T da d0, fun b => if b = da ∨ b = d0 then none else F1 b), F2, _, fun s => ∃ xs : List D, s = .d (.lst xs) ∧ GivenOk S xs, E2, ?_, fun sg vg ag F3 H3 ⟨xs, e3, hg⟩ st3 sv3 nw3 => ?_⟩
  · exact ⟨_, rfl, _, rfl, _, rfl, _, rfl, da, S, rfl, hdl, hne, by omega, fun xs h1 h2 h3 => ⟨xs, rfl, h1, h2, h3⟩⟩
  subst e3
  intro x dx nx ndx nxd
  have f3x := st3.ok.fresh nx
  have nAx := st3.ok.alive nx
  have st4 := Step.own (o := .own x) st3.ok ndx
  have st5 := Step.own (o := .ins C dx []) st4.ok (p := x) (by rw [upd_ne (Ne.symm nxd)]; exact nx)
  refine ⟨amb1 T da d0, F3, x, dx, v2, vg, sizes, xs, S, rfl, st5.ok, upd_same, f3x, nAx, q2.mono st3.ff, sv3.2, hok, hne, hsub, hS24, hg, fun F' H' fd dx' ps kvs ff kp nw ok' fx hx' hkv hix nfd ffd nfx nAfd hfd => ⟨rfl, ?_⟩⟩
  have fT : fd ≠ T := fun e => nAfd (.inl e)
  have fda : fd ≠ da := fun e => nAfd (.inr (.inl e))
  have fd0 : fd ≠ d0 := fun e => nAfd (.inr (.inr e))
  have xT : x ≠ T := fun e => nAx (.inl e)
  have xda : x ≠ da := fun e => nAx (.inr (.inl e))
  have xd0 : x ≠ d0 := fun e => nAx (.inr (.inr e))
  generalize hF5 : upd F' x (.ins C dx' (ps ++ ([("_found", V.ref fd)] : List (Str × V)))) = F5
  have ff5 : Same F' F5 := fun b o h => by rw [← hF5, upd_ne (ne_of_none h fx)]; exact h
  have hx5 : F5 x = some (.ins C dx' (ps ++ ([("_found", V.ref fd)] : List (Str × V)))) := by rw [← hF5]; exact upd_same
  have ok5 : Okay (amb2 w S sizes.length T da d0 fd F5) F5 H' := by
    refine ⟨fun b o h => ?_, fun b h => ?_, Same.refl _, ok'.j.1.mono ff5 rfl, ok'.j.2, ⟨[], hfd, ⟨fun y hy => (by cases hy), List.nodup_nil, by simp⟩, fun y hy => (by cases hy)⟩⟩
    · by_cases e : b = x
      · rw [e, hx5] at h
        rw [e, hx', h]
      · rw [← hF5, upd_ne e] at h
        exact ok'.fh b o h
    · have nb : b ≠ x ∧ F' b = none := by
        rcases h with e | e | e | e <;> rw [e]
        · exact ⟨Ne.symm xT, ok'.na T (.inl rfl)⟩
        · exact ⟨Ne.symm xda, ok'.na da (.inr (.inl rfl))⟩
        · exact ⟨Ne.symm xd0, ok'.na d0 (.inr (.inr rfl))⟩
        · exact ⟨nfx, ffd⟩
      rw [← hF5, upd_ne nb.1]
      exact nb.2
  have ff25 : Same F2 F5 := (st3.ff.trans ff).trans ff5
  have el : ((natsI sizes).map D.int).length = sizes.length := by simp [natsI]
  refine ⟨(amb2 w S sizes.length T da d0 fd F5, F5), F5, [.any, .d (.ref da), .d (.lst ((natsI sizes).map .int)), .d (.lst (rowsD S)), .any, .any, .any, .any, .any, .any, .any, .any, .any, .any, .any, .any], fun s => s = .d (.int (sizes.length : Nat)), env_d ok5 len2.symm (by simp) (fun i d h => ?_), ?_, fun sg vg ag F6 H6 e6 st6 sv6 nw6 => ?_⟩
  · rcases i with _|_|_|_|_|_|_|_|_|_|_|_|_|_|_|_|i
    all_goals try (cases h; done)
    · cases h; exact ⟨_, p1, q1.mono ff25⟩
    · cases h; exact ⟨_, p2, q2.mono ff25⟩
    · cases h; exact ⟨_, p3, q3.mono ff25⟩
  · exact ⟨_, rfl, nofun, _, _, rfl, rfl, by rw [el]⟩
  subst e6
  refine ⟨_, _, rfl, ?_⟩
  have hJ : ∀ F' H', (amb2 w S sizes.length T da d0 fd F5).J F' H' → Same F5 F' := fun _ _ j => j.1
  have at_ : ∀ (f : Str) (d : D), f ∈ (["key_count", "sizes", "states", "_index", "_found"] : List Str) → (fieldsS sizes S kvs).lookup f = some d → AtOk K (amb2 w S sizes.length T da d0 fd F5) x f d := fun f d hf hl => lookup_at hx5 (hkv.mono ff5) hcl (hna f hf) hl hJ
  have ins : ∀ m : Str, (fieldsS sizes S kvs).lookup m = none → (m == ("_found" : Str)) = false → InsOk (amb2 w S sizes.length T da d0 fd F5) x C m := fun m hm hne F H j => ⟨dx', _, j.1 _ _ hx5, by
    rw [List.lookup_append, isKV_no hkv hm, List.lookup_cons, hne]
    rfl⟩
  have hSt : HasSt K C (amb2 w S sizes.length T da d0 fd F5) x S sizes := ⟨at_ _ _ (by simp) rfl, at_ _ _ (by simp) rfl, at_ _ _ (by simp) rfl, ⟨kvs, at_ _ _ (by simp) rfl, hix.at', hix.no⟩, ins _ rfl rfl, ins _ rfl rfl⟩
  have hCa : HasCa K w (amb2 w S sizes.length T da d0 fd F5) x S sizes.length := ⟨hok.few, fd, fun F H j => ⟨C, dx', _, _, j.1 _ _ hx5, hcl, hna _ (by simp), by
      rw [List.lookup_append, isKV_no hkv (by rfl)]
      rfl, .ref fd⟩, .inr (.inr (.inr rfl)), fun F H j => j.2.2.2, fun F H H' j k ca => ⟨j.1, j.2.1.mono (Same.refl _) (k T (.inl rfl) (Ne.symm fT)), j.2.2.1.mono (k da (.inr (.inl rfl)) (Ne.symm fda)) (k d0 (.inr (.inr (.inl rfl))) (Ne.symm fd0)), ca⟩⟩
  have hAll : HasAll K w C T (amb2 w S sizes.length T da d0 fd F5) x S sizes := ⟨hSt, hS0, hCa, tab_amb2 n1 n2 fT⟩
  refine ⟨(amb2 w S sizes.length T da d0 fd F5, F6), F6, [.any, .d (.ref da), .d (.lst ((natsI sizes).map .int)), .d (.lst (rowsD S)), .d (.ref x), .d (.int (sizes.length : Nat)), .any, .any, .any, .any, .any, .any, .any, .any, .any, .any], { nx := fun _ => False, rt := fun d => d = .bl true }, env_d st6.ok (by rw [List.length_set, List.length_set]; exact len2.symm) (by simp) (fun i d h => ?_), hpr2 _ da x S sizes _ .any hAll (dl_amb2 n1 n2 n3 fda fd0) rfl, fun _ _ _ _ h => h.elim, fun d v F H hd st i => ?_, fun _ _ _ _ h => h.elim, fun _ _ _ _ h => h.elim⟩
  · have l16 : σ2.length = 16 := len2.symm
    rcases i with _|_|_|_|_|_|_|_|_|_|_|_|_|_|_|_|i
    all_goals try (cases h; done)
    · cases h
      exact ⟨_, by rw [List.getElem?_set_ne (by decide), List.getElem?_set_ne (by decide)]; exact p1, (q1.mono ff25).mono st6.ff⟩
    · cases h
      exact ⟨_, by rw [List.getElem?_set_ne (by decide), List.getElem?_set_ne (by decide)]; exact p2, (q2.mono ff25).mono st6.ff⟩
    · cases h
      exact ⟨_, by rw [List.getElem?_set_ne (by decide), List.getElem?_set_ne (by decide)]; exact p3, (q3.mono ff25).mono st6.ff⟩
    · cases h
      exact ⟨_, by rw [List.getElem?_set_ne (by decide), List.getElem?_set_self (by omega)], .ref x⟩
    · cases h
      exact ⟨_, by rw [List.getElem?_set_self (by rw [List.length_set]; omega)], sv6.2⟩
  · subst hd
    rw [i.bl_inv]
    exact z H
end
end DL
namespace DL
open PySem PySem.Spec L2 Tx MX LX LamX
section
variable {P : Program} {w : World} {K : PySem.W.Frag} {mg : Str → Option Value} {base : Heap} {C T c : Addr}
theorem dfc_of {x : Str} {st : Stmt} {fd : FuncData} (hm : mg x = some (.ref (He.ga K x))) (F : FunD K x x (defArgs st) (defBody st) (defScope st) [] [] (He.fAd K (x, none)) fd) : DFC K mg x st (He.codeOf K (x, none)) := by
  refine ⟨He.ga K x, fd, hm, F, ?_⟩
  obtain ⟨oc, od, dV, kV, doc, pm, an, cdv, ct, osl, e, lk, hcd, _⟩ := F.ex
  obtain ⟨c', e1⟩ := He.codeIn_ref hcd
  subst e1
  have e2 : fd.code = .ref c' := by rw [e]
  rw [He.codeOf_eq lk e2]
  exact e2
theorem law_all {fa fi : Addr} {fd fdi : FuncData} (ft : Fts mg) (hcl : Cls K C) (hna : ∀ f ∈ (["key_count", "sizes", "states", "_index", "_found"] : List Str), NoAttr K C f) (M : Mk K C fi) (hmS : mg "Store" = some (.ref C)) (TB : TabB base mg c T)
    (d_is_integer : DF K mg "is_integer" f_is_integer)
    (d_is_number : DF K mg "is_number" f_is_number)
    (d_is_index : DF K mg "is_index" f_is_index)
    (d_is_sequence : DF K mg "is_sequence" f_is_sequence)
    (d_is_state_of : DF K mg "is_state_of" f_is_state_of)
    (d_same_keys : DF K mg "same_keys" f_same_keys)
    (d_seen_on : DF K mg "seen_on" f_seen_on)
    (d_law_apart : DF K mg "_law_apart" f_law_apart)
    (d_changed_key : DF K mg "changed_key" f_changed_key)
    (d_law_homes : DF K mg "_law_homes" f_law_homes)
    (d_law_tells : DF K mg "_law_tells" f_law_tells)
    (d_law_part_question : DF K mg "_law_part_question" f_law_part_question)
    (d_law_beside : DF K mg "_law_beside" f_law_beside)
    (d_law_pairs_apart : DF K mg "_law_pairs_apart" f_law_pairs_apart)
    (d_law_is_state : DF K mg "_law_is_state" f_law_is_state)
    (d_law_is_lot : DF K mg "_law_is_lot" f_law_is_lot)
    (d_law_is_torn : DF K mg "_law_is_torn" f_law_is_torn)
    (d_law_lots : DF K mg "_law_lots" f_law_lots)
    (d_law_all : DF K mg "_law_all" f_law_all)
    (d_law_any : DF K mg "_law_any" f_law_any)
    (d_law_draw : DF K mg "_law_draw" f_law_draw)
    (d_law_of : DF K mg "_law_of" f_law_of)
    (d_law_mixed : DF K mg "_law_mixed" f_law_mixed)
    (d_law_sizes : DF K mg "_law_sizes" f_law_sizes)
    (d_law_store : DF K mg "_law_store" f_law_store)
    (d_law_question : DF K mg "_law_question" f_law_question)
    (d_law_given : DF K mg "_law_given" f_law_given)
    (d_law_divided : DF K mg "_law_divided" f_law_divided)
    (d_law_near : DF K mg "_law_near" f_law_near)
    (dm_index_of : DM K C "index_of" "Store.index_of" m_index_of)
    (d_checked_lot : DF K mg "checked_lot" f_checked_lot)
    (d_other_keys : DF K mg "other_keys" f_other_keys)
    (d_views : DF K mg "views" f_views)
    (d_is_asked : DF K mg "is_asked" f_is_asked)
    (d_all_lots : DF K mg "all_lots" f_all_lots)
    (d_is_allowed : DF K mg "is_allowed" f_is_allowed)
    (d_is_lot : DF K mg "is_lot" f_is_lot)
    (d_first_fault : DF K mg "first_fault" f_first_fault)
    (d_are_torn_plans : DF K mg "are_torn_plans" f_are_torn_plans)
    (d_near : DF K mg "near" f_near)
    (d_find_near : DF K mg "find_near" f_find_near)
    (dm_found : DM K C "found" "Store.found" m_found)
    (d_near_by_keys : DF K mg "near_by_keys" f_near_by_keys)
    (d_homes_of : DF K mg "homes_of" f_homes_of)
    (d_homes : DFC K mg "homes" f_homes c)
    (d_together : DF K mg "together" f_together)
    (d_whole : DF K mg "whole" f_whole)
    (d_find_joined : DF K mg "find_joined" f_find_joined)
    (d_is_joined : DF K mg "is_joined" f_is_joined)
    (d_nearest_apart : DF K mg "nearest_apart" f_nearest_apart)
    (d_part_of : DF K mg "part_of" f_part_of)
    (d_torn_plans : DF K mg "torn_plans" f_torn_plans)
    (Fi : FunD K "__init__" "Store.__init__" (defArgs m_init) (defBody m_init) (defScope m_init) [] [] fi fdi) (Fn : FunD K "law" "law" (defArgs f_law) (defBody f_law) (defScope f_law) [] [] fa fd) : FnOk P w K mg base CX0 16 fa fd ["_law_script"] (spLaw K T) := by
  have c_is_integer : Cl P w K mg base 2 "is_integer" 1 s_is_integer := c_is_integer ft d_is_integer
  have c_is_number : Cl P w K mg base 3 "is_number" 1 s_is_number := c_is_number ft c_is_integer d_is_number
  have c_is_index : Cl P w K mg base 4 "is_index" 2 s_is_index := c_is_index ft c_is_number d_is_index
  have c_is_sequence : Cl P w K mg base 2 "is_sequence" 1 s_is_sequence := c_is_sequence ft d_is_sequence
  have c_is_state_of : Cl P w K mg base 5 "is_state_of" 2 s_is_state_of := c_is_state_of ft c_is_index c_is_sequence d_is_state_of
  have c_same_keys : Cl P w K mg base 2 "same_keys" 2 s_same_keys := c_same_keys ft d_same_keys
  have c_seen_on : Cl P w K mg base 2 "seen_on" 2 s_seen_on := c_seen_on ft d_seen_on
  have c_law_apart : Cl P w K mg base 2 "_law_apart" 2 s_law_apart := c_law_apart ft d_law_apart
  have c_changed_key : Cl P w K mg base 2 "changed_key" 2 s_changed_key := c_changed_key ft d_changed_key
  have c_law_homes : Cl P w K mg base 2 "_law_homes" 3 s_law_homes := c_law_homes ft d_law_homes
  have c_law_tells : Cl P w K mg base 2 "_law_tells" 3 s_law_tells := c_law_tells ft d_law_tells
  have c_law_part_question : Cl P w K mg base 2 "_law_part_question" 3 s_law_part_question := c_law_part_question ft d_law_part_question
  have c_law_beside : Cl P w K mg base 2 "_law_beside" 1 s_law_beside := c_law_beside ft d_law_beside
  have c_law_pairs_apart : Cl P w K mg base 3 "_law_pairs_apart" 2 s_law_pairs_apart := c_law_pairs_apart ft c_law_apart c_law_homes d_law_pairs_apart
  have c_law_is_state : Cl P w K mg base 2 "_law_is_state" 2 s_law_is_state := c_law_is_state ft d_law_is_state
  have c_law_is_lot : Cl P w K mg base 2 "_law_is_lot" 2 s_law_is_lot := c_law_is_lot ft d_law_is_lot
  have c_law_is_torn : Cl P w K mg base 3 "_law_is_torn" 2 s_law_is_torn := c_law_is_torn ft c_law_is_lot c_law_is_state c_law_tells d_law_is_torn
  have c_law_lots : Cl P w K mg base 2 "_law_lots" 1 s_law_lots := c_law_lots ft d_law_lots
  have c_law_all : Cl P w K mg base 2 "_law_all" 1 s_law_all := c_law_all ft d_law_all
  have c_law_any : Cl P w K mg base 2 "_law_any" 2 s_law_any := c_law_any ft d_law_any
  have c_law_draw : Cl P w K mg base 2 "_law_draw" 2 (s_law_draw K) := c_law_draw ft d_law_draw
  have c_law_of : Cl P w K mg base 3 "_law_of" 2 s_law_of := c_law_of ft c_law_any d_law_of
  have c_law_mixed : Cl P w K mg base 3 "_law_mixed" 2 s_law_mixed := c_law_mixed ft c_law_any d_law_mixed
  have c_law_sizes : Cl P w K mg base 4 "_law_sizes" 2 s_law_sizes := c_law_sizes ft c_law_of d_law_sizes
  have c_law_store : Cl P w K mg base 5 "_law_store" 2 s_law_store := c_law_store ft c_law_all c_law_any c_law_of c_law_sizes d_law_store
  have c_law_question : Cl P w K mg base 4 "_law_question" 2 s_law_question := c_law_question ft c_law_any c_law_of d_law_question
  have c_law_given : Cl P w K mg base 4 "_law_given" 2 s_law_given := c_law_given ft c_law_any c_law_mixed c_law_of d_law_given
  have c_law_divided : Cl P w K mg base 4 "_law_divided" 3 s_law_divided := c_law_divided ft c_law_any c_law_apart c_law_mixed c_law_of c_law_part_question d_law_divided
  have c_law_near : Cl P w K mg base 4 "_law_near" 3 s_law_near := c_law_near ft c_law_any c_law_of d_law_near
  have c_index_of : ClM P w K mg base 2 C "index_of" 2 (s_index_of K) := c_index_of dm_index_of
  have c_checked_lot : Cl P w K mg base 5 "checked_lot" 2 (s_checked_lot K C) := c_checked_lot ft c_is_index c_is_sequence d_checked_lot
  have c_other_keys : Cl P w K mg base 6 "other_keys" 2 (s_other_keys K C) := c_other_keys ft c_checked_lot d_other_keys
  have c_views : Cl P w K mg base 3 "views" 2 (s_views K C) := c_views ft c_seen_on d_views
  have c_is_asked : Cl P w K mg base 4 "is_asked" 2 (s_is_asked K C) := c_is_asked ft c_is_number d_is_asked
  have c_all_lots : Cl P w K mg base 2 "all_lots" 1 (s_all_lots K C) := c_all_lots ft d_all_lots
  have c_is_allowed : Cl P w K mg base 6 "is_allowed" 2 (s_is_allowed K C) := c_is_allowed ft c_is_state_of hcl c_index_of d_is_allowed
  have c_is_lot : Cl P w K mg base 5 "is_lot" 2 (s_is_lot K C) := c_is_lot ft c_is_index d_is_lot
  have c_first_fault : Cl P w K mg base 4 "first_fault" 3 (s_first_fault K C) := c_first_fault ft c_views d_first_fault
  have cx_are_torn_plans : ClX P w K mg base 7 "are_torn_plans" f_are_torn_plans ["store", "value"] (s_are_torn_plans K C) := cx_are_torn_plans ft c_first_fault c_is_allowed c_is_asked c_is_lot hcl c_index_of d_are_torn_plans
  have c_are_torn_plans : Cl P w K mg base 7 "are_torn_plans" 2 (s_are_torn_plans K C) := c_are_torn_plans ft c_first_fault c_is_allowed c_is_asked c_is_lot hcl c_index_of d_are_torn_plans
  have c_near : Cl P w K mg base 3 "near" 2 (s_near K C) := c_near ft hcl c_index_of d_near
  have c_find_near : Cl P w K mg base 4 "find_near" 1 (s_find_near K C) := c_find_near ft c_changed_key c_near d_find_near
  have c_near_by_keys : Cl P w K mg base 6 "near_by_keys" 1 (s_near_by_keys K w C) := c_near_by_keys c_find_near hcl dm_found d_near_by_keys
  have c_homes_of : Cl P w K mg base 7 "homes_of" 2 (s_homes_of K w C) := c_homes_of ft c_near_by_keys d_homes_of
  have c_homes : Cl P w K mg base 10 "homes" 2 (s_homes K w C T) := c_homes c_homes_of hcl dm_found TB d_homes
  have c_together : Cl P w K mg base 11 "together" 3 (s_together K w C T) := c_together ft c_homes c_other_keys c_same_keys d_together
  have c_whole : Cl P w K mg base 11 "whole" 2 (s_whole K w C T) := c_whole ft c_homes c_other_keys c_seen_on d_whole
  have c_find_joined : Cl P w K mg base 12 "find_joined" 1 (s_find_joined K w C T) := c_find_joined ft c_all_lots c_whole d_find_joined
  have c_is_joined : Cl P w K mg base 14 "is_joined" 1 (s_is_joined K w C T) := c_is_joined c_find_joined hcl dm_found d_is_joined
  have c_nearest_apart : Cl P w K mg base 12 "nearest_apart" 1 (s_nearest_apart K w C T) := c_nearest_apart ft c_same_keys c_together d_nearest_apart
  have c_part_of : Cl P w K mg base 3 "part_of" 3 (s_part_of K C) := c_part_of ft c_seen_on d_part_of
  have cx_torn_plans : ClX P w K mg base 15 "torn_plans" f_torn_plans ["store"] (s_torn_plans K w C T) := cx_torn_plans ft c_is_joined c_nearest_apart c_other_keys c_part_of c_same_keys d_torn_plans
  have c_torn_plans : Cl P w K mg base 15 "torn_plans" 1 (s_torn_plans K w C T) := c_torn_plans ft c_is_joined c_nearest_apart c_other_keys c_part_of c_same_keys d_torn_plans
  have c_is_state_ofT : Cl P w K mg base 5 "is_state_of" 2 s_is_state_ofT := c_is_state_ofT ft c_is_index c_is_sequence d_is_state_of
  have oki : FnOk P w K mg base CX0 6 fi fdi ["self", "sizes", "states"] (spInit K w C) := init_ok ft c_is_number c_is_sequence c_is_state_ofT hcl hna Fi
  exact law_ok ft c_law_draw c_law_store c_law_given c_law_pairs_apart c_law_beside c_law_lots c_law_of c_law_question c_law_is_torn c_law_divided c_law_near c_torn_plans cx_torn_plans c_are_torn_plans cx_are_torn_plans M hmS hcl hna Fi oki Fn
end
theorem facts {l : PySem.W.OpenLaw} {w : World} {K : PySem.W.Frag} {h : Heap} {mg : Str → Option Value} {f : Addr} (X : K.In h) (G : h.Ns mainGlobals mg) (hfa : mg ("law" : Str) = some (.ref f)) (c : He.SaysX fa fn [] tf (fun _ => true) w h K) : LawAtS l w K CX0 16 63 "_law_script" mg f h := by
  have cd := c.t.d
  obtain ⟨fd_d_is_integer, F_d_is_integer⟩ := cd.def_ 0 (d := df_is_integer) rfl
  obtain ⟨fd_d_is_number, F_d_is_number⟩ := cd.def_ 1 (d := df_is_number) rfl
  obtain ⟨fd_d_is_index, F_d_is_index⟩ := cd.def_ 2 (d := df_is_index) rfl
  obtain ⟨fd_d_is_sequence, F_d_is_sequence⟩ := cd.def_ 3 (d := df_is_sequence) rfl
  obtain ⟨fd_d_is_state_of, F_d_is_state_of⟩ := cd.def_ 4 (d := df_is_state_of) rfl
  obtain ⟨fd_d_same_keys, F_d_same_keys⟩ := cd.def_ 9 (d := df_same_keys) rfl
  obtain ⟨fd_d_seen_on, F_d_seen_on⟩ := cd.def_ 11 (d := df_seen_on) rfl
  obtain ⟨fd_d_law_apart, F_d_law_apart⟩ := cd.def_ 44 (d := df_law_apart) rfl
  obtain ⟨fd_d_changed_key, F_d_changed_key⟩ := cd.def_ 13 (d := df_changed_key) rfl
  obtain ⟨fd_d_law_homes, F_d_law_homes⟩ := cd.def_ 43 (d := df_law_homes) rfl
  obtain ⟨fd_d_law_tells, F_d_law_tells⟩ := cd.def_ 41 (d := df_law_tells) rfl
  obtain ⟨fd_d_law_part_question, F_d_law_part_question⟩ := cd.def_ 50 (d := df_law_part_question) rfl
  obtain ⟨fd_d_law_beside, F_d_law_beside⟩ := cd.def_ 42 (d := df_law_beside) rfl
  obtain ⟨fd_d_law_pairs_apart, F_d_law_pairs_apart⟩ := cd.def_ 45 (d := df_law_pairs_apart) rfl
  obtain ⟨fd_d_law_is_state, F_d_law_is_state⟩ := cd.def_ 46 (d := df_law_is_state) rfl
  obtain ⟨fd_d_law_is_lot, F_d_law_is_lot⟩ := cd.def_ 48 (d := df_law_is_lot) rfl
  obtain ⟨fd_d_law_is_torn, F_d_law_is_torn⟩ := cd.def_ 49 (d := df_law_is_torn) rfl
  obtain ⟨fd_d_law_lots, F_d_law_lots⟩ := cd.def_ 40 (d := df_law_lots) rfl
  obtain ⟨fd_d_law_all, F_d_law_all⟩ := cd.def_ 36 (d := df_law_all) rfl
  obtain ⟨fd_d_law_any, F_d_law_any⟩ := cd.def_ 33 (d := df_law_any) rfl
  obtain ⟨fd_d_law_draw, F_d_law_draw⟩ := cd.def_ 32 (d := df_law_draw) rfl
  obtain ⟨fd_d_law_of, F_d_law_of⟩ := cd.def_ 34 (d := df_law_of) rfl
  obtain ⟨fd_d_law_mixed, F_d_law_mixed⟩ := cd.def_ 35 (d := df_law_mixed) rfl
  obtain ⟨fd_d_law_sizes, F_d_law_sizes⟩ := cd.def_ 37 (d := df_law_sizes) rfl
  obtain ⟨fd_d_law_store, F_d_law_store⟩ := cd.def_ 38 (d := df_law_store) rfl
  obtain ⟨fd_d_law_question, F_d_law_question⟩ := cd.def_ 39 (d := df_law_question) rfl
  obtain ⟨fd_d_law_given, F_d_law_given⟩ := cd.def_ 47 (d := df_law_given) rfl
  obtain ⟨fd_d_law_divided, F_d_law_divided⟩ := cd.def_ 51 (d := df_law_divided) rfl
  obtain ⟨fd_d_law_near, F_d_law_near⟩ := cd.def_ 52 (d := df_law_near) rfl
  obtain ⟨fd_dm_index_of, F_dm_index_of⟩ := cd.def_ 7 (d := dm_index_of) rfl
  obtain ⟨fd_d_checked_lot, F_d_checked_lot⟩ := cd.def_ 8 (d := df_checked_lot) rfl
  obtain ⟨fd_d_other_keys, F_d_other_keys⟩ := cd.def_ 10 (d := df_other_keys) rfl
  obtain ⟨fd_d_views, F_d_views⟩ := cd.def_ 23 (d := df_views) rfl
  obtain ⟨fd_d_is_asked, F_d_is_asked⟩ := cd.def_ 30 (d := df_is_asked) rfl
  obtain ⟨fd_d_all_lots, F_d_all_lots⟩ := cd.def_ 20 (d := df_all_lots) rfl
  obtain ⟨fd_d_is_allowed, F_d_is_allowed⟩ := cd.def_ 25 (d := df_is_allowed) rfl
  obtain ⟨fd_d_is_lot, F_d_is_lot⟩ := cd.def_ 29 (d := df_is_lot) rfl
  obtain ⟨fd_d_first_fault, F_d_first_fault⟩ := cd.def_ 24 (d := df_first_fault) rfl
  obtain ⟨fd_d_are_torn_plans, F_d_are_torn_plans⟩ := cd.def_ 31 (d := df_are_torn_plans) rfl
  obtain ⟨fd_d_near, F_d_near⟩ := cd.def_ 12 (d := df_near) rfl
  obtain ⟨fd_d_find_near, F_d_find_near⟩ := cd.def_ 14 (d := df_find_near) rfl
  obtain ⟨fd_dm_found, F_dm_found⟩ := cd.def_ 6 (d := dm_found) rfl
  obtain ⟨fd_d_near_by_keys, F_d_near_by_keys⟩ := cd.def_ 15 (d := df_near_by_keys) rfl
  obtain ⟨fd_d_homes_of, F_d_homes_of⟩ := cd.def_ 16 (d := df_homes_of) rfl
  obtain ⟨fd_d_homes, F_d_homes⟩ := cd.def_ 17 (d := df_homes) rfl
  obtain ⟨fd_d_together, F_d_together⟩ := cd.def_ 18 (d := df_together) rfl
  obtain ⟨fd_d_whole, F_d_whole⟩ := cd.def_ 19 (d := df_whole) rfl
  obtain ⟨fd_d_find_joined, F_d_find_joined⟩ := cd.def_ 21 (d := df_find_joined) rfl
  obtain ⟨fd_d_is_joined, F_d_is_joined⟩ := cd.def_ 22 (d := df_is_joined) rfl
  obtain ⟨fd_d_nearest_apart, F_d_nearest_apart⟩ := cd.def_ 26 (d := df_nearest_apart) rfl
  obtain ⟨fd_d_part_of, F_d_part_of⟩ := cd.def_ 27 (d := df_part_of) rfl
  obtain ⟨fd_d_torn_plans, F_d_torn_plans⟩ := cd.def_ 28 (d := df_torn_plans) rfl
  obtain ⟨fd_Fi, F_Fi⟩ := cd.def_ 5 (d := dm_init) rfl
  obtain ⟨fd_Fn, F_Fn⟩ := cd.def_ 53 (d := df_law) rfl
  have ft : Fts mg := ⟨He.free_ok X G (cd.fact 62 (f := .free "len") rfl), He.free_ok X G (cd.fact 63 (f := .free "isinstance") rfl), He.free_ok X G (cd.fact 64 (f := .free "all") rfl), He.free_ok X G (cd.fact 65 (f := .free "zip") rfl), He.free_ok X G (cd.fact 66 (f := .free "enumerate") rfl), He.free_ok X G (cd.fact 67 (f := .free "tuple") rfl), He.free_ok X G (cd.fact 68 (f := .free "sorted") rfl), He.free_ok X G (cd.fact 69 (f := .free "set") rfl), He.free_ok X G (cd.fact 70 (f := .free "range") rfl), He.free_ok X G (cd.fact 71 (f := .free "list") rfl), He.free_ok X G (cd.fact 72 (f := .free "abs") rfl), He.free_ok X G (cd.fact 73 (f := .free "int") rfl), He.free_ok X G (cd.fact 74 (f := .free "bool") rfl), He.free_ok X G (cd.fact 75 (f := .free "sum") rfl), He.free_ok X G (cd.fact 76 (f := .free "min") rfl), He.free_ok X G (cd.fact 77 (f := .free "repr") rfl)⟩
  have hcl : Cls K (He.ga K "Store") := He.cls_ok (cd.fact 52 (f := .cls "Store") rfl)
  have hna : ∀ f ∈ (["key_count", "sizes", "states", "_index", "_found"] : List Str), NoAttr K (He.ga K "Store") f := fun f hf => by
    simp only [List.mem_cons, List.mem_nil_iff, or_false] at hf
    rcases hf with e | e | e | e | e <;> subst e
    · exact He.noat_ok (cd.fact 57 (f := .noat "Store" "key_count") rfl)
    · exact He.noat_ok (cd.fact 58 (f := .noat "Store" "sizes") rfl)
    · exact He.noat_ok (cd.fact 59 (f := .noat "Store" "states") rfl)
    · exact He.noat_ok (cd.fact 60 (f := .noat "Store" "_index") rfl)
    · exact He.noat_ok (cd.fact 61 (f := .noat "Store" "_found") rfl)
  have M := He.mkr_ok (cd.fact 53 (f := .mkr "Store") rfl)
  have hmS := He.glo_ok X G (cd.fact 51 (f := .glo "Store") rfl)
  have e := hfa.symm.trans (He.glo_ok X G (cd.fact 50 (f := .glo "law") rfl))
  cases e
  have d_is_integer : DF K mg "is_integer" f_is_integer := ⟨_, fd_d_is_integer, He.glo_ok X G (cd.fact 0 (f := .glo "is_integer") rfl), F_d_is_integer⟩
  have d_is_number : DF K mg "is_number" f_is_number := ⟨_, fd_d_is_number, He.glo_ok X G (cd.fact 1 (f := .glo "is_number") rfl), F_d_is_number⟩
  have d_is_index : DF K mg "is_index" f_is_index := ⟨_, fd_d_is_index, He.glo_ok X G (cd.fact 2 (f := .glo "is_index") rfl), F_d_is_index⟩
  have d_is_sequence : DF K mg "is_sequence" f_is_sequence := ⟨_, fd_d_is_sequence, He.glo_ok X G (cd.fact 3 (f := .glo "is_sequence") rfl), F_d_is_sequence⟩
  have d_is_state_of : DF K mg "is_state_of" f_is_state_of := ⟨_, fd_d_is_state_of, He.glo_ok X G (cd.fact 4 (f := .glo "is_state_of") rfl), F_d_is_state_of⟩
  have d_same_keys : DF K mg "same_keys" f_same_keys := ⟨_, fd_d_same_keys, He.glo_ok X G (cd.fact 6 (f := .glo "same_keys") rfl), F_d_same_keys⟩
  have d_seen_on : DF K mg "seen_on" f_seen_on := ⟨_, fd_d_seen_on, He.glo_ok X G (cd.fact 8 (f := .glo "seen_on") rfl), F_d_seen_on⟩
  have d_law_apart : DF K mg "_law_apart" f_law_apart := ⟨_, fd_d_law_apart, He.glo_ok X G (cd.fact 41 (f := .glo "_law_apart") rfl), F_d_law_apart⟩
  have d_changed_key : DF K mg "changed_key" f_changed_key := ⟨_, fd_d_changed_key, He.glo_ok X G (cd.fact 10 (f := .glo "changed_key") rfl), F_d_changed_key⟩
  have d_law_homes : DF K mg "_law_homes" f_law_homes := ⟨_, fd_d_law_homes, He.glo_ok X G (cd.fact 40 (f := .glo "_law_homes") rfl), F_d_law_homes⟩
  have d_law_tells : DF K mg "_law_tells" f_law_tells := ⟨_, fd_d_law_tells, He.glo_ok X G (cd.fact 38 (f := .glo "_law_tells") rfl), F_d_law_tells⟩
  have d_law_part_question : DF K mg "_law_part_question" f_law_part_question := ⟨_, fd_d_law_part_question, He.glo_ok X G (cd.fact 47 (f := .glo "_law_part_question") rfl), F_d_law_part_question⟩
  have d_law_beside : DF K mg "_law_beside" f_law_beside := ⟨_, fd_d_law_beside, He.glo_ok X G (cd.fact 39 (f := .glo "_law_beside") rfl), F_d_law_beside⟩
  have d_law_pairs_apart : DF K mg "_law_pairs_apart" f_law_pairs_apart := ⟨_, fd_d_law_pairs_apart, He.glo_ok X G (cd.fact 42 (f := .glo "_law_pairs_apart") rfl), F_d_law_pairs_apart⟩
  have d_law_is_state : DF K mg "_law_is_state" f_law_is_state := ⟨_, fd_d_law_is_state, He.glo_ok X G (cd.fact 43 (f := .glo "_law_is_state") rfl), F_d_law_is_state⟩
  have d_law_is_lot : DF K mg "_law_is_lot" f_law_is_lot := ⟨_, fd_d_law_is_lot, He.glo_ok X G (cd.fact 45 (f := .glo "_law_is_lot") rfl), F_d_law_is_lot⟩
  have d_law_is_torn : DF K mg "_law_is_torn" f_law_is_torn := ⟨_, fd_d_law_is_torn, He.glo_ok X G (cd.fact 46 (f := .glo "_law_is_torn") rfl), F_d_law_is_torn⟩
  have d_law_lots : DF K mg "_law_lots" f_law_lots := ⟨_, fd_d_law_lots, He.glo_ok X G (cd.fact 37 (f := .glo "_law_lots") rfl), F_d_law_lots⟩
  have d_law_all : DF K mg "_law_all" f_law_all := ⟨_, fd_d_law_all, He.glo_ok X G (cd.fact 33 (f := .glo "_law_all") rfl), F_d_law_all⟩
  have d_law_any : DF K mg "_law_any" f_law_any := ⟨_, fd_d_law_any, He.glo_ok X G (cd.fact 30 (f := .glo "_law_any") rfl), F_d_law_any⟩
  have d_law_draw : DF K mg "_law_draw" f_law_draw := ⟨_, fd_d_law_draw, He.glo_ok X G (cd.fact 29 (f := .glo "_law_draw") rfl), F_d_law_draw⟩
  have d_law_of : DF K mg "_law_of" f_law_of := ⟨_, fd_d_law_of, He.glo_ok X G (cd.fact 31 (f := .glo "_law_of") rfl), F_d_law_of⟩
  have d_law_mixed : DF K mg "_law_mixed" f_law_mixed := ⟨_, fd_d_law_mixed, He.glo_ok X G (cd.fact 32 (f := .glo "_law_mixed") rfl), F_d_law_mixed⟩
  have d_law_sizes : DF K mg "_law_sizes" f_law_sizes := ⟨_, fd_d_law_sizes, He.glo_ok X G (cd.fact 34 (f := .glo "_law_sizes") rfl), F_d_law_sizes⟩
  have d_law_store : DF K mg "_law_store" f_law_store := ⟨_, fd_d_law_store, He.glo_ok X G (cd.fact 35 (f := .glo "_law_store") rfl), F_d_law_store⟩
  have d_law_question : DF K mg "_law_question" f_law_question := ⟨_, fd_d_law_question, He.glo_ok X G (cd.fact 36 (f := .glo "_law_question") rfl), F_d_law_question⟩
  have d_law_given : DF K mg "_law_given" f_law_given := ⟨_, fd_d_law_given, He.glo_ok X G (cd.fact 44 (f := .glo "_law_given") rfl), F_d_law_given⟩
  have d_law_divided : DF K mg "_law_divided" f_law_divided := ⟨_, fd_d_law_divided, He.glo_ok X G (cd.fact 48 (f := .glo "_law_divided") rfl), F_d_law_divided⟩
  have d_law_near : DF K mg "_law_near" f_law_near := ⟨_, fd_d_law_near, He.glo_ok X G (cd.fact 49 (f := .glo "_law_near") rfl), F_d_law_near⟩
  have dm_index_of : DM K (He.ga K "Store") "index_of" "Store.index_of" m_index_of := ⟨_, fd_dm_index_of, He.meth_ok (cd.fact 55 (f := .meth "Store" "index_of") rfl), F_dm_index_of⟩
  have d_checked_lot : DF K mg "checked_lot" f_checked_lot := ⟨_, fd_d_checked_lot, He.glo_ok X G (cd.fact 5 (f := .glo "checked_lot") rfl), F_d_checked_lot⟩
  have d_other_keys : DF K mg "other_keys" f_other_keys := ⟨_, fd_d_other_keys, He.glo_ok X G (cd.fact 7 (f := .glo "other_keys") rfl), F_d_other_keys⟩
  have d_views : DF K mg "views" f_views := ⟨_, fd_d_views, He.glo_ok X G (cd.fact 20 (f := .glo "views") rfl), F_d_views⟩
  have d_is_asked : DF K mg "is_asked" f_is_asked := ⟨_, fd_d_is_asked, He.glo_ok X G (cd.fact 27 (f := .glo "is_asked") rfl), F_d_is_asked⟩
  have d_all_lots : DF K mg "all_lots" f_all_lots := ⟨_, fd_d_all_lots, He.glo_ok X G (cd.fact 17 (f := .glo "all_lots") rfl), F_d_all_lots⟩
  have d_is_allowed : DF K mg "is_allowed" f_is_allowed := ⟨_, fd_d_is_allowed, He.glo_ok X G (cd.fact 22 (f := .glo "is_allowed") rfl), F_d_is_allowed⟩
  have d_is_lot : DF K mg "is_lot" f_is_lot := ⟨_, fd_d_is_lot, He.glo_ok X G (cd.fact 26 (f := .glo "is_lot") rfl), F_d_is_lot⟩
  have d_first_fault : DF K mg "first_fault" f_first_fault := ⟨_, fd_d_first_fault, He.glo_ok X G (cd.fact 21 (f := .glo "first_fault") rfl), F_d_first_fault⟩
  have d_are_torn_plans : DF K mg "are_torn_plans" f_are_torn_plans := ⟨_, fd_d_are_torn_plans, He.glo_ok X G (cd.fact 28 (f := .glo "are_torn_plans") rfl), F_d_are_torn_plans⟩
  have d_near : DF K mg "near" f_near := ⟨_, fd_d_near, He.glo_ok X G (cd.fact 9 (f := .glo "near") rfl), F_d_near⟩
  have d_find_near : DF K mg "find_near" f_find_near := ⟨_, fd_d_find_near, He.glo_ok X G (cd.fact 11 (f := .glo "find_near") rfl), F_d_find_near⟩
  have dm_found : DM K (He.ga K "Store") "found" "Store.found" m_found := ⟨_, fd_dm_found, He.meth_ok (cd.fact 54 (f := .meth "Store" "found") rfl), F_dm_found⟩
  have d_near_by_keys : DF K mg "near_by_keys" f_near_by_keys := ⟨_, fd_d_near_by_keys, He.glo_ok X G (cd.fact 12 (f := .glo "near_by_keys") rfl), F_d_near_by_keys⟩
  have d_homes_of : DF K mg "homes_of" f_homes_of := ⟨_, fd_d_homes_of, He.glo_ok X G (cd.fact 13 (f := .glo "homes_of") rfl), F_d_homes_of⟩
  have d_homes := dfc_of (x := "homes") (st := f_homes) (He.glo_ok X G (cd.fact 14 (f := .glo "homes") rfl)) F_d_homes
  have d_together : DF K mg "together" f_together := ⟨_, fd_d_together, He.glo_ok X G (cd.fact 15 (f := .glo "together") rfl), F_d_together⟩
  have d_whole : DF K mg "whole" f_whole := ⟨_, fd_d_whole, He.glo_ok X G (cd.fact 16 (f := .glo "whole") rfl), F_d_whole⟩
  have d_find_joined : DF K mg "find_joined" f_find_joined := ⟨_, fd_d_find_joined, He.glo_ok X G (cd.fact 18 (f := .glo "find_joined") rfl), F_d_find_joined⟩
  have d_is_joined : DF K mg "is_joined" f_is_joined := ⟨_, fd_d_is_joined, He.glo_ok X G (cd.fact 19 (f := .glo "is_joined") rfl), F_d_is_joined⟩
  have d_nearest_apart : DF K mg "nearest_apart" f_nearest_apart := ⟨_, fd_d_nearest_apart, He.glo_ok X G (cd.fact 23 (f := .glo "nearest_apart") rfl), F_d_nearest_apart⟩
  have d_part_of : DF K mg "part_of" f_part_of := ⟨_, fd_d_part_of, He.glo_ok X G (cd.fact 24 (f := .glo "part_of") rfl), F_d_part_of⟩
  have d_torn_plans : DF K mg "torn_plans" f_torn_plans := ⟨_, fd_d_torn_plans, He.glo_ok X G (cd.fact 25 (f := .glo "torn_plans") rfl), F_d_torn_plans⟩
  have b := FunD.bindsA (ps := ["_law_script"]) F_Fn fun _ _ _ _ _ _ us hl => match us, hl with | [_], _ => rfl
  have tfm : (("homes", none) : He.Defn) ∈ tf := List.mem_singleton.mpr rfl
  refine ⟨fd_Fn, [He.cT K ("homes", none)], spLaw K (He.cT K ("homes", none)).2, fun p hp => ?_, fun p hp => ?_, fun p hp => ?_, fun s v => b s [v] rfl, fun H a ns hl _ hT hS => ⟨a, ns, rfl, hl, hT _ (List.mem_singleton.mpr rfl), hS, fun _ => rfl⟩, fun base _ _ TB => ?_⟩
  · rw [List.mem_singleton.mp hp]; exact c.empty _ tfm
  · rw [List.mem_singleton.mp hp]; exact c.out _ tfm
  · rw [List.mem_singleton.mp hp]; exact PySem.W.codeHd_of_K X (c.hd _ tfm)
  · exact law_all ft hcl hna M hmS (TB _ (List.mem_singleton.mpr rfl)) d_is_integer d_is_number d_is_index d_is_sequence d_is_state_of d_same_keys d_seen_on d_law_apart d_changed_key d_law_homes d_law_tells d_law_part_question d_law_beside d_law_pairs_apart d_law_is_state d_law_is_lot d_law_is_torn d_law_lots d_law_all d_law_any d_law_draw d_law_of d_law_mixed d_law_sizes d_law_store d_law_question d_law_given d_law_divided d_law_near dm_index_of d_checked_lot d_other_keys d_views d_is_asked d_all_lots d_is_allowed d_is_lot d_first_fault d_are_torn_plans d_near d_find_near dm_found d_near_by_keys d_homes_of d_homes d_together d_whole d_find_joined d_is_joined d_nearest_apart d_part_of d_torn_plans F_Fi F_Fn
end DL
open PySem PySem.W PySem.Calls PyProof.Rows
theorem PySem.Challenge.cw_bothplans_k11_whole_torn_plans_holds : PySem.Challenge.rw_bothplans_k11_whole_torn_plans.Holds := by
  w_on; o_law
  refine HandSHeadRun.head_any (r := OpenLaw.row PySem.Challenge.rw_bothplans_k11_whole_torn_plans) (q := view (OpenLaw.row PySem.Challenge.rw_bothplans_k11_whole_torn_plans).prog [62]) (H := Tx.hk) (ob := Tx.ob) (M := 4000) (loose := Tx.ls) (d := HandSHeadRun.topDef (OpenLaw.row PySem.Challenge.rw_bothplans_k11_whole_torn_plans).prog 62) (kwd := []) Tx.ob_eq
    (by kernel_rfl) (fun s => by kernel_rfl) Tx.run (by kernel_rfl) (by kernel_rfl) (by kernel_rfl) (by rfl) (by first | assumption | decide +kernel) (by decide +kernel) ⟨rfl, rfl, rfl, rfl, rfl, by decide +kernel⟩ ?hw ?hc
  case hw => w_witness2
  case hc =>
    refine LamX.walk_ofTsE (l := PySem.Challenge.rw_bothplans_k11_whole_torn_plans) (n := 63) (k := 16) (x := "_law_script") (CX := fun _ => L2.CX0) rfl (by decide) (by kernel_rfl) ⟨rfl, by decide, by decide⟩ ?F (fun _ _ _ _ _ z => z)
    intro w mg fa h Y G hmg0
    obtain ⟨K, KX, c⟩ := Y
    have hmg : mg ("law" : PySem.Str) = some (.ref fa) := by
      have e : (HandSHeadRun.topDef (OpenLaw.row PySem.Challenge.rw_bothplans_k11_whole_torn_plans).prog 62).name = ("law" : PySem.Str) := by kernel_rfl
      rw [← e]
      exact hmg0
    exact ⟨K, KX, DL.facts KX G hmg c⟩
