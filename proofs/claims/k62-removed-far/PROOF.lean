import PyProof.Rows.All
import Wide.All
import OpenK.AllK
import Wide.FinOn
import HandS.ForMost
import HandS.Defaults
import HandS.Exc
import HandS.HeadHook1
import HandS.HeadHook2
import HandS.HeadHook3
import HandS.HeadHook4
import KE.KIsAll
import HandS.ExcField
import HandS.Head0
import HandS.Head1
import HandS.Head2
import HandS.Evl
import HandS.Codes
import KE.KxIndex
import HandS.Flow
import HandS.TupAny
import HandS.More
import HandS.Set
import HandS.SetFor
import HandS.Strs
import KE.SortData
import KE.DataMinMax
import HandS.ListItems
import KE.GoesSet
import PyProof.SumAny
import HandS.Style
import HandS.Walk
import HandS.Zip
import HandS.Text
import KE.GoesEnum
import KE.GoesRev
import HandS.Rev
import HandS.SetKeys
import HandS.DictComp
import KE.KDictWalk
import KE.GoesZip
import HandS.ExcInit
import HandS.ExcIs
import HandS.ClsMeth
import HandS.ExcOwn
import HandS.CallSlots
import HandS.WordsExc
import PyProof.ReprLen
import KE.KStateDown
import HandS.HeadEnd
import PySem.Challenge.RW_kindundo_k62_whole_removed_far
/-! KuText -/
set_option Elab.async false
set_option linter.all false
set_option maxRecDepth 100000
set_option maxHeartbeats 4000000
namespace Ku
open PySem L2
def top (i : Nat) : Stmt := PySem.Challenge.pw_kindundo_k62_whole_removed_far.main.body.getD i (.Pass ⟨0, 0, 0, 0⟩)
abbrev s_Wrong_init : Stmt := inClass (top 2) 0
abbrev s_TooMany_init : Stmt := inClass (top 3) 0
abbrev s_BadRecord_init : Stmt := inClass (top 4) 0
abbrev s_is_kind : Stmt := top 8
abbrev s_are_kinds : Stmt := top 9
abbrev s_Race_init : Stmt := inClass (top 12) 0
abbrev s_Race_take : Stmt := inClass (top 12) 1
abbrev s_Race_begin : Stmt := inClass (top 12) 2
abbrev s_Race_do_round : Stmt := inClass (top 12) 3
abbrev s_Race_block_places : Stmt := inClass (top 12) 4
abbrev s_Race_is_settled : Stmt := inClass (top 12) 5
abbrev s_Race_is_fair : Stmt := inClass (top 12) 6
abbrev s_advances_of : Stmt := top 13
abbrev s_settled_race : Stmt := top 14
abbrev s_removed : Stmt := top 15
abbrev s_spots_of : Stmt := top 19
abbrev s_Endless_init : Stmt := inClass (top 20) 0
abbrev s_Endless_block : Stmt := inClass (top 20) 1
abbrev s_Endless_recent : Stmt := inClass (top 20) 2
abbrev s_Endless_kinds : Stmt := inClass (top 20) 3
abbrev s_Endless_kind : Stmt := inClass (top 20) 4
abbrev s_Endless_nth : Stmt := inClass (top 20) 5
abbrev s_law_bag : Stmt := top 22
abbrev s_law_take : Stmt := top 23
abbrev s_law_alike : Stmt := top 24
abbrev s_law_kinds : Stmt := top 25
abbrev s_law_set : Stmt := top 26
abbrev s_law_kind : Stmt := top 27
abbrev s_law_spot : Stmt := top 28
abbrev s_law_begun : Stmt := top 29
abbrev s_law_taken : Stmt := top 30
abbrev s_law_endless : Stmt := top 31
abbrev s_law_race : Stmt := top 32
abbrev s_law_is_settled : Stmt := top 33
abbrev s_law_fits : Stmt := top 34
abbrev s_law_more_takes : Stmt := top 35
abbrev s_law_counted : Stmt := top 36
abbrev s_law_grown : Stmt := top 37
abbrev s_law_paper : Stmt := top 38
abbrev s_law_wide_scene : Stmt := top 39
abbrev s_law_slow_scene : Stmt := top 40
abbrev s_law_told : Stmt := top 41
abbrev s_law_far_right : Stmt := top 42
abbrev s_law_longest_right : Stmt := top 43
abbrev s_law_slow_right : Stmt := top 44
abbrev s_law : Stmt := top 45
def d_TooMany_init : He.DefD := ⟨("TooMany", some "__init__"), "__init__", "TooMany.__init__", defArgs s_TooMany_init, defBody s_TooMany_init, defScope s_TooMany_init, [], []⟩
def d_is_kind : He.DefD := ⟨("is_kind", none), "is_kind", "is_kind", defArgs s_is_kind, defBody s_is_kind, defScope s_is_kind, [], []⟩
def d_are_kinds : He.DefD := ⟨("are_kinds", none), "are_kinds", "are_kinds", defArgs s_are_kinds, defBody s_are_kinds, defScope s_are_kinds, [], []⟩
def d_Race_init : He.DefD := ⟨("Race", some "__init__"), "__init__", "Race.__init__", defArgs s_Race_init, defBody s_Race_init, defScope s_Race_init, [], []⟩
def d_Race_take : He.DefD := ⟨("Race", some "take"), "take", "Race.take", defArgs s_Race_take, defBody s_Race_take, defScope s_Race_take, [], []⟩
def d_Race_begin : He.DefD := ⟨("Race", some "begin"), "begin", "Race.begin", defArgs s_Race_begin, defBody s_Race_begin, defScope s_Race_begin, [], []⟩
def d_Race_do_round : He.DefD := ⟨("Race", some "do_round"), "do_round", "Race.do_round", defArgs s_Race_do_round, defBody s_Race_do_round, defScope s_Race_do_round, [], []⟩
def d_Race_block_places : He.DefD := ⟨("Race", some "block_places"), "block_places", "Race.block_places", defArgs s_Race_block_places, defBody s_Race_block_places, defScope s_Race_block_places, [], []⟩
def d_Race_is_settled : He.DefD := ⟨("Race", some "is_settled"), "is_settled", "Race.is_settled", defArgs s_Race_is_settled, defBody s_Race_is_settled, defScope s_Race_is_settled, [], []⟩
def d_Race_is_fair : He.DefD := ⟨("Race", some "is_fair"), "is_fair", "Race.is_fair", defArgs s_Race_is_fair, defBody s_Race_is_fair, defScope s_Race_is_fair, [], []⟩
def d_advances_of : He.DefD := ⟨("advances_of", none), "advances_of", "advances_of", defArgs s_advances_of, defBody s_advances_of, defScope s_advances_of, [], []⟩
def d_settled_race : He.DefD := ⟨("settled_race", none), "settled_race", "settled_race", defArgs s_settled_race, defBody s_settled_race, defScope s_settled_race, [], []⟩
/-- the default of removed's first: an object of its own -/
def kwFirst (K : PySem.W.Frag) : Addr := match K.lookup (He.fAd K ("removed", none)) with
  | some ⟨_, _, .func fd, _⟩ => (match fd.kwdefaults with
    | .ref D => (match PySem.W.nsIn K D "first" with
      | some (some (.ref T)) => T
      | _ => 0)
    | _ => 0)
  | _ => 0
def d_removed : He.DefD := ⟨("removed", none), "removed", "removed", defArgs s_removed, defBody s_removed, defScope s_removed, [], [("first", .adr kwFirst), ("limit", .int 400)]⟩
def d_spots_of : He.DefD := ⟨("spots_of", none), "spots_of", "spots_of", defArgs s_spots_of, defBody s_spots_of, defScope s_spots_of, [], []⟩
def d_Endless_init : He.DefD := ⟨("Endless", some "__init__"), "__init__", "Endless.__init__", defArgs s_Endless_init, defBody s_Endless_init, defScope s_Endless_init, [], []⟩
def d_Endless_block : He.DefD := ⟨("Endless", some "block"), "block", "Endless.block", defArgs s_Endless_block, defBody s_Endless_block, defScope s_Endless_block, [], []⟩
def d_Endless_recent : He.DefD := ⟨("Endless", some "recent"), "recent", "Endless.recent", defArgs s_Endless_recent, defBody s_Endless_recent, defScope s_Endless_recent, [], []⟩
def d_Endless_kinds : He.DefD := ⟨("Endless", some "kinds"), "kinds", "Endless.kinds", defArgs s_Endless_kinds, defBody s_Endless_kinds, defScope s_Endless_kinds, [], []⟩
def d_Endless_nth : He.DefD := ⟨("Endless", some "nth"), "nth", "Endless.nth", defArgs s_Endless_nth, defBody s_Endless_nth, defScope s_Endless_nth, [], []⟩
def d_law_bag : He.DefD := ⟨("_law_bag", none), "_law_bag", "_law_bag", defArgs s_law_bag, defBody s_law_bag, defScope s_law_bag, [], []⟩
def d_law_take : He.DefD := ⟨("_law_take", none), "_law_take", "_law_take", defArgs s_law_take, defBody s_law_take, defScope s_law_take, [], []⟩
def d_law_alike : He.DefD := ⟨("_law_alike", none), "_law_alike", "_law_alike", defArgs s_law_alike, defBody s_law_alike, defScope s_law_alike, [], []⟩
def d_law_kinds : He.DefD := ⟨("_law_kinds", none), "_law_kinds", "_law_kinds", defArgs s_law_kinds, defBody s_law_kinds, defScope s_law_kinds, [], []⟩
def d_law_set : He.DefD := ⟨("_law_set", none), "_law_set", "_law_set", defArgs s_law_set, defBody s_law_set, defScope s_law_set, [], []⟩
def d_law_kind : He.DefD := ⟨("_law_kind", none), "_law_kind", "_law_kind", defArgs s_law_kind, defBody s_law_kind, defScope s_law_kind, [], []⟩
def d_law_spot : He.DefD := ⟨("_law_spot", none), "_law_spot", "_law_spot", defArgs s_law_spot, defBody s_law_spot, defScope s_law_spot, [], []⟩
def d_law_begun : He.DefD := ⟨("_law_begun", none), "_law_begun", "_law_begun", defArgs s_law_begun, defBody s_law_begun, defScope s_law_begun, [], []⟩
def d_law_taken : He.DefD := ⟨("_law_taken", none), "_law_taken", "_law_taken", defArgs s_law_taken, defBody s_law_taken, defScope s_law_taken, [], []⟩
def d_law_endless : He.DefD := ⟨("_law_endless", none), "_law_endless", "_law_endless", defArgs s_law_endless, defBody s_law_endless, defScope s_law_endless, [], []⟩
def d_law_race : He.DefD := ⟨("_law_race", none), "_law_race", "_law_race", defArgs s_law_race, defBody s_law_race, defScope s_law_race, [], []⟩
def d_law_is_settled : He.DefD := ⟨("_law_is_settled", none), "_law_is_settled", "_law_is_settled", defArgs s_law_is_settled, defBody s_law_is_settled, defScope s_law_is_settled, [], []⟩
def d_law_fits : He.DefD := ⟨("_law_fits", none), "_law_fits", "_law_fits", defArgs s_law_fits, defBody s_law_fits, defScope s_law_fits, [], []⟩
def d_law_more_takes : He.DefD := ⟨("_law_more_takes", none), "_law_more_takes", "_law_more_takes", defArgs s_law_more_takes, defBody s_law_more_takes, defScope s_law_more_takes, [], []⟩
def d_law_counted : He.DefD := ⟨("_law_counted", none), "_law_counted", "_law_counted", defArgs s_law_counted, defBody s_law_counted, defScope s_law_counted, [], []⟩
def d_law_grown : He.DefD := ⟨("_law_grown", none), "_law_grown", "_law_grown", defArgs s_law_grown, defBody s_law_grown, defScope s_law_grown, [], []⟩
def d_law_paper : He.DefD := ⟨("_law_paper", none), "_law_paper", "_law_paper", defArgs s_law_paper, defBody s_law_paper, defScope s_law_paper, [], []⟩
def d_law_wide_scene : He.DefD := ⟨("_law_wide_scene", none), "_law_wide_scene", "_law_wide_scene", defArgs s_law_wide_scene, defBody s_law_wide_scene, defScope s_law_wide_scene, [], []⟩
def d_law_slow_scene : He.DefD := ⟨("_law_slow_scene", none), "_law_slow_scene", "_law_slow_scene", defArgs s_law_slow_scene, defBody s_law_slow_scene, defScope s_law_slow_scene, [], []⟩
def d_law_told : He.DefD := ⟨("_law_told", none), "_law_told", "_law_told", defArgs s_law_told, defBody s_law_told, defScope s_law_told, [], []⟩
def d_law_far_right : He.DefD := ⟨("_law_far_right", none), "_law_far_right", "_law_far_right", defArgs s_law_far_right, defBody s_law_far_right, defScope s_law_far_right, [], []⟩
def d_law_longest_right : He.DefD := ⟨("_law_longest_right", none), "_law_longest_right", "_law_longest_right", defArgs s_law_longest_right, defBody s_law_longest_right, defScope s_law_longest_right, [], []⟩
def d_law_slow_right : He.DefD := ⟨("_law_slow_right", none), "_law_slow_right", "_law_slow_right", defArgs s_law_slow_right, defBody s_law_slow_right, defScope s_law_slow_right, [], []⟩
def d_law : He.DefD := ⟨("law", none), "law", "law", defArgs s_law, defBody s_law, defScope s_law, [], []⟩
def fn1 : List He.DefD := [d_TooMany_init, d_is_kind, d_are_kinds, d_Race_init, d_Race_take, d_Race_begin, d_Race_do_round, d_Race_block_places, d_Race_is_settled, d_Race_is_fair, d_advances_of, d_settled_race, d_removed, d_spots_of, d_Endless_init, d_Endless_block, d_Endless_recent, d_Endless_kinds, d_Endless_nth, d_law_bag]
def fn2 : List He.DefD := [d_law_take, d_law_alike, d_law_kinds, d_law_set, d_law_kind, d_law_spot, d_law_begun, d_law_taken, d_law_endless, d_law_race, d_law_is_settled, d_law_fits, d_law_more_takes, d_law_counted, d_law_grown, d_law_paper, d_law_wide_scene, d_law_slow_scene, d_law_told, d_law_far_right, d_law_longest_right, d_law_slow_right, d_law]
def fn : List He.DefD := fn1 ++ fn2
end Ku

/-! KuHead -/
set_option Elab.async false
set_option linter.all false
set_option maxRecDepth 100000
set_option maxHeartbeats 0
namespace Ku
open PySem PySem.Spec PyProof.Rows L2
def fa1 : List He.Fa := [.glo "KindError", .glo "TooMany", .glo "BadRecord", .glo "is_kind", .glo "are_kinds", .glo "Race", .glo "advances_of", .glo "settled_race", .glo "removed", .glo "spots_of", .glo "Endless", .glo "_law_bag", .glo "_law_take", .glo "_law_alike", .glo "_law_kinds", .glo "_law_set", .glo "_law_kind", .glo "_law_spot", .glo "_law_begun", .glo "_law_taken", .glo "_law_endless", .glo "_law_race", .glo "_law_is_settled", .glo "_law_fits", .glo "_law_more_takes", .glo "_law_counted", .glo "_law_grown", .glo "_law_paper", .glo "_law_wide_scene", .glo "_law_slow_scene", .glo "_law_told", .glo "_law_far_right", .glo "_law_longest_right", .glo "_law_slow_right", .glo "law", .free "len"]
def fa2 : List He.Fa := [.free "isinstance", .free "sorted", .free "set", .free "min", .free "max", .free "zip", .free "tuple", .free "range", .free "reversed", .free "enumerate", .free "dict", .free "divmod", .free "list", .free "all", .free "abs", .free "repr", .free "sum", .free "int", .free "ValueError", .free "str", .int "MOST_KINDS" 8, .int "MOST_LETTERS" 8, .int "MOST_ROUNDS" 400, .int "MOST_BLOCK" 40, .int "MOST_RECENT" 60, .cls "Race", .noat "Race" "history", .noat "Race" "gone", .noat "Race" "places", .noat "Race" "rounds", .noat "Race" "met", .mkr "Race", .cls "Endless", .noat "Endless" "kept_block", .noat "Endless" "kept_recent", .noat "Endless" "block_spots"]
def fa3 : List He.Fa := [.noat "Endless" "recent_spots", .mkr "Endless", .meth "Race" "take", .meth "Race" "begin", .meth "Race" "do_round", .meth "Race" "block_places", .meth "Race" "is_settled", .meth "Race" "is_fair", .meth "Endless" "block", .meth "Endless" "recent", .meth "Endless" "kinds", .meth "Endless" "nth"]
def fa : List He.Fa := fa1 ++ fa2 ++ fa3
def loose1 : List PySem.Str := ["KindError", "Wrong", "TooMany", "BadRecord", "MOST_KINDS", "MOST_LETTERS", "is_kind", "are_kinds", "MOST_ROUNDS", "Race", "advances_of", "settled_race", "removed", "MOST_BLOCK", "MOST_RECENT", "spots_of", "Endless", "_law_bag", "_law_take", "_law_alike"]
def loose2 : List PySem.Str := ["_law_kinds", "_law_set", "_law_kind", "_law_spot", "_law_begun", "_law_taken", "_law_endless", "_law_race", "_law_is_settled", "_law_fits", "_law_more_takes", "_law_counted", "_law_grown", "_law_paper", "_law_wide_scene", "_law_slow_scene", "_law_told", "_law_far_right", "_law_longest_right", "_law_slow_right"]
def loose : List PySem.Str := loose1 ++ loose2
def lawAt : Nat := 45
/-- an own exception class: its mro goes by own classes to ValueError's, it is made by ValueError's maker -/
def exVE (K : PySem.W.Frag) (C : Addr) : Bool := match K.lookup C with
  | some ⟨.type "type", _, .cls cd, sl⟩ => (match cd.mro, sl.toList with
    | .ref C' :: bm, [_, _, _, _, some (.builtin n), _] => C' == C && n == "ValueError.__new__" && !cd.hasDel && cd.hasDict && PySem.HandSPX.refsVE bm
    | _, _ => false)
  | _ => false
def emptyTupB (K : PySem.W.Frag) (a : Addr) : Bool := match K.lookup a with
  | some ⟨.type c, _, .seq its _, _⟩ => decide (c = "tuple") && its.toList.isEmpty
  | _ => false
/-- what is told besides, of the exception classes and of removed's default -/
def exL (K : PySem.W.Frag) : List Bool :=
  let T := He.ga K "TooMany"
  let I := He.ma K T "__init__"
  [exVE K T,
   decide (PySem.W.findIn K (.ref T) "__setattr__" = some (some (.builtin "object.__setattr__"))),
   xfB K T,
   decide (PySem.W.typeIn K (.ref T) = some (.type "type")),
   PySem.W.keepIn K (.ref T),
   decide (PySem.W.findIn K (.ref T) "__init__" = some (some (.ref I))),
   decide (PySem.W.typeIn K (.ref I) = some (.type "function")),
   decide (PySem.W.findIn K (.ref T) "limit" = some none),
   decide (PySem.W.findIn K (.ref T) "__class__" = some (some (.builtin "object.__class__"))),
   decide (PySem.W.specialIn K (.builtin "object.__class__") "__get__" = some (some (.builtin "getset_descriptor.__get__"))),
   decide (PySem.W.takesIn K (.builtin "object.__class__") = some true),
   decide (PySem.W.mroIn K T (.type "object") = some true),
   decide (PySem.W.exmOne K (.ref T) (.ref (He.ga K "KindError")) = some true),
   decide (PySem.W.exmOne K (.ref T) (.ref T) = some true),
   decide (PySem.W.kitOne K (.ref T) (.ref T) = some true),
   decide (PySem.W.kitOne K (.ref T) (.ref (He.ga K "BadRecord")) = some false),
   decide (PySem.W.kitOne K (.ref T) (.type "ValueError") = some true),
   decide (PySem.W.findIn K (.ref (He.ga K "KindError")) "__init__" = some (some (.builtin "ValueError.__init__"))),
   PySem.W.keepIn K (.ref (He.ga K "KindError")),
   emptyTupB K (kwFirst K),
   decide (PySem.W.specialIn K (.ref (He.ga K "KindError")) "__getattribute__" = some (some (.builtin "type.__getattribute__"))),
   PySem.W.readsIn K (He.ga K "KindError") (.type "type"),
   (match PySem.W.findCls K (.ref (He.ga K "KindError")) (.type "type") "__init__" with
    | some (.val (.builtin n)) => decide (n = "ValueError.__init__")
    | _ => false)]
def exB (K : PySem.W.Frag) : Bool := (exL K).all id
theorem exB_at {K : PySem.W.Frag} (h : exB K = true) {b : Bool} (i : Nat) (hb : (exL K)[i]? = some b) : b = true := List.all_eq_true.mp h b (List.mem_of_getElem? hb)
abbrev R : PySem.W.OpenRow := PySem.W.OpenLaw.row PySem.Challenge.rw_kindundo_k62_whole_removed_far
/-- what the names reach in n steps, and the table of the interpreter's own statics (readsIn looks there) -/
def asY (g : Addr → Option Obj) (n : Nat) : List Addr := He.asD g n ++ [cStatics]
abbrev AlY : Type := He.AlD × Bool
def obsY (n : Nat) (fa : List He.Fa) (fn : List He.DefD) (ex : PySem.W.Frag → Bool) (g : Addr → Option Obj) : AlY := (He.obsD fa fn (He.frG g (asY g n)), ex (He.frG g (asY g n)))
def hookY (n : Nat) (fa : List He.Fa) (fn : List He.DefD) (ex : PySem.W.Frag → Bool) : PySem.W.Hook where
  α := AlY
  obs := fun s => obsY n fa fn ex s.heap.get?
  val := fun _ => (He.valD fn, true)
  says := fun _ h => ∃ K : PySem.W.Frag, K.In h ∧ He.SaysD fa fn K ∧ ex K = true
  of := fun _ _ e => ⟨_, He.frG_in, congrArg (fun z : AlY => z.1) e, congrArg (fun z : AlY => z.2) e⟩
  keeps := fun _ _ _ ⟨K, hK, c⟩ k => ⟨K, PySem.W.Frag.In.keeps hK k, c⟩
theorem obsY_eq {n : Nat} {fa : List He.Fa} {fn : List He.DefD} {ex : PySem.W.Frag → Bool} {g : Addr → Option Obj} {s : Shared} (h : ∀ a, g a = s.heap.get? a) : obsY n fa fn ex g = (hookY n fa fn ex).obs s := by
  have e : g = s.heap.get? := funext h
  rw [e] <;> rfl
abbrev hk : PySem.W.Hook := hookY 5 fa fn exB
def ob (s : PySem.W.SharedT) : AlY := obsY 5 fa fn exB (HandSHeadRun.getT s)
theorem ob_eq (s : PySem.W.SharedT) : ob s = hk.obs s.abs := obsY_eq (HandSHeadRun.getT_eq s)
theorem run (w : World) : HandSHeadRun.RunEq R (PySem.W.view R.prog [lawAt]) hk ob 4000 loose w := by
  intro os
  kernel_rfl
end Ku

/-! KuMath -/
/-! The plain law: endless histories, the race, the search of a paper. No program in sight. -/
namespace KM
section
variable {K : Type} [DecidableEq K]

/-! ### one list -/
/-- the places, from n on, of an item in a list -/
def spotsFrom (k : K) : List K → Nat → List Nat
  | [], _ => []
  | x :: r, n => if x = k then n :: spotsFrom k r (n + 1) else spotsFrom k r (n + 1)
/-- the numbers, counted back from the last one, of a kind in a list -/
def spots (k : K) (l : List K) : List Nat := spotsFrom k l.reverse 0
theorem spotsFrom_len (k : K) : ∀ (l : List K) (n : Nat), (spotsFrom k l n).length = l.count k
  | [], _ => rfl
  | x :: r, n => by
    unfold spotsFrom
    by_cases h : x = k
    · subst h
      rw [if_pos rfl, List.length_cons, spotsFrom_len, List.count_cons_self]
    · rw [if_neg h, spotsFrom_len, List.count_cons_of_ne (by simpa using h)]
theorem spots_len (k : K) (l : List K) : (spots k l).length = l.count k := by
  unfold spots
  rw [spotsFrom_len, List.count_reverse]
theorem spotsFrom_get (k : K) : ∀ (l : List K) (n i p : Nat), (spotsFrom k l n)[i]? = some p → n ≤ p ∧ l[p - n]? = some k ∧ (l.take (p - n)).count k = i
  | [], _, _, _, h => by simp [spotsFrom] at h
  | x :: r, n, i, p, h => by
    unfold spotsFrom at h
    by_cases e : x = k
    · subst e
      rw [if_pos rfl] at h
      cases i with
      | zero =>
        simp at h
        subst h
        simp
      | succ i =>
        rw [List.getElem?_cons_succ] at h
        obtain ⟨h1, h2, h3⟩ := spotsFrom_get x r (n + 1) i p h
        have e2 : p - n = (p - (n + 1)) + 1 := by omega
        refine ⟨by omega, ?_, ?_⟩
        · rw [e2, List.getElem?_cons_succ]
          exact h2
        · rw [e2, List.take_succ_cons, List.count_cons_self, h3]
    · rw [if_neg e] at h
      obtain ⟨h1, h2, h3⟩ := spotsFrom_get k r (n + 1) i p h
      have e2 : p - n = (p - (n + 1)) + 1 := by omega
      refine ⟨by omega, ?_, ?_⟩
      · rw [e2, List.getElem?_cons_succ]
        exact h2
      · rw [e2, List.take_succ_cons, List.count_cons_of_ne (by simpa using e), h3]
theorem spots_get {k : K} {l : List K} {i p : Nat} (h : (spots k l)[i]? = some p) : l.reverse[p]? = some k ∧ (l.reverse.take p).count k = i := by
  have := spotsFrom_get k l.reverse 0 i p h
  exact ⟨this.2.1, this.2.2⟩
theorem spots_lt {k : K} {l : List K} {i p : Nat} (h : (spots k l)[i]? = some p) : p < l.length := by
  have h1 := (List.getElem?_eq_some_iff.mp (spots_get h).1).1
  rwa [List.length_reverse] at h1
theorem spots_nil {k : K} {l : List K} : spots k l = [] ↔ ¬ k ∈ l := by
  rw [← List.length_eq_zero_iff, spots_len, List.count_eq_zero]

/-! ### an endless history: block B, recent R; its changes numbered back -/
variable (B R : List K)
def kindAt (n : Nat) : Option K := if n < R.length then R.reverse[n]? else B.reverse[(n - R.length) % B.length]?
/-- how many of the changes below n have the kind -/
def below (k : K) : Nat → Nat
  | 0 => 0
  | n + 1 => below k n + if kindAt B R n = some k then 1 else 0
def nth (k : K) (i : Nat) : Option Nat :=
  if i < (spots k R).length then (spots k R)[i]?
  else if spots k B = [] then none
  else some (R.length + (i - (spots k R).length) / (spots k B).length * B.length + (spots k B).getD ((i - (spots k R).length) % (spots k B).length) 0)
variable {B R}
theorem below_near (k : K) : ∀ n, n ≤ R.length → below B R k n = (R.reverse.take n).count k
  | 0, _ => by simp [below]
  | n + 1, h => by
    have hn : n < R.length := h
    have hr : n < R.reverse.length := by rw [List.length_reverse]; exact hn
    unfold below
    rw [below_near k n (Nat.le_of_lt hn), List.take_add_one, List.count_append]
    unfold kindAt
    rw [if_pos hn, List.getElem?_eq_getElem hr]
    congr 1
    simp only [Option.some.injEq, Option.toList_some, List.count_singleton]
    by_cases e : R.reverse[n] = k
    · rw [if_pos e, if_pos (by rw [e]; exact beq_self_eq_true k)]
    · rw [if_neg e, if_neg (by rw [beq_iff_eq]; exact fun z => e z)]
theorem below_far (k : K) (q : Nat) : ∀ s, s ≤ B.length → below B R k (R.length + q * B.length + s) = below B R k (R.length + q * B.length) + (B.reverse.take s).count k
  | 0, _ => by simp
  | s + 1, h => by
    have hs : s < B.length := h
    have hr : s < B.reverse.length := by rw [List.length_reverse]; exact hs
    show below B R k (R.length + q * B.length + s) + (if kindAt B R (R.length + q * B.length + s) = some k then 1 else 0) = _
    rw [below_far k q s (Nat.le_of_lt hs), List.take_add_one, List.count_append, Nat.add_assoc]
    congr 1
    have e0 : (R.length + q * B.length).add s = R.length + q * B.length + s := rfl
    unfold kindAt
    have e1 : ¬ R.length + q * B.length + s < R.length := by omega
    have e2 : R.length + q * B.length + s - R.length = s + B.length * q := by rw [Nat.mul_comm B.length q]; omega
    rw [if_neg e1, e2, Nat.add_mul_mod_self_left, Nat.mod_eq_of_lt hs, List.getElem?_eq_getElem hr]
    simp only [Option.some.injEq, Option.toList_some, List.count_singleton]
    by_cases e : B.reverse[s] = k
    · rw [if_pos e, if_pos (by rw [e]; exact beq_self_eq_true k)]
    · rw [if_neg e, if_neg (by rw [beq_iff_eq]; exact fun z => e z)]
theorem below_blocks (k : K) : ∀ q, below B R k (R.length + q * B.length) = R.count k + q * B.count k
  | 0 => by
    rw [Nat.zero_mul, Nat.add_zero, below_near k _ (Nat.le_refl _), Nat.zero_mul, Nat.add_zero, ← List.length_reverse, List.take_length, List.count_reverse]
  | q + 1 => by
    have e : R.length + (q + 1) * B.length = R.length + q * B.length + B.length := by rw [Nat.succ_mul]; omega
    have e2 : (B.reverse.take B.length).count k = B.count k := by rw [← List.length_reverse (as := B), List.take_length, List.count_reverse]
    rw [e, below_far k q _ (Nat.le_refl _), below_blocks k q, e2, Nat.succ_mul]
    omega
theorem below_mono (k : K) {m n : Nat} (h : m ≤ n) : below B R k m ≤ below B R k n := by
  induction h with
  | refl => exact Nat.le_refl _
  | step _ ih => exact Nat.le_trans ih (Nat.le_add_right _ _)
theorem below_succ {k : K} {n : Nat} (h : kindAt B R n = some k) : below B R k (n + 1) = below B R k n + 1 := by
  show below B R k n + _ = _
  rw [if_pos h]
/-- what a place says -/
theorem nth_spec {k : K} {i p : Nat} (h : nth B R k i = some p) : kindAt B R p = some k ∧ below B R k p = i := by
  unfold nth at h
  by_cases hn : i < (spots k R).length
  · rw [if_pos hn] at h
    have hp := spots_lt h
    obtain ⟨h1, h2⟩ := spots_get h
    refine ⟨?_, ?_⟩
    · unfold kindAt
      rw [if_pos hp]
      exact h1
    · rw [below_near k p (Nat.le_of_lt hp)]
      exact h2
  · rw [if_neg hn] at h
    by_cases hb : spots k B = []
    · rw [if_pos hb] at h; cases h
    · rw [if_neg hb] at h
      have hpos : 0 < (spots k B).length := List.length_pos_iff.mpr hb
      have hr := Nat.mod_lt (i - (spots k R).length) hpos
      have hg : (spots k B)[(i - (spots k R).length) % (spots k B).length]? = some ((spots k B).getD ((i - (spots k R).length) % (spots k B).length) 0) := by
        rw [List.getD_eq_getElem?_getD, List.getElem?_eq_getElem hr] <;> rfl
      have hs := spots_lt hg
      obtain ⟨h1, h2⟩ := spots_get hg
      have h := Option.some.inj h
      generalize hq : (i - (spots k R).length) / (spots k B).length = q at h
      generalize hm : (i - (spots k R).length) % (spots k B).length = r at *
      generalize hd : (spots k B).getD r 0 = s at *
      subst h
      have dm := Nat.div_add_mod (i - (spots k R).length) (spots k B).length
      rw [hq, hm] at dm
      refine ⟨?_, ?_⟩
      · unfold kindAt
        have e1 : ¬ R.length + q * B.length + s < R.length := by omega
        have e2 : R.length + q * B.length + s - R.length = s + B.length * q := by rw [Nat.mul_comm B.length q]; omega
        rw [if_neg e1, e2, Nat.add_mul_mod_self_left, Nat.mod_eq_of_lt hs]
        exact h1
      · rw [below_far k q s (Nat.le_of_lt hs), below_blocks, h2, ← spots_len, ← spots_len, Nat.mul_comm q]
        omega
theorem nth_none {k : K} {i : Nat} (h : nth B R k i = none) : (¬ k ∈ B) ∧ R.count k ≤ i := by
  unfold nth at h
  by_cases hn : i < (spots k R).length
  · rw [if_pos hn, List.getElem?_eq_getElem hn] at h; cases h
  · rw [if_neg hn] at h
    by_cases hb : spots k B = []
    · rw [← spots_len]
      exact ⟨spots_nil.mp hb, Nat.le_of_not_lt hn⟩
    · rw [if_neg hb] at h; cases h
theorem below_uniq {k : K} {m n : Nat} (hm : kindAt B R m = some k) (hn : kindAt B R n = some k) (e : below B R k m = below B R k n) : m = n := by
  rcases Nat.lt_trichotomy m n with h | h | h
  · have := below_mono (B := B) (R := R) k (show m + 1 ≤ n from h)
    rw [below_succ hm] at this
    omega
  · exact h
  · have := below_mono (B := B) (R := R) k (show n + 1 ≤ m from h)
    rw [below_succ hn] at this
    omega
theorem kindAt_far {n : Nat} {k : K} (hn : R.length ≤ n) (h : kindAt B R n = some k) : k ∈ B := by
  unfold kindAt at h
  rw [if_neg (by omega)] at h
  exact List.mem_reverse.mp (List.mem_of_getElem? h)
theorem nth_of {k : K} {n : Nat} (h : kindAt B R n = some k) : nth B R k (below B R k n) = some n := by
  cases e : nth B R k (below B R k n) with
  | some m =>
    obtain ⟨h1, h2⟩ := nth_spec e
    rw [below_uniq h1 h h2]
  | none =>
    obtain ⟨h1, h2⟩ := nth_none e
    by_cases hn : n < R.length
    · have h3 := below_mono (B := B) (R := R) k (show n + 1 ≤ R.length from hn)
      rw [below_succ h, below_near k _ (Nat.le_refl _), ← List.length_reverse, List.take_length, List.count_reverse] at h3
      omega
    · exact absurd (kindAt_far (by omega) h) h1
theorem nth_mono {k : K} {i p q : Nat} (h1 : nth B R k i = some p) (h2 : nth B R k (i + 1) = some q) : p < q := by
  obtain ⟨a1, a2⟩ := nth_spec h1
  obtain ⟨b1, b2⟩ := nth_spec h2
  rcases Nat.lt_or_ge p q with h | h
  · exact h
  · have := below_mono (B := B) (R := R) k h
    omega
theorem nth_block {k : K} (h : k ∈ B) (i : Nat) : ∃ p, nth B R k i = some p := by
  cases e : nth B R k i with
  | some p => exact ⟨p, rfl⟩
  | none => exact absurd h (nth_none e).1
theorem nth_known {k : K} {i p : Nat} (h : nth B R k i = some p) : k ∈ B ∨ k ∈ R := by
  have h1 := (nth_spec h).1
  unfold kindAt at h1
  by_cases hn : p < R.length
  · rw [if_pos hn] at h1
    exact .inr (List.mem_reverse.mp (List.mem_of_getElem? h1))
  · rw [if_neg hn] at h1
    exact .inl (List.mem_reverse.mp (List.mem_of_getElem? h1))

/-! ### the law's own search -/
/-- the first number from a start on, of so many, that has the kind -/
def spotIn (B R : List K) (k : K) : Nat → Nat → Option Nat
  | _, 0 => none
  | n, m + 1 => if kindAt B R n = some k then some n else spotIn B R k (n + 1) m
def spot (B R : List K) (k : K) (start : Nat) : Option Nat := spotIn B R k start (max start R.length + B.length - start)
theorem spotIn_some {k : K} : ∀ {m n p : Nat}, spotIn B R k n m = some p → n ≤ p ∧ kindAt B R p = some k ∧ ∀ j, n ≤ j → j < p → kindAt B R j ≠ some k
  | 0, _, _, h => by simp [spotIn] at h
  | m + 1, n, p, h => by
    unfold spotIn at h
    by_cases e : kindAt B R n = some k
    · rw [if_pos e] at h
      cases h
      exact ⟨Nat.le_refl _, e, fun j h1 h2 => by omega⟩
    · rw [if_neg e] at h
      obtain ⟨h1, h2, h3⟩ := spotIn_some h
      refine ⟨by omega, h2, fun j a b => ?_⟩
      by_cases ej : j = n
      · rw [ej]; exact e
      · exact h3 j (by omega) b
theorem spotIn_none {k : K} : ∀ {m n : Nat}, spotIn B R k n m = none → ∀ j, n ≤ j → j < n + m → kindAt B R j ≠ some k
  | 0, n, _, j, h1, h2 => by omega
  | m + 1, n, h, j, h1, h2 => by
    unfold spotIn at h
    by_cases e : kindAt B R n = some k
    · rw [if_pos e] at h; cases h
    · rw [if_neg e] at h
      by_cases ej : j = n
      · rw [ej]; exact e
      · exact spotIn_none h j (by omega) (by omega)
theorem below_gap {k : K} {n : Nat} : ∀ {p : Nat}, n ≤ p → (∀ j, n ≤ j → j < p → kindAt B R j ≠ some k) → below B R k p = below B R k n := by
  intro p h
  induction h with
  | refl => intro _; rfl
  | @step m hm ih =>
    intro g
    show below B R k m + _ = _
    rw [if_neg (g m hm (Nat.lt_succ_self m)), ih fun j a b => g j a (by omega)]
    rfl
/-- a full turn of the block beyond recent meets each of its kinds -/
theorem block_window {k : K} (h : k ∈ B) {a : Nat} (ha : R.length ≤ a) : ∃ j, a ≤ j ∧ j < a + B.length ∧ kindAt B R j = some k := by
  obtain ⟨s, hs, hg⟩ := List.mem_iff_getElem.mp (List.mem_reverse.mpr h)
  rw [List.length_reverse] at hs
  have hpos : 0 < B.length := by omega
  have hm := Nat.mod_lt (a - R.length) hpos
  have dm := Nat.div_add_mod (a - R.length) B.length
  generalize hq : (a - R.length) / B.length = q at dm
  generalize hr : (a - R.length) % B.length = r at dm hm
  have key : ∀ q', kindAt B R (R.length + B.length * q' + s) = some k := fun q' => by
    unfold kindAt
    have e1 : ¬ R.length + B.length * q' + s < R.length := by omega
    have e2 : R.length + B.length * q' + s - R.length = s + B.length * q' := by omega
    rw [if_neg e1, e2, Nat.add_mul_mod_self_left, Nat.mod_eq_of_lt hs, List.getElem?_eq_getElem (by rw [List.length_reverse]; exact hs), hg]
  by_cases hc : r ≤ s
  · exact ⟨R.length + B.length * q + s, by omega, by omega, key q⟩
  · refine ⟨R.length + B.length * (q + 1) + s, ?_, ?_, key (q + 1)⟩ <;> rw [Nat.mul_succ] <;> omega
theorem spot_of_below {k : K} {start i : Nat} (hb : below B R k start = i) : spot B R k start = nth B R k i := by
  unfold spot
  cases e : spotIn B R k start (max start R.length + B.length - start) with
  | some p =>
    obtain ⟨h1, h2, h3⟩ := spotIn_some e
    have := nth_of h2
    rw [below_gap h1 h3, hb] at this
    exact this.symm
  | none =>
    have g := spotIn_none e
    cases e2 : nth B R k i with
    | none => rfl
    | some n =>
      obtain ⟨h1, h2⟩ := nth_spec e2
      have hn : start ≤ n := by
        rcases Nat.lt_or_ge n start with h | h
        · have := below_mono (B := B) (R := R) k (show n + 1 ≤ start from h)
          rw [below_succ h1] at this
          omega
        · exact h
      by_cases hr : n < R.length
      · exact absurd h1 (g n hn (by omega))
      · obtain ⟨j, j1, j2, j3⟩ := block_window (R := R) (kindAt_far (by omega) h1) (Nat.le_max_right start R.length)
        exact absurd j3 (g j (by omega) (by omega))
theorem spot_zero (k : K) : spot B R k 0 = nth B R k 0 := spot_of_below rfl
theorem spot_next {k : K} {i p : Nat} (h : nth B R k i = some p) : spot B R k (p + 1) = nth B R k (i + 1) := by
  obtain ⟨h1, h2⟩ := nth_spec h
  exact spot_of_below (by rw [below_succ h1, h2])
theorem spotIn_hit {k : K} {s m i : Nat} (h : kindAt B R (s + i) = some k) (hi : i < m) (hn : ∀ j, j < i → kindAt B R (s + j) ≠ some k) : spotIn B R k s m = some (s + i) := by
  cases e : spotIn B R k s m with
  | none => exact absurd h (spotIn_none e (s + i) (by omega) (by omega))
  | some p =>
    obtain ⟨h1, h2, h3⟩ := spotIn_some e
    rcases Nat.lt_trichotomy p (s + i) with h4 | h4 | h4
    · have q := hn (p - s) (by omega)
      rw [show s + (p - s) = p by omega] at q
      exact absurd h2 q
    · rw [h4]
    · exact absurd h (h3 (s + i) (by omega) h4)
theorem spotIn_miss {k : K} {s m : Nat} (hn : ∀ j, j < m → kindAt B R (s + j) ≠ some k) : spotIn B R k s m = none := by
  cases e : spotIn B R k s m with
  | none => rfl
  | some p =>
    obtain ⟨h1, h2, h3⟩ := spotIn_some e
    by_cases h4 : p < s + m
    · have q := hn (p - s) (by omega)
      rw [show s + (p - s) = p by omega] at q
      exact absurd h2 q
    · have key : ∀ m n p, spotIn B R k n m = some p → p < n + m := by
        intro m
        induction m with
        | zero => intro n p h; simp [spotIn] at h
        | succ m ih =>
          intro n p h
          unfold spotIn at h
          by_cases e : kindAt B R n = some k
          · rw [if_pos e] at h; cases h; omega
          · rw [if_neg e] at h
            have := ih (n + 1) p h
            omega
      exact absurd (key m s p e) h4
omit [DecidableEq K] in
theorem kindAt_some (hB : B ≠ []) (n : Nat) : ∃ k, kindAt B R n = some k := by
  have hpos : 0 < B.length := List.length_pos_iff.mpr hB
  unfold kindAt
  by_cases h : n < R.length
  · rw [if_pos h]
    exact ⟨_, List.getElem?_eq_getElem (by rw [List.length_reverse]; exact h)⟩
  · rw [if_neg h]
    exact ⟨_, List.getElem?_eq_getElem (by rw [List.length_reverse]; exact Nat.mod_lt _ hpos)⟩
/-- a place is not far beyond -/
theorem nth_le {k : K} {i p : Nat} (h : nth B R k i = some p) : p < R.length + (i + 1) * B.length := by
  have e : (i + 1) * B.length = i * B.length + B.length := Nat.succ_mul i B.length
  unfold nth at h
  by_cases hn : i < (spots k R).length
  · rw [if_pos hn] at h
    have := spots_lt h
    omega
  · rw [if_neg hn] at h
    by_cases hb : spots k B = []
    · rw [if_pos hb] at h; cases h
    · rw [if_neg hb] at h
      have hpos : 0 < (spots k B).length := List.length_pos_iff.mpr hb
      have hr := Nat.mod_lt (i - (spots k R).length) hpos
      have hg : (spots k B)[(i - (spots k R).length) % (spots k B).length]? = some ((spots k B).getD ((i - (spots k R).length) % (spots k B).length) 0) := by
        rw [List.getD_eq_getElem?_getD, List.getElem?_eq_getElem hr] <;> rfl
      have hs := spots_lt hg
      have h := Option.some.inj h
      have hd : (i - (spots k R).length) / (spots k B).length ≤ i := Nat.le_trans (Nat.div_le_self _ _) (Nat.sub_le _ _)
      have hm := Nat.mul_le_mul_right B.length hd
      omega
end
end KM

/-! KuRace -/
/-! The race in plain Lean: takes, rounds, papers, the first paper. -/
namespace KM
section
variable {K : Type} [DecidableEq K]

/-! ### the least of some places -/
def least : List (Nat × K) → Option (Nat × K)
  | [] => none
  | x :: r => match least r with
    | none => some x
    | some y => if y.1 < x.1 then some y else some x
theorem least_none : ∀ {l : List (Nat × K)}, least l = none ↔ l = []
  | [] => by simp [least]
  | x :: r => by
    unfold least
    cases least r with
    | none => simp
    | some y =>
      by_cases h : y.1 < x.1
      · simp [h]
      · simp [h]
theorem least_mem : ∀ {l : List (Nat × K)} {y : Nat × K}, least l = some y → y ∈ l ∧ ∀ x ∈ l, y.1 ≤ x.1
  | [], y, h => by simp [least] at h
  | x :: r, y, h => by
    unfold least at h
    cases e : least r with
    | none =>
      rw [e] at h
      simp only [Option.some.injEq] at h
      subst h
      rw [least_none.mp e]
      simp
    | some z =>
      rw [e] at h
      obtain ⟨h1, h2⟩ := least_mem e
      by_cases hz : z.1 < x.1
      · simp only [hz, if_true, Option.some.injEq] at h
        subst h
        refine ⟨List.mem_cons_of_mem _ h1, fun w hw => ?_⟩
        rcases List.mem_cons.mp hw with e2 | hw
        · rw [e2]; omega
        · exact h2 w hw
      · simp only [hz, if_false, Option.some.injEq] at h
        subst h
        refine ⟨List.mem_cons_self .., fun w hw => ?_⟩
        rcases List.mem_cons.mp hw with e2 | hw
        · rw [e2]; omega
        · have := h2 w hw; omega

variable (B R : List K)
/-- the kinds of a set that have a place, with their places -/
def racing (g : K → Nat) (l : List K) : List (Nat × K) := l.filterMap fun k => (nth B R k (g k)).map fun p => (p, k)
def winner (g : K → Nat) (l : List K) : Option K := (least (racing B R g l)).map (·.2)
def stepG (g : K → Nat) (l : List K) : K → Nat := match winner B R g l with
  | none => g
  | some w => fun k => if k = w then g k + 1 else g k
/-- the winner with each loser -/
def meets (g : K → Nat) (l : List K) : List (K × K) := match winner B R g l with
  | none => []
  | some w => ((racing B R g l).filter fun x => decide (x.2 ≠ w)).map fun x => (w, x.2)
def roundG (takes : List (List K)) (g : K → Nat) : K → Nat := takes.foldl (stepG B R) g
def roundM : List (List K) → (K → Nat) → List (K × K)
  | [], _ => []
  | s :: r, g => meets B R g s ++ roundM r (stepG B R g s)
def after (takes : List (List K)) (g : K → Nat) : Nat → K → Nat
  | 0 => g
  | n + 1 => roundG B R takes (after takes g n)
variable {B R}
theorem mem_racing {g : K → Nat} {l : List K} {p : Nat} {k : K} : (p, k) ∈ racing B R g l ↔ k ∈ l ∧ nth B R k (g k) = some p := by
  unfold racing
  rw [List.mem_filterMap]
  constructor
  · rintro ⟨a, ha, e⟩
    obtain ⟨q, hq, e2⟩ := Option.map_eq_some_iff.mp e
    obtain ⟨rfl, rfl⟩ : q = p ∧ a = k := by simpa using e2
    exact ⟨ha, hq⟩
  · rintro ⟨hk, e⟩
    exact ⟨k, hk, by rw [e]; rfl⟩
/-- one place, one kind -/
theorem place_inj {k k' : K} {i i' p : Nat} (h : nth B R k i = some p) (h' : nth B R k' i' = some p) : k = k' := by
  have a := (nth_spec h).1
  have b := (nth_spec h').1
  rw [a] at b
  exact Option.some.inj b
/-- the winner: of the set, and every other kind with a place has a greater one -/
theorem winner_some {g : K → Nat} {l : List K} {w : K} : winner B R g l = some w ↔ ∃ p, (p, w) ∈ racing B R g l ∧ ∀ x ∈ racing B R g l, p ≤ x.1 := by
  unfold winner
  constructor
  · intro h
    obtain ⟨⟨p, w'⟩, e, rfl⟩ := Option.map_eq_some_iff.mp h
    obtain ⟨h1, h2⟩ := least_mem e
    exact ⟨p, h1, h2⟩
  · rintro ⟨p, h1, h2⟩
    cases e : least (racing B R g l) with
    | none =>
      rw [least_none.mp e] at h1
      cases h1
    | some y =>
      obtain ⟨q, k⟩ := y
      obtain ⟨a, b⟩ := least_mem e
      have e1 := h2 _ a
      have e2 := b _ h1
      have e3 : p = q := by simp only at e1 e2; omega
      subst e3
      rw [place_inj (mem_racing.mp h1).2 (mem_racing.mp a).2]
      rfl
theorem winner_none {g : K → Nat} {l : List K} : winner B R g l = none ↔ racing B R g l = [] := by
  unfold winner
  rw [Option.map_eq_none_iff, least_none]
theorem mem_meets {g : K → Nat} {l : List K} {w x : K} : (w, x) ∈ meets B R g l ↔ winner B R g l = some w ∧ x ≠ w ∧ ∃ p, (p, x) ∈ racing B R g l := by
  unfold meets
  cases e : winner B R g l with
  | none => simp
  | some v =>
    simp only [List.mem_map, List.mem_filter, Option.some.injEq, Prod.mk.injEq, decide_eq_true_eq]
    constructor
    · rintro ⟨⟨p, y⟩, ⟨h1, h2⟩, rfl, rfl⟩
      exact ⟨rfl, h2, p, h1⟩
    · rintro ⟨rfl, h2, p, h1⟩
      exact ⟨(p, x), ⟨h1, h2⟩, rfl, rfl⟩
theorem stepG_le {g : K → Nat} {l : List K} (k : K) : g k ≤ stepG B R g l k := by
  unfold stepG
  cases winner B R g l with
  | none => exact Nat.le_refl _
  | some w =>
    show g k ≤ if k = w then g k + 1 else g k
    by_cases h : k = w
    · rw [if_pos h]; omega
    · rw [if_neg h]; omega
theorem roundG_le : ∀ (takes : List (List K)) {g : K → Nat} (k : K), g k ≤ roundG B R takes g k
  | [], _, _ => Nat.le_refl _
  | s :: r, g, k => Nat.le_trans (stepG_le k) (roundG_le r k)
theorem after_le {takes : List (List K)} {g : K → Nat} {m n : Nat} (h : m ≤ n) (k : K) : after B R takes g m k ≤ after B R takes g n k := by
  induction h with
  | refl => exact Nat.le_refl _
  | step _ ih => exact Nat.le_trans ih (roundG_le takes k)
/-- whoever meets in a round has a place behind some fewer removals: it is of the block, or of recent -/
theorem roundM_known : ∀ {takes : List (List K)} {g : K → Nat} {w x : K}, (w, x) ∈ roundM B R takes g →
    ∃ s ∈ takes, w ∈ s ∧ x ∈ s ∧ (∃ i p, g w ≤ i ∧ nth B R w i = some p) ∧ ∃ i p, g x ≤ i ∧ nth B R x i = some p
  | [], _, _, _, h => by simp [roundM] at h
  | s :: r, g, w, x, h => by
    unfold roundM at h
    rcases List.mem_append.mp h with h | h
    · obtain ⟨h1, h2, p, h3⟩ := mem_meets.mp h
      obtain ⟨q, h4, _⟩ := winner_some.mp h1
      exact ⟨s, List.mem_cons_self .., (mem_racing.mp h4).1, (mem_racing.mp h3).1, ⟨_, q, Nat.le_refl _, (mem_racing.mp h4).2⟩, _, p, Nat.le_refl _, (mem_racing.mp h3).2⟩
    · obtain ⟨s', hs, h1, h2, ⟨i, p, h3, h4⟩, j, q, h5, h6⟩ := roundM_known h
      exact ⟨s', List.mem_cons_of_mem _ hs, h1, h2, ⟨i, p, Nat.le_trans (stepG_le w) h3, h4⟩, j, q, Nat.le_trans (stepG_le x) h5, h6⟩
theorem nth_down {k : K} {i j p : Nat} (h : nth B R k j = some p) (hi : i ≤ j) : ∃ q, nth B R k i = some q := by
  cases e : nth B R k i with
  | some q => exact ⟨q, rfl⟩
  | none =>
    obtain ⟨h1, h2⟩ := nth_none e
    cases e2 : nth B R k j with
    | none => rw [e2] at h; cases h
    | some q =>
      obtain ⟨a, b⟩ := nth_spec e2
      by_cases hq : q < R.length
      · have h3 := below_mono (B := B) (R := R) k (show q + 1 ≤ R.length from hq)
        rw [below_succ a, below_near k _ (Nat.le_refl _), ← List.length_reverse, List.take_length, List.count_reverse] at h3
        omega
      · exact absurd (kindAt_far (by omega) a) h1

/-! ### papers -/
variable (B R) in
/-- every kind of the takes that has a place is of the block, with a place beyond recent -/
def settled (takes : List (List K)) (g : K → Nat) : Bool := takes.all fun s => s.all fun k => match nth B R k (g k) with
  | none => true
  | some p => decide (k ∈ B) && decide (R.length ≤ p)
theorem settled_iff {takes : List (List K)} {g : K → Nat} : settled B R takes g = true ↔ ∀ s ∈ takes, ∀ k ∈ s, ∀ p, nth B R k (g k) = some p → k ∈ B ∧ R.length ≤ p := by
  unfold settled
  rw [List.all_eq_true]
  constructor
  · intro h s hs k hk p e
    have q := List.all_eq_true.mp (h s hs) k hk
    rw [e] at q
    simpa using q
  · intro h s hs
    rw [List.all_eq_true]
    intro k hk
    cases e : nth B R k (g k) with
    | none => rfl
    | some p =>
      have := h s hs k hk p e
      simp [this.1, this.2]
variable (B R) in
/-- the place of a kind of the block -/
def plc (g : K → Nat) (k : K) : Nat := (nth B R k (g k)).getD 0
theorem plc_eq {g : K → Nat} {k : K} (h : k ∈ B) : nth B R k (g k) = some (plc B R g k) := by
  obtain ⟨p, e⟩ := nth_block (R := R) h (g k)
  unfold plc
  rw [e]
  rfl
theorem nth_mono_le {k : K} {i j p q : Nat} (hij : i ≤ j) (h1 : nth B R k i = some p) (h2 : nth B R k j = some q) : p ≤ q := by
  rcases Nat.lt_or_ge q p with h | h
  · obtain ⟨a1, a2⟩ := nth_spec h1
    obtain ⟨b1, b2⟩ := nth_spec h2
    have := below_mono (B := B) (R := R) k (show q + 1 ≤ p from h)
    rw [below_succ b1] at this
    omega
  · exact h
theorem plc_le {g g' : K → Nat} {k : K} (h : k ∈ B) (hg : g k ≤ g' k) : plc B R g k ≤ plc B R g' k := nth_mono_le hg (plc_eq h) (plc_eq h)

section
variable (B R) (takes : List (List K)) (g0 : K → Nat)
/-- how much a kind of the block grows between two numbers of rounds -/
def grown (l n : Nat) (k : K) : Int := (plc B R (after B R takes g0 n) k : Int) - (plc B R (after B R takes g0 l) k : Int)
def wholeB (l n : Nat) : Bool := B.all fun k => decide (grown B R takes g0 l n k % (B.length : Int) = 0)
def blk (l n : Nat) (k : K) : Int := grown B R takes g0 l n k / (B.length : Int)
def fairB (l n : Nat) : Bool := (List.range n).all fun j => decide (j < l) || (roundM B R takes (after B R takes g0 j)).all fun x => decide (¬ blk B R takes g0 l n x.2 < blk B R takes g0 l n x.1)
/-- the rounds from l on to n are a paper -/
def paperB (l n : Nat) : Bool := settled B R takes (after B R takes g0 l) && (wholeB B R takes g0 l n && fairB B R takes g0 l n)
end
theorem fairB_iff {takes : List (List K)} {g0 : K → Nat} {l n : Nat} : fairB B R takes g0 l n = true ↔
    ∀ j, l ≤ j → j < n → ∀ w x, (w, x) ∈ roundM B R takes (after B R takes g0 j) → ¬ blk B R takes g0 l n x < blk B R takes g0 l n w := by
  unfold fairB
  rw [List.all_eq_true]
  constructor
  · intro h j h1 h2 w x hm
    have q := h j (List.mem_range.mpr h2)
    rcases Bool.or_eq_true_iff.mp q with q | q
    · have := of_decide_eq_true q; omega
    · exact of_decide_eq_true (List.all_eq_true.mp q (w, x) hm)
  · intro h j hj
    by_cases hl : j < l
    · simp [hl]
    · rw [Bool.or_eq_true_iff]
      refine .inr (List.all_eq_true.mpr fun x hx => decide_eq_true ?_)
      exact h j (by omega) (List.mem_range.mp hj) x.1 x.2 hx
theorem wholeB_iff {takes : List (List K)} {g0 : K → Nat} {l n : Nat} : wholeB B R takes g0 l n = true ↔ ∀ k ∈ B, grown B R takes g0 l n k % (B.length : Int) = 0 := by
  unfold wholeB
  rw [List.all_eq_true]
  exact ⟨fun h k hk => of_decide_eq_true (h k hk), fun h k hk => decide_eq_true (h k hk)⟩
/-- behind a settled lead only kinds of the block meet -/
theorem meet_block {takes : List (List K)} {g0 : K → Nat} {l j : Nat} (hs : settled B R takes (after B R takes g0 l) = true) (hj : l ≤ j) {w x : K} (h : (w, x) ∈ roundM B R takes (after B R takes g0 j)) : w ∈ B ∧ x ∈ B := by
  obtain ⟨s, h1, h2, h3, ⟨i, p, h4, h5⟩, i', p', h6, h7⟩ := roundM_known h
  have q := settled_iff.mp hs s h1
  obtain ⟨a, ea⟩ := nth_down h5 (Nat.le_trans (after_le hj w) h4)
  obtain ⟨b, eb⟩ := nth_down h7 (Nat.le_trans (after_le hj x) h6)
  exact ⟨(q w h2 a ea).1, (q x h3 b eb).1⟩

/-! ### the first paper -/
/-- the first number below n of which p holds -/
def firstIn (p : Nat → Bool) : Nat → Option Nat
  | 0 => none
  | n + 1 => match firstIn p n with
    | some l => some l
    | none => if p n = true then some n else none
theorem firstIn_some {p : Nat → Bool} : ∀ {n l : Nat}, firstIn p n = some l → l < n ∧ p l = true ∧ ∀ j, j < l → p j = false
  | 0, l, h => by simp [firstIn] at h
  | n + 1, l, h => by
    unfold firstIn at h
    cases e : firstIn p n with
    | some m =>
      rw [e] at h
      cases h
      obtain ⟨h1, h2, h3⟩ := firstIn_some e
      exact ⟨by omega, h2, h3⟩
    | none =>
      rw [e] at h
      by_cases hp : p n = true
      · simp only [hp, if_true, Option.some.injEq] at h
        subst h
        refine ⟨Nat.lt_succ_self _, hp, fun j hj => ?_⟩
        have key : ∀ m, firstIn p m = none → ∀ j, j < m → p j = false := by
          intro m
          induction m with
          | zero => intro _ j hj; omega
          | succ m ih =>
            intro e j hj
            unfold firstIn at e
            cases e2 : firstIn p m with
            | some z => rw [e2] at e; cases e
            | none =>
              rw [e2] at e
              by_cases hj2 : j = m
              · subst hj2
                cases hp : p j with
                | false => rfl
                | true => simp [hp] at e
              · exact ih e2 j (by omega)
        exact key n e j hj
      · simp [hp] at h
theorem firstIn_none {p : Nat → Bool} : ∀ {n : Nat}, firstIn p n = none ↔ ∀ j, j < n → p j = false
  | 0 => ⟨fun _ j h => by omega, fun _ => rfl⟩
  | n + 1 => by
    unfold firstIn
    cases e : firstIn p n with
    | some l =>
      obtain ⟨h1, h2, _⟩ := firstIn_some e
      constructor
      · intro h; cases h
      · intro h
        rw [h l (by omega)] at h2
        cases h2
    | none =>
      have ih := firstIn_none.mp e
      by_cases hp : p n = true
      · simp only [hp, if_true]
        constructor
        · intro h; cases h
        · intro h
          rw [h n (Nat.lt_succ_self n)] at hp
          cases hp
      · simp only [hp]
        refine ⟨fun _ j hj => ?_, fun _ => rfl⟩
        by_cases e2 : j = n
        · subst e2; simpa using hp
        · exact ih j (by omega)
theorem firstIn_congr {p q : Nat → Bool} : ∀ {n : Nat}, (∀ j, j < n → p j = q j) → firstIn p n = firstIn q n
  | 0, _ => rfl
  | n + 1, h => by
    unfold firstIn
    rw [firstIn_congr fun j hj => h j (by omega), h n (Nat.lt_succ_self n)]
/-- the first pair (lead, stop), by the stop and then by the lead, with the stop to n -/
def findP (P : Nat → Nat → Bool) : Nat → Option (Nat × Nat)
  | 0 => none
  | n + 1 => match findP P n with
    | some x => some x
    | none => (firstIn (fun l => P l (n + 1)) (n + 1)).map fun l => (l, n + 1)
theorem findP_some {P : Nat → Nat → Bool} : ∀ {n : Nat} {x : Nat × Nat}, findP P n = some x → x.1 < x.2 ∧ x.2 ≤ n ∧ 1 ≤ x.2 ∧ P x.1 x.2 = true ∧ ∀ m, m < x.2 → findP P m = none
  | 0, x, h => by simp [findP] at h
  | n + 1, x, h => by
    unfold findP at h
    cases e : findP P n with
    | some y =>
      rw [e] at h
      cases h
      obtain ⟨h1, h2, h3, h4, h5⟩ := findP_some e
      exact ⟨h1, by omega, h3, h4, h5⟩
    | none =>
      rw [e] at h
      obtain ⟨l, e2, rfl⟩ := Option.map_eq_some_iff.mp h
      obtain ⟨h1, h2, _⟩ := firstIn_some e2
      refine ⟨h1, Nat.le_refl _, by omega, h2, fun m hm => ?_⟩
      have key : ∀ k, findP P k = none → ∀ m, m ≤ k → findP P m = none := by
        intro k
        induction k with
        | zero => intro e m hm; rw [Nat.le_zero.mp hm]; rfl
        | succ k ih =>
          intro e m hm
          by_cases e3 : m = k + 1
          · rw [e3]; exact e
          · unfold findP at e
            cases e4 : findP P k with
            | some z => rw [e4] at e; cases e
            | none => exact ih e4 m (by omega)
      exact key n e m (by simp only at hm; omega)
theorem findP_none {P : Nat → Nat → Bool} : ∀ {n : Nat}, findP P n = none ↔ ∀ l m, l < m → m ≤ n → P l m = false
  | 0 => ⟨fun _ l m h1 h2 => by omega, fun _ => rfl⟩
  | n + 1 => by
    unfold findP
    cases e : findP P n with
    | some x =>
      obtain ⟨h1, h2, h3, h4, _⟩ := findP_some e
      constructor
      · intro h; cases h
      · intro h
        rw [h x.1 x.2 h1 (by omega)] at h4
        cases h4
    | none =>
      have ih := findP_none.mp e
      simp only [Option.map_eq_none_iff, firstIn_none]
      constructor
      · intro h l m h1 h2
        by_cases e2 : m = n + 1
        · subst e2; exact h l h1
        · exact ih l m h1 (by omega)
      · intro h l hl
        exact h l (n + 1) hl (Nat.le_refl _)
/-- a greater bound finds the same, once there is one -/
theorem findP_ext {P : Nat → Nat → Bool} {n : Nat} {x : Nat × Nat} (h : findP P n = some x) : ∀ {m : Nat}, n ≤ m → findP P m = some x := by
  intro m hm
  induction hm with
  | refl => exact h
  | step _ ih =>
    unfold findP
    rw [ih]
/-- how many changes of a kind are removed after some rounds, by a paper -/
def counted (G : Nat → K → Nat) (x : Nat × Nat) (rounds : Nat) (k : K) : Int :=
  (G (x.1 + (rounds - x.1) % (x.2 - x.1)) k : Int) + (((rounds - x.1) / (x.2 - x.1) : Nat) : Int) * ((G x.2 k : Int) - (G x.1 k : Int))
end
end KM

/-! KuBase -/
set_option Elab.async false
set_option linter.all false
set_option maxRecDepth 100000
set_option maxHeartbeats 4000000
namespace Ku
open PySem PySem.Spec PyProof.Rows L2
/-- what the head says: the facts of the written part K, of the module's names mg -/
structure Say (K : PySem.W.Frag) (mg : Str → Option Value) : Prop where
  d : He.SaysD fa fn K
  ex : exB K = true
  hp : ∃ h : Heap, K.In h ∧ h.Ns mainGlobals mg

/-! ### heaps -/
theorem Same.new {H : Hp} {p : Addr} {o : HO} (h : H p = none) : Same H (upd H p o) := fun a u e => by
  rw [upd_ne (ne_of_none e h)]
  exact e
/-- an object that the first heap does not know may change -/
theorem Same.mut {H H' : Hp} {p : Addr} {o : HO} (e : Same H H') (h : H p = none) : Same H (upd H' p o) := fun a u ha => by
  rw [upd_ne (ne_of_none ha h)]
  exact e a u ha
/-- .. and one that it knows may change in both -/
theorem Same.both {H H' : Hp} {p : Addr} {o : HO} (e : Same H H') : Same (upd H p o) (upd H' p o) := fun a u ha => by
  by_cases h : a = p
  · subst h
    rw [upd_same] at ha ⊢
    exact ha
  · rw [upd_ne h] at ha ⊢
    exact e a u ha
/-- the heap without an address -/
def hide (b : Addr) (H : Hp) : Hp := fun a => if a = b then none else H a
theorem hide_same {b : Addr} {H : Hp} : hide b H b = none := if_pos rfl
theorem hide_ne {a b : Addr} {H : Hp} (h : a ≠ b) : hide b H a = H a := if_neg h
theorem hide_le {b : Addr} {H : Hp} : Same (hide b H) H := fun a o e => by
  by_cases h : a = b
  · rw [h, hide_same] at e; cases e
  · rw [hide_ne h] at e; exact e
theorem hide_of {b : Addr} {H0 H : Hp} (e : Same H0 H) (h : H0 b = none) : Same H0 (hide b H) := fun a o q => by
  rw [hide_ne (ne_of_none q h)]
  exact e a o q
theorem hide_at {a b : Addr} {H : Hp} {o : HO} (h : a ≠ b) (e : H a = some o) : hide b H a = some o := by
  rw [hide_ne h]; exact e
theorem Same.sqt {K : PySem.W.Frag} {H H' : Hp} {a : Addr} {xs : List V} (e : Same H H') (h : SqT K H a xs) : SqT K H' a xs := by
  rcases h with (h | ⟨o, h⟩) | h
  · exact .inl (.inl (e _ _ h))
  · exact .inl (.inr ⟨o, e _ _ h⟩)
  · exact .inr h

/-! ### data at any depth -/
mutual
theorem dp_same {K : PySem.W.Frag} {H H' : Hp} (e : Same H H') : ∀ {v : V} {d : PyData}, Dp K H v d → Dp K H' v d
  | _, _, .non => .non
  | _, _, .bl b => .bl b
  | _, _, .int i => .int i
  | _, _, .str x => .str x
  | _, _, .lst h ha => .lst (e.seq h) (dpa_same e ha)
  | _, _, .tup h ha => .tup (Same.sqt e h) (dpa_same e ha)
theorem dpa_same {K : PySem.W.Frag} {H H' : Hp} (e : Same H H') : ∀ {vs : List V} {ds : List PyData}, DpAll K H vs ds → DpAll K H' vs ds
  | _, _, .nil => .nil
  | _, _, .cons h ha => .cons (dp_same e h) (dpa_same e ha)
end
section
variable {K : PySem.W.Frag} {H H' : Hp}
theorem DpAll.len : ∀ {vs : List V} {ds : List PyData}, DpAll K H vs ds → vs.length = ds.length
  | _, _, .nil => rfl
  | _, _, .cons _ h => congrArg Nat.succ (DpAll.len h)
theorem DpAll.get : ∀ {vs : List V} {ds : List PyData} {i : Nat} {v : V}, DpAll K H vs ds → vs[i]? = some v → ∃ d, ds[i]? = some d ∧ Dp K H v d
  | _, _, _, _, .nil, e => by simp at e
  | _, _, 0, _, .cons h _, e => by simp at e; subst e; exact ⟨_, rfl, h⟩
  | _, _, i + 1, v, .cons _ h, e => DpAll.get (i := i) h (by simpa using e)
theorem DpAll.get2 : ∀ {vs : List V} {ds : List PyData} {i : Nat} {d : PyData}, DpAll K H vs ds → ds[i]? = some d → ∃ v, vs[i]? = some v ∧ Dp K H v d
  | _, _, _, _, .nil, e => by simp at e
  | _, _, 0, _, .cons h _, e => by simp at e; subst e; exact ⟨_, rfl, h⟩
  | _, _, i + 1, v, .cons _ h, e => DpAll.get2 (i := i) h (by simpa using e)
theorem DpAll.app : ∀ {vs ws : List V} {ds es : List PyData}, DpAll K H vs ds → DpAll K H ws es → DpAll K H (vs ++ ws) (ds ++ es)
  | _, _, _, _, .nil, h => h
  | _, _, _, _, .cons a b, h => .cons a (DpAll.app b h)
theorem DpAll.take : ∀ {vs : List V} {ds : List PyData} (n : Nat), DpAll K H vs ds → DpAll K H (vs.take n) (ds.take n)
  | _, _, 0, _ => .nil
  | _, _, _ + 1, .nil => .nil
  | _, _, n + 1, .cons a b => .cons a (DpAll.take n b)
theorem DpAll.drop : ∀ {vs : List V} {ds : List PyData} (n : Nat), DpAll K H vs ds → DpAll K H (vs.drop n) (ds.drop n)
  | _, _, 0, h => h
  | _, _, _ + 1, .nil => .nil
  | _, _, n + 1, .cons _ b => DpAll.drop n b
theorem dp_str {v : V} {x : Str} (h : Dp K H v (.str x)) : v = .str x := by cases h; rfl
theorem dp_int {v : V} {x : Int} (h : Dp K H v (.int x)) : v = .int x := by cases h; rfl
theorem dpa_strs : ∀ {vs : List V} {l : List Str}, DpAll K H vs (l.map PyData.str) → vs = l.map V.str
  | [], [], _ => rfl
  | [], _ :: _, h => by cases h
  | _ :: _, [], h => by cases h
  | v :: vs, x :: l, h => by
    cases h with
    | cons a b => rw [dp_str a, dpa_strs b]; rfl
theorem strs_dpa : ∀ (l : List Str), DpAll K H (l.map V.str) (l.map PyData.str)
  | [] => .nil
  | x :: l => .cons (.str x) (strs_dpa l)
theorem ints_dpa : ∀ (l : List Int), DpAll K H (l.map V.int) (l.map PyData.int)
  | [] => .nil
  | x :: l => .cons (.int x) (ints_dpa l)
/-- a list of texts; a set of kinds; lists of sets -/
abbrev dSs (l : List Str) : PyData := .list (l.map .str)
abbrev dTp (l : List Str) : PyData := .tuple (l.map .str)
abbrev dTk (ts : List (List Str)) : PyData := .list (ts.map dTp)
theorem dp_strs {v : V} {l : List Str} (h : Dp K H v (dSs l)) : ∃ a, v = .ref a ∧ SqL K H a (l.map V.str) := by
  cases h with
  | lst hs ha => exact ⟨_, rfl, by rw [← dpa_strs ha]; exact hs⟩
theorem dp_tup {v : V} {l : List Str} (h : Dp K H v (dTp l)) : ∃ a, v = .ref a ∧ SqT K H a (l.map V.str) := by
  cases h with
  | tup hs ha => exact ⟨_, rfl, by rw [← dpa_strs ha]; exact hs⟩
theorem strs_dp {a : Addr} {l : List Str} (h : SqL K H a (l.map V.str)) : Dp K H (.ref a) (dSs l) := .lst h (strs_dpa l)
theorem tup_dp {a : Addr} {l : List Str} (h : SqT K H a (l.map V.str)) : Dp K H (.ref a) (dTp l) := .tup h (strs_dpa l)
theorem dp_list {v : V} {ds : List PyData} (h : Dp K H v (.list ds)) : ∃ a xs, v = .ref a ∧ SqL K H a xs ∧ DpAll K H xs ds := by
  cases h with
  | lst hs ha => exact ⟨_, _, rfl, hs, ha⟩
theorem dp_tuple {v : V} {ds : List PyData} (h : Dp K H v (.tuple ds)) : ∃ a xs, v = .ref a ∧ SqT K H a xs ∧ DpAll K H xs ds := by
  cases h with
  | tup hs ha => exact ⟨_, _, rfl, hs, ha⟩
end

/-! ### defs by names -/
section
variable (P : Program) (w : World) (K : PySem.W.Frag) (mg : Str → Option Value) (base : Heap)
/-- a def that may be called by its name, that lets no exception out -/
def Cal (k : Nat) (x : Str) (sp : Sp) : Prop := ∃ (f : Addr) (fd : FuncData) (ps : List Str), FnOk P w K mg base CX0 k f fd ps sp ∧ mg x = some (.ref f) ∧ PySem.W.keepIn K (.ref f) = true ∧ Binds K fd ps []
/-- a method -/
def Met (k : Nat) (C : Addr) (m : Str) (sp : Sp) : Prop := ∃ (f : Addr) (fd : FuncData) (ps : List Str), FnOk P w K mg base CX0 k f fd ps sp ∧ Cls K C ∧ Meth K C m f ∧ Binds K fd ps []
/-- a class, made by its name -/
def Mak (k : Nat) (x : Str) (C : Addr) (sp : Sp) : Prop := ∃ (f : Addr) (fd : FuncData) (ps : List Str), FnOk P w K mg base CX0 k f fd ps sp ∧ Mk K C f ∧ mg x = some (.ref C) ∧ Binds K fd ps []
end
section
variable {P : Program} {w : World} {K : PySem.W.Frag} {mg : Str → Option Value} {base : Heap}
variable {x qual : Str} {params : Arguments} {body : List Stmt} {scope : Scope} {f : Addr} {fd : FuncData} {N ps : List Str} {k : Nat} {sp : Sp}
/-- THE RULE for a def that raises nothing: its body as a term of rules, the reading of that term -/
theorem fn_ok (F : FunD K x qual params body scope [] [] f fd) (S : FnScope N ps scope) (len : ∀ vs H Q E, sp vs H Q E → vs.length = ps.length)
    (hbody : ∀ (cdv : Value) (A : Around) (outer : List Env) (s : Shared) (H : Hp) (vs : List V) (Q : VK) (E : XK), Room k (A.deeper (envOfC qual scope s.heap.objs.size f cdv)) → sp vs H Q E →
      ∃ t, PSs (cxOf CX0 P w K mg base N qual scope f cdv A outer s H E).nox body t ∧ t { nx := fun _ H' => Q .non H', rt := Q } (start N vs) H) : FnOk P w K mg base CX0 (k + 1) f fd ps sp :=
  F.ok S len fun cdv A outer s H vs Q E hr h => by
    obtain ⟨t, h1, h2⟩ := hbody cdv A outer s H vs Q E hr h
    exact ⟨t, h1.nox, h2⟩
theorem fnScope_dec {N ps : List Str} {sc : Scope} (h : (decide (sc.kind = .function) && !sc.isCoroutine && !sc.isGenerator && decide N.Nodup && decide (N.take ps.length = ps) && ps.all (fun x => decide (sc.names.lookup x = some .local) || decide (sc.names.lookup x = some .cell)) && sc.names.all (fun y => !decide (y.2 = .free))) = true) : FnScope N ps sc := by
  simp only [Bool.and_eq_true, Bool.not_eq_true', decide_eq_true_eq, List.all_eq_true, Bool.or_eq_true, decide_eq_false_iff_not] at h
  obtain ⟨⟨⟨⟨⟨⟨h1, h2⟩, h3⟩, h4⟩, h5⟩, h6⟩, h7⟩ := h
  exact ⟨h1, h2, h3, h4, h5, h6, h7⟩
end
section
variable {X : Cx} {k j : Nat} {C : Addr} {x m : Str} {sp : Sp} {p pos apos : Pos} {e o : Expr} {es : List Expr} {ta : TE} {t : TA}
theorem pe_c (c : Cal X.prog X.w X.K X.mg X.base k x sp) (hr : Room j X.A) (hk : k ≤ j) (hg : Gl X x) (ha : PA X (e :: es) t)
    (hdb : (x == ("__debug__" : Str)) = false := by decide) (he : starEach (e :: es) X.env = (false, eval e X.env) :: starEach es X.env := by rfl) (hpl : (backTo pos (starEach es X.env)).any (·.1) = false := by rfl) :
    PE X (.Call (.Name x p) (e :: es) [] pos) (tCall sp [] E0 t) := by
  obtain ⟨f, fd, ps, F, hm, kp, b⟩ := c
  exact pe_call F (hr.mono hk) hg hm kp b .nil pass0 ha hdb he hpl
theorem pe_mk (c : Mak X.prog X.w X.K X.mg X.base k x C sp) (hr : Room j X.A) (hk : k + 1 ≤ j) (hg : Gl X x) (ha : PA X (e :: es) t)
    (hdb : (x == ("__debug__" : Str)) = false := by decide) (he : starEach (e :: es) X.env = (false, eval e X.env) :: starEach es X.env := by rfl) (hpl : (backTo pos (starEach es X.env)).any (·.1) = false := by rfl) :
    PE X (.Call (.Name x p) (e :: es) [] pos) (tMake C sp [] E0 t) := by
  obtain ⟨f, fd, ps, F, M, hm, b⟩ := c
  exact pe_make M F (hr.mono hk) hg hm b .nil pass0 ha hdb he hpl
theorem pe_mt {pl : Sem Bool} (c : Met X.prog X.w X.K X.mg X.base k C m sp) (hr : Room j X.A) (hk : k ≤ j) (he : PE X o ta) (ha : PA X (e :: es) t)
    (hst : starEach (e :: es) X.env = (false, eval e X.env) :: starEach es X.env := by rfl) (hpl : (backTo pos (starEach es X.env)).any (·.1) = false := by rfl)
    (ht : eval (.Call (.Attribute o m apos) (e :: es) [] pos) X.env = (do
      let ov ← eval o X.env
      standAt apos.atName
      let (f, first) ← holding [ov] (getMethod ov m pl)
      callWith pos f first (backTo pos (starEach (e :: es) X.env)) (backToKw pos (keywordEach [] X.env))) := by rfl) :
    PE X (.Call (.Attribute o m apos) (e :: es) [] pos) (tMeth C m sp [] E0 ta t) := by
  obtain ⟨f, fd, ps, F, hc, hm, b⟩ := c
  exact pe_meth (pl := pl) he hc hm F (hr.mono hk) b .nil pass0 ha hst hpl ht
theorem pe_mt0 {pl : Sem Bool} (c : Met X.prog X.w X.K X.mg X.base k C m sp) (hr : Room j X.A) (hk : k ≤ j) (he : PE X o ta)
    (ht : eval (.Call (.Attribute o m apos) [] [] pos) X.env = (do
      let ov ← eval o X.env
      standAt apos.atName
      let (f, first) ← holding [ov] (getMethod ov m pl)
      callWith pos f first (backTo pos (starEach [] X.env)) (backToKw pos (keywordEach [] X.env))) := by rfl) :
    PE X (.Call (.Attribute o m apos) [] [] pos) (tMeth C m sp [] E0 ta tNil) := by
  obtain ⟨f, fd, ps, F, hc, hm, b⟩ := c
  exact pe_meth0 (pl := pl) he hc hm F (hr.mono hk) b .nil pass0 ht
end

section
variable {K : PySem.W.Frag} {mg : Str → Option Value}
theorem Say.g_KindError (Z : Say K mg) : mg "KindError" = some (.ref (He.ga K "KindError")) := by obtain ⟨h, X, G⟩ := Z.hp; exact He.glo_ok X G (Z.d.fact 0 (f := .glo "KindError") rfl)
theorem Say.g_TooMany (Z : Say K mg) : mg "TooMany" = some (.ref (He.ga K "TooMany")) := by obtain ⟨h, X, G⟩ := Z.hp; exact He.glo_ok X G (Z.d.fact 1 (f := .glo "TooMany") rfl)
theorem Say.g_BadRecord (Z : Say K mg) : mg "BadRecord" = some (.ref (He.ga K "BadRecord")) := by obtain ⟨h, X, G⟩ := Z.hp; exact He.glo_ok X G (Z.d.fact 2 (f := .glo "BadRecord") rfl)
theorem Say.g_is_kind (Z : Say K mg) : mg "is_kind" = some (.ref (He.ga K "is_kind")) := by obtain ⟨h, X, G⟩ := Z.hp; exact He.glo_ok X G (Z.d.fact 3 (f := .glo "is_kind") rfl)
theorem Say.g_are_kinds (Z : Say K mg) : mg "are_kinds" = some (.ref (He.ga K "are_kinds")) := by obtain ⟨h, X, G⟩ := Z.hp; exact He.glo_ok X G (Z.d.fact 4 (f := .glo "are_kinds") rfl)
theorem Say.g_Race (Z : Say K mg) : mg "Race" = some (.ref (He.ga K "Race")) := by obtain ⟨h, X, G⟩ := Z.hp; exact He.glo_ok X G (Z.d.fact 5 (f := .glo "Race") rfl)
theorem Say.g_advances_of (Z : Say K mg) : mg "advances_of" = some (.ref (He.ga K "advances_of")) := by obtain ⟨h, X, G⟩ := Z.hp; exact He.glo_ok X G (Z.d.fact 6 (f := .glo "advances_of") rfl)
theorem Say.g_settled_race (Z : Say K mg) : mg "settled_race" = some (.ref (He.ga K "settled_race")) := by obtain ⟨h, X, G⟩ := Z.hp; exact He.glo_ok X G (Z.d.fact 7 (f := .glo "settled_race") rfl)
theorem Say.g_removed (Z : Say K mg) : mg "removed" = some (.ref (He.ga K "removed")) := by obtain ⟨h, X, G⟩ := Z.hp; exact He.glo_ok X G (Z.d.fact 8 (f := .glo "removed") rfl)
theorem Say.g_spots_of (Z : Say K mg) : mg "spots_of" = some (.ref (He.ga K "spots_of")) := by obtain ⟨h, X, G⟩ := Z.hp; exact He.glo_ok X G (Z.d.fact 9 (f := .glo "spots_of") rfl)
theorem Say.g_Endless (Z : Say K mg) : mg "Endless" = some (.ref (He.ga K "Endless")) := by obtain ⟨h, X, G⟩ := Z.hp; exact He.glo_ok X G (Z.d.fact 10 (f := .glo "Endless") rfl)
theorem Say.g_law_bag (Z : Say K mg) : mg "_law_bag" = some (.ref (He.ga K "_law_bag")) := by obtain ⟨h, X, G⟩ := Z.hp; exact He.glo_ok X G (Z.d.fact 11 (f := .glo "_law_bag") rfl)
theorem Say.g_law_take (Z : Say K mg) : mg "_law_take" = some (.ref (He.ga K "_law_take")) := by obtain ⟨h, X, G⟩ := Z.hp; exact He.glo_ok X G (Z.d.fact 12 (f := .glo "_law_take") rfl)
theorem Say.g_law_alike (Z : Say K mg) : mg "_law_alike" = some (.ref (He.ga K "_law_alike")) := by obtain ⟨h, X, G⟩ := Z.hp; exact He.glo_ok X G (Z.d.fact 13 (f := .glo "_law_alike") rfl)
theorem Say.g_law_kinds (Z : Say K mg) : mg "_law_kinds" = some (.ref (He.ga K "_law_kinds")) := by obtain ⟨h, X, G⟩ := Z.hp; exact He.glo_ok X G (Z.d.fact 14 (f := .glo "_law_kinds") rfl)
theorem Say.g_law_set (Z : Say K mg) : mg "_law_set" = some (.ref (He.ga K "_law_set")) := by obtain ⟨h, X, G⟩ := Z.hp; exact He.glo_ok X G (Z.d.fact 15 (f := .glo "_law_set") rfl)
theorem Say.g_law_kind (Z : Say K mg) : mg "_law_kind" = some (.ref (He.ga K "_law_kind")) := by obtain ⟨h, X, G⟩ := Z.hp; exact He.glo_ok X G (Z.d.fact 16 (f := .glo "_law_kind") rfl)
theorem Say.g_law_spot (Z : Say K mg) : mg "_law_spot" = some (.ref (He.ga K "_law_spot")) := by obtain ⟨h, X, G⟩ := Z.hp; exact He.glo_ok X G (Z.d.fact 17 (f := .glo "_law_spot") rfl)
theorem Say.g_law_begun (Z : Say K mg) : mg "_law_begun" = some (.ref (He.ga K "_law_begun")) := by obtain ⟨h, X, G⟩ := Z.hp; exact He.glo_ok X G (Z.d.fact 18 (f := .glo "_law_begun") rfl)
theorem Say.g_law_taken (Z : Say K mg) : mg "_law_taken" = some (.ref (He.ga K "_law_taken")) := by obtain ⟨h, X, G⟩ := Z.hp; exact He.glo_ok X G (Z.d.fact 19 (f := .glo "_law_taken") rfl)
theorem Say.g_law_endless (Z : Say K mg) : mg "_law_endless" = some (.ref (He.ga K "_law_endless")) := by obtain ⟨h, X, G⟩ := Z.hp; exact He.glo_ok X G (Z.d.fact 20 (f := .glo "_law_endless") rfl)
theorem Say.g_law_race (Z : Say K mg) : mg "_law_race" = some (.ref (He.ga K "_law_race")) := by obtain ⟨h, X, G⟩ := Z.hp; exact He.glo_ok X G (Z.d.fact 21 (f := .glo "_law_race") rfl)
theorem Say.g_law_is_settled (Z : Say K mg) : mg "_law_is_settled" = some (.ref (He.ga K "_law_is_settled")) := by obtain ⟨h, X, G⟩ := Z.hp; exact He.glo_ok X G (Z.d.fact 22 (f := .glo "_law_is_settled") rfl)
theorem Say.g_law_fits (Z : Say K mg) : mg "_law_fits" = some (.ref (He.ga K "_law_fits")) := by obtain ⟨h, X, G⟩ := Z.hp; exact He.glo_ok X G (Z.d.fact 23 (f := .glo "_law_fits") rfl)
theorem Say.g_law_more_takes (Z : Say K mg) : mg "_law_more_takes" = some (.ref (He.ga K "_law_more_takes")) := by obtain ⟨h, X, G⟩ := Z.hp; exact He.glo_ok X G (Z.d.fact 24 (f := .glo "_law_more_takes") rfl)
theorem Say.g_law_counted (Z : Say K mg) : mg "_law_counted" = some (.ref (He.ga K "_law_counted")) := by obtain ⟨h, X, G⟩ := Z.hp; exact He.glo_ok X G (Z.d.fact 25 (f := .glo "_law_counted") rfl)
theorem Say.g_law_grown (Z : Say K mg) : mg "_law_grown" = some (.ref (He.ga K "_law_grown")) := by obtain ⟨h, X, G⟩ := Z.hp; exact He.glo_ok X G (Z.d.fact 26 (f := .glo "_law_grown") rfl)
theorem Say.g_law_paper (Z : Say K mg) : mg "_law_paper" = some (.ref (He.ga K "_law_paper")) := by obtain ⟨h, X, G⟩ := Z.hp; exact He.glo_ok X G (Z.d.fact 27 (f := .glo "_law_paper") rfl)
theorem Say.g_law_wide_scene (Z : Say K mg) : mg "_law_wide_scene" = some (.ref (He.ga K "_law_wide_scene")) := by obtain ⟨h, X, G⟩ := Z.hp; exact He.glo_ok X G (Z.d.fact 28 (f := .glo "_law_wide_scene") rfl)
theorem Say.g_law_slow_scene (Z : Say K mg) : mg "_law_slow_scene" = some (.ref (He.ga K "_law_slow_scene")) := by obtain ⟨h, X, G⟩ := Z.hp; exact He.glo_ok X G (Z.d.fact 29 (f := .glo "_law_slow_scene") rfl)
theorem Say.g_law_told (Z : Say K mg) : mg "_law_told" = some (.ref (He.ga K "_law_told")) := by obtain ⟨h, X, G⟩ := Z.hp; exact He.glo_ok X G (Z.d.fact 30 (f := .glo "_law_told") rfl)
theorem Say.g_law_far_right (Z : Say K mg) : mg "_law_far_right" = some (.ref (He.ga K "_law_far_right")) := by obtain ⟨h, X, G⟩ := Z.hp; exact He.glo_ok X G (Z.d.fact 31 (f := .glo "_law_far_right") rfl)
theorem Say.g_law_longest_right (Z : Say K mg) : mg "_law_longest_right" = some (.ref (He.ga K "_law_longest_right")) := by obtain ⟨h, X, G⟩ := Z.hp; exact He.glo_ok X G (Z.d.fact 32 (f := .glo "_law_longest_right") rfl)
theorem Say.g_law_slow_right (Z : Say K mg) : mg "_law_slow_right" = some (.ref (He.ga K "_law_slow_right")) := by obtain ⟨h, X, G⟩ := Z.hp; exact He.glo_ok X G (Z.d.fact 33 (f := .glo "_law_slow_right") rfl)
theorem Say.g_law (Z : Say K mg) : mg "law" = some (.ref (He.ga K "law")) := by obtain ⟨h, X, G⟩ := Z.hp; exact He.glo_ok X G (Z.d.fact 34 (f := .glo "law") rfl)
theorem Say.f_len (Z : Say K mg) : mg "len" = none := by obtain ⟨h, X, G⟩ := Z.hp; exact He.free_ok X G (Z.d.fact 35 (f := .free "len") rfl)
theorem Say.f_isinstance (Z : Say K mg) : mg "isinstance" = none := by obtain ⟨h, X, G⟩ := Z.hp; exact He.free_ok X G (Z.d.fact 36 (f := .free "isinstance") rfl)
theorem Say.f_sorted (Z : Say K mg) : mg "sorted" = none := by obtain ⟨h, X, G⟩ := Z.hp; exact He.free_ok X G (Z.d.fact 37 (f := .free "sorted") rfl)
theorem Say.f_set (Z : Say K mg) : mg "set" = none := by obtain ⟨h, X, G⟩ := Z.hp; exact He.free_ok X G (Z.d.fact 38 (f := .free "set") rfl)
theorem Say.f_min (Z : Say K mg) : mg "min" = none := by obtain ⟨h, X, G⟩ := Z.hp; exact He.free_ok X G (Z.d.fact 39 (f := .free "min") rfl)
theorem Say.f_max (Z : Say K mg) : mg "max" = none := by obtain ⟨h, X, G⟩ := Z.hp; exact He.free_ok X G (Z.d.fact 40 (f := .free "max") rfl)
theorem Say.f_zip (Z : Say K mg) : mg "zip" = none := by obtain ⟨h, X, G⟩ := Z.hp; exact He.free_ok X G (Z.d.fact 41 (f := .free "zip") rfl)
theorem Say.f_tuple (Z : Say K mg) : mg "tuple" = none := by obtain ⟨h, X, G⟩ := Z.hp; exact He.free_ok X G (Z.d.fact 42 (f := .free "tuple") rfl)
theorem Say.f_range (Z : Say K mg) : mg "range" = none := by obtain ⟨h, X, G⟩ := Z.hp; exact He.free_ok X G (Z.d.fact 43 (f := .free "range") rfl)
theorem Say.f_reversed (Z : Say K mg) : mg "reversed" = none := by obtain ⟨h, X, G⟩ := Z.hp; exact He.free_ok X G (Z.d.fact 44 (f := .free "reversed") rfl)
theorem Say.f_enumerate (Z : Say K mg) : mg "enumerate" = none := by obtain ⟨h, X, G⟩ := Z.hp; exact He.free_ok X G (Z.d.fact 45 (f := .free "enumerate") rfl)
theorem Say.f_dict (Z : Say K mg) : mg "dict" = none := by obtain ⟨h, X, G⟩ := Z.hp; exact He.free_ok X G (Z.d.fact 46 (f := .free "dict") rfl)
theorem Say.f_divmod (Z : Say K mg) : mg "divmod" = none := by obtain ⟨h, X, G⟩ := Z.hp; exact He.free_ok X G (Z.d.fact 47 (f := .free "divmod") rfl)
theorem Say.f_list (Z : Say K mg) : mg "list" = none := by obtain ⟨h, X, G⟩ := Z.hp; exact He.free_ok X G (Z.d.fact 48 (f := .free "list") rfl)
theorem Say.f_all (Z : Say K mg) : mg "all" = none := by obtain ⟨h, X, G⟩ := Z.hp; exact He.free_ok X G (Z.d.fact 49 (f := .free "all") rfl)
theorem Say.f_abs (Z : Say K mg) : mg "abs" = none := by obtain ⟨h, X, G⟩ := Z.hp; exact He.free_ok X G (Z.d.fact 50 (f := .free "abs") rfl)
theorem Say.f_repr (Z : Say K mg) : mg "repr" = none := by obtain ⟨h, X, G⟩ := Z.hp; exact He.free_ok X G (Z.d.fact 51 (f := .free "repr") rfl)
theorem Say.f_sum (Z : Say K mg) : mg "sum" = none := by obtain ⟨h, X, G⟩ := Z.hp; exact He.free_ok X G (Z.d.fact 52 (f := .free "sum") rfl)
theorem Say.f_int (Z : Say K mg) : mg "int" = none := by obtain ⟨h, X, G⟩ := Z.hp; exact He.free_ok X G (Z.d.fact 53 (f := .free "int") rfl)
theorem Say.f_ValueError (Z : Say K mg) : mg "ValueError" = none := by obtain ⟨h, X, G⟩ := Z.hp; exact He.free_ok X G (Z.d.fact 54 (f := .free "ValueError") rfl)
theorem Say.f_str (Z : Say K mg) : mg "str" = none := by obtain ⟨h, X, G⟩ := Z.hp; exact He.free_ok X G (Z.d.fact 55 (f := .free "str") rfl)
theorem Say.i_MOST_KINDS (Z : Say K mg) : ∃ t, mg "MOST_KINDS" = some (.int 8 t) := by obtain ⟨h, X, G⟩ := Z.hp; exact He.int_ok X G (Z.d.fact 56 (f := .int "MOST_KINDS" 8) rfl)
theorem Say.i_MOST_LETTERS (Z : Say K mg) : ∃ t, mg "MOST_LETTERS" = some (.int 8 t) := by obtain ⟨h, X, G⟩ := Z.hp; exact He.int_ok X G (Z.d.fact 57 (f := .int "MOST_LETTERS" 8) rfl)
theorem Say.i_MOST_ROUNDS (Z : Say K mg) : ∃ t, mg "MOST_ROUNDS" = some (.int 400 t) := by obtain ⟨h, X, G⟩ := Z.hp; exact He.int_ok X G (Z.d.fact 58 (f := .int "MOST_ROUNDS" 400) rfl)
theorem Say.i_MOST_BLOCK (Z : Say K mg) : ∃ t, mg "MOST_BLOCK" = some (.int 40 t) := by obtain ⟨h, X, G⟩ := Z.hp; exact He.int_ok X G (Z.d.fact 59 (f := .int "MOST_BLOCK" 40) rfl)
theorem Say.i_MOST_RECENT (Z : Say K mg) : ∃ t, mg "MOST_RECENT" = some (.int 60 t) := by obtain ⟨h, X, G⟩ := Z.hp; exact He.int_ok X G (Z.d.fact 60 (f := .int "MOST_RECENT" 60) rfl)
theorem Say.c_Race (Z : Say K mg) : Cls K (He.ga K "Race") := He.cls_ok (Z.d.fact 61 (f := .cls "Race") rfl)
theorem Say.n_Race_history (Z : Say K mg) : NoAttr K (He.ga K "Race") "history" := He.eqO_ok (Z.d.fact 62 (f := .noat "Race" "history") rfl)
theorem Say.n_Race_gone (Z : Say K mg) : NoAttr K (He.ga K "Race") "gone" := He.eqO_ok (Z.d.fact 63 (f := .noat "Race" "gone") rfl)
theorem Say.n_Race_places (Z : Say K mg) : NoAttr K (He.ga K "Race") "places" := He.eqO_ok (Z.d.fact 64 (f := .noat "Race" "places") rfl)
theorem Say.n_Race_rounds (Z : Say K mg) : NoAttr K (He.ga K "Race") "rounds" := He.eqO_ok (Z.d.fact 65 (f := .noat "Race" "rounds") rfl)
theorem Say.n_Race_met (Z : Say K mg) : NoAttr K (He.ga K "Race") "met" := He.eqO_ok (Z.d.fact 66 (f := .noat "Race" "met") rfl)
theorem Say.k_Race (Z : Say K mg) : Mk K (He.ga K "Race") (He.ma K (He.ga K "Race") "__init__") := He.mkr_ok (Z.d.fact 67 (f := .mkr "Race") rfl)
theorem Say.c_Endless (Z : Say K mg) : Cls K (He.ga K "Endless") := He.cls_ok (Z.d.fact 68 (f := .cls "Endless") rfl)
theorem Say.n_Endless_kept_block (Z : Say K mg) : NoAttr K (He.ga K "Endless") "kept_block" := He.eqO_ok (Z.d.fact 69 (f := .noat "Endless" "kept_block") rfl)
theorem Say.n_Endless_kept_recent (Z : Say K mg) : NoAttr K (He.ga K "Endless") "kept_recent" := He.eqO_ok (Z.d.fact 70 (f := .noat "Endless" "kept_recent") rfl)
theorem Say.n_Endless_block_spots (Z : Say K mg) : NoAttr K (He.ga K "Endless") "block_spots" := He.eqO_ok (Z.d.fact 71 (f := .noat "Endless" "block_spots") rfl)
theorem Say.n_Endless_recent_spots (Z : Say K mg) : NoAttr K (He.ga K "Endless") "recent_spots" := He.eqO_ok (Z.d.fact 72 (f := .noat "Endless" "recent_spots") rfl)
theorem Say.k_Endless (Z : Say K mg) : Mk K (He.ga K "Endless") (He.ma K (He.ga K "Endless") "__init__") := He.mkr_ok (Z.d.fact 73 (f := .mkr "Endless") rfl)
theorem Say.m_Race_take (Z : Say K mg) : Meth K (He.ga K "Race") "take" (He.ma K (He.ga K "Race") "take") := He.meth_ok (Z.d.fact 74 (f := .meth "Race" "take") rfl)
theorem Say.m_Race_begin (Z : Say K mg) : Meth K (He.ga K "Race") "begin" (He.ma K (He.ga K "Race") "begin") := He.meth_ok (Z.d.fact 75 (f := .meth "Race" "begin") rfl)
theorem Say.m_Race_do_round (Z : Say K mg) : Meth K (He.ga K "Race") "do_round" (He.ma K (He.ga K "Race") "do_round") := He.meth_ok (Z.d.fact 76 (f := .meth "Race" "do_round") rfl)
theorem Say.m_Race_block_places (Z : Say K mg) : Meth K (He.ga K "Race") "block_places" (He.ma K (He.ga K "Race") "block_places") := He.meth_ok (Z.d.fact 77 (f := .meth "Race" "block_places") rfl)
theorem Say.m_Race_is_settled (Z : Say K mg) : Meth K (He.ga K "Race") "is_settled" (He.ma K (He.ga K "Race") "is_settled") := He.meth_ok (Z.d.fact 78 (f := .meth "Race" "is_settled") rfl)
theorem Say.m_Race_is_fair (Z : Say K mg) : Meth K (He.ga K "Race") "is_fair" (He.ma K (He.ga K "Race") "is_fair") := He.meth_ok (Z.d.fact 79 (f := .meth "Race" "is_fair") rfl)
theorem Say.m_Endless_block (Z : Say K mg) : Meth K (He.ga K "Endless") "block" (He.ma K (He.ga K "Endless") "block") := He.meth_ok (Z.d.fact 80 (f := .meth "Endless" "block") rfl)
theorem Say.m_Endless_recent (Z : Say K mg) : Meth K (He.ga K "Endless") "recent" (He.ma K (He.ga K "Endless") "recent") := He.meth_ok (Z.d.fact 81 (f := .meth "Endless" "recent") rfl)
theorem Say.m_Endless_kinds (Z : Say K mg) : Meth K (He.ga K "Endless") "kinds" (He.ma K (He.ga K "Endless") "kinds") := He.meth_ok (Z.d.fact 82 (f := .meth "Endless" "kinds") rfl)
theorem Say.m_Endless_nth (Z : Say K mg) : Meth K (He.ga K "Endless") "nth" (He.ma K (He.ga K "Endless") "nth") := He.meth_ok (Z.d.fact 83 (f := .meth "Endless" "nth") rfl)
theorem Say.D_TooMany_init (Z : Say K mg) : ∃ fd, FunD K d_TooMany_init.name d_TooMany_init.qual d_TooMany_init.params d_TooMany_init.body d_TooMany_init.scope (d_TooMany_init.dvs K) (d_TooMany_init.kws K) (He.fAd K d_TooMany_init.at_) fd := Z.d.def_ 0 (d := d_TooMany_init) rfl
theorem Say.D_is_kind (Z : Say K mg) : ∃ fd, FunD K d_is_kind.name d_is_kind.qual d_is_kind.params d_is_kind.body d_is_kind.scope (d_is_kind.dvs K) (d_is_kind.kws K) (He.fAd K d_is_kind.at_) fd := Z.d.def_ 1 (d := d_is_kind) rfl
theorem Say.D_are_kinds (Z : Say K mg) : ∃ fd, FunD K d_are_kinds.name d_are_kinds.qual d_are_kinds.params d_are_kinds.body d_are_kinds.scope (d_are_kinds.dvs K) (d_are_kinds.kws K) (He.fAd K d_are_kinds.at_) fd := Z.d.def_ 2 (d := d_are_kinds) rfl
theorem Say.D_Race_init (Z : Say K mg) : ∃ fd, FunD K d_Race_init.name d_Race_init.qual d_Race_init.params d_Race_init.body d_Race_init.scope (d_Race_init.dvs K) (d_Race_init.kws K) (He.fAd K d_Race_init.at_) fd := Z.d.def_ 3 (d := d_Race_init) rfl
theorem Say.D_Race_take (Z : Say K mg) : ∃ fd, FunD K d_Race_take.name d_Race_take.qual d_Race_take.params d_Race_take.body d_Race_take.scope (d_Race_take.dvs K) (d_Race_take.kws K) (He.fAd K d_Race_take.at_) fd := Z.d.def_ 4 (d := d_Race_take) rfl
theorem Say.D_Race_begin (Z : Say K mg) : ∃ fd, FunD K d_Race_begin.name d_Race_begin.qual d_Race_begin.params d_Race_begin.body d_Race_begin.scope (d_Race_begin.dvs K) (d_Race_begin.kws K) (He.fAd K d_Race_begin.at_) fd := Z.d.def_ 5 (d := d_Race_begin) rfl
theorem Say.D_Race_do_round (Z : Say K mg) : ∃ fd, FunD K d_Race_do_round.name d_Race_do_round.qual d_Race_do_round.params d_Race_do_round.body d_Race_do_round.scope (d_Race_do_round.dvs K) (d_Race_do_round.kws K) (He.fAd K d_Race_do_round.at_) fd := Z.d.def_ 6 (d := d_Race_do_round) rfl
theorem Say.D_Race_block_places (Z : Say K mg) : ∃ fd, FunD K d_Race_block_places.name d_Race_block_places.qual d_Race_block_places.params d_Race_block_places.body d_Race_block_places.scope (d_Race_block_places.dvs K) (d_Race_block_places.kws K) (He.fAd K d_Race_block_places.at_) fd := Z.d.def_ 7 (d := d_Race_block_places) rfl
theorem Say.D_Race_is_settled (Z : Say K mg) : ∃ fd, FunD K d_Race_is_settled.name d_Race_is_settled.qual d_Race_is_settled.params d_Race_is_settled.body d_Race_is_settled.scope (d_Race_is_settled.dvs K) (d_Race_is_settled.kws K) (He.fAd K d_Race_is_settled.at_) fd := Z.d.def_ 8 (d := d_Race_is_settled) rfl
theorem Say.D_Race_is_fair (Z : Say K mg) : ∃ fd, FunD K d_Race_is_fair.name d_Race_is_fair.qual d_Race_is_fair.params d_Race_is_fair.body d_Race_is_fair.scope (d_Race_is_fair.dvs K) (d_Race_is_fair.kws K) (He.fAd K d_Race_is_fair.at_) fd := Z.d.def_ 9 (d := d_Race_is_fair) rfl
theorem Say.D_advances_of (Z : Say K mg) : ∃ fd, FunD K d_advances_of.name d_advances_of.qual d_advances_of.params d_advances_of.body d_advances_of.scope (d_advances_of.dvs K) (d_advances_of.kws K) (He.fAd K d_advances_of.at_) fd := Z.d.def_ 10 (d := d_advances_of) rfl
theorem Say.D_settled_race (Z : Say K mg) : ∃ fd, FunD K d_settled_race.name d_settled_race.qual d_settled_race.params d_settled_race.body d_settled_race.scope (d_settled_race.dvs K) (d_settled_race.kws K) (He.fAd K d_settled_race.at_) fd := Z.d.def_ 11 (d := d_settled_race) rfl
theorem Say.D_removed (Z : Say K mg) : ∃ fd, FunD K d_removed.name d_removed.qual d_removed.params d_removed.body d_removed.scope (d_removed.dvs K) (d_removed.kws K) (He.fAd K d_removed.at_) fd := Z.d.def_ 12 (d := d_removed) rfl
theorem Say.D_spots_of (Z : Say K mg) : ∃ fd, FunD K d_spots_of.name d_spots_of.qual d_spots_of.params d_spots_of.body d_spots_of.scope (d_spots_of.dvs K) (d_spots_of.kws K) (He.fAd K d_spots_of.at_) fd := Z.d.def_ 13 (d := d_spots_of) rfl
theorem Say.D_Endless_init (Z : Say K mg) : ∃ fd, FunD K d_Endless_init.name d_Endless_init.qual d_Endless_init.params d_Endless_init.body d_Endless_init.scope (d_Endless_init.dvs K) (d_Endless_init.kws K) (He.fAd K d_Endless_init.at_) fd := Z.d.def_ 14 (d := d_Endless_init) rfl
theorem Say.D_Endless_block (Z : Say K mg) : ∃ fd, FunD K d_Endless_block.name d_Endless_block.qual d_Endless_block.params d_Endless_block.body d_Endless_block.scope (d_Endless_block.dvs K) (d_Endless_block.kws K) (He.fAd K d_Endless_block.at_) fd := Z.d.def_ 15 (d := d_Endless_block) rfl
theorem Say.D_Endless_recent (Z : Say K mg) : ∃ fd, FunD K d_Endless_recent.name d_Endless_recent.qual d_Endless_recent.params d_Endless_recent.body d_Endless_recent.scope (d_Endless_recent.dvs K) (d_Endless_recent.kws K) (He.fAd K d_Endless_recent.at_) fd := Z.d.def_ 16 (d := d_Endless_recent) rfl
theorem Say.D_Endless_kinds (Z : Say K mg) : ∃ fd, FunD K d_Endless_kinds.name d_Endless_kinds.qual d_Endless_kinds.params d_Endless_kinds.body d_Endless_kinds.scope (d_Endless_kinds.dvs K) (d_Endless_kinds.kws K) (He.fAd K d_Endless_kinds.at_) fd := Z.d.def_ 17 (d := d_Endless_kinds) rfl
theorem Say.D_Endless_nth (Z : Say K mg) : ∃ fd, FunD K d_Endless_nth.name d_Endless_nth.qual d_Endless_nth.params d_Endless_nth.body d_Endless_nth.scope (d_Endless_nth.dvs K) (d_Endless_nth.kws K) (He.fAd K d_Endless_nth.at_) fd := Z.d.def_ 18 (d := d_Endless_nth) rfl
theorem Say.D_law_bag (Z : Say K mg) : ∃ fd, FunD K d_law_bag.name d_law_bag.qual d_law_bag.params d_law_bag.body d_law_bag.scope (d_law_bag.dvs K) (d_law_bag.kws K) (He.fAd K d_law_bag.at_) fd := Z.d.def_ 19 (d := d_law_bag) rfl
theorem Say.D_law_take (Z : Say K mg) : ∃ fd, FunD K d_law_take.name d_law_take.qual d_law_take.params d_law_take.body d_law_take.scope (d_law_take.dvs K) (d_law_take.kws K) (He.fAd K d_law_take.at_) fd := Z.d.def_ 20 (d := d_law_take) rfl
theorem Say.D_law_alike (Z : Say K mg) : ∃ fd, FunD K d_law_alike.name d_law_alike.qual d_law_alike.params d_law_alike.body d_law_alike.scope (d_law_alike.dvs K) (d_law_alike.kws K) (He.fAd K d_law_alike.at_) fd := Z.d.def_ 21 (d := d_law_alike) rfl
theorem Say.D_law_kinds (Z : Say K mg) : ∃ fd, FunD K d_law_kinds.name d_law_kinds.qual d_law_kinds.params d_law_kinds.body d_law_kinds.scope (d_law_kinds.dvs K) (d_law_kinds.kws K) (He.fAd K d_law_kinds.at_) fd := Z.d.def_ 22 (d := d_law_kinds) rfl
theorem Say.D_law_set (Z : Say K mg) : ∃ fd, FunD K d_law_set.name d_law_set.qual d_law_set.params d_law_set.body d_law_set.scope (d_law_set.dvs K) (d_law_set.kws K) (He.fAd K d_law_set.at_) fd := Z.d.def_ 23 (d := d_law_set) rfl
theorem Say.D_law_kind (Z : Say K mg) : ∃ fd, FunD K d_law_kind.name d_law_kind.qual d_law_kind.params d_law_kind.body d_law_kind.scope (d_law_kind.dvs K) (d_law_kind.kws K) (He.fAd K d_law_kind.at_) fd := Z.d.def_ 24 (d := d_law_kind) rfl
theorem Say.D_law_spot (Z : Say K mg) : ∃ fd, FunD K d_law_spot.name d_law_spot.qual d_law_spot.params d_law_spot.body d_law_spot.scope (d_law_spot.dvs K) (d_law_spot.kws K) (He.fAd K d_law_spot.at_) fd := Z.d.def_ 25 (d := d_law_spot) rfl
theorem Say.D_law_begun (Z : Say K mg) : ∃ fd, FunD K d_law_begun.name d_law_begun.qual d_law_begun.params d_law_begun.body d_law_begun.scope (d_law_begun.dvs K) (d_law_begun.kws K) (He.fAd K d_law_begun.at_) fd := Z.d.def_ 26 (d := d_law_begun) rfl
theorem Say.D_law_taken (Z : Say K mg) : ∃ fd, FunD K d_law_taken.name d_law_taken.qual d_law_taken.params d_law_taken.body d_law_taken.scope (d_law_taken.dvs K) (d_law_taken.kws K) (He.fAd K d_law_taken.at_) fd := Z.d.def_ 27 (d := d_law_taken) rfl
theorem Say.D_law_endless (Z : Say K mg) : ∃ fd, FunD K d_law_endless.name d_law_endless.qual d_law_endless.params d_law_endless.body d_law_endless.scope (d_law_endless.dvs K) (d_law_endless.kws K) (He.fAd K d_law_endless.at_) fd := Z.d.def_ 28 (d := d_law_endless) rfl
theorem Say.D_law_race (Z : Say K mg) : ∃ fd, FunD K d_law_race.name d_law_race.qual d_law_race.params d_law_race.body d_law_race.scope (d_law_race.dvs K) (d_law_race.kws K) (He.fAd K d_law_race.at_) fd := Z.d.def_ 29 (d := d_law_race) rfl
theorem Say.D_law_is_settled (Z : Say K mg) : ∃ fd, FunD K d_law_is_settled.name d_law_is_settled.qual d_law_is_settled.params d_law_is_settled.body d_law_is_settled.scope (d_law_is_settled.dvs K) (d_law_is_settled.kws K) (He.fAd K d_law_is_settled.at_) fd := Z.d.def_ 30 (d := d_law_is_settled) rfl
theorem Say.D_law_fits (Z : Say K mg) : ∃ fd, FunD K d_law_fits.name d_law_fits.qual d_law_fits.params d_law_fits.body d_law_fits.scope (d_law_fits.dvs K) (d_law_fits.kws K) (He.fAd K d_law_fits.at_) fd := Z.d.def_ 31 (d := d_law_fits) rfl
theorem Say.D_law_more_takes (Z : Say K mg) : ∃ fd, FunD K d_law_more_takes.name d_law_more_takes.qual d_law_more_takes.params d_law_more_takes.body d_law_more_takes.scope (d_law_more_takes.dvs K) (d_law_more_takes.kws K) (He.fAd K d_law_more_takes.at_) fd := Z.d.def_ 32 (d := d_law_more_takes) rfl
theorem Say.D_law_counted (Z : Say K mg) : ∃ fd, FunD K d_law_counted.name d_law_counted.qual d_law_counted.params d_law_counted.body d_law_counted.scope (d_law_counted.dvs K) (d_law_counted.kws K) (He.fAd K d_law_counted.at_) fd := Z.d.def_ 33 (d := d_law_counted) rfl
theorem Say.D_law_grown (Z : Say K mg) : ∃ fd, FunD K d_law_grown.name d_law_grown.qual d_law_grown.params d_law_grown.body d_law_grown.scope (d_law_grown.dvs K) (d_law_grown.kws K) (He.fAd K d_law_grown.at_) fd := Z.d.def_ 34 (d := d_law_grown) rfl
theorem Say.D_law_paper (Z : Say K mg) : ∃ fd, FunD K d_law_paper.name d_law_paper.qual d_law_paper.params d_law_paper.body d_law_paper.scope (d_law_paper.dvs K) (d_law_paper.kws K) (He.fAd K d_law_paper.at_) fd := Z.d.def_ 35 (d := d_law_paper) rfl
theorem Say.D_law_wide_scene (Z : Say K mg) : ∃ fd, FunD K d_law_wide_scene.name d_law_wide_scene.qual d_law_wide_scene.params d_law_wide_scene.body d_law_wide_scene.scope (d_law_wide_scene.dvs K) (d_law_wide_scene.kws K) (He.fAd K d_law_wide_scene.at_) fd := Z.d.def_ 36 (d := d_law_wide_scene) rfl
theorem Say.D_law_slow_scene (Z : Say K mg) : ∃ fd, FunD K d_law_slow_scene.name d_law_slow_scene.qual d_law_slow_scene.params d_law_slow_scene.body d_law_slow_scene.scope (d_law_slow_scene.dvs K) (d_law_slow_scene.kws K) (He.fAd K d_law_slow_scene.at_) fd := Z.d.def_ 37 (d := d_law_slow_scene) rfl
theorem Say.D_law_told (Z : Say K mg) : ∃ fd, FunD K d_law_told.name d_law_told.qual d_law_told.params d_law_told.body d_law_told.scope (d_law_told.dvs K) (d_law_told.kws K) (He.fAd K d_law_told.at_) fd := Z.d.def_ 38 (d := d_law_told) rfl
theorem Say.D_law_far_right (Z : Say K mg) : ∃ fd, FunD K d_law_far_right.name d_law_far_right.qual d_law_far_right.params d_law_far_right.body d_law_far_right.scope (d_law_far_right.dvs K) (d_law_far_right.kws K) (He.fAd K d_law_far_right.at_) fd := Z.d.def_ 39 (d := d_law_far_right) rfl
theorem Say.D_law_longest_right (Z : Say K mg) : ∃ fd, FunD K d_law_longest_right.name d_law_longest_right.qual d_law_longest_right.params d_law_longest_right.body d_law_longest_right.scope (d_law_longest_right.dvs K) (d_law_longest_right.kws K) (He.fAd K d_law_longest_right.at_) fd := Z.d.def_ 40 (d := d_law_longest_right) rfl
theorem Say.D_law_slow_right (Z : Say K mg) : ∃ fd, FunD K d_law_slow_right.name d_law_slow_right.qual d_law_slow_right.params d_law_slow_right.body d_law_slow_right.scope (d_law_slow_right.dvs K) (d_law_slow_right.kws K) (He.fAd K d_law_slow_right.at_) fd := Z.d.def_ 41 (d := d_law_slow_right) rfl
theorem Say.D_law (Z : Say K mg) : ∃ fd, FunD K d_law.name d_law.qual d_law.params d_law.body d_law.scope (d_law.dvs K) (d_law.kws K) (He.fAd K d_law.at_) fd := Z.d.def_ 42 (d := d_law) rfl
end
end Ku

/-! KuA1 -/
set_option Elab.async false
set_option linter.all false
set_option maxRecDepth 100000
set_option maxHeartbeats 4000000
namespace Ku
open PySem PySem.Spec PyProof.Rows L2
section
variable {P : Program} {w : World} {K : PySem.W.Frag} {mg : Str → Option Value} {base : Heap}

theorem getD_of {α : Type} {l : List α} {i : Nat} {x : α} (h : l[i]? = some x) : l.reverse[l.length - 1 - i]? = some x := by
  obtain ⟨hl, e⟩ := List.getElem?_eq_some_iff.mp h
  rw [List.getElem?_reverse (by omega)]
  rw [show l.length - 1 - (l.length - 1 - i) = i by omega]
  exact h
theorem rev_get {α : Type} {l : List α} {i : Nat} {x : α} (h : l.reverse[i]? = some x) : l[l.length - 1 - i]? = some x := by
  have q := getD_of h
  rw [List.reverse_reverse, List.length_reverse] at q
  exact q

/-! ### _law_kind -/
def spKind (K : PySem.W.Frag) : Sp := fun vs H Q _ => ∃ (a b : Addr) (B R : List Str) (n : Nat) (k : Str), vs = [.ref a, .ref b, .int n] ∧ SqL K H a (B.map V.str) ∧ SqL K H b (R.map V.str) ∧ KM.kindAt B R n = some k ∧ Q (.str k) H
theorem sc_law_kind : FnScope ["_law_block", "_law_recent", "_law_number"] ["_law_block", "_law_recent", "_law_number"] (defScope s_law_kind) := fnScope_dec (by decide +kernel)
theorem cal_law_kind (Z : Say K mg) : Cal P w K mg base 1 "_law_kind" (spKind K) := by
  obtain ⟨fd, F⟩ := Z.D_law_kind
  refine ⟨_, fd, ["_law_block", "_law_recent", "_law_number"], fn_ok F sc_law_kind (fun vs H Q E h => ?_) (fun cdv A outer s H vs Q E hr h => ?_), Z.g_law_kind, F.kp, F.bindsN fun _ _ _ _ _ _ us hl => match us, hl with | [_, _, _], _ => rfl⟩
  · obtain ⟨a, b, B, R, n, k, rfl, _⟩ := h
    rfl
  · obtain ⟨a, b, B, R, n, k, rfl, hB, hR, hk, q⟩ := h
    refine ⟨_, pss_cons (ps_if (pt_cmpR op_lt (pv 2) (pe_callB call_len_seq rfl Z.f_len boot_len (pa_cons (pv 1) pa_nil)) (nomark _))
        (pss_one (ps_ret (pe_ix ix_list (pv 1) (pe_op op_sub (pe_op op_sub (pe_callB call_len_seq rfl Z.f_len boot_len (pa_cons (pv 1) pa_nil)) pe_int) (pv 2)) (fun _ _ => rfl)))) pss_nil)
      (pss_one (ps_ret (pe_ix ix_list (pv 0) (pe_op op_sub (pe_op op_sub (pe_callB call_len_seq rfl Z.f_len boot_len (pa_cons (pv 0) pa_nil)) pe_int)
        (pe_op op_mod (pe_op op_sub (pv 2) (pe_callB call_len_seq rfl Z.f_len boot_len (pa_cons (pv 1) pa_nil))) (pe_callB call_len_seq rfl Z.f_len boot_len (pa_cons (pv 0) pa_nil)))) (fun _ _ => rfl)))), ?_⟩
    refine ⟨_, rfl, _, rfl, b, _, rfl, .inl hR, _, _, rfl, rfl, _, rfl, ?_⟩
    rw [List.length_map]
    refine ite2 (fun c => ?_) (fun c => ?_)
    · have c : (n : Int) < (R.length : Int) := of_decide_eq_true c
      have hk : R.reverse[n]? = some k := by
        unfold KM.kindAt at hk
        rw [if_pos (by omega)] at hk
        exact hk
      refine ⟨_, rfl, _, rfl, b, _, rfl, .inl hR, _, _, rfl, rfl, _, rfl, _, _, rfl, rfl, b, _, _, .str k, rfl, rfl, hR, ?_, q⟩
      refine at_of (j := R.length - 1 - n) ?_ ?_
      · rw [List.length_map]; omega
      · rw [List.getElem?_map, rev_get hk]; rfl
    · have c : ¬ (n : Int) < (R.length : Int) := fun z => c (decide_eq_true z)
      have hk : B.reverse[(n - R.length) % B.length]? = some k := by
        unfold KM.kindAt at hk
        rw [if_neg (by omega)] at hk
        exact hk
      have hb : 0 < B.length := by
        have := (List.getElem?_eq_some_iff.mp hk).1
        rw [List.length_reverse] at this
        omega
      have e : ((n : Int) - (R.length : Int)) % (B.length : Int) = (((n - R.length) % B.length : Nat) : Int) := by
        rw [show (n : Int) - (R.length : Int) = ((n - R.length : Nat) : Int) by omega]
        exact (Int.natCast_emod _ _).symm
      refine ⟨_, rfl, _, rfl, a, _, rfl, .inl hB, _, _, rfl, rfl, _, rfl, _, rfl, b, _, rfl, .inl hR, _, _, rfl, rfl, _, rfl, a, _, rfl, .inl hB, _, _, rfl, rfl, ?_, _, _, rfl, rfl, a, _, _, .str k, rfl, rfl, hB, ?_, q⟩
      · show (0 : Int) < (((B.map V.str).length : Nat) : Int)
        rw [List.length_map]; omega
      · refine at_of (j := B.length - 1 - (n - R.length) % B.length) ?_ ?_
        · rw [List.length_map, List.length_map, e]
          have := Nat.mod_lt (n - R.length) hb
          omega
        · rw [List.getElem?_map, rev_get hk]; rfl

/-! ### _law_spot -/
/-- a place, or none -/
def ov : Option Nat → V
  | none => .non
  | some p => .int (p : Nat)
def spSpot (K : PySem.W.Frag) : Sp := fun vs H Q _ => ∃ (a b : Addr) (B R : List Str) (k : Str) (n : Nat), vs = [.ref a, .ref b, .str k, .int n] ∧ SqL K H a (B.map V.str) ∧ SqL K H b (R.map V.str) ∧ B ≠ [] ∧ (B.length ≤ 1000 ∧ R.length ≤ 1000 ∧ n ≤ 2 ^ 60) ∧ Q (ov (KM.spot B R k n)) H
theorem sc_law_spot : FnScope ["_law_block", "_law_recent", "_law_kind_here", "_law_start", "_law_number"] ["_law_block", "_law_recent", "_law_kind_here", "_law_start"] (defScope s_law_spot) := fnScope_dec (by decide +kernel)
theorem cal_law_spot (Z : Say K mg) : Cal P w K mg base 2 "_law_spot" (spSpot K) := by
  obtain ⟨fd, F⟩ := Z.D_law_spot
  have cK : Cal P w K mg base 1 "_law_kind" (spKind K) := cal_law_kind Z
  refine ⟨_, fd, ["_law_block", "_law_recent", "_law_kind_here", "_law_start"], fn_ok F sc_law_spot (fun vs H Q E h => ?_) (fun cdv A outer s H vs Q E hr h => ?_), Z.g_law_spot, F.kp, F.bindsN fun _ _ _ _ _ _ us hl => match us, hl with | [_, _, _, _], _ => rfl⟩
  · obtain ⟨a, b, B, R, k, n, rfl, _⟩ := h
    rfl
  · obtain ⟨a, b, B, R, k, n, rfl, hB, hR, hne, ⟨z1, z2, z3⟩, q⟩ := h
    refine ⟨_, pss_cons (ps_for PassesOwn.never rfl (pi_range2 (by rfl) Z.f_range (pa_cons (pv 3) (pa_cons (pe_op op_add (pe_callB (call_max2 rfl) rfl Z.f_max boot_max (pa_cons (pv 3) (pa_cons (pe_callB call_len_seq rfl Z.f_len boot_len (pa_cons (pv 1) pa_nil)) pa_nil)))
            (pe_callB call_len_seq rfl Z.f_len boot_len (pa_cons (pv 0) pa_nil))) pa_nil))) (pg_name (i := 4) sc_law_spot.nd rfl (Or.inl rfl))
        (pss_one (ps_if (pt_cmpR op_eq (pe_c cK hr (by decide) rfl (pa_cons (pv 0) (pa_cons (pv 1) (pa_cons (pv 4) pa_nil)))) (pv 2) (nomark _)) (pss_one (ps_ret (pv 4))) pss_nil)))
      (pss_one (ps_ret pe_non)), ?_⟩
    refine ⟨_, rfl, _, rfl, _, rfl, b, _, rfl, .inl hR, _, _, rfl, ?_⟩
    refine ⟨_, rfl, a, _, rfl, .inl hB, _, _, rfl, rfl, _, _, rfl, ?_⟩
    rw [List.length_map, List.length_map]
    generalize hi : (if ((R.length : Nat) : Int) > (n : Int) then ((R.length : Nat) : Int) else (n : Int)) + ((B.length : Nat) : Int) = hi'
    have hv : hi' = ((max n R.length + B.length : Nat) : Int) := by
      rw [← hi]
      by_cases c : ((R.length : Nat) : Int) > (n : Int)
      · rw [if_pos c]; omega
      · rw [if_neg c]; omega
    have hm : (hi' - (n : Int)).toNat = max n R.length + B.length - n := by omega
    refine ⟨by omega, ?_⟩
    rw [hm]
    refine for_range (lo := (n : Int)) (n := max n R.length + B.length - n) (fun i σ H' => H' = H ∧ (∃ v, σ = [some (.ref a), some (.ref b), some (.str k), some (.int n), v]) ∧ ∀ j, j < i → KM.kindAt B R (n + j) ≠ some k)
      ⟨rfl, ⟨none, rfl⟩, fun j hj => absurd hj (Nat.not_lt_zero _)⟩ ?_ ?_
    · rintro i σ H' hi ⟨rfl, ⟨v, rfl⟩, hno⟩
      obtain ⟨kk, hkk⟩ := KM.kindAt_some (R := R) hne (n + i)
      refine ⟨_, rfl, _, rfl, _, rfl, a, b, B, R, n + i, kk, rfl, hB, hR, hkk, _, rfl, rfl, _, rfl, ?_⟩
      refine ite2 (fun c => ?_) (fun c => ?_)
      · have c : V.str kk = V.str k := of_decide_eq_true c
        cases c
        refine ⟨_, rfl, ?_⟩
        have e : KM.spot B R k n = some (n + i) := KM.spotIn_hit hkk hi hno
        rw [e] at q
        exact q
      · refine ⟨rfl, ⟨_, rfl⟩, fun j hj => ?_⟩
        by_cases e : j = i
        · subst e
          rw [hkk]
          intro z
          cases z
          exact c (decide_eq_true rfl)
        · exact hno j (by omega)
    · rintro σ H' ⟨rfl, ⟨v, rfl⟩, hno⟩
      have e : KM.spot B R k n = none := KM.spotIn_miss hno
      rw [e] at q
      exact q
end
end Ku

/-! KuA2 -/
set_option Elab.async false
set_option linter.all false
set_option maxRecDepth 100000
set_option maxHeartbeats 4000000
namespace Ku
open PySem PySem.Spec PyProof.Rows L2
section
variable {X : Cx}
/-- xs[i], i from 0 on, by values: for xs[i] op= e -/
def rGetL (K : PySem.W.Frag) : V → V → Hp → VK → Prop := fun x y H Q => ∃ p xs j v, x = .ref p ∧ y = .int (j : Nat) ∧ SqL K H p xs ∧ xs[j]? = some v ∧ Q v H
theorem pget_list : PGet X (rGetL X.K) := by
  intro pins s σ H o i ov iv Q I ro ri h
  obtain ⟨p, xs, j, z, rfl, rfl, hq, he, q⟩ := h
  cases ro
  obtain ⟨t, rfl⟩ := ri
  obtain ⟨its, r, pl, hz⟩ := I.list hq
  obtain ⟨u, eu, ru⟩ := r.get he
  have hl := r.length
  have hj : j < xs.length := (List.getElem?_eq_some_iff.mp he).1
  have hn := line63
  refine wpAny_getItem_list pl.isList (by omega) (by omega) ?_ ⟨z, H, I, ru, q⟩
  simpa using eu
end
section
variable {P : Program} {w : World} {K : PySem.W.Frag} {mg : Str → Option Value} {base : Heap}
/-! ### _law_take -/
/-- the bag at b, over what else is known; G: where its cells stand, the cells -/
structure Bag (G : Addr × List Int) (H0 H : Hp) (b : Addr) : Prop where
  le : Same H0 H
  no : H0 b = none
  cl : H0 G.1 = some (.lst (G.2.map V.int))
  nn : ∀ i ∈ G.2, 0 ≤ i
  at_ : ∃ (x y z : Int), H b = some (.lst [.int x, .int y, .int z, .ref G.1]) ∧ 0 ≤ x ∧ (0 ≤ y ∧ y < 2147483647) ∧ 0 ≤ z
section
variable {G : Addr × List Int} {H0 H1 H H' : Hp} {b a p : Addr} {o : HO}
theorem Bag.hide (B : Bag G H0 H b) : Bag G (hide b H) H b :=
  ⟨hide_le, hide_same, hide_at (ne_of_none B.cl B.no) (B.le _ _ B.cl), B.nn, B.at_⟩
theorem Bag.low (B : Bag G H1 H b) (e : Same H0 H1) (c : H0 G.1 = some (.lst (G.2.map V.int))) : Bag G H0 H b :=
  ⟨e.trans B.le, e.free B.no, c, B.nn, B.at_⟩
/-- behind a call that was told all but the bag -/
theorem Bag.back (B : Bag G H0 H b) (B' : Bag G (Ku.hide b H) H' b) : Bag G H0 H' b := B'.low (hide_of B.le B.no) B.cl
theorem Bag.ne (B : Bag G H0 H b) (h : H0 a = some o) : a ≠ b := ne_of_none h B.no
theorem Bag.there (B : Bag G H0 H b) : ∃ o, H b = some o := by
  obtain ⟨x, y, z, h, _⟩ := B.at_
  exact ⟨_, h⟩
theorem Bag.keep (B' : Bag G (Ku.hide b H) H' b) (h : H a = some o) (n : a ≠ b) : H' a = some o := B'.le _ _ (hide_at n h)
/-- something new, unknown below -/
theorem Bag.new (B : Bag G H0 H b) (h : H p = none) : Bag G H0 (upd H p o) b := by
  obtain ⟨x, y, z, hb, h2⟩ := B.at_
  exact ⟨B.le.trans (Same.new h), B.no, B.cl, B.nn, x, y, z, by rw [upd_ne (ne_of_none hb h)]; exact hb, h2⟩
/-- something new, known from now on -/
theorem Bag.know (B : Bag G H0 H b) (h : H p = none) : Bag G (upd H0 p o) (upd H p o) b := by
  obtain ⟨x, y, z, hb, h2⟩ := B.at_
  have nb := ne_of_none hb h
  exact ⟨Same.both B.le, by rw [upd_ne nb]; exact B.no, by rw [upd_ne (ne_of_none (B.le _ _ B.cl) h)]; exact B.cl, B.nn, x, y, z, by rw [upd_ne nb]; exact hb, h2⟩
/-- something else, unknown below, changes -/
theorem Bag.mut (B : Bag G H0 H b) (h : H0 p = none) (n : p ≠ b) : Bag G H0 (upd H p o) b := by
  obtain ⟨x, y, z, hb, h2⟩ := B.at_
  exact ⟨Same.mut B.le h, B.no, B.cl, B.nn, x, y, z, by rw [upd_ne (Ne.symm n)]; exact hb, h2⟩
theorem Bag.neS (B : Bag G H0 H b) {l : List Str} (h : H a = some (.lst (l.map V.str))) : a ≠ b := fun e => by
  obtain ⟨x, y, z, hb, _⟩ := B.at_
  rw [e, hb] at h
  cases l with
  | nil => cases h
  | cons k r => cases h
theorem Bag.neR (B : Bag G H0 H b) {l : List Addr} (h : H a = some (.lst (l.map V.ref))) : a ≠ b := fun e => by
  obtain ⟨x, y, z, hb, _⟩ := B.at_
  rw [e, hb] at h
  cases l with
  | nil => cases h
  | cons k r => cases h
theorem Bag.neT (B : Bag G H0 H b) {l : List V} (h : H a = some (.tup l)) : a ≠ b := fun e => by
  obtain ⟨x, y, z, hb, _⟩ := B.at_
  rw [e, hb] at h
  cases h
/-- more is known -/
theorem Bag.more (B : Bag G H0 H b) (e0 : Same H0 H1) (e1 : Same H1 H) (n : H1 b = none) : Bag G H1 H b := ⟨e1, n, e0 _ _ B.cl, B.nn, B.at_⟩
end
def spTake : Sp := fun vs H Q _ => ∃ (G : Addr × List Int) (H0 : Hp) (b : Addr) (m : Int), vs = [.ref b, .int m] ∧ Bag G H0 H b ∧ 0 < m ∧ m < 1073741824 ∧ ∀ (v : Int) (H' : Hp), 0 ≤ v → v < m → Bag G H0 H' b → Q (.int v) H'
theorem sc_law_take : FnScope ["_law_bag_here", "_law_many", "_law_cell", "_law_value", "_law_begin", "_law_second"] ["_law_bag_here", "_law_many"] (defScope s_law_take) := fnScope_dec (by decide +kernel)
theorem cal_law_take (Z : Say K mg) : Cal P w K mg base 1 "_law_take" spTake := by
  obtain ⟨fd, F⟩ := Z.D_law_take
  refine ⟨_, fd, ["_law_bag_here", "_law_many"], fn_ok F sc_law_take (fun vs H Q E h => ?_) (fun cdv A outer s H vs Q E hr h => ?_), Z.g_law_take, F.kp, F.bindsN fun _ _ _ _ _ _ us hl => match us, hl with | [_, _], _ => rfl⟩
  · obtain ⟨G, H0, b, m, rfl, _⟩ := h
    rfl
  · obtain ⟨G, H0, b, m, rfl, hB, m0, m1, q⟩ := h
    have nd := sc_law_take.nd
    refine ⟨_, Evl.pss_cut (ps_if (pt_cmpR op_eq (pe_ix ix_list (pv 0) pe_int (fun _ _ => rfl)) pe_int (nomark _))
        (pss_cons (ps_set (i := 2) nd rfl (Or.inl rfl) pe_int)
        (Evl.pss_cut (ps_if (pt_cmpR op_lt (pe_ix ix_list (pv 0) pe_int (fun _ _ => rfl)) (pe_callB call_len_seq rfl Z.f_len boot_len (pa_cons (pe_ix ix_list (pv 0) pe_int (fun _ _ => rfl)) pa_nil)) (nomark _))
            (pss_one (ps_set (i := 2) nd rfl (Or.inl rfl) (pe_ix ix_list (pe_ix ix_list (pv 0) pe_int (fun _ _ => rfl)) (pe_ix ix_list (pv 0) pe_int (fun _ _ => rfl)) (fun _ _ => rfl)))) pss_nil)
        (pss_cons (ps_augS (pv 0) pe_int pget_list pe_int ip_add set_list)
        (Evl.pss_cut (ps_if (pt_cmpR op_ge (pv 2) pe_int (nomark _)) (pss_one (ps_asg (pv 2) (pg_sub (pv 0) pe_int set_list))) pss_nil)
        (pss_one (ps_asg (pe_op op_mod (pe_op op_add (pe_op op_add (pe_op op_mul (pe_ix ix_list (pv 0) pe_int (fun _ _ => rfl)) pe_int) (pe_op op_mod (pv 2) pe_int)) (pe_op op_mul pe_int (pe_ix ix_list (pv 0) pe_int (fun _ _ => rfl)))) pe_int) (pg_sub (pv 0) pe_int set_list)))))))
        pss_nil)
      (pss_cons (ps_if (pt_cmpR op_gt (pe_ix ix_list (pv 0) pe_int (fun _ _ => rfl)) pe_int (nomark _))
        (pss_cons (ps_set (i := 3) nd rfl (Or.inl rfl) (pe_op op_mod (pe_ix ix_list (pv 0) pe_int (fun _ _ => rfl)) (pv 1)))
        (pss_cons (ps_asg (pe_op op_fdiv (pe_ix ix_list (pv 0) pe_int (fun _ _ => rfl)) (pv 1)) (pg_sub (pv 0) pe_int set_list))
        (pss_one (ps_ret (pv 3))))) pss_nil)
      (pss_cons (ps_set (i := 4) nd rfl (Or.inl rfl) (pe_op op_mod (pe_op op_mul (pe_op op_add (pe_ix ix_list (pv 0) pe_int (fun _ _ => rfl)) pe_int) pe_int) pe_int))
      (pss_cons (ps_set (i := 5) nd rfl (Or.inl rfl) (pe_op op_mod (pe_op op_mul (pe_op op_mod (pe_op op_mul (pv 4) (pv 4)) pe_int) pe_int) pe_int))
      (pss_cons (ps_if (pt_cmpR op_gt (pv 1) pe_int (nomark _)) (pss_one (ps_ret (pe_op op_mod (pe_op op_add (pe_op op_mul (pv 5) pe_int) (pv 4)) (pv 1)))) pss_nil)
      (pss_one (ps_ret (pe_op op_mod (pe_op op_fdiv (pv 5) pe_int) (pv 1)))))))), ?_⟩
    obtain ⟨x, y, z, hb, x0, y0, z0⟩ := hB.at_
    obtain ⟨c, cells⟩ := G
    have hc : H0 c = some (.lst (cells.map V.int)) := hB.cl
    have hcs : ∀ i ∈ cells, 0 ≤ i := hB.nn
    have key : ∀ (v x y z : Int), upd H b (.lst [.int x, .int y, .int z, .ref c]) b = some (.lst [.int x, .int y, .int z, .ref c]) := fun _ _ _ _ => upd_same
    -- behind the draw of a cell
    refine ⟨fun σ H' => (∃ v2 : Option V, σ = [some (.ref b), some (.int m), v2, none, none, none]) ∧ Bag (c, cells) H0 H' b, ?_, ?_⟩
    · refine ⟨_, rfl, b, _, 0, .int x, rfl, rfl, SqL.of hb, rfl, rfl, _, rfl, ?_⟩
      refine ite2 (fun c0 => ?_) (fun c0 => ⟨⟨none, rfl⟩, hB⟩)
      -- cell = 0; a cell of the script's, if there is one more
      refine ⟨fun σ H' => H' = H ∧ ∃ ce : Int, 0 ≤ ce ∧ σ = [some (.ref b), some (.int m), some (.int ce), none, none, none], ?_, ?_⟩
      · refine ⟨_, rfl, b, _, 2, .int z, rfl, rfl, SqL.of hb, rfl, _, rfl, b, _, 3, .ref c, rfl, rfl, SqL.of hb, rfl, c, _, rfl, .inl (SqL.of (hB.le _ _ hc)), _, _, rfl, rfl, _, rfl, ?_⟩
        refine ite2 (fun c1 => ?_) (fun c1 => ⟨rfl, 0, Int.le_refl 0, rfl⟩)
        have c1 : z < (((cells.map V.int).length : Nat) : Int) := of_decide_eq_true c1
        rw [List.length_map] at c1
        have hz : z.toNat < cells.length := by omega
        have e1 : cells[z.toNat]? = some cells[z.toNat] := List.getElem?_eq_getElem hz
        refine ⟨_, rfl, b, _, 3, .ref c, rfl, rfl, SqL.of hb, rfl, _, rfl, b, _, 2, .int z, rfl, rfl, SqL.of hb, rfl, c, _, z, .int cells[z.toNat], rfl, rfl, SqL.of (hB.le _ _ hc), ?_, ?_⟩
        · refine at_of (j := z.toNat) (by omega) ?_
          rw [List.getElem?_map, e1]; rfl
        · exact ⟨rfl, _, hcs _ (List.getElem_mem hz), rfl⟩
      rintro σ H' ⟨rfl, ce, hce, rfl⟩
      -- bag[2] += 1
      refine ⟨_, rfl, b, _, 2, _, rfl, rfl, SqL.of hb, rfl, _, _, rfl, rfl, b, _, 2, 2, rfl, rfl, hb, rfl, ?_⟩
      -- if cell >= 10 ** 18: bag[0] = cell
      refine ⟨fun σ H'' => σ = [some (.ref b), some (.int m), some (.int ce), none, none, none] ∧ ∃ x' : Int, 0 ≤ x' ∧ H'' = upd H' b (.lst [.int x', .int y, .int (z + 1), .ref c]), ?_, ?_⟩
      · refine ⟨_, rfl, _, _, rfl, rfl, _, rfl, ?_⟩
        refine ite2 (fun c2 => ?_) (fun c2 => ⟨rfl, x, x0, rfl⟩)
        refine ⟨_, rfl, _, rfl, b, _, 0, 0, rfl, rfl, upd_same, rfl, ?_⟩
        exact ⟨rfl, ce, hce, upd_upd⟩
      rintro σ H'' ⟨rfl, x', hx', rfl⟩
      have hb2 : ∀ o, upd H' b o b = some o := fun _ => upd_same
      refine ⟨_, rfl, b, _, 1, .int y, rfl, rfl, SqL.of (hb2 _), rfl, _, _, rfl, rfl, .inr ⟨by decide, by decide⟩, _, rfl, _, _, rfl, rfl, (by show (0 : Int) < 2147483647; decide), _, _, rfl, rfl, _, rfl, b, _, 2, .int (z + 1), rfl, rfl, SqL.of (hb2 _), rfl, _, _, rfl, rfl, .inl ⟨by decide, by decide⟩,
        _, _, rfl, rfl, _, _, rfl, rfl, (by show (0 : Int) < 2147483647; decide), _, rfl, b, _, 1, 1, rfl, rfl, hb2 _, rfl, ?_⟩
      refine ⟨⟨_, rfl⟩, ⟨?_, hB.no, hc, hcs, x', _, z + 1, Eq.trans (congrFun upd_upd b) upd_same, hx', ⟨Int.emod_nonneg _ (by decide), Int.emod_lt_of_pos _ (by decide)⟩, by omega⟩⟩
      rw [upd_upd]
      exact Same.mut hB.le hB.no
    · rintro σ H' ⟨⟨v2, rfl⟩, hB'⟩
      obtain ⟨x, y, z, hb, x0, y0, z0⟩ := hB'.at_
      refine ⟨_, rfl, b, _, 0, .int x, rfl, rfl, SqL.of hb, rfl, _, _, rfl, rfl, _, rfl, ?_⟩
      refine ite2 (fun c0 => ?_) (fun c0 => ?_)
      · refine ⟨_, rfl, b, _, 0, .int x, rfl, rfl, SqL.of hb, rfl, _, rfl, _, _, rfl, rfl, m0, ?_⟩
        refine ⟨_, rfl, b, _, 0, .int x, rfl, rfl, SqL.of hb, rfl, _, rfl, _, _, rfl, rfl, ⟨m0, m1⟩, _, rfl, b, _, 0, 0, rfl, rfl, hb, rfl, _, rfl, ?_⟩
        refine q _ _ (Int.emod_nonneg _ (by omega)) (Int.emod_lt_of_pos _ m0) ⟨Same.mut hB'.le hB'.no, hB'.no, hc, hcs, _, y, z, upd_same, Int.ediv_nonneg x0 (by omega), y0, z0⟩
      · have m2 : 0 ≤ (y + 1) * 39373 % 1000000007 ∧ (y + 1) * 39373 % 1000000007 < 1000000007 := ⟨Int.emod_nonneg _ (by decide), Int.emod_lt_of_pos _ (by decide)⟩
        refine ⟨_, rfl, b, _, 1, .int y, rfl, rfl, SqL.of hb, rfl, _, _, rfl, rfl, _, _, rfl, rfl, .inr ⟨by decide, by decide⟩, _, _, rfl, rfl, (by show (0 : Int) < 1000000007; decide), ?_⟩
        generalize (y + 1) * 39373 % 1000000007 = be at m2
        refine ⟨_, rfl, _, rfl, _, _, rfl, rfl, .inl ⟨by omega, by omega⟩, _, _, rfl, rfl, (by show (0 : Int) < 998244353; decide), _, _, rfl, rfl, .inr ⟨by decide, by decide⟩, _, _, rfl, rfl, (by show (0 : Int) < 998244353; decide), ?_⟩
        refine ⟨_, rfl, _, _, rfl, rfl, _, rfl, ?_⟩
        refine ite2 (fun c1 => ?_) (fun c1 => ?_)
        · refine ⟨_, rfl, _, _, rfl, rfl, .inr ⟨by decide, by decide⟩, _, rfl, _, _, rfl, rfl, _, rfl, _, _, rfl, rfl, m0, ?_⟩
          exact q _ _ (Int.emod_nonneg _ (by omega)) (Int.emod_lt_of_pos _ m0) hB'
        · refine ⟨_, rfl, _, _, rfl, rfl, ⟨by decide, by decide⟩, _, rfl, _, _, rfl, rfl, m0, ?_⟩
          exact q _ _ (Int.emod_nonneg _ (by omega)) (Int.emod_lt_of_pos _ m0) hB'
end
end Ku

/-! KuA3 -/
set_option Elab.async false
set_option linter.all false
set_option maxRecDepth 100000
set_option maxHeartbeats 4000000
namespace Ku
open PySem PySem.Spec PyProof.Rows L2
section
variable {X : Cx}
/-- a short text times a whole number -/
theorem op_mulS : OpR X (binaryOp .Mult) (fun x y H Q => ∃ (z : Str) (i : Int), x = .str z ∧ y = .int i ∧ z.length ≤ 16 ∧ 0 ≤ i ∧ i ≤ 1000 ∧ Q (.str (Txt.mul z i)) H) := by
  intro pins s σ H x y v u Q I rx ry h
  obtain ⟨z, i, rfl, rfl, hz, h0, h1, q⟩ := h
  obtain ⟨t, rfl⟩ := rx
  obtain ⟨t', rfl⟩ := ry
  exact PySem.W.KXi.mul rfl hz (by omega) (by omega) fun tk k _ _ => ⟨.str _, H, I.tok _, ⟨_, rfl⟩, q⟩
end
section
variable {P : Program} {w : World} {K : PySem.W.Frag} {mg : Str → Option Value} {base : Heap}
/-! ### _law_bag -/
def spBag (K : PySem.W.Frag) : Sp := fun vs H Q _ => ∃ (a : Addr) (ns : List Int), vs = [.ref a] ∧ SqL K H a (ns.map V.int) ∧ ns.length ≤ 1000 ∧ ∀ (G : Addr × List Int) (b : Addr) (H1 H' : Hp), Same H H1 → Bag G H1 H' b → Q (.ref b) H'
theorem sc_law_bag : FnScope ["_law_script", "_law_cell"] ["_law_script"] (defScope s_law_bag) := fnScope_dec (by decide +kernel)
theorem cal_law_bag (Z : Say K mg) : Cal P w K mg base 1 "_law_bag" (spBag K) := by
  obtain ⟨fd, F⟩ := Z.D_law_bag
  refine ⟨_, fd, ["_law_script"], fn_ok F sc_law_bag (fun vs H Q E h => ?_) (fun cdv A outer s H vs Q E hr h => ?_), Z.g_law_bag, F.kp, F.bindsN fun _ _ _ _ _ _ us hl => match us, hl with | [_], _ => rfl⟩
  · obtain ⟨a, ns, rfl, _⟩ := h
    rfl
  · obtain ⟨a, ns, rfl, hS, hl, q⟩ := h
    have nd := sc_law_bag.nd
    refine ⟨_, pss_one (ps_ret (pe_lst (pa_cons pe_int (pa_cons pe_int (pa_cons pe_int (pa_cons
      (pe_lc (own := [("_law_cell", 1)]) (g := gName 1) (tt := tYes) rfl nd (pi_list (pe_slice sl_list (pv 0) po_none (po_some pe_int))) (blkOk_by (N := ["_law_script", "_law_cell"]) (sc := defScope s_law_bag) (by decide +kernel))
        (fun _ _ _ _ _ => pg_name (i := 1) nd rfl (Or.inl rfl)) (fun _ _ _ _ _ => pts_nil) (fun _ _ _ _ _ => pe_callB call_abs rfl Z.f_abs (by decide +kernel) (pa_cons (pv 1) pa_nil))) pa_nil)))))), ?_⟩
    refine ⟨_, rfl, 63, rfl, a, _, rfl, hS, fun p hp => ?_⟩
    have e : cutV (ns.map V.int) none (some 63) = ((ns.drop (HT.sIx (ns.map V.int).length 0 none)).take (HT.sIx (ns.map V.int).length (ns.map V.int).length (some 63) - HT.sIx (ns.map V.int).length 0 none)).map V.int := by
      unfold cutV
      rw [List.map_take, List.map_drop]
    rw [e]
    generalize hms : ((ns.drop (HT.sIx (ns.map V.int).length 0 none)).take (HT.sIx (ns.map V.int).length (ns.map V.int).length (some 63) - HT.sIx (ns.map V.int).length 0 none)) = ms
    have hm : ms.length ≤ 1000 := by
      rw [← hms, List.length_take, List.length_drop]
      omega
    refine ⟨p, rfl, ⟨_, SqL.of upd_same⟩, fun D hD => ?_⟩
    have npD : p ≠ D := ne_of_none upd_same hD
    refine lc_list (K := K) (a := p) (xs := ms.map V.int) (fun i H' => Same H H' ∧ H' p = some (.lst (ms.map V.int)) ∧ H D = none ∧ ∃ cells : List Int, cells.length = i ∧ (∀ c ∈ cells, 0 ≤ c) ∧ H' D = some (.lst (cells.map V.int)))
      ⟨(Same.new hp).trans (Same.new hD), by rw [upd_ne npD, upd_same], Same.free (Same.new hp) hD, [], rfl, (fun c hc => by cases hc), upd_same⟩ (fun i H' _ h => SqL.of h.2.1) ?_ ?_
    · rintro i x H' hx ⟨s1, hp1, hD1, cells, hc1, hc2, hc3⟩
      obtain ⟨z, rfl⟩ : ∃ z, x = V.int z := by
        rw [List.getElem?_map] at hx
        obtain ⟨z, _, e⟩ := Option.map_eq_some_iff.mp hx
        exact ⟨z, e.symm⟩
      have hi : i < ms.length := by
        have := (List.getElem?_eq_some_iff.mp hx).1
        rwa [List.length_map] at this
      refine ⟨rfl, _, rfl, _, rfl, _, hc3, ?_, ?_⟩
      · rw [List.length_map]; exact small1000 (by omega)
      refine ⟨Same.mut s1 hD1, by rw [upd_ne npD]; exact hp1, hD1, cells ++ [if z < 0 then -z else z], by rw [List.length_append, hc1]; rfl, fun c hc => ?_, ?_⟩
      · rcases List.mem_append.mp hc with hc | hc
        · exact hc2 c hc
        · rw [List.mem_singleton.mp hc]
          by_cases hz : z < 0
          · rw [if_pos hz]; omega
          · rw [if_neg hz]; omega
      · rw [upd_same, List.map_append]; rfl
    · rintro H' ⟨s1, hp1, hD1, cells, hc1, hc2, hc3⟩
      refine ⟨by show 4 ≤ sizeLine; decide, fun l hl2 => ?_⟩
      refine q (D, cells) l H' _ s1 ⟨Same.new hl2, hl2, hc3, hc2, 0, 1234567891, 0, upd_same, Int.le_refl 0, ⟨by decide, by decide⟩, Int.le_refl 0⟩
end
end Ku

/-! KuL -/
set_option Elab.async false
set_option linter.all false
set_option maxRecDepth 100000
set_option maxHeartbeats 4000000
namespace Ku
open PySem PySem.Spec PyProof.Rows L2
/-! ### rules that name the written part -/
section
variable {X : Cx}
theorem ixL (K : PySem.W.Frag) (h : X.K = K := by rfl) : IxR X (rIxL K) := by subst h; exact ix_list
theorem ixT (K : PySem.W.Frag) (h : X.K = K := by rfl) : IxR X (rIxT K) := by subst h; exact ix_tup
theorem clen (K : PySem.W.Frag) (h : X.K = K := by rfl) : CallR X (.builtin "len") (fun xs H Q => ∃ p ys, xs = [.ref p] ∧ (SqL K H p ys ∨ SqT K H p ys) ∧ Q (.int ys.length) H) := by subst h; exact call_len_seq
end
/-! ### comprehensions whose elements make nothing -/
/-- [e for i in range(lo, ..)] -/
theorem lc_rangeF {lo : Int} {n i : Nat} {te : TE} {vs : List Nat} {σ : L2.St} {H1 : Hp} {D : Addr} {Qd : Hp → Prop} (f : Nat → V) (hn : n ≤ 100000)
    (hw : ∀ x, wipe ((wipe σ vs).set i (some x)) vs = wipe σ vs)
    (hs : ∀ (j : Nat) (H : Hp) (Q : VK), j < n → (∀ a o, H1 a = some o → a ≠ D → H a = some o) → Q (f j) H → te ((wipe σ vs).set i (some (.int (lo + (j : Nat))))) H Q)
    (hd : Qd (upd H1 D (.lst ((List.range n).map f)))) :
    ∃ W : Nat → Nat → Hp → Prop, (∃ m, W 0 m (upd H1 D (.lst []))) ∧ ∀ j m H, W j m H →
      ((Itr lo n).stop j H ∧ Qd H) ∨ ((Itr lo n).go j H ∧ ∃ Nx : Hp → Prop, (∀ H', Nx H' → ∃ m', m' < m ∧ W (j + 1) m' H') ∧ ∀ x H', (Itr lo n).yld j H x H' → gName i x (wipe σ vs) H' fun σ2 H2 => wipe σ2 vs = wipe σ vs ∧ tYes σ2 H2 fun b H3 =>
        if b = true then te σ2 H3 fun y H4 => ∃ acc, H4 D = some (.lst acc) ∧ acc.length < sizeLine ∧ Nx (upd H4 D (.lst (acc ++ [y]))) else Nx H3) := by
  refine lc_range (lo := lo) (n := n) (fun j H => H = upd H1 D (.lst ((List.range j).map f))) rfl ?_ ?_
  · rintro j H hj rfl
    refine ⟨hw _, ?_⟩
    show te _ _ _
    refine hs j _ _ hj (fun a o e na => by rw [upd_ne na]; exact e) ⟨_, upd_same, ?_, ?_⟩
    · rw [List.length_map, List.length_range]
      exact Nat.lt_of_lt_of_le (Nat.lt_of_lt_of_le hj hn) (by decide)
    · rw [upd_upd, List.range_succ, List.map_append]
      rfl
  · rintro H rfl
    exact hd
/-- [e for x in xs] over a list, over a tuple -/
theorem lc_listF {K : PySem.W.Frag} {a : Addr} {xs : List V} {i : Nat} {te : TE} {vs : List Nat} {σ : L2.St} {H1 : Hp} {D : Addr} {Qd : Hp → Prop} (f : V → V) (hn : xs.length ≤ 100000) (hD : H1 D = none) (hq : SqL K H1 a xs)
    (hw : ∀ x, wipe ((wipe σ vs).set i (some x)) vs = wipe σ vs)
    (hs : ∀ (j : Nat) (x : V) (H : Hp) (Q : VK), xs[j]? = some x → (∀ a o, H1 a = some o → a ≠ D → H a = some o) → Q (f x) H → te ((wipe σ vs).set i (some x)) H Q)
    (hd : Qd (upd H1 D (.lst (xs.map f)))) :
    ∃ W : Nat → Nat → Hp → Prop, (∃ m, W 0 m (upd H1 D (.lst []))) ∧ ∀ j m H, W j m H →
      ((Itl K a).stop j H ∧ Qd H) ∨ ((Itl K a).go j H ∧ ∃ Nx : Hp → Prop, (∀ H', Nx H' → ∃ m', m' < m ∧ W (j + 1) m' H') ∧ ∀ x H', (Itl K a).yld j H x H' → gName i x (wipe σ vs) H' fun σ2 H2 => wipe σ2 vs = wipe σ vs ∧ tYes σ2 H2 fun b H3 =>
        if b = true then te σ2 H3 fun y H4 => ∃ acc, H4 D = some (.lst acc) ∧ acc.length < sizeLine ∧ Nx (upd H4 D (.lst (acc ++ [y]))) else Nx H3) := by
  refine lc_list (K := K) (a := a) (xs := xs) (fun j H => H = upd H1 D (.lst ((xs.take j).map f))) rfl ?_ ?_ ?_
  · rintro j H _ rfl
    exact (Same.new hD).seq hq
  · rintro j x H hx rfl
    have hj := (List.getElem?_eq_some_iff.mp hx).1
    refine ⟨hw _, ?_⟩
    show te _ _ _
    refine hs j x _ _ hx (fun a o e na => by rw [upd_ne na]; exact e) ⟨_, upd_same, ?_, ?_⟩
    · rw [List.length_map, List.length_take]
      exact Nat.lt_of_lt_of_le (show min j xs.length < 100000 by omega) (by decide)
    · rw [upd_upd, List.take_add_one, hx, List.map_append]
      rfl
  · rintro H rfl
    rw [List.take_length]
    exact hd
theorem lc_tupF {K : PySem.W.Frag} {a : Addr} {xs : List V} {i : Nat} {te : TE} {vs : List Nat} {σ : L2.St} {H1 : Hp} {D : Addr} {Qd : Hp → Prop} (f : V → V) (hn : xs.length ≤ 100000) (hD : H1 D = none) (hq : SqT K H1 a xs)
    (hw : ∀ x, wipe ((wipe σ vs).set i (some x)) vs = wipe σ vs)
    (hs : ∀ (j : Nat) (x : V) (H : Hp) (Q : VK), xs[j]? = some x → (∀ a o, H1 a = some o → a ≠ D → H a = some o) → Q (f x) H → te ((wipe σ vs).set i (some x)) H Q)
    (hd : Qd (upd H1 D (.lst (xs.map f)))) :
    ∃ W : Nat → Nat → Hp → Prop, (∃ m, W 0 m (upd H1 D (.lst []))) ∧ ∀ j m H, W j m H →
      ((Itt K a).stop j H ∧ Qd H) ∨ ((Itt K a).go j H ∧ ∃ Nx : Hp → Prop, (∀ H', Nx H' → ∃ m', m' < m ∧ W (j + 1) m' H') ∧ ∀ x H', (Itt K a).yld j H x H' → gName i x (wipe σ vs) H' fun σ2 H2 => wipe σ2 vs = wipe σ vs ∧ tYes σ2 H2 fun b H3 =>
        if b = true then te σ2 H3 fun y H4 => ∃ acc, H4 D = some (.lst acc) ∧ acc.length < sizeLine ∧ Nx (upd H4 D (.lst (acc ++ [y]))) else Nx H3) := by
  refine lc_tup (K := K) (a := a) (xs := xs) (fun j H => H = upd H1 D (.lst ((xs.take j).map f))) rfl ?_ ?_ ?_
  · rintro j H _ rfl
    exact Same.sqt (Same.new hD) hq
  · rintro j x H hx rfl
    have hj := (List.getElem?_eq_some_iff.mp hx).1
    refine ⟨hw _, ?_⟩
    show te _ _ _
    refine hs j x _ _ hx (fun a o e na => by rw [upd_ne na]; exact e) ⟨_, upd_same, ?_, ?_⟩
    · rw [List.length_map, List.length_take]
      exact Nat.lt_of_lt_of_le (show min j xs.length < 100000 by omega) (by decide)
    · rw [upd_upd, List.take_add_one, hx, List.map_append]
      rfl
  · rintro H rfl
    rw [List.take_length]
    exact hd
end Ku

/-! KuA4 -/
set_option Elab.async false
set_option linter.all false
set_option maxRecDepth 100000
set_option maxHeartbeats 8000000
namespace Ku
open PySem PySem.Spec PyProof.Rows L2
open SX (S)
theorem cutV_from {xs : List V} (r : Nat) : cutV xs (some (r : Int)) none = xs.drop r := by
  unfold cutV
  rw [HT.sIx_nat, HT.sIx_none]
  by_cases h : r ≤ xs.length
  · rw [Nat.min_eq_left h]
    exact List.take_of_length_le (by rw [List.length_drop] <;> omega)
  · rw [Nat.min_eq_right (by omega), List.drop_of_length_le (Nat.le_refl _), List.drop_of_length_le (by omega)]
    exact List.take_nil
theorem cutV_to {xs : List V} (r : Nat) : cutV xs none (some (r : Int)) = xs.take r := by
  unfold cutV
  rw [HT.sIx_nat, HT.sIx_none, List.drop_zero, Nat.sub_zero]
  by_cases h : r ≤ xs.length
  · rw [Nat.min_eq_left h]
  · rw [Nat.min_eq_right (by omega), List.take_length, List.take_of_length_le (by omega)]

theorem at_ofA {α : Type} {xs : List α} {z : Int} {j : Nat} {v : α} (e : z = (j : Int)) (h : xs[j]? = some v) : atI xs z = some v := by
  rw [e]
  exact atI_nat h
theorem sum_ones : ∀ cs : List Nat, ((cs.map fun c => S [c]).map (·.length)).sum = cs.length
  | [] => rfl
  | c :: r => by
    rw [List.map_cons, List.map_cons, List.sum_cons, sum_ones r, List.length_cons, SX.S_len]
    show 1 + r.length = r.length + 1
    omega
/-! ### kinds -/
/-- one to eight small letters -/
def Kd (k : Str) : Prop := 1 ≤ k.length ∧ k.length ≤ 8 ∧ ∀ c ∈ k.cps.toList, 97 ≤ c ∧ c ≤ 122
structure GoodKs (ks : List Str) (m : Nat) : Prop where
  len : ks.length = m
  nd : ks.Nodup
  kd : ∀ k ∈ ks, Kd k
theorem good_map {m : Nat} {F : Nat → Str} (hi : ∀ i j, i < j → j < m → F i ≠ F j) (hk : ∀ j, j < m → Kd (F j)) : GoodKs ((List.range m).map F) m := by
  refine ⟨by rw [List.length_map, List.length_range], ?_, fun k h => ?_⟩
  · refine List.pairwise_map.mpr (List.Pairwise.imp_of_mem (fun {a b} ha hb h => hi a b h (List.mem_range.mp hb)) List.pairwise_lt_range)
  · obtain ⟨j, hj, rfl⟩ := List.mem_map.mp h
    exact hk j (List.mem_range.mp hj)
theorem kd_S {l : List Nat} (h1 : 1 ≤ l.length) (h2 : l.length ≤ 8) (h3 : ∀ c ∈ l, 97 ≤ c ∧ c ≤ 122) : Kd (S l) := ⟨by rw [SX.S_len]; exact h1, by rw [SX.S_len]; exact h2, h3⟩
abbrev letters : Str := "abcdefghijklmnopqrstuvwxyz"
theorem letters_at : ∀ j, j < 26 → letters.cps.toList[j]? = some (97 + j) := by decide +kernel
abbrev words : List Str := ["none", "put", "take", "same", "more", "fewer", "now", "form"]
theorem words_good : ∀ r, r < 8 → (words.drop r ++ words.take r).Nodup := by decide +kernel
theorem words_kd : ∀ k ∈ words, Kd k := by unfold Kd; decide +kernel
theorem joinL_nil : ∀ cs : List Nat, TL.joinL [] (cs.map fun c => [c]) = cs
  | [] => rfl
  | [c] => rfl
  | c :: d :: r => by
    show [c] ++ ([] ++ TL.joinL [] ((d :: r).map fun c => [c])) = c :: d :: r
    rw [joinL_nil (d :: r)]
    rfl
theorem join_signs (cs : List Nat) : Txt.join "" (cs.map fun c => S [c]) = S cs := by
  have e := SX.join_S [] (cs.map fun c => [c])
  rw [List.map_map] at e
  rw [joinL_nil] at e
  exact e
theorem mul8 (c : Nat) : Txt.mul (S [c]) 8 = S (List.replicate 8 c) := by
  unfold Txt.mul
  rw [if_neg (by decide), if_neg (by simp [Str.length])]
  rfl
section
variable {P : Program} {w : World} {K : PySem.W.Frag} {mg : Str → Option Value} {base : Heap}
/-! ### _law_kinds -/
def spKinds : Sp := fun vs H Q _ => ∃ (G : Addr × List Int) (H0 : Hp) (b : Addr) (m : Nat), vs = [.ref b, .int m] ∧ Bag G H0 H b ∧ 1 ≤ m ∧ m ≤ 8 ∧
  ∀ (a : Addr) (ks : List Str) (H1 H' : Hp), Same H0 H1 → Bag G H1 H' b → GoodKs ks m → H0 a = none → H1 a = some (.lst (ks.map V.str)) → Q (.ref a) H'
abbrev nmKinds : List Str := ["_law_bag_here", "_law_many", "_law_letters", "_law_way", "_law_turn", "_law_base", "_law_k", "_law_words", "_law_at"]
theorem sc_law_kinds : FnScope nmKinds ["_law_bag_here", "_law_many"] (defScope s_law_kinds) := fnScope_dec (by decide +kernel)
theorem cal_law_kinds (Z : Say K mg) : Cal P w K mg base 2 "_law_kinds" spKinds := by
  obtain ⟨fd, F⟩ := Z.D_law_kinds
  have cT : Cal P w K mg base 1 "_law_take" spTake := cal_law_take Z
  refine ⟨_, fd, ["_law_bag_here", "_law_many"], fn_ok F sc_law_kinds (fun vs H Q E h => ?_) (fun cdv A outer s H vs Q E hr h => ?_), Z.g_law_kinds, F.kp, F.bindsN fun _ _ _ _ _ _ us hl => match us, hl with | [_, _], _ => rfl⟩
  · obtain ⟨G, H0, b, m, rfl, _⟩ := h
    rfl
  · obtain ⟨G, H0, b, m, rfl, hB, m0, m1, q⟩ := h
    have nd := sc_law_kinds.nd
    refine ⟨_, pss_cons (ps_set (i := 2) nd rfl (Or.inr rfl) pe_str)
      (pss_cons (ps_asg (pe_tup (pa_cons (pe_c cT hr (by decide) rfl (pa_cons (pv 0) (pa_cons pe_int pa_nil))) (pa_cons (pe_c cT hr (by decide) rfl (pa_cons (pv 0) (pa_cons pe_int pa_nil))) pa_nil)))
        (pg_tup rfl (pgs_cons (pg_name (i := 3) nd rfl (Or.inl rfl)) (pgs_cons (pg_name (i := 4) nd rfl (Or.inr rfl)) pgs_nil))))
      (pss_cons (ps_set (i := 5) nd rfl (Or.inr rfl) (pe_join pe_str
        (pe_lc (own := [("_law_k", 6)]) (g := gName 6) (tt := tYes) rfl nd (pi_range1 rfl Z.f_range (pa_cons pe_int pa_nil)) (blkOk_by (N := nmKinds) (sc := defScope s_law_kinds) (by decide +kernel))
          (fun _ _ _ _ _ => pg_name (i := 6) nd rfl (Or.inl rfl)) (fun _ _ _ _ _ => pts_nil) (fun _ _ _ _ _ => pe_ix ix_str (pv 2) (pe_c cT hr (by decide) rfl (pa_cons (pv 0) (pa_cons pe_int pa_nil))) (fun _ _ => rfl)))))
      (pss_cons (ps_if (pt_cmpR op_eq (pv 3) pe_int (nomark _))
        (pss_one (ps_ret (pe_lc (own := [("_law_k", 6)]) (g := gName 6) (tt := tYes) rfl nd (pi_range1 rfl Z.f_range (pa_cons (pv 1) pa_nil)) (blkOk_by (N := nmKinds) (sc := defScope s_law_kinds) (by decide +kernel))
          (fun _ _ _ _ _ => pg_name (i := 6) nd rfl (Or.inl rfl)) (fun _ _ _ _ _ => pts_nil) (fun _ _ _ _ _ => pe_ix ix_str (pv 2) (pe_op op_mod (pe_op op_add (pv 4) (pe_op op_mul pe_int (pv 6))) pe_int) (fun _ _ => rfl))))) pss_nil)
      (pss_cons (ps_if (pt_cmpR op_eq (pv 3) pe_int (nomark _))
        (pss_cons (ps_set (i := 5) nd rfl (Or.inr rfl) (pe_ix ix_list (pe_lst (pa_cons (pv 5) (pa_cons (pe_op op_mulS (pe_ix ix_str (pv 2) (pv 4) (fun _ _ => rfl)) pe_int) pa_nil))) (pe_c cT hr (by decide) rfl (pa_cons (pv 0) (pa_cons pe_int pa_nil))) (fun _ _ => rfl)))
        (pss_one (ps_ret (pe_lc (own := [("_law_k", 6)]) (g := gName 6) (tt := tYes) rfl nd (pi_range1 rfl Z.f_range (pa_cons (pv 1) pa_nil)) (blkOk_by (N := nmKinds) (sc := defScope s_law_kinds) (by decide +kernel))
          (fun _ _ _ _ _ => pg_name (i := 6) nd rfl (Or.inl rfl)) (fun _ _ _ _ _ => pts_nil) (fun _ _ _ _ _ => pe_slice C8.sl_txt (pv 5) po_none (po_some (pe_op op_add (pv 6) pe_int))))))) pss_nil)
      (pss_cons (ps_if (pt_cmpR op_eq (pv 3) pe_int (nomark _))
        (pss_cons (ps_set (i := 7) nd rfl (Or.inl rfl) (pe_lst (pa_cons pe_str (pa_cons pe_str (pa_cons pe_str (pa_cons pe_str (pa_cons pe_str (pa_cons pe_str (pa_cons pe_str (pa_cons pe_str pa_nil))))))))))
        (pss_one (ps_ret (pe_slice sl_list (pe_op op_cat (pe_slice sl_list (pv 7) (po_some (pe_op op_mod (pv 4) pe_int)) po_none) (pe_slice sl_list (pv 7) po_none (po_some (pe_op op_mod (pv 4) pe_int)))) po_none (po_some (pv 1)))))) pss_nil)
      (pss_cons (ps_set (i := 5) nd rfl (Or.inr rfl) (pe_slice C8.sl_txt (pv 5) po_none (po_some (pe_op op_add pe_int (pe_c cT hr (by decide) rfl (pa_cons (pv 0) (pa_cons pe_int pa_nil)))))))
      (pss_cons (ps_set (i := 8) nd rfl (Or.inr rfl) (pe_c cT hr (by decide) rfl (pa_cons (pv 0) (pa_cons (pe_callB call_len_str rfl Z.f_len boot_len (pa_cons (pv 5) pa_nil)) pa_nil))))
      (pss_one (ps_ret (pe_lc (own := [("_law_k", 6)]) (g := gName 6) (tt := tYes) rfl nd (pi_range1 rfl Z.f_range (pa_cons (pv 1) pa_nil)) (blkOk_by (N := nmKinds) (sc := defScope s_law_kinds) (by decide +kernel))
          (fun _ _ _ _ _ => pg_name (i := 6) nd rfl (Or.inl rfl)) (fun _ _ _ _ _ => pts_nil)
          (fun _ _ _ _ _ => pe_op op_add_str (pe_op op_add_str (pe_slice C8.sl_txt (pv 5) po_none (po_some (pv 8))) (pe_ix ix_str (pv 2) (pe_op op_mod (pe_op op_add (pv 4) (pe_op op_mul pe_int (pv 6))) pe_int) (fun _ _ => rfl)))
            (pe_slice C8.sl_txt (pv 5) (po_some (pe_op op_add (pv 8) pe_int)) po_none)))))))))))), ?_⟩
    have szL : letters.length ≤ sizeLine := by decide +kernel
    -- way, turn
    refine ⟨_, rfl, G, H0, b, 5, rfl, hB, by decide, by decide, fun way Ha w0 w1 Ba => ?_⟩
    refine ⟨_, rfl, G, H0, b, 26, rfl, Ba, by decide, by decide, fun turn Hb t0 t1 Bb => ?_⟩
    refine ⟨by show 2 ≤ sizeLine; decide, fun p hp => ?_⟩
    refine ⟨p, _, rfl, SqT.of upd_same, rfl, _, _, rfl, _, _, rfl, rfl, ?_⟩
    have Bc := Bb.new (o := .tup [.int way, .int turn]) hp
    generalize upd Hb p (.tup [.int way, .int turn]) = Hc at Bc
    -- base
    refine ⟨⟨_, rfl⟩, 8, rfl, by decide, by decide, fun D hD => ?_⟩
    obtain ⟨ob, hob⟩ := Bc.there
    have nD : D ≠ b := Ne.symm (ne_of_none hob hD)
    have hD0 : H0 D = none := Bc.le.free hD
    refine lc_range (lo := 0) (n := 8) (fun i H' => Bag G H0 H' b ∧ ∃ cs : List Nat, cs.length = i ∧ (∀ c ∈ cs, 97 ≤ c ∧ c ≤ 122) ∧ H' D = some (.lst (cs.map fun c => V.str (S [c]))))
      ⟨Bc.new hD, [], rfl, (fun c hc => by cases hc), upd_same⟩ ?_ ?_
    · rintro i H' hi ⟨B', cs, hl, hcs, hd⟩
      refine ⟨rfl, ?_⟩
      refine ⟨_, rfl, _, rfl, G, hide b H', b, 26, rfl, B'.hide, by decide, by decide, fun z H'' z0 z1 B'' => ?_⟩
      refine ⟨letters, z, 97 + z.toNat, rfl, rfl, szL, at_ofA (j := z.toNat) (by omega) (letters_at _ (by omega)), _, B''.keep hd nD, ?_, ?_⟩
      · rw [List.length_map]; exact small1000 (by omega)
      · refine ⟨(B'.back B'').mut hD0 nD, cs ++ [97 + z.toNat], by rw [List.length_append, hl]; rfl, fun c hc => ?_, ?_⟩
        · rcases List.mem_append.mp hc with hc | hc
          · exact hcs c hc
          · rw [List.mem_singleton.mp hc]; omega
        · rw [upd_same, List.map_append]; rfl
    rintro Hd ⟨Bd, cs, hl, hcs, hd⟩
    refine ⟨"", D, cs.map fun c => S [c], rfl, rfl, .inl (SqL.of (by rw [List.map_map]; exact hd)), ?_, ?_⟩
    · rw [sum_ones, List.length_map, hl]
      decide
    rw [join_signs]
    have hl8 : cs.length = 8 := hl
    -- a list of kinds, just made
    have fin : ∀ (H' : Hp) (D : Addr) (ks : List Str), Bag G H0 H' b → H' D = none → GoodKs ks m → Q (.ref D) (upd H' D (.lst (ks.map V.str))) := fun H' D ks B' h' g => by
      refine q D ks (upd H0 D (.lst (ks.map V.str))) _ (Same.new (B'.le.free h')) (B'.know h') g (B'.le.free h') upd_same
    have rngM : -(2 ^ 62) ≤ (m : Int) ∧ (m : Int) < 2 ^ 62 := by omega
    have mNat : ((m : Int)).toNat = m := Int.toNat_natCast m
    refine ⟨_, rfl, rfl, _, rfl, ?_⟩
    refine ite2 (fun c0 => ?_) (fun c0 => ?_)
    · -- the letters that stand three apart
      refine ⟨_, rfl, m, rfl, rngM.1, rngM.2, fun D' hD' => ?_⟩
      rw [mNat]
      refine lc_rangeF (i := 6) (fun j => V.str (S [97 + (turn.toNat + 3 * j) % 26])) (by omega) (fun _ => rfl) ?_ ?_
      · intro j H' Q' hj _ q'
        refine ⟨_, rfl, _, rfl, _, rfl, _, _, rfl, rfl, .inl ⟨by decide, by decide⟩, _, _, rfl, rfl, _, _, rfl, rfl, (by show (0 : Int) < 26; decide), ?_⟩
        exact ⟨letters, _, _, rfl, rfl, szL, at_ofA (j := (turn.toNat + 3 * j) % 26) (by omega) (letters_at _ (by omega)), q'⟩
      · have g : GoodKs ((List.range m).map fun j => S [97 + (turn.toNat + 3 * j) % 26]) m := good_map (fun i j hij hj e => by
          have e := SX.S_inj e
          simp only [List.cons.injEq, and_true] at e
          omega) (fun j hj => kd_S (by simp) (by simp) (fun c hc => by rw [List.mem_singleton.mp hc]; omega))
        have f := fin _ D' _ Bd hD' g
        rw [List.map_map] at f
        exact f
    refine ⟨_, rfl, rfl, _, rfl, ?_⟩
    refine ite2 (fun c1 => ?_) (fun c1 => ?_)
    · -- beginnings
      refine ⟨_, rfl, _, rfl, _, rfl, ?_⟩
      refine ⟨letters, _, 97 + turn.toNat, rfl, rfl, szL, at_ofA (j := turn.toNat) (by omega) (letters_at _ (by omega)), S [97 + turn.toNat], 8, rfl, rfl, by rw [SX.S_len]; exact (by decide : 1 ≤ 16), by decide, by decide, ?_⟩
      rw [mul8]
      refine ⟨by show 2 ≤ sizeLine; decide, fun l hl2 => ?_⟩
      have B2 := Bd.new (o := .lst [.str (S cs), .str (S (List.replicate 8 (97 + turn.toNat)))]) hl2
      have nl : l ≠ b := by
        obtain ⟨o, ho⟩ := Bd.there
        exact Ne.symm (ne_of_none ho hl2)
      refine ⟨_, rfl, G, _, b, 2, rfl, B2.hide, by decide, by decide, fun z He z0 z1 Be => ?_⟩
      have hle := Be.keep (a := l) upd_same nl
      have B4 := B2.back Be
      obtain ⟨ls, e1, e2, e3⟩ : ∃ ls : List Nat, ([V.str (S cs), V.str (S (List.replicate 8 (97 + turn.toNat)))] : List V)[z.toNat]? = some (.str (S ls)) ∧ ls.length = 8 ∧ ∀ c ∈ ls, 97 ≤ c ∧ c ≤ 122 := by
        have hz : z = 0 ∨ z = 1 := by omega
        rcases hz with rfl | rfl
        · exact ⟨cs, rfl, hl8, hcs⟩
        · exact ⟨_, rfl, List.length_replicate, fun c hc => by rw [(List.mem_replicate.mp hc).2]; omega⟩
      refine ⟨l, _, z, _, rfl, rfl, SqL.of hle, at_ofA (j := z.toNat) (by omega) e1, ?_⟩
      refine ⟨_, rfl, m, rfl, rngM.1, rngM.2, fun D' hD' => ?_⟩
      rw [mNat]
      refine lc_rangeF (i := 6) (fun j => V.str (S (ls.take (j + 1)))) (by omega) (fun _ => rfl) ?_ ?_
      · intro j H' Q' hj _ q'
        refine ⟨_, rfl, _, rfl, _, _, rfl, rfl, _, rfl, ?_⟩
        refine ⟨S ls, rfl, by rw [SX.S_len, e2]; decide, ?_⟩
        rw [SX.slice_to (by omega)]
        have e : ((0 : Int) + (j : Nat) + 1).toNat = j + 1 := by omega
        rw [e]
        exact q'
      · have g : GoodKs ((List.range m).map fun j => S (ls.take (j + 1))) m := good_map (fun i j hij hj e => by
          have e := congrArg List.length (SX.S_inj e)
          rw [List.length_take, List.length_take] at e
          omega) (fun j hj => kd_S (by rw [List.length_take]; omega) (by rw [List.length_take]; omega) (fun c hc => e3 c (List.mem_of_mem_take hc)))
        have f := fin _ D' _ B4 hD' g
        rw [List.map_map] at f
        exact f
    refine ⟨_, rfl, rfl, _, rfl, ?_⟩
    refine ite2 (fun c2 => ?_) (fun c2 => ?_)
    · -- words
      have ew : ([.str "none", .str "put", .str "take", .str "same", .str "more", .str "fewer", .str "now", .str "form"] : List V) = words.map V.str := rfl
      refine ⟨by show 8 ≤ sizeLine; decide, fun l hl2 => ?_⟩
      have B2 := Bd.new (o := .lst (words.map V.str)) hl2
      refine ⟨_, rfl, _, rfl, _, _, rfl, rfl, (by show (0 : Int) < 8; decide), _, rfl, l, words.map V.str, rfl, SqL.of upd_same, fun l1 h1 => ?_⟩
      have nl1 : l ≠ l1 := ne_of_none upd_same h1
      refine ⟨_, rfl, _, rfl, _, _, rfl, rfl, (by show (0 : Int) < 8; decide), _, rfl, l, words.map V.str, rfl, SqL.of (Eq.trans (upd_ne nl1) upd_same), fun l2 h2 => ?_⟩
      have nl2 : l1 ≠ l2 := ne_of_none upd_same h2
      have er : turn % 8 = (((turn.toNat % 8 : Nat) : Nat) : Int) := by omega
      rw [er, cutV_from] at h2 ⊢
      rw [cutV_to]
      generalize hr : turn.toNat % 8 = r at h2 ⊢
      have hr8 : r < 8 := by omega
      refine ⟨l1, l2, (words.map V.str).drop r, (words.map V.str).take r, rfl, rfl, by rw [upd_ne nl2, upd_same], upd_same, ?_, fun l3 h3 => ?_⟩
      · rw [List.length_drop, List.length_take, List.length_map]
        exact Nat.le_trans (show words.length - r + min r words.length ≤ 100 by simp; omega) (by decide)
      have B5 := ((B2.new h1).new h2).new (o := .lst ((words.map V.str).drop r ++ (words.map V.str).take r)) h3
      refine ⟨_, rfl, _, rfl, l3, _, rfl, SqL.of upd_same, fun l4 h4 => ?_⟩
      rw [cutV_to]
      have g : GoodKs ((words.drop r ++ words.take r).take m) m := by
        refine ⟨?_, (words_good r hr8).sublist (List.take_sublist _ _), fun k hk => ?_⟩
        · rw [List.length_take, List.length_append, List.length_drop, List.length_take]
          simp
          omega
        · rcases List.mem_append.mp (List.mem_of_mem_take hk) with hk | hk
          · exact words_kd k (List.mem_of_mem_drop hk)
          · exact words_kd k (List.mem_of_mem_take hk)
      have f := fin _ l4 _ B5 h4 g
      rw [List.map_take, List.map_append, List.map_drop, List.map_take] at f
      exact f
    -- one sign changes
    refine ⟨_, rfl, _, rfl, G, H0, b, 8, rfl, Bd, by decide, by decide, fun n He n0 n1 Be => ?_⟩
    refine ⟨_, _, rfl, rfl, _, rfl, S cs, rfl, by rw [SX.S_len, hl8]; decide, ?_⟩
    rw [SX.slice_to (by omega)]
    generalize hbs : cs.take (1 + n).toNat = bs
    have hbl : bs.length = 1 + n.toNat := by
      rw [← hbs, List.length_take]
      omega
    have hbc : ∀ c ∈ bs, 97 ≤ c ∧ c ≤ 122 := fun c hc => hcs c (by rw [← hbs] at hc; exact List.mem_of_mem_take hc)
    refine ⟨_, rfl, _, rfl, S bs, rfl, by rw [SX.S_len, hbl]; exact Nat.le_trans (show 1 + n.toNat ≤ 100 by omega) (by decide), ?_⟩
    rw [SX.S_len]
    refine ⟨G, H0, b, _, rfl, Be, by omega, by omega, fun at_ Hf a0 a1 Bf => ?_⟩
    refine ⟨_, rfl, m, rfl, rngM.1, rngM.2, fun D' hD' => ?_⟩
    rw [mNat]
    have szB : (S bs).length ≤ sizeLine := by rw [SX.S_len, hbl]; exact Nat.le_trans (show 1 + n.toNat ≤ 100 by omega) (by decide)
    refine lc_rangeF (i := 6) (fun j => V.str (S ((bs.take at_.toNat ++ [97 + (turn.toNat + 5 * j) % 26]) ++ bs.drop (at_.toNat + 1)))) (by omega) (fun _ => rfl) ?_ ?_
    · intro j H' Q' hj _ q'
      refine ⟨_, rfl, _, rfl, _, rfl, S bs, rfl, szB, ?_⟩
      rw [SX.slice_to (by omega)]
      refine ⟨_, rfl, _, rfl, _, rfl, _, _, rfl, rfl, .inl ⟨by decide, by decide⟩, _, _, rfl, rfl, _, _, rfl, rfl, (by show (0 : Int) < 26; decide), ?_⟩
      refine ⟨letters, _, _, rfl, rfl, szL, at_ofA (j := (turn.toNat + 5 * j) % 26) (by omega) (letters_at _ (by omega)), ?_⟩
      refine ⟨S (bs.take at_.toNat), S [97 + (turn.toNat + 5 * j) % 26], rfl, rfl, ?_, ?_⟩
      · rw [SX.S_len, SX.S_len, List.length_take]
        exact Nat.le_trans (show min at_.toNat bs.length + 1 ≤ 100 by omega) (by decide)
      rw [SX.S_cat]
      refine ⟨_, rfl, _, rfl, _, _, rfl, rfl, _, rfl, S bs, rfl, szB, ?_⟩
      rw [SX.slice_from (by omega)]
      refine ⟨_, _, rfl, rfl, ?_, ?_⟩
      · rw [SX.S_len, SX.S_len, List.length_append, List.length_take, List.length_drop]
        exact Nat.le_trans (show min at_.toNat bs.length + 1 + (bs.length - (at_ + 1).toNat) ≤ 100 by omega) (by decide)
      rw [SX.S_cat]
      have e : (at_ + 1).toNat = at_.toNat + 1 := by omega
      rw [e]
      exact q'
    · have g : GoodKs ((List.range m).map fun j => S ((bs.take at_.toNat ++ [97 + (turn.toNat + 5 * j) % 26]) ++ bs.drop (at_.toNat + 1))) m := good_map (fun i j hij hj e => by
          have e := SX.S_inj e
          have e := List.append_cancel_right e
          have e := List.append_cancel_left e
          simp only [List.cons.injEq, and_true] at e
          omega) (fun j hj => kd_S (by simp; omega) (by simp; omega) (fun c hc => by
          rcases List.mem_append.mp hc with hc | hc
          · rcases List.mem_append.mp hc with hc | hc
            · exact hbc c (List.mem_of_mem_take hc)
            · rw [List.mem_singleton.mp hc]; omega
          · exact hbc c (List.mem_of_mem_drop hc)))
      have f := fin _ D' _ Bf hD' g
      rw [List.map_map] at f
      exact f
end
end Ku

/-! KuA5 -/
set_option Elab.async false
set_option linter.all false
set_option maxRecDepth 100000
set_option maxHeartbeats 8000000
namespace Ku
open PySem PySem.Spec PyProof.Rows L2
theorem map_str_get {l : List Str} {j : Nat} {x : V} (h : (l.map V.str)[j]? = some x) : ∃ z, x = .str z ∧ l[j]? = some z ∧ z ∈ l := by
  rw [List.getElem?_map] at h
  obtain ⟨z, e, rfl⟩ := Option.map_eq_some_iff.mp h
  exact ⟨z, rfl, e, List.mem_of_getElem? e⟩
section
variable {P : Program} {w : World} {K : PySem.W.Frag} {mg : Str → Option Value} {base : Heap}
/-! ### _law_set -/
def spSet (K : PySem.W.Frag) : Sp := fun vs H Q _ => ∃ (G : Addr × List Int) (H0 : Hp) (b a : Addr) (ks : List Str), vs = [.ref b, .ref a] ∧ Bag G H0 H b ∧ SqL K H0 a (ks.map V.str) ∧ 1 ≤ ks.length ∧ ks.length ≤ 20 ∧ ks.Nodup ∧
  ∀ (t : Addr) (l : List Str) (H1 H' : Hp), Same H0 H1 → Bag G H1 H' b → H0 t = none → H1 t = some (.tup (l.map V.str)) → l.Nodup → (∀ x ∈ l, x ∈ ks) → 1 ≤ l.length → l.length ≤ ks.length → Q (.ref t) H'
abbrev nmSet : List Str := ["_law_bag_here", "_law_kinds_here", "_law_rare", "_law_some", "_law_kind_here"]
theorem sc_law_set : FnScope nmSet ["_law_bag_here", "_law_kinds_here"] (defScope s_law_set) := fnScope_dec (by decide +kernel)
theorem cal_law_set (Z : Say K mg) : Cal P w K mg base 2 "_law_set" (spSet K) := by
  obtain ⟨fd, F⟩ := Z.D_law_set
  have cT : Cal P w K mg base 1 "_law_take" spTake := cal_law_take Z
  refine ⟨_, fd, ["_law_bag_here", "_law_kinds_here"], fn_ok F sc_law_set (fun vs H Q E h => ?_) (fun cdv A outer s H vs Q E hr h => ?_), Z.g_law_set, F.kp, F.bindsN fun _ _ _ _ _ _ us hl => match us, hl with | [_, _], _ => rfl⟩
  · obtain ⟨G, H0, b, a, ks, rfl, _⟩ := h
    rfl
  · obtain ⟨G, H0, b, a, ks, rfl, hB, hk, k1, k20, knd, q⟩ := h
    have nd := sc_law_set.nd
    refine ⟨_, pss_cons (ps_set (i := 2) nd rfl (Or.inr rfl) (pe_op op_add pe_int (pe_c cT hr (by decide) rfl (pa_cons (pv 0) (pa_cons pe_int pa_nil)))))
      (pss_cons (ps_setLc (i := 3) (own := [("_law_kind_here", 4)]) (g := gName 4) rfl nd rfl rfl (sw_true rfl rfl rfl (by decide +kernel)) (pi_list (pv 1)) (blkOk_by (N := nmSet) (sc := defScope s_law_set) (by decide +kernel))
          (fun _ _ _ _ _ => pg_name (i := 4) nd rfl (Or.inl rfl)) (fun _ _ _ _ _ => pts_one (pt_cmpR op_eq (pe_c cT hr (by decide) rfl (pa_cons (pv 0) (pa_cons (pv 2) pa_nil))) pe_int (nomark _))) (fun _ _ _ _ _ => pv 4))
      (pss_one (ps_ret (pe_callTy call_tuple_of rfl Z.f_tuple PyProof.Rows.boot_tuple (pa_cons (pe_callB cr_sortedS rfl Z.f_sorted boot_sorted
        (pa_cons (pe_orT (pv 3) (pe_one (pe_lst (pa_cons (pe_ix ix_list (pv 1) (pe_c cT hr (by decide) rfl (pa_cons (pv 0) (pa_cons (pe_callB call_len_seq rfl Z.f_len boot_len (pa_cons (pv 1) pa_nil)) pa_nil))) (fun _ _ => rfl)) pa_nil)))) pa_nil)) pa_nil))))), ?_⟩
    refine ⟨_, rfl, G, H0, b, 3, rfl, hB, by decide, by decide, fun r Ha r0 r1 Ba => ?_⟩
    refine ⟨_, _, rfl, rfl, ?_⟩
    refine ⟨_, rfl, a, rfl, ⟨_, Ba.le.seq hk⟩, fun D hD => ?_⟩
    obtain ⟨ob, hob⟩ := Ba.there
    have nD : D ≠ b := Ne.symm (ne_of_none hob hD)
    have hD0 : H0 D = none := Ba.le.free hD
    refine lc_list (K := K) (a := a) (xs := ks.map V.str) (fun i H' => Bag G H0 H' b ∧ ∃ l : List Str, l.Sublist (ks.take i) ∧ H' D = some (.lst (l.map V.str)))
      ⟨Ba.new hD, [], List.nil_sublist _, upd_same⟩ (fun i H' _ h => h.1.le.seq hk) ?_ ?_
    · rintro i x H' hx ⟨B', l, hl, hd⟩
      obtain ⟨z, rfl, hz, hzm⟩ := map_str_get hx
      have hi : i < ks.length := (List.getElem?_eq_some_iff.mp hz).1
      have hlen : l.length ≤ 20 := Nat.le_trans hl.length_le (by rw [List.length_take]; omega)
      have et : ks.take (i + 1) = ks.take i ++ [z] := by rw [List.take_add_one, hz]; rfl
      refine ⟨rfl, ?_⟩
      refine ⟨_, rfl, _, rfl, G, hide b H', b, _, rfl, B'.hide, by omega, by omega, fun v H'' v0 v1 B'' => ?_⟩
      refine ⟨rfl, _, rfl, ?_⟩
      have hd' := B''.keep hd nD
      refine ite2 (fun c => ?_) (fun c => ?_)
      · refine ⟨_, rfl, _, hd', ?_, ?_⟩
        · rw [List.length_map]; exact small1000 (by omega)
        · refine ⟨(B'.back B'').mut hD0 nD, l ++ [z], ?_, ?_⟩
          · rw [et]; exact List.Sublist.append hl (List.Sublist.refl _)
          · rw [upd_same, List.map_append]; rfl
      · exact ⟨B'.back B'', l, hl.trans (by rw [et]; exact List.sublist_append_left _ _), hd'⟩
    rintro Hb ⟨Bb, l, hl, hd⟩
    have hsub : l.Sublist ks := hl.trans (List.take_sublist _ _)
    -- sorted, a tuple of it
    have fin : ∀ (H' : Hp) (p : Addr) (l : List Str), Bag G H0 H' b → SqL K H' p (l.map V.str) → l.Nodup → (∀ x ∈ l, x ∈ ks) → 1 ≤ l.length → l.length ≤ ks.length →
        (rSortedS K [.ref p] H' fun x H1 => tNil [] H1 fun xs H2 => ∃ p ys, x :: xs = [V.ref p] ∧ ((SqL K H2 p ys ∧ ∀ l, H2 l = none → Q (.ref l) (upd H2 l (.tup ys))) ∨ (SqT K H2 p ys ∧ Q (.ref p) H2))) := by
      intro H' p l B' hp h1 h2 h3 h4
      refine ⟨p, l, rfl, hp, by omega, fun ys p' hperm _ hp' => ?_⟩
      refine ⟨p', ys.map V.str, rfl, .inl ⟨SqL.of upd_same, fun t ht => ?_⟩⟩
      have B1 := B'.new (o := .lst (ys.map V.str)) hp'
      exact q t ys (upd H0 t (.tup (ys.map V.str))) _ (Same.new (B1.le.free ht)) (B1.know ht) (B1.le.free ht) upd_same (hperm.nodup_iff.mpr h1) (fun x hx => h2 x (hperm.mem_iff.mp hx)) (by rw [hperm.length_eq]; exact h3) (by rw [hperm.length_eq]; exact h4)
    refine ⟨_, rfl, !((l.map V.str).isEmpty), .inl ⟨_, SqL.of hd, rfl⟩, ?_⟩
    cases hle : l with
    | cons x r =>
      rw [hle] at hd hsub
      refine iteT ?_
      exact fin Hb D (x :: r) Bb (SqL.of hd) (knd.sublist hsub) (fun x hx => hsub.mem hx) (by simp) hsub.length_le
    | nil =>
      refine iteF ?_
      refine ⟨_, rfl, _, rfl, _, rfl, a, _, rfl, .inl (Bb.le.seq hk), G, H0, b, _, rfl, Bb, ?_, ?_, fun v Hc v0 v1 Bc => ?_⟩
      · rw [List.length_map]; omega
      · rw [List.length_map]; omega
      rw [List.length_map] at v1
      have hv : v.toNat < ks.length := by omega
      refine ⟨a, _, v, .str ks[v.toNat], rfl, rfl, Bc.le.seq hk, at_ofA (j := v.toNat) (by omega) (by rw [List.getElem?_map, List.getElem?_eq_getElem hv]; rfl), by show 1 ≤ sizeLine; decide, fun p hp => ?_⟩
      exact fin _ p [ks[v.toNat]] (Bc.new hp) (SqL.of upd_same) (by simp) (fun x hx => by rw [List.mem_singleton.mp hx]; exact List.getElem_mem hv) (by simp) (by simp; omega)
end
end Ku

/-! KuA6 -/
set_option Elab.async false
set_option linter.all false
set_option maxRecDepth 100000
set_option maxHeartbeats 8000000
namespace Ku
open PySem PySem.Spec PyProof.Rows L2
theorem inV_strs (z : Str) : ∀ ks : List Str, inV (.str z) (ks.map V.str) = decide (z ∈ ks)
  | [] => rfl
  | k :: r => by
    show (eqV (.str k) (.str z) || inV (.str z) (r.map V.str)) = _
    rw [inV_strs z r]
    show ((k == z) || decide (z ∈ r)) = _
    by_cases h : k = z
    · subst h; simp
    · have e : (k == z) = false := beq_eq_false_iff_ne.mpr h
      rw [e, Bool.false_or]
      have h2 : ¬ z = k := fun e => h e.symm
      simp [h2]
theorem all_flat_strs : ∀ ks : List Str, (ks.map V.str).all flatV = true
  | [] => rfl
  | k :: r => by
    show (flatV (.str k) && (r.map V.str).all flatV) = true
    rw [all_flat_strs r]
    rfl
section
variable {P : Program} {w : World} {K : PySem.W.Frag} {mg : Str → Option Value} {base : Heap}
/-! ### _law_endless -/
def spEndless (K : PySem.W.Frag) : Sp := fun vs H Q _ => ∃ (G : Addr × List Int) (H0 : Hp) (b a : Addr) (ks : List Str) (m : Nat), vs = [.ref b, .ref a, .int m] ∧ Bag G H0 H b ∧ SqL K H0 a (ks.map V.str) ∧ 1 ≤ ks.length ∧ ks.length ≤ 8 ∧ 1 ≤ m ∧ m ≤ 10 ∧
  ∀ (t lb lr : Addr) (B R : List Str) (H1 H' : Hp), Same H0 H1 → Bag G H1 H' b → H1 t = some (.tup [.ref lb, .ref lr]) → H1 lb = some (.lst (B.map V.str)) → H1 lr = some (.lst (R.map V.str)) →
    (∀ x ∈ B, x ∈ ks) → (∀ x ∈ R, x ∈ ks) → 1 ≤ B.length → B.length ≤ 10 → R.length ≤ 12 → Q (.ref t) H'
abbrev nmEndless : List Str := ["_law_bag_here", "_law_kinds_here", "_law_most", "_law_inside", "_law_block", "_law_many", "_law_recent", "_law_k"]
theorem sc_law_endless : FnScope nmEndless ["_law_bag_here", "_law_kinds_here", "_law_most"] (defScope s_law_endless) := fnScope_dec (by decide +kernel)
/-- n drawn items of a list -/
theorem drawn {G : Addr × List Int} {H0 H1 : Hp} {b D : Addr} {ks : List Str} {n : Nat} {i : Nat} {te : TE} {vs : List Nat} {σ : L2.St} {Qd : Hp → Prop} (B : Bag G H0 H1 b) (hn : n ≤ 100) (hD : H1 D = none)
    (hw : ∀ x, wipe ((wipe σ vs).set i (some x)) vs = wipe σ vs)
    (hs : ∀ (j : Nat) (H' : Hp) (Q : VK), Bag G H0 H' b → (∀ (z : Str) (H'' : Hp), z ∈ ks → Bag G (hide b H') H'' b → Q (.str z) H'') → te ((wipe σ vs).set i (some (.int (0 + (j : Nat))))) H' Q)
    (hd : ∀ (l : List Str) (H' : Hp), l.length = n → (∀ x ∈ l, x ∈ ks) → Bag G H0 H' b → H' D = some (.lst (l.map V.str)) → Qd H') :
    ∃ W : Nat → Nat → Hp → Prop, (∃ m, W 0 m (upd H1 D (.lst []))) ∧ ∀ j m H, W j m H →
      ((Itr 0 n).stop j H ∧ Qd H) ∨ ((Itr 0 n).go j H ∧ ∃ Nx : Hp → Prop, (∀ H', Nx H' → ∃ m', m' < m ∧ W (j + 1) m' H') ∧ ∀ x H', (Itr 0 n).yld j H x H' → gName i x (wipe σ vs) H' fun σ2 H2 => wipe σ2 vs = wipe σ vs ∧ tYes σ2 H2 fun b H3 =>
        if b = true then te σ2 H3 fun y H4 => ∃ acc, H4 D = some (.lst acc) ∧ acc.length < sizeLine ∧ Nx (upd H4 D (.lst (acc ++ [y]))) else Nx H3) := by
  obtain ⟨ob, hob⟩ := B.there
  have nD : D ≠ b := Ne.symm (ne_of_none hob hD)
  have hD0 : H0 D = none := B.le.free hD
  refine lc_range (lo := 0) (n := n) (fun j H' => Bag G H0 H' b ∧ ∃ l : List Str, l.length = j ∧ (∀ x ∈ l, x ∈ ks) ∧ H' D = some (.lst (l.map V.str)))
    ⟨B.new hD, [], rfl, (fun x hx => by cases hx), upd_same⟩ ?_ ?_
  · rintro j H' hj ⟨B', l, hl, hk, hd⟩
    refine ⟨hw _, ?_⟩
    show te _ _ _
    refine hs j H' _ B' fun z H'' hz B'' => ⟨_, B''.keep hd nD, ?_, (B'.back B'').mut hD0 nD, l ++ [z], ?_, fun x hx => ?_, ?_⟩
    · rw [List.length_map]; exact small1000 (by omega)
    · rw [List.length_append, hl]; rfl
    · rcases List.mem_append.mp hx with hx | hx
      · exact hk x hx
      · rw [List.mem_singleton.mp hx]; exact hz
    · rw [upd_same, List.map_append]; rfl
  · rintro H' ⟨B', l, hl, hk, h2⟩
    exact hd l H' hl hk B' h2
theorem cal_law_endless (Z : Say K mg) : Cal P w K mg base 2 "_law_endless" (spEndless K) := by
  obtain ⟨fd, F⟩ := Z.D_law_endless
  have cT : Cal P w K mg base 1 "_law_take" spTake := cal_law_take Z
  refine ⟨_, fd, ["_law_bag_here", "_law_kinds_here", "_law_most"], fn_ok F sc_law_endless (fun vs H Q E h => ?_) (fun cdv A outer s H vs Q E hr h => ?_), Z.g_law_endless, F.kp, F.bindsN fun _ _ _ _ _ _ us hl => match us, hl with | [_, _, _], _ => rfl⟩
  · obtain ⟨G, H0, b, a, ks, m, rfl, _⟩ := h
    rfl
  · obtain ⟨G, H0, b, a, ks, m, rfl, hB, hk, k1, k8, m1, m10, q⟩ := h
    have nd := sc_law_endless.nd
    refine ⟨_, pss_cons (ps_set (i := 3) nd rfl (Or.inr rfl) (pe_slice sl_list (pv 1) po_none (po_some (pe_op op_add pe_int (pe_c cT hr (by decide) rfl (pa_cons (pv 0) (pa_cons (pe_callB call_len_seq rfl Z.f_len boot_len (pa_cons (pv 1) pa_nil)) pa_nil)))))))
      (pss_cons (ps_setLc (i := 4) (own := [("_law_k", 7)]) (g := gName 7) (tt := tYes) rfl nd rfl rfl (sw_true rfl rfl rfl (by decide +kernel)) (pi_range1 rfl Z.f_range (pa_cons (pe_op op_add pe_int (pe_c cT hr (by decide) rfl (pa_cons (pv 0) (pa_cons (pv 2) pa_nil)))) pa_nil))
          (blkOk_by (N := nmEndless) (sc := defScope s_law_endless) (by decide +kernel)) (fun _ _ _ _ _ => pg_name (i := 7) nd rfl (Or.inl rfl)) (fun _ _ _ _ _ => pts_nil)
          (fun _ _ _ _ _ => pe_ix (ixL K) (pv 3) (pe_c cT hr (by decide) rfl (pa_cons (pv 0) (pa_cons (pe_callB (clen K) rfl Z.f_len boot_len (pa_cons (pv 3) pa_nil)) pa_nil))) (fun _ _ => rfl)))
      (pss_cons (ps_set (i := 5) nd rfl (Or.inl rfl) (pe_c cT hr (by decide) rfl (pa_cons (pv 0) (pa_cons (pe_ix ix_list (pe_lst (pa_cons pe_int (pa_cons pe_int (pa_cons pe_int pa_nil)))) (pe_c cT hr (by decide) rfl (pa_cons (pv 0) (pa_cons pe_int pa_nil))) (fun _ _ => rfl)) pa_nil))))
      (pss_cons (ps_setLc (i := 6) (own := [("_law_k", 7)]) (g := gName 7) (tt := tYes) rfl nd rfl rfl (sw_true rfl rfl rfl (by decide +kernel)) (pi_range1 rfl Z.f_range (pa_cons (pv 5) pa_nil))
          (blkOk_by (N := nmEndless) (sc := defScope s_law_endless) (by decide +kernel)) (fun _ _ _ _ _ => pg_name (i := 7) nd rfl (Or.inl rfl)) (fun _ _ _ _ _ => pts_nil)
          (fun _ _ _ _ _ => pe_ix (ixL K) (pv 1) (pe_c cT hr (by decide) rfl (pa_cons (pv 0) (pa_cons (pe_callB (clen K) rfl Z.f_len boot_len (pa_cons (pv 1) pa_nil)) pa_nil))) (fun _ _ => rfl)))
      (pss_one (ps_ret (pe_tup (pa_cons (pv 4) (pa_cons (pv 6) pa_nil)))))))), ?_⟩
    -- inside
    refine ⟨_, rfl, _, rfl, _, rfl, a, _, rfl, .inl (hB.le.seq hk), G, H0, b, _, rfl, hB, ?_, ?_, fun n Ha n0 n1 Ba => ?_⟩
    · rw [List.length_map]; omega
    · rw [List.length_map]; omega
    rw [List.length_map] at n1
    refine ⟨_, _, rfl, rfl, _, rfl, a, _, rfl, Ba.le.seq hk, fun p hp => ?_⟩
    have en : (1 : Int) + n = ((1 + n.toNat : Nat) : Int) := by omega
    rw [en, cutV_to, ← List.map_take]
    generalize hins : ks.take (1 + n.toNat) = ins
    have hil : ins.length = 1 + n.toNat := by rw [← hins, List.length_take]; omega
    have him : ∀ x ∈ ins, x ∈ ks := fun x hx => by rw [← hins] at hx; exact List.mem_of_mem_take hx
    have Bb := Ba.know (o := .lst (ins.map V.str)) hp
    have sb : Same H0 (upd H0 p (.lst (ins.map V.str))) := Same.new (Ba.le.free hp)
    have pb : upd H0 p (.lst (ins.map V.str)) p = some (.lst (ins.map V.str)) := upd_same
    generalize upd Ha p (.lst (ins.map V.str)) = Hb at Bb
    generalize upd H0 p (.lst (ins.map V.str)) = H01 at Bb sb pb
    -- block
    refine ⟨_, rfl, _, rfl, G, H01, b, m, rfl, Bb, by omega, by omega, fun n2 Hc n20 n21 Bc => ⟨_, _, rfl, rfl, _, rfl, by omega, by omega, fun D hD => ?_⟩⟩
    have e2 : ((1 : Int) + n2).toNat = 1 + n2.toNat := by omega
    rw [e2]
    refine drawn (ks := ks) (i := 7) Bc (by omega) hD (fun _ => rfl) ?_ ?_
    · intro j H' Q' B' q'
      refine ⟨_, rfl, _, rfl, _, rfl, p, _, rfl, .inl (SqL.of (B'.le _ _ pb)), G, hide b H', b, _, rfl, B'.hide, ?_, ?_, fun v H'' v0 v1 B'' => ?_⟩
      · rw [List.length_map]; omega
      · rw [List.length_map]; omega
      rw [List.length_map] at v1
      have hv : v.toNat < ins.length := by omega
      have hp' : H'' p = some (.lst (ins.map V.str)) := B''.keep (B'.le _ _ pb) (B'.ne pb)
      exact ⟨p, _, v, .str ins[v.toNat], rfl, rfl, SqL.of hp', at_ofA (j := v.toNat) (by omega) (by rw [List.getElem?_map, List.getElem?_eq_getElem hv]; rfl), q' _ H'' (him _ (List.getElem_mem hv)) B''⟩
    intro Bk Hd hBl hBk Bd hDd
    obtain ⟨oc, hoc⟩ := Bc.there
    have nDb : D ≠ b := Ne.symm (ne_of_none hoc hD)
    -- many
    refine ⟨_, rfl, by show 3 ≤ sizeLine; decide, fun l hl => ?_⟩
    have Be := Bd.new (o := .lst [.int 1, .int 4, .int 12]) hl
    have nlD : D ≠ l := ne_of_none hDd hl
    obtain ⟨od, hod⟩ := Bd.there
    have nlb : l ≠ b := Ne.symm (ne_of_none hod hl)
    refine ⟨_, rfl, G, hide b _, b, 3, rfl, Be.hide, by decide, by decide, fun z He z0 z1 Bf => ?_⟩
    have hlF := Bf.keep (a := l) upd_same nlb
    have hDF := Bf.keep (a := D) (by rw [upd_ne nlD]; exact hDd) nDb
    obtain ⟨u, e1, u1, u2⟩ : ∃ u : Nat, ([V.int 1, V.int 4, V.int 12] : List V)[z.toNat]? = some (.int (u : Nat)) ∧ 1 ≤ u ∧ u ≤ 12 := by
      have hz : z = 0 ∨ z = 1 ∨ z = 2 := by omega
      rcases hz with rfl | rfl | rfl
      · exact ⟨1, rfl, by decide, by decide⟩
      · exact ⟨4, rfl, by decide, by decide⟩
      · exact ⟨12, rfl, by decide, by decide⟩
    refine ⟨l, _, z, _, rfl, rfl, SqL.of hlF, at_ofA (j := z.toNat) (by omega) e1, ?_⟩
    have Bg := Be.back Bf
    refine ⟨G, hide b He, b, (u : Int), rfl, Bg.hide, by omega, by omega, fun y Hf y0 y1 Bh => ?_⟩
    have hDh := Bh.keep hDF nDb
    have Bi := Bg.back Bh
    -- recent
    refine ⟨_, rfl, y, rfl, by omega, by omega, fun D2 hD2 => ?_⟩
    have n2 : D ≠ D2 := ne_of_none hDh hD2
    have H01D : H01 D = none := Bc.le.free hD
    have Bj : Bag G (upd H01 D (.lst (Bk.map V.str))) Hf b := by
      refine Bi.more (Same.new H01D) (fun a o e => ?_) ?_
      · by_cases ea : a = D
        · rw [ea, upd_same] at e; rw [ea]; exact hDh.trans e
        · rw [upd_ne ea] at e; exact Bi.le a o e
      · rw [upd_ne (Ne.symm nDb)]; exact Bi.no
    refine drawn (ks := ks) (i := 7) Bj (by omega) hD2 (fun _ => rfl) ?_ ?_
    · intro j H' Q' B' q'
      have hka : SqL K H' a (ks.map V.str) := ((sb.trans (Same.new H01D)).trans B'.le).seq hk
      have hka2 : SqL K (hide b H') a (ks.map V.str) := ((sb.trans (Same.new H01D)).trans (hide_of B'.le B'.no)).seq hk
      refine ⟨_, rfl, _, rfl, _, rfl, a, _, rfl, .inl hka, G, hide b H', b, _, rfl, B'.hide, ?_, ?_, fun v H'' v0 v1 B'' => ?_⟩
      · rw [List.length_map]; omega
      · rw [List.length_map]; omega
      rw [List.length_map] at v1
      have hv : v.toNat < ks.length := by omega
      exact ⟨a, _, v, .str ks[v.toNat], rfl, rfl, B''.le.seq hka2, at_ofA (j := v.toNat) (by omega) (by rw [List.getElem?_map, List.getElem?_eq_getElem hv]; rfl), q' _ H'' (List.getElem_mem hv) B''⟩
    intro Rc Hg hRl hRk Bk2 hD2g
    refine ⟨_, rfl, _, rfl, by show 2 ≤ sizeLine; decide, fun t ht => ?_⟩
    have hDg : Hg D = some (.lst (Bk.map V.str)) := Bk2.le _ _ upd_same
    have HD2 : upd H01 D (.lst (Bk.map V.str)) D2 = none := Bj.le.free hD2
    have nD2b : D2 ≠ b := by
      obtain ⟨o, ho⟩ := Bj.there
      exact Ne.symm (ne_of_none ho hD2)
    have B3 : Bag G (upd (upd H01 D (.lst (Bk.map V.str))) D2 (.lst (Rc.map V.str))) Hg b := by
      refine Bk2.more (Same.new HD2) (fun a o e => ?_) ?_
      · by_cases ea : a = D2
        · rw [ea, upd_same] at e; rw [ea]; exact hD2g.trans e
        · rw [upd_ne ea] at e; exact Bk2.le a o e
      · rw [upd_ne (Ne.symm nD2b)]; exact Bk2.no
    have B4 := B3.know (o := .tup [.ref D, .ref D2]) ht
    have nDt : D ≠ t := ne_of_none hDg ht
    have nD2t : D2 ≠ t := ne_of_none hD2g ht
    refine q t D D2 Bk Rc _ _ (((sb.trans (Same.new H01D)).trans (Same.new HD2)).trans (Same.new (B3.le.free ht))) B4 upd_same ?_ ?_ hBk hRk (by omega) (by omega) (by omega)
    · rw [upd_ne nDt, upd_ne n2, upd_same]
    · rw [upd_ne nD2t, upd_same]
end
end Ku

/-! KuA7 -/
set_option Elab.async false
set_option linter.all false
set_option maxRecDepth 100000
set_option maxHeartbeats 8000000
namespace Ku
open PySem PySem.Spec PyProof.Rows L2
/-! ### a list of sets -/
abbrev Tups (H : Hp) (as : List Addr) (ts : List (List Str)) : Prop := Paired (fun (a : Addr) (s : List Str) => H a = some (.tup (s.map V.str))) as ts
theorem Tups.mono {H H' : Hp} {as : List Addr} {ts : List (List Str)} (h : Tups H as ts) (e : ∀ a xs, H a = some (.tup xs) → H' a = some (.tup xs)) : Tups H' as ts := Paired.mapP h fun a s q => e a _ q
theorem Tups.snoc : ∀ {H : Hp} {as : List Addr} {ts : List (List Str)} {a : Addr} {s : List Str}, Tups H as ts → H a = some (.tup (s.map V.str)) → Tups H (as ++ [a]) (ts ++ [s])
  | _, _, _, _, _, .nil, h => .cons h .nil
  | _, _, _, _, _, .cons r t, h => .cons r (Tups.snoc t h)
theorem Tups.app : ∀ {H : Hp} {as bs : List Addr} {ts us : List (List Str)}, Tups H as ts → Tups H bs us → Tups H (as ++ bs) (ts ++ us)
  | _, _, _, _, _, .nil, h => h
  | _, _, _, _, _, .cons r t, h => .cons r (Tups.app t h)
theorem Tups.len {H : Hp} {as : List Addr} {ts : List (List Str)} (h : Tups H as ts) : as.length = ts.length := Paired.length h
theorem Tups.dpa {K : PySem.W.Frag} : ∀ {H : Hp} {as : List Addr} {ts : List (List Str)}, Tups H as ts → DpAll K H (as.map V.ref) (ts.map dTp)
  | _, _, _, .nil => .nil
  | _, _, _, .cons r t => .cons (tup_dp (SqT.of r)) (Tups.dpa t)
theorem Tups.dp {K : PySem.W.Frag} {H : Hp} {a : Addr} {as : List Addr} {ts : List (List Str)} (h : Tups H as ts) (q : H a = some (.lst (as.map V.ref))) : Dp K H (.ref a) (dTk ts) := .lst (SqL.of q) h.dpa
/-- sets whose kinds differ, at most eight -/
def GoodTs (ts : List (List Str)) : Prop := ∀ s ∈ ts, s.Nodup ∧ s.length ≤ 8 ∧ ∀ k ∈ s, Kd k
theorem sIx_to {n d : Nat} (k : Nat) : HT.sIx n d (some (k : Int)) = min k n := HT.sIx_nat n d k
section
variable {X : Cx}
theorem slTA (K : PySem.W.Frag) (h : X.K = K := by rfl) : SlR X (rSlA K) := by subst h; exact sl_tupA
end
section
variable {P : Program} {w : World} {K : PySem.W.Frag} {mg : Str → Option Value} {base : Heap}
/-! ### _law_more_takes -/
def spMore (K : PySem.W.Frag) : Sp := fun vs H Q _ => ∃ (G : Addr × List Int) (H0 : Hp) (b a : Addr) (ks : List Str) (m : Nat), vs = [.ref b, .ref a, .int m] ∧ Bag G H0 H b ∧ H0 a = some (.lst (ks.map V.str)) ∧ 1 ≤ ks.length ∧ ks.length ≤ 8 ∧ ks.Nodup ∧ (∀ k ∈ ks, Kd k) ∧ m ≤ 10 ∧
  ∀ (t : Addr) (as : List Addr) (ts : List (List Str)) (H1 H' : Hp), Same H0 H1 → Bag G H1 H' b → H0 t = none → H1 t = some (.lst (as.map V.ref)) → Tups H1 as ts → GoodTs ts → ts.length ≤ m → Q (.ref t) H'
abbrev nmMore : List Str := ["_law_bag_here", "_law_kinds_here", "_law_most", "_law_more", "_law_k"]
theorem sc_law_more_takes : FnScope nmMore ["_law_bag_here", "_law_kinds_here", "_law_most"] (defScope s_law_more_takes) := fnScope_dec (by decide +kernel)
theorem cal_law_more_takes (Z : Say K mg) : Cal P w K mg base 3 "_law_more_takes" (spMore K) := by
  obtain ⟨fd, F⟩ := Z.D_law_more_takes
  have cT : Cal P w K mg base 1 "_law_take" spTake := cal_law_take Z
  have cS : Cal P w K mg base 2 "_law_set" (spSet K) := cal_law_set Z
  refine ⟨_, fd, ["_law_bag_here", "_law_kinds_here", "_law_most"], fn_ok F sc_law_more_takes (fun vs H Q E h => ?_) (fun cdv A outer s H vs Q E hr h => ?_), Z.g_law_more_takes, F.kp, F.bindsN fun _ _ _ _ _ _ us hl => match us, hl with | [_, _, _], _ => rfl⟩
  · obtain ⟨G, H0, b, a, ks, m, rfl, _⟩ := h
    rfl
  · obtain ⟨G, H0, b, a, ks, m, rfl, hB, hk, k1, k8, knd, kkd, m10, q⟩ := h
    have nd := sc_law_more_takes.nd
    refine ⟨_, pss_cons (ps_set (i := 3) nd rfl (Or.inr rfl) (pe_op op_cat (pv 1) (pe_op op_rep (pe_lst (pa_cons pe_str pa_nil)) (pe_callTy call_int1 rfl Z.f_int boot_int
          (pa_cons (pe_and (pe_cmpR op_eq (pe_c cT hr (by decide) rfl (pa_cons (pv 0) (pa_cons pe_int pa_nil))) pe_int (nomark _)) (pe_one (pe_cmpR op_notIn_seq pe_str (pv 1) (by rfl)))) pa_nil)))))
      (pss_one (ps_ret (pe_lc (own := [("_law_k", 4)]) (g := gName 4) (tt := tYes) rfl nd (pi_range1 rfl Z.f_range (pa_cons (pe_c cT hr (by decide) rfl (pa_cons (pv 0) (pa_cons (pe_op op_add (pv 2) pe_int) pa_nil))) pa_nil))
          (blkOk_by (N := nmMore) (sc := defScope s_law_more_takes) (by decide +kernel)) (fun _ _ _ _ _ => pg_name (i := 4) nd rfl (Or.inl rfl)) (fun _ _ _ _ _ => pts_nil)
          (fun _ _ _ _ _ => pe_slice (slTA K) (pe_c cS hr (by decide) rfl (pa_cons (pv 0) (pa_cons (pv 3) pa_nil))) po_none (po_some pe_int))))), ?_⟩
    obtain ⟨ob, hob⟩ := hB.there
    -- kinds + ['zzzzzzzy'] * int(..)
    have key : ∀ (H1 : Hp) (l : Addr) (c : Bool), Bag G H0 H1 b → H1 l = some (.lst [.str "zzzzzzzy"]) → (c = true → ¬ ("zzzzzzzy" : Str) ∈ ks) → ∀ (R : VK),
        (∀ (p : Addr) (mo : List Str) (H' : Hp), Bag G H0 H' b → H0 p = none → p ≠ b → H' p = some (.lst (mo.map V.str)) → 1 ≤ mo.length → mo.length ≤ 9 → mo.Nodup → (∀ k ∈ mo, Kd k) → R (.ref p) H') →
        rRep (.ref l) (.int (if c = true then 1 else 0)) H1 fun y H2 => rCat (.ref a) y H2 R := by
      intro H1 l c B1 hl hc R r
      refine ⟨l, _, _, rfl, rfl, hl, ?_, ?_, ?_, fun p hp => ?_⟩
      · cases c <;> decide
      · cases c <;> decide
      · cases c <;> decide
      have hpl : upd H1 p (.lst (List.replicate (if c = true then (1 : Int) else 0).toNat [V.str "zzzzzzzy"]).flatten) p = _ := upd_same
      have B2 := B1.new (o := .lst (List.replicate (if c = true then (1 : Int) else 0).toNat [V.str "zzzzzzzy"]).flatten) hp
      have hap : upd H1 p (.lst (List.replicate (if c = true then (1 : Int) else 0).toNat [V.str "zzzzzzzy"]).flatten) a = some (.lst (ks.map V.str)) := by
        have ha := B1.le _ _ hk
        rw [upd_ne (ne_of_none ha hp)]
        exact ha
      refine ⟨a, p, _, _, rfl, rfl, hap, hpl, ?_, fun p2 hp2 => ?_⟩
      · rw [List.length_map]
        cases c
        · exact Nat.le_trans (show ks.length + 0 ≤ 100 by omega) (by decide)
        · exact Nat.le_trans (show ks.length + 1 ≤ 100 by omega) (by decide)
      have B3 := B2.new (o := .lst (ks.map V.str ++ (List.replicate (if c = true then (1 : Int) else 0).toNat [V.str "zzzzzzzy"]).flatten)) hp2
      obtain ⟨o2, ho2⟩ := B2.there
      have fr : H0 p2 = none := B2.le.free hp2
      have nb : p2 ≠ b := Ne.symm (ne_of_none ho2 hp2)
      cases c
      · refine r p2 ks _ B3 fr nb ?_ (by omega) (by omega) knd kkd
        rw [upd_same]
        show some (HO.lst (ks.map V.str ++ [])) = _
        rw [List.append_nil]
      · refine r p2 (ks ++ [("zzzzzzzy" : Str)]) _ B3 fr nb ?_ (by simp) (by simp; omega) ?_ fun k hk => (List.mem_append.mp hk).elim (kkd k) fun h => by rw [List.mem_singleton.mp h]; unfold Kd; decide +kernel
        · rw [upd_same, List.map_append]
          rfl
        · refine List.nodup_append.mpr ⟨knd, by simp, fun x hx y hy e => ?_⟩
          rw [List.mem_singleton.mp hy] at e
          rw [e] at hx
          exact hc rfl hx
    refine ⟨_, rfl, by show 1 ≤ sizeLine; decide, fun l hl => ?_⟩
    have Ba := hB.new (o := .lst [.str "zzzzzzzy"]) hl
    have nlb : l ≠ b := Ne.symm (ne_of_none hob hl)
    refine ⟨_, rfl, G, hide b _, b, 4, rfl, Ba.hide, by decide, by decide, fun v Hb v0 v1 Bb => ⟨rfl, ?_⟩⟩
    have hlb := Bb.keep (a := l) upd_same nlb
    have Bc := Ba.back Bb
    have rest : ∀ (p : Addr) (mo : List Str) (H' : Hp), Bag G H0 H' b → H0 p = none → p ≠ b → H' p = some (.lst (mo.map V.str)) → 1 ≤ mo.length → mo.length ≤ 9 → mo.Nodup → (∀ k ∈ mo, Kd k) →
        (fun (x : V) H1 => gName 3 x (L2.start nmMore [V.ref b, V.ref a, V.int ↑m]) H1 fun σ H' => tRet (tLc (iRng1 (tCons (tCall spTake [] E0 (tCons (tVar 0) (tCons (tOp (rI0 fun i j => .int (i + j)) (tVar 2) (tC (.int 1))) tNil))) tNil)) (gName 4) tYes
          (tSl (rSlA K) (tCall (spSet K) [] E0 (tCons (tVar 0) (tCons (tVar 3) tNil))) tNoPart (tPart (tC (.int 8)))) [4]) { nx := fun _ H' => Q .non H', rt := Q } σ H') (.ref p) H' := by
      intro p mo H' B' hp0 hpb hp h1 h9 hn hkd
      refine ⟨_, rfl, _, rfl, _, _, rfl, rfl, G, hide b H', b, _, rfl, B'.hide, by omega, by omega, fun n Hc n0 n1 Bc => ⟨n, rfl, by omega, by omega, fun D hD => ?_⟩⟩
      obtain ⟨oc, hoc⟩ := Bc.there
      have nDb : D ≠ b := Ne.symm (ne_of_none hoc hD)
      have hpc := Bc.keep hp hpb
      have nDp : p ≠ D := ne_of_none hpc hD
      have Bd := B'.back Bc
      have hD0 : H0 D = none := Bd.le.free hD
      refine lc_range (lo := 0) (n := n.toNat) (fun i H' => ∃ (H1 : Hp) (as : List Addr) (ts : List (List Str)), Same H0 H1 ∧ Bag G H1 H' b ∧ H1 D = none ∧ H1 p = some (.lst (mo.map V.str)) ∧ H' D = some (.lst (as.map V.ref)) ∧ Tups H1 as ts ∧ GoodTs ts ∧ ts.length = i)
        ⟨upd H0 p (.lst (mo.map V.str)), [], [], Same.new hp0, ?_, by rw [upd_ne (Ne.symm nDp)]; exact hD0, upd_same, upd_same, .nil, (fun s hs => by cases hs), rfl⟩ ?_ ?_
      · have B2 : Bag G (upd H0 p (.lst (mo.map V.str))) Hc b := by
          refine Bd.more (Same.new hp0) (fun x o e => ?_) ?_
          · by_cases ex : x = p
            · rw [ex, upd_same] at e; rw [ex]; exact hpc.trans e
            · rw [upd_ne ex] at e; exact Bd.le x o e
          · rw [upd_ne (Ne.symm hpb)]; exact Bd.no
        exact B2.new hD
      · rintro i H' hi ⟨H1, as, ts, s1, B1, hD1, hp1, hd, tu, gt, hl⟩
        refine ⟨rfl, ?_⟩
        refine ⟨_, rfl, _, rfl, G, hide b H', b, p, mo, rfl, B1.hide, SqL.of (hide_at hpb (B1.le _ _ hp1)), h1, by omega, hn, fun t l H2 H'' s2 B2 ht0 ht lnd lmem l1 l9 => ?_⟩
        have hD2 : H2 D = some (.lst (as.map V.ref)) := s2 _ _ (hide_at nDb hd)
        have nDc : G.1 ≠ D := ne_of_none B1.cl hD1
        -- from here on all is known but the list that grows
        have low : ∀ (H3 H4 : Hp) (x : Addr) (s : List Str), Same H2 H3 → Bag G H3 H4 b → H3 x = some (.tup (s.map V.str)) → s.Nodup → s.length ≤ 8 → (∀ k ∈ s, Kd k) →
            ∃ acc, H4 D = some (.lst acc) ∧ acc.length < sizeLine ∧ ∃ (H1 : Hp) (as : List Addr) (ts : List (List Str)), Same H0 H1 ∧ Bag G H1 (upd H4 D (.lst (acc ++ [V.ref x]))) b ∧ H1 D = none ∧ H1 p = some (.lst (mo.map V.str)) ∧ (upd H4 D (.lst (acc ++ [V.ref x]))) D = some (.lst (as.map V.ref)) ∧ Tups H1 as ts ∧ GoodTs ts ∧ ts.length = i + 1 := by
          intro H3 H4 x s s3 B4 hx sn sl skd
          have hD3 := s3 _ _ hD2
          have hD4 := B4.le _ _ hD3
          refine ⟨_, hD4, ?_, hide D H3, as ++ [x], ts ++ [s], ?_, ?_, hide_same, hide_at nDp (s3 _ _ (s2 _ _ (hide_at hpb (B1.le _ _ hp1)))), ?_, Tups.snoc (tu.mono fun y xs e => ?_) (hide_at ?_ hx), fun z hz => ?_, by rw [List.length_append, hl]; rfl⟩
          · rw [List.length_map, tu.len, hl]; exact small1000 (by omega)
          · intro y o e
            have ny : y ≠ D := ne_of_none (s1 _ _ e) hD1
            exact hide_at ny (s3 _ _ (s2 _ _ (hide_at (B1.ne (s1 _ _ e)) (B1.le _ _ (s1 _ _ e)))))
          · have B5 : Bag G (hide D H3) H4 b := by
              refine B4.low hide_le ?_
              rw [hide_ne nDc]
              exact B4.cl
            exact B5.mut hide_same nDb
          · rw [upd_same, List.map_append]; rfl
          · have e1 : H1 y = some (.tup xs) := e
            have ny : y ≠ D := ne_of_none e1 hD1
            exact hide_at ny (s3 _ _ (s2 _ _ (hide_at (B1.ne e1) (B1.le _ _ e1))))
          · exact ne_of hx hD3 (fun z => by cases z)
          · rcases List.mem_append.mp hz with hz | hz
            · exact gt z hz
            · rw [List.mem_singleton.mp hz]; exact ⟨sn, sl, skd⟩
        refine ⟨8, rfl, t, _, rfl, SqT.of (B2.le _ _ ht), fun hw => ?_, fun hw p2 hp2 => ?_⟩
        · have h8 : l.length ≤ 8 := by
            have h2 := hw.2
            rw [show (8 : Int) = ((8 : Nat) : Int) from rfl, sIx_to, List.length_map] at h2
            omega
          exact low H2 H'' t l (Same.refl _) B2 ht lnd h8 fun k hk => hkd k (lmem k hk)
        · rw [show (8 : Int) = ((8 : Nat) : Int) from rfl, cutV_to, ← List.map_take]
          exact low _ _ p2 (l.take 8) (Same.new (B2.le.free hp2)) (B2.know hp2) upd_same (lnd.sublist (List.take_sublist _ _)) (by rw [List.length_take]; omega) fun k hk => hkd k (lmem k (List.mem_of_mem_take hk))
      · rintro H' ⟨H1, as, ts, s1, B1, hD1, hp1, hd, tu, gt, hl⟩
        refine q D as ts (upd H1 D (.lst (as.map V.ref))) H' (s1.trans (Same.new hD1)) ?_ hD0 upd_same (tu.mono fun y xs e => ?_) gt (by omega)
        · refine B1.more (Same.new hD1) (fun x o e => ?_) ?_
          · by_cases ex : x = D
            · rw [ex, upd_same] at e; rw [ex]; exact hd.trans e
            · rw [upd_ne ex] at e; exact B1.le x o e
          · rw [upd_ne (Ne.symm nDb)]; exact B1.no
        · rw [upd_ne (ne_of_none e hD1)]; exact e
    refine ⟨_, rfl, ?_⟩
    refine ite2 (fun c => ?_) (fun c => ?_)
    · refine ⟨_, rfl, a, _, rfl, .inl (SqL.of (Bc.le _ _ hk)), rfl, all_flat_strs ks, .inr ⟨!inV (.str "zzzzzzzy") (ks.map V.str), rfl, ?_⟩⟩
      refine key Hb l _ Bc hlb (fun e => ?_) _ rest
      rw [inV_strs] at e
      intro hm
      rw [decide_eq_true hm] at e
      cases e
    · exact .inr ⟨false, rfl, key Hb l false Bc hlb (fun e => by cases e) _ rest⟩
end
end Ku

/-! KuA8 -/
set_option Elab.async false
set_option linter.all false
set_option maxRecDepth 100000
set_option maxHeartbeats 8000000
namespace Ku
open PySem PySem.Spec PyProof.Rows L2
section
variable {P : Program} {w : World} {K : PySem.W.Frag} {mg : Str → Option Value} {base : Heap}
/-! ### _law_wide_scene -/
def spWide : Sp := fun vs H Q _ => ∃ (G : Addr × List Int) (H0 : Hp) (b : Addr), vs = [.ref b] ∧ Bag G H0 H b ∧
  ∀ (t lk lb lr : Addr) (m : Nat) (ks B R : List Str) (H1 H' : Hp), Same H0 H1 → Bag G H1 H' b → H1 t = some (.tup [.ref lk, .ref lb, .ref lr]) → H1 lk = some (.lst (ks.map V.str)) → H1 lb = some (.lst (B.map V.str)) → H1 lr = some (.lst (R.map V.str)) →
    GoodKs ks m → 1 ≤ m → m ≤ 8 → (∀ x ∈ B, x ∈ ks) → (∀ x ∈ R, x ∈ ks) → 1 ≤ B.length → B.length ≤ 10 → R.length ≤ 12 → Q (.ref t) H'
abbrev nmWide : List Str := ["_law_bag_here", "_law_wide", "_law_kinds_here", "_law_block", "_law_recent"]
theorem sc_law_wide_scene : FnScope nmWide ["_law_bag_here"] (defScope s_law_wide_scene) := fnScope_dec (by decide +kernel)
theorem cal_law_wide_scene (Z : Say K mg) : Cal P w K mg base 3 "_law_wide_scene" spWide := by
  obtain ⟨fd, F⟩ := Z.D_law_wide_scene
  have cT : Cal P w K mg base 1 "_law_take" spTake := cal_law_take Z
  have cK : Cal P w K mg base 2 "_law_kinds" spKinds := cal_law_kinds Z
  have cE : Cal P w K mg base 2 "_law_endless" (spEndless K) := cal_law_endless Z
  refine ⟨_, fd, ["_law_bag_here"], fn_ok F sc_law_wide_scene (fun vs H Q E h => ?_) (fun cdv A outer s H vs Q E hr h => ?_), Z.g_law_wide_scene, F.kp, F.bindsN fun _ _ _ _ _ _ us hl => match us, hl with | [_], _ => rfl⟩
  · obtain ⟨G, H0, b, rfl, _⟩ := h
    rfl
  · obtain ⟨G, H0, b, rfl, hB, q⟩ := h
    have nd := sc_law_wide_scene.nd
    refine ⟨_, pss_cons (ps_set (i := 1) nd rfl (Or.inl rfl) (pe_callTy call_int1 rfl Z.f_int boot_int (pa_cons (pe_cmpR op_eq (pe_c cT hr (by decide) rfl (pa_cons (pv 0) (pa_cons pe_int pa_nil))) pe_int (nomark _)) pa_nil)))
      (pss_cons (ps_set (i := 2) nd rfl (Or.inl rfl) (pe_c cK hr (by decide) rfl (pa_cons (pv 0) (pa_cons (pe_op op_add pe_int (pe_c cT hr (by decide) rfl (pa_cons (pv 0) (pa_cons (pe_ix ix_list (pe_lst (pa_cons pe_int (pa_cons pe_int pa_nil))) (pv 1) (fun _ _ => rfl)) pa_nil)))) pa_nil))))
      (pss_cons (ps_asg (pe_c cE hr (by decide) rfl (pa_cons (pv 0) (pa_cons (pv 2) (pa_cons (pe_ix ix_list (pe_lst (pa_cons pe_int (pa_cons pe_int pa_nil))) (pv 1) (fun _ _ => rfl)) pa_nil))))
          (pg_tup rfl (pgs_cons (pg_name (i := 3) nd rfl (Or.inl rfl)) (pgs_cons (pg_name (i := 4) nd rfl (Or.inl rfl)) pgs_nil))))
      (pss_one (ps_ret (pe_tup (pa_cons (pv 2) (pa_cons (pv 3) (pa_cons (pv 4) pa_nil)))))))), ?_⟩
    refine ⟨_, rfl, G, H0, b, 4, rfl, hB, by decide, by decide, fun v Ha v0 v1 Ba => ⟨rfl, .inr ⟨_, rfl, ?_⟩⟩⟩
    generalize hw : decide (V.int v = V.int 0) = wd
    -- kinds
    refine ⟨_, rfl, _, rfl, by show 2 ≤ sizeLine; decide, fun l hl => ?_⟩
    have Bb := Ba.new (o := .lst [.int 4, .int 8]) hl
    obtain ⟨u, e1, u1, u2⟩ : ∃ u : Nat, ([V.int 4, V.int 8] : List V)[(if wd = true then (1 : Int) else 0).toNat]? = some (.int (u : Nat)) ∧ 1 ≤ u ∧ u ≤ 8 := by
      cases wd
      · exact ⟨4, rfl, by decide, by decide⟩
      · exact ⟨8, rfl, by decide, by decide⟩
    have ew : ∀ c : Bool, (if c = true then (1 : Int) else 0) = (((if c = true then (1 : Int) else 0).toNat : Nat) : Int) := fun c => by cases c <;> rfl
    refine ⟨_, rfl, l, _, _, _, rfl, rfl, SqL.of upd_same, at_ofA (ew wd) e1, ?_⟩
    refine ⟨G, H0, b, u, rfl, Bb, by omega, by omega, fun n Hb n0 n1 Bc => ⟨_, _, rfl, rfl, ?_⟩⟩
    refine ⟨G, H0, b, 1 + n.toNat, by
      have e : (1 : Int) + n = ((1 + n.toNat : Nat) : Int) := by omega
      show ([V.ref b, V.int (1 + n)] : List V) = _
      rw [e], Bc, by omega, by omega, fun lk ks H1 Hc s1 Bd gk hlk0 hlk => ?_⟩
    -- block, recent
    refine ⟨_, rfl, _, rfl, by show 2 ≤ sizeLine; decide, fun l2 hl2 => ?_⟩
    have Be := Bd.new (o := .lst [.int 6, .int 10]) hl2
    obtain ⟨u', e2, u3, u4⟩ : ∃ u : Nat, ([V.int 6, V.int 10] : List V)[(if wd = true then (1 : Int) else 0).toNat]? = some (.int (u : Nat)) ∧ 1 ≤ u ∧ u ≤ 10 := by
      cases wd
      · exact ⟨6, rfl, by decide, by decide⟩
      · exact ⟨10, rfl, by decide, by decide⟩
    refine ⟨_, rfl, l2, _, _, _, rfl, rfl, SqL.of upd_same, at_ofA (ew wd) e2, ?_⟩
    refine ⟨G, H1, b, lk, ks, u', rfl, Be, SqL.of hlk, by rw [gk.len]; omega, by rw [gk.len]; omega, u3, u4, fun t lb lr B R H2 Hd s2 Bf ht hb hr' b1 b2 b3 b4 b5 => ?_⟩
    refine ⟨t, _, rfl, SqT.of (Bf.le _ _ ht), rfl, _, _, rfl, _, _, rfl, rfl, ?_⟩
    refine ⟨_, rfl, _, rfl, _, rfl, by show 3 ≤ sizeLine; decide, fun t2 ht2 => ?_⟩
    have fr := Bf.le.free ht2
    have nk := ne_of_none (s2 _ _ hlk) fr
    refine q t2 lk lb lr _ ks B R _ _ ((s1.trans s2).trans (Same.new fr)) (Bf.know (o := .tup [.ref lk, .ref lb, .ref lr]) ht2) upd_same ?_ ?_ ?_ gk (by omega) (by omega) b1 b2 b3 b4 b5
    · rw [upd_ne nk]; exact s2 _ _ hlk
    · rw [upd_ne (ne_of_none hb fr)]; exact hb
    · rw [upd_ne (ne_of_none hr' fr)]; exact hr'
theorem flat_one {α : Type} (x : α) : ∀ n : Nat, (List.replicate n [x]).flatten = List.replicate n x
  | 0 => rfl
  | n + 1 => by rw [List.replicate_succ, List.flatten_cons, flat_one x n]; rfl
theorem ins_perm {α : Type} (l : List α) (j : Nat) (y : α) : (l.take j ++ [y] ++ l.drop j).Perm (l ++ [y]) := by
  have h : (l.take j ++ [y] ++ l.drop j).Perm (l.take j ++ l.drop j ++ [y]) := by
    rw [List.append_assoc, List.append_assoc]
    exact List.Perm.append_left _ List.perm_append_comm
  rw [List.take_append_drop] at h
  exact h
/-! ### _law_slow_scene -/
def spSlow : Sp := fun vs H Q _ => ∃ (G : Addr × List Int) (H0 : Hp) (b : Addr) (n : Nat), vs = [.ref b, .int n] ∧ Bag G H0 H b ∧ n ≤ 20 ∧
  ∀ (t lk lb lt : Addr) (k0 k1 k2 : Str) (B : List Str) (as : List Addr) (H1 H' : Hp), Same H0 H1 → Bag G H1 H' b → H1 t = some (.tup [.ref lk, .ref lb, .ref lt]) → H1 lk = some (.lst [.str k0, .str k1, .str k2]) → H1 lb = some (.lst (B.map V.str)) → H1 lt = some (.lst (as.map V.ref)) →
    Tups H1 as [[k0], [k1], [k2]] → GoodKs [k0, k1, k2] 3 → B.Perm (List.replicate 7 k0 ++ List.replicate 8 k1 ++ List.replicate n k2) → Q (.ref t) H'
abbrev nmSlow : List Str := ["_law_bag_here", "_law_last", "_law_kinds_here", "_law_block", "_law_kind_here"]
theorem sc_law_slow_scene : FnScope nmSlow ["_law_bag_here", "_law_last"] (defScope s_law_slow_scene) := fnScope_dec (by decide +kernel)
theorem cal_law_slow_scene (Z : Say K mg) : Cal P w K mg base 3 "_law_slow_scene" spSlow := by
  obtain ⟨fd, F⟩ := Z.D_law_slow_scene
  have cT : Cal P w K mg base 1 "_law_take" spTake := cal_law_take Z
  have cK : Cal P w K mg base 2 "_law_kinds" spKinds := cal_law_kinds Z
  refine ⟨_, fd, ["_law_bag_here", "_law_last"], fn_ok F sc_law_slow_scene (fun vs H Q E h => ?_) (fun cdv A outer s H vs Q E hr h => ?_), Z.g_law_slow_scene, F.kp, F.bindsN fun _ _ _ _ _ _ us hl => match us, hl with | [_, _], _ => rfl⟩
  · obtain ⟨G, H0, b, n, rfl, _⟩ := h
    rfl
  · obtain ⟨G, H0, b, n, rfl, hB, hn, q⟩ := h
    have nd := sc_law_slow_scene.nd
    refine ⟨_, pss_cons (ps_par (i := 2) (j := 3) rfl nd rfl rfl (by decide) rfl rfl (pa_cons (pe_c cK hr (by decide) rfl (pa_cons (pv 0) (pa_cons pe_int pa_nil))) (pa_cons (pe_lst pa_nil) pa_nil)) (by rfl))
      (pss_cons (ps_for PassesOwn.never rfl (pi_list (pe_op op_cat (pe_op op_cat (pe_op op_rep (pe_lst (pa_cons (pe_ix ix_list (pv 2) pe_int (fun _ _ => rfl)) pa_nil)) pe_int) (pe_op op_rep (pe_lst (pa_cons (pe_ix ix_list (pv 2) pe_int (fun _ _ => rfl)) pa_nil)) pe_int)) (pe_op op_rep (pe_lst (pa_cons (pe_ix ix_list (pv 2) pe_int (fun _ _ => rfl)) pa_nil)) (pv 1))))
          (pg_name (i := 4) nd rfl (Or.inl rfl))
          (pss_one (ps_expr (pe_bm PySem.F.plainAttrs_list PySem.F.slot_list_insert PySem.F.type_list_insert mt_insert (pv 3) (pa_cons (pe_c cT hr (by decide) rfl (pa_cons (pv 0) (pa_cons (pe_op op_add (pe_callB call_len_seq rfl Z.f_len boot_len (pa_cons (pv 3) pa_nil)) pe_int) pa_nil))) (pa_cons (pv 4) pa_nil))))))
      (pss_one (ps_ret (pe_tup (pa_cons (pv 2) (pa_cons (pv 3) (pa_cons
        (pe_lc (own := [("_law_kind_here", 4)]) (g := gName 4) (tt := tYes) rfl nd (pi_list (pv 2)) (blkOk_by (N := nmSlow) (sc := defScope s_law_slow_scene) (by decide +kernel)) (fun _ _ _ _ _ => pg_name (i := 4) nd rfl (Or.inl rfl)) (fun _ _ _ _ _ => pts_nil)
          (fun _ _ _ _ _ => pe_tup (pa_cons (pv 4) pa_nil))) pa_nil))))))), ?_⟩
    have sz : ∀ {n : Nat}, n ≤ 100 → n ≤ sizeLine := fun h => Nat.le_trans h (by decide)
    -- the kinds, an empty block
    refine ⟨_, rfl, G, H0, b, 3, rfl, hB, by decide, by decide, fun lk ks H1 Ha s1 Ba gk _ hlk => ⟨sz (by decide), fun lb hlb => ⟨_, _, rfl, ?_⟩⟩⟩
    obtain ⟨k0, k1, k2, rfl⟩ : ∃ k0 k1 k2, ks = [k0, k1, k2] := by
      have h := gk.len
      match ks, h with
      | [a, b, c], _ => exact ⟨a, b, c, rfl⟩
    have Bb := Ba.new (o := .lst []) hlb
    have hlb0 : H1 lb = none := Ba.le.free hlb
    have hk : ∀ {H' : Hp}, Bag G H1 H' b → H' lk = some (.lst [.str k0, .str k1, .str k2]) := fun B => B.le _ _ hlk
    have hb0 : upd Ha lb (.lst []) lb = some (.lst ([] : List V)) := upd_same
    generalize upd Ha lb (.lst []) = Hb at Bb hb0
    -- what the loop walks
    refine ⟨_, rfl, lk, _, 0, .str k0, rfl, rfl, SqL.of (hk Bb), rfl, sz (by simp), fun p1 f1 => ?_⟩
    refine ⟨p1, 7, _, rfl, rfl, upd_same, by decide, by decide, sz (by simp), fun p2 f2 => ?_⟩
    refine ⟨_, rfl, lk, _, 1, .str k1, rfl, rfl, SqL.of (hk ((Bb.new f1).new f2)), rfl, sz (by simp), fun p3 f3 => ?_⟩
    refine ⟨p3, 8, _, rfl, rfl, upd_same, by decide, by decide, sz (by simp), fun p4 f4 => ?_⟩
    refine ⟨p2, p4, _, _, rfl, rfl, ((Same.new f3).trans (Same.new f4)) _ _ upd_same, upd_same, sz (by simp), fun p5 f5 => ?_⟩
    refine ⟨_, rfl, lk, _, 2, .str k2, rfl, rfl, SqL.of (hk (((((Bb.new f1).new f2).new f3).new f4).new f5)), rfl, sz (by simp), fun p6 f6 => ?_⟩
    refine ⟨_, rfl, p6, (n : Int), _, rfl, rfl, upd_same, by omega, by omega, sz (by simp; omega), fun p7 f7 => ?_⟩
    have B7 := fun o7 => ((((((Bb.new f1).new f2).new f3).new f4).new f5).new f6).new (o := o7) f7
    refine ⟨p5, p7, _, _, rfl, rfl, ((Same.new f6).trans (Same.new f7)) _ _ upd_same, upd_same, sz (by simp; omega), fun p8 f8 => ?_⟩
    have B8 := fun o8 => (B7 _).know (o := o8) f8
    have sAll := fun o7 => ((((((Same.new f1).trans (Same.new f2)).trans (Same.new f3)).trans (Same.new f4)).trans (Same.new f5)).trans (Same.new f6)).trans (Same.new (o := o7) f7)
    have eL : ∀ i : Int, i = (n : Int) → ((List.replicate (7 : Int).toNat [V.str k0]).flatten ++ (List.replicate (8 : Int).toNat [V.str k1]).flatten) ++ (List.replicate i.toNat [V.str k2]).flatten = (List.replicate 7 k0 ++ List.replicate 8 k1 ++ List.replicate n k2).map V.str := by
      rintro i rfl
      rw [flat_one, flat_one, flat_one, List.map_append, List.map_append, List.map_replicate, List.map_replicate, List.map_replicate]
      rfl
    have hb9 := fun o7 => sAll o7 _ _ hb0
    have m8 : lb ≠ p8 := ne_of_none (hb9 _) f8
    rw [eL _ rfl]
    have hb10 := fun o => Same.new (o := o) f8 _ _ (hb9 _)
    have B9 := B8 (.lst ((List.replicate 7 k0 ++ List.replicate 8 k1 ++ List.replicate n k2).map V.str))
    have hb11 := hb10 (.lst ((List.replicate 7 k0 ++ List.replicate 8 k1 ++ List.replicate n k2).map V.str))
    have f8H : H1 p8 = none := (B7 _).le.free f8
    have nbb : lb ≠ b := Bb.neS (l := []) hb0
    have s8 := Same.new (o := .lst ((List.replicate 7 k0 ++ List.replicate 8 k1 ++ List.replicate n k2).map V.str)) f8H
    have hlk8 := s8 _ _ hlk
    have hlb8 : upd H1 p8 (.lst ((List.replicate 7 k0 ++ List.replicate 8 k1 ++ List.replicate n k2).map V.str)) lb = none := by rw [upd_ne m8]; exact hlb0
    have hp8 : upd H1 p8 (.lst ((List.replicate 7 k0 ++ List.replicate 8 k1 ++ List.replicate n k2).map V.str)) p8 = some (.lst ((List.replicate 7 k0 ++ List.replicate 8 k1 ++ List.replicate n k2).map V.str)) := upd_same
    have s18 := s1.trans s8
    have hLl : (List.replicate 7 k0 ++ List.replicate 8 k1 ++ List.replicate n k2).length ≤ 35 := by
      simp
      omega
    generalize hLe : List.replicate 7 k0 ++ List.replicate 8 k1 ++ List.replicate n k2 = L at B9 hb11 s8 hlk8 hlb8 hp8 s18 hLl ⊢
    generalize upd H1 p8 (.lst (L.map V.str)) = Hk at B9 hlk8 hlb8 hp8 s18
    refine ⟨p8, rfl, ⟨_, SqL.of upd_same⟩, ?_⟩
    refine for_list (K := K) (a := p8) (xs := L.map V.str) (fun i σ H' => ∃ (B : List Str) (v : Option V), σ = [some (.ref b), some (.int n), some (.ref lk), some (.ref lb), v] ∧ Bag G Hk H' b ∧ H' lb = some (.lst (B.map V.str)) ∧ B.Perm (L.take i))
      ⟨[], none, rfl, B9, hb11, by rw [List.take_zero]⟩ (fun i σ H' _ ⟨_, _, _, B', _⟩ => SqL.of (B'.le _ _ hp8)) ?_ ?_
    · rintro i x σ H' hx ⟨B, v, rfl, B', hB', pm⟩
      obtain ⟨z, rfl, hz, _⟩ := map_str_get hx
      have hi : i < L.length := (List.getElem?_eq_some_iff.mp hz).1
      have hBl : B.length ≤ 35 := by rw [pm.length_eq, List.length_take]; omega
      refine ⟨_, rfl, .inl ⟨rfl, _, SqL.of hB'⟩, _, rfl, _, rfl, lb, _, rfl, .inl (SqL.of hB'), _, _, rfl, rfl, G, hide b H', b, _, rfl, B'.hide, ?_, ?_, fun u H'' u0 u1 B'' => ?_⟩
      · rw [List.length_map]; omega
      · rw [List.length_map]; omega
      have hB2 := B''.keep hB' nbb
      refine ⟨_, rfl, lb, _, u, .str z, rfl, rfl, hB2, ?_, u0, ?_, ?_⟩
      · rw [List.length_map]; exact small1000 (by omega)
      · rw [List.length_map] at u1; omega
      · have e : (B.map V.str).take u.toNat ++ [V.str z] ++ (B.map V.str).drop u.toNat = (B.take u.toNat ++ [z] ++ B.drop u.toNat).map V.str := by
          rw [List.map_append, List.map_append, List.map_take, List.map_drop]
          rfl
        rw [e]
        refine ⟨_, _, rfl, (B'.back B'').mut hlb8 nbb, upd_same, ?_⟩
        rw [List.take_add_one, hz]
        exact (ins_perm B u.toNat z).trans (pm.append (List.Perm.refl _))
    rintro σ Hd ⟨B, v, rfl, Bd, hBd, pm⟩
    rw [List.length_map, List.take_length] at pm
    -- the answer
    have hlkd := Bd.le _ _ hlk8
    refine ⟨_, rfl, _, rfl, _, rfl, lk, rfl, ⟨_, SqL.of hlkd⟩, fun D hD => ?_⟩
    have hDk : Hk D = none := Bd.le.free hD
    have nDb : D ≠ b := by
      obtain ⟨o, ho⟩ := Bd.there
      exact Ne.symm (ne_of_none ho hD)
    have nDl := ne_of_none hBd hD
    refine lc_list (K := K) (a := lk) (xs := [V.str k0, V.str k1, V.str k2]) (fun i H' => Bag G Hk H' b ∧ H' lb = some (.lst (B.map V.str)) ∧ ∃ as : List Addr, H' D = some (.lst (as.map V.ref)) ∧ Tups H' as (([k0, k1, k2].map fun k => [k]).take i))
      ⟨Bd.new hD, by rw [upd_ne nDl]; exact hBd, [], upd_same, .nil⟩ (fun i H' _ ⟨B', _⟩ => SqL.of (B'.le _ _ hlk8)) ?_ ?_
    · rintro i x H' hx ⟨B', hB', as, hd, tu⟩
      obtain ⟨z, rfl, hz, _⟩ := map_str_get (l := [k0, k1, k2]) hx
      refine ⟨rfl, ?_⟩
      have hi : i < 3 := (List.getElem?_eq_some_iff.mp hz).1
      refine ⟨_, rfl, by show 1 ≤ sizeLine; decide, fun t ht => ?_⟩
      have nDt := ne_of_none hd ht
      have nlt := ne_of_none hB' ht
      have hl : as.length ≤ 3 := by
        have h := tu.len
        rw [List.length_take] at h
        omega
      refine ⟨_, by rw [upd_ne nDt]; exact hd, ?_, (B'.new ht).mut hDk nDb, ?_, as ++ [t], ?_, ?_⟩
      · rw [List.length_map]; exact small1000 (by omega)
      · rw [upd_ne (Ne.symm (Ne.symm nDl)), upd_ne nlt]; exact hB'
      · rw [upd_same, List.map_append]; rfl
      · rw [List.take_add_one, List.getElem?_map, hz]
        refine Tups.snoc (tu.mono fun y xs e => ?_) ?_
        · rw [upd_ne (ne_of e hd (fun z => by cases z)), upd_ne (ne_of_none e ht)]; exact e
        · rw [upd_ne (Ne.symm nDt), upd_same]; rfl
    rintro He ⟨Be, hBe, as, hd, tu⟩
    refine ⟨sz (by simp), fun t ht => ?_⟩
    have Bf := Be.new (o := .tup [.ref lk, .ref lb, .ref D]) ht
    have ntb : t ≠ b := by
      obtain ⟨o, ho⟩ := Be.there
      exact Ne.symm (ne_of_none ho ht)
    have hlke := Be.le _ _ hlk8
    refine q t lk lb D k0 k1 k2 B as (hide b _) _ ((s18.trans (hide_of Bf.le Bf.no))) Bf.hide (hide_at ntb upd_same) (hide_at (Be.ne hlk8) ?_) (hide_at nbb ?_) (hide_at nDb ?_) (tu.mono fun y xs e => hide_at (Be.neT e) ?_) gk (hLe ▸ pm)
    · rw [upd_ne (ne_of_none hlke ht)]; exact hlke
    · rw [upd_ne (ne_of_none hBe ht)]; exact hBe
    · rw [upd_ne (ne_of_none hd ht)]; exact hd
    · rw [upd_ne (ne_of_none e ht)]; exact e
end
end Ku

/-! KuS -/
set_option Elab.async false
set_option linter.all false
set_option maxRecDepth 100000
set_option maxHeartbeats 8000000
/-! Sets of texts of any number: made of a list, of a comprehension, sorted. -/
namespace KuS
open PySem PySem.Spec PyProof.Rows L2
def keyS (e : Int × Value) : Str := match e.2 with | .str k _ => k | _ => Str.empty
def GoodS (w : World) (e : Int × Value) : Prop := ∃ k tk, e.2 = Value.str k tk ∧ e.1 = hashStr w k
/-- the set of texts at a: its members, in some order -/
def SetS (w : World) (h : Heap) (a : Addr) (L : List Str) : Prop :=
  ∃ o es ep t, h.get? a = some o ∧ o.ExactSet ∧ o.data = .set es ep t ∧ (∀ e ∈ es.toList, GoodS w e) ∧ (es.toList.map keyS).Perm L ∧ L.Nodup ∧
    es.size < scanBound ∧ t.fits es.size = true ∧ Ris t.place.toList ∧ (w.params.followText "set-order" = true ∨ t.led = true)
def addS (L : List Str) (k : Str) : List Str := if k ∈ L then L else L ++ [k]
theorem addS_len (L : List Str) (k : Str) : (addS L k).length ≤ L.length + 1 := by
  unfold addS
  split
  · omega
  · simp
theorem addS_nodup {L : List Str} (k : Str) (h : L.Nodup) : (addS L k).Nodup := by
  unfold addS
  split
  · exact h
  · rename_i n
    rw [List.nodup_append]
    exact ⟨h, List.pairwise_singleton _ _, fun a ha b hb => by rw [List.mem_singleton.mp hb]; exact fun e => n (e ▸ ha)⟩
theorem addS_mem {L : List Str} {k x : Str} : x ∈ addS L k ↔ x ∈ L ∨ x = k := by
  unfold addS
  split
  · rename_i n
    exact ⟨.inl, fun h => h.elim id fun e => e ▸ n⟩
  · simp
def ofS (xs : List Str) : List Str := xs.foldl addS []
theorem foldS_len : ∀ (xs L : List Str), (xs.foldl addS L).length ≤ L.length + xs.length
  | [], L => by simp
  | x :: r, L => by
    have := foldS_len r (addS L x)
    have := addS_len L x
    rw [List.foldl_cons, List.length_cons]
    omega
theorem foldS_nodup : ∀ (xs : List Str) {L : List Str}, L.Nodup → (xs.foldl addS L).Nodup
  | [], _, h => h
  | x :: r, _, h => foldS_nodup r (addS_nodup x h)
theorem foldS_mem {x : Str} : ∀ (xs L : List Str), x ∈ xs.foldl addS L ↔ x ∈ L ∨ x ∈ xs
  | [], L => by simp
  | y :: r, L => by
    rw [List.foldl_cons, foldS_mem r, addS_mem, List.mem_cons]
    constructor
    · rintro ((h | h) | h)
      · exact .inl h
      · exact .inr (.inl h)
      · exact .inr (.inr h)
    · rintro (h | h | h)
      · exact .inl (.inl h)
      · exact .inl (.inr h)
      · exact .inr h
theorem ofS_nodup (xs : List Str) : (ofS xs).Nodup := foldS_nodup xs List.nodup_nil
theorem ofS_mem {x : Str} {xs : List Str} : x ∈ ofS xs ↔ x ∈ xs := by
  unfold ofS
  rw [foldS_mem]
  simp
theorem ofS_len (xs : List Str) : (ofS xs).length ≤ xs.length := by
  have := foldS_len xs []
  simpa [ofS] using this
section
variable {P : Program} {w : World} {h h' : Heap} {a : Addr} {L : List Str}
theorem SetS.at (R : SetS w h a L) (k : ∀ o, h.get? a = some o → h'.get? a = some o) : SetS w h' a L := by
  obtain ⟨o, es, ep, t, e, r⟩ := R
  exact ⟨o, es, ep, t, k o e, r⟩
theorem elemsS {l : List (Int × Value)} (g : ∀ e ∈ l, GoodS w e) : ElemsOf (PySem.strKind P w) l := fun e he => by
  obtain ⟨k, tk, e1, e2⟩ := g e he
  exact ⟨⟨k, by rw [e1]; exact strKind_is P w k tk, e2⟩, by rw [e1]; rfl⟩
theorem good_isS {e : Int × Value} (g : GoodS w e) (k : Str) : (PySem.strKind P w).is k e.2 = true ↔ keyS e = k := by
  obtain ⟨k0, tk, e1, _⟩ := g
  unfold keyS
  rw [e1]
  constructor
  · intro q
    exact (PySem.strKind P w).inj _ _ _ (strKind_is P w k0 tk) q
  · rintro rfl
    exact strKind_is P w _ tk
end
section
variable {P : Program} {w : World} {A : Around} {E : Value → Shared → Prop} {s : Shared} {a : Addr} {L : List Str}
theorem tailS {g : Bool → Sem Unit} (hg : ∀ (b : Bool) (s₁ : Shared) (Q' : Unit → Shared → Prop), Q' () s₁ → wpAny (model P w) A (g b) Q' E s₁)
    {o : Obj} {es es1 : Array (Int × Value)} {ep : Nat} {t t2 : SetTable} (ho : s.heap.get? a = some o) (hex : o.ExactSet) (hd : o.data = .set es ep t)
    (g1 : ∀ e ∈ es1.toList, GoodS w e) (m1 : (es1.toList.map keyS).Perm L) (nd : L.Nodup)
    (hb1 : es1.size < scanBound) (hf2 : t2.fits es1.size = true) (hr : Ris t2.place.toList) (hl : w.params.followText "set-order" = true ∨ t2.led = true) {wasDummy : Bool} {R : Option Bool → Shared → Prop}
    (hR : ∀ h', Heap.SameBut a s.heap h' → SetS w h' a L → R (some true) { s with heap := h' }) :
    wpAny (model P w) A (do
        storeSet a es1 t2
        if (!wasDummy && t2.tooFull) = true then do
            g (relayAll t2 es1 (SetTable.grown es1.size)).2.2
            storeSet a (relayAll t2 es1 (SetTable.grown es1.size)).1 (relayAll t2 es1 (SetTable.grown es1.size)).2.1
            pure (some true)
          else pure (some true)) R E s := by
  refine wpAny_bind (wpAny_storeSet_of ho hd ?_ (fits_of_scanBound hb1))
  have q1 := store_at (es' := es1) (t' := t2) ho hd
  have b1 := Heap.SameBut.update s.heap a (Obj.putSet es1 t2)
  split
  · have z1 := relayAll_perm t2 es1 (SetTable.grown es1.size)
    have z2 := relayAll_fits t2 es1 (SetTable.grown es1.size)
    have z3 := relayAll_ris t2 es1 (SetTable.grown es1.size)
    have z4 := relayAll_led t2 es1 (SetTable.grown es1.size)
    generalize relayAll t2 es1 (SetTable.grown es1.size) = Z at z1 z2 z3 z4 ⊢
    obtain ⟨es2, t3, gave⟩ := Z
    dsimp only at z1 z2 z3 z4 ⊢
    have e2 : es2.size = es1.size := by rw [← Array.length_toList, z1.length_eq, Array.length_toList]
    have b2 : es2.size < scanBound := by omega
    refine wpAny_bind (hg _ _ _ (wpAny_bind (wpAny_storeSet_of q1 rfl ?_ (fits_of_scanBound b2))))
    have q2 := store_at (es' := es2) (t' := t3) q1 rfl
    exact wpAny_pure (hR _ (b1.trans (Heap.SameBut.update _ a _)) ⟨_, es2, _, t3, q2, hex, rfl, fun e he => g1 e (z1.mem_iff.mp he), (z1.map keyS).trans m1, nd, b2, z2, z3, hl.imp id fun z => by rw [z4]; exact z⟩)
  · exact wpAny_pure (hR _ b1 ⟨_, es1, _, t2, q1, hex, rfl, g1, m1, nd, hb1, hf2, hr, hl⟩)
theorem add_hashedS {k : Str} {tk : Tok} {Q : Bool → Shared → Prop} (R : SetS w s.heap a L) (room : L.length + 1 < scanBound)
    (hQ : ∀ b h', Heap.SameBut a s.heap h' → SetS w h' a (addS L k) → Q b { s with heap := h' }) :
    wpAny (model P w) A (setAddHashed a (.str k tk) ((PySem.strKind P w).hash k)) Q E s := by
  obtain ⟨o, es, ep, t, ho, hex, hd, g, pm0, nd, hb, hf, hr, hl⟩ := R
  have hkey : (PySem.strKind P w).is k (.str k tk) = true := strKind_is P w k tk
  have hsc : (Value.str k tk).scannable = true := rfl
  have hel : ElemsOf (PySem.strKind P w) es.toList := elemsS g
  have hn : es.size = L.length := by rw [← pm0.length_eq, List.length_map, Array.length_toList]
  unfold setAddHashed setAddHashedIn
  refine wpAny_holding (wpAny_bind (wpAny_setState_of ho hd hf ?_))
  dsimp only
  rw [byScan_of hsc hb hel]
  simp only [↓reduceIte]
  unfold setAddByScan
  refine wpAny_bind (wpAny_bind (wpAny_rule (wpAny_bind (wpAny_setScan_of hkey ho hd hf hel ?_))))
  cases hfi : List.findIdx? (fun e => (PySem.strKind P w).is k e.2) es.toList with
  | some j =>
    dsimp only
    obtain ⟨hj, pj, _⟩ := List.findIdx?_eq_some_iff_getElem.mp hfi
    have hk : k ∈ L := pm0.mem_iff.mp (List.mem_map.mpr ⟨es.toList[j], List.getElem_mem hj, (good_isS (P := P) (g _ (List.getElem_mem hj)) k).mp pj⟩)
    have q := hQ false s.heap (Heap.SameBut.refl a s.heap)
    unfold addS at q
    rw [if_pos hk] at q
    exact wpAny_pure (wpAny_pure (q ⟨o, es, ep, t, ho, hex, hd, g, pm0, nd, hb, hf, hr, hl⟩))
  | none =>
    dsimp only
    have hnk : k ∉ L := fun z => by
      obtain ⟨e, he, q⟩ := List.mem_map.mp (pm0.mem_iff.mpr z)
      have c := List.findIdx?_eq_none_iff.mp hfi e he
      rw [(good_isS (P := P) (g e he) k).mpr q] at c
      cases c
    have hgw : ∀ (b : Bool) {s₁ : Shared} {Q' : Unit → Shared → Prop}, Q' () s₁ → wpAny (model P w) A (match b with | true => rule "set.scan.the-table-gave-way" | false => pure ()) Q' E s₁ :=
      fun b s₁ Q' q => by cases b <;> first | exact wpAny_pure q | exact wpAny_rule q
    have pm := layNew_perm t es ((PySem.strKind P w).hash k) (.str k tk)
    have hf1 := layNew_fits t es ((PySem.strKind P w).hash k) (.str k tk)
    have hr1 := layNew_ris t es ((PySem.strKind P w).hash k) (.str k tk) hr
    have hl1 := layNew_led t es ((PySem.strKind P w).hash k) (.str k tk)
    generalize layNew t es ((PySem.strKind P w).hash k) (.str k tk) = Z at pm hf1 hr1 hl1 ⊢
    obtain ⟨es1, t1, wasDummy, gave⟩ := Z
    dsimp only at pm hf1 hr1 hl1 ⊢
    rw [Array.toList_push] at pm
    have pk : (es1.toList.map keyS).Perm (addS L k) := by
      have q := pm.map keyS
      rw [List.map_append] at q
      unfold addS
      rw [if_neg hnk]
      exact q.trans (pm0.append (List.Perm.refl _))
    have g1 : ∀ e ∈ es1.toList, GoodS w e := fun e he => by
      rcases List.mem_append.mp (pm.mem_iff.mp he) with z | z
      · exact g e z
      · rw [List.mem_singleton.mp z]; exact ⟨k, tk, rfl, rfl⟩
    have nd1 := addS_nodup k nd
    have hb1 : es1.size < scanBound := by
      have e1 := pk.length_eq
      rw [List.length_map, Array.length_toList] at e1
      have := addS_len L k
      omega
    have hled : w.params.followText "set-order" = true ∨ t1.led = true := hl.imp id fun z => by rw [hl1]; exact z
    refine wpAny_bind (hgw _ ?_)
    split
    · refine wpAny_bind ?_
      rw [hashByValue_scannable 8 hsc]
      refine wpAny_pure (tailS ?_ ho hex hd g1 pk nd1 hb1 ?_ ?_ ?_ ?_)
      · intro b s₁ Q' q; cases b <;> first | exact wpAny_pure q | exact wpAny_rule q
      · first | (split <;> first | exact hf1 | exact SetTable.fits_plain_off hf1) | exact hf1
      · first | (split <;> exact hr1) | exact hr1
      · first | (split <;> exact hled) | exact hled
      · intro h' sb r; dsimp only; exact wpAny_pure (hQ true h' sb r)
    · refine wpAny_bind (wpAny_pure ?_)
      simp only [↓reduceIte]
      refine tailS ?_ ho hex hd g1 pk nd1 hb1 hf1 hr1 hled ?_
      · intro b s₁ Q' q; cases b <;> first | exact wpAny_pure q | exact wpAny_rule q
      · intro h' sb r; dsimp only; exact wpAny_pure (hQ true h' sb r)
/-- a new set, as it is made -/
abbrev newS (w : World) : Obj := { cls := .type "set", dict := none, data := .set #[] 0 (.fresh 0 0 (!w.params.followText "set-order")) }
theorem setS_new {h : Heap} (ho : h.get? a = some (newS w)) : SetS w h a [] :=
  ⟨_, #[], 0, _, ho, ⟨rfl, rfl, rfl⟩, rfl, (fun e he => by simp at he), (by simp), List.nodup_nil, (by decide), (by rfl), List.Pairwise.nil, by
    show _ ∨ (!w.params.followText "set-order") = true
    cases w.params.followText "set-order"
    · exact .inr rfl
    · exact .inl rfl⟩
theorem updateS {I : Addr} {fp wr : List Addr} {G : Array GenState → Array GenState → Prop} {n : Nat} {Pv : Nat → Value → Prop} {St : Nat → Shared → Prop} {R : Result → Shared → Prop}
    (W : WalksS P w A.in1 I fp wr G n Pv St) (D : Addr) (hDf : D ∉ fp) (ns : List Str) (hn : n = ns.length) (hb : ns.length + 1 < scanBound) (hval : ∀ i v, Pv i v → ∃ k t, ns[i]? = some k ∧ v = .str k t) :
    ∀ (k i : Nat) (s : Shared), n - i = k → i ≤ n → St i s → SetS w s.heap D (ofS (ns.take i)) →
      (∀ s', Moved (D :: wr) G s s' → SetS w s'.heap D (ofS ns) → R (.ok (.ret .none)) s') →
      codeAny (model P w) A (.builtin "set.update.loop" ⟨[.ref D, .ref I], []⟩) R s := by
  have hDw : D ∉ wr := fun h => hDf (W.sub _ h)
  have hsub : ∀ b ∈ wr, b ∈ D :: wr := fun b hb => List.mem_cons_of_mem _ hb
  intro k
  induction k with
  | zero =>
    intro i s hk hi hst hD hR
    have hin : i = n := by omega
    subst hin
    refine codeAny_builtin F.entry_set_update_loop ?_
    rw [Around.under_plainId F.plain_set_update_loop _]
    show wpAny _ A.in1 (pyNext (.ref I) >>= _) _ _ s
    refine wpAny_bind (W.done s _ _ hst fun s' hm => ?_)
    show wpAny _ A.in1 (ret Value.none) _ _ s'
    rw [List.take_of_length_le (by omega)] at hD
    exact wpAny_pure (hR s' (hm.mono hsub) (hD.at fun o e => hm.heap D o hDw e))
  | succ k ih =>
    intro i s hk hi hst hD hR
    have hlt : i < n := by omega
    refine codeAny_builtin F.entry_set_update_loop ?_
    rw [Around.under_plainId F.plain_set_update_loop _]
    show wpAny _ A.in1 (pyNext (.ref I) >>= _) _ _ s
    refine wpAny_bind (W.item i s _ _ hlt hst fun v s' hP hst' hm => ?_)
    obtain ⟨z, t, hz, rfl⟩ := hval i v hP
    have hD' : SetS w s'.heap D (ofS (ns.take i)) := hD.at fun o e => hm.heap D o hDw e
    show wpAny _ A.in1 (holding [Value.str z t] (setAdd D (.str z t)) >>= _) _ _ s'
    refine wpAny_bind (wpAny_holding ?_)
    unfold setAdd
    refine wpAny_holding (wpAny_bind ((PySem.strKind P w).pyHash (k := z) (strKind_is _ _ _ _) ?_))
    have hle := ofS_len (ns.take i)
    rw [List.length_take] at hle
    refine add_hashedS (s := { s' with toks := s'.toks + 1 }) hD' (by omega) fun _ h' hsb hD2 => ?_
    have hD3 : SetS w h' D (ofS (ns.take (i + 1))) := by
      rw [List.take_add_one, hz]
      unfold ofS
      rw [List.foldl_append]
      exact hD2
    refine wpAny_pure ⟨plainId_quiet F.plain_set_update_loop _, ih (i + 1) _ (by omega) hlt (W.frame _ s' _ _ hst' (Nat.le_succ _) fun b hb o e => ?_) hD3 fun s'' hm'' hD'' => ?_⟩
    · rw [hsb.2 b (fun h : b = D => hDf (by rw [← h]; exact hb))]; exact e
    · refine hR s'' (Moved.trans W.gtrans ((hm.mono hsub).then_heap (Nat.le_succ _) fun b o hb e => ?_) hm'') hD''
      rw [hsb.2 b (fun h : b = D => hb (by rw [h]; exact List.mem_cons_self))]; exact e
set_option maxHeartbeats 12000000 in
theorem call_setS {l : Addr} {items : Array Value} (ns : List Str) {Q : Value → Shared → Prop} (hh : A.handled = none) (hl : s.heap.IsList l items) (hit : StrsAre items.toList ns) (hb : ns.length + 1 < scanBound)
    (h : ∀ (h' : Heap) (tk : Nat), SetS w h' s.heap.objs.size (ofS ns) → (∀ b o, s.heap.get? b = some o → h'.get? b = some o) → Q (.ref s.heap.objs.size) { s with heap := h', toks := tk }) :
    wpAny (model P w) A (call (.type "set") [.ref l]) Q E s := by
  have hisz : items.size = ns.length := by
    have q := StrsAre.len_eq hit
    rw [Array.length_toList] at q
    exact q.symm ▸ rfl
  obtain ⟨c, tl, hmro⟩ := F.called_set.mro
  have hmade := F.called_set.made
  have hsub := F.called_set.sub
  refine wpAny_call (codeAny_of_tree ?_)
  show wpAny _ _ (callAny (.type "set") _) _ _ _
  refine wpAny_pure ⟨Code.quiet_builtin _ (by decide +kernel), codeAny_builtin F.entry_type_call ?_⟩
  rw [Around.under_plain (weight_type_call_type "set" [.ref l] []) rfl]
  have h1 := F.called_set.notType
  have h2 := F.called_set.canCreate
  have hct := F.typeCall_set_1 (.ref l)
  repeat (any_goals (first | assumption | wp_step))

  refine codeAny_mono (code_set_led1 (.ref l) (E := E) (Q₁ := fun obj s₁ => obj = .ref s.heap.objs.size ∧ s₁ = { s with heap := s.heap.push (newS w) }) ⟨rfl, rfl⟩) fun r s₁ hr => ?_
  cases r with
  | error e => exact hr
  | ok fl =>
    cases fl with
    | ret obj =>
      obtain ⟨rfl, rfl⟩ := hr
      have hS : (s.heap.push (newS w)).get? s.heap.objs.size = some (newS w) := Heap.get?_push_size _ rfl
      have hT : Shared.TypeIs { s with heap := s.heap.push (newS w) } (.ref s.heap.objs.size) "set" := ⟨_, hS, rfl⟩
      have hli := F.called_set.init.lookup
      have hbi := F.called_set.init.bind (.ref s.heap.objs.size)
      repeat (any_goals (first | assumption | wp_step))

      refine codeAny_mono (codeAny_call_builtin (R := wants (fun r s₂ => r = .none ∧ ∃ h' tk, s₂ = { s with heap := h', toks := tk } ∧ SetS w h' s.heap.objs.size (ofS ns) ∧
          (∀ b o, s.heap.get? b = some o → h'.get? b = some o)) E) F.called_set.init.plain F.entry_set_init (check_set_init_1 hT ?_)) fun r₂ s₂ hr₂ => ?_
      · obtain ⟨⟨ocls, odict, odata, oslots⟩, hol, hcl, nl, hdl⟩ := hl
        simp only at hcl hdl
        subst hcl; subst hdl
        have hol' : (s.heap.push (newS w)).get? l = some { cls := .type "list", dict := odict, data := .seq items nl, slots := oslots } := Heap.get?_push_of_some _ hol
        have hsls := F.sub_list_set
        have hslf := F.sub_list_frozenset
        have hne : (Value.type "list" == Value.type "dict") = false := by decide
        have hl1 : (s.heap.push (newS w)).IsList l items := ⟨_, hol', rfl, nl, rfl⟩
        unfold Builtin.«set.__init__» noKeywords Builtin.Frozenset.updateFrom
        generalize hPI : pyIter = PI
        wp_walk
        subst hPI

        refine wpAny_pyIter_list hl1 ?_
        refine wpAny_bind (wpAny_runValue ?_)
        have hlS : l < s.heap.objs.size := Heap.lt_size hol
        have hh3 : A.in1.in1.in1.handled = none := by simp [hh]
        have hneI : l ≠ (s.heap.push (newS w)).objs.size := by rw [Heap.size_push]; exact Nat.ne_of_lt (Nat.lt_succ_of_lt hlS)
        have hSf : s.heap.objs.size ∉ [(s.heap.push (newS w)).objs.size, l] := by
          rw [Heap.size_push]
          simp only [List.mem_cons, List.not_mem_nil, or_false, not_or]
          exact ⟨Nat.ne_of_lt (Nat.lt_succ_self _), Nat.ne_of_gt hlS⟩
        have hval : ∀ (i : Nat) (v : Value), items[i]? = some v → ∃ k t, ns[i]? = some k ∧ v = .str k t := fun i v hv => by
          have hi : i < ns.length := by rw [← hisz]; exact (Array.getElem?_eq_some_iff.mp hv).1
          obtain ⟨t, e⟩ := SS.strs_at hit i v (by rw [Array.getElem?_toList]; exact hv)
          refine ⟨ns[i], t, List.getElem?_eq_getElem hi, ?_⟩
          rw [e, List.getD_eq_getElem?_getD, List.getElem?_eq_getElem hi] <;> rfl
        refine updateS ((Walks.list hh3 _ l hneI items).toS) s.heap.objs.size
          hSf ns hisz hb hval (items.size - 0) 0 _ (by omega) (Nat.zero_le _)
          ⟨⟨_, Heap.get?_push_size _ rfl, rfl, rfl⟩, (hl1.push _)⟩ ?hS0 ?hR
        case hS0 => exact setS_new (Heap.get?_push_of_some _ hS)
        case hR =>
          intro s' hm hS'
          obtain ⟨h', g2, d', tk', os'⟩ := s'
          have eg : g2 = s.gens := hm.gens
          have ed : d' = s.drawn := hm.drawn
          have eo : os' = s.os := hm.os
          subst eg; subst ed; subst eo
          show wpAny _ _ _ _ _ _
          refine wpAny_pure ?_
          show wpAny _ _ (ret Value.none) _ _ _
          refine wpAny_pure ⟨rfl, h', tk', rfl, hS', fun b o e => ?_⟩
          have hb0 : b < s.heap.objs.size := Heap.lt_size e
          refine hm.heap b o ?_ (Heap.get?_push_of_some _ (Heap.get?_push_of_some _ e))
          rw [Heap.size_push]
          simp only [List.mem_cons, List.not_mem_nil, or_false, not_or]
          exact ⟨Nat.ne_of_lt hb0, Nat.ne_of_lt (Nat.lt_succ_of_lt hb0)⟩

      · cases r₂ with
        | error e => exact hr₂
        | ok fl₂ =>
          cases fl₂ with
          | ret r =>
            obtain ⟨rfl, h', tk, rfl, hS', hk'⟩ := hr₂
            repeat (any_goals (first | assumption | wp_step))
            exact h _ _ hS' hk'
          | _ => exact hr₂.elim
    | _ => exact hr.elim
end
end KuS

/-! KuS2 -/
set_option Elab.async false
set_option linter.all false
set_option maxRecDepth 100000
set_option maxHeartbeats 4000000
namespace KuS
open PySem PySem.Spec PyProof.Rows PySem.W L2
/-! ### sorting texts -/
def leS (x y : Str) : Bool := decide (x.cps.toList ≤ y.cps.toList)
theorem leS_trans (x y z : Str) (h1 : leS x y = true) (h2 : leS y z = true) : leS x z = true :=
  decide_eq_true (List.le_trans (of_decide_eq_true h1) (of_decide_eq_true h2))
theorem leS_total (x y : Str) : (leS x y || leS y x) = true := by
  rcases List.le_total x.cps.toList y.cps.toList with h | h
  · simp [leS, h]
  · simp [leS, h]
theorem leS_anti {x y : Str} (h1 : leS x y = true) (h2 : leS y x = true) : x = y := by
  have e := List.le_antisymm (of_decide_eq_true h1) (of_decide_eq_true h2)
  obtain ⟨⟨a⟩⟩ := x
  obtain ⟨⟨b⟩⟩ := y
  exact congrArg (fun l => Str.mk (Array.mk l)) e
def srt (L : List Str) : List Str := L.mergeSort leS
theorem srt_perm (L : List Str) : (srt L).Perm L := List.mergeSort_perm L leS
theorem srt_pw (L : List Str) : (srt L).Pairwise fun x y => leS x y = true := List.pairwise_mergeSort leS_trans leS_total L
theorem srt_uniq {l m : List Str} (h : l.Perm m) (h1 : l.Pairwise fun x y => leS x y = true) (h2 : m.Pairwise fun x y => leS x y = true) : l = m :=
  h.eq_of_pairwise (fun _ _ _ _ a b => leS_anti a b) h1 h2
theorem srt_congr {l m : List Str} (h : l.Perm m) : srt l = srt m := srt_uniq ((srt_perm l).trans (h.trans (srt_perm m).symm)) (srt_pw l) (srt_pw m)
theorem srt_id {l : List Str} (h : l.Pairwise fun x y => leS x y = true) : srt l = l := srt_uniq (srt_perm l) (srt_pw l) h
/-- the kinds of a list, sorted, each once -/
def kset (xs : List Str) : List Str := srt (ofS xs)
theorem kset_mem {x : Str} {xs : List Str} : x ∈ kset xs ↔ x ∈ xs := by
  unfold kset
  rw [(srt_perm _).mem_iff, ofS_mem]
theorem kset_nodup (xs : List Str) : (kset xs).Nodup := (srt_perm _).nodup_iff.mpr (ofS_nodup xs)
theorem kset_pw (xs : List Str) : (kset xs).Pairwise fun x y => leS x y = true := srt_pw _
theorem kset_len (xs : List Str) : (kset xs).length ≤ xs.length := by
  unfold kset
  rw [(srt_perm _).length_eq]
  exact ofS_len xs
theorem kset_congr {xs ys : List Str} (h : ∀ x, x ∈ xs ↔ x ∈ ys) : kset xs = kset ys := by
  refine srt_congr ((List.perm_ext_iff_of_nodup (ofS_nodup xs) (ofS_nodup ys)).mpr fun x => ?_)
  rw [ofS_mem, ofS_mem]
  exact h x
theorem kset_id {ks : List Str} (h : ks.Pairwise fun x y => leS x y = true) (hn : ks.Nodup) : kset ks = ks := by
  refine srt_uniq ((srt_perm _).trans ((List.perm_ext_iff_of_nodup (ofS_nodup ks) hn).mpr fun x => ofS_mem)) (srt_pw _) h
theorem kset_kset (xs : List Str) : kset (kset xs) = kset xs := kset_id (kset_pw xs) (kset_nodup xs)

theorem dataLe_strs : dataLe false PyData.str = leS := dataLe_str fun x => x
theorem ks_strs {vs : List Value} {ns : List Str} (h : StrsAre vs ns) : EachIs (fun v (x : Str) => ∃ t, v = .str x t) vs ns := by
  induction h with
  | nil => exact .nil
  | cons k t _ ih => exact .cons ⟨t, rfl⟩ ih
theorem strs_ks {vs : List Value} {ns : List Str} (h : EachIs (fun v (x : Str) => ∃ t, v = .str x t) vs ns) : StrsAre vs ns := by
  induction h with
  | nil => exact .nil
  | cons h1 _ ih =>
    obtain ⟨t, rfl⟩ := h1
    exact .cons _ t ih
section
variable {P : Program} {w : World} {A : Around} {E : Value → Shared → Prop} {s : Shared} {a : Addr} {L : List Str}
theorem sorted_setS {Q : Value → Shared → Prop} (R : SetS w s.heap a L) (hh : A.handled = none) (hu : A.units + 64 < cLine)
    (hQ : ∀ s' p (out : List Value) (c : Nat), (∀ b o, s.heap.get? b = some o → s'.heap.get? b = some o) → s'.gens = s.gens → s'.os = s.os → s.heap.objs.size ≤ p →
      s'.heap.get? p = some (seqObj "list" out.toArray c) → StrsAre out (srt L) → Q (.ref p) s') :
    wpAny (model P w) A (call (.builtin "sorted") [.ref a]) Q E s := by
  obtain ⟨o, es, ep, t, ho, hex, hd, g, pm0, nd, hb, hf, hr, hl⟩ := R
  refine Calls.call_function_entry kind_sorted plain_sorted entry_sorted (args_sorted1 _) ?_
  unfold Builtin.«sorted»
  refine wpAny_bind (m := checkCount "sorted" 1 1 _) (wpAny_pure (wpAny_bind (collect_set (A := A.in1) hh ⟨o, ho, hex.1, hd⟩ hf hb hr hl fun s1 vs k1 hz g1 o1 pm => ?_)))
  have hS : ∀ (l : List Value), (∀ v ∈ l, ∃ e ∈ es.toList, e.2 = v) → ∃ ns, StrsAre l ns ∧ ns = l.map fun v => keyS (0, v) := by
    intro l
    induction l with
    | nil => intro _; exact ⟨[], .nil, rfl⟩
    | cons v l ih =>
      intro hm
      obtain ⟨e, he, ev⟩ := hm v (List.mem_cons_self ..)
      obtain ⟨k, tk, e1, _⟩ := g e he
      obtain ⟨ns, h1, h2⟩ := ih fun u hu => hm u (List.mem_cons_of_mem _ hu)
      subst ev
      rw [e1]
      exact ⟨k :: ns, .cons k tk h1, by rw [h2]; rfl⟩
  obtain ⟨ns, hns, ens⟩ := hS vs fun v hv => by
    obtain ⟨e, he, q⟩ := List.mem_map.mp (pm.mem_iff.mp hv)
    exact ⟨e, he, q⟩
  have pn : ns.Perm L := by
    refine List.Perm.trans ?_ pm0
    rw [ens]
    have q := pm.map fun v => keyS (0, v)
    rw [List.map_map] at q
    exact q
  have hlen : vs.length = ns.length := by rw [ens, List.length_map]
  have hvl : vs.length ≤ sizeLine := by
    rw [hlen, pn.length_eq, ← pm0.length_eq, List.length_map, Array.length_toList]
    exact fits_of_scanBound hb
  refine wpAny_bind (wpAny_newList ?_ hvl)
  have hoL : (s1.heap.push (seqObj "list" vs.toArray 0)).get? s1.heap.objs.size = some (seqObj "list" vs.toArray 0) := Heap.get?_push_size _ rfl
  refine wpAny_bind (wpAny_holding (PySem.W.list_sort_data (s := { s1 with heap := s1.heap.push (seqObj "list" vs.toArray 0) }) (enc := PyData.str) hoL (ks_strs hns) ((ks_strs hns).mono fun v x ⟨t, e⟩ => ⟨[], by rw [e]; exact Reads.str x t, by simp⟩)
    (PySem.W.AllAlike.of fun _ _ => rfl) (PySem.W.Sortable.others fun _ => ⟨(fun z => nomatch z), fun _ z => nomatch z⟩) (by rw [← hlen]; exact hvl) (fun b _ => by show A.units + 1 + 1 + 0 < cLine; omega) fun out h1 h2 => ?_))
  obtain ⟨c, hc⟩ := sortedHeap_at (vs := vs) (out := out.toArray) hoL
  rw [dataLe_strs] at h2
  refine wpAny_pure ⟨_, rfl, hQ _ s1.heap.objs.size out c (fun b u e => ?_) g1 o1 hz hc ?_⟩
  · have q := k1 b u e
    have hlt := Heap.lt_size q
    show (sortedHeap (s1.heap.push (seqObj "list" vs.toArray 0)) s1.heap.objs.size vs out.toArray).get? b = some u
    rw [sortedHeap_old (Nat.ne_of_lt hlt) (by rw [size_push']; exact Nat.lt_succ_of_lt hlt)]
    exact Heap.get?_push_of_some _ q
  · have q := strs_ks h2
    rw [← srt_congr pn]
    exact q
end
/-! ### as rules -/
/-- the set of texts at a -/
def SetSO (w : World) (a : Addr) (L : List Str) : HO := .ext fun h => SetS w h a L
section
variable {X : Cx}
theorem setSO_new {w : World} {P : Program} {H : Hp} {h : Heap} {a : Addr} {L : List Str} (R : SetS w h a L) : ObjOk P w H h a (SetSO w a L) := by
  have ⟨o, _, _, _, ho, _⟩ := R
  exact ⟨R, ⟨o, ho⟩, fun h1 h2 p k => SetS.at p k⟩
theorem setSO_get {pins : List (Addr × Obj)} {σ : L2.St} {H : Hp} {s : Shared} {a : Addr} {L : List Str} (I : Inv X pins σ H s) (ha : H a = some (SetSO X.w a L)) : SetS X.w s.heap a L := (I.hok a _ ha).1
/-- set(xs) of a list of texts -/
def rSetS (K : PySem.W.Frag) (w : World) : List V → Hp → VK → Prop := fun xs H Q => ∃ (l : Addr) (ns : List Str), xs = [V.ref l] ∧ SqL K H l (ns.map V.str) ∧ ns.length ≤ 4000 ∧
  ∀ p, H p = none → Q (.ref p) (upd H p (SetSO w p (ofS ns)))
theorem cr_setS (hc : X.calm = true) : CallR X (.type "set") (rSetS X.K X.w) := by
  intro pins s σ H xs us Q I r h
  obtain ⟨l, ns, rfl, hl, hn, q⟩ := h
  rw [Vals.ref1 r]
  obtain ⟨its, rv, pl, hz⟩ := I.list hl
  refine call_setS (P := X.prog) (w := X.w) ns (I.ok.hd hc) pl.isList (by simpa using strsAre_of rv) (by unfold scanBound; omega) fun h' tk R k => ?_
  exact ⟨.ref s.heap.objs.size, upd H s.heap.objs.size (SetSO X.w s.heap.objs.size (ofS ns)), I.laid (t' := tk) k (Nat.le_refl _) (setSO_new R), rfl, q _ (I.hok.fresh (Nat.le_refl _))⟩
/-- sorted of it -/
def rSortSS (w : World) : List V → Hp → VK → Prop := fun vs H Q => ∃ (a : Addr) (L : List Str), vs = [V.ref a] ∧ H a = some (SetSO w a L) ∧ L.length ≤ 4000 ∧
  ∀ p, H p = none → Q (.ref p) (upd H p (.lst ((srt L).map V.str)))
theorem cr_sortSS (hc : X.calm = true) (hu : X.A.units + 64 < cLine) : CallR X (.builtin "sorted") (rSortSS X.w) := by
  intro pins s σ H vs us Q I r h
  obtain ⟨a, L, rfl, ha, h4, q⟩ := h
  have R := setSO_get I ha
  rw [Vals.ref1 r]
  refine sorted_setS R (I.ok.hd hc) hu fun s' p out c k g o hp hg hi => ?_
  have hlen : ((srt L).map V.str).length ≤ sizeLine := by
    rw [List.length_map, (srt_perm L).length_eq]
    exact Nat.le_trans h4 (by decide)
  have hn : H p = none := I.hok.fresh hp
  have J : Inv X pins σ (upd H p (.lst ((srt L).map V.str))) { s with heap := s'.heap, gens := s'.gens, drawn := s'.drawn, toks := s'.toks } :=
    I.call (ch := []) (Un.laid k hp hn) (I.hok.laid k hp ⟨hlen, out, c, vals_of_strs (by simpa using hi), hg⟩) (by rw [g]; exact I.bare) (fun _ z => nomatch z)
  have e : s' = { s with heap := s'.heap, gens := s'.gens, drawn := s'.drawn, toks := s'.toks } := by
    obtain ⟨a1, a2, a3, a4, a5⟩ := s'
    have : a5 = s.os := o
    subst this
    rfl
  rw [e]
  exact ⟨.ref p, _, J, rfl, q p hn⟩
/-- len of it -/
theorem cr_lenSS : CallR X (.builtin "len") (fun vs H Q => ∃ (a : Addr) (L : List Str), vs = [V.ref a] ∧ H a = some (SetSO X.w a L) ∧ Q (.int L.length) H) := by
  intro pins s σ H vs us Q I r h
  obtain ⟨a, L, rfl, ha, q⟩ := h
  obtain ⟨o, es, ep, t, ho, hex, hd, g, pm0, nd, hb, hf, hr, hl⟩ := setSO_get I ha
  rw [Vals.ref1 r]
  have hn : es.size = L.length := by rw [← pm0.length_eq, List.length_map, Array.length_toList]
  exact call_len_set ho hex hd hf (Int.ofNat_lt.mpr (Nat.lt_of_lt_of_le hb (by decide)) : ((es.size : Nat) : Int) < ((2 ^ 63 : Nat) : Int)) ⟨.int L.length, H, I.tok _, ⟨_, by rw [hn]⟩, q⟩
end
end KuS

/-! KuD -/
set_option Elab.async false
set_option linter.all false
set_option maxRecDepth 100000
set_option maxHeartbeats 4000000
/-! Rules for lists of pairs as data: sorted, min; sorted(d.items()). -/
namespace KuD
open PySem PySem.Spec PyProof.Rows PySem.W L2 KuS Ku
/-- (place, kind), (kind, number) -/
abbrev eP (x : Nat × Str) : PyData := .tuple [.int (x.1 : Nat), .str x.2]
abbrev eK (x : Str × Int) : PyData := .tuple [.str x.1, .int x.2]
theorem alike_eP (x y : Nat × Str) : alike (eP x) (eP y) = true := by simp [alike, alikeAll]
theorem alike_eK (x y : Str × Int) : alike (eK x) (eK y) = true := by simp [alike, alikeAll]
/-- the order of two places, of two kinds -/
theorem leP {x y : Nat × Str} (h : dataLe false eP x y = true) : x.1 ≤ y.1 := by
  rw [dataLe_eq] at h
  have h : (!dataLt (eP y) (eP x)) = true := h
  unfold eP at h
  rw [dataLt_pair rfl rfl] at h
  rcases Nat.lt_or_ge y.1 x.1 with c | c
  · have e1 : PyData.eqv (.int (y.1 : Nat)) (.int (x.1 : Nat)) = false := by
      show decide _ = false
      exact decide_eq_false (by omega)
    have e2 : dataLt (.int (y.1 : Nat)) (.int (x.1 : Nat)) = true := by
      rw [dataLt_int]
      exact decide_eq_true (by omega)
    rw [e1] at h
    simp [e2] at h
  · exact c
theorem leK {x y : Str × Int} (h : leS x.1 y.1 = true) (n : x.1 ≠ y.1) : dataLe false eK x y = true := by
  rw [dataLe_eq]
  show (!dataLt (eK y) (eK x)) = true
  unfold eK
  rw [dataLt_pair rfl rfl]
  have e1 : PyData.eqv (.str y.1) (.str x.1) = false := by
    show decide _ = false
    exact decide_eq_false fun e => n e.symm
  have e2 : dataLt (.str y.1) (.str x.1) = false := by
    have q := congrFun (congrFun dataLe_strs x.1) y.1
    rw [dataLe_eq] at q
    have q : (!dataLt (.str y.1) (.str x.1)) = leS x.1 y.1 := q
    rw [h] at q
    simpa using q
  rw [e1]
  simp [e2]
theorem pairs_sorted (l : List (Nat × Str)) : (l.mergeSort (dataLe false eP)).Pairwise fun x y => x.1 ≤ y.1 :=
  (sort_pairwise (sortLe_total _ false _) l).imp fun h => leP h
theorem eachOf {K : PySem.W.Frag} {X : Cx} {pins : List (Addr × Obj)} {σ : L2.St} {H : Hp} {s : Shared} {β : Type} {enc : β → PyData} (hK : X.K = K) (I : Inv X pins σ H s) : ∀ {vs : List V} {us : List Value} {bs : List β}, DpAll K H vs (bs.map enc) → Vals vs us →
    EachIs (fun u b => ∃ v, RelV v u ∧ Dp K H v (enc b)) us bs ∧ EachIs (fun u b => ∃ as, Reads s.heap u (enc b) as) us bs
  | [], _, [], _, r => by cases r; exact ⟨.nil, .nil⟩
  | [], _, _ :: _, d, _ => by cases d
  | _ :: _, _, [], d, _ => by cases d
  | v :: vs, _, b :: bs, d, r => by
    cases d with
    | cons d1 d2 =>
      cases r with
      | cons r1 r2 =>
        obtain ⟨e1, e2⟩ := eachOf hK I d2 r2
        subst hK
        exact ⟨.cons ⟨v, r1, d1⟩ e1, .cons (Dp.reads I _ _ _ d1 r1) e2⟩
theorem backOf {K : PySem.W.Frag} {H : Hp} {β : Type} {enc : β → PyData} : ∀ {us : List Value} {bs : List β}, EachIs (fun u b => ∃ v, RelV v u ∧ Dp K H v (enc b)) us bs → ∃ vs, Vals vs us ∧ DpAll K H vs (bs.map enc)
  | [], [], _ => ⟨[], .nil, .nil⟩
  | [], _ :: _, h => by cases h
  | _ :: _, [], h => by cases h
  | _ :: _, _ :: _, h => by
    cases h with
    | cons h1 h2 =>
      obtain ⟨v, r, d⟩ := h1
      obtain ⟨vs, r2, d2⟩ := backOf h2
      exact ⟨v :: vs, .cons r r2, .cons d d2⟩
theorem reads_pair {h : Heap} {l : List Value} {p : Int} {k : Str} {as : List Addr} (r : ReadsAll h l [.int p, .str k] as) : ∃ t u, l = [.int p t, .str k u] := by
  cases r with
  | cons a1 a2 =>
    cases a2 with
    | cons a3 a4 =>
      cases a1
      cases a3
      cases a4
      exact ⟨_, _, rfl⟩
section
variable {X : Cx}
/-- sorted(xs), xs a list of tuples that are alike -/
theorem cr_sortX {β : Type} (enc : β → PyData) (hal : ∀ b b', alike (enc b) (enc b') = true) (hk : ∀ b, ∃ x r, enc b = .tuple (x :: r)) (hd : ∀ b, (enc b).depth ≤ 8) (hu : X.A.units + 64 < cLine) :
    CallR X (.builtin "sorted") (fun xs H Q => ∃ (a : Addr) (vs : List V) (bs : List β), xs = [.ref a] ∧ SqL X.K H a vs ∧ DpAll X.K H vs (bs.map enc) ∧
      ∀ (out : List V) (p : Addr), DpAll X.K H out ((bs.mergeSort (dataLe false enc)).map enc) → H p = none → Q (.ref p) (upd H p (.lst out))) := by
  intro pins s σ H xs us Q I r h
  obtain ⟨a, vs, bs, rfl, hs, hD, q⟩ := h
  obtain ⟨its, rv, hl, hz⟩ := I.list hs
  rw [Vals.ref1 r]
  obtain ⟨e1, e2⟩ := eachOf rfl I hD rv
  have hlen := e1.length
  refine sorted_data hl.isList e1 e2 (AllAlike.of hal) (Sortable.tuples hk) (by rw [← hlen, ← rv.length]; exact hz) (fun b _ => by have := hd b; omega) fun out h1 h2 => ?_
  obtain ⟨vs', r2, d2⟩ := backOf h2
  obtain ⟨ep, he'⟩ := sortedAll_at s.heap its (List.toArray out)
  have hl2 : vs'.length ≤ sizeLine := by rw [r2.length, h1, ← hlen, ← rv.length]; exact hz
  exact ⟨.ref _, upd H (s.heap.objs.size + 1) (.lst vs'), I.laid (t' := s.toks) (fun _ _ => sortedAll_old) (Nat.le_succ _) ⟨hl2, out, ep, r2, he'⟩, rfl, q _ _ d2 (I.hok.fresh (Nat.le_succ _))⟩
/-- min(xs) of pairs (place, kind) -/
theorem cr_minP (hc : X.calm = true) (hu : X.A.units + 64 < cLine) :
    CallR X (.builtin "min") (fun xs H Q => ∃ (a : Addr) (vs : List V) (bs : List (Nat × Str)), xs = [.ref a] ∧ SqL X.K H a vs ∧ DpAll X.K H vs (bs.map eP) ∧ bs ≠ [] ∧
      ∀ (v : V) (b : Nat × Str), b ∈ bs → (∀ x ∈ bs, b.1 ≤ x.1) → Dp X.K H v (eP b) → Q v H) := by
  intro pins s σ H xs us Q I r h
  obtain ⟨a, vs, bs, rfl, hs, hD, hne, q⟩ := h
  obtain ⟨its, rv, hl, hz⟩ := I.list hs
  rw [Vals.ref1 r]
  obtain ⟨as, hr⟩ := Dp.readsAll I _ _ _ hD rv
  obtain ⟨b0, br, rfl⟩ := List.exists_cons_of_ne_nil hne
  have least : ∀ (l : List (Nat × Str)) (x : Nat × Str), ∃ b, minD (eP x) (l.map eP) = eP b ∧ (b = x ∨ b ∈ l) ∧ b.1 ≤ x.1 ∧ ∀ y ∈ l, b.1 ≤ y.1 := by
    intro l
    induction l with
    | nil => intro x; exact ⟨x, rfl, .inl rfl, Nat.le_refl _, fun y hy => nomatch hy⟩
    | cons y l ih =>
      intro x
      have step : minD (eP x) ((y :: l).map eP) = minD (if dataLt (eP y) (eP x) then eP y else eP x) (l.map eP) := rfl
      cases e : dataLt (eP y) (eP x) with
      | true =>
        obtain ⟨b, h1, h2, h3, h4⟩ := ih y
        have hyx : y.1 ≤ x.1 := by
          refine leP ?_
          rw [dataLe_eq]
          show (!dataLt (eP x) (eP y)) = true
          cases e3 : dataLt (eP x) (eP y) with
          | false => rfl
          | true => exact absurd ((lex_trans (O := itemOrd) _ _ _ e e3).symm.trans (lex_irrefl _)) (fun z => nomatch z)
        rw [step, e]
        refine ⟨b, h1, .inr (h2.elim (fun z => by rw [z]; exact List.mem_cons_self ..) fun z => List.mem_cons_of_mem _ z), Nat.le_trans h3 hyx, fun z hz => ?_⟩
        rcases List.mem_cons.mp hz with hz | hz
        · rw [hz]; exact h3
        · exact h4 z hz
      | false =>
        obtain ⟨b, h1, h2, h3, h4⟩ := ih x
        have hxy : x.1 ≤ y.1 := by
          refine leP ?_
          rw [dataLe_eq]
          show (!dataLt (eP y) (eP x)) = true
          rw [e]; rfl
        rw [step, e]
        refine ⟨b, h1, h2.imp id fun z => List.mem_cons_of_mem _ z, h3, fun z hz => ?_⟩
        rcases List.mem_cons.mp hz with hz | hz
        · rw [hz]; exact Nat.le_trans h3 hxy
        · exact h4 z hz
  obtain ⟨b, hb, h2, h3, h4⟩ := least br b0
  have dep : ∀ l : List (Nat × Str), PyData.depthAll (l.map eP) ≤ 8 := by
    intro l
    induction l with
    | nil => show 0 ≤ 8; omega
    | cons x l ih =>
      show max (eP x).depth (PyData.depthAll (l.map eP)) ≤ 8
      exact Nat.max_le.mpr ⟨by simp [PyData.depth, PyData.depthAll], ih⟩
  refine min_list_data (I.ok.hd hc) hl.isList (as := as) (x := eP b0) (xs := br.map eP) (by simpa using hr) ⟨fun x hx y hy => ?_, fun x hx e => ?_⟩ (by have := dep (b0 :: br); show X.A.units + 1 + PyData.depthAll ((b0 :: br).map eP) < cLine; omega) fun i v h' tk bs' hi hrd hk => ?_
  · obtain ⟨x', _, rfl⟩ := List.mem_map.mp (show x ∈ (b0 :: br).map eP from hx)
    obtain ⟨y', _, rfl⟩ := List.mem_map.mp (show y ∈ (b0 :: br).map eP from hy)
    exact alike_eP _ _
  · obtain ⟨x', _, rfl⟩ := List.mem_map.mp (show x ∈ (b0 :: br).map eP from hx)
    cases e
  · rw [hb] at hrd
    have hi' : its[i]? = some v := by simpa using hi
    have hlt : i < vs.length := by rw [rv.length]; exact (List.getElem?_eq_some_iff.mp hi').1
    obtain ⟨u, eu, ru⟩ := rv.get (List.getElem?_eq_getElem hlt)
    rw [hi'] at eu
    cases eu
    obtain ⟨d, ed, dd⟩ := DpAll.get hD (List.getElem?_eq_getElem hlt)
    rw [List.getElem?_map] at ed
    obtain ⟨b', eb', rfl⟩ := Option.map_eq_some_iff.mp ed
    obtain ⟨as', r'⟩ := Dp.reads I _ _ _ dd ru
    have r' := reads_keeps hk r'
    have same : eP b' = eP b := by
      cases r' with
      | tuple g1 g2 g3 g4 =>
        cases hrd with
        | tuple k1 k2 k3 k4 =>
          rw [g1] at k1
          cases k1
          rw [g3] at k3
          cases k3
          obtain ⟨t1, u1, f1⟩ := reads_pair g4
          obtain ⟨t2, u2, f2⟩ := reads_pair k4
          rw [f1] at f2
          injection f2 with f3 f4
          injection f4 with f4 _
          injection f3 with f3 _
          injection f4 with f4 _
          unfold eP
          rw [f3, f4]
    rw [same] at dd
    refine ⟨_, H, I.kept hk, ru, q _ b ?_ (fun x hx => ?_) dd⟩
    · exact h2.elim (fun z => by rw [z]; exact List.mem_cons_self ..) fun z => List.mem_cons_of_mem _ z
    · rcases List.mem_cons.mp hx with hx | hx
      · rw [hx]; exact h3
      · exact h4 x hx
end
end KuD

/-! KuD2 -/
set_option Elab.async false
set_option linter.all false
set_option maxRecDepth 100000
set_option maxHeartbeats 4000000
/-! sorted(d.items()) of a dict whose keys stand sorted. -/
namespace KuD
open PySem PySem.Spec PyProof.Rows PySem.W L2 KuS Ku
theorem same_each {α β : Type} {R : α → β → Prop} (f : β → α) : ∀ {as : List α} {bs : List β}, EachIs R as bs → (∀ a b, R a b → a = f b) → as = bs.map f
  | _, _, .nil, _ => rfl
  | _, _, .cons h t, g => by rw [g _ _ h, same_each f t g]; rfl
/-- the pairs as they stand -/
theorem each_mkD {α β : Type} {R : α → β → Prop} (f : α → β) : ∀ (l : List α), (∀ a ∈ l, R a (f a)) → EachIs R l (l.map f)
  | [], _ => .nil
  | a :: l, h => .cons (h a (List.mem_cons_self ..)) (each_mkD f l fun b hb => h b (List.mem_cons_of_mem _ hb))
theorem paired_dpa {K : PySem.W.Frag} {H : Hp} {g : Str → Int} : ∀ {ts : List Addr} {ks : List Str}, Paired (fun (t : Addr) (q : Key × V) => H t = some (.tup [kV q.1, q.2])) ts (ks.map fun k => (.inr k, .int (g k))) → DpAll K H (ts.map V.ref) (ks.map fun k => eK (k, g k))
  | [], [], _ => .nil
  | [], _ :: _, h => by cases h
  | _ :: _, [], h => by cases h
  | t :: ts, k :: ks, h => by
    cases h with
    | cons h1 h2 => exact .cons (.tup (SqT.of h1) (.cons (.str k) (.cons (.int _) .nil))) (paired_dpa h2)
def tSortItems (K : PySem.W.Frag) (te : TE) : TE := fun σ H Q => te σ H fun x H1 => ∃ (d : Addr) (ks : List Str) (g : Str → Int), x = .ref d ∧ H1 d = some (.dK (ks.map fun k => (.inr k, .int (g k)))) ∧ ks.Pairwise (fun x y => leS x y = true) ∧ ks.Nodup ∧ ks.length ≤ 1000 ∧
  ∀ (H' : Hp) (p : Addr), Same H1 H' → H1 p = none → Dp K H' (.ref p) (.list (ks.map fun k => eK (k, g k))) → Q (.ref p) H'
section
variable {X : Cx} {e : Expr} {te : TE} {p apos cpos pos : Pos}
theorem pe_sortItems (hc : X.calm = true) (hu : X.A.units + 64 < cLine) (he : PE X e te) (hg : Gl X "sorted") (hm : X.mg "sorted" = none) (hv : bootBuiltins "sorted" = some (.builtin "sorted")) (hbase : attributeBase e "items" X.env (eval e X.env) = eval e X.env := by rfl) (hline : (apos.endLine == cpos.line) = true := by rfl)
    (hs : starEach [.Call (.Attribute e "items" apos) [] [] cpos] X.env = (false, eval (.Call (.Attribute e "items" apos) [] [] cpos) X.env) :: starEach [] X.env := by rfl) :
    PE X (.Call (.Name "sorted" p) [.Call (.Attribute e "items" apos) [] [] cpos] [] pos) (tSortItems X.K te) := by
  refine ⟨fun pins s σ H Q I hq => ?_⟩
  refine Call_ (ld_blt I hg hm hv ?_)
  refine PyProof.Rows.callWith_builtin1 (PyProof.Rows.args_cons ?_ hs) rfl rfl
  refine wpAny_Call_method (T := "dict") (id := "dict.items") hbase rfl hline F.plainAttrs_dict F.slot_dict_items F.type_dict_items (thn (he.run pins s σ H _ I hq) fun u s1 ⟨x, H1, I1, rx, d, ks, g, ex, hd, hpw, hnd, hlk, q⟩ => ?_)
  subst ex
  obtain rfl : u = Value.ref d := rx
  obtain ⟨hz, hs0, vs, kv, hdo⟩ := I1.hok d _ hd
  obtain ⟨ep, hat⟩ := hdo.dictAt
  have lk := Paired.length kv
  rw [List.length_map] at lk
  have I2 : Inv X pins σ H1 { s1 with heap := s1.heap.push { cls := .type "dict_items", data := .fields #[.ref d] } } := I1.kept (t' := s1.toks) fun b ob q => Heap.get?_push_of_some _ q
  refine ⟨hdo.typeIs, hdo.mapOf.noDict, ?_⟩
  show wpAny _ _ (callWith cpos (.builtin "dict.items") [.ref d] [] []) _ X.xe s1
  refine method_meetsIn F.slot_dict_items F.entry_dict_items rfl (PySem.evalArgs_none ⟨rfl, hdo.typeIs, F.args_dict_items_1 _, _, meets_dict_items (mixKind X.prog X.w) d hs0, ⟨vs, hdo⟩, ?_⟩)
  refine PyProof.Rows.args_nil ?_
  refine Calls.call_function_entry kind_sorted plain_sorted entry_sorted (args_sorted1 _) ?_
  unfold Builtin.«sorted»
  refine wpAny_bind (m := checkCount "sorted" 1 1 _) (wpAny_pure ?_)
  have hsz : vs.length ≤ sizeLine := Nat.le_trans (show vs.length ≤ 1000 by omega) (by decide)
  refine wpAny_bind (PySem.W.kdx_collect (A := X.A.in1) (knd := mixKind X.prog X.w) (kvs := vs) (ep := ep) (I1.ok.hd hc) ⟨_, Heap.get?_push_size _ rfl, rfl, rfl⟩ (hat.push _) hsz fun h' tk as hk hl hG => ?_)
  refine wpAny_bind (wpAny_newList ?_ (by rw [List.length_map]; omega))
  have hoL : (h'.push (seqObj "list" (as.map Value.ref).toArray 0)).get? h'.objs.size = some (seqObj "list" (as.map Value.ref).toArray 0) := Heap.get?_push_size _ rfl
  have nd : as.Nodup := List.Pairwise.imp (fun {a b} (h : a < b) => Nat.ne_of_lt h) hG.rise
  have lo : ∀ a ∈ as, a < h'.objs.size := fun a ha => hG.there ha
  have hlen : as.length = ks.length := by omega
  -- what the pairs are
  have each : ∀ (j : Nat) (b : Addr), as[j]? = some b → ∃ k t1 t2, ks[j]? = some k ∧ h'.get? b = some { cls := .type "tuple", data := .seq #[Value.str k t1, Value.int (g k) t2] } := fun j b hj => by
    obtain ⟨key, k, x, f1, f2, f3⟩ := hG.pairs j b hj
    have hjk : j < ks.length := by rw [← hlen]; exact (List.getElem?_eq_some_iff.mp hj).1
    have e1 : (ks.map fun k => ((Sum.inr k : Key), V.int (g k)))[j]? = some (.inr ks[j], .int (g ks[j])) := by rw [List.getElem?_map, List.getElem?_eq_getElem hjk]; rfl
    obtain ⟨qv, g1, g2, g3⟩ := LiI.paired_get kv e1
    rw [f1] at g1
    cases g1
    obtain ⟨t2, rfl⟩ := g3
    have g2 : Sum.inr ks[j] = k := g2
    subst g2
    obtain ⟨t1, rfl⟩ := Value.isStrOf_shape (x := ks[j]) (v := key) f2
    exact ⟨ks[j], t1, t2, List.getElem?_eq_getElem hjk, f3⟩
  have kp2 : ∀ b o, h'.get? b = some o → (h'.push (seqObj "list" (as.map Value.ref).toArray 0)).get? b = some o := fun b o e => Heap.get?_push_of_some _ e
  let bs : List (Addr × Str) := as.zip ks
  have hbs1 : bs.map (·.1) = as := List.map_fst_zip (by omega)
  have hbs2 : bs.map (·.2) = ks := List.map_snd_zip (by omega)
  have er : EachIs (fun v (b : Addr × Str) => ∃ rs, Reads (h'.push (seqObj "list" (as.map Value.ref).toArray 0)) v (eK (b.2, g b.2)) rs ∧ h'.objs.size ∉ rs) (as.map Value.ref) bs := by
    have : ∀ (l : List (Addr × Str)), (∀ b ∈ l, b ∈ bs) → EachIs (fun v (b : Addr × Str) => ∃ rs, Reads (h'.push (seqObj "list" (as.map Value.ref).toArray 0)) v (eK (b.2, g b.2)) rs ∧ h'.objs.size ∉ rs) (l.map fun b => Value.ref b.1) l := by
      intro l
      induction l with
      | nil => intro _; exact .nil
      | cons b l ih =>
        intro hm
        refine .cons ?_ (ih fun c hc => hm c (List.mem_cons_of_mem _ hc))
        obtain ⟨j, hj⟩ := List.mem_iff_getElem?.mp (hm b (List.mem_cons_self ..))
        rw [List.getElem?_zip_eq_some] at hj
        obtain ⟨k, t1, t2, e1, e2⟩ := each j b.1 hj.1
        rw [hj.2] at e1
        cases e1
        exact ⟨_, Reads.tuple (kp2 _ _ e2) rfl rfl (.cons (.str _ _) (.cons (.int _ _) .nil)), by simp⟩
    have q := this bs fun b hb => hb
    have e : bs.map (fun b => Value.ref b.1) = as.map Value.ref := by
      rw [← hbs1, List.map_map]
      rfl
    rw [e] at q
    exact q
  have e0 : EachIs (fun v (b : Addr × Str) => v = Value.ref b.1) (as.map Value.ref) bs := by
    have q := each_mkD (R := fun (b : Addr × Str) (v : Value) => v = Value.ref b.1) (fun b => Value.ref b.1) bs fun _ _ => rfl
    have e : bs.map (fun b => Value.ref b.1) = as.map Value.ref := by
      rw [← hbs1, List.map_map]
      rfl
    rw [e] at q
    have flip : ∀ {l : List (Addr × Str)} {m : List Value}, EachIs (fun (b : Addr × Str) (v : Value) => v = Value.ref b.1) l m → EachIs (fun v (b : Addr × Str) => v = Value.ref b.1) m l := by
      intro l m h
      induction h with
      | nil => exact .nil
      | cons h1 _ ih => exact .cons h1 ih
    exact flip q
  have lbs : bs.length = as.length := by rw [← hbs1, List.length_map]
  have sorted0 : bs.mergeSort (dataLe false fun b : Addr × Str => eK (b.2, g b.2)) = bs := by
    have pw : bs.Pairwise fun x y => dataLe false (fun b : Addr × Str => eK (b.2, g b.2)) x y = true := by
      have q : (bs.map (·.2)).Pairwise fun x y => leS x y = true ∧ x ≠ y := by
        rw [hbs2]
        exact hpw.and hnd
      rw [List.pairwise_map] at q
      exact q.imp fun {x y} h => leK (x := (x.2, g x.2)) (y := (y.2, g y.2)) h.1 h.2
    exact List.mergeSort_of_pairwise pw
  have hdep : ∀ b : Addr × Str, b ∈ bs → X.A.in1.units + 1 + (eK (b.2, g b.2)).depth < cLine := fun b _ => by
    have : (eK (b.2, g b.2)).depth ≤ 8 := by simp [PyData.depth, PyData.depthAll]
    have : X.A.in1.units = X.A.units + 1 := rfl
    omega
  refine wpAny_bind (wpAny_holding (PySem.W.list_sort_data (s := { s1 with heap := h'.push (seqObj "list" (as.map Value.ref).toArray 0), toks := tk }) (enc := fun b : Addr × Str => eK (b.2, g b.2)) hoL e0 er
    (PySem.W.AllAlike.of fun _ _ => alike_eK _ _) (PySem.W.Sortable.tuples fun _ => ⟨_, _, rfl⟩) (by rw [lbs]; omega) hdep fun out h1 h2 => ?_))
  rw [sorted0] at h2
  have eo := same_each (fun b : Addr × Str => Value.ref b.1) h2 fun _ _ h => h
  have eo : out = as.map Value.ref := by
    rw [eo, ← hbs1, List.map_map]
    rfl
  obtain ⟨c, hcL⟩ := sortedHeap_at (vs := as.map Value.ref) (out := out.toArray) hoL
  -- tracked
  have kh : ∀ b u, h'.get? b = some u → (sortedHeap (h'.push (seqObj "list" (as.map Value.ref).toArray 0)) h'.objs.size (as.map Value.ref) out.toArray).get? b = some u := fun b u e => by
    have hlt := Heap.lt_size e
    rw [sortedHeap_old (Nat.ne_of_lt hlt) (by rw [size_push']; exact Nat.lt_succ_of_lt hlt)]
    exact Heap.get?_push_of_some _ e
  have kall : ∀ b u, s1.heap.get? b = some u → (sortedHeap (h'.push (seqObj "list" (as.map Value.ref).toArray 0)) h'.objs.size (as.map Value.ref) out.toArray).get? b = some u := fun b u e => kh b u (hk b u (Heap.get?_push_of_some _ e))
  have new : ∀ t ∈ as, H1 t = none := fun t ht => I1.hok.fresh (Nat.le_of_lt (Nat.lt_of_le_of_lt (Nat.le_succ _) (by have := hG.above t ht; rw [Heap.size_push] at this; exact this)))
  have hvo : s1.heap.objs.size ≤ h'.objs.size := by
    have := Heap.lt_size (hk s1.heap.objs.size _ (Heap.get?_push_size _ rfl))
    exact Nat.le_of_lt this
  have newL : H1 h'.objs.size = none := I1.hok.fresh hvo
  have nL : h'.objs.size ∉ as := fun z => Nat.lt_irrefl _ (lo _ z)
  have atP := LiI.putT_at as (ks.map fun k => ((Sum.inr k : Key), V.int (g k))) H1 (by rw [List.length_map]; exact hlen) nd
  have offP : ∀ b, b ∉ as → LiI.putT H1 as (ks.map fun k => ((Sum.inr k : Key), V.int (g k))) b = H1 b := fun b hb => LiI.putT_off as _ _ hb
  have step1 : Inv X pins σ (LiI.putT H1 as (ks.map fun k => ((Sum.inr k : Key), V.int (g k)))) { s1 with heap := h', toks := tk } := by
    have low : ∀ b o, s1.heap.get? b = some o → b ∉ as := fun b o e z => by
      have a1 := hG.above b z
      rw [Heap.size_push] at a1
      exact absurd (Heap.lt_size e) (Nat.not_lt.mpr (Nat.le_of_lt (Nat.lt_of_succ_lt a1)))
    have hk0 : ∀ b o, s1.heap.get? b = some o → h'.get? b = some o := fun b o e => hk b o (Heap.get?_push_of_some _ e)
    have kp : ∀ b u, H1 b = some u → LiI.putT H1 as (ks.map fun k => ((Sum.inr k : Key), V.int (g k))) b = some u := fun b u e => by
      rw [offP b fun z => by rw [new b z] at e; cases e]
      exact e
    refine I1.call' (ch := []) rfl ⟨fun b o q _ _ _ => hk0 b o q, fun b o q _ _ _ => ⟨o.slots, hk0 b o q⟩, fun b o q n _ => (offP b (low b o q)).trans n, fun b o q _ => ⟨o, hk0 b o q⟩, fun b xs q => kp b _ q, fun b o u q => kp b _ q, fun b ps q => ⟨#[], by rw [kp b _ q]; simp⟩⟩ (fun b u q => ?_) I1.bare fun b z => by simp at z
    by_cases hb : b ∈ as
    · obtain ⟨j, pk, e1, e2, e3⟩ := LiI.paired_ix atP hb
      rw [e3] at q
      cases q
      obtain ⟨k, t1, t2, f1, f2⟩ := each j b e1
      rw [List.getElem?_map, f1] at e2
      cases e2
      exact ⟨by show 2 ≤ sizeLine; decide, [Value.str k t1, Value.int (g k) t2], .cons ⟨t1, rfl⟩ (.cons ⟨t2, rfl⟩ .nil), ⟨_, f2, rfl, _, rfl⟩⟩
    · rw [offP b hb] at q
      exact (I1.hok b u q).stay (fun d v _ y => hk0 d v y) (fun d y => kp d _ y) fun d xs y => kp d _ y
  have step2 : Inv X pins σ (upd (LiI.putT H1 as (ks.map fun k => ((Sum.inr k : Key), V.int (g k)))) h'.objs.size (.lst (as.map V.ref))) { s1 with heap := sortedHeap (h'.push (seqObj "list" (as.map Value.ref).toArray 0)) h'.objs.size (as.map Value.ref) out.toArray, toks := tk } :=
    step1.laid (h' := sortedHeap (h'.push (seqObj "list" (as.map Value.ref).toArray 0)) h'.objs.size (as.map Value.ref) out.toArray) (t' := tk) kh (Nat.le_refl _) ⟨by rw [List.length_map]; omega, out, c, by rw [eo]; exact LiI.vals_refs as, hcL⟩
  refine wpAny_pure ⟨_, rfl, .ref h'.objs.size, _, step2, rfl, q _ _ ?_ newL ?_⟩
  · intro b u e
    rw [upd_ne (ne_of_none e newL), offP b fun z => by rw [new b z] at e; cases e]
    exact e
  · refine .lst (SqL.of upd_same) (paired_dpa ?_)
    have : ∀ {ts : List Addr} {l : List (Key × V)}, Paired (fun (t : Addr) (q : Key × V) => LiI.putT H1 as (ks.map fun k => ((Sum.inr k : Key), V.int (g k))) t = some (.tup [kV q.1, q.2])) ts l → (∀ t ∈ ts, t ≠ h'.objs.size) → Paired (fun (t : Addr) (q : Key × V) => (upd (LiI.putT H1 as (ks.map fun k => ((Sum.inr k : Key), V.int (g k)))) h'.objs.size (.lst (as.map V.ref))) t = some (.tup [kV q.1, q.2])) ts l := by
      intro ts l h
      induction h with
      | nil => intro _; exact .nil
      | cons h1 _ ih => exact fun hn => .cons (by rw [upd_ne (hn _ (List.mem_cons_self ..))]; exact h1) (ih fun t ht => hn t (List.mem_cons_of_mem _ ht))
    exact this atP fun t ht => Nat.ne_of_lt (lo t ht)
end
end KuD

/-! KuSC -/
set_option Elab.async false
set_option linter.all false
set_option maxRecDepth 100000
set_option maxHeartbeats 8000000
/-! {e for t0 in i0 for t1 in i1}: a set of texts made by two clauses without tests. -/
namespace KuS
open PySem PySem.Spec PyProof.Rows PySem.W L2
/-- the comprehension -/
abbrev sC (elt t0 i0 t1 i1 : Expr) (scope : Scope) (pos : Pos) : Expr := .SetComp elt [⟨t0, i0, [], 0⟩, ⟨t1, i1, [], 0⟩] scope pos
theorem turn_out (elt t0 i0 t1 i1 : Expr) (scope : Scope) (pos : Pos) (it acc : Value) (env : Env) :
    compTurn (sC elt t0 i0 t1 i1 scope pos) 0 it acc env = (do
      standAt i0.pos
      match ← pyNext it with
      | none => pure (.done .next)
      | some v =>
        letOwnedTupleGo t0 it v
        assign t0 env v
        let mut ok := true
        for c in ([] : List Expr) do
          if ok then ok ← isTrue c env (eval c env)
        if ok then
          let x ← eval i1 env
          standAt i1.pos
          let x ← foldedSetIterable i1 env x
          let _ ← runOwn (.compStart (sC elt t0 i0 t1 i1 scope pos) 1 (← holding [x] (pyIter x)) acc env) env
        again (.compLoop (sC elt t0 i0 t1 i1 scope pos) 0 it acc env)) := by rfl
theorem turn_in (elt t0 i0 t1 i1 : Expr) (scope : Scope) (pos : Pos) (it acc : Value) (env : Env) :
    compTurn (sC elt t0 i0 t1 i1 scope pos) 1 it acc env = (do
      standAt i1.pos
      match ← pyNext it with
      | none => pure (.done .next)
      | some v =>
        letOwnedTupleGo t1 it v
        assign t1 env v
        let mut ok := true
        for c in ([] : List Expr) do
          if ok then ok ← isTrue c env (eval c env)
        if ok then
          (do let v ← eval elt env; standAt elt.pos; let _ ← call (.builtin "set.add") [acc, v])
        again (.compLoop (sC elt t0 i0 t1 i1 scope pos) 1 it acc env)) := by rfl
section
variable {prog : Program} {w : World} {A : Around} {R : Result → Shared → Prop} {s : Shared} {elt t0 i0 t1 i1 : Expr} {scope : Scope} {pos : Pos} {it acc : Value} {env : Env}
theorem loop_out (hs : ∀ x, foldedSetIterable i1 env x = pure x) (J : Nat → Shared → Prop)
    (turn : ∀ n s, J n s → wpAny (model prog w) A (pyNext it) (fun r s₁ => match r with
      | none => R (.ok .next) s₁
      | some v => wpAny (model prog w) A (letOwnedTupleGo t0 it v) (fun _ s₂ => wpAny (model prog w) A (assign t0 env v) (fun _ s₃ =>
            wpAny (model prog w) A (eval i1 env) (fun x s₄ => wpAny (model prog w) A (pyIter x) (fun it1 s₅ =>
              codeAny (model prog w) A (.compStart (sC elt t0 i0 t1 i1 scope pos) 1 it1 acc env) (fun r s' => match r with
                | .ok _ => ∃ m, m < n ∧ J m s'
                | .error _ => False) s₅) (fun _ _ => False) s₄) (fun _ _ => False) s₃) (fun _ _ => False) s₂) (fun _ _ => False) s₁) (fun _ _ => False) s)
    (n : Nat) (h : J n s) : codeAny (model prog w) A (.compLoop (sC elt t0 i0 t1 i1 scope pos) 0 it acc env) R s := by
  refine codeAny_loop rfl J (fun n s hJ => ?_) n h
  show wpAny _ A ((compTurn (sC elt t0 i0 t1 i1 scope pos) 0 it acc env).onRaise (fun x => do noteFrame x env; theTreesLotGoes x)) _ _ s
  refine wpAny_noted ?_
  rw [turn_out]
  refine wpAny_bind (wpAny_standAt (wpAny_bind (thnF (turn n s hJ) fun r s₁ h₁ => ?_)))
  cases r with
  | none => exact wpAny_pure h₁
  | some v =>
    refine wpAny_bind (thnF h₁ fun _ s₂ h₂ => wpAny_bind (thnF h₂ fun _ s₃ h₃ => wpAny_bind (wpAny_tests_nil ?_)))
    show wpAny _ A (eval i1 env >>= _) _ _ s₃
    refine wpAny_bind (thnF h₃ fun x s₄ h₄ => wpAny_bind (wpAny_standAt (wpAny_bind (wpAny_of_eq (hs x) (wpAny_bind (wpAny_holding (thnF h₄ fun it1 s₅ h₅ => wpAny_bind (wpAny_runOwn ?_))))))))
    rw [Around.mark_none]
    refine codeAny_mono h₅ fun r s' hr => ?_
    cases r with
    | error e => exact hr.elim
    | ok f =>
      first
        | exact wpAny_pure ⟨rfl, hr⟩
        | exact wpAny_bind (wpAny_pure (wpAny_pure ⟨rfl, hr⟩))
theorem loop_in (J : Nat → Shared → Prop)
    (turn : ∀ n s, J n s → wpAny (model prog w) A (pyNext it) (fun r s₁ => match r with
      | none => R (.ok .next) s₁
      | some v => wpAny (model prog w) A (letOwnedTupleGo t1 it v) (fun _ s₂ => wpAny (model prog w) A (assign t1 env v) (fun _ s₃ =>
            wpAny (model prog w) A (eval elt env) (fun x s₄ => wpAny (model prog w) A (call (.builtin "set.add") [acc, x]) (fun _ s₅ => ∃ m, m < n ∧ J m s₅) (fun _ _ => False) s₄) (fun _ _ => False) s₃) (fun _ _ => False) s₂) (fun _ _ => False) s₁) (fun _ _ => False) s)
    (n : Nat) (h : J n s) : codeAny (model prog w) A (.compLoop (sC elt t0 i0 t1 i1 scope pos) 1 it acc env) R s := by
  refine codeAny_loop rfl J (fun n s hJ => ?_) n h
  show wpAny _ A ((compTurn (sC elt t0 i0 t1 i1 scope pos) 1 it acc env).onRaise (fun x => do noteFrame x env; theTreesLotGoes x)) _ _ s
  refine wpAny_noted ?_
  rw [turn_in]
  refine wpAny_bind (wpAny_standAt (wpAny_bind (thnF (turn n s hJ) fun r s₁ h₁ => ?_)))
  cases r with
  | none => exact wpAny_pure h₁
  | some v =>
    refine wpAny_bind (thnF h₁ fun _ s₂ h₂ => wpAny_bind (thnF h₂ fun _ s₃ h₃ => wpAny_bind (wpAny_tests_nil ?_)))
    exact wpAny_bind (wpAny_bind (thnF h₃ fun x s₄ h₄ => wpAny_bind (wpAny_standAt (wpAny_bind (thnF h₄ fun _ s₅ h₅ => wpAny_pure (wpAny_pure ⟨rfl, h₅⟩))))))
theorem start_in (h0 : codeAny (model prog w) A (.compLoop (sC elt t0 i0 t1 i1 scope pos) 1 it acc env) R s)
    (h : wpAny (model prog w) A (pyIter it) (fun it' s' => codeAny (model prog w) A (.compLoop (sC elt t0 i0 t1 i1 scope pos) 1 it' acc env) R s') (fun _ _ => False) s) :
    codeAny (model prog w) A (.compStart (sC elt t0 i0 t1 i1 scope pos) 1 it acc env) R s := by
  refine codeAny_of_tree ?_
  show wpAny _ _ ((compStart (sC elt t0 i0 t1 i1 scope pos) 1 it acc env).onRaise (fun x => do noteFrame x env; standAt theWindowsPlace)) _ _ s
  refine wpAny_notedAt ?_
  unfold compStart
  show wpAny _ _ (ask >>= _) _ _ s
  refine wpAny_bind (wpAny_askSetting (wpAny_ite ?_))
  split
  · first
      | exact wpAny_bind (wpAny_pure (wpAny_pure (And.intro rfl h0)))
      | exact wpAny_pure (And.intro rfl h0)
  · refine wpAny_bind (wpAny_rule ?_)
    first
      | exact wpAny_bind (wpAny_standAt (wpAny_bind (thnF h fun it' s' h' => wpAny_pure (And.intro rfl h'))))
      | (show wpAny _ _ (standAt i1.pos >>= _) _ _ s; exact wpAny_bind (wpAny_standAt (wpAny_bind (thnF h fun it' s' h' => wpAny_pure (And.intro rfl h')))))
end
section
variable {X : Cx}
/-- found.add(k) on a tracked set of texts -/
theorem add_ok {E : Value → Shared → Prop} {pins : List (Addr × Obj)} {σ : L2.St} {H : Hp} {s : Shared} {D : Addr} {L : List Str} {y : Str} {v : Value} {Q : Value → Shared → Prop} (I : Inv X pins σ H s) (hD : H D = some (SetSO X.w D L)) (hz : L.length + 1 < scanBound) (r : RelV (.str y) v)
    (h : ∀ s', Inv X pins σ (upd H D (SetSO X.w D (addS L y))) s' → Q .none s') : wpAny (model X.prog X.w) X.A (call (.builtin "set.add") [.ref D, v]) Q E s := by
  obtain ⟨t, rfl⟩ := r
  have R := setSO_get I hD
  obtain ⟨o, es, ep, tb, ho, hex, rest⟩ := id R
  refine wpAny_call_entry F.slot_set_add ⟨o, ho, hex.1⟩ F.entry_set_add ?_ (F.args_set_add_2 _ _)
  unfold Builtin.«set.add» Builtin.Frozenset.oneOther
  simp only [List.isEmpty_nil, bind_assoc]
  unfold Builtin.Frozenset.addrOf setAdd
  refine wpAny_bind (wpAny_pure ?_)
  try dsimp only
  refine wpAny_bind (wpAny_pure ?_)
  try dsimp only
  refine wpAny_bind (wpAny_holding (wpAny_bind ((PySem.strKind X.prog X.w).pyHash (k := y) (strKind_is _ _ _ _) ?_)))
  refine add_hashedS (P := X.prog) (s := { s with toks := s.toks + 1 }) R hz fun _ h' sb R' => ?_
  show wpAny _ _ (ret Value.none) _ _ _
  refine wpAny_pure ⟨_, rfl, h _ ?_⟩
  have ⟨o', _, _, _, ho', _⟩ := R'
  exact I.write (e := D) (t' := s.toks + 1) (by rw [hD]; trivial) (.inl rfl) (fun b u hb hu => (sb.2 b hb).trans hu) ⟨o', ho'⟩ (setSO_new R')
/-- behind the first clause's store the second source's own loop, from which Nx is reached -/
def tSC (wi : TI) (g : TG) (wi1 : TI) (g1 : TG) (te : TE) (vs vs1 : List Nat) (w : World) : TE := fun σ H Q => wi σ H fun J H1 => ∀ D, H1 D = none → ∃ W : Nat → Nat → Hp → Prop, (∃ m, W 0 m (upd H1 D (SetSO w D []))) ∧ ∀ i m H, W i m H →
  (J.stop i H ∧ Q (.ref D) H) ∨ (J.go i H ∧ ∃ Nx : Hp → Prop, (∀ H', Nx H' → ∃ m', m' < m ∧ W (i + 1) m' H') ∧ ∀ x H', J.yld i H x H' → g x (wipe σ vs) H' fun σ2 H2 => wipe σ2 vs = wipe σ vs ∧
    wi1 σ2 H2 fun J1 H4 => ∃ W1 : Nat → Nat → Hp → Prop, (∃ m, W1 0 m H4) ∧ ∀ j k H, W1 j k H →
      (J1.stop j H ∧ Nx H) ∨ (J1.go j H ∧ ∃ Nx1 : Hp → Prop, (∀ H', Nx1 H' → ∃ k', k' < k ∧ W1 (j + 1) k' H') ∧ ∀ x H', J1.yld j H x H' → g1 x (wipe σ2 vs1) H' fun σ3 H5 => wipe σ3 vs1 = wipe σ2 vs1 ∧
        te σ3 H5 fun y H7 => ∃ (k : Str) (L : List Str), y = .str k ∧ H7 D = some (SetSO w D L) ∧ L.length + 1 < scanBound ∧ Nx1 (upd H7 D (SetSO w D (addS L k)))))
variable {elt t0 i0 t1 i1 : Expr} {scope : Scope} {own : List (Str × Nat)} {vs1 : List Nat} {pos pos' : Pos} {wi wi1 : TI} {g g1 : TG} {te : TE}
theorem sC_core {pins : List (Addr × Obj)} {s : Shared} {σ : L2.St} {H : Hp} {Q : VK} {use : Option (Value → Sem Unit)} {Qf : Value → Shared → Prop}
    (hc : X.calm = true) (hN : X.N.Nodup) (I : Inv X pins σ H s) (hi : PI X t0 i0 wi) (ok : BlkOk X.N X.env.scope scope own) (hv : ∀ i ∈ vs1, i ∈ own.map (·.2))
    (hg : ∀ s H C cl fp, PG (X.blk s H scope (compEnvC scope cl C X.env) fp) t0 g) (he : ∀ s H C cl fp, PE (X.blk s H scope (compEnvC scope cl C X.env) fp) elt te) (hs : ∀ x, foldedSetIterable i0 X.env x = pure x)
    (hi1 : ∀ s H C cl fp, PI (X.blk s H scope (compEnvC scope cl C X.env) fp) t1 i1 wi1) (hg1 : ∀ s H C cl fp, PG (X.blk s H scope (compEnvC scope cl C X.env) fp) t1 g1)
    (hs1 : ∀ env x, foldedSetIterable i1 env x = pure x)
    (h : tSC wi g wi1 g1 te (own.map (·.2)) vs1 X.w σ H Q)
    (hRR : ∀ D C s' m H', Inv X pins σ H' s' → Q (.ref D) H' → s'.heap.Ns C m → FpOk X pins H' C → compPost (model X.prog X.w) X.A X.xe use Qf (.ref D) C (.ok .next) s') :
    wpAny (model X.prog X.w) X.A (comprehension (sC elt t0 i0 t1 i1 scope pos) scope X.env pos' (newSet (.type "set")) false (eval i0 X.env) use) Qf X.xe s := by
  have hfree : ∀ y ∈ scope.names, y.2 = .free → ∃ c, X.env.cells.lookup y.1 = some c := fun y hy e => (ok.free y hy e).elim (fun k => I.ok.has _ (.inl k)) fun k => I.ok.has _ (.inr k)
  refine wpAny_comprehension_free (use := use) rfl hs (closure_ok hfree) ok.kind (fun y hy e => by rw [ok.uniq y hy, e])
    (thn (hi.run pins s σ H _ I h) fun xv s1 hx => thn hx fun itv s2 ⟨it, fp, tn, J, H2, e, I2, T, st2, f2, q⟩ => ?_)
  subst e
  refine wpAny_newSet_raw fun led hled => newEnv_comp ?_
  subst hled
  obtain ⟨W, ⟨m0, w0⟩, turn⟩ := q s2.heap.objs.size (I2.hok.fresh (Nat.le_refl _))
  generalize hD : s2.heap.objs.size = D at w0 turn ⊢
  generalize hs3 : ({ s2 with heap := s2.heap.push (newS X.w) } : Shared) = s3
  have h3 : s3.heap = s2.heap.push (newS X.w) := by rw [← hs3]
  have hat : s3.heap.get? D = some (newS X.w) := by rw [h3, ← hD]; exact Heap.get?_push_size _ rfl
  have I3 : Inv X pins σ (upd H2 D (SetSO X.w D [])) s3 := by
    have q := I2.laid (h' := s3.heap) (t' := s2.toks) (a := D) (fun b o e => by rw [h3]; exact Heap.get?_push_of_some _ e) (Nat.le_of_eq hD) (setSO_new (setS_new hat))
    rw [h3, hs3] at q
    exact q
  have f3 : ∀ b ∈ fp, FpOk X pins (upd H2 D (SetSO X.w D [])) b ∧ b < s3.heap.objs.size := fun b hb => by
    obtain ⟨o, e, _⟩ := T.obj _ _ st2 b hb
    have hlt := Heap.lt_size e
    refine ⟨⟨?_, (f2 b hb).2⟩, by rw [h3, Heap.size_push]; exact Nat.lt_succ_of_lt hlt⟩
    rw [upd_ne (by rw [← hD]; exact Nat.ne_of_lt hlt)]
    exact (f2 b hb).1
  have st3 : tn 0 s3.heap := T.keep _ _ _ st2 fun b _ o e => by rw [h3]; exact Heap.get?_push_of_some _ e
  have I4 := block_start I3 ok hN f3
  generalize hH3 : upd H2 D (SetSO X.w D []) = H3 at I3 I4 w0 f3
  generalize hcl : cellsFrom (s3.heap.objs.size + 1) scope.names (cloFrom X.env.cells scope.names []) = cl at I4
  have pg := hg s3 H3 s3.heap.objs.size cl fp
  have pe := he s3 H3 s3.heap.objs.size cl fp
  have pi1 := hi1 s3 H3 s3.heap.objs.size cl fp
  have pg1 := hg1 s3 H3 s3.heap.objs.size cl fp
  subst hcl
  show codeAny _ _ (.compStart (sC elt t0 i0 t1 i1 scope pos) 0 (.ref it) (.ref D) (compEnvC scope (cellsFrom (s3.heap.objs.size + 1) scope.names (cloFrom X.env.cells scope.names [])) s3.heap.objs.size X.env)) (compPost (model X.prog X.w) X.A X.xe use Qf (.ref D) s3.heap.objs.size) { s3 with heap := pushCells (s3.heap.push { cls := .type "dict", data := .dict #[] }) scope.names }
  generalize hce : compEnvC scope (cellsFrom (s3.heap.objs.size + 1) scope.names (cloFrom X.env.cells scope.names [])) s3.heap.objs.size X.env = ce at I4 pg pe pi1 pg1 ⊢
  have cL : ce.locals = s3.heap.objs.size := by subst hce; rfl
  generalize hs4 : ({ s3 with heap := pushCells (s3.heap.push { cls := .type "dict", data := .dict #[] }) scope.names } : Shared) = s4 at I4 ⊢
  have st4 : tn 0 s4.heap := T.keep _ _ _ st3 fun b _ o e => by rw [← hs4]; exact pushCells_keeps _ _ _ _ (Heap.get?_push_of_some _ e)
  have stat : ∀ {σ' : L2.St} {H' : Hp} {s' : Shared}, Inv (X.blk s3 H3 scope ce fp) [] σ' H' s' → (∀ b ∈ fp, H' b = none) → ∀ b ∈ fp, FpOk (X.blk s3 H3 scope ce fp) [] H' b := fun {σ' H' s'} I' hn b hb =>
    ⟨hn b hb, (I'.ok.exf b hb).1, I'.ok.exfs b hb, .inl hb, fun x c e => (I'.ok.exf b hb).2 x c e, fun p hp => absurd (show p ∈ ([] : List (Addr × Obj)) ++ [] from hp) (by simp)⟩
  have back : ∀ {H' : Hp} {s' : Shared} {σ' : L2.St}, Inv (X.blk s3 H3 scope ce fp) [] σ' H' s' → Q (.ref D) H' → compPost (model X.prog X.w) X.A X.xe use Qf (.ref D) s3.heap.objs.size (.ok .next) s' := fun {H' s' σ'} I6 qq => by
    have nC : H' s3.heap.objs.size = none := by
      have z : H' ce.locals = none := I6.free
      rw [cL] at z
      exact z
    obtain ⟨m, hn, _⟩ := I6.loc
    have hn : s'.heap.Ns ce.locals m := hn
    rw [cL] at hn
    exact hRR D s3.heap.objs.size s' m H' (I3.call' (ch := fp) I6.os I6.base I6.hok I6.bare fun b hb => ⟨(f3 b hb).1.2.2.2.1, (f3 b hb).1.2.1, (f3 b hb).1.2.2.2.2.1, (f3 b hb).1.2.2.2.2.2⟩) qq hn (I3.fpOk (Nat.le_refl _) nC)
  let Jo : Nat → Shared → Prop := fun n s' => ∃ i H', Inv (X.blk s3 H3 scope ce fp) [] (wipe σ (own.map (·.2))) H' s' ∧ tn i s'.heap ∧ (∀ b ∈ fp, H' b = none) ∧ W i n H'
  have outer : codeAny (model X.prog X.w) X.A (.compLoop (sC elt t0 i0 t1 i1 scope pos) 0 (.ref it) (.ref D) ce) (compPost (model X.prog X.w) X.A X.xe use Qf (.ref D) s3.heap.objs.size) s4 := by
    refine loop_out (hs1 ce) Jo ?_ m0 ⟨0, H3, I4, st4, fun b hb => (f3 b hb).1.1, w0⟩
    rintro n s5 ⟨i, H5, I5, st5, n5, w5⟩
    rcases turn i n H5 w5 with ⟨stop, qq⟩ | ⟨go, Nx, hNx, step⟩
    · refine thnF (T.done (X.blk s3 H3 scope ce fp) rfl rfl rfl hc i [] s5 _ H5 (fun _ _ => False) I5 (stat I5 n5) st5 stop) fun r s6 ⟨hr, I6⟩ => ?_
      subst hr
      exact back I6 qq
    refine thnF (T.item (X.blk s3 H3 scope ce fp) rfl rfl rfl hc i [] s5 _ H5 (fun _ _ => False) I5 (stat I5 n5) st5 go) fun r s6 ⟨u, hr, h6⟩ => ?_
    subst hr
    refine thnF h6 fun _ s7 ⟨x, H7, I7, r7, y7, st7, n7⟩ => ?_
    refine thnF (pg.run _ s7 _ H7 x u _ (I7.pinned (stat I7 n7) (T.obj _ _ st7)) r7 (step x H7 y7)) fun _ s8 ⟨σ8, H8, I8, hw8, q8⟩ => ?_
    -- behind the inner loop
    have fin : ∀ {σ9 : L2.St} {s' : Shared} {H' : Hp}, Inv (X.blk s3 H3 scope ce fp) ([] ++ pinsAt fp s7.heap) σ9 H' s' → (wipe σ (own.map (·.2))).length = σ9.length → (∀ (j : Nat) v, (wipe σ (own.map (·.2)))[j]? = some (some v) → σ9[j]? = some (some v)) → Nx H' → ∃ m, m < n ∧ Jo m s' := fun {σ9 s' H'} I' hl hk nx => by
      obtain ⟨m', hm, w'⟩ := hNx H' nx
      have pin' : ∀ b ∈ fp, ∀ o, s7.heap.get? b = some o → s'.heap.get? b = some o ∧ H' b = none := fun b hb o e =>
        let z := I'.pin (b, o) (List.mem_append_right _ (List.mem_append_right _ (mem_pinsAt hb e)))
        ⟨z.1, z.2.1⟩
      refine ⟨m', hm, i + 1, H', (I'.unpinned (pins := [])).weak hl hk, T.keep _ _ _ st7 fun b hb o e => (pin' b hb o e).1, fun b hb => ?_, w'⟩
      obtain ⟨o, e, _⟩ := T.obj _ _ st7 b hb
      exact (pin' b hb o e).2
    have hk9 : ∀ (j : Nat) v, (wipe σ (own.map (·.2)))[j]? = some (some v) → (wipe σ8 vs1)[j]? = some (some v) := fun j v e => by
      rw [← hw8] at e
      obtain ⟨e1, e2⟩ := wipe_some e
      rw [wipe_out fun z => e2 (hv j z)]
      exact e1
    refine thnF (pi1.run _ s8 σ8 H8 _ I8 q8) fun xv s10 hx => thnF hx fun itv s11 ⟨it1, fp1, tn1, J1, H11, e1, I11, T1, st11, f11, W1, ⟨m1, w1⟩, turn1⟩ => ?_
    subst e1
    have stat1 : ∀ {H' : Hp}, (∀ b ∈ fp1, H' b = none) → ∀ b ∈ fp1, FpOk (X.blk s3 H3 scope ce fp) ([] ++ pinsAt fp s7.heap) H' b := fun hn b hb => ⟨hn b hb, (f11 b hb).2⟩
    let Ji : Nat → Shared → Prop := fun k s' => ∃ j H', Inv (X.blk s3 H3 scope ce fp) ([] ++ pinsAt fp s7.heap) (wipe σ8 vs1) H' s' ∧ tn1 j s'.heap ∧ (∀ b ∈ fp1, H' b = none) ∧ W1 j k H'
    have inner : codeAny (model X.prog X.w) X.A (.compLoop (sC elt t0 i0 t1 i1 scope pos) 1 (.ref it1) (.ref D) ce) (fun r s' => match r with
        | .ok _ => ∃ m, m < n ∧ Jo m s'
        | .error _ => False) s11 := by
      refine loop_in Ji ?_ m1 ⟨0, H11, I11.weak (wipe_length _ _) (fun j v e => (wipe_some e).1), st11, fun b hb => (f11 b hb).1, w1⟩
      rintro k s12 ⟨j, H12, I12, st12, n12, w12⟩
      rcases turn1 j k H12 w12 with ⟨stop1, nx1⟩ | ⟨go1, Nx1, hNx1, step1⟩
      · refine thnF (T1.done (X.blk s3 H3 scope ce fp) rfl rfl rfl hc j _ s12 (wipe σ8 vs1) H12 (fun _ _ => False) I12 (stat1 n12) st12 stop1) fun r s13 ⟨hr, I13⟩ => ?_
        subst hr
        exact fin I13 ((congrArg List.length hw8).symm.trans ((wipe_length σ8 _).trans (wipe_length σ8 vs1).symm)) hk9 nx1
      refine thnF (T1.item (X.blk s3 H3 scope ce fp) rfl rfl rfl hc j _ s12 (wipe σ8 vs1) H12 (fun _ _ => False) I12 (stat1 n12) st12 go1) fun r s13 ⟨u1, hr, h13⟩ => ?_
      subst hr
      refine thnF h13 fun _ s14 ⟨x1, H14, I14, r14, y14, st14, n14⟩ => ?_
      refine thnF (pg1.run _ s14 (wipe σ8 vs1) H14 x1 u1 _ (I14.pinned (stat1 n14) (T1.obj _ _ st14)) r14 (step1 x1 H14 y14)) fun _ s15 ⟨σ15, H15, I15, hw15, q15⟩ => ?_
      refine thnF (pe.run _ s15 σ15 H15 _ I15 q15) fun z s17 ⟨yv, H17, I17, r17, ky, L, ey, hD17, hz17, nx⟩ => ?_
      subst ey
      refine add_ok (X := X.blk s3 H3 scope ce fp) I17 hD17 hz17 r17 fun s18 I18 => ?_
      obtain ⟨m', hm, w'⟩ := hNx1 _ nx
      have pin' : ∀ b ∈ fp1, ∀ o, s14.heap.get? b = some o → s18.heap.get? b = some o ∧ (upd H17 D (SetSO X.w D (addS L ky))) b = none := fun b hb o e =>
        let z := I18.pin (b, o) (List.mem_append_right _ (List.mem_append_right _ (mem_pinsAt hb e)))
        ⟨z.1, z.2.1⟩
      refine ⟨m', hm, j + 1, _, I18.unpinned.weak (by rw [← hw15, wipe_length]) (fun j v e => by rw [← hw15] at e; exact (wipe_some e).1), T1.keep _ _ _ st14 fun b hb o e => (pin' b hb o e).1, fun b hb => ?_, w'⟩
      obtain ⟨o, e, _⟩ := T1.obj _ _ st14 b hb
      exact (pin' b hb o e).2
    exact start_in inner (T1.self X.A 0 _ _ _ st11 inner)
  exact codeAny_compStart_set outer (T.self X.A 0 _ _ _ st4 outer)
/-- {e for t0 in i0 for t1 in i1} -/
theorem pe_sC (hc : X.calm = true) (hN : X.N.Nodup) (hi : PI X t0 i0 wi) (ok : BlkOk X.N X.env.scope scope own) (hv : ∀ i ∈ vs1, i ∈ own.map (·.2))
    (hg : ∀ s H C cl fp, PG (X.blk s H scope (compEnvC scope cl C X.env) fp) t0 g) (hi1 : ∀ s H C cl fp, PI (X.blk s H scope (compEnvC scope cl C X.env) fp) t1 i1 wi1) (hg1 : ∀ s H C cl fp, PG (X.blk s H scope (compEnvC scope cl C X.env) fp) t1 g1)
    (he : ∀ s H C cl fp, PE (X.blk s H scope (compEnvC scope cl C X.env) fp) elt te) (hs : ∀ x, foldedSetIterable i0 X.env x = pure x := by intro _; rfl) (hs1 : ∀ env x, foldedSetIterable i1 env x = pure x := by intro _ _; rfl) :
    PE X (sC elt t0 i0 t1 i1 scope pos) (tSC wi g wi1 g1 te (own.map (·.2)) vs1 X.w) := by
  refine ⟨fun pins s σ H Q I h => ?_⟩
  rw [arm_eval_SetComp]
  refine sC_core hc hN I hi ok hv hg he hs hi1 hg1 hs1 h fun D C s' m H' I' q hn f => ⟨m, hn, fun h'' sb => ?_⟩
  obtain ⟨f0, f1, f2, f3, f4, f5⟩ := f
  exact ⟨.ref D, H', I'.turned (t' := s'.toks) (fun b o hb e => (sb.2 b hb).trans e) f0 f1 f3 f4 f5, rfl, q⟩
end
end KuS

/-! KuSum -/
set_option Elab.async false
set_option linter.all false
set_option maxRecDepth 100000
set_option maxHeartbeats 8000000
/-! sum(xs, start): xs a list of lists. -/
namespace KuS
open PySem PySem.Spec PyProof.Rows PySem.W L2
section
variable {prog : Program} {w : World} {A : Around} {R : Result → Shared → Prop} {I l S : Addr} {items : Array Value} {h0 : Heap}
abbrev lO (t : List Value) (n : Nat) : Obj := { cls := .type "list", data := .seq t.toArray n }
theorem sum_loopL (hh : A.in1.handled = none) (hne : l ≠ I) (hSI : S ≠ I) (hSl : S ≠ l) (hI0 : h0.objs.size ≤ I) (nI : h0.get? I = none) (nS : h0.get? S = none) (cs : List (List Value)) (hcs : items.size = cs.length) (z : cs.flatten.length ≤ sizeLine)
    (hit : ∀ (i : Nat) (v : Value), items[i]? = some v → ∃ u c n, v = Value.ref u ∧ cs[i]? = some c ∧ h0.get? u = some (lO c n)) :
    ∀ (k i : Nat) (s : Shared) (tot : Addr) (t : List Value) (nt c : Nat), items.size - i = k → i ≤ items.size → s.heap.IsListIter I l i ∧ s.heap.IsList l items → (∀ b o, h0.get? b = some o → s.heap.get? b = some o) →
      s.heap.get? S = some { cls := .type "list", dict := none, data := .seq #[.ref tot] c, slots := #[] } → s.heap.get? tot = some (lO t nt) → tot ≠ I → tot ≠ S → t = (cs.take i).flatten →
      (∀ h' tk tot' n', (∀ b o, h0.get? b = some o → h'.get? b = some o) → h'.get? tot' = some (lO cs.flatten n') → (tot' = tot ∧ i = items.size ∨ h0.objs.size ≤ tot') → R (.ok (.ret (.ref tot'))) { s with heap := h', toks := tk }) →
      codeAny (model prog w) A (.builtin "sum.loop" ⟨[.ref I, .ref S, rawInt 2, rawInt 0], []⟩) R s := by
  have W := Walks.list (prog := prog) (w := w) (A := A.in1) hh I l hne items
  intro k
  induction k with
  | zero =>
    intro i s tot t nt c hk hi hst hkp hS ht n1 n2 et hR
    have hin : i = items.size := by omega
    subst hin
    refine codeAny_builtin F.entry_sum_loop ?_
    rw [Around.under_plainId F.plain_sum_loop _]
    show wpAny _ A.in1 (seqItems? (.ref S) >>= _) _ _ s
    refine wpAny_bind (wpAny_seqItems hS rfl ?_)
    show wpAny _ A.in1 (tryCatch (pyNext (.ref I)) _ >>= _) _ _ s
    refine wpAny_bind (wpAny_tryCatch (W.done s _ _ hst fun h' tk hm => ?_))
    have hall : (cs.take items.size).flatten = cs.flatten := by rw [hcs, List.take_length]
    rw [hall] at et
    subst et
    exact wpAny_pure (hR h' tk tot nt (fun b o e => hm b o (by simp; rintro rfl; rw [nI] at e; cases e) (hkp b o e)) (hm tot _ (by simpa using n1) ht) (.inl ⟨rfl, rfl⟩))
  | succ k ih =>
    intro i s tot t nt c hk hi hst hkp hS ht n1 n2 et hR
    have hlt : i < items.size := by omega
    refine codeAny_builtin F.entry_sum_loop ?_
    rw [Around.under_plainId F.plain_sum_loop _]
    show wpAny _ A.in1 (seqItems? (.ref S) >>= _) _ _ s
    refine wpAny_bind (wpAny_seqItems hS rfl ?_)
    show wpAny _ A.in1 (tryCatch (pyNext (.ref I)) _ >>= _) _ _ s
    refine wpAny_bind (wpAny_tryCatch (W.item i s _ _ hlt hst fun v h1 tk1 hv hst' hm => ?_))
    obtain ⟨u, cu, nu, rfl, ec, hu⟩ := hit i v hv
    have hS1 := hm S _ (by simpa using hSI) hS
    have ht1 := hm tot _ (by simpa using n1) ht
    have hk1 : ∀ b o, h0.get? b = some o → h1.get? b = some o := fun b o e => hm b o (by simp; rintro rfl; rw [nI] at e; cases e) (hkp b o e)
    have hu1 := hk1 u _ hu
    have etn : t ++ cu = (cs.take (i + 1)).flatten := by rw [List.take_add_one, ec, List.flatten_append, et]; simp
    have hlen : t.toArray.size + cu.toArray.size ≤ sizeLine := by
      have h2 : (t ++ cu).length ≤ cs.flatten.length := by
        rw [etn]
        have q : cs.flatten = (cs.take (i + 1)).flatten ++ (cs.drop (i + 1)).flatten := by rw [← List.flatten_append, List.take_append_drop]
        rw [q, List.length_append]
        omega
      rw [List.length_append] at h2
      simp only [List.size_toArray]
      omega
    show wpAny _ A.in1 ((holding [Value.ref u] (binaryOp .Add (.ref tot) (.ref u))).attempt >>= _) _ _ _
    refine wpAny_bind (wpAny_attempt (wpAny_holding (PySem.P.add_list (s := { s with heap := h1, toks := tk1 }) ht1 hu1 ?_ hlen)))
    have eP : h1.push { cls := .type "list", data := .seq (t.toArray ++ cu.toArray) } = h1.push (lO (t ++ cu) 0) := by simp [lO]
    show wpAny _ A.in1 (updateSeq S (fun _ => #[.ref h1.objs.size]) >>= _) _ _ { s with heap := h1.push { cls := .type "list", data := .seq (t.toArray ++ cu.toArray) }, toks := tk1 }
    rw [eP]
    have hS2 : (h1.push (lO (t ++ cu) 0)).get? S = _ := Heap.get?_push_of_some _ hS1
    refine wpAny_bind (wpAny_updateSeq hS2 rfl ?_)
    have hS3 := Heap.get?_update_self (Obj.mapSeq fun _ => #[Value.ref h1.objs.size]) hS2 rfl
    refine wpAny_bind (wpAny_letGo ?_)
    have oth : ∀ b o, b ≠ S → h1.get? b = some o → (((h1.push (lO (t ++ cu) 0)).update S (Obj.mapSeq fun _ => #[Value.ref h1.objs.size])).update S (Obj.mapSeq fun _ => #[Value.ref h1.objs.size])).get? b = some o := fun b o hb e =>
      (Heap.get?_update_other _ _ (Ne.symm hb)).trans ((Heap.get?_update_other _ _ (Ne.symm hb)).trans (Heap.get?_push_of_some _ e))
    have hSlt : S < h1.objs.size := Heap.lt_size hS1
    have hIlt : I < h1.objs.size := by
      obtain ⟨o, ho, _⟩ := hst'.1
      exact Heap.lt_size ho
    have hnew : (((h1.push (lO (t ++ cu) 0)).update S (Obj.mapSeq fun _ => #[Value.ref h1.objs.size])).update S (Obj.mapSeq fun _ => #[Value.ref h1.objs.size])).get? h1.objs.size = some (lO (t ++ cu) 0) :=
      (Heap.get?_update_other _ _ (Nat.ne_of_lt hSlt)).trans ((Heap.get?_update_other _ _ (Nat.ne_of_lt hSlt)).trans (Heap.get?_push_size _ rfl))
    have fresh : h0.objs.size ≤ h1.objs.size := Nat.le_of_lt (Nat.lt_of_le_of_lt hI0 hIlt)
    refine wpAny_bind (wpAny_updateSeq hS3 rfl (wpAny_pure ⟨plainId_quiet F.plain_sum_loop _, ih (i + 1) { s with heap := ((h1.push (lO (t ++ cu) 0)).update S (Obj.mapSeq fun _ => #[Value.ref h1.objs.size])).update S (Obj.mapSeq fun _ => #[Value.ref h1.objs.size]), toks := tk1 } h1.objs.size (t ++ cu) 0 _ (by omega) hlt
      ⟨hst'.1.at fun o e => oth I o (Ne.symm hSI) e, hst'.2.at fun o e => oth l o (Ne.symm hSl) e⟩ (fun b o e => oth b o (by rintro rfl; rw [nS] at e; cases e) (hk1 b o e)) (Heap.get?_update_self _ hS3 rfl) hnew (Nat.ne_of_gt hIlt) (Nat.ne_of_gt hSlt) etn fun h' tk tot' n' q1 q2 q3 => ?_⟩))
    exact hR h' tk tot' n' q1 q2 (.inr (q3.elim (fun e => by rw [e.1]; exact fresh) id))
end
section
variable {X : Cx}
theorem startL (u : Value) (l : Value) : Builtin.Builtins.bindParams "sum" ["start"] 0 ⟨[u], []⟩ = pure [some u] := rfl
/-- sum(xs, start), both lists; the items lists -/
def rSumL : List V → Hp → VK → Prop := fun xs H Q => ∃ (a st : Addr) (ls : List Addr) (cs : List (List V)), xs = [.ref a, .ref st] ∧ H a = some (.lst (ls.map V.ref)) ∧ H st = some (.lst []) ∧ Paired (fun u c => H u = some (.lst c)) ls cs ∧ cs.flatten.length ≤ sizeLine ∧ cs ≠ [] ∧
  ∀ p, H p = none → Q (.ref p) (upd H p (.lst cs.flatten))
theorem cr_sumL (hc : X.calm = true) : CallR X (.builtin "sum") rSumL := by
  intro pins s σ H xs us Q I r h
  obtain ⟨a, st, ls, cs, rfl, ha, hst, hp, hz, hne, q⟩ := h
  obtain ⟨v1, v2, rfl, r1, r2⟩ := vals2 r
  obtain rfl : v1 = Value.ref a := r1
  obtain rfl : v2 = Value.ref st := r2
  obtain ⟨z1, its, n, ri, z2, ea⟩ := I.lstM ha
  obtain ⟨_, its2, n2, ri2, _, es⟩ := I.lstM hst
  have e2 : its2 = [] := by cases ri2; rfl
  subst e2
  have ei := refs_at ri
  subst ei
  -- the lists' contents
  have hcv : ∃ cv : List (List Value), Paired (fun c d => Vals c d) cs cv ∧ ∀ (i : Nat) (u : Addr), ls[i]? = some u → ∃ d m, cv[i]? = some d ∧ s.heap.get? u = some (lO d m) := by
    clear ha ea ri q hz hne z1 z2
    induction hp with
    | nil => exact ⟨[], .nil, fun i u e => by simp at e⟩
    | @cons u c ls cs h1 _ ih =>
      obtain ⟨cv, p1, p2⟩ := ih
      obtain ⟨_, d, m, rd, _, ed⟩ := I.lstM h1
      refine ⟨d :: cv, .cons rd p1, fun i u' e => ?_⟩
      cases i with
      | zero => simp at e; subst e; exact ⟨d, m, rfl, ed⟩
      | succ i =>
        obtain ⟨d', m', g1, g2⟩ := p2 i u' (by simpa using e)
        exact ⟨d', m', by simpa using g1, g2⟩
  obtain ⟨cv, pv, hat⟩ := hcv
  have fl : ∀ {cs : List (List V)} {cv : List (List Value)}, Paired (fun c d => Vals c d) cs cv → Vals cs.flatten cv.flatten := by
    intro cs cv h
    induction h with
    | nil => exact .nil
    | cons h1 _ ih => exact h1.append ih
  have vf := fl pv
  have hl1 : ls.length = cv.length := hp.length.trans pv.length
  have hne1 : cv ≠ [] := fun e => hne (by rw [e] at pv; cases pv; rfl)
  have hne2 : 0 < ls.length := by
    rw [hl1]
    exact List.length_pos_iff.mpr hne1
  refine call_function_tree F.kind_sum F.plain_sum F.entry_sum (by unfold argsOk; kernel_rfl) ?_
  unfold Builtin.«sum»
  simp only [List.length_cons, List.length_nil]
  rw [if_neg (by decide)]
  refine wpAny_bind (wpAny_of_eq (startL (.ref st) (.ref a)) ?_)
  have hl : s.heap.IsList a (ls.map Value.ref).toArray := ⟨_, ea, rfl, n, rfl⟩
  refine wpAny_bind (wpAny_pyIter_list hl ?_)
  refine wpAny_bind (wpAny_pure ?_)
  have ho1 : (s.heap.push { cls := .type "list_iterator", data := .fields #[.ref a, .int 0 0] }).get? st = some (lO [] n2) := Heap.get?_push_of_some _ es
  have tyl : ∀ (h : Heap) (tk : Nat), h.get? st = some (lO [] n2) → Shared.TypeIs { s with heap := h, toks := tk } (.ref st) "list" := fun h tk e => ⟨_, e, rfl⟩
  simp only [List.forIn_cons, List.forIn_nil]
  refine wpAny_bind (wpAny_bind (wpAny_bind (wpAny_isInstance (T := "list") (b := false) (tyl _ _ ho1) PySem.F.sub_list_str ?_)))
  simp only [Bool.false_eq_true, if_false]
  refine wpAny_pure (wpAny_bind (wpAny_bind (wpAny_isInstance (T := "list") (b := false) (tyl _ _ ho1) PySem.F.sub_list_bytes ?_)))
  simp only [Bool.false_eq_true, if_false]
  refine wpAny_pure (wpAny_bind (wpAny_bind (wpAny_isInstance (T := "list") (b := false) (tyl _ _ ho1) PySem.F.sub_list_bytearray ?_)))
  simp only [Bool.false_eq_true, if_false]
  refine wpAny_pure (wpAny_pure ?_)
  refine wpAny_bind (wpAny_newObj_type ?_)
  have zI : (s.heap.push { cls := .type "list_iterator", data := .fields #[.ref a, .int 0 0] }).objs.size = s.heap.objs.size + 1 := Heap.size_push ..
  have lt1 : a < s.heap.objs.size := Heap.lt_size ea
  have lt2 : st < s.heap.objs.size := Heap.lt_size es
  refine wpAny_pure ⟨plainId_quiet F.plain_sum_loop _, sum_loopL (I := s.heap.objs.size) (l := a) (S := (s.heap.push { cls := .type "list_iterator", data := .fields #[.ref a, .int 0 0] }).objs.size) (items := (ls.map Value.ref).toArray) (h0 := s.heap) (I.ok.hd hc) (Nat.ne_of_lt lt1) ?_ ?_ (Nat.le_refl _) ?_ ?_ cv (by simpa using hl1) (by rw [← vf.length]; exact hz) ?_ _ 0 _ st [] n2 0 rfl (Nat.zero_le _) ⟨⟨_, Heap.get?_push_of_some _ (Heap.get?_push_size _ rfl), rfl, rfl⟩, (hl.push _).push _⟩ (fun b o e => Heap.get?_push_of_some _ (Heap.get?_push_of_some _ e)) (Heap.get?_push_size _ rfl) (Heap.get?_push_of_some _ ho1) (Nat.ne_of_lt lt2) ?_ (by simp) fun h' tk tot' n' q1 q2 q3 => ?_⟩
  · exact Nat.ne_of_gt (by rw [zI]; exact Nat.lt_succ_self _)
  · exact Nat.ne_of_gt (by rw [zI]; exact Nat.lt_succ_of_lt lt1)
  · exact Heap.get?_none_of_le (Nat.le_refl _)
  · exact Heap.get?_none_of_le (by rw [zI]; exact Nat.le_succ _)
  · intro i v hv
    have hv : (ls.map Value.ref)[i]? = some v := by simpa using hv
    rw [List.getElem?_map] at hv
    obtain ⟨u, eu, rfl⟩ := Option.map_eq_some_iff.mp hv
    obtain ⟨d, m, g1, g2⟩ := hat i u eu
    exact ⟨u, d, m, rfl, g1, g2⟩
  · exact Nat.ne_of_lt (by rw [zI]; exact Nat.lt_succ_of_lt lt2)
  · have q3 : s.heap.objs.size ≤ tot' := by
      rcases q3 with ⟨_, e⟩ | e
      · have e : 0 = (ls.map Value.ref).toArray.size := e
        rw [List.size_toArray, List.length_map] at e
        omega
      · exact e
    exact ⟨V.ref tot', upd H tot' (.lst cs.flatten), I.laid (t' := tk) q1 q3 ⟨hz, cv.flatten, n', vf, q2⟩, rfl, q _ (I.hok.fresh q3)⟩
end
end KuS

/-! KuE -/
set_option Elab.async false
set_option linter.all false
set_option maxRecDepth 100000
set_option maxHeartbeats 4000000
namespace Ku
open PySem PySem.Spec PyProof.Rows L2 KuS KuD
/-! ### all but some addresses -/
def But (l : List Addr) (H H' : Hp) : Prop := ∀ a o, a ∉ l → H a = some o → H' a = some o
section
variable {l : List Addr} {H H1 H2 : Hp} {p : Addr} {o : HO}
theorem But.refl : But l H H := fun _ _ _ e => e
theorem But.trans (h1 : But l H H1) (h2 : But l H1 H2) : But l H H2 := fun a o n e => h2 a o n (h1 a o n e)
theorem But.of (h : Same H H1) : But l H H1 := fun a o _ e => h a o e
theorem But.mut (h : But l H H1) (m : p ∈ l) : But l H (upd H1 p o) := fun a u n e => by rw [upd_ne (fun z => n (by rw [z]; exact m))]; exact h a u n e
theorem But.new (h : But l H H1) (m : H1 p = none) : But l H (upd H1 p o) := h.trans (But.of (Same.new m))
/-- what was not known at first may change -/
theorem But.fresh (h : But l H H1) (m : H p = none) : But l H (upd H1 p o) := fun a u n e => by rw [upd_ne (ne_of_none e m)]; exact h a u n e
theorem But.at (h : But l H H1) (e : H p = some o) (n : p ∉ l) : H1 p = some o := h p o n e
theorem But.mono {l' : List Addr} (h : But l H H1) (s : ∀ a ∈ l, a ∈ l') : But l' H H1 := fun a o n e => h a o (fun m => n (s a m)) e
theorem But.nil (h : But [] H H1) : Same H H1 := fun a o e => h a o (by simp) e
theorem But.seq {K : PySem.W.Frag} {xs : List V} (h : But l H H1) (e : SqL K H p xs) (n : p ∉ l) : SqL K H1 p xs := by
  rcases e with ⟨e | ⟨o, e⟩⟩ | e
  · exact .inl (.inl (h _ _ n e))
  · exact .inl (.inr ⟨o, h _ _ n e⟩)
  · exact .inr e
theorem But.sqt {K : PySem.W.Frag} {xs : List V} (h : But l H H1) (e : SqT K H p xs) (n : p ∉ l) : SqT K H1 p xs := by
  rcases e with (e | ⟨o, e⟩) | e
  · exact .inl (.inl (h _ _ n e))
  · exact .inl (.inr ⟨o, h _ _ n e⟩)
  · exact .inr e
end
/-! ### dicts whose keys are texts, by a function -/
abbrev gd (f : Str → V) (ks : List Str) : List (Key × V) := ks.map fun k => (.inr k, f k)
theorem gd_val (f : Str → V) (k : Str) : ∀ ks : List Str, valV (gd f ks) (.inr k) = if k ∈ ks then some (f k) else none
  | [] => by simp [valV]
  | x :: r => by
    by_cases h : x = k
    · subst h
      rw [show gd f (x :: r) = (Sum.inr x, f x) :: gd f r from rfl, valV_pos rfl]
      simp
    · rw [show gd f (x :: r) = (Sum.inr x, f x) :: gd f r from rfl, valV_neg (fun e => h (Sum.inr.inj e)), gd_val f k r]
      have h2 : ¬ k = x := fun e => h e.symm
      simp [h2]
theorem gd_in {f : Str → V} {k : Str} {ks : List Str} (h : k ∈ ks) : valV (gd f ks) (.inr k) = some (f k) := by rw [gd_val, if_pos h]
theorem gd_out {f : Str → V} {k : Str} {ks : List Str} (h : ¬ k ∈ ks) : valV (gd f ks) (.inr k) = none := by rw [gd_val, if_neg h]
theorem gd_get (f : Str → V) (k : Str) (ks : List Str) (h : ¬ k ∈ ks → f k = .non) : (valV (gd f ks) (.inr k)).getD .non = f k := by
  by_cases c : k ∈ ks
  · rw [gd_in c]; rfl
  · rw [gd_out c, h c]; rfl
theorem gd_put {f : Str → V} {k : Str} {v : V} {ks : List Str} (h : k ∈ ks) : putK (gd f ks) (.inr k) v = gd (fun x => if x = k then v else f x) ks := by
  unfold putK
  have e : ((gd f ks).any fun kv => decide (kv.1 = Sum.inr k)) = true := by
    rw [valV_any, gd_in h]; rfl
  rw [if_pos e, List.map_map]
  refine List.map_congr_left fun x _ => ?_
  show (if (Sum.inr x : Key) = Sum.inr k then ((Sum.inr x : Key), v) else (Sum.inr x, f x)) = (Sum.inr x, if x = k then v else f x)
  by_cases c : x = k
  · subst c; simp
  · have c2 : ¬ (Sum.inr x : Key) = Sum.inr k := fun e => c (Sum.inr.inj e)
    rw [if_neg c2, if_neg c]
theorem gd_add {f : Str → V} {k : Str} {v : V} {ks : List Str} (h : ¬ k ∈ ks) : putK (gd f ks) (.inr k) v = gd f ks ++ [(.inr k, v)] := by
  unfold putK
  have e : ((gd f ks).any fun kv => decide (kv.1 = Sum.inr k)) = false := by
    rw [valV_any, gd_out h]; rfl
  rw [if_neg (by rw [e]; exact Bool.false_ne_true)]
theorem gd_congr {f f' : Str → V} {ks : List Str} (h : ∀ k ∈ ks, f k = f' k) : gd f ks = gd f' ks :=
  List.map_congr_left fun x hx => by show (Sum.inr x, f x) = (Sum.inr x, f' x); rw [h x hx]
theorem gd_merge (f : Str → V) : ∀ (ks done : List Str), (done ++ ks).Nodup → mergeK (gd f done) (gd f ks) = gd f (done ++ ks)
  | [], done, _ => by simp [mergeK]
  | k :: r, done, h => by
    have hk : ¬ k ∈ done := fun m => by
      rw [List.nodup_append] at h
      exact h.2.2 k m k (List.mem_cons_self ..) rfl
    show mergeK (putK (gd f done) (.inr k) (f k)) (gd f r) = _
    rw [gd_add hk]
    have e : gd f done ++ [((Sum.inr k : Key), f k)] = gd f (done ++ [k]) := by simp [gd]
    rw [e, gd_merge f r (done ++ [k]) (by simpa using h)]
    simp
theorem gd_dict (f : Str → V) {ks : List Str} (h : ks.Nodup) : mergeK [] (gd f ks) = gd f ks := gd_merge f ks [] h
/-- places and numbers of removals -/
abbrev dPl (B R : List Str) (g : Str → Nat) (ks : List Str) : List (Key × V) := gd (fun k => ov (KM.nth B R k (g k))) ks
abbrev dGo (g : Str → Nat) (ks : List Str) : List (Key × V) := gd (fun k => .int (g k : Nat)) ks

/-! ### comprehensions that make tuples -/
theorem pair_snoc {α β : Type} {F : α → β → Prop} {as : List α} {bs : List β} (h : Paired F as bs) {a : α} {b : β} (f : F a b) : Paired F (as ++ [a]) (bs ++ [b]) := by
  induction h with
  | nil => exact .cons f .nil
  | cons h1 _ ih => exact .cons h1 ih
theorem pair_imp {α β : Type} {F G : α → β → Prop} {as : List α} {bs : List β} (h : Paired F as bs) (hi : ∀ a b, a ∈ as → F a b → G a b) : Paired G as bs := by
  induction h with
  | nil => exact .nil
  | cons h1 _ ih => exact .cons (hi _ _ (List.mem_cons_self ..) h1) (ih fun a b ha => hi a b (List.mem_cons_of_mem _ ha))
/-- [(x, f x) for x in xs], xs a list of texts -/
theorem lc_pairs {K : PySem.W.Frag} {a : Addr} {ns : List Str} {i : Nat} {te : TE} {vs : List Nat} {σ : L2.St} {H1 : Hp} {D : Addr} {Qd : Hp → Prop} (f : Str → V) (hn : ns.length ≤ 100000) (hD : H1 D = none) (hq : SqL K H1 a (ns.map V.str))
    (hw : ∀ x, wipe ((wipe σ vs).set i (some x)) vs = wipe σ vs)
    (hs : ∀ (x : Str) (H : Hp) (Q : VK), x ∈ ns → Same H1 H → (∀ p, H p = none → Q (.ref p) (upd H p (.tup [.str x, f x]))) → te ((wipe σ vs).set i (some (.str x))) H Q)
    (hd : ∀ (H : Hp) (ps : List Addr), Same H1 H → H D = some (.lst (ps.map V.ref)) → Paired (fun p x => H p = some (.tup [.str x, f x])) ps ns → Qd H) :
    ∃ W : Nat → Nat → Hp → Prop, (∃ m, W 0 m (upd H1 D (.lst []))) ∧ ∀ j m H, W j m H →
      ((Itl K a).stop j H ∧ Qd H) ∨ ((Itl K a).go j H ∧ ∃ Nx : Hp → Prop, (∀ H', Nx H' → ∃ m', m' < m ∧ W (j + 1) m' H') ∧ ∀ x H', (Itl K a).yld j H x H' → gName i x (wipe σ vs) H' fun σ2 H2 => wipe σ2 vs = wipe σ vs ∧ tYes σ2 H2 fun b H3 =>
        if b = true then te σ2 H3 fun y H4 => ∃ acc, H4 D = some (.lst acc) ∧ acc.length < sizeLine ∧ Nx (upd H4 D (.lst (acc ++ [y]))) else Nx H3) := by
  refine lc_list (K := K) (a := a) (xs := ns.map V.str) (fun j H => Same H1 H ∧ ∃ ps : List Addr, H D = some (.lst (ps.map V.ref)) ∧ Paired (fun p x => H p = some (.tup [.str x, f x])) ps (ns.take j)) ?_ ?_ ?_ ?_
  · exact ⟨Same.new hD, [], upd_same, .nil⟩
  · rintro j H _ ⟨s, _⟩
    exact s.seq hq
  · rintro j x H hx ⟨s, ps, hd', pp⟩
    obtain ⟨z, rfl, hz, hm⟩ := map_str_get hx
    have hj := (List.getElem?_eq_some_iff.mp hz).1
    refine ⟨hw _, ?_⟩
    show te _ _ _
    refine hs z _ _ hm s fun p hp => ?_
    have nDp := ne_of_none hd' hp
    refine ⟨_, by rw [upd_ne nDp]; exact hd', ?_, Same.mut (s.trans (Same.new hp)) hD, ps ++ [p], ?_, ?_⟩
    · rw [List.length_map, pp.length, List.length_take]
      exact Nat.lt_of_lt_of_le (show min j ns.length < 100000 by omega) (by decide)
    · rw [upd_same, List.map_append]; rfl
    · rw [List.take_add_one, hz]
      refine pair_snoc (pair_imp pp fun q x _ e => ?_) ?_
      · rw [upd_ne (ne_of e hd' (fun z => nomatch z)), upd_ne (ne_of_none e hp)]; exact e
      · rw [upd_ne (Ne.symm nDp)]; exact upd_same
  · rintro H ⟨s, ps, hd', pp⟩
    rw [List.length_map, List.take_length] at pp
    exact hd H ps s hd' pp
/-- the racing kinds with their places -/
def racers (pl : Str → Option Nat) (l : List Str) : List (Nat × Str) := l.filterMap fun k => (pl k).map fun p => (p, k)
theorem lc_race {K : PySem.W.Frag} {a : Addr} {ns : List Str} {i : Nat} {tt : TT} {te : TE} {vs : List Nat} {σ : L2.St} {H1 : Hp} {D : Addr} {Qd : Hp → Prop} (pl : Str → Option Nat) (hn : ns.length ≤ 100000) (hD : H1 D = none) (hq : SqT K H1 a (ns.map V.str))
    (hw : ∀ x, wipe ((wipe σ vs).set i (some x)) vs = wipe σ vs)
    (ht : ∀ (x : Str) (H : Hp) (Q : Bool → Hp → Prop), x ∈ ns → Same H1 H → Q (pl x).isSome H → tt ((wipe σ vs).set i (some (.str x))) H Q)
    (hs : ∀ (x : Str) (p : Nat) (H : Hp) (Q : VK), x ∈ ns → pl x = some p → Same H1 H → (∀ t, H t = none → Q (.ref t) (upd H t (.tup [.int p, .str x]))) → te ((wipe σ vs).set i (some (.str x))) H Q)
    (hd : ∀ (H : Hp) (ps : List Addr), Same H1 H → H D = some (.lst (ps.map V.ref)) → (∀ p ∈ ps, H1 p = none) → Paired (fun t (b : Nat × Str) => H t = some (.tup [.int b.1, .str b.2])) ps (racers pl ns) → Qd H) :
    ∃ W : Nat → Nat → Hp → Prop, (∃ m, W 0 m (upd H1 D (.lst []))) ∧ ∀ j m H, W j m H →
      ((Itt K a).stop j H ∧ Qd H) ∨ ((Itt K a).go j H ∧ ∃ Nx : Hp → Prop, (∀ H', Nx H' → ∃ m', m' < m ∧ W (j + 1) m' H') ∧ ∀ x H', (Itt K a).yld j H x H' → gName i x (wipe σ vs) H' fun σ2 H2 => wipe σ2 vs = wipe σ vs ∧ tt σ2 H2 fun b H3 =>
        if b = true then te σ2 H3 fun y H4 => ∃ acc, H4 D = some (.lst acc) ∧ acc.length < sizeLine ∧ Nx (upd H4 D (.lst (acc ++ [y]))) else Nx H3) := by
  refine lc_tup (K := K) (a := a) (xs := ns.map V.str) (fun j H => Same H1 H ∧ ∃ ps : List Addr, H D = some (.lst (ps.map V.ref)) ∧ (∀ p ∈ ps, H1 p = none) ∧ Paired (fun t (b : Nat × Str) => H t = some (.tup [.int b.1, .str b.2])) ps (racers pl (ns.take j))) ?_ ?_ ?_ ?_
  · exact ⟨Same.new hD, [], upd_same, by simp, .nil⟩
  · rintro j H _ ⟨s, _⟩
    exact Same.sqt s hq
  · rintro j x H hx ⟨s, ps, hd', hf, pp⟩
    obtain ⟨z, rfl, hz, hm⟩ := map_str_get hx
    have hj := (List.getElem?_eq_some_iff.mp hz).1
    refine ⟨hw _, ?_⟩
    show tt _ _ _
    refine ht z _ _ hm s ?_
    have et : racers pl (ns.take (j + 1)) = racers pl (ns.take j) ++ racers pl [z] := by
      rw [List.take_add_one, hz]
      unfold racers
      rw [List.filterMap_append]
      rfl
    cases ep : pl z with
    | none =>
      refine iteF ?_
      refine ⟨s, ps, hd', hf, ?_⟩
      rw [et]
      have : racers pl [z] = [] := by unfold racers; rw [List.filterMap_cons_none (by rw [ep]; rfl)]; rfl
      rw [this, List.append_nil]
      exact pp
    | some p =>
      refine iteT ?_
      refine hs z p _ _ hm ep s fun t ht' => ?_
      have nDt := ne_of_none hd' ht'
      refine ⟨_, by rw [upd_ne nDt]; exact hd', ?_, Same.mut (s.trans (Same.new ht')) hD, ps ++ [t], ?_, ?_, ?_⟩
      · rw [List.length_map, pp.length]
        have h1 : (racers pl (ns.take j)).length ≤ (ns.take j).length := List.length_filterMap_le _ _
        rw [List.length_take] at h1
        exact Nat.lt_of_lt_of_le (show (racers pl (ns.take j)).length < 100000 by omega) (by decide)
      · rw [upd_same, List.map_append]; rfl
      · intro q hq'
        rcases List.mem_append.mp hq' with h | h
        · exact hf q h
        · rw [List.mem_singleton.mp h]; exact s.free ht'
      · rw [et]
        have : racers pl [z] = [(p, z)] := by unfold racers; rw [List.filterMap_cons_some (by rw [ep]; rfl)]; rfl
        rw [this]
        refine pair_snoc (pair_imp pp fun q x _ e => ?_) ?_
        · rw [upd_ne (ne_of e hd' (fun z => nomatch z)), upd_ne (ne_of_none e ht')]; exact e
        · rw [upd_ne (Ne.symm nDt)]; exact upd_same
  · rintro H ⟨s, ps, hd', hf, pp⟩
    rw [List.length_map, List.take_length] at pp
    exact hd H ps s hd' hf pp
/-! ### data stay where dicts change -/
section
variable {K : PySem.W.Frag} {l : List Addr} {H H' : Hp}
theorem sqt_but (e : But l H H') (d : ∀ b ∈ l, ∃ kvs, H b = some (.dK kvs)) {a : Addr} {xs : List V} (h : SqT K H a xs) : SqT K H' a xs := by
  rcases h with (h | ⟨o, h⟩) | h
  · exact .inl (.inl (e _ _ (fun m => by obtain ⟨k, hk⟩ := d _ m; rw [h] at hk; cases hk) h))
  · exact .inl (.inr ⟨o, e _ _ (fun m => by obtain ⟨k, hk⟩ := d _ m; rw [h] at hk; cases hk) h⟩)
  · exact .inr h
theorem sql_but (e : But l H H') (d : ∀ b ∈ l, ∃ kvs, H b = some (.dK kvs)) {a : Addr} {xs : List V} (h : SqL K H a xs) : SqL K H' a xs := by
  rcases h with (h | ⟨o, h⟩) | h
  · exact .inl (.inl (e _ _ (fun m => by obtain ⟨k, hk⟩ := d _ m; rw [h] at hk; cases hk) h))
  · exact .inl (.inr ⟨o, e _ _ (fun m => by obtain ⟨k, hk⟩ := d _ m; rw [h] at hk; cases hk) h⟩)
  · exact .inr h
mutual
theorem dp_but (e : But l H H') (d : ∀ b ∈ l, ∃ kvs, H b = some (.dK kvs)) : ∀ {v : V} {x : PyData}, Dp K H v x → Dp K H' v x
  | _, _, .non => .non
  | _, _, .bl b => .bl b
  | _, _, .int i => .int i
  | _, _, .str x => .str x
  | _, _, .lst h ha => .lst (sql_but e d h) (dpa_but e d ha)
  | _, _, .tup h ha => .tup (sqt_but e d h) (dpa_but e d ha)
theorem dpa_but (e : But l H H') (d : ∀ b ∈ l, ∃ kvs, H b = some (.dK kvs)) : ∀ {vs : List V} {ds : List PyData}, DpAll K H vs ds → DpAll K H' vs ds
  | _, _, .nil => .nil
  | _, _, .cons h ha => .cons (dp_but e d h) (dpa_but e d ha)
end
end
end Ku

/-! KuB1 -/
set_option Elab.async false
set_option linter.all false
set_option maxRecDepth 100000
set_option maxHeartbeats 8000000
namespace Ku
open PySem PySem.Spec PyProof.Rows L2 KuS KuD
section
variable {P : Program} {w : World} {K : PySem.W.Frag} {mg : Str → Option Value} {base : Heap}
theorem sz1000 {n : Nat} (h : n ≤ 1000) : n ≤ sizeLine := Nat.le_trans h (by decide)
/-! ### _law_begun -/
/-- a state's dicts: places at p, removals at q -/
structure LS (B R : List Str) (ks : List Str) (g : Str → Nat) (H : Hp) (p q : Addr) : Prop where
  pl : H p = some (.dK (dPl B R g ks))
  go : H q = some (.dK (dGo g ks))
abbrev kinds (B R : List Str) : List Str := kset (B ++ R)
def spBegun (K : PySem.W.Frag) : Sp := fun vs H Q _ => ∃ (a b : Addr) (B R : List Str), vs = [.ref a, .ref b] ∧ H a = some (.lst (B.map V.str)) ∧ H b = some (.lst (R.map V.str)) ∧ B ≠ [] ∧ B.length ≤ 100 ∧ R.length ≤ 100 ∧
  ∀ (t p q : Addr) (H' : Hp), Same H H' → H t = none → H p = none → H q = none → p ≠ q → H' t = some (.tup [.ref p, .ref q]) → LS B R (kinds B R) (fun _ => 0) H' p q → Q (.ref t) H'
abbrev nmBegun : List Str := ["_law_block", "_law_recent", "_law_kinds_here", "_law_places", "_law_kind_here"]
theorem sc_law_begun : FnScope nmBegun ["_law_block", "_law_recent"] (defScope s_law_begun) := fnScope_dec (by decide +kernel)
theorem cal_law_begun (Z : Say K mg) : Cal P w K mg base 3 "_law_begun" (spBegun K) := by
  obtain ⟨fd, F⟩ := Z.D_law_begun
  have cS : Cal P w K mg base 2 "_law_spot" (spSpot K) := cal_law_spot Z
  refine ⟨_, fd, ["_law_block", "_law_recent"], fn_ok F sc_law_begun (fun vs H Q E h => ?_) (fun cdv A outer s H vs Q E hr h => ?_), Z.g_law_begun, F.kp, F.bindsN fun _ _ _ _ _ _ us hl => match us, hl with | [_, _], _ => rfl⟩
  · obtain ⟨a, b, B, R, rfl, _⟩ := h
    rfl
  · obtain ⟨a, b, B, R, rfl, hB, hR, hne, zB, zR, q⟩ := h
    have nd := sc_law_begun.nd
    have hu := hr.units
    refine ⟨_, pss_cons (ps_set (i := 2) nd rfl (Or.inl rfl) (pe_callB (cr_sortSS rfl hu) rfl Z.f_sorted boot_sorted (pa_cons (pe_callTy (cr_setS rfl) rfl Z.f_set boot_set (pa_cons (pe_op op_cat (pv 0) (pv 1)) pa_nil)) pa_nil)))
      (pss_cons (ps_set (i := 3) nd rfl (Or.inl rfl) (pe_callTy (call_dictP rfl) rfl Z.f_dict boot_dict (pa_cons
          (pe_lc (own := [("_law_kind_here", 4)]) (g := gName 4) (tt := tYes) rfl nd (pi_list (pv 2)) (blkOk_by (N := nmBegun) (sc := defScope s_law_begun) (by decide +kernel)) (fun _ _ _ _ _ => pg_name (i := 4) nd rfl (Or.inl rfl)) (fun _ _ _ _ _ => pts_nil)
            (fun _ _ _ _ _ => pe_tup (pa_cons (pv 4) (pa_cons (pe_c cS hr (by decide) rfl (pa_cons (pv 0) (pa_cons (pv 1) (pa_cons (pv 4) (pa_cons pe_int pa_nil))))) pa_nil)))) pa_nil)))
      (pss_one (ps_ret (pe_tup (pa_cons (pv 3) (pa_cons (pe_callTy (call_dictP rfl) rfl Z.f_dict boot_dict (pa_cons
          (pe_lc (own := [("_law_kind_here", 4)]) (g := gName 4) (tt := tYes) rfl nd (pi_list (pv 2)) (blkOk_by (N := nmBegun) (sc := defScope s_law_begun) (by decide +kernel)) (fun _ _ _ _ _ => pg_name (i := 4) nd rfl (Or.inl rfl)) (fun _ _ _ _ _ => pts_nil)
            (fun _ _ _ _ _ => pe_tup (pa_cons (pv 4) (pa_cons pe_int pa_nil)))) pa_nil)) pa_nil)))))), ?_⟩
    -- the kinds
    have zk : (kinds B R).length ≤ 200 := Nat.le_trans (kset_len _) (by rw [List.length_append]; omega)
    refine ⟨_, rfl, _, rfl, a, b, _, _, rfl, rfl, hB, hR, sz1000 (by rw [List.length_map, List.length_map]; omega), fun p1 h1 => ?_⟩
    rw [← List.map_append]
    refine ⟨p1, B ++ R, rfl, SqL.of upd_same, by rw [List.length_append]; omega, fun p2 h2 => ?_⟩
    refine ⟨p2, _, rfl, upd_same, Nat.le_trans (ofS_len _) (by rw [List.length_append]; omega), fun p3 h3 => ?_⟩
    have s3 := ((Same.new h1).trans (Same.new h2)).trans (Same.new (o := .lst ((kinds B R).map V.str)) h3)
    have hk := fun (H0 : Hp) => upd_same (H := H0) (a := p3) (o := .lst ((kinds B R).map V.str))
    have hk := hk (upd (upd H p1 (.lst ((B ++ R).map V.str))) p2 (SetSO w p2 (ofS (B ++ R))))
    have knd : (kinds B R).Nodup := kset_nodup _
    -- the places
    refine ⟨_, rfl, p3, rfl, ⟨_, SqL.of hk⟩, fun D hD => ?_⟩
    refine lc_pairs (K := K) (a := p3) (ns := kinds B R) (fun k => ov (KM.nth B R k 0)) (by omega) hD (SqL.of hk) (fun _ => rfl) ?_ ?_
    · intro x H' Q' hx s' q'
      refine ⟨_, rfl, _, rfl, _, rfl, _, rfl, a, b, B, R, x, 0, rfl, SqL.of (s' _ _ (s3 _ _ hB)), SqL.of (s' _ _ (s3 _ _ hR)), hne, ⟨by omega, by omega, by decide⟩, by show 2 ≤ sizeLine; decide, fun p hp => ?_⟩
      rw [KM.spot_zero]
      exact q' p hp
    intro Hc ps sc hd pp
    refine ⟨D, ps, gd (fun k => ov (KM.nth B R k 0)) (kinds B R), rfl, SqL.of hd, ?_, fun pd hpd => ?_⟩
    · have : ∀ {l : List Addr} {m : List Str}, Paired (fun p x => Hc p = some (.tup [.str x, ov (KM.nth B R x 0)])) l m → Paired (fun p (kv : Key × V) => SqT K Hc p [kV kv.1, kv.2]) l (gd (fun k => ov (KM.nth B R k 0)) m) := by
        intro l m h
        induction h with
        | nil => exact .nil
        | cons h1 _ ih => exact .cons (SqT.of h1) ih
      exact this pp
    rw [gd_dict _ knd]
    have hpl : upd Hc pd (.dK (gd (fun k => ov (KM.nth B R k 0)) (kinds B R))) pd = some (.dK (gd (fun k => ov (KM.nth B R k 0)) (kinds B R))) := upd_same
    have sd := (sc.trans (Same.new (o := .dK (gd (fun k => ov (KM.nth B R k 0)) (kinds B R))) hpd))
    have hpdH : H pd = none := (s3.trans sc).free hpd
    generalize upd Hc pd (.dK (gd (fun k => ov (KM.nth B R k 0)) (kinds B R))) = Hd at hpl sd
    -- the removals
    refine ⟨_, rfl, _, rfl, p3, rfl, ⟨_, SqL.of (sd _ _ hk)⟩, fun D2 hD2 => ?_⟩
    refine lc_pairs (K := K) (a := p3) (ns := kinds B R) (fun k => .int 0) (by omega) hD2 (SqL.of (sd _ _ hk)) (fun _ => rfl) ?_ ?_
    · intro x H' Q' hx s' q'
      exact ⟨_, rfl, by show 2 ≤ sizeLine; decide, q'⟩
    intro He ps2 se hd2 pp2
    refine ⟨D2, ps2, gd (fun k => .int 0) (kinds B R), rfl, SqL.of hd2, ?_, fun pg hpg => ?_⟩
    · have : ∀ {l : List Addr} {m : List Str}, Paired (fun p x => He p = some (.tup [.str x, .int 0])) l m → Paired (fun p (kv : Key × V) => SqT K He p [kV kv.1, kv.2]) l (gd (fun k => .int 0) m) := by
        intro l m h
        induction h with
        | nil => exact .nil
        | cons h1 _ ih => exact .cons (SqT.of h1) ih
      exact this pp2
    rw [gd_dict _ knd]
    refine ⟨by show 2 ≤ sizeLine; decide, fun t ht => ?_⟩
    have e1 := se _ _ hpl
    have npg := ne_of_none e1 hpg
    have e2 : upd He pg (.dK (gd (fun k => .int 0) (kinds B R))) pd = _ := (upd_ne npg).trans e1
    have nt1 := ne_of_none e2 ht
    have sAll := ((s3.trans sd).trans se)
    have ht' : He t = none := (Same.new hpg).free ht
    refine q t pd pg _ ((sAll.trans (Same.new hpg)).trans (Same.new ht)) (sAll.free ht') hpdH (sAll.free hpg) npg upd_same ⟨?_, ?_⟩
    · rw [upd_ne nt1]; exact e2
    · rw [upd_ne (ne_of_none upd_same ht), upd_same]
      rfl
end
end Ku

/-! KuB2 -/
set_option Elab.async false
set_option linter.all false
set_option maxRecDepth 100000
set_option maxHeartbeats 8000000
namespace Ku
open PySem PySem.Spec PyProof.Rows L2 KuS KuD
theorem kinds_mem {B R : List Str} {k : Str} {i p : Nat} (h : KM.nth B R k i = some p) : k ∈ kinds B R := by
  rw [kset_mem, List.mem_append]
  exact KM.nth_known h
theorem pl_out {B R : List Str} {g : Str → Nat} {k : Str} (h : ¬ k ∈ kinds B R) : ov (KM.nth B R k (g k)) = .non := by
  cases e : KM.nth B R k (g k) with
  | none => rfl
  | some p => exact absurd (kinds_mem e) h
theorem eqv_nil (ds : List PyData) : PyData.eqv (.list ds) (.list []) = ds.isEmpty := by
  cases ds <;> rfl
theorem pairs_dpa {K : PySem.W.Frag} {H : Hp} : ∀ {ps : List Addr} {bs : List (Nat × Str)}, Paired (fun t (b : Nat × Str) => H t = some (.tup [.int b.1, .str b.2])) ps bs → DpAll K H (ps.map V.ref) (bs.map eP)
  | _, _, .nil => .nil
  | _, _, .cons h1 h2 => .cons (.tup (SqT.of h1) (.cons (.int _) (.cons (.str _) .nil))) (pairs_dpa h2)
theorem kd_ok {k : Str} (h : Kd k) : PyData.strOk k = true := by
  unfold PyData.strOk
  rw [← Array.all_toList, List.all_eq_true]
  intro c hc
  have := h.2.2 c hc
  exact decide_eq_true (by omega)
theorem shaped_pairs {bs : List (Nat × Str)} (hk : ∀ b ∈ bs, Kd b.2) : SeqAt.shaped (.list (bs.map eP)) = true := by
  unfold SeqAt.shaped
  have h1 : ∀ l : List (Nat × Str), (∀ b ∈ l, Kd b.2) → PyData.canLayAll0 (l.map eP) = true := by
    intro l
    induction l with
    | nil => intro _; rfl
    | cons b l ih =>
      intro h
      show ((eP b).canLay0 && PyData.canLayAll0 (l.map eP)) = true
      rw [ih fun c hc => h c (List.mem_cons_of_mem _ hc)]
      simp [PyData.canLay0, PyData.canLayAll0, kd_ok (h b (List.mem_cons_self ..))]
  have h2 : ∀ l : List (Nat × Str), PyData.depthAll (l.map eP) ≤ 8 := by
    intro l
    induction l with
    | nil => show 0 ≤ 8; omega
    | cons b l ih =>
      show max (eP b).depth (PyData.depthAll (l.map eP)) ≤ 8
      exact Nat.max_le.mpr ⟨by simp [PyData.depth, PyData.depthAll], ih⟩
  rw [Bool.and_eq_true]
  refine ⟨?_, decide_eq_true ?_⟩
  · rw [PyData.canLay0]; exact h1 bs hk
  have := h2 bs
  show PyData.depthAll (bs.map eP) + 1 ≤ 64
  omega
section
variable {P : Program} {w : World} {K : PySem.W.Frag} {mg : Str → Option Value} {base : Heap}
/-! ### _law_taken -/
def Small (g : Str → Nat) : Prop := ∀ k, g k ≤ 2 ^ 40
def spTaken (K : PySem.W.Frag) : Sp := fun vs H Q _ => ∃ (a b t l p q : Addr) (B R some_ : List Str) (g : Str → Nat), vs = [.ref a, .ref b, .ref t, .ref l] ∧ H a = some (.lst (B.map V.str)) ∧ H b = some (.lst (R.map V.str)) ∧ H t = some (.tup [.ref p, .ref q]) ∧ p ≠ q ∧ LS B R (kinds B R) g H p q ∧ SqT K H l (some_.map V.str) ∧
  B ≠ [] ∧ B.length ≤ 100 ∧ R.length ≤ 100 ∧ some_.length ≤ 100 ∧ some_.Nodup ∧ (∀ k ∈ some_, Kd k) ∧ Small g ∧
  ∀ (r : Addr) (ts : List Addr) (ms : List (Str × Str)) (H' : Hp), But [p, q] H H' → LS B R (kinds B R) (KM.stepG B R g some_) H' p q → H r = none → (∀ t ∈ ts, H t = none) → H' r = some (.lst (ts.map V.ref)) → Paired (fun t (x : Str × Str) => H' t = some (.tup [.str x.1, .str x.2])) ts ms →
    (∀ x : Str × Str, x ∈ ms ↔ x ∈ KM.meets B R g some_) → ms.length ≤ 100 → Q (.ref r) H'
abbrev nmTaken : List Str := ["_law_block", "_law_recent", "_law_state", "_law_some", "_law_places", "_law_gone", "_law_racing", "_law_place", "_law_winner", "_law_kind_here", "_law_spot_here"]
theorem sc_law_taken : FnScope nmTaken ["_law_block", "_law_recent", "_law_state", "_law_some"] (defScope s_law_taken) := fnScope_dec (by decide +kernel)
theorem cal_law_taken (Z : Say K mg) : Cal P w K mg base 3 "_law_taken" (spTaken K) := by
  obtain ⟨fd, F⟩ := Z.D_law_taken
  have cS : Cal P w K mg base 2 "_law_spot" (spSpot K) := cal_law_spot Z
  refine ⟨_, fd, ["_law_block", "_law_recent", "_law_state", "_law_some"], fn_ok F sc_law_taken (fun vs H Q E h => ?_) (fun cdv A outer s H vs Q E hr h => ?_), Z.g_law_taken, F.kp, F.bindsN fun _ _ _ _ _ _ us hl => match us, hl with | [_, _, _, _], _ => rfl⟩
  · obtain ⟨a, b, t, l, p, q, B, R, some_, g, rfl, _⟩ := h
    rfl
  · obtain ⟨a, b, t, l, p, q, B, R, some_, g, rfl, hB, hR, ht, npq, L, hl, hne, zB, zR, zs, snd, kd, sg, qq⟩ := h
    have nd := sc_law_taken.nd
    have hu := hr.units
    have hu1 : (A.deeper (envOfC d_law_taken.qual d_law_taken.scope s.heap.objs.size (He.fAd K d_law_taken.at_) cdv)).units + 1 < cLine := by omega
    refine ⟨_, pss_cons (ps_asg (pv 2) (pg_tup rfl (pgs_cons (pg_name (i := 4) nd rfl (Or.inr rfl)) (pgs_cons (pg_name (i := 5) nd rfl (Or.inl rfl)) pgs_nil))))
      (pss_cons (ps_set (i := 6) nd rfl (Or.inl rfl) (pe_callB (cr_sortX eP alike_eP (fun _ => ⟨_, _, rfl⟩) (fun _ => by simp [PyData.depth, PyData.depthAll]) hu) rfl Z.f_sorted boot_sorted (pa_cons
          (pe_lc (own := [("_law_kind_here", 9)]) (g := gName 9) rfl nd (pi_tup (pv 3)) (blkOk_by (N := nmTaken) (sc := defScope s_law_taken) (by decide +kernel)) (fun _ _ _ _ _ => pg_name (i := 9) nd rfl (Or.inl rfl))
            (fun _ _ _ _ _ => pts_one (pt_cmp (pc_notN (pe_dget1 hu1 (pv 4) (pv 9) ⟨rfl, rfl, rfl, rfl⟩))))
            (fun _ _ _ _ _ => pe_tup (pa_cons (pe_dget hu1 (pv 4) (pv 9) (fun _ _ => rfl)) (pa_cons (pv 9) pa_nil)))) pa_nil)))
      (pss_cons (ps_if (pt_cmpR (op_eqD hu) (pv 6) (pe_lst pa_nil) (nomark _)) (pss_one (ps_ret (pe_lst pa_nil))) pss_nil)
      (pss_cons (ps_asg (pe_ix ix_list (pv 6) pe_int (fun _ _ => rfl)) (pg_tup rfl (pgs_cons (pg_name (i := 7) nd rfl (Or.inl rfl)) (pgs_cons (pg_name (i := 8) nd rfl (Or.inr rfl)) pgs_nil))))
      (pss_cons (ps_daug hu1 (pv 5) (pv 8) pe_int in_add (fun _ _ _ => rfl))
      (pss_cons (ps_dput hu1 (pv 4) (pv 8) (pe_c cS hr (by decide) rfl (pa_cons (pv 0) (pa_cons (pv 1) (pa_cons (pv 8) (pa_cons (pe_op op_add (pv 7) pe_int) pa_nil))))) rfl)
      (pss_one (ps_ret (pe_lc (own := [("_law_spot_here", 10), ("_law_kind_here", 9)]) (g := gTup K 2 (gCons (gName 10) (gCons (gName 9) gNil))) (tt := tYes) rfl nd (pi_list (pe_slice sl_list (pv 6) (po_some pe_int) po_none)) (blkOk_by (N := nmTaken) (sc := defScope s_law_taken) (by decide +kernel))
            (fun _ _ _ _ _ => pg_tup rfl (pgs_cons (pg_name (i := 10) nd rfl (Or.inl rfl)) (pgs_cons (pg_name (i := 9) nd rfl (Or.inl rfl)) pgs_nil))) (fun _ _ _ _ _ => pts_nil)
            (fun _ _ _ _ _ => pe_tup (pa_cons (pv 8) (pa_cons (pv 9) pa_nil))))))))))), ?_⟩
    refine ⟨_, rfl, t, _, rfl, SqT.of ht, rfl, _, _, rfl, _, _, rfl, rfl, ?_⟩
    refine ⟨_, rfl, l, rfl, ⟨_, hl⟩, fun D hD => ?_⟩
    refine lc_race (K := K) (a := l) (ns := some_) (fun k => KM.nth B R k (g k)) (by omega) hD hl (fun _ => rfl) ?_ ?_ ?_
    · intro x H' Q' hx s' q'
      refine ⟨_, rfl, p, rfl, .inl ⟨_, .inl (s' _ _ L.pl)⟩, _, rfl, _, DGet.k (k := .inr x) (s' _ _ L.pl), ?_⟩
      rw [gd_get _ _ _ pl_out]
      refine ⟨_, rfl, ?_⟩
      cases e : KM.nth B R x (g x) with
      | none => rw [e] at q'; exact q'
      | some y => rw [e] at q'; exact q'
    · intro x y H' Q' hx ey s' q'
      refine ⟨_, rfl, _, rfl, p, .int y, rfl, ?_, _, rfl, by show 2 ≤ sizeLine; decide, q'⟩
      have e := DGet.k (k := .inr x) (s' _ _ L.pl)
      rw [gd_in (kinds_mem ey)] at e
      have ey : KM.nth B R x (g x) = some y := ey
      rw [ey] at e
      exact e
    intro Ha ps s1 hd hf pp
    have pp : Paired (fun t (b : Nat × Str) => Ha t = some (.tup [.int b.1, .str b.2])) ps (KM.racing B R g some_) := pp
    refine ⟨D, _, KM.racing B R g some_, rfl, SqL.of hd, pairs_dpa pp, fun out o1 hdp ho1 => ?_⟩
    have hlen : (KM.racing B R g some_).length ≤ 100 := Nat.le_trans (List.length_filterMap_le _ _) zs
    have pw := pairs_sorted (KM.racing B R g some_)
    have perm : ((KM.racing B R g some_).mergeSort (PySem.W.dataLe false eP)).Perm (KM.racing B R g some_) := List.mergeSort_perm _ _
    have s2 := s1.trans (Same.new (o := .lst out) ho1)
    have ho2 : upd Ha o1 (.lst out) o1 = some (.lst out) := upd_same
    have hdp2 := dpa_same (Same.new (o := .lst out) ho1) hdp
    have fo1 := s1.free ho1
    generalize upd Ha o1 (.lst out) = Hb at s2 ho2 hdp2
    generalize (KM.racing B R g some_).mergeSort (PySem.W.dataLe false eP) = sl at pw perm hdp hdp2
    have hsl : sl.length ≤ 100 := by rw [perm.length_eq]; exact hlen
    have hout : out.length ≤ 100 := by
      have := DpAll.len hdp
      rw [List.length_map] at this
      omega
    -- is there one at all
    refine ⟨_, rfl, by show 0 ≤ sizeLine; decide, fun e1 he1 => ?_⟩
    refine ⟨.list (sl.map eP), .list [], dp_same (Same.new he1) (.lst (SqL.of ho2) hdp2), .lst (SqL.of upd_same) .nil, shaped_pairs (fun b hb => kd _ (KM.mem_racing.mp (perm.mem_iff.mp hb)).1), rfl, _, rfl, ?_⟩
    rw [eqv_nil]
    have s3 := s2.trans (Same.new (o := .lst []) he1)
    have ho3 := Same.new (o := .lst []) he1 _ _ ho2
    have hdp3 := dpa_same (Same.new (o := .lst []) he1) hdp2
    generalize upd Hb e1 (.lst []) = Hc at s3 ho3 hdp3
    cases sl with
    | nil =>
      have er : KM.racing B R g some_ = [] := List.Perm.eq_nil perm.symm
      have ew : KM.winner B R g some_ = none := KM.winner_none.mpr er
      refine iteT ⟨by show 0 ≤ sizeLine; decide, fun r hr => ?_⟩
      have eg : KM.stepG B R g some_ = g := by unfold KM.stepG; rw [ew]
      have em : KM.meets B R g some_ = [] := by unfold KM.meets; rw [ew]
      have s4 := s3.trans (Same.new (o := .lst []) hr)
      refine qq r [] [] _ (But.of s4) ?_ (s3.free hr) (by simp) upd_same .nil (fun x => by rw [em]) (by simp)
      rw [eg]
      exact ⟨s4 _ _ L.pl, s4 _ _ L.go⟩
    | cons b0 br =>
      refine iteF ?_
      -- the least
      have hb0 : (b0.1, b0.2) ∈ KM.racing B R g some_ := perm.mem_iff.mp (List.mem_cons_self ..)
      obtain ⟨hp1, hp2⟩ := KM.mem_racing.mp hb0
      have ew : KM.winner B R g some_ = some b0.2 := by
        refine KM.winner_some.mpr ⟨b0.1, hb0, fun x hx => ?_⟩
        rcases List.mem_cons.mp (perm.mem_iff.mpr hx) with e | e
        · rw [e]; exact Nat.le_refl _
        · exact (List.pairwise_cons.mp pw).1 x e
      obtain ⟨v0, out', rfl, hv0, hrest⟩ : ∃ v0 out', out = v0 :: out' ∧ Dp K Hc v0 (eP b0) ∧ DpAll K Hc out' (br.map eP) := by
        cases hdp3 with
        | cons h1 h2 => exact ⟨_, _, rfl, h1, h2⟩
      obtain ⟨ta, xs, rfl, hta, hxs⟩ := dp_tuple hv0
      obtain ⟨x1, x2, rfl, rfl, rfl⟩ : ∃ x1 x2, xs = [x1, x2] ∧ x1 = .int (b0.1 : Nat) ∧ x2 = .str b0.2 := by
        cases hxs with
        | cons h1 h2 =>
          cases h2 with
          | cons h3 h4 =>
            cases h4
            exact ⟨_, _, rfl, dp_int h1, dp_str h3⟩
      refine ⟨_, rfl, o1, _, 0, .ref ta, rfl, rfl, SqL.of ho3, at_ofA (j := 0) rfl rfl, ta, _, rfl, hta, rfl, _, _, rfl, _, _, rfl, rfl, ?_⟩
      -- one removal more
      have hgo := s3 _ _ L.go
      have hpl := s3 _ _ L.pl
      have hw := kinds_mem hp2
      refine ⟨_, rfl, _, rfl, q, .int (g b0.2 : Nat), rfl, ?_, ?_⟩
      · have e := DGet.k (k := .inr b0.2) hgo
        rw [gd_in hw] at e
        exact e
      refine ⟨_, _, rfl, rfl, _, DPut.k (k := .inr b0.2) hgo ?_, ?_⟩
      · rw [List.length_map]
        exact Nat.lt_of_le_of_lt (Nat.le_trans (kset_len _) (by rw [List.length_append]; exact (Nat.add_le_add zB zR : _ ≤ 200))) (by decide)
      rw [gd_put hw]
      have eS : ∀ k, KM.stepG B R g some_ k = if k = b0.2 then g k + 1 else g k := fun k => by unfold KM.stepG; rw [ew]
      have go2 : gd (fun x => if x = b0.2 then V.int (((g b0.2 : Nat) : Int) + 1) else V.int (g x : Nat)) (kinds B R) = dGo (KM.stepG B R g some_) (kinds B R) := gd_congr fun k _ => by
        show (if k = b0.2 then V.int (((g b0.2 : Nat) : Int) + 1) else V.int (g k : Nat)) = V.int (KM.stepG B R g some_ k : Nat)
        rw [eS]
        by_cases c : k = b0.2
        · subst c; rw [if_pos rfl, if_pos rfl]; congr 1
        · rw [if_neg c, if_neg c]
      rw [go2]
      have isd : ∀ x ∈ [p, q], ∃ kvs, Hc x = some (.dK kvs) := fun x hx => by
        rcases List.mem_cons.mp hx with e | e
        · rw [e]; exact ⟨_, hpl⟩
        · rw [List.mem_singleton.mp e]; exact ⟨_, hgo⟩
      have bd : But [p, q] Hc (upd Hc q (.dK (dGo (KM.stepG B R g some_) (kinds B R)))) := But.refl.mut (by simp)
      have hgo2 : upd Hc q (.dK (dGo (KM.stepG B R g some_) (kinds B R))) q = _ := upd_same
      have hpl2 : upd Hc q (.dK (dGo (KM.stepG B R g some_) (kinds B R))) p = _ := (upd_ne npq).trans hpl
      generalize upd Hc q (.dK (dGo (KM.stepG B R g some_) (kinds B R))) = Hd at bd hgo2 hpl2
      -- the next place
      have sq1 := sql_but (K := K) bd isd (SqL.of (s3 _ _ hB))
      have sq2 := sql_but (K := K) bd isd (SqL.of (s3 _ _ hR))
      have hb1 := KM.nth_le hp2
      have sgw := sg b0.2
      refine ⟨_, rfl, _, rfl, _, rfl, _, rfl, _, _, rfl, rfl, a, b, B, R, b0.2, b0.1 + 1, rfl, sq1, sq2, hne, ⟨by omega, by omega, ?_⟩, ?_⟩
      · have h1 : (g b0.2 + 1) * B.length ≤ (2 ^ 40 + 1) * 100 := Nat.mul_le_mul (by omega) zB
        omega
      rw [KM.spot_next hp2]
      refine ⟨_, rfl, _, rfl, p, _, rfl, DPut.k (k := .inr b0.2) hpl2 ?_, ?_⟩
      · rw [List.length_map]
        exact Nat.lt_of_le_of_lt (Nat.le_trans (kset_len _) (by rw [List.length_append]; exact (Nat.add_le_add zB zR : _ ≤ 200))) (by decide)
      rw [gd_put hw]
      have pl2 : gd (fun x => if x = b0.2 then ov (KM.nth B R b0.2 (g b0.2 + 1)) else ov (KM.nth B R x (g x))) (kinds B R) = dPl B R (KM.stepG B R g some_) (kinds B R) := gd_congr fun k _ => by
        show (if k = b0.2 then ov (KM.nth B R b0.2 (g b0.2 + 1)) else ov (KM.nth B R k (g k))) = ov (KM.nth B R k (KM.stepG B R g some_ k))
        rw [eS]
        by_cases c : k = b0.2
        · subst c; rw [if_pos rfl, if_pos rfl]
        · rw [if_neg c, if_neg c]
      rw [pl2]
      have be : But [p, q] Hc (upd Hd p (.dK (dPl B R (KM.stepG B R g some_) (kinds B R)))) := bd.mut (by simp)
      have L2 : LS B R (kinds B R) (KM.stepG B R g some_) (upd Hd p (.dK (dPl B R (KM.stepG B R g some_) (kinds B R)))) p q := ⟨upd_same, by rw [upd_ne (Ne.symm npq)]; exact hgo2⟩
      generalize upd Hd p (.dK (dPl B R (KM.stepG B R g some_) (kinds B R))) = He at be L2
      have hdr := dpa_but be isd hrest
      have ho5 := sql_but (K := K) be isd (SqL.of ho3)
      -- who met whom
      refine ⟨_, rfl, _, rfl, o1, _, rfl, ho5, fun zl hzl => ?_⟩
      have ecut : cutV (V.ref ta :: out') (some 1) none = out' := cutV_from 1
      rw [ecut]
      have hlo : upd He zl (.lst out') zl = some (.lst out') := upd_same
      have s6 := Same.new (o := .lst out') hzl
      have hdr2 := dpa_same s6 hdr
      generalize upd He zl (.lst out') = Hf at hlo s6 hdr2
      have b7 : But [p, q] Hc Hf := be.trans (But.of s6)
      have L3 : LS B R (kinds B R) (KM.stepG B R g some_) Hf p q := ⟨s6 _ _ L2.pl, s6 _ _ L2.go⟩
      have b8 : But [p, q] H Hf := (But.of s3).trans b7
      have hfr : ∀ x, Hf x = none → H x = none := fun x hx => by
        cases e : H x with
        | none => rfl
        | some o =>
          by_cases c : x ∈ [p, q]
          · rcases List.mem_cons.mp c with e2 | e2
            · rw [e2, L3.pl] at hx; cases hx
            · rw [List.mem_singleton.mp e2, L3.go] at hx; cases hx
          · rw [b8 x o c e] at hx; cases hx
      refine ⟨zl, rfl, ⟨_, SqL.of hlo⟩, fun D2 hD2 => ?_⟩
      have hol : out'.length = br.length := by
        have := DpAll.len hrest
        rw [List.length_map] at this
        exact this
      refine lc_list (K := K) (a := zl) (xs := out') (fun j H' => Same Hf H' ∧ ∃ ts : List Addr, H' D2 = some (.lst (ts.map V.ref)) ∧ (∀ t ∈ ts, Hf t = none) ∧ Paired (fun t (x : Str × Str) => H' t = some (.tup [.str x.1, .str x.2])) ts ((br.take j).map fun b => (b0.2, b.2)))
        ⟨Same.new hD2, [], upd_same, by simp, .nil⟩ (fun j H' _ h => SqL.of (h.1 _ _ hlo)) ?_ ?_
      · rintro j x H' hx ⟨s7, ts, hd7, hf7, pp7⟩
        obtain ⟨d, ed, dx⟩ := DpAll.get hdr2 hx
        rw [List.getElem?_map] at ed
        obtain ⟨bb, eb, rfl⟩ := Option.map_eq_some_iff.mp ed
        obtain ⟨tb, xs, rfl, htb, hxs⟩ := dp_tuple (dp_same s7 dx)
        obtain ⟨y1, y2, rfl, rfl, rfl⟩ : ∃ x1 x2, xs = [x1, x2] ∧ x1 = .int (bb.1 : Nat) ∧ x2 = .str bb.2 := by
          cases hxs with
          | cons h1 h2 =>
            cases h2 with
            | cons h3 h4 =>
              cases h4
              exact ⟨_, _, rfl, dp_int h1, dp_str h3⟩
        refine ⟨tb, _, rfl, htb, rfl, _, _, rfl, _, _, rfl, rfl, rfl, ?_⟩
        refine ⟨_, rfl, _, rfl, by show 2 ≤ sizeLine; decide, fun t ht => ?_⟩
        have nDt := ne_of_none hd7 ht
        have hj : j < br.length := (List.getElem?_eq_some_iff.mp eb).1
        refine ⟨_, by rw [upd_ne nDt]; exact hd7, ?_, Same.mut (s7.trans (Same.new ht)) hD2, ts ++ [t], ?_, ?_, ?_⟩
        · rw [List.length_map, pp7.length, List.length_map, List.length_take]
          exact small1000 (by rw [List.length_cons] at hsl; omega)
        · rw [upd_same, List.map_append]; rfl
        · intro z hz
          rcases List.mem_append.mp hz with h | h
          · exact hf7 z h
          · rw [List.mem_singleton.mp h]; exact s7.free ht
        · rw [List.take_add_one, eb, List.map_append]
          refine pair_snoc (pair_imp pp7 fun z x _ e => ?_) ?_
          · rw [upd_ne (ne_of e hd7 (fun z => nomatch z)), upd_ne (ne_of_none e ht)]; exact e
          · rw [upd_ne (Ne.symm nDt)]; exact upd_same
      · rintro Hg ⟨s7, ts, hd7, hf7, pp7⟩
        rw [hol, List.take_length] at pp7
        refine qq D2 ts (br.map fun b => (b0.2, b.2)) Hg (b8.trans (But.of s7)) ⟨s7 _ _ L3.pl, s7 _ _ L3.go⟩ (hfr _ hD2) (fun t ht => hfr _ (hf7 t ht)) hd7 pp7 ?_ (by rw [List.length_map]; rw [List.length_cons] at hsl; omega)
        have nk : ¬ b0.2 ∈ br.map (·.2) := by
          have q1 : ((KM.racing B R g some_).map (·.2)).Nodup := by
            have : ((KM.racing B R g some_).map (·.2)).Sublist some_ := by
              unfold KM.racing
              generalize some_ = l
              induction l with
              | nil => exact .slnil
              | cons x r ih =>
                cases e : KM.nth B R x (g x) with
                | none => rw [List.filterMap_cons_none (by rw [e]; rfl)]; exact .cons _ ih
                | some y => rw [List.filterMap_cons_some (by rw [e]; rfl)]; exact .cons₂ _ ih
            exact snd.sublist this
          have q2 := (perm.map (·.2)).nodup_iff.mpr q1
          exact (List.nodup_cons.mp q2).1
        intro x
        obtain ⟨x1, x2⟩ := x
        rw [KM.mem_meets, List.mem_map]
        constructor
        · rintro ⟨bb, hbb, e⟩
          cases e
          exact ⟨ew, fun e => nk (e ▸ List.mem_map.mpr ⟨bb, hbb, rfl⟩), bb.1, perm.mem_iff.mp (List.mem_cons_of_mem _ hbb)⟩
        · rintro ⟨h1, h2, pp, h3⟩
          rw [ew] at h1
          cases h1
          rcases List.mem_cons.mp (perm.mem_iff.mpr h3) with e | e
          · rw [← e] at h2; exact absurd rfl h2
          · exact ⟨_, e, rfl⟩
end
end Ku

/-! KuF -/
set_option Elab.async false
set_option linter.all false
set_option maxRecDepth 100000
set_option maxHeartbeats 4000000
namespace KM
section
variable {K : Type} [DecidableEq K] {B R : List K}
theorem stepG_up {g : K → Nat} {l : List K} (k : K) : stepG B R g l k ≤ g k + 1 := by
  unfold stepG
  cases winner B R g l with
  | none => exact Nat.le_succ _
  | some w =>
    show (if k = w then g k + 1 else g k) ≤ _
    by_cases h : k = w
    · rw [if_pos h]; exact Nat.le_refl _
    · rw [if_neg h]; omega
theorem roundG_up : ∀ (ts : List (List K)) {g : K → Nat} (k : K), roundG B R ts g k ≤ g k + ts.length
  | [], _, _ => Nat.le_refl _
  | s :: r, g, k => by
    have h1 := roundG_up r (g := stepG B R g s) k
    have h2 := stepG_up (B := B) (R := R) (g := g) (l := s) k
    show roundG B R r (stepG B R g s) k ≤ g k + (r.length + 1)
    omega
theorem after_up (ts : List (List K)) (g : K → Nat) (k : K) : ∀ n : Nat, after B R ts g n k ≤ g k + n * ts.length
  | 0 => by simp [after]
  | n + 1 => by
    have h1 := after_up ts g k n
    have h2 := roundG_up (B := B) (R := R) ts (g := after B R ts g n) k
    show roundG B R ts (after B R ts g n) k ≤ _
    rw [Nat.succ_mul]
    omega
theorem roundG_snoc (ts : List (List K)) (s : List K) (g : K → Nat) : roundG B R (ts ++ [s]) g = stepG B R (roundG B R ts g) s := by
  unfold roundG
  rw [List.foldl_append]
  rfl
theorem roundM_snoc : ∀ (ts : List (List K)) (s : List K) (g : K → Nat), roundM B R (ts ++ [s]) g = roundM B R ts g ++ meets B R (roundG B R ts g) s
  | [], s, g => by simp [roundM, roundG]
  | t :: r, s, g => by
    show meets B R g t ++ roundM B R (r ++ [s]) (stepG B R g t) = (meets B R g t ++ roundM B R r (stepG B R g t)) ++ meets B R (roundG B R r (stepG B R g t)) s
    rw [roundM_snoc r s, List.append_assoc]
end
end KM
namespace Ku
open PySem PySem.Spec PyProof.Rows L2 KuS KuD
/-! ### the heap without some addresses -/
def hideL (l : List Addr) (H : Hp) : Hp := fun a => if a ∈ l then none else H a
section
variable {l : List Addr} {H H' : Hp} {a : Addr} {o : HO}
theorem hideL_in (h : a ∈ l) : hideL l H a = none := if_pos h
theorem hideL_out (h : ¬ a ∈ l) : hideL l H a = H a := if_neg h
theorem hideL_le : Same (hideL l H) H := fun a o e => by
  by_cases h : a ∈ l
  · rw [hideL_in h] at e; cases e
  · rw [hideL_out h] at e; exact e
theorem hideL_at (e : H a = some o) (h : ¬ a ∈ l) : hideL l H a = some o := by rw [hideL_out h]; exact e
theorem hideL_of (s : Same H H') (h : ∀ a ∈ l, H a = none) : Same H (hideL l H') := fun a o e => hideL_at (s a o e) fun m => by rw [h a m] at e; cases e
theorem hideL_but (b : But l H H') : Same (hideL l H) (hideL l H') := fun a o e => by
  by_cases h : a ∈ l
  · rw [hideL_in h] at e; cases e
  · rw [hideL_out h] at e; exact hideL_at (b a o h e) h
theorem hideL_to (b : But l H H') : Same (hideL l H) H' := (hideL_but b).trans hideL_le
theorem hideL_mono {l' : List Addr} (s : ∀ x ∈ l, x ∈ l') : Same (hideL l' H) (hideL l H) := fun a o e => by
  by_cases h : a ∈ l'
  · rw [hideL_in h] at e; cases e
  · rw [hideL_out h] at e; exact hideL_at e fun m => h (s a m)
end
/-! ### the rows of a race -/
theorem LS.mono {B R ks : List Str} {g : Str → Nat} {H H' : Hp} {p q : Addr} (L : LS B R ks g H p q) (s : Same H H') : LS B R ks g H' p q := ⟨s _ _ L.pl, s _ _ L.go⟩
def Row (B R : List Str) (g : Str → Nat) (H : Hp) (t : Addr) : Prop := ∃ p q, H t = some (.tup [.ref p, .ref q]) ∧ LS B R (kinds B R) g H p q
def Pairs (H : Hp) (ts : List Addr) (xs : List (Str × Str)) : Prop := Paired (fun t (x : Str × Str) => H t = some (.tup [.str x.1, .str x.2])) ts xs
/-- the same pairs -/
def Alike (xs M : List (Str × Str)) : Prop := ∀ x : Str × Str, x ∈ xs ↔ x ∈ M
def MRow (M : List (Str × Str)) (H : Hp) (m : Addr) : Prop := ∃ (ts : List Addr) (xs : List (Str × Str)), H m = some (.lst (ts.map V.ref)) ∧ Pairs H ts xs ∧ Alike xs M ∧ xs.length ≤ 3000
section
variable {B R : List Str} {g : Str → Nat} {H H' : Hp} {t m : Addr} {M : List (Str × Str)} {ts : List Addr} {xs : List (Str × Str)}
theorem Row.mono (r : Row B R g H t) (s : Same H H') : Row B R g H' t := by
  obtain ⟨p, q, h, L⟩ := r
  exact ⟨p, q, s _ _ h, L.mono s⟩
theorem Pairs.mono (r : Pairs H ts xs) (s : Same H H') : Pairs H' ts xs := pair_imp r fun a b _ e => s _ _ e
theorem Pairs.app {us : List Addr} {ys : List (Str × Str)} (h : Pairs H ts xs) (h' : Pairs H us ys) : Pairs H (ts ++ us) (xs ++ ys) := by
  unfold Pairs at h
  induction h with
  | nil => exact h'
  | cons h1 _ ih => exact .cons h1 ih
theorem MRow.mono (r : MRow M H m) (s : Same H H') : MRow M H' m := by
  obtain ⟨ts, xs, h, p, a, l⟩ := r
  exact ⟨ts, xs, s _ _ h, p.mono s, a, l⟩
end
/-- what a race tells: rows and meets -/
def RcAt (B R : List Str) (ts : List (List Str)) (g0 : Str → Nat) (N : Nat) (H : Hp) (r : Addr) : Prop :=
  ∃ (ra ma : Addr) (rs ms : List Addr), H r = some (.tup [.ref ra, .ref ma]) ∧ H ra = some (.lst (rs.map V.ref)) ∧ H ma = some (.lst (ms.map V.ref)) ∧ rs.length = N + 1 ∧ ms.length = N + 1 ∧
    (∀ n t, rs[n]? = some t → Row B R (KM.after B R ts g0 n) H t) ∧ ∀ n m, ms[n]? = some m → MRow (KM.roundM B R ts (KM.after B R ts g0 n)) H m
theorem RcAt.mono {B R : List Str} {ts : List (List Str)} {g0 : Str → Nat} {N : Nat} {H H' : Hp} {r : Addr} (h : RcAt B R ts g0 N H r) (s : Same H H') : RcAt B R ts g0 N H' r := by
  obtain ⟨ra, ma, rs, ms, h1, h2, h3, h4, h5, h6, h7⟩ := h
  exact ⟨ra, ma, rs, ms, s _ _ h1, s _ _ h2, s _ _ h3, h4, h5, fun n t e => (h6 n t e).mono s, fun n m e => (h7 n m e).mono s⟩
end Ku

/-! KuB3 -/
set_option Elab.async false
set_option linter.all false
set_option maxRecDepth 100000
set_option maxHeartbeats 8000000
namespace Ku
open PySem PySem.Spec PyProof.Rows L2 KuS KuD
section
variable {P : Program} {w : World} {K : PySem.W.Frag} {mg : Str → Option Value} {base : Heap}
theorem tups_get {H : Hp} {as : List Addr} {ts : List (List Str)} (h : Tups H as ts) {j : Nat} {x : V} (e : (as.map V.ref)[j]? = some x) : ∃ a s, x = .ref a ∧ as[j]? = some a ∧ ts[j]? = some s ∧ s ∈ ts ∧ H a = some (.tup (s.map V.str)) := by
  rw [List.getElem?_map] at e
  obtain ⟨a, ea, rfl⟩ := Option.map_eq_some_iff.mp e
  obtain ⟨s, es, hs⟩ := LiI.paired_get h ea
  exact ⟨a, s, rfl, ea, es, List.mem_of_getElem? es, hs⟩
/-! ### _law_race -/
def spRace : Sp := fun vs H Q _ => ∃ (a b ta tb : Addr) (N : Nat) (B R : List Str) (as bs : List Addr) (ts fs : List (List Str)), vs = [.ref a, .ref b, .ref ta, .ref tb, .int (N : Nat)] ∧ H a = some (.lst (B.map V.str)) ∧ H b = some (.lst (R.map V.str)) ∧
  H ta = some (.lst (as.map V.ref)) ∧ Tups H as ts ∧ GoodTs ts ∧ ts.length ≤ 30 ∧ H tb = some (.lst (bs.map V.ref)) ∧ Tups H bs fs ∧ GoodTs fs ∧ fs.length ≤ 30 ∧ N ≤ 3000 ∧ B ≠ [] ∧ B.length ≤ 100 ∧ R.length ≤ 100 ∧
  ∀ (r : Addr) (H' : Hp), Same H H' → H r = none → RcAt B R ts (KM.roundG B R fs fun _ => 0) N H' r → Q (.ref r) H'
abbrev nmRace : List Str := ["_law_block", "_law_recent", "_law_takes", "_law_begin", "_law_bound", "_law_state", "_law_rows", "_law_meets", "_law_some", "_law_k", "_law_met"]
theorem sc_law_race : FnScope nmRace ["_law_block", "_law_recent", "_law_takes", "_law_begin", "_law_bound"] (defScope s_law_race) := fnScope_dec (by decide +kernel)
theorem cal_law_race (Z : Say K mg) : Cal P w K mg base 4 "_law_race" spRace := by
  obtain ⟨fd, F⟩ := Z.D_law_race
  have cB : Cal P w K mg base 3 "_law_begun" (spBegun K) := cal_law_begun Z
  have cT : Cal P w K mg base 3 "_law_taken" (spTaken K) := cal_law_taken Z
  refine ⟨_, fd, ["_law_block", "_law_recent", "_law_takes", "_law_begin", "_law_bound"], fn_ok F sc_law_race (fun vs H Q E h => ?_) (fun cdv A outer s H vs Q E hr h => ?_), Z.g_law_race, F.kp, F.bindsN fun _ _ _ _ _ _ us hl => match us, hl with | [_, _, _, _, _], _ => rfl⟩
  · obtain ⟨a, b, ta, tb, N, B, R, as, bs, ts, fs, rfl, _⟩ := h
    rfl
  · obtain ⟨a, b, ta, tb, N, B, R, as, bs, ts, fs, rfl, hB, hR, hta, hTs, gT, zT, htb, hFs, gF, zF, zN, hne, zB, zR, qq⟩ := h
    have nd := sc_law_race.nd
    refine ⟨_, pss_cons (ps_par3 (i := 5) (j := 6) (l := 7) rfl nd rfl rfl rfl (by decide) (by decide) (by decide) rfl rfl rfl (pa_cons (pe_c cB hr (by decide) rfl (pa_cons (pv 0) (pa_cons (pv 1) pa_nil))) (pa_cons (pe_lst pa_nil) (pa_cons (pe_lst pa_nil) pa_nil))) (by rfl))
      (pss_cons (ps_for PassesOwn.never rfl (pi_list (pv 3)) (pg_name (i := 8) nd rfl (Or.inl rfl))
          (pss_one (ps_expr (pe_c cT hr (by decide) rfl (pa_cons (pv 0) (pa_cons (pv 1) (pa_cons (pv 5) (pa_cons (pv 8) pa_nil))))))))
      (pss_cons (ps_for PassesOwn.never rfl (pi_range1 rfl Z.f_range (pa_cons (pe_op op_add (pv 4) pe_int) pa_nil)) (pg_name (i := 9) nd rfl (Or.inl rfl))
          (pss_cons (ps_expr (pe_bm PySem.F.plainAttrs_list PySem.F.slot_list_append PySem.F.type_list_append mt_append (pv 6) (pa_cons (pe_tup (pa_cons (pe_callTy call_dictD rfl Z.f_dict boot_dict (pa_cons (pe_ix ix_tup (pv 5) pe_int (fun _ _ => rfl)) pa_nil)) (pa_cons (pe_callTy call_dictD rfl Z.f_dict boot_dict (pa_cons (pe_ix ix_tup (pv 5) pe_int (fun _ _ => rfl)) pa_nil)) pa_nil))) pa_nil)))
          (pss_cons (ps_set (i := 10) nd rfl (Or.inl rfl) (pe_lst pa_nil))
          (pss_cons (ps_for PassesOwn.never rfl (pi_list (pv 2)) (pg_name (i := 8) nd rfl (Or.inl rfl))
              (pss_one (ps_expr (pe_bm PySem.F.plainAttrs_list PySem.F.slot_list_extend PySem.F.type_list_extend mt_extend (pv 10) (pa_cons (pe_c cT hr (by decide) rfl (pa_cons (pv 0) (pa_cons (pv 1) (pa_cons (pv 5) (pa_cons (pv 8) pa_nil))))) pa_nil)))))
          (pss_one (ps_expr (pe_bm PySem.F.plainAttrs_list PySem.F.slot_list_append PySem.F.type_list_append mt_append (pv 7) (pa_cons (pv 10) pa_nil))))))))
      (pss_one (ps_ret (pe_tup (pa_cons (pv 6) (pa_cons (pv 7) pa_nil))))))), ?_⟩
    have kT : ∀ s ∈ ts, s.length ≤ 100 ∧ s.Nodup ∧ ∀ k ∈ s, Kd k := fun s hs => ⟨by have := (gT s hs).2.1; omega, (gT s hs).1, (gT s hs).2.2⟩
    have kF : ∀ s ∈ fs, s.length ≤ 100 ∧ s.Nodup ∧ ∀ k ∈ s, Kd k := fun s hs => ⟨by have := (gF s hs).2.1; omega, (gF s hs).1, (gF s hs).2.2⟩
    refine ⟨_, rfl, _, rfl, a, b, B, R, rfl, hB, hR, hne, zB, zR, fun st p q H1 s1 nst np nq npq hst L1 => ?_⟩
    refine ⟨by show 0 ≤ sizeLine; decide, fun ra hra => ⟨by show 0 ≤ sizeLine; decide, fun ma hma => ⟨_, _, _, rfl, ?_⟩⟩⟩
    -- what is known: all but the dicts and the two lists
    have fra : H ra = none := s1.free hra
    have fma : H ma = none := s1.free ((Same.new hra).free hma)
    have hrm : ra ≠ ma := ne_of_none upd_same hma
    have hra2 : upd (upd H1 ra (.lst [])) ma (.lst []) ra = some (.lst ([] : List V)) := (upd_ne hrm).trans upd_same
    have hma2 : upd (upd H1 ra (.lst [])) ma (.lst []) ma = some (.lst ([] : List V)) := upd_same
    have s12 := (Same.new (o := .lst []) hra).trans (Same.new (o := .lst []) hma)
    have s2 := s1.trans s12
    have L2 := L1.mono s12
    have hst2 := s12 _ _ hst
    generalize upd (upd H1 ra (.lst [])) ma (.lst []) = H2 at hra2 hma2 s2 L2 hst2
    clear s12 hst L1 hra hma s1
    have nsp : st ≠ p := ne_of hst2 L2.pl (fun z => nomatch z)
    have nsq : st ≠ q := ne_of hst2 L2.go (fun z => nomatch z)
    have nrp : ra ≠ p := ne_of hra2 L2.pl (fun z => nomatch z)
    have nrq : ra ≠ q := ne_of hra2 L2.go (fun z => nomatch z)
    have nmp : ma ≠ p := ne_of hma2 L2.pl (fun z => nomatch z)
    have nmq : ma ≠ q := ne_of hma2 L2.go (fun z => nomatch z)
    have nrs : ra ≠ st := ne_of hra2 hst2 (fun z => nomatch z)
    have nms : ma ≠ st := ne_of hma2 hst2 (fun z => nomatch z)
    have nin : ∀ {x : Addr} {o : HO}, H x = some o → x ∉ [p, q] := fun {x o} e m => by
      rcases List.mem_cons.mp m with z | z
      · rw [z, np] at e; cases e
      · rw [List.mem_singleton.mp z, nq] at e; cases e
    -- the first takes
    refine ⟨_, rfl, tb, rfl, ⟨_, SqL.of (s2 _ _ htb)⟩, ?_⟩
    refine for_list (K := K) (a := tb) (xs := bs.map V.ref) (fun i σ H' => (∃ v : Option V, σ = [some (.ref a), some (.ref b), some (.ref ta), some (.ref tb), some (.int (N : Nat)), some (.ref st), some (.ref ra), some (.ref ma), v, none, none]) ∧ But [p, q] H2 H' ∧ LS B R (kinds B R) (KM.roundG B R (fs.take i) fun _ => 0) H' p q)
      ⟨⟨none, rfl⟩, But.refl, by simpa [KM.roundG] using L2⟩ (fun i σ H' _ h => h.2.1.seq (SqL.of (s2 _ _ htb)) (nin htb)) ?_ ?_
    · rintro i x σ H' hx ⟨⟨v, rfl⟩, b', L'⟩
      obtain ⟨sa, so, rfl, e1, e2, em, hs⟩ := tups_get hFs hx
      refine ⟨_, rfl, _, rfl, _, rfl, _, rfl, a, b, st, sa, p, q, B, R, so, _, rfl, b'.at (s2 _ _ hB) (nin hB), b'.at (s2 _ _ hR) (nin hR), b'.at hst2 (by simp [nsp, nsq]), npq, L', b'.sqt (SqT.of (s2 _ _ hs)) (nin hs), hne, zB, zR, (kF so em).1, (kF so em).2.1, (kF so em).2.2, ?_, fun r tl ms H'' b'' L'' nr nt hr' pr al zl => ?_⟩
      · intro k
        have h1 := KM.roundG_up (B := B) (R := R) (fs.take i) (g := fun _ => 0) k
        rw [List.length_take] at h1
        have h2 : (fun (_ : Str) => 0) k = 0 := rfl
        omega
      · refine ⟨⟨_, rfl⟩, b'.trans b'', ?_⟩
        rw [List.take_add_one, e2]
        show LS B R (kinds B R) (KM.roundG B R (fs.take i ++ [so]) fun _ => 0) H'' p q
        rw [KM.roundG_snoc]
        exact L''
    rintro σ H3 ⟨⟨v, rfl⟩, b3, L3⟩
    rw [List.length_map, hFs.len, List.take_length] at L3
    -- the rounds
    generalize hg0 : (KM.roundG B R fs fun _ => 0) = g0 at L3 qq
    have sg0 : ∀ k, g0 k ≤ 30 := fun k => by
      rw [← hg0]
      have h1 := KM.roundG_up (B := B) (R := R) fs (g := fun _ => 0) k
      have h2 : (fun (_ : Str) => 0) k = 0 := rfl
      omega
    have nin4 : ∀ {x : Addr} {o : HO}, H x = some o → x ∉ [p, q, ra, ma] := fun {x o} e m => by
      simp only [List.mem_cons, List.not_mem_nil, or_false] at m
      rcases m with z | z | z | z
      · rw [z, np] at e; cases e
      · rw [z, nq] at e; cases e
      · rw [z, fra] at e; cases e
      · rw [z, fma] at e; cases e
    have hst3 := b3.at hst2 (by simp [nsp, nsq])
    have hra3 := b3.at hra2 (by simp [nrp, nrq])
    have hma3 := b3.at hma2 (by simp [nmp, nmq])
    have k3 : ∀ {x : Addr} {o : HO}, H x = some o → H3 x = some o := fun e => b3.at (s2 _ _ e) (nin e)
    have nst4 : st ∉ [p, q, ra, ma] := by simp [nsp, nsq, Ne.symm nrs, Ne.symm nms]
    clear L2 hst2 hra2 hma2
    refine ⟨_, rfl, _, _, rfl, rfl, _, rfl, by omega, by omega, ?_⟩
    have eN : ((N : Int) + 1).toNat = N + 1 := by omega
    rw [eN]
    refine for_range (lo := 0) (n := N + 1) (fun n σ H' => (∃ v v9 v10 : Option V, σ = [some (.ref a), some (.ref b), some (.ref ta), some (.ref tb), some (.int (N : Nat)), some (.ref st), some (.ref ra), some (.ref ma), v, v9, v10]) ∧ But [p, q, ra, ma] H3 H' ∧ LS B R (kinds B R) (KM.after B R ts g0 n) H' p q ∧
        ∃ rs ms : List Addr, H' ra = some (.lst (rs.map V.ref)) ∧ H' ma = some (.lst (ms.map V.ref)) ∧ rs.length = n ∧ ms.length = n ∧ (∀ j t, rs[j]? = some t → Row B R (KM.after B R ts g0 j) (hideL [p, q, ra, ma] H') t) ∧ ∀ j m, ms[j]? = some m → MRow (KM.roundM B R ts (KM.after B R ts g0 j)) (hideL [p, q, ra, ma] H') m)
      ⟨⟨_, _, _, rfl⟩, But.refl, L3, [], [], hra3, hma3, rfl, rfl, fun j t e => by simp at e, fun j t e => by simp at e⟩ ?_ ?_
    · rintro n σ H' hn ⟨⟨v, v9, v10, rfl⟩, b', L', rs, ms, hra', hma', zr, zm, hrs, hms⟩
      have hst' := b'.at hst3 nst4
      have fr4 : ∀ {x : Addr}, H' x = none → x ∉ [p, q, ra, ma] := fun {x} e m => by
        simp only [List.mem_cons, List.not_mem_nil, or_false] at m
        rcases m with z | z | z | z
        · rw [z, L'.pl] at e; cases e
        · rw [z, L'.go] at e; cases e
        · rw [z, hra'] at e; cases e
        · rw [z, hma'] at e; cases e
      -- rows.append
      refine ⟨_, rfl, .inl ⟨rfl, _, SqL.of hra'⟩, _, rfl, st, _, 0, .ref p, rfl, rfl, SqT.of hst', at_ofA (j := 0) rfl rfl, p, _, rfl, .inl L'.pl, fun pc hpc => ?_⟩
      have hqa := Same.new (o := .dK (dPl B R (KM.after B R ts g0 n) (kinds B R))) hpc
      refine ⟨_, rfl, st, _, 1, .ref q, rfl, rfl, SqT.of (hqa _ _ hst'), at_ofA (j := 1) rfl rfl, q, _, rfl, .inl (hqa _ _ L'.go), fun qc hqc => ⟨by show 2 ≤ sizeLine; decide, fun t ht => ?_⟩⟩
      have sabc := (hqa.trans (Same.new (o := .dK (dGo (KM.after B R ts g0 n) (kinds B R))) hqc)).trans (Same.new (o := .tup [.ref pc, .ref qc]) ht)
      have npq2 := ne_of_none (H := upd H' pc (.dK (dPl B R (KM.after B R ts g0 n) (kinds B R)))) upd_same hqc
      have e1 : upd (upd H' pc (.dK (dPl B R (KM.after B R ts g0 n) (kinds B R)))) qc (.dK (dGo (KM.after B R ts g0 n) (kinds B R))) pc = _ := (upd_ne npq2).trans upd_same
      have npt := ne_of_none e1 ht
      have nqt := ne_of_none (H := upd (upd H' pc (.dK (dPl B R (KM.after B R ts g0 n) (kinds B R)))) qc (.dK (dGo (KM.after B R ts g0 n) (kinds B R)))) upd_same ht
      have f1 := fr4 hpc
      have f2 := fr4 (hqa.free hqc)
      have f3 := fr4 ((hqa.trans (Same.new hqc)).free ht)
      have rowT : ∀ {Hc : Hp}, Hc = upd (upd (upd H' pc (.dK (dPl B R (KM.after B R ts g0 n) (kinds B R)))) qc (.dK (dGo (KM.after B R ts g0 n) (kinds B R)))) t (.tup [.ref pc, .ref qc]) → Row B R (KM.after B R ts g0 n) (hideL [p, q, ra, ma] Hc) t := fun {Hc} e => by
        subst e
        refine ⟨pc, qc, hideL_at upd_same f3, hideL_at ?_ f1, hideL_at ?_ f2⟩
        · rw [upd_ne npt]; exact e1
        · rw [upd_ne nqt]; exact upd_same
      have rowT := rowT rfl
      generalize upd (upd (upd H' pc (.dK (dPl B R (KM.after B R ts g0 n) (kinds B R)))) qc (.dK (dGo (KM.after B R ts g0 n) (kinds B R)))) t (.tup [.ref pc, .ref qc]) = Hc at sabc rowT ⊢
      have hraC := sabc _ _ hra'
      refine ⟨ra, _, _, rfl, rfl, hraC, ?_, ?_⟩
      · rw [List.length_map, zr]
        exact Nat.lt_of_le_of_lt (show n ≤ 3001 by omega) (by decide)
      rw [show rs.map V.ref ++ [V.ref t] = (rs ++ [t]).map V.ref from by rw [List.map_append]; rfl]
      refine ⟨by show 0 ≤ sizeLine; decide, fun m hm => ?_⟩
      have bD : But [p, q, ra, ma] H' (upd Hc ra (.lst ((rs ++ [t]).map V.ref))) := (But.of sabc).mut (by simp)
      have LD : LS B R (kinds B R) (KM.after B R ts g0 n) (upd Hc ra (.lst ((rs ++ [t]).map V.ref))) p q := ⟨by rw [upd_ne (Ne.symm nrp)]; exact sabc _ _ L'.pl, by rw [upd_ne (Ne.symm nrq)]; exact sabc _ _ L'.go⟩
      have raD : upd Hc ra (.lst ((rs ++ [t]).map V.ref)) ra = some (.lst ((rs ++ [t]).map V.ref)) := upd_same
      have maD : upd Hc ra (.lst ((rs ++ [t]).map V.ref)) ma = some (.lst (ms.map V.ref)) := by rw [upd_ne (Ne.symm hrm)]; exact sabc _ _ hma'
      have rowD : Row B R (KM.after B R ts g0 n) (hideL [p, q, ra, ma] (upd Hc ra (.lst ((rs ++ [t]).map V.ref)))) t := rowT.mono (hideL_but (But.refl.mut (by simp)))
      generalize upd Hc ra (.lst ((rs ++ [t]).map V.ref)) = Hd at hm bD LD raD maD rowD ⊢
      have hstD := bD.at hst' nst4
      have bD3 := b'.trans bD
      have fm : ∀ x, Hd x = none → x ∉ [p, q, ra, ma] := fun x e z => by
        simp only [List.mem_cons, List.not_mem_nil, or_false] at z
        rcases z with z | z | z | z
        · rw [z, LD.pl] at e; cases e
        · rw [z, LD.go] at e; cases e
        · rw [z, raD] at e; cases e
        · rw [z, maD] at e; cases e
      have sub2 : ∀ x ∈ [p, q], x ∈ [p, q, ra, ma] := fun x hx => by
        simp only [List.mem_cons, List.not_mem_nil, or_false] at hx ⊢
        exact hx.elim .inl fun h => .inr (.inl h)
      have nm4 : m ∉ [p, q, ra, ma] := fm m hm
      have sm := Same.new (o := .lst []) hm
      -- all the takes
      refine ⟨_, rfl, ta, rfl, ⟨_, SqL.of (sm _ _ (bD3.at (k3 hta) (nin4 hta)))⟩, ?_⟩
      refine for_list (K := K) (a := ta) (xs := as.map V.ref) (fun i σ H'' => (∃ v v9 : Option V, σ = [some (.ref a), some (.ref b), some (.ref ta), some (.ref tb), some (.int (N : Nat)), some (.ref st), some (.ref ra), some (.ref ma), v, v9, some (.ref m)]) ∧ But [p, q, ra, ma] Hd H'' ∧
          H'' ra = some (.lst ((rs ++ [t]).map V.ref)) ∧ H'' ma = some (.lst (ms.map V.ref)) ∧ LS B R (kinds B R) (KM.roundG B R (ts.take i) (KM.after B R ts g0 n)) H'' p q ∧
          ∃ (tl : List Addr) (xs : List (Str × Str)), H'' m = some (.lst (tl.map V.ref)) ∧ Pairs (hideL (m :: [p, q, ra, ma]) H'') tl xs ∧ Alike xs (KM.roundM B R (ts.take i) (KM.after B R ts g0 n)) ∧ xs.length ≤ 100 * i)
        ⟨⟨_, _, rfl⟩, But.of sm, sm _ _ raD, sm _ _ maD, by simpa [KM.roundG] using LD.mono sm, [], [], upd_same, .nil, (fun x => by simp [KM.roundM]), by simp⟩ ?_ ?_ ?_
      · intro i σ H'' _ h
        exact h.2.1.seq (SqL.of (bD3.at (k3 hta) (nin4 hta))) (nin4 hta)
      · rintro i x σ H'' hx ⟨⟨v, v9, rfl⟩, bi, rai, mai, Li, tl, xs, hmi, hp, hal, zx⟩
        obtain ⟨sa, so, rfl, ei1, ei2, em, hs⟩ := tups_get hTs hx
        have bi3 := bD3.trans bi
        have hi : i < ts.length := (List.getElem?_eq_some_iff.mp ei2).1
        refine ⟨_, rfl, .inl ⟨rfl, _, SqL.of hmi⟩, _, rfl, _, rfl, _, rfl, _, rfl, a, b, st, sa, p, q, B, R, so, _, rfl, bi3.at (k3 hB) (nin4 hB), bi3.at (k3 hR) (nin4 hR), bi.at hstD nst4, npq, Li, bi3.sqt (SqT.of (k3 hs)) (nin4 hs), hne, zB, zR, (kT so em).1, (kT so em).2.1, (kT so em).2.2, ?_, fun r tl' ms' H4 b4 L4 nr nt hr4 pr al zl => ?_⟩
        · intro k
          have h1 := KM.roundG_up (B := B) (R := R) (ts.take i) (g := KM.after B R ts g0 n) k
          rw [List.length_take] at h1
          have h2 := KM.after_up (B := B) (R := R) ts g0 k n
          have h3 : n * ts.length ≤ 3001 * 30 := Nat.mul_le_mul (by omega) zT
          have h4 := sg0 k
          omega
        have nmp2 : m ≠ p := fun e => nm4 (by simp [e])
        have nmq2 : m ≠ q := fun e => nm4 (by simp [e])
        have nmra : ra ≠ m := fun e => nm4 (by simp [← e])
        have nmma : ma ≠ m := fun e => nm4 (by simp [← e])
        have hm4 := b4.at hmi (by simp [nmp2, nmq2])
        refine ⟨m, r, _, _, rfl, rfl, hm4, hr4, ?_, ?_⟩
        · rw [List.length_map, List.length_map, Paired.length hp, pr.length]
          exact Nat.le_trans (show xs.length + ms'.length ≤ 4000 by omega) (by decide)
        rw [← List.map_append]
        have b45 : But [p, q, ra, ma] Hd H4 := bi.trans (b4.mono sub2)
        refine ⟨⟨_, _, rfl⟩, b45.fresh hm, ?_, ?_, ?_, tl ++ tl', xs ++ ms', upd_same, ?_, ?_, ?_⟩
        · rw [upd_ne nmra]; exact b4.at rai (by simp [nrp, nrq])
        · rw [upd_ne nmma]; exact b4.at mai (by simp [nmp, nmq])
        · rw [List.take_add_one, ei2]
          show LS B R (kinds B R) (KM.roundG B R (ts.take i ++ [so]) _) _ p q
          rw [KM.roundG_snoc]
          exact ⟨by rw [upd_ne (Ne.symm nmp2)]; exact L4.pl, by rw [upd_ne (Ne.symm nmq2)]; exact L4.go⟩
        · refine Pairs.app (hp.mono (hideL_but ?_)) (pair_imp pr fun y x hy e => ?_)
          · exact (b4.mono fun x hx => List.mem_cons_of_mem _ (sub2 x hx)).mut (by simp)
          · have hy0 := nt y hy
            have ny : y ≠ m := fun e => by rw [e, hmi] at hy0; cases hy0
            refine hideL_at (by rw [upd_ne ny]; exact e) fun z => ?_
            rcases List.mem_cons.mp z with z | z
            · exact ny z
            · simp only [List.mem_cons, List.not_mem_nil, or_false] at z
              rcases z with z | z | z | z
              · rw [z, Li.pl] at hy0; cases hy0
              · rw [z, Li.go] at hy0; cases hy0
              · rw [z, rai] at hy0; cases hy0
              · rw [z, mai] at hy0; cases hy0
        · intro x
          rw [List.take_add_one, ei2]
          show x ∈ xs ++ ms' ↔ x ∈ KM.roundM B R (ts.take i ++ [so]) _
          rw [KM.roundM_snoc, List.mem_append, List.mem_append, hal x, al x]
        · rw [List.length_append]; omega
      · rintro σ H6 ⟨⟨v, v9, rfl⟩, b6, ra6, ma6, L6, tl, xs, hm6, hp6, hal6, zx6⟩
        rw [List.length_map, hTs.len, List.take_length] at L6
        rw [List.length_map, hTs.len, List.take_length] at hal6
        rw [List.length_map, hTs.len] at zx6
        have nmma : m ≠ ma := fun e => nm4 (by simp [e])
        refine ⟨_, rfl, .inl ⟨rfl, _, SqL.of ma6⟩, _, rfl, ma, _, _, rfl, rfl, ma6, ?_, ?_⟩
        · rw [List.length_map, zm]
          exact Nat.lt_of_le_of_lt (show n ≤ 3001 by omega) (by decide)
        rw [show ms.map V.ref ++ [V.ref m] = (ms ++ [m]).map V.ref from by rw [List.map_append]; rfl]
        have b67 : But [p, q, ra, ma] H6 (upd H6 ma (.lst ((ms ++ [m]).map V.ref))) := But.refl.mut (by simp)
        have b7 : But [p, q, ra, ma] H' (upd H6 ma (.lst ((ms ++ [m]).map V.ref))) := (bD.trans b6).trans b67
        refine ⟨⟨_, _, _, rfl⟩, b'.trans b7, ⟨?_, ?_⟩, rs ++ [t], ms ++ [m], ?_, upd_same, by simp [zr], by simp [zm], fun j y e => ?_, fun j y e => ?_⟩
        · rw [upd_ne (Ne.symm nmp)]; exact L6.pl
        · rw [upd_ne (Ne.symm nmq)]; exact L6.go
        · rw [upd_ne hrm]; exact ra6
        · rcases Nat.lt_or_ge j rs.length with c | c
          · rw [List.getElem?_append_left c] at e
            exact (hrs j y e).mono (hideL_but b7)
          · rw [List.getElem?_append_right c] at e
            have : j = n := by
              have := (List.getElem?_eq_some_iff.mp e).1
              simp at this
              omega
            subst this
            rw [zr, Nat.sub_self] at e
            cases e
            exact rowD.mono (hideL_but (b6.trans b67))
        · rcases Nat.lt_or_ge j ms.length with c | c
          · rw [List.getElem?_append_left c] at e
            exact (hms j y e).mono (hideL_but b7)
          · rw [List.getElem?_append_right c] at e
            have : j = n := by
              have := (List.getElem?_eq_some_iff.mp e).1
              simp at this
              omega
            subst this
            rw [zm, Nat.sub_self] at e
            cases e
            have hmh : hideL [p, q, ra, ma] H6 m = some (.lst (tl.map V.ref)) := hideL_at hm6 nm4
            refine MRow.mono (H := hideL [p, q, ra, ma] H6) ⟨tl, xs, hmh, hp6.mono (hideL_mono fun x hx => List.mem_cons_of_mem _ hx), hal6, ?_⟩ (hideL_but b67)
            omega
    · rintro σ Hz ⟨⟨v, v9, v10, rfl⟩, bz, Lz, rs, ms, hraz, hmaz, zr, zm, hrs, hms⟩
      refine ⟨_, rfl, _, rfl, by show 2 ≤ sizeLine; decide, fun r hr => ?_⟩
      have sr := Same.new (o := .tup [.ref ra, .ref ma]) hr
      have sH : Same H Hz := fun x o e => bz.at (k3 e) (nin4 e)
      exact qq r _ (sH.trans sr) (sH.free hr) ⟨ra, ma, rs, ms, upd_same, sr _ _ hraz, sr _ _ hmaz, zr, zm, fun n t e => (hrs n t e).mono (hideL_le.trans sr), fun n m e => (hms n m e).mono (hideL_le.trans sr)⟩
end
end Ku

/-! KuB4 -/
set_option Elab.async false
set_option linter.all false
set_option maxRecDepth 100000
set_option maxHeartbeats 8000000
namespace Ku
open PySem PySem.Spec PyProof.Rows L2 KuS KuD
section
variable {P : Program} {w : World} {K : PySem.W.Frag} {mg : Str → Option Value} {base : Heap}
/-! ### _law_is_settled -/
/-- a kind of the takes is where it may be -/
def okS (B R : List Str) (g : Str → Nat) (k : Str) : Prop := ∀ p, KM.nth B R k (g k) = some p → k ∈ B ∧ R.length ≤ p
def spIsSettled : Sp := fun vs H Q _ => ∃ (a b ta p : Addr) (B R : List Str) (g : Str → Nat) (as : List Addr) (ts : List (List Str)), vs = [.ref a, .ref b, .ref ta, .ref p] ∧ H a = some (.lst (B.map V.str)) ∧ H b = some (.lst (R.map V.str)) ∧ H ta = some (.lst (as.map V.ref)) ∧ Tups H as ts ∧
  H p = some (.dK (dPl B R g (kinds B R))) ∧ Q (.bl (KM.settled B R ts g)) H
abbrev nmIsSettled : List Str := ["_law_block", "_law_recent", "_law_takes", "_law_places", "_law_some", "_law_kind_here", "_law_place"]
theorem sc_law_is_settled : FnScope nmIsSettled ["_law_block", "_law_recent", "_law_takes", "_law_places"] (defScope s_law_is_settled) := fnScope_dec (by decide +kernel)
theorem cal_law_is_settled (Z : Say K mg) : Cal P w K mg base 1 "_law_is_settled" spIsSettled := by
  obtain ⟨fd, F⟩ := Z.D_law_is_settled
  refine ⟨_, fd, ["_law_block", "_law_recent", "_law_takes", "_law_places"], fn_ok F sc_law_is_settled (fun vs H Q E h => ?_) (fun cdv A outer s H vs Q E hr h => ?_), Z.g_law_is_settled, F.kp, F.bindsN fun _ _ _ _ _ _ us hl => match us, hl with | [_, _, _, _], _ => rfl⟩
  · obtain ⟨a, b, ta, p, B, R, g, as, ts, rfl, _⟩ := h
    rfl
  · obtain ⟨a, b, ta, p, B, R, g, as, ts, rfl, hB, hR, hta, hTs, hp, qq⟩ := h
    have nd := sc_law_is_settled.nd
    have hu := hr.units
    have hu1 : (A.deeper (envOfC d_law_is_settled.qual d_law_is_settled.scope s.heap.objs.size (He.fAd K d_law_is_settled.at_) cdv)).units + 1 < cLine := by omega
    refine ⟨_, pss_cons (ps_for PassesOwn.never rfl (pi_list (pv 2)) (pg_name (i := 4) nd rfl (Or.inl rfl))
        (pss_one (ps_for PassesOwn.never rfl (pi_tup (pv 4)) (pg_name (i := 5) nd rfl (Or.inl rfl))
          (pss_cons (ps_set (i := 6) nd rfl (Or.inl rfl) (pe_dget1 hu1 (pv 3) (pv 5) ⟨rfl, rfl, rfl, rfl⟩))
          (pss_one (ps_if (PW.pt (pw_and (pt_cmp (pc_notN (pv 6))) (pw_and1 (PW.pt (pw_or (pt_cmpR op_notIn_seq (pv 5) (pv 0) (by rfl)) (pw_or1 (pt_cmpR op_lt (pv 6) (pe_callB call_len_seq rfl Z.f_len boot_len (pa_cons (pv 1) pa_nil)) (nomark _)))))))) (pss_one (ps_ret pe_bl)) pss_nil))))))
      (pss_one (ps_ret pe_bl)), ?_⟩
    have bad : ∀ {s : List Str} {k : Str} {p : Nat}, s ∈ ts → k ∈ s → KM.nth B R k (g k) = some p → (¬ k ∈ B ∨ p < R.length) → KM.settled B R ts g = false := fun {s k p} hs hk e h => by
      cases c : KM.settled B R ts g with
      | false => rfl
      | true =>
        have q := KM.settled_iff.mp c s hs k hk p e
        rcases h with h | h
        · exact absurd q.1 h
        · omega
    refine ⟨_, rfl, ta, rfl, ⟨_, SqL.of hta⟩, ?_⟩
    refine for_list (K := K) (a := ta) (xs := as.map V.ref) (fun i σ H' => H' = H ∧ (∃ v v5 v6 : Option V, σ = [some (.ref a), some (.ref b), some (.ref ta), some (.ref p), v, v5, v6]) ∧ ∀ s ∈ ts.take i, ∀ k ∈ s, okS B R g k)
      ⟨rfl, ⟨_, _, _, rfl⟩, fun s hs => by simp at hs⟩ (fun i σ H' _ h => by rw [h.1]; exact SqL.of hta) ?_ ?_
    · rintro i x σ H' hx ⟨rfl, ⟨v, v5, v6, rfl⟩, hd⟩
      obtain ⟨sa, so, rfl, e1, e2, em, hs⟩ := tups_get hTs hx
      refine ⟨_, rfl, sa, rfl, ⟨_, SqT.of hs⟩, ?_⟩
      refine for_tup (K := K) (a := sa) (xs := so.map V.str) (fun j σ H'' => H'' = H' ∧ (∃ v5 v6 : Option V, σ = [some (.ref a), some (.ref b), some (.ref ta), some (.ref p), some (.ref sa), v5, v6]) ∧ ∀ k ∈ so.take j, okS B R g k)
        ⟨rfl, ⟨_, _, rfl⟩, fun s hs => by simp at hs⟩ (fun j σ H'' _ h => by rw [h.1]; exact SqT.of hs) ?_ ?_
      · rintro j y σ H'' hy ⟨rfl, ⟨v5, v6, rfl⟩, hk⟩
        obtain ⟨z, rfl, hz, hm⟩ := map_str_get hy
        have et : so.take (j + 1) = so.take j ++ [z] := by rw [List.take_add_one, hz]; rfl
        refine ⟨_, rfl, p, rfl, .inl ⟨_, .inl hp⟩, _, rfl, _, DGet.k (k := .inr z) hp, ?_⟩
        rw [gd_get _ _ _ pl_out]
        refine ⟨_, rfl, _, rfl, ?_⟩
        cases e : KM.nth B R z (g z) with
        | none =>
          refine iteF ?_
          refine ⟨rfl, ⟨_, _, rfl⟩, fun k hk' => ?_⟩
          rw [et] at hk'
          rcases List.mem_append.mp hk' with h | h
          · exact hk k h
          · rw [List.mem_singleton.mp h]
            intro p' e'
            rw [e] at e'; cases e'
        | some pl =>
          refine iteT ?_
          refine ⟨_, rfl, _, rfl, a, _, rfl, .inl (SqL.of hB), rfl, all_flat_strs B, _, rfl, ?_⟩
          rw [inV_strs]
          have fin : KM.settled B R ts g = false → _ := fun e => by rw [e] at qq; exact qq
          refine ite2 (fun c => ?_) (fun c => ?_)
          · refine iteT ?_
            exact fin (bad em hm e (.inl (by simpa using c)))
          · have hzB : z ∈ B := by simpa using c
            refine ⟨_, rfl, _, rfl, b, _, rfl, .inl (SqL.of hR), _, _, rfl, rfl, _, rfl, ?_⟩
            rw [List.length_map]
            refine ite2 (fun c2 => ?_) (fun c2 => ?_)
            · have c2 := of_decide_eq_true c2
              exact fin (bad em hm e (.inr (by omega)))
            · have c2 : R.length ≤ pl := by simpa using c2
              refine ⟨rfl, ⟨_, _, rfl⟩, fun k hk' => ?_⟩
              rw [et] at hk'
              rcases List.mem_append.mp hk' with h | h
              · exact hk k h
              · rw [List.mem_singleton.mp h]
                intro p' e'
                rw [e] at e'
                cases e'
                exact ⟨hzB, by omega⟩
      · rintro σ H'' ⟨rfl, ⟨v5, v6, rfl⟩, hk⟩
        rw [List.length_map, List.take_length] at hk
        refine ⟨rfl, ⟨_, _, _, rfl⟩, fun s hs' => ?_⟩
        rw [List.take_add_one, e2] at hs'
        rcases List.mem_append.mp hs' with h | h
        · exact hd s h
        · rw [show s = so from List.mem_singleton.mp h]
          exact hk
    · rintro σ H' ⟨rfl, ⟨v, v5, v6, rfl⟩, hd⟩
      rw [List.length_map, hTs.len, List.take_length] at hd
      have e : KM.settled B R ts g = true := KM.settled_iff.mpr fun s hs k hk p e => hd s hs k hk p e
      rw [e] at qq
      exact qq
end
end Ku

/-! KuB5 -/
set_option Elab.async false
set_option linter.all false
set_option maxRecDepth 100000
set_option maxHeartbeats 8000000
namespace Ku
open PySem PySem.Spec PyProof.Rows L2 KuS KuD
theorem upd_eta {H : Hp} {a : Addr} {o : HO} (h : H a = some o) : upd H a o = H := by
  funext b
  by_cases e : b = a
  · rw [e, upd_same, h]
  · rw [upd_ne e]
theorem rows_at {l : List Addr} {n : Nat} (h : n < l.length) : ∃ t, l[n]? = some t ∧ (l.map V.ref)[n]? = some (.ref t) := ⟨l[n], List.getElem?_eq_getElem h, by rw [List.getElem?_map, List.getElem?_eq_getElem h]; rfl⟩
theorem kinds_B {B R : List Str} {k : Str} (h : k ∈ B) : k ∈ kinds B R := by rw [kset_mem, List.mem_append]; exact .inl h
theorem get_pl {B R : List Str} {g : Str → Nat} {H : Hp} {p q : Addr} {k : Str} (L : LS B R (kinds B R) g H p q) (h : k ∈ B) : DGet H p (.str k) (some (.int (KM.plc B R g k : Nat))) := by
  have e := DGet.k (k := .inr k) L.pl
  rw [gd_in (kinds_B h)] at e
  rw [show KM.nth B R k (g k) = some (KM.plc B R g k) from KM.plc_eq h] at e
  exact e
section
variable {P : Program} {w : World} {K : PySem.W.Frag} {mg : Str → Option Value} {base : Heap}
/-! ### _law_grown -/
def Grown (f : Str → Int) (ks : List Str) (H : Hp) (r : Addr) : Prop := ∃ ls : List Addr, H r = some (.lst (ls.map V.ref)) ∧ Paired (fun t k => H t = some (.tup [.str k, .int (f k)])) ls ks
def spGrown : Sp := fun vs H Q _ => ∃ (a ra : Addr) (l n : Nat) (B R : List Str) (rs : List Addr) (t1 t2 : Addr) (g1 g2 : Str → Nat), vs = [.ref a, .ref ra, .int (l : Nat), .int (n : Nat)] ∧ H a = some (.lst (B.map V.str)) ∧ B.length ≤ 100 ∧ H ra = some (.lst (rs.map V.ref)) ∧
  rs[l]? = some t1 ∧ rs[n]? = some t2 ∧ Row B R g1 H t1 ∧ Row B R g2 H t2 ∧ ∀ (r : Addr) (H' : Hp), Same H H' → H r = none → Grown (fun k => (KM.plc B R g2 k : Int) - (KM.plc B R g1 k : Int)) (kset B) H' r → Q (.ref r) H'
abbrev nmGrown : List Str := ["_law_block", "_law_rows", "_law_lead", "_law_stop", "_law_before", "_law_behind", "_law_kind_here"]
theorem sc_law_grown : FnScope nmGrown ["_law_block", "_law_rows", "_law_lead", "_law_stop"] (defScope s_law_grown) := fnScope_dec (by decide +kernel)
theorem cal_law_grown (Z : Say K mg) : Cal P w K mg base 1 "_law_grown" spGrown := by
  obtain ⟨fd, F⟩ := Z.D_law_grown
  refine ⟨_, fd, ["_law_block", "_law_rows", "_law_lead", "_law_stop"], fn_ok F sc_law_grown (fun vs H Q E h => ?_) (fun cdv A outer s H vs Q E hr h => ?_), Z.g_law_grown, F.kp, F.bindsN fun _ _ _ _ _ _ us hl => match us, hl with | [_, _, _, _], _ => rfl⟩
  · obtain ⟨a, ra, l, n, B, R, rs, t1, t2, g1, g2, rfl, _⟩ := h
    rfl
  · obtain ⟨a, ra, l, n, B, R, rs, t1, t2, g1, g2, rfl, hB, zB, hra, e1, e2, r1, r2, qq⟩ := h
    have nd := sc_law_grown.nd
    have hu := hr.units
    have hu1 : (A.deeper (envOfC d_law_grown.qual d_law_grown.scope s.heap.objs.size (He.fAd K d_law_grown.at_) cdv)).units + 1 < cLine := by omega
    refine ⟨_, pss_cons (ps_asg (pe_tup (pa_cons (pe_ix ix_tup (pe_ix ix_list (pv 1) (pv 2) (fun _ _ => rfl)) pe_int (fun _ _ => rfl)) (pa_cons (pe_ix ix_tup (pe_ix ix_list (pv 1) (pv 3) (fun _ _ => rfl)) pe_int (fun _ _ => rfl)) pa_nil)))
          (pg_tup rfl (pgs_cons (pg_name (i := 4) nd rfl (Or.inr rfl)) (pgs_cons (pg_name (i := 5) nd rfl (Or.inr rfl)) pgs_nil))))
      (pss_one (ps_ret (pe_lc (own := [("_law_kind_here", 6)]) (g := gName 6) (tt := tYes) rfl nd (pi_list (pe_callB (cr_sortSS rfl hu) rfl Z.f_sorted boot_sorted (pa_cons (pe_callTy (cr_setS rfl) rfl Z.f_set boot_set (pa_cons (pv 0) pa_nil)) pa_nil)))
        (blkOk_by (N := nmGrown) (sc := defScope s_law_grown) (by decide +kernel)) (fun _ _ _ _ _ => pg_name (i := 6) nd rfl (Or.inl rfl)) (fun _ _ _ _ _ => pts_nil)
        (fun _ _ _ _ _ => pe_tup (pa_cons (pv 6) (pa_cons (pe_op op_sub (pe_dget hu1 (pv 5) (pv 6) (fun _ _ => rfl)) (pe_dget hu1 (pv 4) (pv 6) (fun _ _ => rfl))) pa_nil)))))), ?_⟩
    obtain ⟨p1, q1, h1, L1⟩ := r1
    obtain ⟨p2, q2, h2, L2⟩ := r2
    have f1 : (rs.map V.ref)[l]? = some (.ref t1) := by rw [List.getElem?_map, e1]; rfl
    have f2 : (rs.map V.ref)[n]? = some (.ref t2) := by rw [List.getElem?_map, e2]; rfl
    refine ⟨_, rfl, _, rfl, ra, _, _, .ref t1, rfl, rfl, SqL.of hra, at_ofA (j := l) rfl f1, t1, _, 0, .ref p1, rfl, rfl, SqT.of h1, at_ofA (j := 0) rfl rfl, ?_⟩
    refine ⟨_, rfl, _, rfl, ra, _, _, .ref t2, rfl, rfl, SqL.of hra, at_ofA (j := n) rfl f2, t2, _, 0, .ref p2, rfl, rfl, SqT.of h2, at_ofA (j := 0) rfl rfl, ?_⟩
    refine ⟨by show 2 ≤ sizeLine; decide, fun tt ht => ⟨tt, _, rfl, SqT.of upd_same, rfl, _, _, rfl, _, _, rfl, rfl, ?_⟩⟩
    have s1 := Same.new (o := .tup [.ref p1, .ref p2]) ht
    refine ⟨_, rfl, a, B, rfl, SqL.of (s1 _ _ hB), by omega, fun c hc => ⟨c, _, rfl, upd_same, Nat.le_trans (ofS_len B) (by omega), fun d hd => ⟨d, rfl, ⟨_, SqL.of upd_same⟩, fun D hD => ?_⟩⟩⟩
    have s2 := (s1.trans (Same.new hc)).trans (Same.new (o := .lst ((kset B).map V.str)) hd)
    refine lc_pairs (K := K) (a := d) (ns := kset B) (fun k => .int ((KM.plc B R g2 k : Int) - (KM.plc B R g1 k : Int))) ?_ hD (SqL.of upd_same) (fun _ => rfl) ?_ ?_
    · exact Nat.le_trans (kset_len B) (by omega)
    · intro x H' Q' hx s' q'
      have hxB : x ∈ B := kset_mem.mp hx
      exact ⟨_, rfl, _, rfl, _, rfl, p2, _, rfl, get_pl (L2.mono (s2.trans s')) hxB, _, rfl, _, rfl, p1, _, rfl, get_pl (L1.mono (s2.trans s')) hxB, _, _, rfl, rfl, by show 2 ≤ sizeLine; decide, q'⟩
    · intro H' ps s' hd' pp
      exact qq D H' (s2.trans s') (s2.free hD) ⟨ps, hd', pp⟩
end
end Ku

/-! KuB6 -/
set_option Elab.async false
set_option linter.all false
set_option maxRecDepth 100000
set_option maxHeartbeats 8000000
namespace Ku
open PySem PySem.Spec PyProof.Rows L2 KuS KuD
/-- a dict may be read while it is locked -/
theorem DGet.lock {H : Hp} {a d : Addr} {kvs : List (Key × V)} {od : Obj} {y : V} {r : Option V} (h : H d = some (.dK kvs)) (g : DGet H a y r) : DGet (upd H d (.frz od (.dK kvs))) a y r := by
  rcases g with ⟨kv, k, e, ey, er⟩ | ⟨kv, k, b, e, ey, eb, er⟩
  · refine .inl ⟨kv, k, ?_, ey, er⟩
    by_cases c : a = d
    · subst c
      rcases e with e | ⟨o, e⟩
      · rw [h] at e
        cases e
        exact .inr ⟨od, upd_same⟩
      · rw [h] at e; cases e
    · rcases e with e | ⟨o, e⟩
      · exact .inl (by rw [upd_ne c]; exact e)
      · exact .inr ⟨o, by rw [upd_ne c]; exact e⟩
  · refine .inr ⟨kv, k, b, ?_, ey, ?_, er⟩
    · have c : a ≠ d := fun c => by
        subst c
        rcases e with e | ⟨o, e⟩ <;> (rw [h] at e; cases e)
      rcases e with e | ⟨o, e⟩
      · exact .inl (by rw [upd_ne c]; exact e)
      · exact .inr ⟨o, by rw [upd_ne c]; exact e⟩
    · rw [upd_ne fun c => by subst c; rw [h] at eb; cases eb]; exact eb
theorem iteFe {c : Bool} {a b : Prop} (h : c = false) (x : b) : if c = true then a else b := by rw [h]; exact x
theorem iteTe {c : Bool} {a b : Prop} (h : c = true) (x : a) : if c = true then a else b := by rw [h]; exact x
theorem cut_mid {xs : List V} {l n : Nat} (h1 : l ≤ n) (h2 : n ≤ xs.length) : cutV xs (some (l : Int)) (some (n : Int)) = (xs.drop l).take (n - l) := by
  unfold cutV
  rw [HT.sIx_nat, HT.sIx_nat, Nat.min_eq_left h2, Nat.min_eq_left (Nat.le_trans h1 h2)]
/-- some meets, one behind the other -/
theorem meets_flat {H : Hp} {M : Nat → List (Str × Str)} : ∀ (ls : List Addr) (l : Nat), (∀ j m, ls[j]? = some m → MRow (M (l + j)) H m) → ∃ (cs : List (List V)) (tl : List Addr) (xs : List (Str × Str)), Paired (fun u c => H u = some (.lst c)) ls cs ∧ cs.flatten = tl.map V.ref ∧ Pairs H tl xs ∧ xs.length ≤ 3000 * ls.length ∧ ∀ x, x ∈ xs ↔ ∃ j, j < ls.length ∧ x ∈ M (l + j)
  | [], l, _ => ⟨[], [], [], .nil, rfl, .nil, by simp, fun x => by simp⟩
  | m :: ls, l, h => by
    obtain ⟨cs, tl, xs, h1, h2, h3, h4, h5⟩ := meets_flat (M := M) ls (l + 1) fun j m e => by
      have := h (j + 1) m (by simpa using e)
      rw [show l + 1 + j = l + (j + 1) by omega]
      exact this
    obtain ⟨tm, xm, k1, k2, k3, k4⟩ := h 0 m rfl
    refine ⟨tm.map V.ref :: cs, tm ++ tl, xm ++ xs, .cons k1 h1, by rw [List.flatten_cons, h2, List.map_append], k2.app h3, by rw [List.length_append, List.length_cons]; omega, fun x => ?_⟩
    rw [List.mem_append, k3 x, h5 x]
    constructor
    · rintro (h | ⟨j, hj, h⟩)
      · exact ⟨0, by simp, h⟩
      · exact ⟨j + 1, by simp; omega, by rw [show l + (j + 1) = l + 1 + j by omega]; exact h⟩
    · rintro ⟨j, hj, h⟩
      cases j with
      | zero => exact .inl h
      | succ j => exact .inr ⟨j, by simp at hj; omega, by rw [show l + 1 + j = l + (j + 1) by omega]; exact h⟩
theorem ones_shaped (m : Nat) : SeqAt.shaped (.list (List.replicate m (.int 1))) = true := by
  unfold SeqAt.shaped
  have h1 : ∀ m, PyData.canLayAll0 (List.replicate m (.int 1)) = true := by
    intro m
    induction m with
    | zero => rfl
    | succ m ih => rw [List.replicate_succ]; simp [PyData.canLayAll0, PyData.canLay0, ih]
  have h2 : ∀ m, PyData.depthAll (List.replicate m (.int 1)) ≤ 8 := by
    intro m
    induction m with
    | zero => show 0 ≤ 8; omega
    | succ m ih =>
      rw [List.replicate_succ]
      exact Nat.max_le.mpr ⟨by simp [PyData.depth], ih⟩
  rw [Bool.and_eq_true]
  refine ⟨?_, decide_eq_true ?_⟩
  · rw [PyData.canLay0]; exact h1 m
  have := h2 m
  show PyData.depthAll (List.replicate m (.int 1)) + 1 ≤ 64
  omega
theorem ones_dpa {K : PySem.W.Frag} {H : Hp} : ∀ m, DpAll K H (List.replicate m (V.int 1)) (List.replicate m (.int 1))
  | 0 => .nil
  | m + 1 => by rw [List.replicate_succ, List.replicate_succ]; exact .cons (.int 1) (ones_dpa m)
section
variable {P : Program} {w : World} {K : PySem.W.Frag} {mg : Str → Option Value} {base : Heap}
/-! ### _law_fits -/
def spFits : Sp := fun vs H Q _ => ∃ (a b ta rc bo : Addr) (l n N : Nat) (B R : List Str) (as : List Addr) (ts : List (List Str)) (g0 : Str → Nat), vs = [.ref a, .ref b, .ref ta, .ref rc, .int (l : Nat), .int (n : Nat), .ref bo] ∧ H a = some (.lst (B.map V.str)) ∧ H b = some (.lst (R.map V.str)) ∧
  H ta = some (.lst (as.map V.ref)) ∧ Tups H as ts ∧ RcAt B R ts g0 N H rc ∧ l < n ∧ n ≤ N ∧ N ≤ 3000 ∧ B ≠ [] ∧ B.length ≤ 100 ∧ H bo = some (.dK (gd (fun k => .int (KM.blk B R ts g0 l n k)) (kset B))) ∧ KM.wholeB B R ts g0 l n = true ∧
  ∀ H' : Hp, Same H H' → Q (.bl (KM.settled B R ts (KM.after B R ts g0 l) && KM.fairB B R ts g0 l n)) H'
abbrev nmFits : List Str := ["_law_block", "_law_recent", "_law_takes", "_law_race_here", "_law_lead", "_law_stop", "_law_blocks_of", "_law_rows", "_law_meets", "_law_before", "_law_behind", "_law_size", "_law_kind_here", "_law_met", "_law_winner", "_law_loser"]
theorem sc_law_fits : FnScope nmFits ["_law_block", "_law_recent", "_law_takes", "_law_race_here", "_law_lead", "_law_stop", "_law_blocks_of"] (defScope s_law_fits) := fnScope_dec (by decide +kernel)
theorem cal_law_fits (Z : Say K mg) : Cal P w K mg base 2 "_law_fits" spFits := by
  obtain ⟨fd, F⟩ := Z.D_law_fits
  have cS : Cal P w K mg base 1 "_law_is_settled" spIsSettled := cal_law_is_settled Z
  refine ⟨_, fd, ["_law_block", "_law_recent", "_law_takes", "_law_race_here", "_law_lead", "_law_stop", "_law_blocks_of"], fn_ok F sc_law_fits (fun vs H Q E h => ?_) (fun cdv A outer s H vs Q E hr h => ?_), Z.g_law_fits, F.kp, F.bindsN fun _ _ _ _ _ _ us hl => match us, hl with | [_, _, _, _, _, _, _], _ => rfl⟩
  · obtain ⟨a, b, ta, rc, bo, l, n, N, B, R, as, ts, g0, rfl, _⟩ := h
    rfl
  · obtain ⟨a, b, ta, rc, bo, l, n, N, B, R, as, ts, g0, rfl, hB, hR, hta, hTs, hrc, hln, hnN, zN, hne, zB, hbo, hwh, qq⟩ := h
    have nd := sc_law_fits.nd
    have hu := hr.units
    have hu1 : (A.deeper (envOfC d_law_fits.qual d_law_fits.scope s.heap.objs.size (He.fAd K d_law_fits.at_) cdv)).units + 1 < cLine := by omega
    refine ⟨_, pss_cons (ps_asg (pv 3) (pg_tup rfl (pgs_cons (pg_name (i := 7) nd rfl (Or.inl rfl)) (pgs_cons (pg_name (i := 8) nd rfl (Or.inl rfl)) pgs_nil))))
      (pss_cons (ps_if (pt_not (pt_val (pe_c cS hr (by decide) rfl (pa_cons (pv 0) (pa_cons (pv 1) (pa_cons (pv 2) (pa_cons (pe_ix ix_tup (pe_ix ix_list (pv 7) (pv 4) (fun _ _ => rfl)) pe_int (fun _ _ => rfl)) pa_nil))))))) (pss_one (ps_ret pe_bl)) pss_nil)
      (pss_cons (ps_par3 (i := 9) (j := 10) (l := 11) rfl nd rfl rfl rfl (by decide) (by decide) (by decide) rfl rfl rfl (pa_cons (pe_ix ix_tup (pe_ix ix_list (pv 7) (pv 4) (fun _ _ => rfl)) pe_int (fun _ _ => rfl)) (pa_cons (pe_ix ix_tup (pe_ix ix_list (pv 7) (pv 5) (fun _ _ => rfl)) pe_int (fun _ _ => rfl)) (pa_cons (pe_callB call_len_seq rfl Z.f_len boot_len (pa_cons (pv 0) pa_nil)) pa_nil))) (by rfl))
      (pss_cons (ps_lock (ps_for PassesOwn.never rfl (pi_keys (pv 6)) (pg_name (i := 12) nd rfl (Or.inl rfl))
          (pss_one (ps_if (pt_cmpR op_ne (pe_dget hu1 (pv 10) (pv 12) (fun _ _ => rfl)) (pe_op op_add (pe_dget hu1 (pv 9) (pv 12) (fun _ _ => rfl)) (pe_op op_mul (pe_dget hu1 (pv 6) (pv 12) (fun _ _ => rfl)) (pv 11))) (nomark _)) (pss_one (ps_ret pe_bl)) pss_nil))))
      (pss_cons (ps_set (i := 13) nd rfl (Or.inl rfl) (pe_callB (cr_sumL rfl) rfl Z.f_sum boot_sum (pa_cons (pe_slice sl_list (pv 8) (po_some (pv 4)) (po_some (pv 5))) (pa_cons (pe_lst pa_nil) pa_nil))))
      (pss_one (ps_ret (pe_cmpR (op_eqD hu) (pe_lc (own := [("_law_winner", 14), ("_law_loser", 15)]) (g := gTup K 2 (gCons (gName 14) (gCons (gName 15) gNil))) rfl nd (pi_list (pv 13)) (blkOk_by (N := nmFits) (sc := defScope s_law_fits) (by decide +kernel))
            (fun _ _ _ _ _ => pg_tup rfl (pgs_cons (pg_name (i := 14) nd rfl (Or.inl rfl)) (pgs_cons (pg_name (i := 15) nd rfl (Or.inl rfl)) pgs_nil)))
            (fun _ _ _ _ _ => pts_one (pt_cmpR op_lt (pe_dget hu1 (pv 6) (pv 15) (fun _ _ => rfl)) (pe_dget hu1 (pv 6) (pv 14) (fun _ _ => rfl)) (nomark _)))
            (fun _ _ _ _ _ => pe_int)) (pe_lst pa_nil) (nomark _)))))))), ?_⟩
    obtain ⟨ra, ma, rs, ms, h1, h2, h3, zr, zm, hrs, hms⟩ := hrc
    obtain ⟨t1, e1, f1⟩ := rows_at (l := rs) (n := l) (by omega)
    obtain ⟨t2, e2, f2⟩ := rows_at (l := rs) (n := n) (by omega)
    obtain ⟨p1, q1, ht1, L1⟩ := hrs l t1 e1
    obtain ⟨p2, q2, ht2, L2⟩ := hrs n t2 e2
    refine ⟨_, rfl, rc, _, rfl, SqT.of h1, rfl, _, _, rfl, _, _, rfl, rfl, ?_⟩
    refine ⟨_, rfl, _, rfl, _, rfl, _, rfl, _, rfl, ra, _, _, .ref t1, rfl, rfl, SqL.of h2, at_ofA (j := l) rfl f1, t1, _, 0, .ref p1, rfl, rfl, SqT.of ht1, at_ofA (j := 0) rfl rfl, a, b, ta, p1, B, R, _, as, ts, rfl, hB, hR, hta, hTs, L1.pl, _, rfl, ?_⟩
    cases hst : KM.settled B R ts (KM.after B R ts g0 l) with
    | false =>
      rw [hst] at qq
      exact iteT (qq H (Same.refl H))
    | true =>
      rw [hst, Bool.true_and] at qq
      refine iteF ?_
      refine ⟨_, rfl, _, rfl, ra, _, _, .ref t1, rfl, rfl, SqL.of h2, at_ofA (j := l) rfl f1, t1, _, 0, .ref p1, rfl, rfl, SqT.of ht1, at_ofA (j := 0) rfl rfl, ?_⟩
      refine ⟨_, rfl, _, rfl, ra, _, _, .ref t2, rfl, rfl, SqL.of h2, at_ofA (j := n) rfl f2, t2, _, 0, .ref p2, rfl, rfl, SqT.of ht2, at_ofA (j := 0) rfl rfl, ?_⟩
      refine ⟨_, rfl, a, _, rfl, .inl (SqL.of hB), _, _, _, rfl, ?_⟩
      rw [List.length_map]
      -- the growth is whole blocks
      have zBi : (B.length : Int) ≠ 0 := by
        have := List.length_pos_iff.mpr hne
        omega
      have whole : ∀ k ∈ B, (KM.plc B R (KM.after B R ts g0 n) k : Int) = (KM.plc B R (KM.after B R ts g0 l) k : Int) + KM.blk B R ts g0 l n k * (B.length : Int) := fun k hk => by
        have h1 := KM.wholeB_iff.mp hwh k hk
        have h2 := Int.emod_add_mul_ediv (KM.grown B R ts g0 l n k) (B.length : Int)
        have h3 : KM.blk B R ts g0 l n k = KM.grown B R ts g0 l n k / (B.length : Int) := rfl
        have h4 : KM.grown B R ts g0 l n k = (KM.plc B R (KM.after B R ts g0 n) k : Int) - (KM.plc B R (KM.after B R ts g0 l) k : Int) := rfl
        rw [h1, ← h3, Int.mul_comm] at h2
        omega
      have getb : ∀ k ∈ B, DGet H bo (.str k) (some (.int (KM.blk B R ts g0 l n k))) := fun k hk => by
        have e := DGet.k (k := .inr k) hbo
        rw [gd_in (kset_mem.mpr hk)] at e
        exact e
      refine ⟨bo, _, hbo, trivial, fun od => ⟨_, rfl, bo, od, rfl, .inl ⟨_, upd_same, ?_⟩⟩⟩
      refine for_it walk_keys (fun i σ H' => H' = upd H bo (.frz od (.dK (gd (fun k => .int (KM.blk B R ts g0 l n k)) (kset B)))) ∧ ∃ v : Option V, σ = [some (.ref a), some (.ref b), some (.ref ta), some (.ref rc), some (.int (l : Nat)), some (.int (n : Nat)), some (.ref bo), some (.ref ra), some (.ref ma), some (.ref p1), some (.ref p2), some (.int (B.length : Nat)), v, none, none, none])
        ⟨rfl, _, rfl⟩ (fun i σ H' _ h => by rw [h.1]; exact upd_same) ?_ ?_
      · rintro i x σ H' H'' hi ⟨rfl, v, rfl⟩ ⟨rfl, k, v', ek, rfl⟩
        rw [List.getElem?_map] at ek
        obtain ⟨z, ez, ezz⟩ := Option.map_eq_some_iff.mp ek
        cases ezz
        have hz : z ∈ B := kset_mem.mp (List.mem_of_getElem? ez)
        refine ⟨_, rfl, _, rfl, p2, _, rfl, DGet.lock hbo (get_pl L2 hz), ?_⟩
        refine ⟨_, rfl, _, rfl, p1, _, rfl, DGet.lock hbo (get_pl L1 hz), ?_⟩
        refine ⟨_, rfl, _, rfl, bo, _, rfl, DGet.lock hbo (getb z hz), ?_⟩
        refine ⟨_, rfl, _, _, rfl, rfl, .inr ⟨by omega, by omega⟩, ?_⟩
        refine ⟨_, _, rfl, rfl, ?_⟩
        refine ⟨rfl, _, rfl, ?_⟩
        have e : decide (V.int (KM.plc B R (KM.after B R ts g0 n) z : Nat) = V.int ((KM.plc B R (KM.after B R ts g0 l) z : Nat) + KM.blk B R ts g0 l n z * (B.length : Nat))) = true := by rw [← whole z hz]; exact decide_eq_true rfl
        have e2 : (!decide (V.int (KM.plc B R (KM.after B R ts g0 n) z : Nat) = V.int ((KM.plc B R (KM.after B R ts g0 l) z : Nat) + KM.blk B R ts g0 l n z * (B.length : Nat)))) = false := by rw [e]; rfl
        exact iteFe e2 ⟨rfl, _, rfl⟩
      rintro σ H' ⟨rfl, v, rfl⟩
      refine ⟨upd_same, ?_⟩
      rw [upd_upd, upd_eta hbo]
      -- all who met
      refine ⟨_, rfl, _, rfl, _, rfl, _, rfl, _, rfl, ma, _, rfl, SqL.of h3, fun ps hps => ⟨by show 0 ≤ sizeLine; decide, fun em hem => ?_⟩⟩
      rw [cut_mid (Nat.le_of_lt hln) (by rw [List.length_map]; omega)]
      rw [cut_mid (Nat.le_of_lt hln) (by rw [List.length_map]; omega)] at hem
      have ecut : ((ms.map V.ref).drop l).take (n - l) = ((ms.drop l).take (n - l)).map V.ref := by rw [List.map_take, List.map_drop]
      rw [ecut] at hem ⊢
      have zl : ((ms.drop l).take (n - l)).length = n - l := by rw [List.length_take, List.length_drop]; omega
      have s12 := (Same.new (o := .lst (((ms.drop l).take (n - l)).map V.ref)) hps).trans (Same.new (o := .lst []) hem)
      have nps := ne_of_none (H := upd H ps (.lst (((ms.drop l).take (n - l)).map V.ref))) upd_same hem
      have hps2 : upd (upd H ps (.lst (((ms.drop l).take (n - l)).map V.ref))) em (.lst []) ps = _ := (upd_ne nps).trans upd_same
      have hem2 : upd (upd H ps (.lst (((ms.drop l).take (n - l)).map V.ref))) em (.lst []) em = some (.lst ([] : List V)) := upd_same
      generalize upd (upd H ps (.lst (((ms.drop l).take (n - l)).map V.ref))) em (.lst []) = H2 at s12 hps2 hem2 ⊢
      obtain ⟨cs, tl, xs, c1, c2, c3, c4, c5⟩ := meets_flat (H := H2) (M := fun j => KM.roundM B R ts (KM.after B R ts g0 j)) ((ms.drop l).take (n - l)) l fun j m e => by
        rw [List.getElem?_take] at e
        split at e
        · rw [List.getElem?_drop] at e
          exact (hms _ m e).mono s12
        · cases e
      rw [zl] at c4 c5
      have zxs : xs.length ≤ 9000000 := by
        have : 3000 * (n - l) ≤ 3000 * 3000 := Nat.mul_le_mul_left _ (by omega)
        omega
      refine ⟨ps, em, _, cs, rfl, hps2, hem2, c1, ?_, ?_, fun pm hpm => ?_⟩
      · rw [c2, List.length_map, Paired.length c3]
        exact Nat.le_trans zxs (by decide)
      · intro e
        rw [e] at c1
        have := c1.length
        rw [zl] at this
        simp at this
        omega
      rw [c2]
      have hpm2 : upd H2 pm (.lst (tl.map V.ref)) pm = some (.lst (tl.map V.ref)) := upd_same
      have s3 := s12.trans (Same.new (o := .lst (tl.map V.ref)) hpm)
      have c3 := c3.mono (Same.new (o := .lst (tl.map V.ref)) hpm)
      generalize upd H2 pm (.lst (tl.map V.ref)) = H3 at hpm2 s3 c3 ⊢
      -- is there an unfair one
      let fr : Str × Str → Prop := fun x => ¬ KM.blk B R ts g0 l n x.2 < KM.blk B R ts g0 l n x.1
      have inB : ∀ x ∈ xs, x.1 ∈ B ∧ x.2 ∈ B := fun x hx => by
        obtain ⟨j, hj, hm⟩ := (c5 x).mp hx
        exact KM.meet_block hst (Nat.le_add_right l j) hm
      refine ⟨_, rfl, pm, rfl, ⟨_, SqL.of hpm2⟩, fun D hD => ?_⟩
      refine lc_list (K := K) (a := pm) (xs := tl.map V.ref) (fun i H' => Same H3 H' ∧ ∃ m : Nat, H' D = some (.lst (List.replicate m (V.int 1))) ∧ m ≤ i ∧ (m = 0 ↔ ∀ x ∈ xs.take i, fr x))
        ⟨Same.new hD, 0, upd_same, Nat.le_refl _, by simp⟩ (fun i H' _ h => SqL.of (h.1 _ _ hpm2)) ?_ ?_
      · rintro i x H' hx ⟨s4, m, hd, hmi, hm⟩
        rw [List.getElem?_map] at hx
        obtain ⟨t, et, rfl⟩ := Option.map_eq_some_iff.mp hx
        obtain ⟨y, ey, hy⟩ := LiI.paired_get c3 et
        have hyB := inB y (List.mem_of_getElem? ey)
        have et2 : xs.take (i + 1) = xs.take i ++ [y] := by rw [List.take_add_one, ey]; rfl
        have hi : i < xs.length := (List.getElem?_eq_some_iff.mp ey).1
        refine ⟨t, _, rfl, SqT.of (s4 _ _ hy), rfl, _, _, rfl, _, _, rfl, rfl, rfl, ?_⟩
        have g1 := (getb y.2 hyB.2)
        have g2 := (getb y.1 hyB.1)
        have mono : ∀ {k : Str} {v : V}, k ∈ B → V.int (KM.blk B R ts g0 l n k) = v → DGet H' bo (.str k) (some v) := fun {k v} hk ev => by
          have e := DGet.k (k := .inr k) (s4 _ _ (s3 _ _ hbo))
          rw [gd_in (kset_mem.mpr hk)] at e
          rw [← ev]
          exact e
        refine ⟨_, rfl, _, rfl, bo, _, rfl, mono hyB.2 rfl, _, rfl, _, rfl, bo, _, rfl, mono hyB.1 rfl, _, _, rfl, rfl, _, rfl, ?_⟩
        refine ite2 (fun c => ?_) (fun c => ?_)
        · have c := of_decide_eq_true c
          refine ⟨_, hd, ?_, Same.mut s4 hD, m + 1, ?_, by omega, ?_⟩
          · rw [List.length_replicate]
            exact Nat.lt_of_le_of_lt (show m ≤ 9000000 by omega) (by decide)
          · rw [upd_same, List.replicate_succ']
          · constructor
            · intro e; omega
            · intro h
              exact absurd c (h y (by rw [et2]; simp))
        · have c : ¬ KM.blk B R ts g0 l n y.2 < KM.blk B R ts g0 l n y.1 := by simpa using c
          refine ⟨s4, m, hd, by omega, ?_⟩
          rw [hm, et2]
          constructor
          · intro h z hz
            rcases List.mem_append.mp hz with hz | hz
            · exact h z hz
            · rw [List.mem_singleton.mp hz]; exact c
          · intro h z hz
            exact h z (List.mem_append.mpr (.inl hz))
      · rintro H' ⟨s4, m, hd, _, hm⟩
        rw [List.length_map, Paired.length c3, List.take_length] at hm
        refine ⟨by show 0 ≤ sizeLine; decide, fun e he => ?_⟩
        refine ⟨.list (List.replicate m (.int 1)), .list [], .lst (SqL.of ((Same.new he) _ _ hd)) (ones_dpa m), .lst (SqL.of upd_same) .nil, ones_shaped m, rfl, ?_⟩
        rw [eqv_nil]
        have ef : (List.replicate m (PyData.int 1)).isEmpty = KM.fairB B R ts g0 l n := by
          rw [Bool.eq_iff_iff, KM.fairB_iff, List.isEmpty_iff]
          constructor
          · intro h j h1 h2 w x hx
            have : m = 0 := by simpa using h
            exact hm.mp this (w, x) ((c5 _).mpr ⟨j - l, by omega, by rw [show l + (j - l) = j by omega]; exact hx⟩)
          · intro h
            have : m = 0 := hm.mpr fun x hx => by
              obtain ⟨j, hj, hm2⟩ := (c5 x).mp hx
              exact h (l + j) (by omega) (by omega) x.1 x.2 hm2
            rw [this]; rfl
        rw [ef]
        exact qq _ ((s3.trans s4).trans (Same.new he))
end
end Ku

/-! KuB7 -/
set_option Elab.async false
set_option linter.all false
set_option maxRecDepth 100000
set_option maxHeartbeats 8000000
namespace Ku
open PySem PySem.Spec PyProof.Rows L2 KuS KuD
/-- [1 for .. in xs if ..] -/
theorem lc_ones {K : PySem.W.Frag} {a : Addr} {xs : List V} {g : TG} {tt : TT} {vs : List Nat} {σ : L2.St} {H1 : Hp} {D : Addr} {Qd : Hp → Prop} (bad : Nat → Bool) (hn : xs.length ≤ 9000000) (hD : H1 D = none) (hq : SqL K H1 a xs)
    (hs : ∀ (j : Nat) (x : V) (H : Hp) (Q : Bool → Hp → Prop), xs[j]? = some x → Same H1 H → Q (bad j) H → g x (wipe σ vs) H fun σ2 H2 => wipe σ2 vs = wipe σ vs ∧ tt σ2 H2 Q)
    (hd : ∀ (H : Hp) (m : Nat), Same H1 H → H D = some (.lst (List.replicate m (V.int 1))) → (m = 0 ↔ ∀ j, j < xs.length → bad j = false) → Qd H) :
    ∃ W : Nat → Nat → Hp → Prop, (∃ m, W 0 m (upd H1 D (.lst []))) ∧ ∀ j m H, W j m H →
      ((Itl K a).stop j H ∧ Qd H) ∨ ((Itl K a).go j H ∧ ∃ Nx : Hp → Prop, (∀ H', Nx H' → ∃ m', m' < m ∧ W (j + 1) m' H') ∧ ∀ x H', (Itl K a).yld j H x H' → g x (wipe σ vs) H' fun σ2 H2 => wipe σ2 vs = wipe σ vs ∧ tt σ2 H2 fun b H3 =>
        if b = true then (tC (.int 1)) σ2 H3 fun y H4 => ∃ acc, H4 D = some (.lst acc) ∧ acc.length < sizeLine ∧ Nx (upd H4 D (.lst (acc ++ [y]))) else Nx H3) := by
  refine lc_list (K := K) (a := a) (xs := xs) (fun i H' => Same H1 H' ∧ ∃ m : Nat, H' D = some (.lst (List.replicate m (V.int 1))) ∧ m ≤ i ∧ (m = 0 ↔ ∀ j, j < i → bad j = false))
    ⟨Same.new hD, 0, upd_same, Nat.le_refl _, by simp⟩ (fun i H' _ h => h.1.seq hq) ?_ ?_
  · rintro i x H' hx ⟨s4, m, hd', hmi, hm⟩
    have hi : i < xs.length := (List.getElem?_eq_some_iff.mp hx).1
    let Pn : Hp → Prop := fun H' => Same H1 H' ∧ ∃ m : Nat, H' D = some (.lst (List.replicate m (V.int 1))) ∧ m ≤ i + 1 ∧ (m = 0 ↔ ∀ j, j < i + 1 → bad j = false)
    refine hs i x H' (fun b H3 => if b = true then ∃ acc, H3 D = some (.lst acc) ∧ acc.length < sizeLine ∧ Pn (upd H3 D (.lst (acc ++ [V.int 1]))) else Pn H3) hx s4 ?_
    cases hb : bad i with
    | true =>
      refine iteT ⟨_, hd', ?_, Same.mut s4 hD, m + 1, ?_, by omega, ?_⟩
      · rw [List.length_replicate]
        exact Nat.lt_of_le_of_lt (show m ≤ 9000000 by omega) (by decide)
      · rw [upd_same, List.replicate_succ']
      · constructor
        · intro e; omega
        · intro h
          rw [h i (Nat.lt_succ_self i)] at hb
          cases hb
    | false =>
      refine iteF ⟨s4, m, hd', by omega, ?_⟩
      rw [hm]
      constructor
      · intro h j hj
        by_cases e : j = i
        · rw [e]; exact hb
        · exact h j (by omega)
      · intro h j hj
        exact h j (by omega)
  · rintro H' ⟨s4, m, hd', _, hm⟩
    exact hd H' m s4 hd' hm
/-- [(x, f x) for x, y in xs], xs a list of pairs -/
theorem lc_pairs2 {K : PySem.W.Frag} {a : Addr} {ls : List Addr} {ks : List Str} {h : Str → Int} {i1 i2 : Nat} {te : TE} {vs : List Nat} {σ : L2.St} {H1 : Hp} {D : Addr} {Qd : Hp → Prop} (f : Str → V) (hn : ks.length ≤ 100000) (hD : H1 D = none) (hq : H1 a = some (.lst (ls.map V.ref))) (hp : Paired (fun t k => H1 t = some (.tup [.str k, .int (h k)])) ls ks)
    (hw : ∀ x y, wipe (((wipe σ vs).set i1 (some x)).set i2 (some y)) vs = wipe σ vs)
    (hs : ∀ (x : Str) (H : Hp) (Q : VK), x ∈ ks → Same H1 H → (∀ p, H p = none → Q (.ref p) (upd H p (.tup [.str x, f x]))) → te (((wipe σ vs).set i1 (some (.str x))).set i2 (some (.int (h x)))) H Q)
    (hd : ∀ (H : Hp) (ps : List Addr), Same H1 H → H D = some (.lst (ps.map V.ref)) → Paired (fun p x => H p = some (.tup [.str x, f x])) ps ks → Qd H) :
    ∃ W : Nat → Nat → Hp → Prop, (∃ m, W 0 m (upd H1 D (.lst []))) ∧ ∀ j m H, W j m H →
      ((Itl K a).stop j H ∧ Qd H) ∨ ((Itl K a).go j H ∧ ∃ Nx : Hp → Prop, (∀ H', Nx H' → ∃ m', m' < m ∧ W (j + 1) m' H') ∧ ∀ x H', (Itl K a).yld j H x H' → gTup K 2 (gCons (gName i1) (gCons (gName i2) gNil)) x (wipe σ vs) H' fun σ2 H2 => wipe σ2 vs = wipe σ vs ∧ tYes σ2 H2 fun b H3 =>
        if b = true then te σ2 H3 fun y H4 => ∃ acc, H4 D = some (.lst acc) ∧ acc.length < sizeLine ∧ Nx (upd H4 D (.lst (acc ++ [y]))) else Nx H3) := by
  refine lc_list (K := K) (a := a) (xs := ls.map V.ref) (fun j H => Same H1 H ∧ ∃ ps : List Addr, H D = some (.lst (ps.map V.ref)) ∧ Paired (fun p x => H p = some (.tup [.str x, f x])) ps (ks.take j)) ?_ ?_ ?_ ?_
  · exact ⟨Same.new hD, [], upd_same, .nil⟩
  · rintro j H _ ⟨s, _⟩
    exact SqL.of (s _ _ hq)
  · rintro j x H hx ⟨s, ps, hd', pp⟩
    rw [List.getElem?_map] at hx
    obtain ⟨t, et, rfl⟩ := Option.map_eq_some_iff.mp hx
    obtain ⟨z, hz, ht⟩ := LiI.paired_get hp et
    have hj := (List.getElem?_eq_some_iff.mp hz).1
    refine ⟨t, _, rfl, SqT.of (s _ _ ht), rfl, _, _, rfl, _, _, rfl, rfl, hw _ _, ?_⟩
    show te _ _ _
    refine hs z _ _ (List.mem_of_getElem? hz) s fun p hp' => ?_
    have nDp := ne_of_none hd' hp'
    refine ⟨_, by rw [upd_ne nDp]; exact hd', ?_, Same.mut (s.trans (Same.new hp')) hD, ps ++ [p], ?_, ?_⟩
    · rw [List.length_map, pp.length, List.length_take]
      exact Nat.lt_of_lt_of_le (show min j ks.length < 100000 by omega) (by decide)
    · rw [upd_same, List.map_append]; rfl
    · rw [List.take_add_one, hz]
      refine pair_snoc (pair_imp pp fun q x _ e => ?_) ?_
      · rw [upd_ne (ne_of e hd' (fun z => nomatch z)), upd_ne (ne_of_none e hp')]; exact e
      · rw [upd_ne (Ne.symm nDp)]; exact upd_same
  · rintro H ⟨s, ps, hd', pp⟩
    rw [List.length_map, hp.length, List.take_length] at pp
    exact hd H ps s hd' pp
theorem first_hit {p : Nat → Bool} {n l : Nat} (h1 : l < n) (h2 : p l = true) (h3 : ∀ j, j < l → p j = false) : KM.firstIn p n = some l := by
  cases e : KM.firstIn p n with
  | none =>
    rw [KM.firstIn_none.mp e l h1] at h2
    cases h2
  | some m =>
    obtain ⟨k1, k2, k3⟩ := KM.firstIn_some e
    rcases Nat.lt_trichotomy l m with c | c | c
    · rw [k3 l c] at h2; cases h2
    · rw [c]
    · rw [h3 m c] at k2; cases k2
theorem find_hit {P : Nat → Nat → Bool} {i l N : Nat} (h0 : KM.findP P i = none) (h1 : l < i + 1) (h2 : P l (i + 1) = true) (h3 : ∀ j, j < l → P j (i + 1) = false) (hN : i + 1 ≤ N) : KM.findP P N = some (l, i + 1) := by
  refine KM.findP_ext (n := i + 1) ?_ hN
  unfold KM.findP
  rw [h0, first_hit h1 h2 h3]
  rfl
theorem find_step {P : Nat → Nat → Bool} {i : Nat} (h0 : KM.findP P i = none) (h3 : ∀ j, j < i + 1 → P j (i + 1) = false) : KM.findP P (i + 1) = none := by
  refine KM.findP_none.mpr fun l m h1 h2 => ?_
  by_cases e : m = i + 1
  · subst e; exact h3 l h1
  · exact KM.findP_none.mp h0 l m h1 (by omega)
section
variable {P : Program} {w : World} {K : PySem.W.Frag} {mg : Str → Option Value} {base : Heap}
/-! ### _law_paper -/
/-- a paper as the law tells it -/
def PapAt (B R : List Str) (ts : List (List Str)) (g0 : Str → Nat) (H : Hp) (x : Nat × Nat) (v : V) : Prop := ∃ t bo, v = .ref t ∧ H t = some (.tup [.int (x.1 : Nat), .int (x.2 : Nat), .ref bo]) ∧ H bo = some (.dK (gd (fun k => .int (KM.blk B R ts g0 x.1 x.2 k)) (kset B)))
def PapOr (B R : List Str) (ts : List (List Str)) (g0 : Str → Nat) (H : Hp) (o : Option (Nat × Nat)) (v : V) : Prop := match o with
  | none => v = .non
  | some x => PapAt B R ts g0 H x v
def spPaper : Sp := fun vs H Q _ => ∃ (a b ta rc : Addr) (N : Nat) (B R : List Str) (as : List Addr) (ts : List (List Str)) (g0 : Str → Nat), vs = [.ref a, .ref b, .ref ta, .ref rc, .int (N : Nat)] ∧ H a = some (.lst (B.map V.str)) ∧ H b = some (.lst (R.map V.str)) ∧
  H ta = some (.lst (as.map V.ref)) ∧ Tups H as ts ∧ RcAt B R ts g0 N H rc ∧ N ≤ 3000 ∧ B ≠ [] ∧ B.length ≤ 100 ∧ ∀ (v : V) (H' : Hp), Same H H' → PapOr B R ts g0 H' (KM.findP (KM.paperB B R ts g0) N) v → Q v H'
abbrev nmPaper : List Str := ["_law_block", "_law_recent", "_law_takes", "_law_race_here", "_law_bound", "_law_size", "_law_stop", "_law_lead", "_law_grown_here", "_law_blocks_of", "_law_kind_here", "_law_many"]
theorem sc_law_paper : FnScope nmPaper ["_law_block", "_law_recent", "_law_takes", "_law_race_here", "_law_bound"] (defScope s_law_paper) := fnScope_dec (by decide +kernel)
theorem cal_law_paper (Z : Say K mg) : Cal P w K mg base 3 "_law_paper" spPaper := by
  obtain ⟨fd, F⟩ := Z.D_law_paper
  have cG : Cal P w K mg base 1 "_law_grown" spGrown := cal_law_grown Z
  have cF : Cal P w K mg base 2 "_law_fits" spFits := cal_law_fits Z
  refine ⟨_, fd, ["_law_block", "_law_recent", "_law_takes", "_law_race_here", "_law_bound"], fn_ok F sc_law_paper (fun vs H Q E h => ?_) (fun cdv A outer s H vs Q E hr h => ?_), Z.g_law_paper, F.kp, F.bindsN fun _ _ _ _ _ _ us hl => match us, hl with | [_, _, _, _, _], _ => rfl⟩
  · obtain ⟨a, b, ta, rc, N, B, R, as, ts, g0, rfl, _⟩ := h
    rfl
  · obtain ⟨a, b, ta, rc, N, B, R, as, ts, g0, rfl, hB, hR, hta, hTs, hrc, zN, hne, zB, qq⟩ := h
    have nd := sc_law_paper.nd
    have hu := hr.units
    refine ⟨_, pss_cons (ps_set (i := 5) nd rfl (Or.inr rfl) (pe_callB call_len_seq rfl Z.f_len boot_len (pa_cons (pv 0) pa_nil)))
      (pss_cons (ps_for PassesOwn.never rfl (pi_range2 (by rfl) Z.f_range (pa_cons pe_int (pa_cons (pe_op op_add (pv 4) pe_int) pa_nil))) (pg_name (i := 6) nd rfl (Or.inl rfl))
        (pss_one (ps_for PassesOwn.never rfl (pi_range1 rfl Z.f_range (pa_cons (pv 6) pa_nil)) (pg_name (i := 7) nd rfl (Or.inl rfl))
          (pss_cons (ps_set (i := 8) nd rfl (Or.inl rfl) (pe_c cG hr (by decide) rfl (pa_cons (pv 0) (pa_cons (pe_ix ix_tup (pv 3) pe_int (fun _ _ => rfl)) (pa_cons (pv 7) (pa_cons (pv 6) pa_nil))))))
          (pss_one (ps_if (pt_cmpR (op_eqD hu) (pe_lc (own := [("_law_kind_here", 10), ("_law_many", 11)]) (g := gTup K 2 (gCons (gName 10) (gCons (gName 11) gNil))) rfl nd (pi_list (pv 8)) (blkOk_by (N := nmPaper) (sc := defScope s_law_paper) (by decide +kernel))
                (fun _ _ _ _ _ => pg_tup rfl (pgs_cons (pg_name (i := 10) nd rfl (Or.inl rfl)) (pgs_cons (pg_name (i := 11) nd rfl (Or.inl rfl)) pgs_nil)))
                (fun _ _ _ _ _ => pts_one (pt_cmpR op_gt (pe_op op_mod (pv 11) (pv 5)) pe_int (nomark _))) (fun _ _ _ _ _ => pe_int)) (pe_lst pa_nil) (nomark _))
              (pss_cons (ps_set (i := 9) nd rfl (Or.inl rfl) (pe_callTy (call_dictP rfl) rfl Z.f_dict boot_dict (pa_cons (pe_lc (own := [("_law_kind_here", 10), ("_law_many", 11)]) (g := gTup K 2 (gCons (gName 10) (gCons (gName 11) gNil))) (tt := tYes) rfl nd (pi_list (pv 8)) (blkOk_by (N := nmPaper) (sc := defScope s_law_paper) (by decide +kernel))
                (fun _ _ _ _ _ => pg_tup rfl (pgs_cons (pg_name (i := 10) nd rfl (Or.inl rfl)) (pgs_cons (pg_name (i := 11) nd rfl (Or.inl rfl)) pgs_nil))) (fun _ _ _ _ _ => pts_nil)
                (fun _ _ _ _ _ => pe_tup (pa_cons (pv 10) (pa_cons (pe_op op_fdiv (pv 11) (pv 5)) pa_nil)))) pa_nil)))
              (pss_one (ps_if (pt_val (pe_c cF hr (by decide) rfl (pa_cons (pv 0) (pa_cons (pv 1) (pa_cons (pv 2) (pa_cons (pv 3) (pa_cons (pv 7) (pa_cons (pv 6) (pa_cons (pv 9) pa_nil))))))))) (pss_one (ps_ret (pe_tup (pa_cons (pv 7) (pa_cons (pv 6) (pa_cons (pv 9) pa_nil)))))) pss_nil))) pss_nil))))))
      (pss_one (ps_ret pe_non))), ?_⟩
    obtain ⟨ra, ma, rs, ms, h1, h2, h3, zr, zm, hrs, hms⟩ := id hrc
    have zBi : 0 < (B.length : Int) := by
      have := List.length_pos_iff.mpr hne
      omega
    refine ⟨_, rfl, a, _, rfl, .inl (SqL.of hB), ?_⟩
    rw [List.length_map]
    refine ⟨_, rfl, _, _, rfl, rfl, _, _, rfl, ⟨by omega, by omega, by omega, by omega⟩, ?_⟩
    have eN : ((N : Int) + 1 - 1).toNat = N := by omega
    rw [eN]
    refine for_range (lo := 1) (n := N) (fun i σ H' => (∃ v6 v7 v8 v9 : Option V, σ = [some (.ref a), some (.ref b), some (.ref ta), some (.ref rc), some (.int (N : Nat)), some (.int (B.length : Nat)), v6, v7, v8, v9, none, none]) ∧ Same H H' ∧ KM.findP (KM.paperB B R ts g0) i = none)
      ⟨⟨_, _, _, _, rfl⟩, Same.refl H, rfl⟩ ?_ ?_
    · rintro i σ H1 hi ⟨⟨v6, v7, v8, v9, rfl⟩, s1, hf⟩
      rw [show (1 : Int) + (i : Nat) = ((i + 1 : Nat) : Int) by omega]
      refine ⟨_, rfl, _, rfl, by omega, by omega, ?_⟩
      rw [Int.toNat_natCast]
      refine for_range (lo := 0) (n := i + 1) (fun j σ H' => (∃ v7 v8 v9 : Option V, σ = [some (.ref a), some (.ref b), some (.ref ta), some (.ref rc), some (.int (N : Nat)), some (.int (B.length : Nat)), some (.int ((i + 1 : Nat) : Int)), v7, v8, v9, none, none]) ∧ Same H H' ∧ ∀ l, l < j → KM.paperB B R ts g0 l (i + 1) = false)
        ⟨⟨_, _, _, rfl⟩, s1, fun l hl => absurd hl (Nat.not_lt_zero _)⟩ ?_ ?_
      · rintro j σ H2 hj ⟨⟨v7, v8, v9, rfl⟩, s2, hno⟩
        rw [show (0 : Int) + (j : Nat) = ((j : Nat) : Int) by omega]
        obtain ⟨t1, e1, f1⟩ := rows_at (l := rs) (n := j) (by omega)
        obtain ⟨t2, e2, f2⟩ := rows_at (l := rs) (n := i + 1) (by omega)
        refine ⟨_, rfl, _, rfl, rc, _, 0, .ref ra, rfl, rfl, SqT.of (s2 _ _ h1), at_ofA (j := 0) rfl rfl, _, rfl, _, rfl, a, ra, j, i + 1, B, R, rs, t1, t2, _, _, rfl, s2 _ _ hB, zB, s2 _ _ h2, e1, e2, (hrs j t1 e1).mono s2, (hrs (i + 1) t2 e2).mono s2, fun r H3 s3 _ hg => ?_⟩
        obtain ⟨ls, hls, hpp⟩ := hg
        have s3 := s2.trans s3
        have hpp : Paired (fun t k => H3 t = some (.tup [.str k, .int (KM.grown B R ts g0 j (i + 1) k)])) ls (kset B) := hpp
        have zk := kset_len B
        -- whole blocks
        refine ⟨_, rfl, r, rfl, ⟨_, SqL.of hls⟩, fun D hD => ?_⟩
        refine lc_ones (K := K) (a := r) (xs := ls.map V.ref) (fun m => match (kset B)[m]? with
            | none => false
            | some k => decide (0 < KM.grown B R ts g0 j (i + 1) k % (B.length : Int))) (by rw [List.length_map, hpp.length]; omega) hD (SqL.of hls) ?_ ?_
        · intro m x H' Q' hx s' q'
          rw [List.getElem?_map] at hx
          obtain ⟨t, et, rfl⟩ := Option.map_eq_some_iff.mp hx
          obtain ⟨k, ek, ht⟩ := LiI.paired_get hpp et
          rw [ek] at q'
          exact ⟨t, _, rfl, SqT.of (s' _ _ ht), rfl, _, _, rfl, _, _, rfl, rfl, rfl, _, rfl, _, rfl, _, _, rfl, rfl, zBi, _, _, rfl, rfl, _, rfl, q'⟩
        intro H4 m s4 hd4 hm
        have s4' := s3.trans s4
        refine ⟨by show 0 ≤ sizeLine; decide, fun e he => ?_⟩
        have s5 := Same.new (o := .lst []) he
        refine ⟨.list (List.replicate m (.int 1)), .list [], .lst (SqL.of (s5 _ _ hd4)) (ones_dpa m), .lst (SqL.of upd_same) .nil, ones_shaped m, rfl, _, rfl, ?_⟩
        rw [eqv_nil]
        have ew : (List.replicate m (PyData.int 1)).isEmpty = KM.wholeB B R ts g0 j (i + 1) := by
          rw [Bool.eq_iff_iff, KM.wholeB_iff, List.isEmpty_iff]
          have e0 : List.replicate m (PyData.int 1) = [] ↔ m = 0 := by simp
          rw [e0, hm, List.length_map, hpp.length]
          constructor
          · intro h k hk
            obtain ⟨q, hq⟩ := List.mem_iff_getElem?.mp (kset_mem.mpr hk)
            have h2 := h q (List.getElem?_eq_some_iff.mp hq).1
            rw [hq] at h2
            have h3 : ¬ 0 < KM.grown B R ts g0 j (i + 1) k % (B.length : Int) := by simpa using h2
            have h4 := Int.emod_nonneg (KM.grown B R ts g0 j (i + 1) k) (show (B.length : Int) ≠ 0 by omega)
            omega
          · intro h q hq
            obtain ⟨k, hk⟩ : ∃ k, (kset B)[q]? = some k := ⟨_, List.getElem?_eq_getElem hq⟩
            rw [hk]
            have h2 := h k (kset_mem.mp (List.mem_of_getElem? hk))
            show decide (0 < KM.grown B R ts g0 j (i + 1) k % (B.length : Int)) = false
            rw [h2]
            rfl
        rw [ew]
        have s6 := s4'.trans s5
        have hls6 := (s4.trans s5) _ _ hls
        have hpp6 := pair_imp hpp fun t k _ e => (s4.trans s5) _ _ e
        generalize upd H4 e (.lst []) = H6 at s6 hls6 hpp6 ⊢
        cases hw : KM.wholeB B R ts g0 j (i + 1) with
        | false =>
          refine iteF ⟨⟨_, _, _, rfl⟩, s6, fun l hl => ?_⟩
          by_cases c : l = j
          · subst c
            unfold KM.paperB
            rw [hw, Bool.false_and, Bool.and_false]
          · exact hno l (by omega)
        | true =>
          refine iteT ?_
          -- how many blocks
          refine ⟨_, rfl, r, rfl, ⟨_, SqL.of hls6⟩, fun D2 hD2 => ?_⟩
          refine lc_pairs2 (K := K) (a := r) (ls := ls) (ks := kset B) (h := KM.grown B R ts g0 j (i + 1)) (fun k => .int (KM.blk B R ts g0 j (i + 1) k)) (by omega) hD2 hls6 hpp6 (fun _ _ => rfl) ?_ ?_
          · intro x H' Q' hx s' q'
            exact ⟨_, rfl, _, rfl, _, rfl, _, _, rfl, rfl, ⟨zBi, by omega⟩, by show 2 ≤ sizeLine; decide, q'⟩
          intro H7 ps s7 hd7 pp7
          refine ⟨D2, ps, gd (fun k => .int (KM.blk B R ts g0 j (i + 1) k)) (kset B), rfl, SqL.of hd7, ?_, fun bo hbo => ?_⟩
          · have : ∀ {l : List Addr} {m : List Str}, Paired (fun p x => H7 p = some (.tup [.str x, .int (KM.blk B R ts g0 j (i + 1) x)])) l m → Paired (fun p (kv : Key × V) => SqT K H7 p [kV kv.1, kv.2]) l (gd (fun k => .int (KM.blk B R ts g0 j (i + 1) k)) m) := by
              intro l m h
              induction h with
              | nil => exact .nil
              | cons h1 _ ih => exact .cons (SqT.of h1) ih
            exact this pp7
          rw [gd_dict _ (kset_nodup B)]
          have hbo8 : upd H7 bo (.dK (gd (fun k => .int (KM.blk B R ts g0 j (i + 1) k)) (kset B))) bo = _ := upd_same
          have s8 := (s6.trans s7).trans (Same.new (o := .dK (gd (fun k => .int (KM.blk B R ts g0 j (i + 1) k)) (kset B))) hbo)
          generalize upd H7 bo (.dK (gd (fun k => .int (KM.blk B R ts g0 j (i + 1) k)) (kset B))) = H8 at hbo8 s8 ⊢
          refine ⟨_, rfl, _, rfl, _, rfl, _, rfl, _, rfl, _, rfl, _, rfl, a, b, ta, rc, bo, j, i + 1, N, B, R, as, ts, g0, rfl, s8 _ _ hB, s8 _ _ hR, s8 _ _ hta, hTs.mono fun a xs e => s8 _ _ e, hrc.mono s8, by omega, by omega, zN, hne, zB, hbo8, hw, fun H9 s9 => ?_⟩
          have s10 := s8.trans s9
          have ep : KM.paperB B R ts g0 j (i + 1) = (KM.settled B R ts (KM.after B R ts g0 j) && KM.fairB B R ts g0 j (i + 1)) := by
            unfold KM.paperB
            rw [hw, Bool.true_and]
          rw [← ep]
          refine ⟨_, rfl, ?_⟩
          cases hp : KM.paperB B R ts g0 j (i + 1) with
          | false =>
            refine iteF ⟨⟨_, _, _, rfl⟩, s10, fun l hl => ?_⟩
            by_cases c : l = j
            · subst c; exact hp
            · exact hno l (by omega)
          | true =>
            refine iteT ⟨_, rfl, _, rfl, _, rfl, by show 3 ≤ sizeLine; decide, fun t ht => ?_⟩
            refine qq (.ref t) _ (s10.trans (Same.new ht)) ?_
            rw [find_hit hf hj hp hno (show i + 1 ≤ N by omega)]
            exact ⟨t, bo, rfl, upd_same, (Same.new ht) _ _ (s9 _ _ hbo8)⟩
      · rintro σ H2 ⟨⟨v7, v8, v9, rfl⟩, s2, hno⟩
        exact ⟨⟨_, _, _, _, rfl⟩, s2, find_step hf hno⟩
    · rintro σ H1 ⟨⟨v6, v7, v8, v9, rfl⟩, s1, hf⟩
      refine qq .non H1 s1 ?_
      rw [hf]
      rfl
end
end Ku

/-! KuB8 -/
set_option Elab.async false
set_option linter.all false
set_option maxRecDepth 100000
set_option maxHeartbeats 8000000
namespace Ku
open PySem PySem.Spec PyProof.Rows L2 KuS KuD
theorem rise_pw : ∀ (l : List Str) (p : Str), risingS p l = true → (p :: l).Pairwise fun x y => leS x y = true
  | [], p, _ => List.pairwise_singleton _ _
  | x :: r, p, h => by
    unfold risingS at h
    rw [ltCps_eq, Bool.and_eq_true, Bool.not_eq_true', decide_eq_false_iff_not] at h
    have hp : leS p x = true ∧ risingS x r = true := ⟨decide_eq_true (List.not_lt.mp h.1), h.2⟩
    have ih := rise_pw r x hp.2
    refine List.pairwise_cons.mpr ⟨fun y hy => ?_, ih⟩
    rcases List.mem_cons.mp hy with e | e
    · rw [e]; exact hp.1
    · exact leS_trans _ _ _ hp.1 ((List.pairwise_cons.mp ih).1 y e)
theorem sorted_pw {l : List Str} (h : sortedS l = true) : l.Pairwise fun x y => leS x y = true := by
  cases l with
  | nil => exact .nil
  | cons x r => exact rise_pw r x h
section
variable {P : Program} {w : World} {K : PySem.W.Frag} {mg : Str → Option Value} {base : Heap}
/-! ### _law_counted -/
abbrev dueD (ks : List Str) (f : Str → Int) : PyData := .list (ks.map fun k => eK (k, f k))
def spCounted (K : PySem.W.Frag) : Sp := fun vs H Q _ => ∃ (ra ft bo : Addr) (l n N m : Nat) (B R : List Str) (rs : List Addr) (G : Nat → Str → Nat), vs = [.ref ra, .ref ft, .int (m : Nat)] ∧ H ra = some (.lst (rs.map V.ref)) ∧ H ft = some (.tup [.int (l : Nat), .int (n : Nat), .ref bo]) ∧ rs.length = N + 1 ∧
  (∀ j t, rs[j]? = some t → Row B R (G j) H t) ∧ l < n ∧ n ≤ N ∧ N ≤ 3000 ∧ l ≤ m ∧ m ≤ 2 ^ 62 ∧ (kinds B R).length < 64 ∧ ∀ (r : Addr) (H' : Hp), Same H H' → Dp K H' (.ref r) (dueD (kinds B R) (KM.counted G (l, n) m)) → Q (.ref r) H'
abbrev nmCounted : List Str := ["_law_rows", "_law_found", "_law_rounds", "_law_lead", "_law_stop", "_law_blocks_of", "_law_size", "_law_times", "_law_rest", "_law_due", "_law_kind_here", "_law_grown_here"]
theorem sc_law_counted : FnScope nmCounted ["_law_rows", "_law_found", "_law_rounds"] (defScope s_law_counted) := fnScope_dec (by decide +kernel)
theorem cal_law_counted (Z : Say K mg) : Cal P w K mg base 1 "_law_counted" (spCounted K) := by
  obtain ⟨fd, F⟩ := Z.D_law_counted
  refine ⟨_, fd, ["_law_rows", "_law_found", "_law_rounds"], fn_ok F sc_law_counted (fun vs H Q E h => ?_) (fun cdv A outer s H vs Q E hr h => ?_), Z.g_law_counted, F.kp, F.bindsN fun _ _ _ _ _ _ us hl => match us, hl with | [_, _, _], _ => rfl⟩
  · obtain ⟨ra, ft, bo, l, n, N, m, B, R, rs, G, rfl, _⟩ := h
    rfl
  · obtain ⟨ra, ft, bo, l, n, N, m, B, R, rs, G, rfl, hra, hft, zr, hrs, hln, hnN, zN, hlm, zm, zk, qq⟩ := h
    have nd := sc_law_counted.nd
    have hu := hr.units
    have hu1 : (A.deeper (envOfC d_law_counted.qual d_law_counted.scope s.heap.objs.size (He.fAd K d_law_counted.at_) cdv)).units + 1 < cLine := by omega
    refine ⟨_, pss_cons (ps_asg (pv 1) (pg_tup rfl (pgs_cons (pg_name (i := 3) nd rfl (Or.inl rfl)) (pgs_cons (pg_name (i := 4) nd rfl (Or.inl rfl)) (pgs_cons (pg_name (i := 5) nd rfl (Or.inl rfl)) pgs_nil)))))
      (pss_cons (ps_set (i := 6) nd rfl (Or.inl rfl) (pe_op op_sub (pv 4) (pv 3)))
      (pss_cons (ps_par (i := 7) (j := 8) rfl nd rfl rfl (by decide) rfl rfl (pa_cons (pe_op op_fdiv (pe_op op_sub (pv 2) (pv 3)) (pv 6)) (pa_cons (pe_op op_mod (pe_op op_sub (pv 2) (pv 3)) (pv 6)) pa_nil)) (by rfl))
      (pss_cons (ps_set (i := 9) nd rfl (Or.inl rfl) (pe_lst pa_nil))
      (pss_cons (ps_for PassesOwn.never rfl (pi_list (pe_callB (call_sortedD rfl) rfl Z.f_sorted boot_sorted (pa_cons (pe_ix ix_tup (pe_ix ix_list (pv 0) pe_int (fun _ _ => rfl)) pe_int (fun _ _ => rfl)) pa_nil))) (pg_name (i := 10) nd rfl (Or.inl rfl))
          (pss_cons (ps_set (i := 11) nd rfl (Or.inl rfl) (pe_op op_sub (pe_dget hu1 (pe_ix ix_tup (pe_ix ix_list (pv 0) (pv 4) (fun _ _ => rfl)) pe_int (fun _ _ => rfl)) (pv 10) (fun _ _ => rfl)) (pe_dget hu1 (pe_ix ix_tup (pe_ix ix_list (pv 0) (pv 3) (fun _ _ => rfl)) pe_int (fun _ _ => rfl)) (pv 10) (fun _ _ => rfl))))
          (pss_one (ps_expr (pe_bm PySem.F.plainAttrs_list PySem.F.slot_list_append PySem.F.type_list_append mt_append (pv 9) (pa_cons (pe_tup (pa_cons (pv 10) (pa_cons (pe_op op_add (pe_dget hu1 (pe_ix ix_tup (pe_ix ix_list (pv 0) (pe_op op_add (pv 3) (pv 8)) (fun _ _ => rfl)) pe_int (fun _ _ => rfl)) (pv 10) (fun _ _ => rfl)) (pe_op op_mul (pv 7) (pv 11))) pa_nil))) pa_nil))))))
      (pss_one (ps_ret (pv 9))))))), ?_⟩
    have row : ∀ j, j ≤ N → ∃ t p q, rs[j]? = some t ∧ (rs.map V.ref)[j]? = some (.ref t) ∧ H t = some (.tup [.ref p, .ref q]) ∧ LS B R (kinds B R) (G j) H p q := fun j hj => by
      obtain ⟨t, e1, e2⟩ := rows_at (l := rs) (n := j) (by omega)
      obtain ⟨p, q, h1, h2⟩ := hrs j t e1
      exact ⟨t, p, q, e1, e2, h1, h2⟩
    have getg : ∀ {H' : Hp} {j : Nat} {p q : Addr} {k : Str}, Same H H' → LS B R (kinds B R) (G j) H p q → k ∈ kinds B R → DGet H' q (.str k) (some (.int (G j k : Nat))) := fun {H' j p q k} s L hk => by
      have e := DGet.k (k := .inr k) (s _ _ L.go)
      rw [gd_in hk] at e
      exact e
    have hdiv : (((m : Nat) : Int) - ((l : Nat) : Int)) / (((n : Nat) : Int) - ((l : Nat) : Int)) = (((m - l) / (n - l) : Nat) : Int) := by
      rw [show ((m : Nat) : Int) - ((l : Nat) : Int) = ((m - l : Nat) : Int) by omega, show ((n : Nat) : Int) - ((l : Nat) : Int) = ((n - l : Nat) : Int) by omega, Int.natCast_ediv]
    have hmod : (((m : Nat) : Int) - ((l : Nat) : Int)) % (((n : Nat) : Int) - ((l : Nat) : Int)) = (((m - l) % (n - l) : Nat) : Int) := by
      rw [show ((m : Nat) : Int) - ((l : Nat) : Int) = ((m - l : Nat) : Int) by omega, show ((n : Nat) : Int) - ((l : Nat) : Int) = ((n - l : Nat) : Int) by omega, Int.natCast_emod]
    refine ⟨_, rfl, ft, _, rfl, SqT.of hft, rfl, _, _, rfl, _, _, rfl, _, _, rfl, rfl, ?_⟩
    refine ⟨_, rfl, _, rfl, _, _, rfl, rfl, ?_⟩
    refine ⟨_, rfl, _, rfl, _, _, rfl, rfl, _, rfl, _, _, rfl, rfl, ⟨by omega, by omega⟩, ?_⟩
    refine ⟨_, rfl, _, rfl, _, _, rfl, rfl, _, rfl, _, _, rfl, rfl, (by omega : (0 : Int) < _), .int (((m - l) / (n - l) : Nat) : Int), .int (((m - l) % (n - l) : Nat) : Int), by rw [← hdiv, ← hmod], ?_⟩
    have zt : (m - l) / (n - l) ≤ 2 ^ 62 := Nat.le_trans (Nat.div_le_self _ _) (by omega)
    have zr' : (m - l) % (n - l) < n - l := Nat.mod_lt _ (by omega)
    have ecount : ∀ k, KM.counted G (l, n) m k = ((G (l + (m - l) % (n - l)) k : Nat) : Int) + (((m - l) / (n - l) : Nat) : Int) * (((G n k : Nat) : Int) - ((G l k : Nat) : Int)) := fun k => rfl
    generalize (m - l) / (n - l) = times at zt ecount ⊢
    generalize (m - l) % (n - l) = rest at zr' ecount ⊢
    refine ⟨by show 0 ≤ sizeLine; decide, fun du hdu => ?_⟩
    have s1 := Same.new (o := .lst []) hdu
    have hdu1 : upd H du (.lst []) du = some (.lst ([] : List V)) := upd_same
    generalize upd H du (.lst []) = H1 at s1 hdu1 ⊢
    obtain ⟨t0, p0, q0, e0, f0, ht0, L0⟩ := row 0 (by omega)
    obtain ⟨tl, pl, ql, el, fl, htl, Ll⟩ := row l (by omega)
    obtain ⟨tn, pn, qn, en, fn', htn, Ln⟩ := row n (by omega)
    obtain ⟨tr, pr, qr, er, fr', htr, Lr⟩ := row (l + rest) (by omega)
    refine ⟨_, rfl, ra, _, 0, .ref t0, rfl, rfl, SqL.of (s1 _ _ hra), at_ofA (j := 0) rfl f0, t0, _, 1, .ref q0, rfl, rfl, SqT.of (s1 _ _ ht0), at_ofA (j := 1) rfl rfl, q0, _, kinds B R, rfl, .inl (s1 _ _ L0.go), by rw [List.map_map]; rfl, zk, fun ys p hperm hsort hp => ?_⟩
    have eys : ys = kinds B R := srt_uniq hperm (sorted_pw hsort) (kset_pw _)
    rw [eys]
    have s2 := Same.new (o := .lst ((kinds B R).map V.str)) hp
    have hdu2 := s2 _ _ hdu1
    have hp2 : upd H1 p (.lst ((kinds B R).map V.str)) p = some (.lst ((kinds B R).map V.str)) := upd_same
    have ndp := ne_of_none hdu1 hp
    have sH := s1.trans s2
    generalize upd H1 p (.lst ((kinds B R).map V.str)) = H2 at s2 hdu2 hp2 sH ⊢
    refine ⟨p, rfl, ⟨_, SqL.of hp2⟩, ?_⟩
    refine for_list (K := K) (a := p) (xs := (kinds B R).map V.str) (fun i σ H' => (∃ v10 v11 : Option V, σ = [some (.ref ra), some (.ref ft), some (.int (m : Nat)), some (.int (l : Nat)), some (.int (n : Nat)), some (.ref bo), some (.int ((n : Nat) - (l : Nat))), some (.int (times : Nat)), some (.int (rest : Nat)), some (.ref du), v10, v11]) ∧
        Same H H' ∧ H' p = some (.lst ((kinds B R).map V.str)) ∧ ∃ ls : List Addr, H' du = some (.lst (ls.map V.ref)) ∧ Paired (fun t k => H' t = some (.tup [.str k, .int (KM.counted G (l, n) m k)])) ls ((kinds B R).take i))
      ⟨⟨_, _, rfl⟩, sH, hp2, [], hdu2, .nil⟩ (fun i σ H' _ h => SqL.of h.2.2.1) ?_ ?_
    · rintro i x σ H' hx ⟨⟨v10, v11, rfl⟩, s', hp', ls, hls, hpp⟩
      obtain ⟨z, rfl, hz, hm⟩ := map_str_get hx
      have hfr : H du = none := hdu
      refine ⟨_, rfl, _, rfl, ra, _, _, .ref tn, rfl, rfl, SqL.of (s' _ _ hra), at_ofA (j := n) rfl fn', tn, _, 1, .ref qn, rfl, rfl, SqT.of (s' _ _ htn), at_ofA (j := 1) rfl rfl, _, rfl, qn, _, rfl, getg s' Ln hm, ?_⟩
      refine ⟨_, rfl, _, rfl, ra, _, _, .ref tl, rfl, rfl, SqL.of (s' _ _ hra), at_ofA (j := l) rfl fl, tl, _, 1, .ref ql, rfl, rfl, SqT.of (s' _ _ htl), at_ofA (j := 1) rfl rfl, _, rfl, ql, _, rfl, getg s' Ll hm, _, _, rfl, rfl, ?_⟩
      refine ⟨_, rfl, .inl ⟨rfl, _, SqL.of hls⟩, _, rfl, ?_⟩
      refine ⟨_, rfl, _, rfl, _, rfl, _, _, rfl, rfl, ra, _, _, .ref tr, rfl, rfl, SqL.of (s' _ _ hra), at_ofA (j := l + rest) (by omega) fr', tr, _, 1, .ref qr, rfl, rfl, SqT.of (s' _ _ htr), at_ofA (j := 1) rfl rfl, _, rfl, qr, _, rfl, getg s' Lr hm, ?_⟩
      refine ⟨_, rfl, _, rfl, _, _, rfl, rfl, .inl ⟨by omega, by omega⟩, _, _, rfl, rfl, by show 2 ≤ sizeLine; decide, fun t ht => ?_⟩
      have ndt := ne_of_none hls ht
      refine ⟨du, _, _, rfl, rfl, (Same.new ht) _ _ hls, ?_, ?_⟩
      · rw [List.length_map, hpp.length, List.length_take]
        exact Nat.lt_of_le_of_lt (show min i (kinds B R).length ≤ 64 by omega) (by decide)
      · refine ⟨⟨_, _, rfl⟩, Same.mut (s'.trans (Same.new ht)) hfr, ?_, ls ++ [t], ?_, ?_⟩
        · rw [upd_ne (Ne.symm ndp), upd_ne (ne_of_none hp' ht)]; exact hp'
        · rw [upd_same, List.map_append]; rfl
        · rw [List.take_add_one, hz]
          refine pair_snoc (pair_imp hpp fun q x _ e => ?_) ?_
          · rw [upd_ne (ne_of e hls (fun z => nomatch z)), upd_ne (ne_of_none e ht)]; exact e
          · rw [upd_ne (Ne.symm ndt), upd_same, ecount]
    · rintro σ H' ⟨⟨v10, v11, rfl⟩, s', hp', ls, hls, hpp⟩
      rw [List.length_map, List.take_length] at hpp
      refine ⟨_, rfl, qq du H' s' (.lst (SqL.of hls) ?_)⟩
      have : ∀ {l1 : List Addr} {m1 : List Str}, Paired (fun t k => H' t = some (.tup [.str k, .int (KM.counted G (l, n) m k)])) l1 m1 → DpAll K H' (l1.map V.ref) (m1.map fun k => eK (k, KM.counted G (l, n) m k)) := by
        intro l1 m1 h
        induction h with
        | nil => exact .nil
        | cons h1 _ ih => exact .cons (.tup (SqT.of h1) (.cons (.str _) (.cons (.int _) .nil))) ih
      exact this hpp
end
end Ku

/-! KuP1 -/
set_option Elab.async false
set_option linter.all false
set_option maxRecDepth 100000
set_option maxHeartbeats 8000000
namespace Ku
open PySem PySem.Spec PyProof.Rows L2 KuS KuD
/-- a comprehension over a text -/
theorem lc_strB {z : Str} {i : Nat} {te : TE} {vs : List Nat} {σ : L2.St} {H1 : Hp} {D : Addr} {Qd : Hp → Prop} (v : V) (hn : z.cps.size ≤ 1000) (hD : H1 D = none)
    (hw : ∀ x, wipe ((wipe σ vs).set i (some x)) vs = wipe σ vs)
    (hs : ∀ (c : Nat) (H : Hp) (Q : VK), c ∈ z.cps.toList → Same H1 H → Q v H → te ((wipe σ vs).set i (some (.str ⟨#[c]⟩))) H Q)
    (hd : Qd (upd H1 D (.lst (List.replicate z.cps.size v)))) :
    ∃ W : Nat → Nat → Hp → Prop, (∃ m, W 0 m (upd H1 D (.lst []))) ∧ ∀ j m H, W j m H →
      ((Its z).stop j H ∧ Qd H) ∨ ((Its z).go j H ∧ ∃ Nx : Hp → Prop, (∀ H', Nx H' → ∃ m', m' < m ∧ W (j + 1) m' H') ∧ ∀ x H', (Its z).yld j H x H' → gName i x (wipe σ vs) H' fun σ2 H2 => wipe σ2 vs = wipe σ vs ∧ tYes σ2 H2 fun b H3 =>
        if b = true then te σ2 H3 fun y H4 => ∃ acc, H4 D = some (.lst acc) ∧ acc.length < sizeLine ∧ Nx (upd H4 D (.lst (acc ++ [y]))) else Nx H3) := by
  refine lc_it walk_str (fun j H => H = upd H1 D (.lst (List.replicate j v))) rfl (fun _ _ _ _ => trivial) ?_ ?_
  · rintro j x H H' hj rfl ⟨rfl, c, hc, rfl⟩
    refine ⟨hw _, ?_⟩
    show te _ _ _
    refine hs c _ _ ?_ (Same.new hD) ⟨_, upd_same, ?_, ?_⟩
    · rw [← Array.getElem?_toList] at hc
      exact List.mem_of_getElem? hc
    · rw [List.length_replicate]
      exact Nat.lt_of_lt_of_le (show j < 1000 by omega) (by decide)
    · rw [upd_upd, List.replicate_succ']
  · rintro H rfl
    exact hd
section
variable {P : Program} {w : World} {K : PySem.W.Frag} {mg : Str → Option Value} {base : Heap}
/-! ### is_kind, are_kinds -/
def spIsKind : Sp := fun vs H Q _ => ∃ k : Str, vs = [.str k] ∧ Kd k ∧ ∀ H', Same H H' → Q (.bl true) H'
theorem sc_is_kind : FnScope ["thing", "letter"] ["thing"] (defScope s_is_kind) := fnScope_dec (by decide +kernel)
theorem letter_in {c : Nat} (h1 : 97 ≤ c) (h2 : c ≤ 122) : c ∈ (Str.ofString "abcdefghijklmnopqrstuvwxyz").cps.toList := by
  have : ∀ i : Fin 26, (97 + i.val) ∈ (Str.ofString "abcdefghijklmnopqrstuvwxyz").cps.toList := by decide +kernel
  have := this ⟨c - 97, by omega⟩
  rw [show 97 + (c - 97) = c by omega] at this
  exact this
theorem cal_is_kind (Z : Say K mg) : Cal P w K mg base 1 "is_kind" spIsKind := by
  obtain ⟨fd, F⟩ := Z.D_is_kind
  obtain ⟨tk, hml⟩ := Z.i_MOST_LETTERS
  refine ⟨_, fd, ["thing"], fn_ok F sc_is_kind (fun vs H Q E h => ?_) (fun cdv A outer s H vs Q E hr h => ?_), Z.g_is_kind, F.kp, F.bindsN fun _ _ _ _ _ _ us hl => match us, hl with | [_], _ => rfl⟩
  · obtain ⟨k, rfl, _⟩ := h
    rfl
  · obtain ⟨k, rfl, hk, q⟩ := h
    have nd := sc_is_kind.nd
    refine ⟨_, pss_cons (ps_if (PW.pt (pw_or (pt_not (pt_val (pe_callB RZ.call_isTy rfl Z.f_isinstance boot_isinstance (pa_cons (pv 0) (pa_cons (pe_bltn (v := .ty "str") rfl Z.f_str PyProof.Rows.boot_str rfl) pa_nil)))))
        (pw_or1 (pt_not (pt_chain op_le op_le pe_int (pe_callB call_len_str rfl Z.f_len boot_len (pa_cons (pv 0) pa_nil)) (pe_glob (v := .int 8) rfl hml ⟨_, rfl⟩)))))) (pss_one (ps_ret pe_bl)) pss_nil)
      (pss_one (ps_ret (pe_callB (cr_all rfl) rfl Z.f_all boot_all (pa_cons (pe_lc (own := [("letter", 1)]) (g := gName 1) (tt := tYes) rfl nd (pi_str (pv 0)) (blkOk_by (N := ["thing", "letter"]) (sc := defScope s_is_kind) (by decide +kernel)) (fun _ _ _ _ _ => pg_name (i := 1) nd rfl (Or.inl rfl)) (fun _ _ _ _ _ => pts_nil)
          (fun _ _ _ _ _ => pe_cmpR op_in_sign (pv 1) pe_str (by rfl))) pa_nil)))), ?_⟩
    have z1 : ((1 : Int) ≤ (k.length : Nat)) := by have := hk.1; omega
    have z8 : ((k.length : Nat) : Int) ≤ 8 := by have := hk.2.1; omega
    refine ⟨_, rfl, .str k, "str", rfl, .str k, true, rfl, ?_⟩
    refine iteF ?_
    refine ⟨_, rfl, k, rfl, Nat.le_trans hk.2.1 (by decide), _, _, rfl, rfl, true, congrArg V.bl (decide_eq_true z1), iteT ⟨_, _, rfl, rfl, _, congrArg V.bl (decide_eq_true z8), iteF ?_⟩⟩
    refine ⟨_, rfl, k, rfl, fun D hD => ?_⟩
    refine lc_strB (z := k) (.bl true) (Nat.le_trans (show k.cps.size ≤ 8 from hk.2.1) (by decide)) hD (fun _ => rfl) ?_ ?_
    · intro c H' Q' hc s' q'
      refine ⟨_, rfl, c, _, rfl, rfl, ?_⟩
      have h := hk.2.2 c hc
      rw [decide_eq_true (letter_in h.1 h.2)]
      exact q'
    · refine ⟨D, List.replicate k.cps.size true, rfl, SqL.of ?_, ?_⟩
      · rw [upd_same, List.map_replicate]
      · have e : (List.replicate k.cps.size true).all id = true := by
          rw [List.all_eq_true]
          intro x hx
          rw [(List.mem_replicate.mp hx).2]
          rfl
        rw [e]
        exact q _ (Same.new hD)
def spAreKinds : Sp := fun vs H Q _ => ∃ (a : Addr) (l : List Str) (m : Nat), vs = [.ref a, .int (m : Nat)] ∧ H a = some (.lst (l.map V.str)) ∧ (∀ k ∈ l, Kd k) ∧ l.length ≤ m ∧ m ≤ 1000 ∧ ∀ H', Same H H' → Q (.bl true) H'
theorem sc_are_kinds : FnScope ["thing", "most", "kind"] ["thing", "most"] (defScope s_are_kinds) := fnScope_dec (by decide +kernel)
theorem cal_are_kinds (Z : Say K mg) : Cal P w K mg base 2 "are_kinds" spAreKinds := by
  obtain ⟨fd, F⟩ := Z.D_are_kinds
  have cK : Cal P w K mg base 1 "is_kind" spIsKind := cal_is_kind Z
  refine ⟨_, fd, ["thing", "most"], fn_ok F sc_are_kinds (fun vs H Q E h => ?_) (fun cdv A outer s H vs Q E hr h => ?_), Z.g_are_kinds, F.kp, F.bindsN fun _ _ _ _ _ _ us hl => match us, hl with | [_, _], _ => rfl⟩
  · obtain ⟨a, l, m, rfl, _⟩ := h
    rfl
  · obtain ⟨a, l, m, rfl, ha, hk, hlm, zm, q⟩ := h
    have nd := sc_are_kinds.nd
    refine ⟨_, pss_one (ps_ret (pe_and (pe_callB RZ.call_isTy rfl Z.f_isinstance boot_isinstance (pa_cons (pv 0) (pa_cons (pe_bltn (v := .ty "list") rfl Z.f_list PyProof.Rows.boot_list rfl) pa_nil)))
        (pe_and (pe_cmpR op_le (pe_callB call_len_seq rfl Z.f_len boot_len (pa_cons (pv 0) pa_nil)) (pv 1) (nomark _))
        (pe_one (pe_callB (cr_all rfl) rfl Z.f_all boot_all (pa_cons (pe_lc (own := [("kind", 2)]) (g := gName 2) (tt := tYes) rfl nd (pi_list (pv 0)) (blkOk_by (N := ["thing", "most", "kind"]) (sc := defScope s_are_kinds) (by decide +kernel)) (fun _ _ _ _ _ => pg_name (i := 2) nd rfl (Or.inl rfl)) (fun _ _ _ _ _ => pts_nil)
          (fun _ _ _ _ _ => pe_c cK hr (by decide) rfl (pa_cons (pv 2) pa_nil))) pa_nil)))))), ?_⟩
    have zl : (((l.map V.str).length : Nat) : Int) ≤ ((m : Nat) : Int) := by rw [List.length_map]; omega
    refine ⟨_, rfl, .ref a, "list", rfl, .lst ha, true, rfl, iteT ?_⟩
    refine ⟨_, rfl, a, _, rfl, .inl (SqL.of ha), _, rfl, _, _, rfl, rfl, true, congrArg V.bl (decide_eq_true zl), iteT ?_⟩
    refine ⟨_, rfl, a, rfl, ⟨_, SqL.of ha⟩, fun D hD => ?_⟩
    refine lc_list (K := K) (a := a) (xs := l.map V.str) (fun i H' => Same H H' ∧ H' D = some (.lst (List.replicate i (V.bl true)))) ⟨Same.new hD, upd_same⟩ (fun i H' _ h => SqL.of (h.1 _ _ ha)) ?_ ?_
    · rintro i x H' hx ⟨s', hd⟩
      obtain ⟨z, rfl, hz, hm⟩ := map_str_get hx
      have hi := (List.getElem?_eq_some_iff.mp hz).1
      refine ⟨rfl, _, rfl, z, rfl, hk z hm, fun H'' s'' => ⟨_, s'' _ _ hd, ?_, Same.mut (s'.trans s'') hD, ?_⟩⟩
      · rw [List.length_replicate]
        exact Nat.lt_of_lt_of_le (show i < 1000 by omega) (by decide)
      · rw [upd_same, List.replicate_succ']
    · rintro H' ⟨s', hd⟩
      refine ⟨D, List.replicate (l.map V.str).length true, rfl, SqL.of ?_, ?_⟩
      · rw [hd, List.map_replicate]
      · have e : (List.replicate (l.map V.str).length true).all id = true := by
          rw [List.all_eq_true]
          intro x hx
          rw [(List.mem_replicate.mp hx).2]
          rfl
        rw [e]
        exact q _ s'
end
end Ku

/-! KuEn -/
set_option Elab.async false
set_option linter.all false
set_option maxRecDepth 100000
set_option maxHeartbeats 4000000
/-! for i, x in enumerate(reversed(xs)). -/
namespace KuEn
open PySem PySem.Spec PyProof.Rows L2
section
variable {prog : Program} {w : World} {A : Around} {E : Value → Shared → Prop} {s : Shared}
theorem next_rev {it l : Addr} {i : Nat} {items : Array Value} {x : Value} {Q : Value → Shared → Prop} (hit : s.heap.IsRevIter it l (i : Int)) (hl : s.heap.IsList l items) (hx : items[i]? = some x)
    (hQ : ∀ h', h'.IsRevIter it l ((i : Int) - 1) → Heap.SameBut it s.heap h' → Q x { s with heap := h' }) : wpAny (model prog w) A (Builtin.SmallTypes.nextOf (.ref it)) Q E s := by
  obtain ⟨o, ho, hc, hd⟩ := id hit
  obtain ⟨ol, hol, _, nl, hdl⟩ := hl
  unfold Builtin.SmallTypes.nextOf
  refine wpAny_bind (wpAny_callSpecial?_slot (name := Str.ofString "__next__") hit.typeIs F.slot_lri_next (wpAny_call_entry F.slot_lri_next hit.typeIs F.entry_lri_next ?_ (F.args_lri_next_1 _)))
  unfold Builtin.«list_reverseiterator.__next__»
  refine wpAny_bind (wpAny_of_eq (a := (Value.ref it, [])) rfl ?_)
  try dsimp only
  refine wpAny_bind (wpAny_field ho hd (x := rawInt (i : Int)) rfl ?_)
  show wpAny _ _ (if (i : Int) < 0 then _ else _) _ _ s
  rw [if_neg (by omega)]
  show wpAny _ _ (field (.ref it) 0 >>= _) _ _ s
  refine wpAny_bind (wpAny_field ho hd (x := .ref l) rfl ?_)
  show wpAny _ _ (seqItems? (.ref l) >>= _) _ _ s
  refine wpAny_bind (wpAny_seqItems hol hdl ?_)
  simp only [Int.toNat_natCast, hx]
  refine wpAny_bind (wpAny_setField ho hd (by simp) ?_)
  have fin : (s.heap.update it (Obj.mapFields fun fs => fs.setIfInBounds 1 (rawInt ((i : Int) - 1)))).IsRevIter it l ((i : Int) - 1) :=
    ⟨_, Heap.get?_update_self _ ho (Obj.isFreed_of_fields (Obj.data_mapFields hd _)), (Obj.cls_mapFields ..).trans hc, by rw [Obj.data_mapFields hd]; simp⟩
  first
  | exact wpAny_pure ⟨x, rfl, wpAny_pure (hQ _ fin (Heap.SameBut.update ..))⟩
  | exact wpAny_bind (wpAny_pure (wpAny_pure ⟨x, rfl, wpAny_pure (hQ _ fin (Heap.SameBut.update ..))⟩))
theorem next_rev_end {it l : Addr} {Q : Value → Shared → Prop} (hh : A.handled = none) (hit : s.heap.IsRevIter it l (-1))
    (hE : ∀ h' e, Heap.ExtBut it s.heap h' → (∃ o, h'.get? e = some o ∧ o.cls = .type "StopIteration") → E (.ref e) { s with heap := h' }) : wpAny (model prog w) A (Builtin.SmallTypes.nextOf (.ref it)) Q E s := by
  obtain ⟨o, ho, hc, hd⟩ := id hit
  unfold Builtin.SmallTypes.nextOf
  refine wpAny_bind (wpAny_callSpecial?_slot (name := Str.ofString "__next__") hit.typeIs F.slot_lri_next (wpAny_call_entry F.slot_lri_next hit.typeIs F.entry_lri_next ?_ (F.args_lri_next_1 _)))
  unfold Builtin.«list_reverseiterator.__next__»
  refine wpAny_bind (wpAny_of_eq (a := (Value.ref it, [])) rfl ?_)
  try dsimp only
  refine wpAny_bind (wpAny_field ho hd (x := rawInt (-1)) rfl ?_)
  show wpAny _ _ (if (-1 : Int) < 0 then _ else _) _ _ s
  rw [if_pos (by decide)]
  refine wpAny_bind (wpAny_rule ?_)
  first
  | show wpAny _ _ (newExc (.type "StopIteration") [] >>= _) _ _ _
  | (refine wpAny_bind ?_; show wpAny _ _ (newExc (.type "StopIteration") [] >>= _) _ _ _)
  refine wpAny_bind ?_
  simp only [newExc, newTuple]
  refine wpAny_bind (wpAny_newObj_type ?_ (by size_fits))
  refine wpAny_bind (m := firstArgMember _ _) (wpAny_of_eq (a := Value.none) (by first | rfl | (simp only [firstArgMember]; rfl)) ?_)
  refine wpAny_newObj_type ?_ (by size_fits)
  simp only [raiseNew]
  refine wpAny_bind (wpAny_handled ?_)
  first | rw [show A.in1.handled = none from hh] | rw [hh]
  refine wpAny_bind (wpAny_pure (wpAny_throw ?_))
  exact hE _ _ (((Heap.ExtBut.refl _ _).push _).push _) ⟨_, Heap.get?_push_size _ rfl, rfl⟩
end
theorem draws_rev {prog : Program} {w : World} {A : Around} (hh : A.handled = none) (it l : Addr) (hne : l ≠ it) (items : Array Value) :
    Draws prog w A it [it, l] items.size (fun i v => items[items.size - 1 - i]? = some v) (fun i h => i ≤ items.size ∧ h.IsRevIter it l ((items.size : Int) - 1 - (i : Int)) ∧ h.IsList l items) where
  live := fun _ _ st => let ⟨o, ho, _⟩ := st.2.1; ⟨o, ho⟩
  frame := fun _ _ _ st hk => ⟨st.1, st.2.1.at fun o e => hk it (by simp) o e, st.2.2.at fun o e => hk l (by simp) o e⟩
  item := fun i s Q E hi st hQ => by
    obtain ⟨h1, h2, h3⟩ := st
    rw [show (items.size : Int) - 1 - (i : Int) = ((items.size - 1 - i : Nat) : Int) by omega] at h2
    refine next_rev h2 h3 (x := items[items.size - 1 - i]) (by simp [show items.size - 1 - i < items.size by omega]) fun h' hit' hs' => ?_
    refine hQ _ h' s.toks (by simp [show items.size - 1 - i < items.size by omega]) ⟨hi, ?_, h3.extBut hs'.extBut hne⟩ hs'
    rw [show (items.size : Int) - 1 - ((i + 1 : Nat) : Int) = ((items.size - 1 - i : Nat) : Int) - 1 by omega]
    exact hit'
  done := fun s Q E st hE => by
    obtain ⟨h1, h2, h3⟩ := st
    rw [show (items.size : Int) - 1 - (items.size : Int) = -1 by omega] at h2
    exact next_rev_end hh h2 hE
set_option maxHeartbeats 4000000 in
theorem meets_enum_rev (it l : Addr) (i : Int) :
    Meets (Builtin.«enumerate.__new__» ⟨[.type "enumerate", .ref it], []⟩) (fun _ R s => s.heap.IsRevIter it l i ∧
      R (.ok (.ret (.ref s.heap.objs.size))) { s with heap := s.heap.push { cls := .type "enumerate", data := .fields #[.none, .bool false, .ref it, rawInt 0, .none, .none] } }) :=
  .of_wp fun prog w A R s h => by
    obtain ⟨hp, g, d, tk, os⟩ := s
    obtain ⟨hit, h⟩ := h
    have hsub := sub_enumerate
    have q1 : ∀ {A' : Around} {E : Value → Shared → Prop} {Q : Value → Shared → Prop}, Q (.ref it) ⟨hp, g, d, tk, os⟩ → wpAny (model prog w) A' (pyIter (.ref it)) Q E ⟨hp, g, d, tk, os⟩ :=
      fun q => wpAny_pyIter_revIter (s := ⟨hp, g, d, tk, os⟩) hit q
    wp_walk using q1
    refine wpAny_stack_any fun st => wpAny_pure ?_
    split
    · rename_i c _ _ _ _ _
      cases (c == Value.type "enumerate")
      · wp_walk using q1
        exact ⟨_, rfl, h⟩
      · wp_walk using q1
        exact ⟨_, rfl, h⟩
    · wp_walk using q1
      exact ⟨_, rfl, h⟩
section
variable {prog : Program} {w : World} {A : Around} {E : Value → Shared → Prop} {s : Shared}
theorem call_enum_rev {it l : Addr} {i : Int} {Q : Value → Shared → Prop} (hit : s.heap.IsRevIter it l i)
    (h : ∀ h', IsEnum h' s.heap.objs.size it 0 .none → (∀ b o, s.heap.get? b = some o → h'.get? b = some o) → Q (.ref s.heap.objs.size) { s with heap := h' }) :
    wpAny (model prog w) A (call (.type "enumerate") [.ref it]) Q E s := by
  refine callType_new F.called_enumerate (by decide) (F.typeCall_enumerate_1 _) (F.newCall_enumerate_1 _) (fun obj => F.args_object_init_2 obj _) F.entry_enumerate_new (meets_enum_rev it l i) ⟨hit, ?_⟩
  have he : IsEnum (s.heap.push { cls := .type "enumerate", data := .fields #[.none, .bool false, .ref it, rawInt 0, .none, .none] }) s.heap.objs.size it 0 .none := Heap.get?_push_size _ rfl
  exact ⟨⟨_, he, rfl⟩, h _ he fun b o x => Heap.get?_push_of_some _ x⟩
end
/-- the list at a from its end, each item with its number -/
def Itq (K : PySem.W.Frag) (a : Addr) (n : Nat) : It :=
  ⟨fun i H => i < n ∧ ∃ xs : List V, SqL K H a xs ∧ xs.length = n, fun i H v H' => ∃ T x, v = .ref T ∧ H T = none ∧ H' = upd H T (.tup [.int (i : Nat), x]) ∧ ∀ xs, SqL K H a xs → xs[n - 1 - i]? = some x, fun i H => n ≤ i ∧ ∃ xs : List V, SqL K H a xs ∧ xs.length = n⟩
theorem turn_enrev {P : Program} {w : World} {K : PySem.W.Frag} {elts : List Expr} {kk : Nat} {tpos : Pos} (a e it : Addr) (n : Nat) :
    Turn P w K (.Tuple elts kk tpos) (Itq K a n) [e, it] e (fun i h => (∃ old, IsEnum h e it ((i : Nat) : Int) old) ∧ i ≤ n ∧ h.IsRevIter it a ((n : Int) - 1 - (i : Int)) ∧ e ≠ it) where
  mem := by simp
  obj := fun i h st b hb => by
    obtain ⟨⟨old, he⟩, _, ⟨o, ho, hc, hd⟩, _⟩ := st
    rcases (by simpa using hb : b = e ∨ b = it) with z | z
    · rw [z]; exact ⟨_, he, fun v q => nomatch q⟩
    · rw [z]; exact ⟨o, ho, fun v q => by rw [hd] at q; cases q⟩
  keep := fun i h h' st k => let ⟨⟨old, he⟩, hi, hr, hne⟩ := st; ⟨⟨old, k e (by simp) _ he⟩, hi, hr.at fun o q => k it (by simp) o q, hne⟩
  item := by
    intro X hP hw hK hc i pins s σ H E I hf st hg
    subst hP hw hK
    obtain ⟨⟨old, he⟩, hin, hit, hne⟩ := st
    obtain ⟨hlt, xs, hq, hl⟩ := hg
    obtain ⟨its, rv, p, hz⟩ := I.list hq
    have hlen := rv.length
    have hel : e < s.heap.objs.size := Heap.lt_size he
    have hil : it < s.heap.objs.size := by obtain ⟨_, q, _⟩ := hit; exact Heap.lt_size q
    have hai : a ≠ it := fun z => by
      obtain ⟨o1, g1, c1, _⟩ := hit
      obtain ⟨o2, g2, c2, _⟩ := p.isList
      rw [z, g1] at g2
      cases g2
      rw [c1] at c2
      injection c2 with c2
      exact absurd c2 (by decide)
    have hea : e ≠ a := fun z => by
      obtain ⟨o2, g2, c2, _⟩ := p.isList
      rw [← z, he] at g2
      cases g2
      injection c2 with c2
      exact absurd c2 (by decide)
    have hsz : its.toArray.size = n := by rw [List.size_toArray]; omega
    have D := draws_rev (prog := X.prog) (w := X.w) (A := X.A.in1) (I.ok.hd hc) it a hai its.toArray
    refine wpAny_pyNext_enum_itemC D he (i := i) ⟨by omega, by rw [hsz]; exact hit, p.isList⟩ (by omega) hne (by simp [hne, hea]) fun u h' tk hu ho hst hT hsz' hk => ?_
    rw [hsz] at hu hst
    obtain ⟨_, hit', _⟩ := hst
    refine ⟨_, rfl, wpAny_letOwnedTupleGo_enum (s := { s with heap := h', toks := tk + 1 }) ho fun h'' he' sb => ?_⟩
    have hT2 : h''.get? s.heap.objs.size = some { cls := .type "tuple", data := .seq #[.int i tk, u] } := (sb.2 _ (Nat.ne_of_gt hel)).trans hT
    obtain ⟨x, hx, ru⟩ : ∃ x, xs[n - 1 - i]? = some x ∧ RelV x u := by
      have h1 : n - 1 - i < xs.length := by omega
      obtain ⟨u', e1, e2⟩ := rv.get (List.getElem?_eq_getElem h1)
      have h2 : its[n - 1 - i]? = some u := by simpa using hu
      rw [e1] at h2
      cases h2
      exact ⟨_, List.getElem?_eq_getElem h1, e2⟩
    have new : ObjOk X.prog X.w (upd H s.heap.objs.size (.tup [.int (i : Nat), x])) h'' s.heap.objs.size (.tup [.int (i : Nat), x]) :=
      ⟨by show 2 ≤ sizeLine; decide, [.int i tk, u], .cons ⟨_, rfl⟩ (.cons ru .nil), ⟨_, hT2, rfl, _, rfl⟩⟩
    have I1 : Inv X pins σ (upd H s.heap.objs.size (.tup [.int (i : Nat), x])) { s with heap := h'', toks := tk + 1 } :=
      I.turnedNew (ch := [e, it]) (fun b ob hb q => (sb.2 b (fun z => hb (by simp [z]))).trans (hk b ob (fun z => hb (by simp [z])) (fun z => hb (by simp [z])) q)) hf (Nat.le_refl _) new
    refine ⟨.ref s.heap.objs.size, _, I1, rfl, ⟨_, x, rfl, I.hok.fresh (Nat.le_refl _), rfl, fun ys hy => by rw [I.list_inj hy hq]; exact hx⟩, ⟨⟨u, ?_⟩, hlt, hit'.at fun o q => (sb.2 it (Ne.symm hne)).trans q, hne⟩, fun b hb => ?_⟩
    · rw [show ((i + 1 : Nat) : Int) = (i : Int) + 1 by omega]
      exact he'
    · have hb' : b < s.heap.objs.size := by
        rcases (by simpa using hb : b = e ∨ b = it) with z | z
        · rw [z]; exact hel
        · rw [z]; exact hil
      rw [upd_ne (Nat.ne_of_lt hb')]
      exact (hf b hb).1
  done := by
    intro X hP hw hK hc i pins s σ H E I hf st hg
    subst hP hw hK
    obtain ⟨⟨old, he⟩, hin, hit, hne⟩ := st
    obtain ⟨hge, xs, hq, hl⟩ := hg
    obtain ⟨its, rv, p, hz⟩ := I.list hq
    have hlen := rv.length
    have hi : i = n := by omega
    subst hi
    obtain ⟨f0, f1, f2, f3, f4, f5⟩ := hf it (by simp)
    have hai : a ≠ it := fun z => by
      obtain ⟨o1, g1, c1, _⟩ := hit
      obtain ⟨o2, g2, c2, _⟩ := p.isList
      rw [z, g1] at g2
      cases g2
      rw [c1] at c2
      injection c2 with c2
      exact absurd c2 (by decide)
    have hsz : its.toArray.size = i := by rw [List.size_toArray]; omega
    have D := draws_rev (prog := X.prog) (w := X.w) (A := X.A.in1) (I.ok.hd hc) it a hai its.toArray
    rw [hsz] at D
    exact wpAny_pyNext_enum_endD D he ⟨Nat.le_refl _, hit, p.isList⟩ fun h' eb => ⟨rfl, I.turned (t' := s.toks) (fun b o hb q => eb b o hb q) f0 f1 f3 f4 f5⟩
  self := fun A i s Q E st h => let ⟨⟨_, he⟩, _⟩ := st; wpAny_pyIter_enum he h
def iEnRev (K : PySem.W.Frag) (te : TE) : TI := fun σ H R => te σ H fun v H1 => ∃ a xs, v = .ref a ∧ SqL K H1 a xs ∧ R (Itq K a xs.length) H1
theorem pi_enrev {X : Cx} {e : Expr} {te : TE} {p p2 pos q tpos : Pos} {elts : List Expr} {kk : Nat} (hg : Gl X "enumerate") (hm : X.mg "enumerate" = none) (hg2 : Gl X "reversed") (hm2 : X.mg "reversed" = none) (he : PE X e te)
    (hs1 : starEach [.Call (.Name "reversed" p2) [e] [] q] X.env = (false, eval (.Call (.Name "reversed" p2) [e] [] q) X.env) :: starEach [] X.env := by rfl) (hs2 : starEach [e] X.env = (false, eval e X.env) :: starEach [] X.env := by rfl) :
    PI X (.Tuple elts kk tpos) (.Call (.Name "enumerate" p) [.Call (.Name "reversed" p2) [e] [] q] [] pos) (iEnRev X.K te) := by
  refine ⟨fun pins s σ H R I h => ?_⟩
  refine Call_ (ld_blt I hg hm boot_enumerate ?_)
  refine PyProof.Rows.callWith_type1 (PyProof.Rows.args_cons ?_ hs1) hs1 rfl
  refine Call_ (ld_blt I hg2 hm2 PyProof.Rows.boot_reversed ?_)
  refine PyProof.Rows.callWith_type1 (PyProof.Rows.args_cons (thn (he.run pins s σ H _ I h) fun u s1 ⟨v, H1, I1, r1, q1⟩ => PyProof.Rows.args_nil ?_) hs2) hs2 rfl
  obtain ⟨a, xs, ev, hq, q⟩ := q1
  subst ev
  obtain rfl : u = Value.ref a := r1
  obtain ⟨its, rv, p', hz⟩ := I1.list hq
  have hl := rv.length
  refine call_reversed_list p'.isList (PyProof.Rows.args_nil ?_)
  have hrev : (s1.heap.push (revObj a ((its.toArray.size : Int) - 1))).IsRevIter s1.heap.objs.size a ((its.toArray.size : Int) - 1) := ⟨_, Heap.get?_push_size _ rfl, rfl, rfl⟩
  refine call_enum_rev (s := { s1 with heap := s1.heap.push (revObj a ((its.toArray.size : Int) - 1)) }) hrev fun h' he' hk => wpAny_pyIter_enum he' ?_
  have hz2 : (s1.heap.push (revObj a ((its.toArray.size : Int) - 1))).objs.size = s1.heap.objs.size + 1 := Heap.size_push ..
  have I2 : Inv X pins σ H1 { s1 with heap := h' } := I1.kept (t' := s1.toks) fun b o e => hk b o (Heap.get?_push_of_some _ e)
  have e1 : ((its.toArray.size : Nat) : Int) - 1 = (xs.length : Int) - 1 - ((0 : Nat) : Int) := by simp only [List.size_toArray]; omega
  refine ⟨(s1.heap.push (revObj a ((its.toArray.size : Int) - 1))).objs.size, [(s1.heap.push (revObj a ((its.toArray.size : Int) - 1))).objs.size, s1.heap.objs.size], _, _, H1, rfl, I2, turn_enrev a _ s1.heap.objs.size xs.length, ⟨⟨.none, he'⟩, Nat.zero_le _, ?_, ?_⟩, fun b hb => ?_, q⟩
  · rw [← e1]
    exact hrev.at fun o e => hk _ o e
  · rw [hz2]; exact Nat.succ_ne_self _
  · have hle : s1.heap.objs.size ≤ b := by
      rw [hz2] at hb
      rcases (by simpa using hb : b = s1.heap.objs.size + 1 ∨ b = s1.heap.objs.size) with z | z
      · rw [z]; exact Nat.le_add_right _ _
      · rw [z]; exact Nat.le_refl _
    exact I1.fpOk hle (I1.hok.fresh hle)
theorem walk_enrev {K : PySem.W.Frag} {a : Addr} {xs : List V} : Walk (Itq K a xs.length) xs.length (fun H => SqL K H a xs) (fun i H v H' => ∃ T x, v = .ref T ∧ H T = none ∧ H' = upd H T (.tup [.int (i : Nat), x]) ∧ xs[xs.length - 1 - i]? = some x) := by
  refine ⟨fun i _ hi q => ⟨hi, xs, q, rfl⟩, fun _ q => ⟨Nat.le_refl _, xs, q, rfl⟩, fun i H v H' _ q y => ?_⟩
  obtain ⟨T, x, h1, h2, h3, h4⟩ := y
  exact ⟨T, x, h1, h2, h3, h4 xs q⟩
end KuEn

/-! KuP2 -/
set_option Elab.async false
set_option linter.all false
set_option maxRecDepth 100000
set_option maxHeartbeats 8000000
namespace KM
theorem spotsFrom_snoc {K : Type} [DecidableEq K] (k z : K) : ∀ (l : List K) (n : Nat), spotsFrom k (l ++ [z]) n = spotsFrom k l n ++ if z = k then [n + l.length] else []
  | [], n => by
    show (if z = k then n :: spotsFrom k [] (n + 1) else spotsFrom k [] (n + 1)) = _
    by_cases h : z = k <;> simp [h, spotsFrom]
  | x :: r, n => by
    show (if x = k then n :: spotsFrom k (r ++ [z]) (n + 1) else spotsFrom k (r ++ [z]) (n + 1)) = (if x = k then n :: spotsFrom k r (n + 1) else spotsFrom k r (n + 1)) ++ _
    rw [spotsFrom_snoc k z r (n + 1), show n + 1 + r.length = n + (x :: r).length by simp; omega]
    by_cases h : x = k
    · rw [if_pos h, if_pos h]; rfl
    · rw [if_neg h, if_neg h]
end KM
namespace Ku
open PySem PySem.Spec PyProof.Rows L2 KuS KuD
/-- a dict of the spots of kinds -/
def SpD (kvs : List (Key × V)) (f : Str → List Nat) (H : Hp) : Prop := ∀ k, (f k = [] → valV kvs (.inr k) = none) ∧ (f k ≠ [] → ∃ a, valV kvs (.inr k) = some (.ref a) ∧ H a = some (.lst ((f k).map fun n => V.int (n : Nat))))
theorem SpD.mono {kvs : List (Key × V)} {f : Str → List Nat} {H H' : Hp} (h : SpD kvs f H) (s : Same H H') : SpD kvs f H' := fun k => ⟨(h k).1, fun e => by
  obtain ⟨a, h1, h2⟩ := (h k).2 e
  exact ⟨a, h1, s _ _ h2⟩⟩
theorem val_put {kvs : List (Key × V)} {k j : Key} {v : V} : valV (putK kvs k v) j = if j = k then some v else valV kvs j := by
  have base : ∀ kvs : List (Key × V), valV (kvs.map fun kv => if kv.1 = k then (kv.1, v) else kv) j = if j = k then (if (kvs.any fun kv => decide (kv.1 = k)) = true then some v else none) else valV kvs j := by
    intro kvs
    induction kvs with
    | nil => by_cases h : j = k <;> simp [valV, h]
    | cons p r ih =>
      by_cases hp : p.1 = k
      · have e1 : (if p.1 = k then (p.1, v) else p) = (p.1, v) := if_pos hp
        rw [List.map_cons, e1]
        by_cases h : j = k
        · rw [valV_pos (p := (p.1, v)) (by show p.1 = j; rw [hp, h]), if_pos h]
          simp [hp]
        · rw [valV_neg (p := (p.1, v)) (fun e => h (by rw [← hp]; exact e.symm)), ih, if_neg h, if_neg h, valV_neg (p := p) (fun e => h (by rw [← hp]; exact e.symm))]
      · have e1 : (if p.1 = k then (p.1, v) else p) = p := if_neg hp
        rw [List.map_cons, e1]
        by_cases h : j = k
        · rw [valV_neg (p := p) (fun e => hp (e.trans h)), ih, if_pos h, if_pos h, List.any_cons, decide_eq_false hp, Bool.false_or]
        · by_cases e : p.1 = j
          · rw [valV_pos e, if_neg h, valV_pos e]
          · rw [valV_neg e, ih, if_neg h, if_neg h, valV_neg e]
  unfold putK
  by_cases c : (kvs.any fun kv => decide (kv.1 = k)) = true
  · rw [if_pos c, base, if_pos c]
  · rw [if_neg c]
    have app : ∀ l : List (Key × V), (l.any fun kv => decide (kv.1 = k)) = false → valV (l ++ [(k, v)]) j = if j = k then some v else valV l j := by
      intro l
      induction l with
      | nil =>
        intro _
        by_cases h : j = k
        · rw [if_pos h, show ([] : List (Key × V)) ++ [(k, v)] = [(k, v)] from rfl, valV_pos (p := (k, v)) h.symm]
        · rw [if_neg h, show ([] : List (Key × V)) ++ [(k, v)] = [(k, v)] from rfl, valV_neg (p := (k, v)) (fun e => h e.symm)]
      | cons p r ih =>
        intro hl
        rw [List.any_cons, Bool.or_eq_false_iff] at hl
        have hp : ¬ p.1 = k := of_decide_eq_false hl.1
        rw [List.cons_append]
        by_cases e : p.1 = j
        · rw [valV_pos e, valV_pos e, if_neg fun h => hp (e.trans h)]
        · rw [valV_neg e, valV_neg e, ih hl.2]
    exact app kvs ((Bool.not_eq_true _).mp c)
section
variable {P : Program} {w : World} {K : PySem.W.Frag} {mg : Str → Option Value} {base : Heap}
/-! ### spots_of -/
def spSpotsOf : Sp := fun vs H Q _ => ∃ (a : Addr) (l : List Str), vs = [.ref a] ∧ H a = some (.lst (l.map V.str)) ∧ l.length ≤ 1000 ∧ ∀ (d : Addr) (kvs : List (Key × V)) (H' : Hp), Same H H' → H d = none → H' d = some (.dK kvs) → SpD kvs (fun k => KM.spots k l) H' → Q (.ref d) H'
abbrev nmSpotsOf : List Str := ["kinds", "found", "number", "kind"]
theorem sc_spots_of : FnScope nmSpotsOf ["kinds"] (defScope s_spots_of) := fnScope_dec (by decide +kernel)
theorem cal_spots_of (Z : Say K mg) : Cal P w K mg base 1 "spots_of" spSpotsOf := by
  obtain ⟨fd, F⟩ := Z.D_spots_of
  refine ⟨_, fd, ["kinds"], fn_ok F sc_spots_of (fun vs H Q E h => ?_) (fun cdv A outer s H vs Q E hr h => ?_), Z.g_spots_of, F.kp, F.bindsN fun _ _ _ _ _ _ us hl => match us, hl with | [_], _ => rfl⟩
  · obtain ⟨a, l, rfl, _⟩ := h
    rfl
  · obtain ⟨a, l, rfl, ha, zl, q⟩ := h
    have nd := sc_spots_of.nd
    refine ⟨_, pss_cons (ps_set (i := 1) nd rfl (Or.inl rfl) pe_dnewK)
      (pss_cons (ps_for PassesOwn.never rfl (KuEn.pi_enrev rfl Z.f_enumerate rfl Z.f_reversed (pv 0)) (pg_tup rfl (pgs_cons (pg_name (i := 2) nd rfl (Or.inl rfl)) (pgs_cons (pg_name (i := 3) nd rfl (Or.inl rfl)) pgs_nil)))
          (pss_one (ps_expr (pe_bm PySem.F.plainAttrs_list PySem.F.slot_list_append PySem.F.type_list_append mt_append (pe_dsetd (pv 1) (pv 3) (pe_lst pa_nil) ⟨rfl, rfl, rfl, rfl⟩) (pa_cons (pv 2) pa_nil)))))
      (pss_one (ps_ret (pv 1)))), ?_⟩
    refine fun d hd => ?_
    have s0 := Same.new (o := .dK []) hd
    have hd0 : upd H d (.dK []) d = some (.dK []) := upd_same
    generalize upd H d (.dK []) = H0 at s0 hd0 ⊢
    refine ⟨_, rfl, a, _, rfl, SqL.of (s0 _ _ ha), ?_⟩
    let f : Nat → Str → List Nat := fun i k => KM.spotsFrom k (l.reverse.take i) 0
    have zlen : (l.map V.str).length = l.length := List.length_map _
    refine for_it KuEn.walk_enrev (fun i σ H' => (∃ v2 v3 : Option V, σ = [some (.ref a), some (.ref d), v2, v3]) ∧ Same H H' ∧ ∃ (kvs : List (Key × V)) (ad : Str → Addr), H' d = some (.dK kvs) ∧ kvs.length ≤ i ∧
        (∀ k, f i k = [] → valV kvs (.inr k) = none) ∧ (∀ k, f i k ≠ [] → valV kvs (.inr k) = some (.ref (ad k)) ∧ H (ad k) = none ∧ H' (ad k) = some (.lst ((f i k).map fun n => V.int (n : Nat)))) ∧ ∀ k k', f i k ≠ [] → f i k' ≠ [] → ad k = ad k' → k = k')
      ⟨⟨_, _, rfl⟩, s0, [], fun _ => 0, hd0, Nat.le_refl _, fun _ _ => rfl, fun k h => absurd rfl h, fun k k' h => absurd rfl h⟩ (fun i σ H' _ h => SqL.of (h.2.1 _ _ ha)) ?_ ?_
    · rintro i x σ H1 H2 hi ⟨⟨v2, v3, rfl⟩, s1, kvs, ad, hdk, hlen, n1, n2, n3⟩ ⟨T, y, rfl, hT, rfl, hy⟩
      rw [zlen] at hi hy
      have hy2 : (l.reverse)[i]? = some (l[l.length - 1 - i]'(by omega)) := by
        rw [List.getElem?_reverse hi, List.getElem?_eq_getElem (by omega)]
      have hyv : y = .str (l[l.length - 1 - i]'(by omega)) := by
        rw [List.getElem?_map, List.getElem?_eq_getElem (by omega)] at hy
        exact (Option.some.inj hy).symm
      generalize l[l.length - 1 - i]'(by omega) = z at hy2 hyv
      subst hyv
      have fstep : ∀ k, f (i + 1) k = f i k ++ if z = k then [i] else [] := fun k => by
        show KM.spotsFrom k (l.reverse.take (i + 1)) 0 = _
        rw [List.take_add_one, hy2]
        show KM.spotsFrom k (l.reverse.take i ++ [z]) 0 = _
        rw [KM.spotsFrom_snoc, List.length_take, List.length_reverse, Nat.zero_add, Nat.min_eq_left (by omega)]
      have fz : f (i + 1) z = f i z ++ [i] := by rw [fstep, if_pos rfl]
      have fo : ∀ k, k ≠ z → f (i + 1) k = f i k := fun k h => by rw [fstep, if_neg (fun e => h e.symm), List.append_nil]
      have zf : (f i z).length ≤ 1000 := by
        show (KM.spotsFrom z (l.reverse.take i) 0).length ≤ 1000
        rw [KM.spotsFrom_len]
        exact Nat.le_trans List.count_le_length (by rw [List.length_take]; omega)
      have sT := Same.new (o := .tup [.int (i : Nat), .str z]) hT
      have s2 := s1.trans sT
      have hdk2 := sT _ _ hdk
      have n2' : ∀ k, f i k ≠ [] → valV kvs (.inr k) = some (.ref (ad k)) ∧ H (ad k) = none ∧ upd H1 T (.tup [.int (i : Nat), .str z]) (ad k) = some (.lst ((f i k).map fun n => V.int (n : Nat))) := fun k h => ⟨(n2 k h).1, (n2 k h).2.1, sT _ _ (n2 k h).2.2⟩
      refine ⟨T, _, rfl, SqT.of upd_same, rfl, _, _, rfl, _, _, rfl, rfl, ?_⟩
      generalize upd H1 T (.tup [.int (i : Nat), .str z]) = H2 at s2 hdk2 n2' ⊢
      refine ⟨_, rfl, d, rfl, .inl ⟨_, .inl hdk2⟩, _, rfl, by show 0 ≤ sizeLine; decide, fun e he => ?_⟩
      have sE := Same.new (o := .lst []) he
      have hdk3 := sE _ _ hdk2
      refine ⟨kvs, .inr z, hdk3, rfl, Nat.lt_of_le_of_lt (show kvs.length ≤ 1000 by omega) (by decide), fun v ev => ?_, fun en => ?_⟩
      · -- its list is there
        have hne : f i z ≠ [] := fun e0 => by rw [n1 z e0] at ev; cases ev
        obtain ⟨g1, g2, g3⟩ := n2' z hne
        rw [g1] at ev
        cases ev
        have g3 := sE _ _ g3
        refine ⟨.inl ⟨rfl, _, SqL.of g3⟩, _, rfl, ad z, _, _, rfl, rfl, g3, ?_, ⟨_, _, rfl⟩, Same.mut (s2.trans sE) g2, kvs, ad, ?_, by omega, fun k hk => ?_, fun k hk => ?_, fun k k' hk hk' => ?_⟩
        · rw [List.length_map]; exact Nat.lt_of_le_of_lt zf (by decide)
        · rw [upd_ne (ne_of hdk3 g3 fun z => nomatch z)]; exact hdk3
        · by_cases c : k = z
          · subst c; rw [fz] at hk; simp at hk
          · rw [fo k c] at hk; exact n1 k hk
        · by_cases c : k = z
          · subst c
            refine ⟨g1, g2, ?_⟩
            rw [upd_same, fz, List.map_append]
            rfl
          · rw [fo k c] at hk ⊢
            obtain ⟨q1, q2, q3⟩ := n2' k hk
            refine ⟨q1, q2, ?_⟩
            rw [upd_ne fun e => c (n3 k z hk hne e)]
            exact sE _ _ q3
        · have q : ∀ j, f (i + 1) j ≠ [] → f i j ≠ [] := fun j hj => by
            by_cases c : j = z
            · rw [c]; exact hne
            · rw [fo j c] at hj; exact hj
          exact n3 k k' (q k hk) (q k' hk')
      · -- a new one
        have he0 : f i z = [] := by
          cases c : f i z with
          | nil => rfl
          | cons a b =>
            have := (n2' z (by rw [c]; simp)).1
            rw [en] at this; cases this
        have ne_d := ne_of_none hdk2 he
        have heE : H e = none := s2.free he
        have hp : upd (upd H2 e (.lst [])) d (.dK (putK kvs (.inr z) (.ref e))) e = some (.lst ([] : List V)) := by rw [upd_ne (Ne.symm ne_d)]; exact upd_same
        obtain ⟨ad2, a1, a2⟩ : ∃ ad2 : Str → Addr, ad2 z = e ∧ ∀ k, k ≠ z → ad2 k = ad k := ⟨fun k => if k = z then e else ad k, if_pos rfl, fun k h => if_neg h⟩
        refine ⟨.inl ⟨rfl, _, SqL.of hp⟩, _, rfl, e, _, _, rfl, rfl, hp, by decide, ⟨_, _, rfl⟩, ?_, putK kvs (.inr z) (.ref e), ad2, ?_, ?_, fun k hk => ?_, fun k hk => ?_, fun k k' hk hk' => ?_⟩
        · exact Same.mut (Same.mut (s2.trans sE) hd) heE
        · rw [upd_ne ne_d, upd_same]
        · have := length_putK kvs (Sum.inr z) (V.ref e)
          omega
        · by_cases c : k = z
          · subst c; rw [fz] at hk; simp at hk
          · rw [fo k c] at hk
            rw [val_put, if_neg fun e => c (Sum.inr.inj e)]
            exact n1 k hk
        · by_cases c : k = z
          · subst c
            rw [a1]
            refine ⟨by rw [val_put, if_pos rfl], heE, ?_⟩
            rw [upd_same, fz, he0]
            rfl
          · rw [fo k c] at hk ⊢
            obtain ⟨q1, q2, q3⟩ := n2' k hk
            have na : ad k ≠ e := ne_of_none q3 he
            have nd2 : ad k ≠ d := ne_of q3 hdk2 fun z => nomatch z
            rw [a2 k c]
            refine ⟨by rw [val_put, if_neg fun e => c (Sum.inr.inj e)]; exact q1, q2, ?_⟩
            rw [upd_ne na, upd_ne nd2, upd_ne na]
            exact q3
        · have low : ∀ j, j ≠ z → f (i + 1) j ≠ [] → ad j ≠ e := fun j c hj => by
            rw [fo j c] at hj
            exact ne_of_none (n2' j hj).2.2 he
          intro heq
          by_cases c : k = z
          · by_cases c' : k' = z
            · rw [c, c']
            · rw [c, a1, a2 k' c'] at heq
              exact absurd heq.symm (low k' c' hk')
          · by_cases c' : k' = z
            · rw [c', a1, a2 k c] at heq
              exact absurd heq (low k c hk)
            · rw [a2 k c, a2 k' c'] at heq
              rw [fo k c] at hk
              rw [fo k' c'] at hk'
              exact n3 k k' hk hk' heq
    · rintro σ H1 ⟨⟨v2, v3, rfl⟩, s1, kvs, ad, hdk, hlen, n1, n2, n3⟩
      rw [zlen] at n1 n2
      have ef : ∀ k, f l.length k = KM.spots k l := fun k => by
        show KM.spotsFrom k (l.reverse.take l.length) 0 = KM.spotsFrom k l.reverse 0
        rw [List.take_of_length_le (by rw [List.length_reverse]; exact Nat.le_refl _)]
      refine ⟨_, rfl, q d kvs H1 s1 hd hdk fun k => ⟨fun h => n1 k (by rw [ef]; exact h), fun h => ?_⟩⟩
      obtain ⟨q1, q2, q3⟩ := n2 k (by rw [ef]; exact h)
      rw [ef] at q3
      exact ⟨_, q1, q3⟩
end
end Ku

/-! KuP3 -/
set_option Elab.async false
set_option linter.all false
set_option maxRecDepth 100000
set_option maxHeartbeats 8000000
namespace Ku
open PySem PySem.Spec PyProof.Rows L2 KuS KuD
/-- the class Endless -/
abbrev cE (K : PySem.W.Frag) : Addr := He.ga K "Endless"
def enF (kb kr bs rs : Addr) : List (Str × V) := [("kept_block", .ref kb), ("kept_recent", .ref kr), ("block_spots", .ref bs), ("recent_spots", .ref rs)]
/-- an endless history at e -/
structure EnP (K : PySem.W.Frag) (B R : List Str) (H : Hp) (e dx kb kr bs rs : Addr) (kvb kvr : List (Key × V)) : Prop where
  at_ : H e = some (.ins (cE K) dx (enF kb kr bs rs))
  kb_ : H kb = some (.lst (B.map V.str))
  kr_ : H kr = some (.lst (R.map V.str))
  bs_ : H bs = some (.dK kvb)
  sb : SpD kvb (fun k => KM.spots k B) H
  rs_ : H rs = some (.dK kvr)
  sr : SpD kvr (fun k => KM.spots k R) H
def En (K : PySem.W.Frag) (B R : List Str) (H : Hp) (e : Addr) : Prop := ∃ dx kb kr bs rs kvb kvr, EnP K B R H e dx kb kr bs rs kvb kvr
theorem En.mono {K : PySem.W.Frag} {B R : List Str} {H H' : Hp} {e : Addr} (h : En K B R H e) (s : Same H H') : En K B R H' e := by
  obtain ⟨dx, kb, kr, bs, rs, kvb, kvr, p⟩ := h
  exact ⟨dx, kb, kr, bs, rs, kvb, kvr, s _ _ p.at_, s _ _ p.kb_, s _ _ p.kr_, s _ _ p.bs_, p.sb.mono s, s _ _ p.rs_, p.sr.mono s⟩
theorem putF_lt {f : Str} {v : V} : ∀ {fs : List (Str × V)} {n : Nat}, fs.length < n → (putF f v fs).length < n + 1
  | [], n, h => by show 1 < n + 1; simp at h; omega
  | (g, x) :: r, n, h => by
    unfold putF
    split
    · simp at h ⊢; omega
    · have h2 : r.length < n - 1 := by simp at h; omega
      have := putF_lt (f := f) (v := v) h2
      simp
      omega
theorem fs_nil : ([] : List (Str × V)).length < 1 := Nat.zero_lt_one
theorem enF_put (kb kr bs rs : Addr) : putF "recent_spots" (.ref rs) (putF "block_spots" (.ref bs) (putF "kept_recent" (.ref kr) (putF "kept_block" (.ref kb) []))) = enF kb kr bs rs := by rfl
theorem strs_shaped {l : List Str} (h : ∀ k ∈ l, Kd k) : SeqAt.shaped (.list (l.map PyData.str)) = true := by
  unfold SeqAt.shaped
  have h1 : ∀ l : List Str, (∀ k ∈ l, Kd k) → PyData.canLayAll0 (l.map PyData.str) = true := by
    intro l
    induction l with
    | nil => intro _; rfl
    | cons b l ih =>
      intro h
      rw [List.map_cons]
      simp [PyData.canLay0, PyData.canLayAll0, kd_ok (h b (List.mem_cons_self ..)), ih fun c hc => h c (List.mem_cons_of_mem _ hc)]
  have h2 : ∀ l : List Str, PyData.depthAll (l.map PyData.str) ≤ 8 := by
    intro l
    induction l with
    | nil => show 0 ≤ 8; omega
    | cons b l ih => exact Nat.max_le.mpr ⟨by simp [PyData.depth], ih⟩
  rw [Bool.and_eq_true]
  refine ⟨?_, decide_eq_true ?_⟩
  · rw [PyData.canLay0]; exact h1 l h
  have := h2 l
  show PyData.depthAll (l.map PyData.str) + 1 ≤ 64
  omega
section
variable {P : Program} {w : World} {K : PySem.W.Frag} {mg : Str → Option Value} {base : Heap}
/-! ### Endless.__init__ -/
def spEnInit (K : PySem.W.Frag) : Sp := fun vs H Q _ => ∃ (x dx b r : Addr) (B R : List Str), vs = [.ref x, .ref b, .ref r] ∧ H x = some (.ins (cE K) dx []) ∧ H b = some (.lst (B.map V.str)) ∧ H r = some (.lst (R.map V.str)) ∧ B ≠ [] ∧ B.length ≤ 40 ∧ R.length ≤ 60 ∧ (∀ k ∈ B, Kd k) ∧ (∀ k ∈ R, Kd k) ∧ (kset B).length ≤ 8 ∧
  ∀ H', But [x] H H' → En K B R H' x → (∀ (a : Addr) (as : List Addr), H a = some (.lst (as.map V.ref)) → En K B R (hide a H') x) → Q .non H'
/-- it does without a list of others' that was there before -/
theorem EnP.away {K : PySem.W.Frag} {B R : List Str} {H : Hp} {e dx kb kr bs rs a : Addr} {kvb kvr : List (Key × V)} {as : List Addr} (p : EnP K B R H e dx kb kr bs rs kvb kvr) (hne : B ≠ []) (n : kr ≠ a) (ha : H a = some (.lst (as.map V.ref))) : En K B R (hide a H) e := by
  have sp : ∀ {kvs : List (Key × V)} {f : Str → List Nat}, SpD kvs f H → SpD kvs f (hide a H) := fun {kvs f} h k => ⟨(h k).1, fun e => by
    obtain ⟨c, h1, h2⟩ := (h k).2 e
    refine ⟨c, h1, hide_at (fun z => ?_) h2⟩
    rw [z, ha] at h2
    cases hf : f k with
    | nil => exact e hf
    | cons i r =>
      rw [hf] at h2
      cases as with
      | nil => cases h2
      | cons u t => cases h2⟩
  refine ⟨dx, kb, kr, bs, rs, kvb, kvr, hide_at (ne_of p.at_ ha fun z => nomatch z) p.at_, hide_at (fun z => ?_) p.kb_, hide_at n p.kr_, hide_at (ne_of p.bs_ ha fun z => nomatch z) p.bs_, sp p.sb, hide_at (ne_of p.rs_ ha fun z => nomatch z) p.rs_, sp p.sr⟩
  have h := p.kb_
  rw [z, ha] at h
  cases B with
  | nil => exact hne rfl
  | cons i r =>
    cases as with
    | nil => cases h
    | cons u t => cases h
abbrev nmEnInit : List Str := ["self", "block", "recent"]
theorem sc_Endless_init : FnScope nmEnInit ["self", "block", "recent"] (defScope s_Endless_init) := fnScope_dec (by decide +kernel)
theorem mak_Endless (Z : Say K mg) : Mak P w K mg base 3 "Endless" (cE K) (spEnInit K) := by
  obtain ⟨fd, F⟩ := Z.D_Endless_init
  have cA : Cal P w K mg base 2 "are_kinds" spAreKinds := cal_are_kinds Z
  have cS : Cal P w K mg base 1 "spots_of" spSpotsOf := cal_spots_of Z
  obtain ⟨tk1, hm1⟩ := Z.i_MOST_BLOCK
  obtain ⟨tk2, hm2⟩ := Z.i_MOST_RECENT
  obtain ⟨tk3, hm3⟩ := Z.i_MOST_KINDS
  refine ⟨_, fd, ["self", "block", "recent"], fn_ok F sc_Endless_init (fun vs H Q E h => ?_) (fun cdv A outer s H vs Q E hr h => ?_), Z.k_Endless, Z.g_Endless, F.bindsN fun _ _ _ _ _ _ us hl => match us, hl with | [_, _, _], _ => rfl⟩
  · obtain ⟨x, dx, b, r, B, R, rfl, _⟩ := h
    rfl
  · obtain ⟨x, dx, b, r, B, R, rfl, hx, hb, hr', hne, zB, zR, kB, kR, z8, q⟩ := h
    have nd := sc_Endless_init.nd
    have hu := hr.units
    refine ⟨_, pss_cons (ps_if (PW.pt (pw_or (pt_not (pt_val (pe_c cA hr (by decide) rfl (pa_cons (pv 1) (pa_cons (pe_glob (v := .int 40) rfl hm1 ⟨_, rfl⟩) pa_nil)))))
          (pw_or (pt_cmpR (op_eqD hu) (pv 1) (pe_lst pa_nil) (nomark _)) (pw_or1 (pt_cmpR op_gt (pe_callB cr_lenSS rfl Z.f_len boot_len (pa_cons (pe_callTy (cr_setS rfl) rfl Z.f_set boot_set (pa_cons (pv 1) pa_nil)) pa_nil)) (pe_glob (v := .int 8) rfl hm3 ⟨_, rfl⟩) (nomark _)))))) pss_never pss_nil)
      (pss_cons (ps_if (pt_not (pt_val (pe_c cA hr (by decide) rfl (pa_cons (pv 2) (pa_cons (pe_glob (v := .int 60) rfl hm2 ⟨_, rfl⟩) pa_nil))))) pss_never pss_nil)
      (pss_cons (ps_fld (pv 0) (pe_callTy call_list_of rfl Z.f_list boot_list (pa_cons (pv 1) pa_nil)) rfl)
      (pss_cons (ps_fld (pv 0) (pe_callTy call_list_of rfl Z.f_list boot_list (pa_cons (pv 2) pa_nil)) rfl)
      (pss_cons (ps_fld (pv 0) (pe_c cS hr (by decide) rfl (pa_cons (pv 1) pa_nil)) rfl)
      (pss_one (ps_fld (pv 0) (pe_c cS hr (by decide) rfl (pa_cons (pv 2) pa_nil)) rfl)))))), ?_⟩
    refine ⟨_, rfl, b, B, 40, rfl, hb, kB, zB, by omega, fun H1 s1 => ⟨_, rfl, iteF ?_⟩⟩
    refine ⟨_, rfl, by show 0 ≤ sizeLine; decide, fun e1 he1 => ⟨.list (B.map .str), .list [], strs_dp (SqL.of ((Same.new he1) _ _ (s1 _ _ hb))), .lst (SqL.of upd_same) .nil, strs_shaped kB, rfl, _, rfl, ?_⟩⟩
    rw [eqv_nil]
    have eB : (B.map PyData.str).isEmpty = false := by
      cases B with
      | nil => exact absurd rfl hne
      | cons => rfl
    rw [eB]
    refine iteF ?_
    have s2 := s1.trans (Same.new (o := .lst []) he1)
    generalize upd H1 e1 (.lst []) = H2 at s2 ⊢
    refine ⟨_, rfl, b, B, rfl, SqL.of (s2 _ _ hb), by omega, fun p hp => ⟨p, _, rfl, upd_same, ?_⟩⟩
    have s3 := s2.trans (Same.new (o := SetSO w p (ofS B)) hp)
    have z8' : ¬ (8 : Int) < ((ofS B).length : Nat) := by
      have : (kset B).length = (ofS B).length := (srt_perm _).length_eq
      omega
    refine ⟨_, _, rfl, rfl, _, rfl, iteFe (decide_eq_false z8') ?_⟩
    refine ⟨_, rfl, r, R, 60, rfl, s3 _ _ hr', kR, zR, by omega, fun H4 s4 => ⟨_, rfl, iteF ?_⟩⟩
    have s4 := s3.trans s4
    -- the lists
    refine ⟨_, rfl, b, _, rfl, .inl (SqL.of (s4 _ _ hb)), fun kb hkb => ⟨_, rfl, ?_⟩⟩
    have s5 := s4.trans (Same.new (o := .lst (B.map V.str)) hkb)
    have kb5 : upd H4 kb (.lst (B.map V.str)) kb = some (.lst (B.map V.str)) := upd_same
    generalize upd H4 kb (.lst (B.map V.str)) = H5 at s5 kb5 ⊢
    refine ⟨x, _, dx, [], rfl, s5 _ _ hx, Z.c_Endless, Z.n_Endless_kept_block, by decide, ?_⟩
    have nb : b ≠ x := ne_of hb hx fun z => nomatch z
    have nr : r ≠ x := ne_of hr' hx fun z => nomatch z
    have nkb : kb ≠ x := ne_of kb5 (s5 _ _ hx) fun z => nomatch z
    have b5 : But [x] H (upd H5 x (.ins (cE K) dx (putF "kept_block" (.ref kb) []))) := (But.of s5).mut (by simp)
    have x6 : upd H5 x (.ins (cE K) dx (putF "kept_block" (.ref kb) [])) x = _ := upd_same
    have kb6 : upd H5 x (.ins (cE K) dx (putF "kept_block" (.ref kb) [])) kb = _ := (upd_ne nkb).trans kb5
    generalize upd H5 x (.ins (cE K) dx (putF "kept_block" (.ref kb) [])) = H6 at b5 x6 kb6 ⊢
    refine ⟨_, rfl, r, _, rfl, .inl (SqL.of (b5.at hr' (by simp [nr]))), fun kr hkr => ⟨_, rfl, ?_⟩⟩
    have frk : ∀ (a : Addr) (o : HO), H a = some o → a ≠ x → kr ≠ a := fun a o ha na => (ne_of_none (b5.at ha (by simp [na])) hkr).symm
    have s7 := Same.new (o := .lst (R.map V.str)) hkr
    have kr7 : upd H6 kr (.lst (R.map V.str)) kr = some (.lst (R.map V.str)) := upd_same
    have b7 := b5.trans (But.of s7)
    have x7 := s7 _ _ x6
    have kb7 := s7 _ _ kb6
    generalize upd H6 kr (.lst (R.map V.str)) = H7 at b7 x7 kb7 kr7 ⊢
    have nkr : kr ≠ x := ne_of kr7 x7 fun z => nomatch z
    refine ⟨x, _, dx, _, rfl, x7, Z.c_Endless, Z.n_Endless_kept_recent, Nat.lt_of_lt_of_le (putF_lt fs_nil) (by decide), ?_⟩
    have b8 : But [x] H (upd H7 x (.ins (cE K) dx (putF "kept_recent" (.ref kr) (putF "kept_block" (.ref kb) [])))) := b7.mut (by simp)
    have x8 : upd H7 x (.ins (cE K) dx (putF "kept_recent" (.ref kr) (putF "kept_block" (.ref kb) []))) x = _ := upd_same
    have kb8 : upd H7 x (.ins (cE K) dx (putF "kept_recent" (.ref kr) (putF "kept_block" (.ref kb) []))) kb = _ := (upd_ne nkb).trans kb7
    have kr8 : upd H7 x (.ins (cE K) dx (putF "kept_recent" (.ref kr) (putF "kept_block" (.ref kb) []))) kr = _ := (upd_ne nkr).trans kr7
    generalize upd H7 x (.ins (cE K) dx (putF "kept_recent" (.ref kr) (putF "kept_block" (.ref kb) []))) = H8 at b8 x8 kb8 kr8 ⊢
    refine ⟨_, rfl, b, B, rfl, b8.at hb (by simp [nb]), by omega, fun bs kvb H9 s9 fbs hbs sb => ⟨_, rfl, ?_⟩⟩
    have b9 := b8.trans (But.of s9)
    have x9 := s9 _ _ x8
    refine ⟨x, _, dx, _, rfl, x9, Z.c_Endless, Z.n_Endless_block_spots, Nat.lt_of_lt_of_le (putF_lt (putF_lt fs_nil)) (by decide), ?_⟩
    have nbs : bs ≠ x := ne_of hbs x9 fun z => nomatch z
    have spx : ∀ {kvs : List (Key × V)} {f : Str → List Nat} {Ha : Hp} {o o2 : HO}, Ha x = some o → (∀ l, o ≠ .lst l) → SpD kvs f Ha → SpD kvs f (upd Ha x o2) := fun {kvs f Ha o o2} hx no h k => ⟨(h k).1, fun e => by
      obtain ⟨a, h1, h2⟩ := (h k).2 e
      refine ⟨a, h1, ?_⟩
      rw [upd_ne fun z => by rw [z, hx] at h2; cases h2; exact no _ rfl]
      exact h2⟩
    have sb9 := spx (o2 := .ins (cE K) dx (putF "block_spots" (.ref bs) (putF "kept_recent" (.ref kr) (putF "kept_block" (.ref kb) [])))) x9 (fun _ z => nomatch z) sb
    have b10 : But [x] H (upd H9 x (.ins (cE K) dx (putF "block_spots" (.ref bs) (putF "kept_recent" (.ref kr) (putF "kept_block" (.ref kb) []))))) := b9.mut (by simp)
    have x10 : upd H9 x (.ins (cE K) dx (putF "block_spots" (.ref bs) (putF "kept_recent" (.ref kr) (putF "kept_block" (.ref kb) [])))) x = _ := upd_same
    have kb10 : upd H9 x (.ins (cE K) dx (putF "block_spots" (.ref bs) (putF "kept_recent" (.ref kr) (putF "kept_block" (.ref kb) [])))) kb = _ := (upd_ne nkb).trans (s9 _ _ kb8)
    have kr10 : upd H9 x (.ins (cE K) dx (putF "block_spots" (.ref bs) (putF "kept_recent" (.ref kr) (putF "kept_block" (.ref kb) [])))) kr = _ := (upd_ne nkr).trans (s9 _ _ kr8)
    have bs10 : upd H9 x (.ins (cE K) dx (putF "block_spots" (.ref bs) (putF "kept_recent" (.ref kr) (putF "kept_block" (.ref kb) [])))) bs = _ := (upd_ne nbs).trans hbs
    generalize upd H9 x (.ins (cE K) dx (putF "block_spots" (.ref bs) (putF "kept_recent" (.ref kr) (putF "kept_block" (.ref kb) [])))) = H10 at b10 x10 kb10 kr10 bs10 sb9 ⊢
    refine ⟨_, rfl, r, R, rfl, b10.at hr' (by simp [nr]), by omega, fun rs kvr H11 s11 frs hrs sr => ⟨_, rfl, ?_⟩⟩
    have x11 := s11 _ _ x10
    refine ⟨x, _, dx, _, rfl, x11, Z.c_Endless, Z.n_Endless_recent_spots, Nat.lt_of_lt_of_le (putF_lt (putF_lt (putF_lt fs_nil))) (by decide), ?_⟩
    have nrs : rs ≠ x := ne_of hrs x11 fun z => nomatch z
    rw [enF_put]
    have bE : But [x] H (upd H11 x (.ins (cE K) dx (enF kb kr bs rs))) := (b10.trans (But.of s11)).mut (by simp)
    have pE : EnP K B R (upd H11 x (.ins (cE K) dx (enF kb kr bs rs))) x dx kb kr bs rs kvb kvr := by
      refine ⟨upd_same, ?_, ?_, ?_, ?_, ?_, ?_⟩
      · rw [upd_ne nkb]; exact s11 _ _ kb10
      · rw [upd_ne nkr]; exact s11 _ _ kr10
      · rw [upd_ne nbs]; exact s11 _ _ bs10
      · exact spx x11 (fun _ z => nomatch z) (sb9.mono s11)
      · rw [upd_ne nrs]; exact hrs
      · exact spx x11 (fun _ z => nomatch z) sr
    exact q _ bE ⟨dx, kb, kr, bs, rs, kvb, kvr, pE⟩ fun a as ha => by
      have na : a ≠ x := ne_of ha hx fun z => nomatch z
      exact pE.away hne (frk a _ ha na) (bE.at ha (by simp [na]))
end
end Ku

/-! KuP4 -/
set_option Elab.async false
set_option linter.all false
set_option maxRecDepth 100000
set_option maxHeartbeats 8000000
namespace Ku
open PySem PySem.Spec PyProof.Rows L2 KuS KuD
theorem ints_shaped (l : List Int) : SeqAt.shaped (.list (l.map PyData.int)) = true := by
  unfold SeqAt.shaped
  have h1 : ∀ l : List Int, PyData.canLayAll0 (l.map PyData.int) = true := by
    intro l
    induction l with
    | nil => rfl
    | cons b l ih => rw [List.map_cons]; simp [PyData.canLay0, PyData.canLayAll0, ih]
  have h2 : ∀ l : List Int, PyData.depthAll (l.map PyData.int) ≤ 8 := by
    intro l
    induction l with
    | nil => show 0 ≤ 8; omega
    | cons b l ih => exact Nat.max_le.mpr ⟨by simp [PyData.depth], ih⟩
  rw [Bool.and_eq_true]
  refine ⟨?_, decide_eq_true ?_⟩
  · rw [PyData.canLay0]; exact h1 l
  have := h2 l
  show PyData.depthAll (l.map PyData.int) + 1 ≤ 64
  omega
section
variable {P : Program} {w : World} {K : PySem.W.Frag} {mg : Str → Option Value} {base : Heap}
/-! ### Endless.block, recent, kinds -/
def spEnBlock (K : PySem.W.Frag) : Sp := fun vs H Q _ => ∃ (e : Addr) (B R : List Str), vs = [.ref e] ∧ En K B R H e ∧ ∀ p, H p = none → Q (.ref p) (upd H p (.lst (B.map V.str)))
theorem sc_Endless_block : FnScope ["self"] ["self"] (defScope s_Endless_block) := fnScope_dec (by decide +kernel)
theorem met_En_block (Z : Say K mg) : Met P w K mg base 1 (cE K) "block" (spEnBlock K) := by
  obtain ⟨fd, F⟩ := Z.D_Endless_block
  refine ⟨_, fd, ["self"], fn_ok F sc_Endless_block (fun vs H Q E h => ?_) (fun cdv A outer s H vs Q E hr h => ?_), Z.c_Endless, Z.m_Endless_block, F.bindsN fun _ _ _ _ _ _ us hl => match us, hl with | [_], _ => rfl⟩
  · obtain ⟨e, B, R, rfl, _⟩ := h
    rfl
  · obtain ⟨e, B, R, rfl, ⟨dx, kb, kr, bs, rs, kvb, kvr, p⟩, q⟩ := h
    refine ⟨_, pss_one (ps_ret (pe_callTy call_list_of rfl Z.f_list boot_list (pa_cons (pe_fld (pv 0) rfl) pa_nil))), ?_⟩
    exact ⟨_, rfl, e, _, dx, _, .ref kb, rfl, p.at_, Z.c_Endless, Z.n_Endless_kept_block, rfl, kb, _, rfl, .inl (SqL.of p.kb_), q⟩
def spEnRecent (K : PySem.W.Frag) : Sp := fun vs H Q _ => ∃ (e : Addr) (B R : List Str), vs = [.ref e] ∧ En K B R H e ∧ ∀ p, H p = none → Q (.ref p) (upd H p (.lst (R.map V.str)))
theorem sc_Endless_recent : FnScope ["self"] ["self"] (defScope s_Endless_recent) := fnScope_dec (by decide +kernel)
theorem met_En_recent (Z : Say K mg) : Met P w K mg base 1 (cE K) "recent" (spEnRecent K) := by
  obtain ⟨fd, F⟩ := Z.D_Endless_recent
  refine ⟨_, fd, ["self"], fn_ok F sc_Endless_recent (fun vs H Q E h => ?_) (fun cdv A outer s H vs Q E hr h => ?_), Z.c_Endless, Z.m_Endless_recent, F.bindsN fun _ _ _ _ _ _ us hl => match us, hl with | [_], _ => rfl⟩
  · obtain ⟨e, B, R, rfl, _⟩ := h
    rfl
  · obtain ⟨e, B, R, rfl, ⟨dx, kb, kr, bs, rs, kvb, kvr, p⟩, q⟩ := h
    refine ⟨_, pss_one (ps_ret (pe_callTy call_list_of rfl Z.f_list boot_list (pa_cons (pe_fld (pv 0) rfl) pa_nil))), ?_⟩
    exact ⟨_, rfl, e, _, dx, _, .ref kr, rfl, p.at_, Z.c_Endless, Z.n_Endless_kept_recent, rfl, kr, _, rfl, .inl (SqL.of p.kr_), q⟩
def spEnKinds (K : PySem.W.Frag) : Sp := fun vs H Q _ => ∃ (e : Addr) (B R : List Str), vs = [.ref e] ∧ En K B R H e ∧ B.length ≤ 100 ∧ R.length ≤ 100 ∧ ∀ (p : Addr) (H' : Hp), Same H H' → H p = none → H' p = some (.lst ((kinds B R).map V.str)) → Q (.ref p) H'
theorem sc_Endless_kinds : FnScope ["self"] ["self"] (defScope s_Endless_kinds) := fnScope_dec (by decide +kernel)
theorem met_En_kinds (Z : Say K mg) : Met P w K mg base 1 (cE K) "kinds" (spEnKinds K) := by
  obtain ⟨fd, F⟩ := Z.D_Endless_kinds
  refine ⟨_, fd, ["self"], fn_ok F sc_Endless_kinds (fun vs H Q E h => ?_) (fun cdv A outer s H vs Q E hr h => ?_), Z.c_Endless, Z.m_Endless_kinds, F.bindsN fun _ _ _ _ _ _ us hl => match us, hl with | [_], _ => rfl⟩
  · obtain ⟨e, B, R, rfl, _⟩ := h
    rfl
  · obtain ⟨e, B, R, rfl, ⟨dx, kb, kr, bs, rs, kvb, kvr, p⟩, zB, zR, q⟩ := h
    have hu := hr.units
    refine ⟨_, pss_one (ps_ret (pe_callB (cr_sortSS rfl hu) rfl Z.f_sorted boot_sorted (pa_cons (pe_callTy (cr_setS rfl) rfl Z.f_set boot_set (pa_cons (pe_op op_cat (pe_fld (pv 0) rfl) (pe_fld (pv 0) rfl)) pa_nil)) pa_nil))), ?_⟩
    refine ⟨_, rfl, e, _, dx, _, .ref kb, rfl, p.at_, Z.c_Endless, Z.n_Endless_kept_block, rfl, _, rfl, e, _, dx, _, .ref kr, rfl, p.at_, Z.c_Endless, Z.n_Endless_kept_recent, rfl, kb, kr, _, _, rfl, rfl, p.kb_, p.kr_, sz1000 (by rw [List.length_map, List.length_map]; omega), fun p1 h1 => ?_⟩
    rw [← List.map_append]
    refine ⟨p1, B ++ R, rfl, SqL.of upd_same, by rw [List.length_append]; omega, fun p2 h2 => ?_⟩
    refine ⟨p2, _, rfl, upd_same, Nat.le_trans (ofS_len _) (by rw [List.length_append]; omega), fun p3 h3 => ?_⟩
    exact q p3 _ (((Same.new h1).trans (Same.new h2)).trans (Same.new h3)) (((Same.new h1).trans (Same.new h2)).free h3) upd_same
/-! ### Endless.nth -/
def spEnNth (K : PySem.W.Frag) : Sp := fun vs H Q _ => ∃ (e : Addr) (B R : List Str) (k : Str) (i : Nat), vs = [.ref e, .str k, .int (i : Nat)] ∧ En K B R H e ∧ B.length ≤ 100 ∧ R.length ≤ 100 ∧ i ≤ 2 ^ 60 ∧ ∀ H' : Hp, Same H H' → Q (ov (KM.nth B R k i)) H'
abbrev nmNth : List Str := ["self", "kind", "index", "near", "spots", "times", "rest"]
theorem sc_Endless_nth : FnScope nmNth ["self", "kind", "index"] (defScope s_Endless_nth) := fnScope_dec (by decide +kernel)
theorem met_En_nth (Z : Say K mg) : Met P w K mg base 1 (cE K) "nth" (spEnNth K) := by
  obtain ⟨fd, F⟩ := Z.D_Endless_nth
  refine ⟨_, fd, ["self", "kind", "index"], fn_ok F sc_Endless_nth (fun vs H Q E h => ?_) (fun cdv A outer s H vs Q E hr h => ?_), Z.c_Endless, Z.m_Endless_nth, F.bindsN fun _ _ _ _ _ _ us hl => match us, hl with | [_, _, _], _ => rfl⟩
  · obtain ⟨e, B, R, k, i, rfl, _⟩ := h
    rfl
  · obtain ⟨e, B, R, k, i, rfl, ⟨dx, kb, kr, bs, rs, kvb, kvr, p⟩, zB, zR, zi, q⟩ := h
    have nd := sc_Endless_nth.nd
    have hu := hr.units
    have hu1 : (A.deeper (envOfC d_Endless_nth.qual d_Endless_nth.scope s.heap.objs.size (He.fAd K d_Endless_nth.at_) cdv)).units + 1 < cLine := by omega
    refine ⟨_, pss_cons (ps_set (i := 3) nd rfl (Or.inl rfl) (pe_dget2 hu1 (pe_fld (pv 0) rfl) (pv 1) (pe_lst pa_nil) ⟨rfl, rfl, rfl, rfl⟩))
      (pss_cons (ps_if (pt_cmpR op_lt (pv 2) (pe_callB call_len_seq rfl Z.f_len boot_len (pa_cons (pv 3) pa_nil)) (nomark _)) (pss_one (ps_ret (pe_ix ix_list (pv 3) (pv 2) (fun _ _ => rfl)))) pss_nil)
      (pss_cons (ps_set (i := 4) nd rfl (Or.inl rfl) (pe_dget2 hu1 (pe_fld (pv 0) rfl) (pv 1) (pe_lst pa_nil) ⟨rfl, rfl, rfl, rfl⟩))
      (pss_cons (ps_if (pt_cmpR (op_eqD hu) (pv 4) (pe_lst pa_nil) (nomark _)) (pss_one (ps_ret pe_non)) pss_nil)
      (pss_cons (ps_asg (pe_callB call_divmod rfl Z.f_divmod PyProof.Rows.boot_divmod (pa_cons (pe_op op_sub (pv 2) (pe_callB call_len_seq rfl Z.f_len boot_len (pa_cons (pv 3) pa_nil))) (pa_cons (pe_callB call_len_seq rfl Z.f_len boot_len (pa_cons (pv 4) pa_nil)) pa_nil)))
          (pg_tup rfl (pgs_cons (pg_name (i := 5) nd rfl (Or.inl rfl)) (pgs_cons (pg_name (i := 6) nd rfl (Or.inl rfl)) pgs_nil))))
      (pss_one (ps_ret (pe_op op_add (pe_op op_add (pe_callB call_len_seq rfl Z.f_len boot_len (pa_cons (pe_fld (pv 0) rfl) pa_nil)) (pe_op op_mul (pv 5) (pe_callB call_len_seq rfl Z.f_len boot_len (pa_cons (pe_fld (pv 0) rfl) pa_nil)))) (pe_ix ix_list (pv 4) (pv 6) (fun _ _ => rfl))))))))), ?_⟩
    -- a list of spots
    have get : ∀ {kvs : List (Key × V)} {f : Str → List Nat} {Ha : Hp} {d z : Addr} {l0 : HO}, SpD kvs f Ha → Ha d = some (.dK kvs) → Ha z = none → ∃ n, (valV kvs (.inr k)).getD (.ref z) = .ref n ∧ upd Ha z (.lst []) n = some (.lst ((f k).map fun j => V.int (j : Nat))) := fun {kvs f Ha d z l0} hs hd hz => by
      cases c : f k with
      | nil =>
        rw [(hs k).1 c]
        exact ⟨z, rfl, upd_same⟩
      | cons a b =>
        obtain ⟨n, h1, h2⟩ := (hs k).2 (by rw [c]; simp)
        rw [h1]
        refine ⟨n, rfl, ?_⟩
        rw [upd_ne (ne_of_none h2 hz), h2, c]
    refine ⟨_, rfl, e, _, dx, _, .ref rs, rfl, p.at_, Z.c_Endless, Z.n_Endless_recent_spots, rfl, rs, rfl, .inl ⟨_, .inl p.rs_⟩, _, rfl, by show 0 ≤ sizeLine; decide, fun z hz => ?_⟩
    have s1 := Same.new (o := .lst []) hz
    obtain ⟨n, en, hn⟩ := get (l0 := .lst []) p.sr p.rs_ hz
    refine ⟨_, DGet.k (k := .inr k) (s1 _ _ p.rs_), ?_⟩
    rw [en]
    generalize upd H z (.lst []) = H1 at s1 hn ⊢
    refine ⟨_, rfl, _, rfl, n, _, rfl, .inl (SqL.of hn), _, _, rfl, rfl, _, rfl, ?_⟩
    rw [List.length_map]
    have hnth : KM.nth B R k i = if i < (KM.spots k R).length then (KM.spots k R)[i]? else if KM.spots k B = [] then none else some (R.length + (i - (KM.spots k R).length) / (KM.spots k B).length * B.length + (KM.spots k B).getD ((i - (KM.spots k R).length) % (KM.spots k B).length) 0) := rfl
    by_cases c : i < (KM.spots k R).length
    · have cI : ((i : Nat) : Int) < ((KM.spots k R).length : Nat) := by omega
      refine iteTe (decide_eq_true cI) ?_
      rw [if_pos c, List.getElem?_eq_getElem c] at hnth
      have q1 := q H1 s1
      rw [hnth] at q1
      refine ⟨_, rfl, _, rfl, n, _, _, _, rfl, rfl, SqL.of hn, at_ofA (j := i) rfl ?_, q1⟩
      rw [List.getElem?_map, List.getElem?_eq_getElem c]
      rfl
    have cI : ¬ ((i : Nat) : Int) < ((KM.spots k R).length : Nat) := by omega
    refine iteFe (decide_eq_false cI) ?_
    rw [if_neg c] at hnth
    have p1at := s1 _ _ p.at_
    refine ⟨_, rfl, e, _, dx, _, .ref bs, rfl, p1at, Z.c_Endless, Z.n_Endless_block_spots, rfl, bs, rfl, .inl ⟨_, .inl (s1 _ _ p.bs_)⟩, _, rfl, by show 0 ≤ sizeLine; decide, fun z2 hz2 => ?_⟩
    have s2 := Same.new (o := .lst []) hz2
    obtain ⟨m, em, hm⟩ := get (l0 := .lst []) (p.sb.mono s1) (s1 _ _ p.bs_) hz2
    refine ⟨_, DGet.k (k := .inr k) (s2 _ _ (s1 _ _ p.bs_)), ?_⟩
    rw [em]
    have s12 := s1.trans s2
    have hn2 := s2 _ _ hn
    generalize upd H1 z2 (.lst []) = H2 at s12 hm hn2 ⊢
    refine ⟨_, rfl, by show 0 ≤ sizeLine; decide, fun e1 he1 => ?_⟩
    have s3 := Same.new (o := .lst []) he1
    have dI : DpAll K (upd H2 e1 (.lst [])) ((KM.spots k B).map fun j => V.int (j : Nat)) (((KM.spots k B).map fun j => ((j : Nat) : Int)).map PyData.int) := by
      have q := ints_dpa (K := K) (H := upd H2 e1 (.lst [])) ((KM.spots k B).map fun j => ((j : Nat) : Int))
      rw [List.map_map] at q
      exact q
    refine ⟨.list (((KM.spots k B).map fun j => ((j : Nat) : Int)).map PyData.int), .list [], .lst (SqL.of (s3 _ _ hm)) dI, .lst (SqL.of upd_same) .nil, ints_shaped _, rfl, _, rfl, ?_⟩
    rw [eqv_nil]
    have s123 := s12.trans s3
    have hm3 := s3 _ _ hm
    have hn3 := s3 _ _ hn2
    generalize upd H2 e1 (.lst []) = H3 at s123 hm3 hn3 ⊢
    by_cases c2 : KM.spots k B = []
    · rw [if_pos c2] at hnth
      have q1 := q H3 s123
      rw [hnth] at q1
      rw [c2]
      exact iteT q1
    rw [if_neg c2] at hnth
    have c3 : (((KM.spots k B).map fun j => ((j : Nat) : Int)).map PyData.int).isEmpty = false := by
      cases h : KM.spots k B with
      | nil => exact absurd h c2
      | cons => rfl
    refine iteFe c3 ?_
    have zb : 0 < (KM.spots k B).length := List.length_pos_iff.mpr c2
    have zb2 : (KM.spots k B).length ≤ 100 := by rw [KM.spots_len]; exact Nat.le_trans List.count_le_length zB
    refine ⟨_, rfl, _, rfl, n, _, rfl, .inl (SqL.of hn3), _, _, rfl, rfl, _, rfl, m, _, rfl, .inl (SqL.of hm3), ?_⟩
    rw [List.length_map, List.length_map]
    refine ⟨_, _, rfl, ⟨by omega, by omega⟩, fun t ht => ?_⟩
    have s4 := Same.new (o := .tup [.int ((((i : Nat) : Int) - ((KM.spots k R).length : Nat)) / ((KM.spots k B).length : Nat)), .int ((((i : Nat) : Int) - ((KM.spots k R).length : Nat)) % ((KM.spots k B).length : Nat))]) ht
    have ediv : (((i : Nat) : Int) - ((KM.spots k R).length : Nat)) / ((KM.spots k B).length : Nat) = (((i - (KM.spots k R).length) / (KM.spots k B).length : Nat) : Int) := by
      rw [show ((i : Nat) : Int) - ((KM.spots k R).length : Nat) = ((i - (KM.spots k R).length : Nat) : Int) by omega, Int.natCast_ediv]
    have emod : (((i : Nat) : Int) - ((KM.spots k R).length : Nat)) % ((KM.spots k B).length : Nat) = (((i - (KM.spots k R).length) % (KM.spots k B).length : Nat) : Int) := by
      rw [show ((i : Nat) : Int) - ((KM.spots k R).length : Nat) = ((i - (KM.spots k R).length : Nat) : Int) by omega, Int.natCast_emod]
    refine ⟨t, _, rfl, SqT.of upd_same, rfl, _, _, rfl, _, _, rfl, rfl, ?_⟩
    have s5 := s123.trans s4
    have hm4 := s4 _ _ hm3
    generalize upd H3 t _ = H4 at s5 hm4 ⊢
    have zt : (i - (KM.spots k R).length) / (KM.spots k B).length ≤ 2 ^ 60 := Nat.le_trans (Nat.div_le_self _ _) (by omega)
    have zr := Nat.mod_lt (i - (KM.spots k R).length) zb
    refine ⟨_, rfl, e, _, dx, _, .ref kr, rfl, s5 _ _ p.at_, Z.c_Endless, Z.n_Endless_kept_recent, rfl, kr, _, rfl, .inl (SqL.of (s5 _ _ p.kr_)), ?_⟩
    refine ⟨_, rfl, _, rfl, e, _, dx, _, .ref kb, rfl, s5 _ _ p.at_, Z.c_Endless, Z.n_Endless_kept_block, rfl, kb, _, rfl, .inl (SqL.of (s5 _ _ p.kb_)), ?_⟩
    rw [List.length_map, List.length_map]
    have hsp : ((KM.spots k B).map fun j => V.int (j : Nat))[(i - (KM.spots k R).length) % (KM.spots k B).length]? = some (.int (((KM.spots k B).getD ((i - (KM.spots k R).length) % (KM.spots k B).length) 0 : Nat) : Int)) := by
      rw [List.getElem?_map, List.getD_eq_getElem?_getD, List.getElem?_eq_getElem zr]
      rfl
    refine ⟨_, _, rfl, rfl, .inr ⟨by omega, by omega⟩, _, _, rfl, rfl, _, rfl, _, rfl, m, _, _, _, rfl, rfl, SqL.of hm4, at_ofA (j := (i - (KM.spots k R).length) % (KM.spots k B).length) emod hsp, _, _, rfl, rfl, ?_⟩
    have q1 := q H4 s5
    rw [hnth] at q1
    have e : (((R.length : Nat) : Int) + (((i - (KM.spots k R).length) / (KM.spots k B).length : Nat) : Int) * ((B.length : Nat) : Int)) + (((KM.spots k B).getD ((i - (KM.spots k R).length) % (KM.spots k B).length) 0 : Nat) : Int) = ((R.length + (i - (KM.spots k R).length) / (KM.spots k B).length * B.length + (KM.spots k B).getD ((i - (KM.spots k R).length) % (KM.spots k B).length) 0 : Nat) : Int) := by
      rw [Int.natCast_add, Int.natCast_add, Int.natCast_mul]
    rw [← ediv] at e
    have q2 : Q (V.int ((((R.length : Nat) : Int) + (((i : Nat) : Int) - ((KM.spots k R).length : Nat)) / ((KM.spots k B).length : Nat) * ((B.length : Nat) : Int)) + (((KM.spots k B).getD ((i - (KM.spots k R).length) % (KM.spots k B).length) 0 : Nat) : Int))) H4 := by rw [e]; exact q1
    exact q2
end
end Ku

/-! KuQ1 -/
set_option Elab.async false
set_option linter.all false
set_option maxRecDepth 100000
set_option maxHeartbeats 8000000
namespace Ku
open PySem PySem.Spec PyProof.Rows L2 KuS KuD
/-- {x: f x for x in ks}, ks a list of texts -/
theorem dc_strs {K : PySem.W.Frag} {a : Addr} {ks : List Str} {i : Nat} {tk tv : TE} {vs : List Nat} {σ : L2.St} {H1 : Hp} {D : Addr} {Qd : Hp → Prop} (f : Str → V) (nd : ks.Nodup) (hn : ks.length ≤ 100000) (hD : H1 D = none) (hq : H1 a = some (.lst (ks.map V.str)))
    (hw : ∀ x, wipe ((wipe σ vs).set i (some x)) vs = wipe σ vs)
    (hk : ∀ (x : Str) (H : Hp) (Q : VK), Q (.str x) H → tk ((wipe σ vs).set i (some (.str x))) H Q)
    (hs : ∀ (x : Str) (H : Hp) (Q : VK), x ∈ ks → Same H1 H → (∀ H', Same H H' → Q (f x) H') → tv ((wipe σ vs).set i (some (.str x))) H Q)
    (hd : ∀ H : Hp, Same H1 H → H D = some (.dK (gd f ks)) → Qd H) :
    ∃ W : Nat → Nat → Hp → Prop, (∃ m, W 0 m (upd H1 D (.dK []))) ∧ ∀ j m H, W j m H →
      ((Itl K a).stop j H ∧ Qd H) ∨ ((Itl K a).go j H ∧ ∃ Nx : Hp → Prop, (∀ H', Nx H' → ∃ m', m' < m ∧ W (j + 1) m' H') ∧ ∀ x H', (Itl K a).yld j H x H' → gName i x (wipe σ vs) H' fun σ2 H2 => wipe σ2 vs = wipe σ vs ∧ tYes σ2 H2 fun b H3 =>
        if b = true then tk σ2 H3 fun y H4 => tv σ2 H4 fun z H5 => ∃ kvs k, y = kV k ∧ H5 D = some (.dK kvs) ∧ kvs.length < sizeLine ∧ Nx (upd H5 D (.dK (putK kvs k z))) else Nx H3) := by
  let Pv : Nat → Hp → Prop := fun j H => Same H1 H ∧ H D = some (.dK (gd f (ks.take j)))
  refine ⟨fun j m H => m = ks.length - j ∧ j ≤ ks.length ∧ Pv j H, ⟨ks.length, by simp, Nat.zero_le _, Same.new hD, by rw [List.take_zero]; exact upd_same⟩, ?_⟩
  rintro j m H ⟨rfl, hj, s, hd'⟩
  have hl : (ks.map V.str).length = ks.length := List.length_map _
  have q := s _ _ hq
  by_cases hlt : j < ks.length
  · have hz : ks[j]? = some ks[j] := List.getElem?_eq_getElem hlt
    refine .inr ⟨⟨ks.map V.str, .str ks[j], SqL.of q, by rw [List.getElem?_map, hz]; rfl⟩, Pv (j + 1), fun H' p' => ⟨ks.length - (j + 1), by omega, rfl, hlt, p'⟩, fun x H' y => ?_⟩
    obtain ⟨e, y⟩ := y
    subst e
    have hx := y _ (SqL.of q)
    rw [List.getElem?_map, hz] at hx
    cases hx
    refine ⟨hw _, ?_⟩
    show tk _ _ _
    refine hk _ _ _ (hs _ _ _ (List.getElem_mem hlt) s fun H' s' => ?_)
    have nk : ¬ ks[j] ∈ ks.take j := fun h => by
      obtain ⟨i, hi⟩ := List.mem_iff_getElem?.mp h
      rw [List.getElem?_take] at hi
      split at hi
      · rename_i hij
        have := (List.getElem?_inj (by omega) nd).mp (hi.trans hz.symm)
        omega
      · cases hi
    refine ⟨_, .inr ks[j], rfl, s' _ _ hd', ?_, Same.mut (s.trans s') hD, ?_⟩
    · rw [List.length_map, List.length_take]
      exact Nat.lt_of_lt_of_le (show min j ks.length < 100000 by omega) (by decide)
    · rw [upd_same, gd_add nk, List.take_add_one, hz]
      refine congrArg (fun l => some (HO.dK l)) ?_
      show _ = List.map _ (_ ++ _)
      rw [List.map_append]
      rfl
  · have e : j = ks.length := by omega
    subst e
    rw [List.take_length] at hd'
    exact .inl ⟨⟨_, SqL.of q, by rw [hl]; exact Nat.le_refl _⟩, hd H s hd'⟩
/-- the class Race -/
abbrev cR (K : PySem.W.Frag) : Addr := He.ga K "Race"
def raF (e q p : Addr) (n : Nat) (m : Addr) : List (Str × V) := [("history", .ref e), ("gone", .ref q), ("places", .ref p), ("rounds", .int (n : Nat)), ("met", .ref m)]
/-- a race at x -/
structure Ra (K : PySem.W.Frag) (B R : List Str) (H : Hp) (x dx e q p m : Addr) (g : Str → Nat) (n : Nat) (kvs : List (List Key × V)) : Prop where
  at_ : H x = some (.ins (cR K) dx (raF e q p n m))
  en : En K B R (hideL [x, q, p, m] H) e
  ls : LS B R (kinds B R) g H p q
  met : H m = some (.dT kvs)
theorem raF_put (e q p : Addr) (n : Nat) (m : Addr) : putF "met" (.ref m) (putF "rounds" (.int (n : Nat)) (putF "places" (.ref p) (putF "gone" (.ref q) (putF "history" (.ref e) [])))) = raF e q p n m := by rfl
theorem En.but {K : PySem.W.Frag} {B R : List Str} {H H' : Hp} {x e : Addr} {o : HO} (h : En K B R H e) (b : But [x] H H') (hx : H x = some o) (n1 : ∀ l, o ≠ .lst l) (n2 : ∀ l, o ≠ .dK l) (n3 : x ≠ e) : En K B R H' e := by
  obtain ⟨dx, kb, kr, bs, rs, kvb, kvr, p⟩ := h
  have nl : ∀ {a : Addr} {l : List V}, H a = some (.lst l) → a ∉ [x] := fun {a l} h m => by rw [List.mem_singleton.mp m, hx] at h; cases h; exact n1 _ rfl
  have nk : ∀ {a : Addr} {l : List (Key × V)}, H a = some (.dK l) → a ∉ [x] := fun {a l} h m => by rw [List.mem_singleton.mp m, hx] at h; cases h; exact n2 _ rfl
  have sp : ∀ {kvs : List (Key × V)} {f : Str → List Nat}, SpD kvs f H → SpD kvs f H' := fun {kvs f} s k => ⟨(s k).1, fun e => by
    obtain ⟨a, h1, h2⟩ := (s k).2 e
    exact ⟨a, h1, b _ _ (nl h2) h2⟩⟩
  exact ⟨dx, kb, kr, bs, rs, kvb, kvr, b _ _ (fun m => n3 (List.mem_singleton.mp m).symm) p.at_, b _ _ (nl p.kb_) p.kb_, b _ _ (nl p.kr_) p.kr_, b _ _ (nk p.bs_) p.bs_, sp p.sb, b _ _ (nk p.rs_) p.rs_, sp p.sr⟩
section
variable {P : Program} {w : World} {K : PySem.W.Frag} {mg : Str → Option Value} {base : Heap}
/-! ### Race.__init__ -/
def spRaInit (K : PySem.W.Frag) : Sp := fun vs H Q _ => ∃ (x dx e : Addr) (B R : List Str), vs = [.ref x, .ref e] ∧ H x = some (.ins (cR K) dx []) ∧ En K B R H e ∧ x ≠ e ∧ B.length ≤ 100 ∧ R.length ≤ 100 ∧
  ∀ (q p m : Addr) (H' : Hp), But [x] H H' → H q = none → H p = none → H m = none → p ≠ q → Ra K B R H' x dx e q p m (fun _ => 0) 0 [] → Q .non H'
abbrev nmRaInit : List Str := ["self", "history", "kind"]
theorem sc_Race_init : FnScope nmRaInit ["self", "history"] (defScope s_Race_init) := fnScope_dec (by decide +kernel)
theorem mak_Race (Z : Say K mg) : Mak P w K mg base 2 "Race" (cR K) (spRaInit K) := by
  obtain ⟨fd, F⟩ := Z.D_Race_init
  have cK : Met P w K mg base 1 (cE K) "kinds" (spEnKinds K) := met_En_kinds Z
  have cN : Met P w K mg base 1 (cE K) "nth" (spEnNth K) := met_En_nth Z
  refine ⟨_, fd, ["self", "history"], fn_ok F sc_Race_init (fun vs H Q E h => ?_) (fun cdv A outer s H vs Q E hr h => ?_), Z.k_Race, Z.g_Race, F.bindsN fun _ _ _ _ _ _ us hl => match us, hl with | [_, _], _ => rfl⟩
  · obtain ⟨x, dx, e, B, R, rfl, _⟩ := h
    rfl
  · obtain ⟨x, dx, e, B, R, rfl, hx, hen, nxe, zB, zR, qq⟩ := h
    have nd := sc_Race_init.nd
    refine ⟨_, pss_cons (ps_fld (pv 0) (pv 1) rfl)
      (pss_cons (ps_fld (pv 0) (pe_dc (own := [("kind", 2)]) (g := gName 2) (tt := tYes) rfl nd (pi_list (pe_mt0 cK hr (by decide) (pv 1))) (blkOk_by (N := nmRaInit) (sc := defScope s_Race_init) (by decide +kernel)) (fun _ _ _ _ _ => pg_name (i := 2) nd rfl (Or.inl rfl)) (fun _ _ _ _ _ => pts_nil) (fun _ _ _ _ _ => pv 2) (fun _ _ _ _ _ => pe_int)) rfl)
      (pss_cons (ps_fld (pv 0) (pe_dc (own := [("kind", 2)]) (g := gName 2) (tt := tYes) rfl nd (pi_list (pe_mt0 cK hr (by decide) (pv 1))) (blkOk_by (N := nmRaInit) (sc := defScope s_Race_init) (by decide +kernel)) (fun _ _ _ _ _ => pg_name (i := 2) nd rfl (Or.inl rfl)) (fun _ _ _ _ _ => pts_nil) (fun _ _ _ _ _ => pv 2)
          (fun _ _ _ _ _ => pe_mt cN hr (by decide) (pv 1) (pa_cons (pv 2) (pa_cons pe_int pa_nil)))) rfl)
      (pss_cons (ps_fld (pv 0) pe_int rfl)
      (pss_one (ps_fld (pv 0) pe_dnewT rfl))))), ?_⟩
    have bx : ∀ {Ha : Hp} {o : HO}, But [x] H Ha → But [x] H (upd Ha x o) := fun b => b.mut (by simp)
    -- history
    refine ⟨_, rfl, _, rfl, x, _, dx, [], rfl, hx, Z.c_Race, Z.n_Race_history, by decide, ?_⟩
    have b1 : But [x] H (upd H x (.ins (cR K) dx (putF "history" (.ref e) []))) := bx But.refl
    have x1 : upd H x (.ins (cR K) dx (putF "history" (.ref e) [])) x = _ := upd_same
    generalize upd H x (.ins (cR K) dx (putF "history" (.ref e) [])) = H1 at b1 x1 ⊢
    have en1 : En K B R H1 e := hen.but b1 hx (fun _ z => nomatch z) (fun _ z => nomatch z) nxe
    -- gone
    obtain ⟨dxe, kb, kr, bs, rs, kvb, kvr, pe⟩ := id en1
    refine ⟨_, rfl, e, dxe, _, rfl, pe.at_, rfl, e, B, R, rfl, en1, zB, zR, fun k1 H2 s2 fk1 hk1 => ⟨k1, rfl, ⟨_, SqL.of hk1⟩, fun q hq => ?_⟩⟩
    refine dc_strs (K := K) (a := k1) (ks := kinds B R) (fun _ => .int ((0 : Nat) : Int)) (kset_nodup _) (Nat.le_trans (kset_len _) (by rw [List.length_append]; omega)) hq hk1 (fun _ => rfl) (fun y Ha Q' h => ⟨_, rfl, h⟩) (fun y Ha Q' _ _ h => h Ha (Same.refl Ha)) fun H3 s3 hq3 => ⟨_, rfl, ?_⟩
    have b3 := (b1.trans (But.of s2)).trans (But.of s3)
    have fq : H q = none := by
      cases c : H q with
      | none => rfl
      | some o =>
        by_cases cx : q = x
        · rw [cx, s2 _ _ x1] at hq; cases hq
        · rw [(b1.trans (But.of s2)) q o (by simpa using cx) c] at hq; cases hq
    have x3 := s3 _ _ (s2 _ _ x1)
    have nqx : q ≠ x := ne_of hq3 x3 fun z => nomatch z
    refine ⟨x, _, dx, _, rfl, x3, Z.c_Race, Z.n_Race_gone, Nat.lt_of_lt_of_le (putF_lt fs_nil) (by decide), ?_⟩
    have b4 : But [x] H (upd H3 x (.ins (cR K) dx (putF "gone" (.ref q) (putF "history" (.ref e) [])))) := bx b3
    have x4 : upd H3 x (.ins (cR K) dx (putF "gone" (.ref q) (putF "history" (.ref e) []))) x = _ := upd_same
    have q4 : upd H3 x (.ins (cR K) dx (putF "gone" (.ref q) (putF "history" (.ref e) []))) q = _ := (upd_ne nqx).trans hq3
    generalize upd H3 x (.ins (cR K) dx (putF "gone" (.ref q) (putF "history" (.ref e) []))) = H4 at b4 x4 q4 ⊢
    have en4 : En K B R H4 e := hen.but b4 hx (fun _ z => nomatch z) (fun _ z => nomatch z) nxe
    -- places
    obtain ⟨dxe4, kb4, kr4, bs4, rs4, kvb4, kvr4, pe4⟩ := id en4
    refine ⟨_, rfl, e, dxe4, _, rfl, pe4.at_, rfl, e, B, R, rfl, en4, zB, zR, fun k2 H5 s5 fk2 hk2 => ⟨k2, rfl, ⟨_, SqL.of hk2⟩, fun p hp => ?_⟩⟩
    have en5 := en4.mono s5
    refine dc_strs (K := K) (a := k2) (ks := kinds B R) (fun k => ov (KM.nth B R k 0)) (kset_nodup _) (Nat.le_trans (kset_len _) (by rw [List.length_append]; omega)) hp hk2 (fun _ => rfl) (fun y Ha Q' h => ⟨_, rfl, h⟩) (fun y Ha Q' _ sa h => ?_) fun H6 s6 hp6 => ⟨_, rfl, ?_⟩
    · have ena := en5.mono sa
      obtain ⟨dxa, kba, kra, bsa, rsa, kvba, kvra, pa⟩ := id ena
      exact ⟨_, rfl, e, dxa, _, rfl, pa.at_, rfl, _, rfl, e, B, R, y, 0, rfl, ena, zB, zR, by decide, h⟩
    have b6 := (b4.trans (But.of s5)).trans (But.of s6)
    have x6 := s6 _ _ (s5 _ _ x4)
    have q6 := s6 _ _ (s5 _ _ q4)
    have npx : p ≠ x := ne_of hp6 x6 fun z => nomatch z
    have fp : H p = none := by
      cases c : H p with
      | none => rfl
      | some o =>
        rw [(b4.trans (But.of s5)) p o (by simpa using npx) c] at hp; cases hp
    have npq : p ≠ q := fun e => by rw [e, s5 _ _ q4] at hp; cases hp
    refine ⟨x, _, dx, _, rfl, x6, Z.c_Race, Z.n_Race_places, Nat.lt_of_lt_of_le (putF_lt (putF_lt fs_nil)) (by decide), ?_⟩
    have b7 : But [x] H (upd H6 x (.ins (cR K) dx (putF "places" (.ref p) (putF "gone" (.ref q) (putF "history" (.ref e) []))))) := bx b6
    have x7 : upd H6 x (.ins (cR K) dx (putF "places" (.ref p) (putF "gone" (.ref q) (putF "history" (.ref e) [])))) x = _ := upd_same
    have q7 : upd H6 x (.ins (cR K) dx (putF "places" (.ref p) (putF "gone" (.ref q) (putF "history" (.ref e) [])))) q = _ := (upd_ne nqx).trans q6
    have p7 : upd H6 x (.ins (cR K) dx (putF "places" (.ref p) (putF "gone" (.ref q) (putF "history" (.ref e) [])))) p = _ := (upd_ne npx).trans hp6
    generalize upd H6 x (.ins (cR K) dx (putF "places" (.ref p) (putF "gone" (.ref q) (putF "history" (.ref e) [])))) = H7 at b7 x7 q7 p7 ⊢
    -- rounds, met
    refine ⟨_, rfl, x, _, dx, _, rfl, x7, Z.c_Race, Z.n_Race_rounds, Nat.lt_of_lt_of_le (putF_lt (putF_lt (putF_lt fs_nil))) (by decide), ?_⟩
    have b8 : But [x] H (upd H7 x (.ins (cR K) dx (putF "rounds" (.int ((0 : Nat) : Int)) (putF "places" (.ref p) (putF "gone" (.ref q) (putF "history" (.ref e) [])))))) := bx b7
    have x8 : upd H7 x (.ins (cR K) dx (putF "rounds" (.int ((0 : Nat) : Int)) (putF "places" (.ref p) (putF "gone" (.ref q) (putF "history" (.ref e) []))))) x = _ := upd_same
    have q8 : upd H7 x (.ins (cR K) dx (putF "rounds" (.int ((0 : Nat) : Int)) (putF "places" (.ref p) (putF "gone" (.ref q) (putF "history" (.ref e) []))))) q = _ := (upd_ne nqx).trans q7
    have p8 : upd H7 x (.ins (cR K) dx (putF "rounds" (.int ((0 : Nat) : Int)) (putF "places" (.ref p) (putF "gone" (.ref q) (putF "history" (.ref e) []))))) p = _ := (upd_ne npx).trans p7
    refine fun m hm => ⟨_, rfl, ?_⟩
    have hm8 : upd H7 x (.ins (cR K) dx (putF "rounds" (.int ((0 : Nat) : Int)) (putF "places" (.ref p) (putF "gone" (.ref q) (putF "history" (.ref e) []))))) m = none := hm
    have s9 := Same.new (o := .dT []) hm8
    have nmx : m ≠ x := fun z => by rw [z, x8] at hm8; cases hm8
    have fm : H m = none := by
      cases c : H m with
      | none => rfl
      | some o =>
        rw [b8 m o (by simpa using nmx) c] at hm8; cases hm8
    refine ⟨x, _, dx, _, rfl, s9 _ _ x8, Z.c_Race, Z.n_Race_met, Nat.lt_of_lt_of_le (putF_lt (putF_lt (putF_lt (putF_lt fs_nil)))) (by decide), ?_⟩
    have b9 := bx (o := .ins (cR K) dx (raF e q p 0 m)) (b8.trans (But.of s9))
    have bh : But [x] H (hideL [x, q, p, m] (upd (upd (upd H7 x (.ins (cR K) dx (putF "rounds" (.int ((0 : Nat) : Int)) (putF "places" (.ref p) (putF "gone" (.ref q) (putF "history" (.ref e) [])))))) m (.dT [])) x (.ins (cR K) dx (raF e q p 0 m)))) := fun a o na h => by
      refine hideL_at (b9 a o na h) fun z => ?_
      simp only [List.mem_cons, List.not_mem_nil, or_false] at z na
      rcases z with z | z | z | z
      · exact na z
      · rw [z, fq] at h; cases h
      · rw [z, fp] at h; cases h
      · rw [z, fm] at h; cases h
    refine qq q p m _ b9 fq fp fm npq ⟨upd_same, hen.but bh hx (fun _ z => nomatch z) (fun _ z => nomatch z) nxe, ⟨?_, ?_⟩, ?_⟩
    · rw [upd_ne npx]; exact s9 _ _ p8
    · rw [upd_ne nqx]; exact s9 _ _ q8
    · rw [upd_ne nmx]; exact upd_same
end
end Ku

/-! KuQ2 -/
set_option Elab.async false
set_option linter.all false
set_option maxRecDepth 100000
set_option maxHeartbeats 8000000
namespace Ku
open PySem PySem.Spec PyProof.Rows L2 KuS KuD
/-- a field, the written part named -/
theorem fldK {X : Cx} {e : Expr} {f : Str} {pos : Pos} {ta : TE} (K : PySem.W.Frag) (he : PE X e ta) (hb : attributeBase e f X.env (eval e X.env) = eval e X.env := by rfl) (h : X.K = K := by rfl) : PE X (.Attribute e f pos) (tFld K ta f) := by
  subst h
  exact pe_fld he hb
/-- the dict of who met whom last -/
abbrev kP (x : Str × Str) : List Key := [.inr x.1, .inr x.2]
def putAll (n : Nat) (l : List (Str × Str)) (kvs : List (List Key × V)) : List (List Key × V) := l.foldl (fun a x => putK a (kP x) (.int (n : Nat))) kvs
theorem putAll_len (n : Nat) : ∀ (l : List (Str × Str)) (kvs : List (List Key × V)), (putAll n l kvs).length ≤ kvs.length + l.length
  | [], kvs => Nat.le_refl _
  | x :: r, kvs => by
    have h1 := putAll_len n r (putK kvs (kP x) (.int (n : Nat)))
    have h2 := length_putK kvs (kP x) (V.int (n : Nat))
    show (putAll n r (putK kvs (kP x) (.int (n : Nat)))).length ≤ _
    rw [List.length_cons]
    omega
theorem Ra.move {K : PySem.W.Frag} {B R : List Str} {H H' : Hp} {x dx e q p m : Addr} {g g' : Str → Nat} {n n' : Nat} {kvs kvs' : List (List Key × V)} (r : Ra K B R H x dx e q p m g n kvs) (b : But [x, q, p, m] H H')
    (h1 : H' x = some (.ins (cR K) dx (raF e q p n' m))) (h2 : LS B R (kinds B R) g' H' p q) (h3 : H' m = some (.dT kvs')) : Ra K B R H' x dx e q p m g' n' kvs' := ⟨h1, r.en.mono (hideL_but b), h2, h3⟩
section
variable {P : Program} {w : World} {K : PySem.W.Frag} {mg : Str → Option Value} {base : Heap}
/-! ### Race.take -/
def spRaTake (K : PySem.W.Frag) : Sp := fun vs H Q _ => ∃ (x dx e q p m l : Addr) (B R some_ : List Str) (g : Str → Nat) (n : Nat) (kvs : List (List Key × V)), vs = [.ref x, .ref l] ∧ Ra K B R H x dx e q p m g n kvs ∧ p ≠ q ∧ SqT K H l (some_.map V.str) ∧ some_.length ≤ 100 ∧ (∀ k ∈ some_, Kd k) ∧ B ≠ [] ∧ B.length ≤ 100 ∧ R.length ≤ 100 ∧ Small g ∧ kvs.length ≤ 10000000 ∧
  ∀ H' : Hp, But [q, p, m] H H' → Ra K B R H' x dx e q p m (KM.stepG B R g some_) n (putAll n (KM.meets B R g some_) kvs) → Q .non H'
abbrev nmRaTake : List Str := ["self", "some", "kind", "racing", "winner", "place"]
theorem sc_Race_take : FnScope nmRaTake ["self", "some"] (defScope s_Race_take) := fnScope_dec (by decide +kernel)
theorem met_Ra_take (Z : Say K mg) : Met P w K mg base 2 (cR K) "take" (spRaTake K) := by
  obtain ⟨fd, F⟩ := Z.D_Race_take
  have cN : Met P w K mg base 1 (cE K) "nth" (spEnNth K) := met_En_nth Z
  refine ⟨_, fd, ["self", "some"], fn_ok F sc_Race_take (fun vs H Q E h => ?_) (fun cdv A outer s H vs Q E hr h => ?_), Z.c_Race, Z.m_Race_take, F.bindsN fun _ _ _ _ _ _ us hl => match us, hl with | [_, _], _ => rfl⟩
  · obtain ⟨x, dx, e, q, p, m, l, B, R, some_, g, n, kvs, rfl, _⟩ := h
    rfl
  · obtain ⟨x, dx, e, q, p, m, l, B, R, some_, g, n, kvs, rfl, ra, npq, hl, zs, kd, hne, zB, zR, sg, zk, qq⟩ := h
    have nd := sc_Race_take.nd
    have hu := hr.units
    have hu1 : (A.deeper (envOfC d_Race_take.qual d_Race_take.scope s.heap.objs.size (He.fAd K d_Race_take.at_) cdv)).units + 1 < cLine := by omega
    refine ⟨_, pss_cons (ps_setLc (i := 3) (own := [("kind", 2)]) (g := gName 2) rfl nd rfl rfl (sw_true rfl rfl rfl (by decide +kernel)) (pi_tup (pv 1)) (blkOk_by (N := nmRaTake) (sc := defScope s_Race_take) (by decide +kernel)) (fun _ _ _ _ _ => pg_name (i := 2) nd rfl (Or.inl rfl))
            (fun _ _ _ _ _ => pts_one (pt_cmp (pc_notN (pe_dget1 hu1 (fldK K (pv 0)) (pv 2) ⟨rfl, rfl, rfl, rfl⟩))))
            (fun _ _ _ _ _ => pe_tup (pa_cons (pe_dget hu1 (fldK K (pv 0)) (pv 2) (fun _ _ => rfl)) (pa_cons (pv 2) pa_nil))))
      (pss_cons (ps_if (pt_cmpR (op_eqD hu) (pv 3) (pe_lst pa_nil) (nomark _)) (pss_one ps_retN) pss_nil)
      (pss_cons (ps_set (i := 4) nd rfl (Or.inl rfl) (pe_ix ix_tup (pe_callB (cr_minP rfl hu) rfl Z.f_min PyProof.Rows.boot_min (pa_cons (pv 3) pa_nil)) pe_int (fun _ _ => rfl)))
      (pss_cons (ps_for PassesOwn.never rfl (pi_list (pv 3)) (pg_tup rfl (pgs_cons (pg_name (i := 5) nd rfl (Or.inl rfl)) (pgs_cons (pg_name (i := 2) nd rfl (Or.inl rfl)) pgs_nil)))
          (pss_one (ps_if (pt_cmpR op_ne (pv 2) (pv 4) (nomark _)) (pss_one (ps_dput hu1 (pe_fld (pv 0) rfl) (pe_tup (pa_cons (pv 4) (pa_cons (pv 2) pa_nil))) (pe_fld (pv 0) rfl) rfl)) pss_nil)))
      (pss_cons (ps_daug hu1 (pe_fld (pv 0) rfl) (pv 4) pe_int in_add (fun _ _ _ => rfl))
      (pss_one (ps_dput hu1 (pe_fld (pv 0) rfl) (pv 4) (pe_mt cN hr (by decide) (pe_fld (pv 0) rfl) (pa_cons (pv 4) (pa_cons (pe_dget hu1 (pe_fld (pv 0) rfl) (pv 4) (fun _ _ => rfl)) pa_nil))) rfl)))))), ?_⟩
    obtain ⟨dxe, kb, kr, bs, rs, kvb, kvr, pe⟩ := id ra.en
    have nxp : x ≠ p := ne_of ra.at_ ra.ls.pl fun z => nomatch z
    have nxq : x ≠ q := ne_of ra.at_ ra.ls.go fun z => nomatch z
    have nxm : x ≠ m := ne_of ra.at_ ra.met fun z => nomatch z
    have npm : p ≠ m := ne_of ra.ls.pl ra.met fun z => nomatch z
    have nqm : q ≠ m := ne_of ra.ls.go ra.met fun z => nomatch z
    -- who races
    refine ⟨_, rfl, l, rfl, ⟨_, hl⟩, fun D hD => ?_⟩
    refine lc_race (K := K) (a := l) (ns := some_) (fun k => KM.nth B R k (g k)) (by omega) hD hl (fun _ => rfl) ?_ ?_ ?_
    · intro y H' Q' hy s' q'
      refine ⟨_, rfl, x, _, dx, _, .ref p, rfl, s' _ _ ra.at_, Z.c_Race, Z.n_Race_places, rfl, p, rfl, .inl ⟨_, .inl (s' _ _ ra.ls.pl)⟩, _, rfl, _, DGet.k (k := .inr y) (s' _ _ ra.ls.pl), ?_⟩
      rw [gd_get _ _ _ pl_out]
      refine ⟨_, rfl, ?_⟩
      cases e : KM.nth B R y (g y) with
      | none => rw [e] at q'; exact q'
      | some z => rw [e] at q'; exact q'
    · intro y z H' Q' hy ey s' q'
      refine ⟨_, rfl, x, _, dx, _, .ref p, rfl, s' _ _ ra.at_, Z.c_Race, Z.n_Race_places, rfl, _, rfl, p, .int z, rfl, ?_, _, rfl, by show 2 ≤ sizeLine; decide, q'⟩
      have e := DGet.k (k := .inr y) (s' _ _ ra.ls.pl)
      rw [gd_in (kinds_mem ey)] at e
      have ey : KM.nth B R y (g y) = some z := ey
      rw [ey] at e
      exact e
    intro Ha ps s1 hd hf pp
    have pp : Paired (fun t (b : Nat × Str) => Ha t = some (.tup [.int b.1, .str b.2])) ps (KM.racing B R g some_) := pp
    have zra : (KM.racing B R g some_).length ≤ 100 := Nat.le_trans (List.length_filterMap_le _ _) zs
    have kdr : ∀ b ∈ KM.racing B R g some_, Kd b.2 := fun b hb => kd _ (KM.mem_racing.mp hb).1
    -- is there one at all
    refine ⟨_, rfl, by show 0 ≤ sizeLine; decide, fun e1 he1 => ?_⟩
    have sE := Same.new (o := .lst []) he1
    have pp2 := pair_imp pp fun t b _ e => sE _ _ e
    have hd2 := sE _ _ hd
    refine ⟨.list ((KM.racing B R g some_).map eP), .list [], .lst (SqL.of hd2) (pairs_dpa pp2), .lst (SqL.of upd_same) .nil, shaped_pairs kdr, rfl, _, rfl, ?_⟩
    rw [eqv_nil]
    have s2 := s1.trans sE
    generalize upd Ha e1 (.lst []) = H2 at s2 hd2 pp2 ⊢
    by_cases er : KM.racing B R g some_ = []
    · have ew : KM.winner B R g some_ = none := KM.winner_none.mpr er
      have ez : ((KM.racing B R g some_).map eP).isEmpty = true := by rw [er]; rfl
      refine iteTe ez ?_
      have eg : KM.stepG B R g some_ = g := by unfold KM.stepG; rw [ew]
      have em : KM.meets B R g some_ = [] := by unfold KM.meets; rw [ew]
      refine qq H2 (But.of s2) (ra.move (But.of s2) (s2 _ _ ra.at_) ?_ ?_)
      · rw [eg]; exact ra.ls.mono s2
      · rw [em]; exact s2 _ _ ra.met
    have ez : ((KM.racing B R g some_).map eP).isEmpty = false := by
      cases h : KM.racing B R g some_ with
      | nil => exact absurd h er
      | cons => rfl
    refine iteFe ez ?_
    -- the winner
    refine ⟨_, rfl, D, _, KM.racing B R g some_, rfl, SqL.of hd2, pairs_dpa pp2, er, fun v b hb hmin hv => ?_⟩
    obtain ⟨ta, xs, rfl, hta, hxs⟩ := dp_tuple hv
    obtain ⟨x1, x2, rfl, rfl, rfl⟩ : ∃ x1 x2, xs = [x1, x2] ∧ x1 = .int (b.1 : Nat) ∧ x2 = .str b.2 := by
      cases hxs with
      | cons h1 h2 =>
        cases h2 with
        | cons h3 h4 =>
          cases h4
          exact ⟨_, _, rfl, dp_int h1, dp_str h3⟩
    have hb : (b.1, b.2) ∈ KM.racing B R g some_ := hb
    obtain ⟨hp1, hp2⟩ := KM.mem_racing.mp hb
    have ew : KM.winner B R g some_ = some b.2 := KM.winner_some.mpr ⟨b.1, hb, hmin⟩
    generalize hbw : b.2 = wn at ew hp1 hp2 hb hta ⊢
    refine ⟨ta, _, 1, .str wn, rfl, rfl, hta, at_ofA (j := 1) rfl rfl, ?_⟩
    have em : KM.meets B R g some_ = ((KM.racing B R g some_).filter fun z => decide (z.2 ≠ wn)).map fun z => (wn, z.2) := by unfold KM.meets; rw [ew]
    -- whom it met
    let ml : Nat → List (Str × Str) := fun i => (((KM.racing B R g some_).take i).filter fun z => decide (z.2 ≠ wn)).map fun z => (wn, z.2)
    have zml : ∀ i, (ml i).length ≤ 100 := fun i => by
      show ((((KM.racing B R g some_).take i).filter _).map _).length ≤ 100
      rw [List.length_map]
      exact Nat.le_trans (List.length_filter_le _ _) (by rw [List.length_take]; omega)
    refine ⟨_, rfl, D, rfl, ⟨_, SqL.of hd2⟩, ?_⟩
    refine for_list (K := K) (a := D) (xs := ps.map V.ref) (fun i σ H' => (∃ v2 v5 : Option V, σ = [some (.ref x), some (.ref l), v2, some (.ref D), some (.str wn), v5]) ∧ But [m] H2 H' ∧ H' m = some (.dT (putAll n (ml i) kvs)))
      ⟨⟨_, _, rfl⟩, But.refl, s2 _ _ ra.met⟩ (fun i σ H' _ h => SqL.of (h.2.1 _ _ (fun z => by rw [List.mem_singleton.mp z, s2 _ _ ra.met] at hd2; cases hd2) hd2)) ?_ ?_
    · rintro i y σ H' hy ⟨⟨v2, v5, rfl⟩, b', hm'⟩
      rw [List.getElem?_map] at hy
      obtain ⟨t, et, rfl⟩ := Option.map_eq_some_iff.mp hy
      obtain ⟨z, hz, ht⟩ := LiI.paired_get pp2 et
      have nm : ∀ {a : Addr} {o : HO}, H2 a = some o → (∀ k, o ≠ .dT k) → H' a = some o := fun {a o} h no => b' _ _ (fun c => by rw [List.mem_singleton.mp c, s2 _ _ ra.met] at h; cases h; exact no _ rfl) h
      have ht' := nm ht (fun _ z => nomatch z)
      have hx' := nm (s2 _ _ ra.at_) (fun _ z => nomatch z)
      have eml : ml (i + 1) = ml i ++ if z.2 ≠ wn then [(wn, z.2)] else [] := by
        show ((((KM.racing B R g some_).take (i + 1)).filter _).map _) = _
        rw [List.take_add_one, hz, List.filter_append, List.map_append]
        by_cases c : z.2 = wn <;> simp [ml, c]
      refine ⟨t, _, rfl, SqT.of ht', rfl, _, _, rfl, _, _, rfl, rfl, ?_⟩
      refine ⟨_, rfl, _, rfl, rfl, _, rfl, ?_⟩
      by_cases c : z.2 = wn
      · refine iteFe (by rw [c]; simp) ⟨⟨_, _, rfl⟩, b', ?_⟩
        rw [eml, if_neg (fun h => h c), List.append_nil]
        exact hm'
      · refine iteTe (by simp [c]) ?_
        refine ⟨_, rfl, x, _, dx, _, .int (n : Nat), rfl, hx', Z.c_Race, Z.n_Race_rounds, rfl, _, rfl, x, _, dx, _, .ref m, rfl, hx', Z.c_Race, Z.n_Race_met, rfl, _, rfl, _, rfl, by show 2 ≤ sizeLine; decide, fun tb htb => ?_⟩
        have sb := Same.new (o := .tup [.str wn, .str z.2]) htb
        refine ⟨m, _, rfl, DPut.t (k := kP (wn, z.2)) (sb _ _ hm') upd_same ?_, ⟨_, _, rfl⟩, (b'.trans (But.of sb)).mut (by simp), ?_⟩
        · have h1 := putAll_len n (ml i) kvs
          have h2 := zml i
          exact Nat.lt_of_le_of_lt (show _ ≤ 10000100 by omega) (by decide)
        · rw [upd_same, eml, if_pos c]
          unfold putAll
          rw [List.foldl_append]
          rfl
    rintro σ H3 ⟨⟨v2, v5, rfl⟩, b3, hm3⟩
    have eall : ml (ps.map V.ref).length = KM.meets B R g some_ := by
      rw [em]
      show ((((KM.racing B R g some_).take (ps.map V.ref).length).filter _).map _) = _
      rw [List.length_map, Paired.length pp2, List.take_length]
    rw [eall] at hm3
    have nm3 : ∀ {a : Addr} {o : HO}, H2 a = some o → (∀ k, o ≠ .dT k) → H3 a = some o := fun {a o} h no => b3 _ _ (fun c => by rw [List.mem_singleton.mp c, s2 _ _ ra.met] at h; cases h; exact no _ rfl) h
    have hx3 := nm3 (s2 _ _ ra.at_) (fun _ z => nomatch z)
    have pl3 := nm3 (s2 _ _ ra.ls.pl) (fun _ z => nomatch z)
    have go3 := nm3 (s2 _ _ ra.ls.go) (fun _ z => nomatch z)
    have bH3 : But [q, p, m] H H3 := (But.of s2).trans (b3.mono fun a h => by rw [List.mem_singleton.mp h]; simp)
    have hw := kinds_mem hp2
    have eS : ∀ k, KM.stepG B R g some_ k = if k = wn then g k + 1 else g k := fun k => by unfold KM.stepG; rw [ew]
    -- one removal more
    refine ⟨_, rfl, x, _, dx, _, .ref q, rfl, hx3, Z.c_Race, Z.n_Race_gone, rfl, _, rfl, q, .int (g wn : Nat), rfl, ?_, ?_⟩
    · have e := DGet.k (k := .inr wn) go3
      rw [gd_in hw] at e
      exact e
    have zks : (kinds B R).length < sizeLine := Nat.lt_of_le_of_lt (Nat.le_trans (kset_len _) (by rw [List.length_append]; exact (Nat.add_le_add zB zR : _ ≤ 200))) (by decide)
    refine ⟨_, _, rfl, rfl, _, DPut.k (k := .inr wn) go3 (by rw [List.length_map]; exact zks), ?_⟩
    rw [gd_put hw]
    have go2 : gd (fun x => if x = wn then V.int (((g wn : Nat) : Int) + 1) else V.int (g x : Nat)) (kinds B R) = dGo (KM.stepG B R g some_) (kinds B R) := gd_congr fun k _ => by
      show (if k = wn then V.int (((g wn : Nat) : Int) + 1) else V.int (g k : Nat)) = V.int (KM.stepG B R g some_ k : Nat)
      rw [eS]
      by_cases c : k = wn
      · subst c; rw [if_pos rfl, if_pos rfl]; congr 1
      · rw [if_neg c, if_neg c]
    rw [go2]
    have b4 : But [q, p, m] H (upd H3 q (.dK (dGo (KM.stepG B R g some_) (kinds B R)))) := bH3.mut (by simp)
    have go4 : upd H3 q (.dK (dGo (KM.stepG B R g some_) (kinds B R))) q = _ := upd_same
    have pl4 : upd H3 q (.dK (dGo (KM.stepG B R g some_) (kinds B R))) p = _ := (upd_ne npq).trans pl3
    have hx4 : upd H3 q (.dK (dGo (KM.stepG B R g some_) (kinds B R))) x = _ := (upd_ne nxq).trans hx3
    have hm4 : upd H3 q (.dK (dGo (KM.stepG B R g some_) (kinds B R))) m = _ := (upd_ne (Ne.symm nqm)).trans hm3
    generalize upd H3 q (.dK (dGo (KM.stepG B R g some_) (kinds B R))) = H4 at b4 go4 pl4 hx4 hm4 ⊢
    have b4x : But [x, q, p, m] H H4 := b4.mono fun a h => List.mem_cons_of_mem _ h
    have en4 : En K B R H4 e := ra.en.mono (hideL_to b4x)
    obtain ⟨dxe4, kb4, kr4, bs4, rs4, kvb4, kvr4, pe4⟩ := id en4
    have gw : KM.stepG B R g some_ wn = g wn + 1 := by rw [eS, if_pos rfl]
    have sgw := sg wn
    refine ⟨_, rfl, x, _, dx, _, .ref e, rfl, hx4, Z.c_Race, Z.n_Race_history, rfl, e, dxe4, _, rfl, pe4.at_, rfl, _, rfl, _, rfl, x, _, dx, _, .ref q, rfl, hx4, Z.c_Race, Z.n_Race_gone, rfl, _, rfl, q, .int ((g wn + 1 : Nat) : Int), rfl, ?_, e, B, R, wn, g wn + 1, rfl, en4, zB, zR, by omega, fun H5 s5 => ?_⟩
    · have e := DGet.k (k := .inr wn) go4
      rw [gd_in hw, gw] at e
      exact e
    refine ⟨_, rfl, x, _, dx, _, .ref p, rfl, s5 _ _ hx4, Z.c_Race, Z.n_Race_places, rfl, _, rfl, p, _, rfl, DPut.k (k := .inr wn) (s5 _ _ pl4) (by rw [List.length_map]; exact zks), ?_⟩
    rw [gd_put hw]
    have pl2 : gd (fun x => if x = wn then ov (KM.nth B R wn (g wn + 1)) else ov (KM.nth B R x (g x))) (kinds B R) = dPl B R (KM.stepG B R g some_) (kinds B R) := gd_congr fun k _ => by
      show (if k = wn then ov (KM.nth B R wn (g wn + 1)) else ov (KM.nth B R k (g k))) = ov (KM.nth B R k (KM.stepG B R g some_ k))
      rw [eS]
      by_cases c : k = wn
      · subst c; rw [if_pos rfl, if_pos rfl]
      · rw [if_neg c, if_neg c]
    rw [pl2]
    have b6 : But [q, p, m] H (upd H5 p (.dK (dPl B R (KM.stepG B R g some_) (kinds B R)))) := (b4.trans (But.of s5)).mut (by simp)
    refine qq _ b6 (ra.move (b6.mono fun a h => List.mem_cons_of_mem _ h) ?_ ⟨upd_same, ?_⟩ ?_)
    · rw [upd_ne nxp]; exact s5 _ _ hx4
    · rw [upd_ne (Ne.symm npq)]; exact s5 _ _ go4
    · rw [upd_ne (Ne.symm npm)]; exact s5 _ _ hm4
end
end Ku

/-! KuQ3 -/
set_option Elab.async false
set_option linter.all false
set_option maxRecDepth 100000
set_option maxHeartbeats 8000000
namespace Ku
open PySem PySem.Spec PyProof.Rows L2 KuS KuD
section
variable {P : Program} {w : World} {K : PySem.W.Frag} {mg : Str → Option Value} {base : Heap}
theorem putAll_app (n : Nat) (a b : List (Str × Str)) (kvs : List (List Key × V)) : putAll n (a ++ b) kvs = putAll n b (putAll n a kvs) := by
  unfold putAll
  rw [List.foldl_append]
theorem meets_len {B R : List Str} {g : Str → Nat} {l : List Str} : (KM.meets B R g l).length ≤ l.length := by
  unfold KM.meets
  cases KM.winner B R g l with
  | none => simp
  | some w =>
    show (List.map _ _).length ≤ _
    rw [List.length_map]
    exact Nat.le_trans (List.length_filter_le _ _) (List.length_filterMap_le _ _)
/-! ### Race.begin, do_round -/
/-- what the takes ask -/
structure Tk (H : Hp) (ta : Addr) (as : List Addr) (ts : List (List Str)) : Prop where
  at_ : H ta = some (.lst (as.map V.ref))
  tu : Tups H as ts
  good : GoodTs ts
  few : ts.length ≤ 30
theorem Tk.mono {H H' : Hp} {ta : Addr} {as : List Addr} {ts : List (List Str)} (t : Tk H ta as ts) (s : Same H H') : Tk H' ta as ts := ⟨s _ _ t.at_, t.tu.mono fun _ _ e => s _ _ e, t.good, t.few⟩
def spRaRound (K : PySem.W.Frag) : Sp := fun vs H Q _ => ∃ (H0 : Hp) (x dx e q p m ta : Addr) (B R : List Str) (as : List Addr) (ts : List (List Str)) (g : Str → Nat) (n : Nat) (kvs : List (List Key × V)), vs = [.ref x, .ref ta] ∧ Ra K B R H x dx e q p m g n kvs ∧ p ≠ q ∧ Same H0 H ∧ (∀ a ∈ [x, q, p, m], H0 a = none) ∧ Tk H0 ta as ts ∧
  B ≠ [] ∧ B.length ≤ 100 ∧ R.length ≤ 100 ∧ (∀ k, g k ≤ 2 ^ 30) ∧ kvs.length ≤ 9000000 ∧
  ∀ H' : Hp, But [x, q, p, m] H H' → Ra K B R H' x dx e q p m (KM.roundG B R ts g) (n + 1) (putAll n (KM.roundM B R ts g) kvs) → Q .non H'
abbrev nmRaRound : List Str := ["self", "takes", "some"]
theorem sc_Race_do_round : FnScope nmRaRound ["self", "takes"] (defScope s_Race_do_round) := fnScope_dec (by decide +kernel)
/-- the loop of both -/
theorem for_takes {D : Ends} {X : Cx} {ta x dx e q p m : Addr} {B R : List Str} {as : List Addr} {ts : List (List Str)} {g : Str → Nat} {n : Nat} {kvs : List (List Key × V)} {H0 H : Hp} {v2 : Option V}
    (ra : Ra K B R H x dx e q p m g n kvs) (npq : p ≠ q) (s0 : Same H0 H) (fr : ∀ a ∈ [x, q, p, m], H0 a = none) (tk : Tk H0 ta as ts) (hne : B ≠ []) (zB : B.length ≤ 100) (zR : R.length ≤ 100) (sg : ∀ k, g k ≤ 2 ^ 30) (zk : kvs.length ≤ 9000000)
    (hd : ∀ (H' : Hp) (v2 : Option V), But [q, p, m] H H' → Ra K B R H' x dx e q p m (KM.roundG B R ts g) n (putAll n (KM.roundM B R ts g) kvs) → D.nx [some (.ref x), some (.ref ta), v2] H') :
    ∃ W : Nat → Nat → L2.St → Hp → Prop, (∃ k, W 0 k [some (.ref x), some (.ref ta), v2] H) ∧ ∀ i k σ H, W i k σ H →
      ((Itl K ta).stop i H ∧ D.nx σ H) ∨ ((Itl K ta).go i H ∧ ∃ N : L2.St → Hp → Prop, (∀ σ' H', N σ' H' → ∃ k', k' < k ∧ W (i + 1) k' σ' H') ∧ ∀ y H', (Itl K ta).yld i H y H' → gName 2 y σ H' fun σ2 H2 =>
        (tDrop (tMeth (cR K) "take" (spRaTake K) [] E0 (tVar 0) (tCons (tVar 2) tNil))) { D with nx := N, ct := N, bk := D.nx } σ2 H2) := by
  have nin : ∀ {a : Addr} {o : HO}, H0 a = some o → a ∉ [q, p, m] := fun {a o} h c => by
    rw [fr a (List.mem_cons_of_mem _ c)] at h; cases h
  refine for_list (K := K) (a := ta) (xs := as.map V.ref) (fun i σ H' => (∃ v2 : Option V, σ = [some (.ref x), some (.ref ta), v2]) ∧ But [q, p, m] H H' ∧ Ra K B R H' x dx e q p m (KM.roundG B R (ts.take i) g) n (putAll n (KM.roundM B R (ts.take i) g) kvs) ∧ (KM.roundM B R (ts.take i) g).length ≤ 8 * i)
    ⟨⟨_, rfl⟩, But.refl, by simpa [KM.roundG, KM.roundM, putAll] using ra, by simp [KM.roundM]⟩ (fun i σ H' _ h => SqL.of (h.2.1.at (s0 _ _ tk.at_) (nin tk.at_))) ?_ ?_
  · rintro i y σ H' hy ⟨⟨v2, rfl⟩, b', ra', zm⟩
    obtain ⟨sa, so, rfl, e1, e2, em, hs⟩ := tups_get tk.tu hy
    have hi : i < ts.length := (List.getElem?_eq_some_iff.mp e2).1
    have zt := tk.few
    obtain ⟨gs1, gs2, gs3⟩ := tk.good so em
    refine ⟨_, rfl, x, dx, _, rfl, ra'.at_, rfl, _, rfl, x, dx, e, q, p, m, sa, B, R, so, _, n, _, rfl, ra', npq, SqT.of (b'.at (s0 _ _ hs) (nin hs)), by omega, gs3, hne, zB, zR, ?_, ?_, fun H'' b'' ra'' => ⟨⟨_, rfl⟩, b'.trans b'', ?_, ?_⟩⟩
    · intro k
      have h1 := KM.roundG_up (B := B) (R := R) (ts.take i) (g := g) k
      rw [List.length_take] at h1
      have h2 := sg k
      omega
    · have h1 := putAll_len n (KM.roundM B R (ts.take i) g) kvs
      omega
    · rw [List.take_add_one, e2]
      show Ra K B R H'' x dx e q p m (KM.roundG B R (ts.take i ++ [so]) g) n (putAll n (KM.roundM B R (ts.take i ++ [so]) g) kvs)
      rw [KM.roundG_snoc, KM.roundM_snoc, putAll_app]
      exact ra''
    · rw [List.take_add_one, e2]
      show (KM.roundM B R (ts.take i ++ [so]) g).length ≤ _
      rw [KM.roundM_snoc, List.length_append]
      have := meets_len (B := B) (R := R) (g := KM.roundG B R (ts.take i) g) (l := so)
      omega
  · rintro σ H' ⟨⟨v2, rfl⟩, b', ra', _⟩
    rw [List.length_map, tk.tu.len, List.take_length] at ra'
    exact hd H' v2 b' ra'
theorem met_Ra_do_round (Z : Say K mg) : Met P w K mg base 3 (cR K) "do_round" (spRaRound K) := by
  obtain ⟨fd, F⟩ := Z.D_Race_do_round
  have cT : Met P w K mg base 2 (cR K) "take" (spRaTake K) := met_Ra_take Z
  refine ⟨_, fd, ["self", "takes"], fn_ok F sc_Race_do_round (fun vs H Q E h => ?_) (fun cdv A outer s H vs Q E hr h => ?_), Z.c_Race, Z.m_Race_do_round, F.bindsN fun _ _ _ _ _ _ us hl => match us, hl with | [_, _], _ => rfl⟩
  · obtain ⟨H0, x, dx, e, q, p, m, ta, B, R, as, ts, g, n, kvs, rfl, _⟩ := h
    rfl
  · obtain ⟨H0, x, dx, e, q, p, m, ta, B, R, as, ts, g, n, kvs, rfl, ra, npq, s0, fr, tk, hne, zB, zR, sg, zk, qq⟩ := h
    have nd := sc_Race_do_round.nd
    refine ⟨_, pss_cons (ps_for PassesOwn.never rfl (pi_list (pv 1)) (pg_name (i := 2) nd rfl (Or.inl rfl)) (pss_one (ps_expr (pe_mt cT hr (by decide) (pv 0) (pa_cons (pv 2) pa_nil)))))
      (pss_one (ps_fldaug (pv 0) pe_int in_add)), ?_⟩
    have hta := s0 _ _ tk.at_
    refine ⟨_, rfl, ta, rfl, ⟨_, SqL.of hta⟩, ?_⟩
    refine for_takes (X := cxOf CX0 P w K mg base nmRaRound d_Race_do_round.qual d_Race_do_round.scope (He.fAd K d_Race_do_round.at_) cdv A outer s H E) ra npq s0 fr tk hne zB zR sg zk fun H' v2 b' ra' => ?_
    refine ⟨_, rfl, x, _, dx, _, .int (n : Nat), rfl, ra'.at_, Z.c_Race, Z.n_Race_rounds, rfl, _, _, rfl, rfl, dx, _, ra'.at_, by show 5 < 1000; decide, ?_⟩
    have b2 : But [x, q, p, m] H' (upd H' x (.ins (cR K) dx (raF e q p (n + 1) m))) := But.refl.mut (by simp)
    have ef : putF "rounds" (.int (((n : Nat) : Int) + 1)) (raF e q p n m) = raF e q p (n + 1) m := rfl
    rw [ef]
    have nxp : p ≠ x := ne_of ra'.ls.pl ra'.at_ fun z => nomatch z
    have nxq : q ≠ x := ne_of ra'.ls.go ra'.at_ fun z => nomatch z
    have nxm : m ≠ x := ne_of ra'.met ra'.at_ fun z => nomatch z
    refine qq _ ((b'.mono fun a h => List.mem_cons_of_mem _ h).trans b2) (ra'.move b2 upd_same ⟨?_, ?_⟩ ?_)
    · rw [upd_ne nxp]; exact ra'.ls.pl
    · rw [upd_ne nxq]; exact ra'.ls.go
    · rw [upd_ne nxm]; exact ra'.met
/-- begin: the same with no rounds, nobody met -/
def spRaBegin (K : PySem.W.Frag) : Sp := fun vs H Q _ => ∃ (H0 : Hp) (x dx e q p m ta : Addr) (B R : List Str) (as : List Addr) (ts : List (List Str)) (g : Str → Nat), vs = [.ref x, .ref ta] ∧ Ra K B R H x dx e q p m g 0 [] ∧ p ≠ q ∧ Same H0 H ∧ (∀ a ∈ [x, q, p, m], H0 a = none) ∧ Tk H0 ta as ts ∧
  B ≠ [] ∧ B.length ≤ 100 ∧ R.length ≤ 100 ∧ (∀ k, g k ≤ 2 ^ 30) ∧
  ∀ (m' : Addr) (H' : Hp), But [x, q, p, m] H H' → H m' = none → Ra K B R H' x dx e q p m' (KM.roundG B R ts g) 0 [] → Q .non H'
theorem sc_Race_begin : FnScope nmRaRound ["self", "takes"] (defScope s_Race_begin) := fnScope_dec (by decide +kernel)
theorem met_Ra_begin (Z : Say K mg) : Met P w K mg base 3 (cR K) "begin" (spRaBegin K) := by
  obtain ⟨fd, F⟩ := Z.D_Race_begin
  have cT : Met P w K mg base 2 (cR K) "take" (spRaTake K) := met_Ra_take Z
  refine ⟨_, fd, ["self", "takes"], fn_ok F sc_Race_begin (fun vs H Q E h => ?_) (fun cdv A outer s H vs Q E hr h => ?_), Z.c_Race, Z.m_Race_begin, F.bindsN fun _ _ _ _ _ _ us hl => match us, hl with | [_, _], _ => rfl⟩
  · obtain ⟨H0, x, dx, e, q, p, m, ta, B, R, as, ts, g, rfl, _⟩ := h
    rfl
  · obtain ⟨H0, x, dx, e, q, p, m, ta, B, R, as, ts, g, rfl, ra, npq, s0, fr, tk, hne, zB, zR, sg, qq⟩ := h
    have nd := sc_Race_begin.nd
    refine ⟨_, pss_cons (ps_for PassesOwn.never rfl (pi_list (pv 1)) (pg_name (i := 2) nd rfl (Or.inl rfl)) (pss_one (ps_expr (pe_mt cT hr (by decide) (pv 0) (pa_cons (pv 2) pa_nil)))))
      (pss_one (ps_fld (pv 0) pe_dnewT rfl)), ?_⟩
    have hta := s0 _ _ tk.at_
    refine ⟨_, rfl, ta, rfl, ⟨_, SqL.of hta⟩, ?_⟩
    refine for_takes (X := cxOf CX0 P w K mg base nmRaRound d_Race_begin.qual d_Race_begin.scope (He.fAd K d_Race_begin.at_) cdv A outer s H E) ra npq s0 fr tk hne zB zR sg (by simp) fun H' v2 b' ra' => ?_
    refine fun m' hm' => ⟨_, rfl, ?_⟩
    have sm := Same.new (o := .dT []) hm'
    refine ⟨x, _, dx, _, rfl, sm _ _ ra'.at_, Z.c_Race, Z.n_Race_met, by show 5 < 1000; decide, ?_⟩
    have ef : putF "met" (.ref m') (raF e q p 0 m) = raF e q p 0 m' := rfl
    rw [ef]
    have nxp : p ≠ x := ne_of ra'.ls.pl ra'.at_ fun z => nomatch z
    have nxq : q ≠ x := ne_of ra'.ls.go ra'.at_ fun z => nomatch z
    have nxm : m' ≠ x := fun z => by rw [z, ra'.at_] at hm'; cases hm'
    have b2 : But [x] H' (upd (upd H' m' (.dT [])) x (.ins (cR K) dx (raF e q p 0 m'))) := (But.of sm).mut (by simp)
    have b3 := (b'.mono (l' := [x, q, p, m]) fun a h => List.mem_cons_of_mem _ h).trans (b2.mono (l' := [x, q, p, m]) fun a h => by rw [List.mem_singleton.mp h]; simp)
    have fm : H m' = none := by
      cases c : H m' with
      | none => rfl
      | some o =>
        by_cases cm : m' ∈ [q, p, m]
        · simp only [List.mem_cons, List.not_mem_nil, or_false] at cm
          rcases cm with z | z | z
          · rw [z, ra'.ls.go] at hm'; cases hm'
          · rw [z, ra'.ls.pl] at hm'; cases hm'
          · rw [z, ra'.met] at hm'; cases hm'
        · rw [b' m' o cm c] at hm'; cases hm'
    refine qq m' _ b3 fm ⟨upd_same, ?_, ⟨?_, ?_⟩, ?_⟩
    · refine ra.en.mono fun a o h => ?_
      by_cases ca : a ∈ [x, q, p, m]
      · rw [hideL_in ca] at h; cases h
      · rw [hideL_out ca] at h
        refine hideL_at (b3 a o ca h) fun z => ?_
        simp only [List.mem_cons, List.not_mem_nil, or_false] at z ca
        rcases z with z | z | z | z
        · exact ca (.inl z)
        · exact ca (.inr (.inl z))
        · exact ca (.inr (.inr (.inl z)))
        · rw [z, fm] at h; cases h
    · rw [upd_ne nxp]; exact sm _ _ ra'.ls.pl
    · rw [upd_ne nxq]; exact sm _ _ ra'.ls.go
    · rw [upd_ne nxm]; exact upd_same
end
end Ku

/-! KuIt -/
set_option Elab.async false
set_option linter.all false
set_option maxRecDepth 100000
set_option maxHeartbeats 4000000
/-! for (a, b), v in d.items(), d a dict with tuple keys. -/
namespace KuIt
open PySem PySem.Spec PyProof.Rows L2
section
variable {X : Cx} {pins : List (Addr × Obj)} {σ : L2.St} {H : Hp} {s : Shared} {d : Addr} {o : Obj}
theorem frzTv {kvs : List (List Key × V)} (I : Inv X pins σ H s) (h : H d = some (.frz o (.dT kvs))) :
    (d == sysModules) = false ∧ s.heap.get? d = some o ∧ o.ExactDict ∧ ∃ (es : Array DictEntry) (ep : Nat), o.data = .dict es ep ∧ es.size = kvs.length ∧
      ∀ (i : Nat) (k : List Key) (v : V), kvs[i]? = some (k, v) → ∃ (en : DictEntry) (q : Addr), es[i]? = some en ∧ en.key = .ref q ∧ H q = some (.tup (k.map kV)) ∧ RelV v en.val := by
  obtain ⟨hd, z, hs, xs, pr, o', es, ep, ho, hx, hdt, he, _⟩ := I.hok d _ h
  rw [hd] at ho
  cases ho
  refine ⟨hs, hd, hx, es, ep, hdt, ?_, fun i k v e => ?_⟩
  · have l1 : es.size = xs.length := size_of_entries he
    have l2 : kvs.length = xs.length := Paired.length pr
    omega
  · obtain ⟨b, hb, e1, e2, e3⟩ := paired_get pr e
    have q := entry_at he i
    rw [hb] at q
    exact ⟨_, b.2.1, q, rfl, e2, e3⟩
end
/-- the pairs, each a new tuple -/
def ItiT (d : Addr) (o : Obj) (kvs : List (List Key × V)) : It :=
  ⟨fun i H => H d = some (.frz o (.dT kvs)) ∧ i < kvs.length, fun i H x H' => ∃ (T q : Addr) (k : List Key) (v : V), kvs[i]? = some (k, v) ∧ x = .ref T ∧ H T = none ∧ H q = some (.tup (k.map kV)) ∧ H' = upd H T (.tup [.ref q, v]), fun i H => H d = some (.frz o (.dT kvs)) ∧ kvs.length ≤ i⟩
theorem turn_itemsT {P : Program} {w : World} {K : PySem.W.Frag} {d : Addr} {o : Obj} {es : Array DictEntry} {ep : Nat} {kvs : List (List Key × V)} {elts : List Expr} {kk : Nat} {tpos : Pos} (it : Addr) (hod : o.data = .dict es ep) :
    Turn P w K (.Tuple elts kk tpos) (ItiT d o kvs) [it] it (fun i h => ∃ ok ov, IsItemIter h it d i kvs.length ep ok ov) where
  mem := by simp
  obj := fun i h st b hb => by
    have e : b = it := by simpa using hb
    subst e
    obtain ⟨ok, ov, e⟩ := st
    exact ⟨_, e, fun v z => nomatch z⟩
  keep := fun i h h' st k => let ⟨ok, ov, e⟩ := st; ⟨ok, ov, k it (by simp) _ e⟩
  item := by
    intro X hP hw hK hc i pins s σ H E I hf st hg
    subst hP hw hK
    obtain ⟨hd, hi⟩ := hg
    obtain ⟨hs, hgd, hx, es', ep', hdt, hsz, ent⟩ := frzTv I hd
    obtain ⟨rfl, rfl⟩ := dict_ep hod hdt
    obtain ⟨⟨k, v⟩, hkv⟩ : ∃ p, kvs[i]? = some p := ⟨kvs[i], List.getElem?_eq_getElem hi⟩
    obtain ⟨en, q, hen, hq, hHq, rv⟩ := ent i k v hkv
    have hie : i < es'.size := by omega
    have een : es'[i] = en := by
      rw [Array.getElem?_eq_getElem hie] at hen
      exact Option.some.inj hen
    obtain ⟨ok, ov, he⟩ := st
    rw [← hsz] at he
    have hlt : it < s.heap.objs.size := Heap.lt_size he
    have hm : s.heap.DictRaw d es' ep' := ⟨o, hgd, hx, hdt⟩
    refine PySem.wpAny_pyNext_items_item_raw he hm hie fun h' ho hT hz hk => ?_
    rw [een] at ho hT
    refine ⟨_, rfl, wpAny_letOwnedTupleGo_items (s := { s with heap := h' }) ho fun h'' he' sb => ?_⟩
    have hT2 : h''.get? s.heap.objs.size = some { cls := .type "tuple", data := .seq #[en.key, en.val] } := (sb.2 _ (Nat.ne_of_gt hlt)).trans hT
    have new : ObjOk X.prog X.w (upd H s.heap.objs.size (.tup [.ref q, v])) h'' s.heap.objs.size (.tup [.ref q, v]) :=
      ⟨by show 2 ≤ sizeLine; decide, [en.key, en.val], .cons (show en.key = .ref q from hq) (.cons rv .nil), ⟨_, hT2, rfl, _, rfl⟩⟩
    have I1 : Inv X pins σ (upd H s.heap.objs.size (.tup [.ref q, v])) { s with heap := h'' } :=
      I.turnedNew (t' := s.toks) (ch := [it]) (fun b ob hb e => (sb.2 b (by simpa using hb)).trans (hk b ob (by simpa using hb) e)) hf (Nat.le_refl _) new
    refine ⟨.ref s.heap.objs.size, _, I1, rfl, ⟨_, q, k, v, hkv, rfl, I.hok.fresh (Nat.le_refl _), hHq, rfl⟩, ⟨en.key, en.val, ?_⟩, fun b hb => ?_⟩
    · rw [← hsz]; exact he'
    · have e : b = it := by simpa using hb
      rw [e, upd_ne (Nat.ne_of_lt hlt)]
      exact (hf it (by simp)).1
  done := by
    intro X hP hw hK hc i pins s σ H E I hf st hg
    subst hP hw hK
    obtain ⟨hd, hi⟩ := hg
    obtain ⟨f0, f1, f2, f3, f4, f5⟩ := hf it (by simp)
    obtain ⟨hs, hgd, hx, es', ep', hdt, hsz, ent⟩ := frzTv I hd
    obtain ⟨rfl, rfl⟩ := dict_ep hod hdt
    obtain ⟨ok, ov, he⟩ := st
    rw [← hsz] at he
    exact PySem.wpAny_pyNext_items_end_raw (I.ok.hd hc) he ⟨o, hgd, hx, hdt⟩ (by omega) fun h' eb => ⟨rfl, I.turned (t' := s.toks) (fun b ob hb e => eb b ob hb e) f0 f1 f3 f4 f5⟩
  self := fun A i s Q E st h => let ⟨_, _, e⟩ := st; PySem.W.kcp_self e h
def iItemsT (td : TE) : TI := fun σ H R => td σ H fun x H1 => ∃ d o kvs, x = .ref d ∧ H1 d = some (.frz o (.dT kvs)) ∧ R (ItiT d o kvs) H1
section
variable {X : Cx} {tg e : Expr} {td : TE} {apos cpos : Pos}
theorem pi_itemsT {elts : List Expr} {kk : Nat} {tpos : Pos} (he : PE X e td) (hbase : attributeBase e "items" X.env (eval e X.env) = eval e X.env := by rfl) (hline : (apos.endLine == cpos.line) = true := by rfl) :
    PI X (.Tuple elts kk tpos) (.Call (.Attribute e "items" apos) [] [] cpos) (iItemsT td) := by
  refine ⟨fun pins s σ H R I h => ?_⟩
  refine wpAny_Call_method (T := "dict") (id := "dict.items") hbase rfl hline F.plainAttrs_dict F.slot_dict_items F.type_dict_items (thn (he.run pins s σ H _ I h) fun u s1 ⟨x, H1, I1, rx, d, o, kvs, ex, hd, q⟩ => ?_)
  subst ex
  obtain rfl : u = Value.ref d := rx
  obtain ⟨hs, hgd, hx, es, ep, hdt, hsz, ent⟩ := frzTv I1 hd
  have hm : Heap.DictRaw s1.heap d es ep := ⟨o, hgd, hx, hdt⟩
  refine ⟨hm.typeIs, fun b e => ?_, ?_⟩
  · cases e
    exact ⟨o, hgd, hx.2.1⟩
  have I2 : Inv X pins σ H1 { s1 with heap := s1.heap.push { cls := .type "dict_items", data := .fields #[.ref d] } } := I1.kept (t' := s1.toks) fun b ob q => Heap.get?_push_of_some _ q
  have fin : wpAny (model X.prog X.w) X.A (pyIter (.ref s1.heap.objs.size)) (PIE X pins σ (.Tuple elts kk tpos) R) X.xe { s1 with heap := s1.heap.push { cls := .type "dict_items", data := .fields #[.ref d] } } := by
    refine PySem.wpAny_pyIter_items_raw (d := d) ⟨_, Heap.get?_push_size _ rfl, rfl, rfl⟩ ⟨o, Heap.get?_push_of_some _ hgd, hx, hdt⟩ (pi_one (tk := s1.toks) I2 _ (turn_itemsT _ hdt) ⟨.none, .none, ?_⟩ q)
    rw [← hsz]
    exact Heap.get?_push_size _ rfl
  show wpAny _ _ (callWith cpos (.builtin "dict.items") [.ref d] [] []) _ X.xe s1
  exact method_meetsIn F.slot_dict_items F.entry_dict_items rfl (PySem.evalArgs_none ⟨rfl, hm.typeIs, F.args_dict_items_1 _, _, PySem.meets_dict_items_raw d hs, ⟨es, ep, hm⟩, fin⟩)
end
end KuIt

/-! KuQ4 -/
set_option Elab.async false
set_option linter.all false
set_option maxRecDepth 100000
set_option maxHeartbeats 8000000
namespace Ku
open PySem PySem.Spec PyProof.Rows L2 KuS KuD
theorem tupK {X : Cx} {tg e : Expr} {te : TE} (K : PySem.W.Frag) (he : PE X e te) (h : X.K = K := by rfl) : PI X tg e (iTup K te) := by
  subst h
  exact pi_tup he
section
variable {P : Program} {w : World} {K : PySem.W.Frag} {mg : Str → Option Value} {base : Heap}
/-! ### Race.block_places -/
def spRaPlaces (K : PySem.W.Frag) : Sp := fun vs H Q _ => ∃ (x dx e q p m : Addr) (B R : List Str) (g : Str → Nat) (n : Nat) (kvs : List (List Key × V)), vs = [.ref x] ∧ Ra K B R H x dx e q p m g n kvs ∧ B.length ≤ 100 ∧
  ∀ (r : Addr) (H' : Hp), Same H H' → H r = none → H' r = some (.lst ((kset B).map fun k => V.int (KM.plc B R g k : Nat))) → Q (.ref r) H'
abbrev nmRaPlaces : List Str := ["self", "kind"]
theorem sc_Race_block_places : FnScope nmRaPlaces ["self"] (defScope s_Race_block_places) := fnScope_dec (by decide +kernel)
theorem met_Ra_places (Z : Say K mg) : Met P w K mg base 2 (cR K) "block_places" (spRaPlaces K) := by
  obtain ⟨fd, F⟩ := Z.D_Race_block_places
  have cB : Met P w K mg base 1 (cE K) "block" (spEnBlock K) := met_En_block Z
  refine ⟨_, fd, ["self"], fn_ok F sc_Race_block_places (fun vs H Q E h => ?_) (fun cdv A outer s H vs Q E hr h => ?_), Z.c_Race, Z.m_Race_block_places, F.bindsN fun _ _ _ _ _ _ us hl => match us, hl with | [_], _ => rfl⟩
  · obtain ⟨x, dx, e, q, p, m, B, R, g, n, kvs, rfl, _⟩ := h
    rfl
  · obtain ⟨x, dx, e, q, p, m, B, R, g, n, kvs, rfl, ra, zB, qq⟩ := h
    have nd := sc_Race_block_places.nd
    have hu := hr.units
    have hu1 : (A.deeper (envOfC d_Race_block_places.qual d_Race_block_places.scope s.heap.objs.size (He.fAd K d_Race_block_places.at_) cdv)).units + 1 < cLine := by omega
    refine ⟨_, pss_one (ps_ret (pe_lc (own := [("kind", 1)]) (g := gName 1) (tt := tYes) rfl nd
        (pi_list (pe_callB (cr_sortSS rfl hu) rfl Z.f_sorted boot_sorted (pa_cons (pe_callTy (cr_setS rfl) rfl Z.f_set boot_set (pa_cons (pe_mt0 cB hr (by decide) (pe_fld (pv 0) rfl)) pa_nil)) pa_nil)))
        (blkOk_by (N := nmRaPlaces) (sc := defScope s_Race_block_places) (by decide +kernel)) (fun _ _ _ _ _ => pg_name (i := 1) nd rfl (Or.inl rfl)) (fun _ _ _ _ _ => pts_nil)
        (fun _ _ _ _ _ => pe_dget hu1 (fldK K (pv 0)) (pv 1) (fun _ _ => rfl)))), ?_⟩
    have en := ra.en.mono hideL_le
    obtain ⟨dxe, kb, kr, bs, rs, kvb, kvr, pe⟩ := id en
    refine ⟨_, rfl, x, _, dx, _, .ref e, rfl, ra.at_, Z.c_Race, Z.n_Race_history, rfl, e, dxe, _, rfl, pe.at_, rfl, e, B, R, rfl, en, fun c1 h1 => ?_⟩
    have s1 := Same.new (o := .lst (B.map V.str)) h1
    refine ⟨c1, B, rfl, SqL.of upd_same, by omega, fun c2 h2 => ⟨c2, _, rfl, upd_same, Nat.le_trans (ofS_len B) (by omega), fun d hd => ⟨d, rfl, ⟨_, SqL.of upd_same⟩, fun D hD => ?_⟩⟩⟩
    have s3 := (s1.trans (Same.new h2)).trans (Same.new (o := .lst ((kset B).map V.str)) hd)
    refine lc_listF (K := K) (a := d) (xs := (kset B).map V.str) (fun v => match v with | .str k => .int (KM.plc B R g k : Nat) | _ => .non) ?_ hD (SqL.of upd_same) (fun _ => rfl) ?_ ?_
    · rw [List.length_map]
      exact Nat.le_trans (kset_len B) (by omega)
    · intro j y Ha Q' hy sa q'
      obtain ⟨k, rfl, _, hk⟩ := map_str_get hy
      have hkB : k ∈ B := kset_mem.mp hk
      have sH : Same H Ha := fun a o ea => sa a o (s3 _ _ ea) (ne_of_none (s3 _ _ ea) hD)
      refine ⟨_, rfl, x, _, dx, _, .ref p, rfl, sH _ _ ra.at_, Z.c_Race, Z.n_Race_places, rfl, _, rfl, p, _, rfl, get_pl (ra.ls.mono sH) hkB, q'⟩
    · refine qq D _ (s3.trans (Same.new hD)) (s3.free hD) ?_
      rw [upd_same, List.map_map]
      rfl
/-! ### Race.is_settled -/
theorem ofS_snoc (l : List Str) (k : Str) : ofS (l ++ [k]) = addS (ofS l) k := by
  unfold ofS
  rw [List.foldl_append]
  rfl
def spRaSettled (K : PySem.W.Frag) : Sp := fun vs H Q _ => ∃ (x dx e q p m ta : Addr) (B R : List Str) (as : List Addr) (ts : List (List Str)) (g : Str → Nat) (n : Nat) (kvs : List (List Key × V)), vs = [.ref x, .ref ta] ∧ Ra K B R H x dx e q p m g n kvs ∧ Tk H ta as ts ∧
  ∀ H' : Hp, Same H H' → Q (.bl (KM.settled B R ts g)) H'
abbrev nmRaSettled : List Str := ["self", "takes", "some", "kind", "start", "block", "place"]
theorem sc_Race_is_settled : FnScope nmRaSettled ["self", "takes"] (defScope s_Race_is_settled) := fnScope_dec (by decide +kernel)
theorem flat_len : ∀ (ts : List (List Str)), (∀ s ∈ ts, s.length ≤ 8) → ts.flatten.length ≤ 8 * ts.length
  | [], _ => by simp
  | s :: r, h => by
    have h1 := flat_len r fun x hx => h x (List.mem_cons_of_mem _ hx)
    have h2 := h s (List.mem_cons_self ..)
    simp only [List.flatten_cons, List.length_append, List.length_cons]
    omega
theorem met_Ra_settled (Z : Say K mg) : Met P w K mg base 2 (cR K) "is_settled" (spRaSettled K) := by
  obtain ⟨fd, F⟩ := Z.D_Race_is_settled
  have cB : Met P w K mg base 1 (cE K) "block" (spEnBlock K) := met_En_block Z
  have cC : Met P w K mg base 1 (cE K) "recent" (spEnRecent K) := met_En_recent Z
  refine ⟨_, fd, ["self", "takes"], fn_ok F sc_Race_is_settled (fun vs H Q E h => ?_) (fun cdv A outer s H vs Q E hr h => ?_), Z.c_Race, Z.m_Race_is_settled, F.bindsN fun _ _ _ _ _ _ us hl => match us, hl with | [_, _], _ => rfl⟩
  · obtain ⟨x, dx, e, q, p, m, ta, B, R, as, ts, g, n, kvs, rfl, _⟩ := h
    rfl
  · obtain ⟨x, dx, e, q, p, m, ta, B, R, as, ts, g, n, kvs, rfl, ra, tk, qq⟩ := h
    have nd := sc_Race_is_settled.nd
    have hu := hr.units
    have hu1 : (A.deeper (envOfC d_Race_is_settled.qual d_Race_is_settled.scope s.heap.objs.size (He.fAd K d_Race_is_settled.at_) cdv)).units + 1 < cLine := by omega
    refine ⟨_, pss_cons (ps_par (i := 4) (j := 5) rfl nd rfl rfl (by decide) rfl rfl (pa_cons (pe_callB call_len_seq rfl Z.f_len boot_len (pa_cons (pe_mt0 cC hr (by decide) (pe_fld (pv 0) rfl)) pa_nil)) (pa_cons (pe_mt0 cB hr (by decide) (pe_fld (pv 0) rfl)) pa_nil)) (by rfl))
      (pss_cons (ps_for PassesOwn.never rfl (pi_list (pe_callB (cr_sortSS rfl hu) rfl Z.f_sorted boot_sorted (pa_cons (pe_sC (own := [("some", 2), ("kind", 3)]) (vs1 := [3]) (g := gName 2) (g1 := gName 3) rfl nd (pi_list (pv 1)) (blkOk_by (N := nmRaSettled) (sc := defScope s_Race_is_settled) (by decide +kernel)) (by decide)
            (fun _ _ _ _ _ => pg_name (i := 2) nd rfl (Or.inl rfl)) (fun _ _ _ _ _ => tupK K (pv 2)) (fun _ _ _ _ _ => pg_name (i := 3) nd rfl (Or.inl rfl)) (fun _ _ _ _ _ => pv 3)) pa_nil))) (pg_name (i := 3) nd rfl (Or.inl rfl))
          (pss_cons (ps_set (i := 6) nd rfl (Or.inl rfl) (pe_dget1 hu1 (pe_fld (pv 0) rfl) (pv 3) ⟨rfl, rfl, rfl, rfl⟩))
          (pss_one (ps_if (PW.pt (pw_and (pt_cmp (pc_notN (pv 6))) (pw_and1 (PW.pt (pw_or (pt_cmpR op_notIn_seq (pv 3) (pv 5) (by rfl)) (pw_or1 (pt_cmpR op_lt (pv 6) (pv 4) (nomark _)))))))) (pss_one (ps_ret pe_bl)) pss_nil))))
      (pss_one (ps_ret pe_bl))), ?_⟩
    have en := ra.en.mono hideL_le
    obtain ⟨dxe, kb, kr, bs, rs, kvb, kvr, pe⟩ := id en
    refine ⟨_, rfl, x, _, dx, _, .ref e, rfl, ra.at_, Z.c_Race, Z.n_Race_history, rfl, e, dxe, _, rfl, pe.at_, rfl, e, B, R, rfl, en, fun c1 h1 => ?_⟩
    have s1 := Same.new (o := .lst (R.map V.str)) h1
    have en1 := en.mono s1
    refine ⟨c1, _, rfl, .inl (SqL.of upd_same), _, rfl, x, _, dx, _, .ref e, rfl, s1 _ _ ra.at_, Z.c_Race, Z.n_Race_history, rfl, e, dxe, _, rfl, s1 _ _ pe.at_, rfl, e, B, R, rfl, en1, fun c2 h2 => ?_⟩
    have s2 := s1.trans (Same.new (o := .lst (B.map V.str)) h2)
    have hc2 : upd (upd H c1 (.lst (R.map V.str))) c2 (.lst (B.map V.str)) c2 = _ := upd_same
    generalize upd (upd H c1 (.lst (R.map V.str))) c2 (.lst (B.map V.str)) = H2 at s2 hc2 ⊢
    rw [List.length_map]
    refine ⟨_, _, rfl, ?_⟩
    have s3 := s2
    have hc3 := hc2
    generalize H2 = H3 at s3 hc3 ⊢
    -- the kinds of the takes
    have tk3 := tk.mono s3
    have g8 : ∀ s ∈ ts, s.length ≤ 8 := fun s hs => (tk.good s hs).2.1
    refine ⟨_, rfl, ta, rfl, ⟨_, SqL.of tk3.at_⟩, fun D hD => ?_⟩
    refine ⟨fun i k H' => k = as.length - i ∧ i ≤ as.length ∧ Same H3 H' ∧ H' D = some (SetSO w D (ofS (ts.take i).flatten)), ⟨_, rfl, Nat.zero_le _, Same.new hD, upd_same⟩, ?_⟩
    rintro i k H' ⟨rfl, hi, sH, hd'⟩
    have hta := sH _ _ tk3.at_
    by_cases hlt : i < as.length
    · have hx : (as.map V.ref)[i]? = some (.ref as[i]) := by rw [List.getElem?_map, List.getElem?_eq_getElem hlt]; rfl
      refine .inr ⟨⟨_, _, SqL.of hta, hx⟩, fun H' => Same H3 H' ∧ H' D = some (SetSO w D (ofS (ts.take (i + 1)).flatten)), fun H'' ⟨a1, a2⟩ => ⟨_, (by omega : as.length - (i + 1) < as.length - i), rfl, hlt, a1, a2⟩, ?_⟩
      rintro y H'' ⟨rfl, hy⟩
      have hy := hy _ (SqL.of hta)
      obtain ⟨sa, so, rfl, e1, e2, em, hs⟩ := tups_get tk3.tu hy
      refine ⟨rfl, _, rfl, sa, rfl, ⟨_, SqT.of (sH _ _ hs)⟩, ?_⟩
      have ef : (ts.take (i + 1)).flatten = (ts.take i).flatten ++ so := by rw [List.take_add_one, e2]; simp
      refine ⟨fun j k H' => k = so.length - j ∧ j ≤ so.length ∧ Same H3 H' ∧ H' D = some (SetSO w D (ofS ((ts.take i).flatten ++ so.take j))), ⟨_, rfl, Nat.zero_le _, sH, by rw [List.take_zero, List.append_nil]; exact hd'⟩, ?_⟩
      rintro j k Hj ⟨rfl, hj, sj, hdj⟩
      have hsj := sj _ _ hs
      by_cases hlj : j < so.length
      · have hz : so[j]? = some so[j] := List.getElem?_eq_getElem hlj
        refine .inr ⟨⟨_, _, SqT.of hsj, by rw [List.getElem?_map, hz]; rfl⟩, fun H' => Same H3 H' ∧ H' D = some (SetSO w D (ofS ((ts.take i).flatten ++ so.take (j + 1)))), fun H'' ⟨a1, a2⟩ => ⟨_, (by omega : so.length - (j + 1) < so.length - j), rfl, hlj, a1, a2⟩, ?_⟩
        rintro y Hy ⟨rfl, hy⟩
        have hy := hy _ (SqT.of hsj)
        rw [List.getElem?_map, hz] at hy
        cases hy
        refine ⟨rfl, _, rfl, _, _, rfl, hdj, ?_, Same.mut sj hD, ?_⟩
        · have l1 := ofS_len ((ts.take i).flatten ++ so.take j)
          have l2 := flat_len (ts.take i) fun s hs => g8 s (List.mem_of_mem_take hs)
          have l3 := tk.few
          have l4 := g8 so em
          rw [List.length_append, List.length_take] at l1
          rw [List.length_take] at l2
          unfold scanBound
          omega
        · rw [upd_same, List.take_add_one, hz, ← List.append_assoc]
          exact congrArg (fun z => some (SetSO w D z)) (ofS_snoc _ _).symm
      · have ej : j = so.length := by omega
        subst ej
        rw [List.take_length, ← ef] at hdj
        exact .inl ⟨⟨_, SqT.of hsj, by rw [List.length_map]; exact Nat.le_refl _⟩, sj, hdj⟩
    · have ei : i = as.length := by omega
      subst ei
      rw [tk.tu.len, List.take_length] at hd'
      refine .inl ⟨⟨_, SqL.of hta, by rw [List.length_map]; exact Nat.le_refl _⟩, D, _, rfl, hd', ?_, fun d hd => ⟨d, rfl, ⟨_, SqL.of upd_same⟩, ?_⟩⟩
      · have l1 := ofS_len ts.flatten
        have l2 := flat_len ts g8
        have l3 := tk.few
        omega
      have s4 := sH.trans (Same.new (o := .lst ((srt (ofS ts.flatten)).map V.str)) hd)
      have hdl : upd H' d (.lst ((srt (ofS ts.flatten)).map V.str)) d = _ := upd_same
      generalize upd H' d (.lst ((srt (ofS ts.flatten)).map V.str)) = H4 at s4 hdl ⊢
      have mm : ∀ {k : Str}, k ∈ srt (ofS ts.flatten) ↔ ∃ s ∈ ts, k ∈ s := fun {k} => by
        rw [(srt_perm _).mem_iff, ofS_mem, List.mem_flatten]
      have s04 : Same H H4 := s3.trans s4
      have hc4 := s4 _ _ hc3
      have bad : ∀ {k : Str} {p : Nat}, k ∈ srt (ofS ts.flatten) → KM.nth B R k (g k) = some p → (¬ k ∈ B ∨ p < R.length) → KM.settled B R ts g = false := fun {k p} hk e h => by
        cases c : KM.settled B R ts g with
        | false => rfl
        | true =>
          obtain ⟨s, hs, hks⟩ := mm.mp hk
          have q := KM.settled_iff.mp c s hs k hks p e
          rcases h with h | h
          · exact absurd q.1 h
          · omega
      refine for_list (K := K) (a := d) (xs := (srt (ofS ts.flatten)).map V.str) (fun i σ H' => H' = H4 ∧ (∃ v3 v6 : Option V, σ = [some (.ref x), some (.ref ta), none, v3, some (.int ((R.length : Nat) : Int)), some (.ref c2), v6]) ∧ ∀ k ∈ (srt (ofS ts.flatten)).take i, okS B R g k)
        ⟨rfl, ⟨_, _, rfl⟩, fun s hs => by simp at hs⟩ (fun i σ H' _ h => by rw [h.1]; exact SqL.of hdl) ?_ ?_
      · rintro j y σ H'' hy ⟨rfl, ⟨v3, v6, rfl⟩, hk⟩
        obtain ⟨z, rfl, hz, hm⟩ := map_str_get hy
        have et : (srt (ofS ts.flatten)).take (j + 1) = (srt (ofS ts.flatten)).take j ++ [z] := by rw [List.take_add_one, hz]; rfl
        have fin : KM.settled B R ts g = false → _ := fun e => by
          have q1 := qq _ s04
          rw [e] at q1
          exact q1
        refine ⟨_, rfl, x, _, dx, _, .ref p, rfl, s04 _ _ ra.at_, Z.c_Race, Z.n_Race_places, rfl, p, rfl, .inl ⟨_, .inl (s04 _ _ ra.ls.pl)⟩, _, rfl, _, DGet.k (k := .inr z) (s04 _ _ ra.ls.pl), ?_⟩
        rw [gd_get _ _ _ pl_out]
        refine ⟨_, rfl, _, rfl, ?_⟩
        cases e : KM.nth B R z (g z) with
        | none =>
          refine iteF ?_
          refine ⟨rfl, ⟨_, _, rfl⟩, fun k hk' => ?_⟩
          rw [et] at hk'
          rcases List.mem_append.mp hk' with h | h
          · exact hk k h
          · rw [List.mem_singleton.mp h]
            intro p' e'
            rw [e] at e'; cases e'
        | some pl =>
          refine iteT ?_
          refine ⟨_, rfl, _, rfl, c2, _, rfl, .inl (SqL.of hc4), rfl, all_flat_strs B, _, rfl, ?_⟩
          rw [inV_strs]
          refine ite2 (fun c => ?_) (fun c => ?_)
          · refine iteT ?_
            exact fin (bad hm e (.inl (by simpa using c)))
          · have hzB : z ∈ B := by simpa using c
            refine ⟨_, rfl, _, rfl, _, _, rfl, rfl, _, rfl, ?_⟩
            refine ite2 (fun c2 => ?_) (fun c2 => ?_)
            · have c2 := of_decide_eq_true c2
              exact fin (bad hm e (.inr (by omega)))
            · have c2 : R.length ≤ pl := by simpa using c2
              refine ⟨rfl, ⟨_, _, rfl⟩, fun k hk' => ?_⟩
              rw [et] at hk'
              rcases List.mem_append.mp hk' with h | h
              · exact hk k h
              · rw [List.mem_singleton.mp h]
                intro p' e'
                rw [e] at e'
                cases e'
                exact ⟨hzB, by omega⟩
      · rintro σ H' ⟨rfl, ⟨v3, v6, rfl⟩, hd⟩
        rw [List.length_map, List.take_length] at hd
        have e : KM.settled B R ts g = true := KM.settled_iff.mpr fun s hs k hk p e => hd k (mm.mpr ⟨s, hs, hk⟩) p e
        have q1 := qq _ s04
        rw [e] at q1
        exact q1
end
end Ku

/-! KuQ5 -/
set_option Elab.async false
set_option linter.all false
set_option maxRecDepth 100000
set_option maxHeartbeats 8000000
namespace Ku
open PySem PySem.Spec PyProof.Rows L2 KuS KuD KuIt
/-! ### who met whom last -/
abbrev Mt := (Str × Str) × Nat
def dM (ms : List Mt) : List (List Key × V) := ms.map fun x => (kP x.1, .int (x.2 : Nat))
def putM (n : Nat) (ms : List Mt) (k : Str × Str) : List Mt := if (ms.any fun x => decide (x.1 = k)) = true then ms.map (fun x => if x.1 = k then (x.1, n) else x) else ms ++ [(k, n)]
theorem kP_inj {a b : Str × Str} (h : kP a = kP b) : a = b := by
  obtain ⟨a1, a2⟩ := a
  obtain ⟨b1, b2⟩ := b
  have h' : ([.inr a1, .inr a2] : List Key) = [.inr b1, .inr b2] := h
  injection h' with e1 e2
  injection e2 with e2 e3
  injection e1 with e1
  injection e2 with e2
  rw [e1, e2]
theorem putK_dM (n : Nat) (ms : List Mt) (k : Str × Str) : putK (dM ms) (kP k) (.int (n : Nat)) = dM (putM n ms k) := by
  unfold putK putM
  have e : ((dM ms).any fun kv => decide (kv.1 = kP k)) = ms.any fun x => decide (x.1 = k) := by
    unfold dM
    rw [List.any_map]
    refine congrArg (fun f => ms.any f) (funext fun x => ?_)
    show decide (kP x.1 = kP k) = decide (x.1 = k)
    by_cases c : x.1 = k
    · rw [c]; simp
    · have c2 : ¬ kP x.1 = kP k := fun z => c (kP_inj z)
      rw [decide_eq_false c, decide_eq_false c2]
  rw [e]
  by_cases c : (ms.any fun x => decide (x.1 = k)) = true
  · rw [if_pos c, if_pos c]
    unfold dM
    rw [List.map_map, List.map_map]
    refine List.map_congr_left fun x _ => ?_
    show (if kP x.1 = kP k then (kP x.1, V.int (n : Nat)) else (kP x.1, .int (x.2 : Nat))) = (kP (if x.1 = k then (x.1, n) else x).1, .int ((if x.1 = k then (x.1, n) else x).2 : Nat))
    by_cases c1 : x.1 = k
    · rw [if_pos (by rw [c1]), if_pos c1]
    · rw [if_neg (fun z => c1 (kP_inj z)), if_neg c1]
  · rw [if_neg c, if_neg c]
    unfold dM
    rw [List.map_append]
    rfl
theorem putAll_dM (n : Nat) : ∀ (l : List (Str × Str)) (ms : List Mt), putAll n l (dM ms) = dM (l.foldl (putM n) ms)
  | [], _ => rfl
  | k :: r, ms => by
    show putAll n r (putK (dM ms) (kP k) (.int (n : Nat))) = dM (r.foldl (putM n) (putM n ms k))
    rw [putK_dM]
    exact putAll_dM n r _
theorem putM_mem {n : Nat} {ms : List Mt} {k : Str × Str} {y : Mt} : y ∈ putM n ms k ↔ y = (k, n) ∨ (y ∈ ms ∧ y.1 ≠ k) := by
  unfold putM
  by_cases c : (ms.any fun x => decide (x.1 = k)) = true
  · rw [if_pos c, List.mem_map]
    constructor
    · rintro ⟨x, hx, e⟩
      by_cases c1 : x.1 = k
      · rw [if_pos c1] at e
        exact .inl (by rw [← e, c1])
      · rw [if_neg c1] at e
        rw [← e]
        exact .inr ⟨hx, c1⟩
    · rintro (e | ⟨h1, h2⟩)
      · obtain ⟨x, hx, e1⟩ := List.any_eq_true.mp c
        have e1 := of_decide_eq_true e1
        exact ⟨x, hx, by rw [if_pos e1, e, e1]⟩
      · exact ⟨y, h1, by rw [if_neg h2]⟩
  · rw [if_neg c, List.mem_append, List.mem_singleton]
    constructor
    · rintro (h | h)
      · refine .inr ⟨h, fun e => c (List.any_eq_true.mpr ⟨y, h, decide_eq_true e⟩)⟩
      · exact .inl h
    · rintro (h | h)
      · exact .inr h
      · exact .inl h.1
theorem foldM_mem {n : Nat} {y : Mt} : ∀ {l : List (Str × Str)} {ms : List Mt}, y ∈ l.foldl (putM n) ms ↔ (y.1 ∈ l ∧ y.2 = n) ∨ (y ∈ ms ∧ y.1 ∉ l)
  | [], ms => by simp
  | k :: r, ms => by
    show y ∈ r.foldl (putM n) (putM n ms k) ↔ _
    rw [foldM_mem, putM_mem]
    obtain ⟨y1, y2⟩ := y
    simp only [Prod.mk.injEq, List.mem_cons, not_or, ne_eq]
    constructor
    · rintro (⟨h1, h2⟩ | ⟨⟨h1, h2⟩ | ⟨h1, h2⟩, h3⟩)
      · exact .inl ⟨.inr h1, h2⟩
      · exact .inl ⟨.inl h1, h2⟩
      · exact .inr ⟨h1, h2, h3⟩
    · rintro (⟨h1 | h1, h2⟩ | ⟨h1, h2, h3⟩)
      · by_cases c : y1 ∈ r
        · exact .inl ⟨c, h2⟩
        · exact .inr ⟨.inl ⟨h1, h2⟩, c⟩
      · exact .inl ⟨h1, h2⟩
      · exact .inr ⟨.inr ⟨h1, h2⟩, h3⟩
/-- the entries are the latest rounds of who met whom, in n rounds -/
structure MetI (M : Nat → List (Str × Str)) (n : Nat) (ms : List Mt) : Prop where
  sound : ∀ y ∈ ms, y.2 < n ∧ y.1 ∈ M y.2
  full : ∀ j, j < n → ∀ x ∈ M j, ∃ y ∈ ms, y.1 = x ∧ j ≤ y.2
theorem MetI.zero (M : Nat → List (Str × Str)) : MetI M 0 [] := ⟨fun y h => by simp at h, fun j h => by omega⟩
theorem MetI.next {M : Nat → List (Str × Str)} {n : Nat} {ms : List Mt} (h : MetI M n ms) : MetI M (n + 1) ((M n).foldl (putM n) ms) := by
  refine ⟨fun y hy => ?_, fun j hj x hx => ?_⟩
  · rcases foldM_mem.mp hy with ⟨h1, h2⟩ | ⟨h1, h2⟩
    · rw [h2]; exact ⟨Nat.lt_succ_self n, h1⟩
    · obtain ⟨a, b⟩ := h.sound y h1
      exact ⟨by omega, b⟩
  · by_cases c : x ∈ M n
    · exact ⟨(x, n), foldM_mem.mpr (.inl ⟨c, rfl⟩), rfl, by show j ≤ n; omega⟩
    · have hj' : j < n := by
        rcases Nat.lt_or_ge j n with a | a
        · exact a
        · exact absurd (by rw [show n = j by omega]; exact hx) c
      obtain ⟨y, h1, h2, h3⟩ := h.full j hj' x hx
      exact ⟨y, foldM_mem.mpr (.inr ⟨h1, by rw [h2]; exact c⟩), h2, h3⟩
def fairM (l : Nat) (f : Str → Int) (ms : List Mt) : Bool := ms.all fun x => decide (x.2 < l) || decide (¬ f x.1.2 < f x.1.1)
theorem fairM_iff {l : Nat} {f : Str → Int} {ms : List Mt} : fairM l f ms = true ↔ ∀ x ∈ ms, l ≤ x.2 → ¬ f x.1.2 < f x.1.1 := by
  unfold fairM
  rw [List.all_eq_true]
  constructor
  · intro h x hx hl
    have q := h x hx
    rw [Bool.or_eq_true] at q
    rcases q with q | q
    · have := of_decide_eq_true q; omega
    · exact of_decide_eq_true q
  · intro h x hx
    rw [Bool.or_eq_true]
    by_cases c : x.2 < l
    · exact .inl (decide_eq_true c)
    · exact .inr (decide_eq_true (h x hx (by omega)))
theorem fairM_of {M : Nat → List (Str × Str)} {n l : Nat} {ms : List Mt} (h : MetI M n ms) (f : Str → Int) : fairM l f ms = true ↔ ∀ j, l ≤ j → j < n → ∀ x ∈ M j, ¬ f x.2 < f x.1 := by
  rw [fairM_iff]
  constructor
  · intro q j h1 h2 x hx
    obtain ⟨y, a, b, c⟩ := h.full j h2 x hx
    rw [← b]
    exact q y a (by omega)
  · intro q y hy hl
    obtain ⟨a, b⟩ := h.sound y hy
    exact q y.2 hl a y.1 b
theorem walk_itemsT {d : Addr} {o : Obj} {kvs : List (List Key × V)} : Walk (ItiT d o kvs) kvs.length (fun H => H d = some (.frz o (.dT kvs)))
    (fun i H x H' => ∃ (T q : Addr) (k : List Key) (v : V), kvs[i]? = some (k, v) ∧ x = .ref T ∧ H T = none ∧ H q = some (.tup (k.map kV)) ∧ H' = upd H T (.tup [.ref q, v])) :=
  ⟨fun _ _ hi q => ⟨q, hi⟩, fun _ q => ⟨q, Nat.le_refl _⟩, fun _ _ _ _ _ _ y => y⟩
section
variable {P : Program} {w : World} {K : PySem.W.Frag} {mg : Str → Option Value} {base : Heap}
/-! ### Race.is_fair -/
def spRaFair (K : PySem.W.Frag) : Sp := fun vs H Q _ => ∃ (x dx e q p m bo : Addr) (l : Nat) (B R ks : List Str) (g : Str → Nat) (n : Nat) (ms : List Mt) (f : Str → Int), vs = [.ref x, .int (l : Nat), .ref bo] ∧ Ra K B R H x dx e q p m g n (dM ms) ∧
  H bo = some (.dK (gd (fun k => .int (f k)) ks)) ∧ (∀ y ∈ ms, l ≤ y.2 → y.1.1 ∈ ks ∧ y.1.2 ∈ ks) ∧ ∀ H' : Hp, Same H H' → Q (.bl (fairM l f ms)) H'
abbrev nmRaFair : List Str := ["self", "lead", "blocks_of", "winner", "loser", "latest"]
theorem sc_Race_is_fair : FnScope nmRaFair ["self", "lead", "blocks_of"] (defScope s_Race_is_fair) := fnScope_dec (by decide +kernel)
theorem met_Ra_fair (Z : Say K mg) : Met P w K mg base 1 (cR K) "is_fair" (spRaFair K) := by
  obtain ⟨fd, F⟩ := Z.D_Race_is_fair
  refine ⟨_, fd, ["self", "lead", "blocks_of"], fn_ok F sc_Race_is_fair (fun vs H Q E h => ?_) (fun cdv A outer s H vs Q E hr h => ?_), Z.c_Race, Z.m_Race_is_fair, F.bindsN fun _ _ _ _ _ _ us hl => match us, hl with | [_, _, _], _ => rfl⟩
  · obtain ⟨x, dx, e, q, p, m, bo, l, B, R, ks, g, n, ms, f, rfl, _⟩ := h
    rfl
  · obtain ⟨x, dx, e, q, p, m, bo, l, B, R, ks, g, n, ms, f, rfl, ra, hbo, hks, qq⟩ := h
    have nd := sc_Race_is_fair.nd
    have hu := hr.units
    have hu1 : (A.deeper (envOfC d_Race_is_fair.qual d_Race_is_fair.scope s.heap.objs.size (He.fAd K d_Race_is_fair.at_) cdv)).units + 1 < cLine := by omega
    refine ⟨_, pss_cons (ps_lock (ps_for PassesOwn.never rfl (pi_itemsT (pe_fld (pv 0) rfl)) (pg_tup rfl (pgs_cons (pg_tup rfl (pgs_cons (pg_name (i := 3) nd rfl (Or.inl rfl)) (pgs_cons (pg_name (i := 4) nd rfl (Or.inl rfl)) pgs_nil))) (pgs_cons (pg_name (i := 5) nd rfl (Or.inl rfl)) pgs_nil)))
          (pss_one (ps_if (PW.pt (pw_and (pt_cmpR op_ge (pv 5) (pv 1) (nomark _)) (pw_and1 (pt_cmpR op_lt (pe_dget hu1 (pv 2) (pv 4) (fun _ _ => rfl)) (pe_dget hu1 (pv 2) (pv 3) (fun _ _ => rfl)) (nomark _))))) (pss_one (ps_ret pe_bl)) pss_nil))))
      (pss_one (ps_ret pe_bl)), ?_⟩
    have nxm : x ≠ m := ne_of ra.at_ ra.met fun z => nomatch z
    have nbm : bo ≠ m := ne_of hbo ra.met fun z => nomatch z
    refine ⟨m, _, ra.met, trivial, fun od => ⟨_, rfl, x, _, dx, _, .ref m, rfl, (upd_ne nxm).trans ra.at_, Z.c_Race, Z.n_Race_met, rfl, m, od, _, rfl, upd_same, ?_⟩⟩
    have fin : ∀ H' : Hp, Same (upd H m (.frz od (.dT (dM ms)))) H' → Same H (upd H' m (.dT (dM ms))) := fun H' s a o ea => by
      by_cases c : a = m
      · subst c
        rw [upd_same, ← ra.met, ea]
      · rw [upd_ne c]
        exact s _ _ ((upd_ne c).trans ea)
    refine for_it walk_itemsT (fun i σ H' => Same (upd H m (.frz od (.dT (dM ms)))) H' ∧ (∃ v3 v4 v5 : Option V, σ = [some (.ref x), some (.int (l : Nat)), some (.ref bo), v3, v4, v5]) ∧ ∀ y ∈ ms.take i, l ≤ y.2 → ¬ f y.1.2 < f y.1.1)
      ⟨Same.refl _, ⟨_, _, _, rfl⟩, fun s hs => by simp at hs⟩ (fun i σ H' _ h => h.1 _ _ upd_same) ?_ ?_
    · rintro i y σ H' H'' hi ⟨sH, ⟨v3, v4, v5, rfl⟩, hd⟩ ⟨T, q2, k, v, ek, rfl, hT, hq, rfl⟩
      unfold dM at ek
      rw [List.getElem?_map] at ek
      obtain ⟨z, ez, ezz⟩ := Option.map_eq_some_iff.mp ek
      cases ezz
      have hz : z ∈ ms := List.mem_of_getElem? ez
      have sH2 := sH.trans (Same.new (o := .tup [.ref q2, .int (z.2 : Nat)]) hT)
      have hq2 : upd H' T (.tup [.ref q2, .int (z.2 : Nat)]) q2 = some (.tup [.str z.1.1, .str z.1.2]) := (upd_ne (ne_of_none hq hT)).trans hq
      have hb2 := sH2 _ _ ((upd_ne nbm).trans hbo)
      refine ⟨T, _, rfl, SqT.of upd_same, rfl, _, _, rfl, ?_⟩
      refine ⟨q2, _, rfl, SqT.of hq2, rfl, _, _, rfl, _, _, rfl, rfl, _, _, rfl, rfl, ?_⟩
      have et : ms.take (i + 1) = ms.take i ++ [z] := by rw [List.take_add_one, ez]; rfl
      have go : (l ≤ z.2 → ¬ f z.1.2 < f z.1.1) → ∀ y ∈ ms.take (i + 1), l ≤ y.2 → ¬ f y.1.2 < f y.1.1 := fun h y hy => by
        rw [et] at hy
        rcases List.mem_append.mp hy with a | a
        · exact hd y a
        · rw [List.mem_singleton.mp a]; exact h
      refine ⟨_, rfl, _, rfl, _, _, rfl, rfl, _, rfl, ?_⟩
      by_cases c : l ≤ z.2
      · have cI : ((z.2 : Nat) : Int) ≥ (l : Nat) := by omega
        refine iteTe (decide_eq_true cI) ?_
        obtain ⟨k1, k2⟩ := hks z hz c
        have g1 : DGet (upd H' T (.tup [.ref q2, .int (z.2 : Nat)])) bo (.str z.1.2) (some (.int (f z.1.2))) := by
          have e := DGet.k (k := .inr z.1.2) hb2
          rw [gd_in k2] at e
          exact e
        have g2 : DGet (upd H' T (.tup [.ref q2, .int (z.2 : Nat)])) bo (.str z.1.1) (some (.int (f z.1.1))) := by
          have e := DGet.k (k := .inr z.1.1) hb2
          rw [gd_in k1] at e
          exact e
        refine ⟨_, rfl, _, rfl, bo, _, rfl, g1, _, rfl, _, rfl, bo, _, rfl, g2, _, _, rfl, rfl, _, rfl, ?_⟩
        refine ite2 (fun c2 => ?_) (fun c2 => ?_)
        · have c2 := of_decide_eq_true c2
          refine ⟨sH2 _ _ upd_same, ?_⟩
          have e : fairM l f ms = false := by
            cases e1 : fairM l f ms with
            | false => rfl
            | true => exact absurd c2 (fairM_iff.mp e1 z hz c)
          have q1 := qq _ (fin _ sH2)
          rw [e] at q1
          exact q1
        · have c2 : ¬ f z.1.2 < f z.1.1 := fun z1 => c2 (decide_eq_true z1)
          exact ⟨sH2, ⟨_, _, _, rfl⟩, go fun _ => c2⟩
      · have cI : ¬ ((z.2 : Nat) : Int) ≥ (l : Nat) := by omega
        refine iteFe (decide_eq_false cI) ?_
        exact ⟨sH2, ⟨_, _, _, rfl⟩, go fun h => absurd h c⟩
    · rintro σ H' ⟨sH, ⟨v3, v4, v5, rfl⟩, hd⟩
      refine ⟨sH _ _ upd_same, ?_⟩
      have el : (dM ms).length = ms.length := by unfold dM; rw [List.length_map]
      rw [el, List.take_length] at hd
      have e : fairM l f ms = true := fairM_iff.mpr hd
      have q1 := qq _ (fin _ sH)
      rw [e] at q1
      exact q1
end
end Ku

/-! KuZip -/
set_option Elab.async false
set_option linter.all false
set_option maxRecDepth 100000
set_option maxHeartbeats 4000000
/-! for a, b, c in zip(x, y, z), three lists. -/
namespace KuZ
open PySem PySem.Spec PyProof.Rows L2
theorem typeCall_zip_3 (a b c : Value) : checkTypeCall "zip" ⟨[a, b, c], []⟩ = pure () := by kernel_rfl
theorem newCall_zip_3 (a b c : Value) : checkBuiltinCall "zip.__new__" ⟨[.type "zip", a, b, c], []⟩ = pure () := by kernel_rfl
theorem args_object_init_4 (a b c d : Value) : argsOk "object.__init__" ⟨[a, b, c, d], []⟩ := by
  unfold argsOk; rw [signature?_of (id := "object.__init__") (n := ['_', '_', 't', 'i', 'n', 'i', '_', '_']) (o := ['t', 'c', 'e', 'j', 'b', 'o']) (by kernel_rfl) PySem.F.owner_object]; kernel_rfl
abbrev zH1 (h : Heap) (l1 : Addr) : Heap := h.push { cls := .type "list_iterator", data := .fields #[.ref l1, .int 0 0] }
abbrev zH2 (h : Heap) (l1 l2 : Addr) : Heap := (zH1 h l1).push { cls := .type "list_iterator", data := .fields #[.ref l2, .int 0 0] }
abbrev zH3 (h : Heap) (l1 l2 l3 : Addr) : Heap := (zH2 h l1 l2).push { cls := .type "list_iterator", data := .fields #[.ref l3, .int 0 0] }
abbrev zH4 (h : Heap) (l1 l2 l3 : Addr) : Heap := (zH3 h l1 l2 l3).push { cls := .type "tuple", data := .seq #[.ref h.objs.size, .ref (zH1 h l1).objs.size, .ref (zH2 h l1 l2).objs.size] }
abbrev zH5 (h : Heap) (l1 l2 l3 : Addr) : Heap := (zH4 h l1 l2 l3).push { cls := .type "tuple", data := .seq #[.none, .none, .none] }
abbrev zH6 (h : Heap) (l1 l2 l3 : Addr) : Heap := (zH5 h l1 l2 l3).push { cls := .type "zip", data := .fields #[.none, .bool false, .bool false, .ref (zH3 h l1 l2 l3).objs.size, .ref (zH4 h l1 l2 l3).objs.size] }
theorem meets_zip_new3 (l1 l2 l3 : Addr) (xs ys zs : Array Value) :
    Meets (Builtin.«zip.__new__» ⟨[.type "zip", .ref l1, .ref l2, .ref l3], []⟩) (fun _ R s => s.heap.IsList l1 xs ∧ s.heap.IsList l2 ys ∧ s.heap.IsList l3 zs ∧
      R (.ok (.ret (.ref (zH5 s.heap l1 l2 l3).objs.size))) { s with heap := zH6 s.heap l1 l2 l3 }) :=
  .of_wp fun prog w A R s h => by
    obtain ⟨hp, g, d, tk, os⟩ := s; obtain ⟨hl1, hl2, hl3, h⟩ := h
    have hsub := sub_zip
    have hL1 : Heap.IsList (Shared.heap ⟨hp, g, d, tk, os⟩) l1 xs := hl1
    have hL2 : Heap.IsList (Shared.heap ⟨hp.push { cls := .type "list_iterator", data := .fields #[.ref l1, .int 0 0] }, g, d, tk, os⟩) l2 ys := Heap.IsList.push hl2 _
    have hL3 : Heap.IsList (Shared.heap ⟨(hp.push { cls := .type "list_iterator", data := .fields #[.ref l1, .int 0 0] }).push { cls := .type "list_iterator", data := .fields #[.ref l2, .int 0 0] }, g, d, tk, os⟩) l3 zs := Heap.IsList.push (Heap.IsList.push hl3 _) _
    wp_walk using wpAny_pyIter_list hL1, wpAny_pyIter_list hL2, wpAny_pyIter_list hL3
    exact ⟨_, rfl, h⟩
section
variable {prog : Program} {w : World} {A : Around} {E : Value → Shared → Prop} {s : Shared}
theorem call_zip_3 {l1 l2 l3 : Addr} {xs ys zs : Array Value} {Q : Value → Shared → Prop} (hl1 : s.heap.IsList l1 xs) (hl2 : s.heap.IsList l2 ys) (hl3 : s.heap.IsList l3 zs)
    (h : ∀ h', IsZip h' (s.heap.objs.size + 5) (s.heap.objs.size + 3) (s.heap.objs.size + 4) .none → IsTupOf3 h' (s.heap.objs.size + 3) (.ref s.heap.objs.size) (.ref (s.heap.objs.size + 1)) (.ref (s.heap.objs.size + 2)) →
      IsTupOf3 h' (s.heap.objs.size + 4) .none .none .none → h'.IsListIter s.heap.objs.size l1 0 → h'.IsListIter (s.heap.objs.size + 1) l2 0 → h'.IsListIter (s.heap.objs.size + 2) l3 0 → h'.objs.size = s.heap.objs.size + 6 →
      (∀ c o, s.heap.get? c = some o → h'.get? c = some o) → Q (.ref (s.heap.objs.size + 5)) { s with heap := h' }) :
    wpAny (model prog w) A (call (.type "zip") [.ref l1, .ref l2, .ref l3]) Q E s := by
  refine callType_new F.called_zip (by decide) (typeCall_zip_3 _ _ _) (newCall_zip_3 _ _ _) (fun obj => args_object_init_4 obj _ _ _) F.entry_zip_new
    (meets_zip_new3 l1 l2 l3 xs ys zs) ⟨hl1, hl2, hl3, ?_⟩
  have z1 : (zH1 s.heap l1).objs.size = s.heap.objs.size + 1 := Heap.size_push ..
  have z2 : (zH2 s.heap l1 l2).objs.size = s.heap.objs.size + 2 := by rw [Heap.size_push, z1]
  have z3 : (zH3 s.heap l1 l2 l3).objs.size = s.heap.objs.size + 3 := by rw [Heap.size_push, z2]
  have z4 : (zH4 s.heap l1 l2 l3).objs.size = s.heap.objs.size + 4 := by rw [Heap.size_push, z3]
  have z5 : (zH5 s.heap l1 l2 l3).objs.size = s.heap.objs.size + 5 := by rw [Heap.size_push, z4]
  have z6 : (zH6 s.heap l1 l2 l3).objs.size = s.heap.objs.size + 6 := by rw [Heap.size_push, z5]
  have g6 : (zH6 s.heap l1 l2 l3).get? (zH5 s.heap l1 l2 l3).objs.size = some _ := Heap.get?_push_size _ rfl
  have g5 : (zH6 s.heap l1 l2 l3).get? (zH4 s.heap l1 l2 l3).objs.size = some _ := Heap.get?_push_of_some _ (Heap.get?_push_size _ rfl)
  have g4 : (zH6 s.heap l1 l2 l3).get? (zH3 s.heap l1 l2 l3).objs.size = some _ := Heap.get?_push_of_some _ (Heap.get?_push_of_some _ (Heap.get?_push_size _ rfl))
  have g3 : (zH6 s.heap l1 l2 l3).get? (zH2 s.heap l1 l2).objs.size = some _ := Heap.get?_push_of_some _ (Heap.get?_push_of_some _ (Heap.get?_push_of_some _ (Heap.get?_push_size _ rfl)))
  have g2 : (zH6 s.heap l1 l2 l3).get? (zH1 s.heap l1).objs.size = some _ := Heap.get?_push_of_some _ (Heap.get?_push_of_some _ (Heap.get?_push_of_some _ (Heap.get?_push_of_some _ (Heap.get?_push_size _ rfl))))
  have g1 : (zH6 s.heap l1 l2 l3).get? s.heap.objs.size = some _ := Heap.get?_push_of_some _ (Heap.get?_push_of_some _ (Heap.get?_push_of_some _ (Heap.get?_push_of_some _ (Heap.get?_push_of_some _ (Heap.get?_push_size _ rfl)))))
  show _ ∧ _
  rw [z3, z4, z5] at g6
  rw [z1, z2, z3] at g4
  rw [z4] at g5
  rw [z2] at g3
  rw [z1] at g2
  rw [z5]
  exact ⟨⟨_, g6, rfl⟩, h _ g6 g4 g5 ⟨_, g1, rfl, rfl⟩ ⟨_, g2, rfl, rfl⟩ ⟨_, g3, rfl, rfl⟩ z6 fun c o x =>
    Heap.get?_push_of_some _ (Heap.get?_push_of_some _ (Heap.get?_push_of_some _ (Heap.get?_push_of_some _ (Heap.get?_push_of_some _ (Heap.get?_push_of_some _ x)))))⟩
end
/-- three lists of one length as they stand at each turn, each item in a new triple -/
def Itz3 (K : PySem.W.Frag) (a b c : Addr) : It :=
  ⟨fun i H => ∃ (xs ys zs : List V), SqL K H a xs ∧ SqL K H b ys ∧ SqL K H c zs ∧ i < xs.length ∧ i < ys.length ∧ i < zs.length,
    fun i H v H' => ∃ T x y z, v = .ref T ∧ H T = none ∧ H' = upd H T (.tup [x, y, z]) ∧ (∀ xs, SqL K H a xs → xs[i]? = some x) ∧ (∀ ys, SqL K H b ys → ys[i]? = some y) ∧ ∀ zs, SqL K H c zs → zs[i]? = some z,
    fun i H => ∃ (xs ys zs : List V), SqL K H a xs ∧ SqL K H b ys ∧ SqL K H c zs ∧ i = xs.length ∧ i = ys.length ∧ i = zs.length⟩
theorem turn_zip3 {P : Program} {w : World} {K : PySem.W.Frag} {elts : List Expr} {kk : Nat} {tpos : Pos} {a b c z TI TO i1 i2 i3 : Addr} (S : ZipSep3 z TI TO i1 i2 i3 [i1, a] [i2, b] [i3, c]) (n1 : a ≠ i1) (n2 : b ≠ i2) (n3 : c ≠ i3) :
    Turn P w K (.Tuple elts kk tpos) (Itz3 K a b c) [z, TI, TO, i1, i2, i3] z (fun i h => IsZip h z TI TO .none ∧ IsTupOf3 h TI (.ref i1) (.ref i2) (.ref i3) ∧ (∃ x y u, IsTupOf3 h TO x y u) ∧ h.IsListIter i1 a i ∧ h.IsListIter i2 b i ∧ h.IsListIter i3 c i) where
  mem := by simp
  obj := fun i h st c hc => by
    obtain ⟨hz, hTI, ⟨x, y, u, hTO⟩, ⟨o1, e1, _, d1⟩, ⟨o2, e2, _, d2⟩, ⟨o3, e3, _, d3⟩⟩ := st
    have e' : c = z ∨ c = TI ∨ c = TO ∨ c = i1 ∨ c = i2 ∨ c = i3 := by simpa using hc
    rcases e' with q | q | q | q | q | q
    · rw [q]; exact ⟨_, hz, fun v q => nomatch q⟩
    · rw [q]; exact ⟨_, hTI, fun v q => nomatch q⟩
    · rw [q]; exact ⟨_, hTO, fun v q => nomatch q⟩
    · rw [q]; exact ⟨o1, e1, fun v q => by rw [d1] at q; cases q⟩
    · rw [q]; exact ⟨o2, e2, fun v q => by rw [d2] at q; cases q⟩
    · rw [q]; exact ⟨o3, e3, fun v q => by rw [d3] at q; cases q⟩
  keep := fun i h h' st k => by
    obtain ⟨hz, hTI, ⟨x, y, u, hTO⟩, h1, h2, h3⟩ := st
    exact ⟨k z (by simp) _ hz, k TI (by simp) _ hTI, ⟨x, y, u, k TO (by simp) _ hTO⟩, h1.at fun o q => k i1 (by simp) o q, h2.at fun o q => k i2 (by simp) o q, h3.at fun o q => k i3 (by simp) o q⟩
  item := by
    intro X hP hw hK hc i pins s σ H E I hf st hg
    subst hP hw hK
    obtain ⟨hz, hTI, ⟨x0, y0, u0, hTO⟩, h1, h2, h3⟩ := st
    obtain ⟨xs, ys, zs, hqx, hqy, hqz, l1, l2, l3⟩ := hg
    obtain ⟨its, rv, p, _⟩ := I.list hqx
    obtain ⟨its2, rv2, p2, _⟩ := I.list hqy
    obtain ⟨its3, rv3, p3, _⟩ := I.list hqz
    have m1 := rv.length
    have m2 := rv2.length
    have m3 := rv3.length
    have hzl : z < s.heap.objs.size := Heap.lt_size hz
    have hh : X.A.in1.handled = none := I.ok.hd hc
    refine wpAny_pyNext_zipD3_item S (Draws.list hh i1 a n1 its.toArray) (Draws.list hh i2 b n2 its2.toArray) (Draws.list hh i3 c n3 its3.toArray) hz hTI hTO ⟨h1, p.isList⟩ ⟨h2, p2.isList⟩ ⟨h3, p3.isList⟩ (by simpa [m1] using l1) (by simpa [m2] using l2) (by simpa [m3] using l3) fun u1 u2 u3 h' tk q1 q2 q3 z' TO' d1 d2 d3 hT hsz hk => ?_
    obtain ⟨x, hx, r1⟩ : ∃ x, xs[i]? = some x ∧ RelV x u1 := by
      obtain ⟨v, hv, rv'⟩ := rv.get (List.getElem?_eq_getElem l1)
      have : its[i]? = some u1 := by simpa using q1
      rw [this] at hv
      cases hv
      exact ⟨_, List.getElem?_eq_getElem l1, rv'⟩
    obtain ⟨y, hy, r2⟩ : ∃ x, ys[i]? = some x ∧ RelV x u2 := by
      obtain ⟨v, hv, rv'⟩ := rv2.get (List.getElem?_eq_getElem l2)
      have : its2[i]? = some u2 := by simpa using q2
      rw [this] at hv
      cases hv
      exact ⟨_, List.getElem?_eq_getElem l2, rv'⟩
    obtain ⟨u, hu, r3⟩ : ∃ x, zs[i]? = some x ∧ RelV x u3 := by
      obtain ⟨v, hv, rv'⟩ := rv3.get (List.getElem?_eq_getElem l3)
      have : its3[i]? = some u3 := by simpa using q3
      rw [this] at hv
      cases hv
      exact ⟨_, List.getElem?_eq_getElem l3, rv'⟩
    refine ⟨_, rfl, wpAny_letOwnedTupleGo_zip (s := { s with heap := h', toks := tk }) z' fun h'' z'' sb => ?_⟩
    have hT2 : h''.get? s.heap.objs.size = some { cls := .type "tuple", data := .seq #[u1, u2, u3] } := (sb.2 _ (Nat.ne_of_gt hzl)).trans hT
    have new : ObjOk X.prog X.w (upd H s.heap.objs.size (.tup [x, y, u])) h'' s.heap.objs.size (.tup [x, y, u]) :=
      ⟨by show 3 ≤ sizeLine; decide, [u1, u2, u3], .cons r1 (.cons r2 (.cons r3 .nil)), ⟨_, hT2, rfl, _, rfl⟩⟩
    have I1 : Inv X pins σ (upd H s.heap.objs.size (.tup [x, y, u])) { s with heap := h'', toks := tk } :=
      I.turnedNew (t' := tk) (ch := [z, TI, TO, i1, i2, i3]) (fun c o hb q => (sb.2 c (fun q' => hb (by simp [q']))).trans (hk c o (fun q' => hb (by simp [q'])) (fun q' => hb (by simp [q'])) (fun q' => hb (by simp [q'])) (fun q' => hb (by simp [q'])) (fun q' => hb (by simp [q'])) q)) hf (Nat.le_refl _) new
    refine ⟨.ref s.heap.objs.size, _, I1, rfl, ⟨_, x, y, u, rfl, I.hok.fresh (Nat.le_refl _), rfl, fun l hl => by rw [I.list_inj hl hqx]; exact hx, fun l hl => by rw [I.list_inj hl hqy]; exact hy, fun l hl => by rw [I.list_inj hl hqz]; exact hu⟩, ⟨z'', ?_, ⟨u1, u2, u3, ?_⟩, ?_, ?_, ?_⟩, fun c hcm => ?_⟩
    · exact (sb.2 _ S.TIz).trans (hk _ _ S.TIz S.TITO S.TIi1 S.TIi2 S.TIi3 hTI)
    · exact (sb.2 _ S.TOz).trans TO'
    · exact d1.1.at fun o q => (sb.2 _ (Ne.symm S.zi1)).trans q
    · exact d2.1.at fun o q => (sb.2 _ (Ne.symm S.zi2)).trans q
    · exact d3.1.at fun o q => (sb.2 _ (Ne.symm S.zi3)).trans q
    · have hlt : c < s.heap.objs.size := by
        have e' : c = z ∨ c = TI ∨ c = TO ∨ c = i1 ∨ c = i2 ∨ c = i3 := by simpa using hcm
        rcases e' with q | q | q | q | q | q
        · rw [q]; exact hzl
        · rw [q]; exact Heap.lt_size hTI
        · rw [q]; exact Heap.lt_size hTO
        · rw [q]; obtain ⟨_, e1, _⟩ := h1; exact Heap.lt_size e1
        · rw [q]; obtain ⟨_, e2, _⟩ := h2; exact Heap.lt_size e2
        · rw [q]; obtain ⟨_, e3, _⟩ := h3; exact Heap.lt_size e3
      rw [upd_ne (Nat.ne_of_lt hlt)]
      exact (hf c hcm).1
  done := by
    intro X hP hw hK hc i pins s σ H E I hf st hg
    subst hP hw hK
    obtain ⟨hz, hTI, ⟨x0, y0, u0, hTO⟩, h1, h2, h3⟩ := st
    obtain ⟨xs, ys, zs, hqx, hqy, hqz, l1, l2, l3⟩ := hg
    obtain ⟨its, rv, p, _⟩ := I.list hqx
    obtain ⟨its2, rv2, p2, _⟩ := I.list hqy
    obtain ⟨its3, rv3, p3, _⟩ := I.list hqz
    have m1 := rv.length
    have m2 := rv2.length
    have m3 := rv3.length
    have hh : X.A.in1.handled = none := I.ok.hd hc
    have k1 : i = its.toArray.size := by rw [List.size_toArray]; omega
    have k2 : i = its2.toArray.size := by rw [List.size_toArray]; omega
    have k3 : i = its3.toArray.size := by rw [List.size_toArray]; omega
    exact wpAny_pyNext_zipD3_end S (Draws.list hh i1 a n1 its.toArray) (Draws.list hh i2 b n2 its2.toArray) (Draws.list hh i3 c n3 its3.toArray) hz hTI hTO ⟨h1, p.isList⟩ ⟨h2, p2.isList⟩ ⟨h3, p3.isList⟩ (Nat.le_of_eq k1) (Nat.le_of_eq k2) (Nat.le_of_eq k3) (.inl k1) fun h' tk hk => ⟨rfl, I.turnedL (t' := tk) (ch := [z, TI, TO, i1, i2, i3]) (fun c o hb q =>
      hk c o (fun q' => hb (by simp [q'])) (fun q' => hb (by simp [q'])) (fun q' => hb (by simp [q'])) (fun q' => hb (by simp [q'])) (fun q' => hb (by simp [q'])) q) hf⟩
  self := fun A i s Q E st h => wpAny_pyIter_zip st.1 h
def iZip3 (K : PySem.W.Frag) (ta : TA) : TI := fun σ H R => ta σ H fun vs H1 => ∃ a b c xs ys zs, vs = [.ref a, .ref b, .ref c] ∧ SqL K H1 a xs ∧ SqL K H1 b ys ∧ SqL K H1 c zs ∧ R (Itz3 K a b c) H1
theorem pi_zip3 {X : Cx} {e e2 e3 : Expr} {ta : TA} {p pos tpos : Pos} {elts : List Expr} {kk : Nat} (hg : Gl X "zip") (hm : X.mg "zip" = none) (ha : PA X [e, e2, e3] ta)
    (hs : starEach [e, e2, e3] X.env = (false, eval e X.env) :: starEach [e2, e3] X.env := by rfl) (hpl : (backTo pos (starEach [e2, e3] X.env)).any (·.1) = false := by rfl) :
    PI X (.Tuple elts kk tpos) (.Call (.Name "zip" p) [e, e2, e3] [] pos) (iZip3 X.K ta) := by
  refine ⟨fun pins s σ H R I h => ?_⟩
  refine Call_ (ld_blt I hg hm PyProof.Rows.boot_zip (PyProof.Rows.callWith_type1 (thn (ha.run pos pins s σ H _ I h) fun us s1 ⟨vs, H1, I1, r1, q1⟩ => ?_) hs hpl))
  obtain ⟨a, b, c, xs, ys, zs, ex, hqx, hqy, hqz, q⟩ := q1
  subst ex
  cases r1 with
  | cons r rr =>
    cases rr with
    | cons r' rr =>
      cases rr with
      | cons r'' rr =>
        cases rr
        cases r
        cases r'
        cases r''
        obtain ⟨its, rv, p1, _⟩ := I1.list hqx
        obtain ⟨its2, rv2, p2, _⟩ := I1.list hqy
        obtain ⟨its3, rv3, p3, _⟩ := I1.list hqz
        have la : a < s1.heap.objs.size := p1.lt
        have lb : b < s1.heap.objs.size := p2.lt
        have lc : c < s1.heap.objs.size := p3.lt
        refine call_zip_3 p1.isList p2.isList p3.isList fun h' hz hTI hTO h1 h2 h3 hsz hk => wpAny_pyIter_zip hz ?_
        have I2 : Inv X pins σ H1 { s1 with heap := h' } := I1.kept (t' := s1.toks) hk
        have S := zip_sep3 (N := s1.heap.objs.size) (fp1 := [a]) (fp2 := [b]) (fp3 := [c]) (fun z hz => by rw [List.mem_singleton.mp hz]; exact la) (fun z hz => by rw [List.mem_singleton.mp hz]; exact lb) (fun z hz => by rw [List.mem_singleton.mp hz]; exact lc)
        refine ⟨s1.heap.objs.size + 5, [s1.heap.objs.size + 5, s1.heap.objs.size + 3, s1.heap.objs.size + 4, s1.heap.objs.size, s1.heap.objs.size + 1, s1.heap.objs.size + 2], _, _, H1, rfl, I2, turn_zip3 S (Nat.ne_of_lt la) (Nat.ne_of_lt (Nat.lt_succ_of_lt lb)) (Nat.ne_of_lt (Nat.lt_succ_of_lt (Nat.lt_succ_of_lt lc))), ⟨hz, hTI, ⟨_, _, _, hTO⟩, h1, h2, h3⟩, fun z hcm => ?_, q⟩
        have e' : z = s1.heap.objs.size + 5 ∨ z = s1.heap.objs.size + 3 ∨ z = s1.heap.objs.size + 4 ∨ z = s1.heap.objs.size ∨ z = s1.heap.objs.size + 1 ∨ z = s1.heap.objs.size + 2 := by simpa using hcm
        have hle : s1.heap.objs.size ≤ z := by
          rcases e' with z | z | z | z | z | z
          · rw [z]; exact Nat.le_add_right _ _
          · rw [z]; exact Nat.le_add_right _ _
          · rw [z]; exact Nat.le_add_right _ _
          · rw [z]; exact Nat.le_refl _
          · rw [z]; exact Nat.le_add_right _ _
          · rw [z]; exact Nat.le_add_right _ _
        exact I1.fpOk hle (I1.hok.fresh hle)
/-- three lists whose items do not change -/
theorem walk_zip3 {K : PySem.W.Frag} {a b c : Addr} {xs ys zs : List V} {n : Nat} (h1 : n = xs.length) (h2 : n = ys.length) (h3 : n = zs.length) :
    Walk (Itz3 K a b c) n (fun H => SqL K H a xs ∧ SqL K H b ys ∧ SqL K H c zs) (fun i H v H' => ∃ T x y z, v = .ref T ∧ H T = none ∧ H' = upd H T (.tup [x, y, z]) ∧ xs[i]? = some x ∧ ys[i]? = some y ∧ zs[i]? = some z) := by
  refine ⟨fun i _ hi q => ⟨xs, ys, zs, q.1, q.2.1, q.2.2, by omega, by omega, by omega⟩, fun _ q => ⟨xs, ys, zs, q.1, q.2.1, q.2.2, h1, h2, h3⟩, fun i H v H' _ q y => ?_⟩
  obtain ⟨T, x, y, z, e1, e2, e3, e4, e5, e6⟩ := y
  exact ⟨T, x, y, z, e1, e2, e3, e4 xs q.1, e5 ys q.2.1, e6 zs q.2.2⟩
end KuZ

/-! KuR1 -/
set_option Elab.async false
set_option linter.all false
set_option maxRecDepth 100000
set_option maxHeartbeats 8000000
namespace Ku
open PySem PySem.Spec PyProof.Rows L2 KuS KuD KuIt KuZ
section
variable {P : Program} {w : World} {K : PySem.W.Frag} {mg : Str → Option Value} {base : Heap}
theorem Ra.sames {B R : List Str} {H H' : Hp} {x dx e q p m : Addr} {g : Str → Nat} {n : Nat} {kvs : List (List Key × V)} (r : Ra K B R H x dx e q p m g n kvs) (s : Same H H') : Ra K B R H' x dx e q p m g n kvs :=
  ⟨s _ _ r.at_, r.en.mono (hideL_but (But.of s)), r.ls.mono s, s _ _ r.met⟩
/-! ### advances_of -/
def spAdv (K : PySem.W.Frag) : Sp := fun vs H Q _ => ∃ (x dx e q p m bf : Addr) (B R : List Str) (g : Str → Nat) (n : Nat) (kvs : List (List Key × V)) (eb : Str → Nat), vs = [.ref x, .ref bf] ∧ Ra K B R H x dx e q p m g n kvs ∧ B ≠ [] ∧ B.length ≤ 100 ∧
  H bf = some (.lst ((kset B).map fun k => V.int (eb k : Nat))) ∧
  (∀ (r : Addr) (H' : Hp), Same H H' → H r = none → (∀ k ∈ B, ((KM.plc B R g k : Int) - (eb k : Int)) % (B.length : Int) = 0) → Grown (fun k => ((KM.plc B R g k : Int) - (eb k : Int)) / (B.length : Int)) (kset B) H' r → Q (.ref r) H') ∧
  (∀ (H' : Hp), Same H H' → (¬ ∀ k ∈ B, ((KM.plc B R g k : Int) - (eb k : Int)) % (B.length : Int) = 0) → Q .non H')
abbrev nmAdv : List Str := ["race", "before", "size", "found", "kind", "earlier", "now"]
theorem sc_advances_of : FnScope nmAdv ["race", "before"] (defScope s_advances_of) := fnScope_dec (by decide +kernel)
theorem cal_advances_of (Z : Say K mg) : Cal P w K mg base 3 "advances_of" (spAdv K) := by
  obtain ⟨fd, F⟩ := Z.D_advances_of
  have cB : Met P w K mg base 1 (cE K) "block" (spEnBlock K) := met_En_block Z
  have cP : Met P w K mg base 2 (cR K) "block_places" (spRaPlaces K) := met_Ra_places Z
  refine ⟨_, fd, ["race", "before"], fn_ok F sc_advances_of (fun vs H Q E h => ?_) (fun cdv A outer s H vs Q E hr h => ?_), Z.g_advances_of, F.kp, F.bindsN fun _ _ _ _ _ _ us hl => match us, hl with | [_, _], _ => rfl⟩
  · obtain ⟨x, dx, e, q, p, m, bf, B, R, g, n, kvs, eb, rfl, _⟩ := h
    rfl
  · obtain ⟨x, dx, e, q, p, m, bf, B, R, g, n, kvs, eb, rfl, ra, hne, zB, hbf, q1, q2⟩ := h
    have nd := sc_advances_of.nd
    have hu := hr.units
    refine ⟨_, pss_cons (ps_par (i := 2) (j := 3) rfl nd rfl rfl (by decide) rfl rfl (pa_cons (pe_callB call_len_seq rfl Z.f_len boot_len (pa_cons (pe_mt0 cB hr (by decide) (pe_fld (pv 0) rfl)) pa_nil)) (pa_cons (pe_lst pa_nil) pa_nil)) (by rfl))
      (pss_cons (ps_for PassesOwn.never rfl (pi_zip3 rfl Z.f_zip (pa_cons (pe_callB (cr_sortSS rfl hu) rfl Z.f_sorted boot_sorted (pa_cons (pe_callTy (cr_setS rfl) rfl Z.f_set boot_set (pa_cons (pe_mt0 cB hr (by decide) (pe_fld (pv 0) rfl)) pa_nil)) pa_nil)) (pa_cons (pv 1) (pa_cons (pe_mt0 cP hr (by decide) (pv 0)) pa_nil))))
          (pg_tup rfl (pgs_cons (pg_name (i := 4) nd rfl (Or.inl rfl)) (pgs_cons (pg_name (i := 5) nd rfl (Or.inl rfl)) (pgs_cons (pg_name (i := 6) nd rfl (Or.inl rfl)) pgs_nil))))
          (pss_cons (ps_if (pt_cmpR op_ne (pe_op op_mod (pe_op op_sub (pv 6) (pv 5)) (pv 2)) pe_int (nomark _)) (pss_one (ps_ret pe_non)) pss_nil)
          (pss_one (ps_expr (pe_bm PySem.F.plainAttrs_list PySem.F.slot_list_append PySem.F.type_list_append mt_append (pv 3) (pa_cons (pe_tup (pa_cons (pv 4) (pa_cons (pe_op op_fdiv (pe_op op_sub (pv 6) (pv 5)) (pv 2)) pa_nil))) pa_nil))))))
      (pss_one (ps_ret (pv 3)))), ?_⟩
    have zBi : (0 : Int) < ((B.length : Nat) : Int) := by
      have := List.length_pos_iff.mpr hne
      omega
    have en := ra.en.mono hideL_le
    obtain ⟨dxe, kb, kr, bs, rs, kvb, kvr, pe⟩ := id en
    refine ⟨_, rfl, x, _, dx, _, .ref e, rfl, ra.at_, Z.c_Race, Z.n_Race_history, rfl, e, dxe, _, rfl, pe.at_, rfl, e, B, R, rfl, en, fun c1 h1 => ?_⟩
    have s1 := Same.new (o := .lst (B.map V.str)) h1
    refine ⟨c1, _, rfl, .inl (SqL.of upd_same), by show 0 ≤ sizeLine; decide, fun fo hfo => ⟨_, _, rfl, ?_⟩⟩
    rw [List.length_map]
    have s2 := s1.trans (Same.new (o := .lst []) hfo)
    have hfo2 : upd (upd H c1 (.lst (B.map V.str))) fo (.lst []) fo = some (.lst ([] : List V)) := upd_same
    have ffo : H fo = none := s1.free hfo
    generalize upd (upd H c1 (.lst (B.map V.str))) fo (.lst []) = H2 at s2 hfo2 ⊢
    -- the three lists
    have en2 := en.mono s2
    refine ⟨_, rfl, x, _, dx, _, .ref e, rfl, s2 _ _ ra.at_, Z.c_Race, Z.n_Race_history, rfl, e, dxe, _, rfl, s2 _ _ pe.at_, rfl, e, B, R, rfl, en2, fun c2 h2 => ?_⟩
    have nfc2 := ne_of_none hfo2 h2
    refine ⟨c2, B, rfl, SqL.of upd_same, by omega, fun c3 h3 => ⟨c3, _, rfl, upd_same, Nat.le_trans (ofS_len B) (by omega), fun d hd => ?_⟩⟩
    have nfd := ne_of_none (((Same.new (o := .lst (B.map V.str)) h2).trans (Same.new (o := SetSO w c3 (ofS B)) h3)) _ _ hfo2) hd
    have hd0 : H2 d = none := ((Same.new (o := .lst (B.map V.str)) h2).trans (Same.new (o := SetSO w c3 (ofS B)) h3)).free hd
    generalize hh : upd (upd (upd H2 c2 (.lst (B.map V.str))) c3 (SetSO _ c3 (ofS B))) d (.lst ((srt (ofS B)).map V.str)) = H3
    have s3 : Same H2 H3 := by rw [← hh]; exact ((Same.new (o := .lst (B.map V.str)) h2).trans (Same.new (o := SetSO w c3 (ofS B)) h3)).trans (Same.new (o := .lst ((srt (ofS B)).map V.str)) hd)
    have hd3 : H3 d = some (.lst ((kset B).map V.str)) := by rw [← hh]; exact upd_same
    have hfo3 := s3 _ _ hfo2
    have s23 := s2.trans s3
    have ra3 : Ra K B R H3 x dx e q p m g n kvs := ra.sames s23
    refine ⟨_, rfl, _, rfl, x, dx, _, rfl, ra3.at_, rfl, x, dx, e, q, p, m, B, R, g, n, kvs, rfl, ra3, zB, fun pl H4 s4 fpl hpl => ?_⟩
    have s24 := s23.trans s4
    have hbf4 := s24 _ _ hbf
    have hd4 := s4 _ _ hd3
    have hfo4 := s4 _ _ hfo3
    have nfp := ne_of_none hfo3 fpl
    have nfb : fo ≠ bf := fun z => by rw [← z, ffo] at hbf; cases hbf
    have lk : (kset B).length = (kset B).length := rfl
    refine ⟨d, bf, pl, _, _, _, rfl, SqL.of hd4, SqL.of hbf4, SqL.of hpl, ?_⟩
    refine for_it (walk_zip3 (n := (kset B).length) (by rw [List.length_map]) (by rw [List.length_map]) (by rw [List.length_map]))
      (fun i σ H' => (∃ v4 v5 v6 : Option V, σ = [some (.ref x), some (.ref bf), some (.int (B.length : Nat)), some (.ref fo), v4, v5, v6]) ∧ Same H H' ∧ H' d = some (.lst ((kset B).map V.str)) ∧ H' pl = some (.lst ((kset B).map fun k => V.int (KM.plc B R g k : Nat))) ∧
        (∀ k ∈ (kset B).take i, ((KM.plc B R g k : Int) - (eb k : Int)) % (B.length : Int) = 0) ∧ ∃ ls : List Addr, H' fo = some (.lst (ls.map V.ref)) ∧ Paired (fun t k => H' t = some (.tup [.str k, .int (((KM.plc B R g k : Int) - (eb k : Int)) / (B.length : Int))])) ls ((kset B).take i))
      ⟨⟨_, _, _, rfl⟩, s24, hd4, hpl, fun k hk => by simp at hk, [], hfo4, .nil⟩ (fun i σ H' _ h => ⟨SqL.of h.2.2.1, SqL.of (h.2.1 _ _ hbf), SqL.of h.2.2.2.1⟩) ?_ ?_
    · rintro i v σ H' H'' hi ⟨⟨v4, v5, v6, rfl⟩, sH, hdd, hpp, hall, ls, hls, hpr⟩ ⟨T, a1, a2, a3, rfl, hT, rfl, g1, g2, g3⟩
      obtain ⟨z, rfl, hz, hm⟩ := map_str_get g1
      rw [List.getElem?_map, hz] at g2 g3
      cases g2
      cases g3
      have hzB : z ∈ B := kset_mem.mp hm
      have sT := Same.new (o := .tup [.str z, .int (eb z : Nat), .int (KM.plc B R g z : Nat)]) hT
      have nTf := ne_of_none hls hT
      refine ⟨T, _, rfl, SqT.of upd_same, rfl, _, _, rfl, _, _, rfl, _, _, rfl, rfl, ?_⟩
      have hls1 := sT _ _ hls
      have sH1 := sH.trans sT
      have hdd1 := sT _ _ hdd
      have hpp1 := sT _ _ hpp
      have hpr1 : Paired (fun t k => upd H' T (.tup [.str z, .int (eb z : Nat), .int (KM.plc B R g z : Nat)]) t = some (.tup [.str k, .int (((KM.plc B R g k : Int) - (eb k : Int)) / (B.length : Int))])) ls ((kset B).take i) := pair_imp hpr fun _ _ _ e => sT _ _ e
      generalize upd H' T (.tup [.str z, .int (eb z : Nat), .int (KM.plc B R g z : Nat)]) = H5 at hls1 sH1 hdd1 hpp1 hpr1 ⊢
      have et : (kset B).take (i + 1) = (kset B).take i ++ [z] := by rw [List.take_add_one, hz]; rfl
      refine ⟨_, rfl, _, rfl, _, _, rfl, rfl, _, rfl, _, _, rfl, rfl, zBi, rfl, _, rfl, ?_⟩
      by_cases c : ((KM.plc B R g z : Int) - (eb z : Int)) % (B.length : Int) = 0
      · have e0 : (!decide (V.int (((KM.plc B R g z : Nat) - (eb z : Nat)) % ((B.length : Nat) : Int)) = V.int 0)) = false := by rw [decide_eq_true (congrArg V.int c)]; rfl
        refine iteFe e0 ?_
        refine ⟨_, rfl, .inl ⟨rfl, _, SqL.of hls1⟩, _, rfl, _, rfl, _, rfl, _, _, rfl, rfl, _, rfl, _, _, rfl, rfl, ⟨zBi, by omega⟩, by show 2 ≤ sizeLine; decide, fun t ht => ?_⟩
        have ndt := ne_of_none hls1 ht
        refine ⟨fo, _, _, rfl, rfl, (Same.new ht) _ _ hls1, ?_, ?_⟩
        · rw [List.length_map, hpr1.length, List.length_take]
          have := kset_len B
          exact Nat.lt_of_le_of_lt (show min i (kset B).length ≤ 100 by omega) (by decide)
        · refine ⟨⟨_, _, _, rfl⟩, Same.mut (sH1.trans (Same.new ht)) ffo, ?_, ?_, ?_, ls ++ [t], ?_, ?_⟩
          · rw [upd_ne (Ne.symm nfd), upd_ne (ne_of_none hdd1 ht)]; exact hdd1
          · rw [upd_ne (Ne.symm nfp), upd_ne (ne_of_none hpp1 ht)]; exact hpp1
          · intro k hk
            rw [et] at hk
            rcases List.mem_append.mp hk with h | h
            · exact hall k h
            · rw [List.mem_singleton.mp h]; exact c
          · rw [upd_same, List.map_append]; rfl
          · rw [et]
            refine pair_snoc (pair_imp hpr1 fun q x _ e => ?_) ?_
            · rw [upd_ne (ne_of e hls1 (fun z => nomatch z)), upd_ne (ne_of_none e ht)]; exact e
            · rw [upd_ne (Ne.symm ndt), upd_same]
      · have e0 : (!decide (V.int (((KM.plc B R g z : Nat) - (eb z : Nat)) % ((B.length : Nat) : Int)) = V.int 0)) = true := by rw [decide_eq_false fun h => c (V.int.inj h)]; rfl
        refine iteTe e0 ?_
        exact q2 _ sH1 fun h => c (h z hzB)
    · rintro σ H' ⟨⟨v4, v5, v6, rfl⟩, sH, hdd, hpp, hall, ls, hls, hpr⟩
      rw [List.take_length] at hall hpr
      exact ⟨_, rfl, q1 fo H' sH ffo (fun k hk => hall k (kset_mem.mpr hk)) ⟨ls, hls, hpr⟩⟩
end
end Ku

/-! KuSd -/
set_option Elab.async false
set_option linter.all false
set_option maxRecDepth 100000
set_option maxHeartbeats 4000000
/-! d.setdefault(k, x), d a dict with tuple keys. -/
namespace KuSd
open PySem PySem.Spec PyProof.Rows L2
section
variable {X : Cx} {pins : List (Addr × Obj)} {σ : L2.St} {H : Hp} {s : Shared} {a : Addr} {u r : Value} {d : V} {k : List Key} {A : Around} {E : Value → Shared → Prop}
theorem d_setdT {kvs : List (List Key × V)} {b : Addr} {Q : Value → Shared → Prop} (hu : A.units + 1 < cLine) (I : Inv X pins σ H s) (e : H a = some (.dT kvs)) (eb : H b = some (.tup (k.map kV))) (rd : RelV d r) (hl : kvs.length < sizeLine)
    (h1 : ∀ v, valV kvs k = some v → ∀ (w' : Value) (s' : Shared), Inv X pins σ H s' → RelV v w' → Q w' s') (h2 : valV kvs k = none → ∀ (w' : Value) (s' : Shared), Inv X pins σ (upd H a (.dT (putK kvs k d))) s' → RelV d w' → Q w' s') :
    wpAny (model X.prog X.w) A (call (.builtin "dict.setdefault") [.ref a, .ref b, r]) Q E s := by
  obtain ⟨z, hd, xs, rel, dd⟩ := dt_of I.hok e
  have hz : xs.length ≤ sizeLine := by rw [← Paired.length rel]; exact z
  refine call_setdefault_heap (hsz := hz) (tupleKind_room_in1 hu) (key_of I.hok eb) hd dd (fun p hp => ?_) fun hn h' dd' hs => ?_
  · have q := rel.val k
    rw [hp] at q
    cases q0 : valV kvs k with
    | none =>
      rw [q0] at q
      exact (show False from q).elim
    | some v0 =>
      rw [q0] at q
      exact h1 v0 q0 _ _ (I.tok _) q
  · have q := rel.val k
    rw [hn] at q
    cases q0 : valV kvs k with
    | some v0 =>
      rw [q0] at q
      exact (show False from q).elim
    | none =>
      have hl2 : (putK kvs k d).length ≤ sizeLine := by
        have := length_putK kvs k d
        omega
      obtain ⟨q, es, ep, hq, a2, a3, a4, _, a5⟩ := dd'
      refine h2 q0 _ _ (d_write I (by rw [e]; exact True.intro) hs ⟨q, hq⟩ ⟨hl2, hd, _, (rel.put k eb rd).keeps fun c ys ec => ?_, q, es, ep, hq, a2, a3, a4, a5⟩) rd
      rw [upd_ne (ne_of ec e (fun z => nomatch z))]
      exact ec
end
def tDSetdT (td ty tx : TE) : TE := fun σ H Q => td σ H fun x H1 => ∃ a, x = .ref a ∧ IsD H1 a ∧ ty σ H1 fun y H2 => tx σ H2 fun z H3 => ∃ (kvs : List (List Key × V)) (k : List Key) (b : Addr), H3 a = some (.dT kvs) ∧ y = .ref b ∧ H3 b = some (.tup (k.map kV)) ∧ kvs.length < sizeLine ∧
  (∀ v, valV kvs k = some v → Q v H3) ∧ (valV kvs k = none → Q z (upd H3 a (.dT (putK kvs k z))))
section
variable {X : Cx} {o e f : Expr} {td ty tx : TE} {apos cpos : Pos}
theorem pe_dsetdT (hu : X.A.units + 1 < cLine) (ho : PE X o td) (he : PE X e ty) (hf : PE X f tx) (m : M2 X o "setdefault" apos e f cpos) : PE X (.Call (.Attribute o "setdefault" apos) [e, f] [] cpos) (tDSetdT td ty tx) := by
  refine ⟨fun pins s σ H Q I h => ?_⟩
  refine wpAny_Call_method m.base m.few m.line PySem.F.plainAttrs_dict PySem.F.slot_dict_setdefault PySem.F.type_dict_setdefault (thn (ho.run pins s σ H _ I h) fun u s1 ⟨x, H1, I1, rx, a, ex, d, q1⟩ => ?_)
  subst ex
  obtain rfl : u = Value.ref a := rx
  obtain ⟨t1, t2, _⟩ := isD_at I1 d
  refine ⟨t1, t2, ?_⟩
  rw [m.trees]
  refine Calls.callWith_builtin rfl (Calls.evalArgs_plain (Calls.spliced_cons (thn (he.run pins s1 σ H1 _ I1 q1) fun iv s2 ⟨y, H2, I2, ry, q2⟩ =>
    Calls.spliced_cons (thn (hf.run pins s2 σ H2 _ I2 q2) fun fv s3 ⟨z, H3, I3, rz, kvs, k, b, ea, ey, eb, hl, q3, q4⟩ => Calls.spliced_nil ?_))))
  subst ey
  cases (show iv = Value.ref b from ry)
  exact d_setdT hu I3 ea eb rz hl (fun v hv w' s4 I4 rw' => ⟨v, _, I4, rw', q3 v hv⟩) fun hn w' s4 I4 rw' => ⟨z, _, I4, rw', q4 hn⟩
end
end KuSd

/-! KuR2 -/
set_option Elab.async false
set_option linter.all false
set_option maxRecDepth 100000
set_option maxHeartbeats 8000000
namespace Ku
open PySem PySem.Spec PyProof.Rows L2 KuS KuD KuIt KuZ KuSd
/-! ### the leads by their shape -/
def shp (B R : List Str) (g : Str → Nat) : List Key := (kset B).map fun k => .inl ((KM.plc B R g k : Int) % (B.length : Int))
def isLd (B R : List Str) (ts : List (List Str)) (g : Str → Nat) (κ : List Key) (j : Nat) : Bool := KM.settled B R ts (KM.after B R ts g j) && decide (shp B R (KM.after B R ts g j) = κ)
def Lds (B R : List Str) (ts : List (List Str)) (g : Str → Nat) (n : Nat) (κ : List Key) : List Nat := (List.range n).filter (isLd B R ts g κ)
section
variable {B R : List Str} {ts : List (List Str)} {g : Str → Nat} {n j : Nat} {κ : List Key}
theorem Lds_mem : j ∈ Lds B R ts g n κ ↔ j < n ∧ KM.settled B R ts (KM.after B R ts g j) = true ∧ shp B R (KM.after B R ts g j) = κ := by
  unfold Lds isLd
  rw [List.mem_filter, List.mem_range, Bool.and_eq_true, decide_eq_true_eq]
theorem Lds_succ : Lds B R ts g (n + 1) κ = if KM.settled B R ts (KM.after B R ts g n) = true ∧ shp B R (KM.after B R ts g n) = κ then Lds B R ts g n κ ++ [n] else Lds B R ts g n κ := by
  unfold Lds
  rw [List.range_succ, List.filter_append]
  by_cases c : isLd B R ts g κ n = true
  · have c2 := c
    unfold isLd at c2
    rw [Bool.and_eq_true, decide_eq_true_eq] at c2
    rw [if_pos c2]
    simp [c]
  · have c2 : ¬ (KM.settled B R ts (KM.after B R ts g n) = true ∧ shp B R (KM.after B R ts g n) = κ) := fun h => c (by
      unfold isLd
      rw [Bool.and_eq_true, decide_eq_true_eq]
      exact h)
    rw [if_neg c2]
    simp [c]
theorem Lds_len : (Lds B R ts g n κ).length ≤ n := by
  unfold Lds
  exact Nat.le_trans (List.length_filter_le _ _) (Nat.le_of_eq List.length_range)
theorem Lds_pw : (Lds B R ts g n κ).Pairwise (· < ·) := by
  unfold Lds
  exact List.Pairwise.filter _ List.pairwise_lt_range
/-- whole blocks have the same shape -/
theorem shp_whole {l : Nat} (h : KM.wholeB B R ts g l n = true) : shp B R (KM.after B R ts g l) = shp B R (KM.after B R ts g n) := by
  unfold shp
  refine List.map_congr_left fun k hk => ?_
  have h1 := KM.wholeB_iff.mp h k (kset_mem.mp hk)
  have h2 : ((KM.plc B R (KM.after B R ts g n) k : Int)) % (B.length : Int) = (KM.plc B R (KM.after B R ts g l) k : Int) % (B.length : Int) := Int.emod_eq_emod_iff_emod_sub_eq_zero.mpr h1
  rw [h2]
theorem paper_ld {l : Nat} (hl : l < n) (h : KM.paperB B R ts g l n = true) : l ∈ Lds B R ts g n (shp B R (KM.after B R ts g n)) := by
  unfold KM.paperB at h
  rw [Bool.and_eq_true, Bool.and_eq_true] at h
  exact Lds_mem.mpr ⟨hl, h.1, shp_whole h.2.1⟩
theorem take_of_lt {L : List Nat} (pw : L.Pairwise (· < ·)) {i a b : Nat} (ha : L[i]? = some a) (hb : b ∈ L) (hlt : b < a) : b ∈ L.take i := by
  obtain ⟨k, hk⟩ := List.mem_iff_getElem?.mp hb
  rcases Nat.lt_or_ge k i with c | c
  · refine List.mem_iff_getElem?.mpr ⟨k, ?_⟩
    rw [List.getElem?_take, if_pos c]
    exact hk
  · exfalso
    rcases Nat.eq_or_lt_of_le c with e | c2
    · rw [← e, ha] at hk
      cases hk
      omega
    · obtain ⟨h1, e1⟩ := List.getElem?_eq_some_iff.mp ha
      obtain ⟨h2, e2⟩ := List.getElem?_eq_some_iff.mp hk
      have := List.pairwise_iff_getElem.mp pw i k h1 h2 c2
      omega
/-- no paper among the leads before the i-th: none before it -/
theorem before_none {i a : Nat} (ha : (Lds B R ts g n (shp B R (KM.after B R ts g n)))[i]? = some a) (h : ∀ l ∈ (Lds B R ts g n (shp B R (KM.after B R ts g n))).take i, KM.paperB B R ts g l n = false) : ∀ l, l < a → KM.paperB B R ts g l n = false := by
  intro l hl
  have han : a < n := (Lds_mem.mp (List.mem_of_getElem? ha)).1
  cases c : KM.paperB B R ts g l n with
  | false => rfl
  | true =>
    rw [h l (take_of_lt Lds_pw ha (paper_ld (by omega) c) hl)] at c
    cases c
theorem all_none (h : ∀ l ∈ Lds B R ts g n (shp B R (KM.after B R ts g n)), KM.paperB B R ts g l n = false) : ∀ l, l < n → KM.paperB B R ts g l n = false := by
  intro l hl
  cases c : KM.paperB B R ts g l n with
  | false => rfl
  | true =>
    rw [h l (paper_ld hl c)] at c
    cases c
theorem step_none (h0 : KM.findP (KM.paperB B R ts g) (n - 1) = none) (h : ∀ l, l < n → KM.paperB B R ts g l n = false) : KM.findP (KM.paperB B R ts g) (n + 1 - 1) = none := by
  cases n with
  | zero => rfl
  | succ k => exact find_step h0 h
end
/-! ### what settled_race keeps -/
def PLs (B R : List Str) (g : Str → Nat) : List V := (kset B).map fun k => V.int (KM.plc B R g k : Nat)
/-- all that was made since Hs stays -/
def Kp (Hs H H' : Hp) : Prop := ∀ a o, Hs a = none → H a = some o → H' a = some o
theorem Kp.of {Hs H H' : Hp} (s : Same H H') : Kp Hs H H' := fun a o _ e => s a o e
theorem Kp.but {Hs H H' : Hp} {l : List Addr} (b : But l H H') (h : ∀ a ∈ l, Hs a ≠ none) : Kp Hs H H' := fun a o n e => b a o (fun m => h a m n) e
structure SR (B R : List Str) (ts : List (List Str)) (g : Str → Nat) (Hs H : Hp) (st go le : Addr) (ss sts gos : List Addr) (kvs : List (List Key × V)) (Ld : List Key → List Nat) : Prop where
  hst : H st = some (.lst (ss.map V.ref))
  hgo : H go = some (.lst (gos.map V.ref))
  hle : H le = some (.dT kvs)
  fst : Hs st = none
  fgo : Hs go = none
  fle : Hs le = none
  nsg : st ≠ go
  hs : ∀ j a, sts[j]? = some a → H a = some (.lst (PLs B R (KM.after B R ts g j))) ∧ Hs a = none ∧ a ≠ st ∧ a ≠ go
  hg : ∀ j a, gos[j]? = some a → H a = some (.dK (dGo (KM.after B R ts g j) (kinds B R))) ∧ Hs a = none
  hl : ∀ κ, (valV kvs κ = none ∧ Ld κ = []) ∨ ∃ a, valV kvs κ = some (.ref a) ∧ H a = some (.lst ((Ld κ).map fun j => V.int (j : Nat))) ∧ Hs a = none ∧ a ≠ st ∧ a ≠ go ∧ a ∉ sts
  inj : ∀ κ κ' a, valV kvs κ = some (.ref a) → valV kvs κ' = some (.ref a) → κ = κ'
section
variable {B R : List Str} {ts : List (List Str)} {g : Str → Nat} {Hs H H' : Hp} {st go le c : Addr} {ss sts gos : List Addr} {kvs : List (List Key × V)} {Ld : List Key → List Nat}
theorem SR.kp (r : SR B R ts g Hs H st go le ss sts gos kvs Ld) (k : Kp Hs H H') : SR B R ts g Hs H' st go le ss sts gos kvs Ld where
  hst := k _ _ r.fst r.hst
  hgo := k _ _ r.fgo r.hgo
  hle := k _ _ r.fle r.hle
  fst := r.fst
  fgo := r.fgo
  fle := r.fle
  nsg := r.nsg
  hs := fun j a e => ⟨k _ _ (r.hs j a e).2.1 (r.hs j a e).1, (r.hs j a e).2⟩
  hg := fun j a e => ⟨k _ _ (r.hg j a e).2 (r.hg j a e).1, (r.hg j a e).2⟩
  hl := fun κ => by
    rcases r.hl κ with h | ⟨a, h1, h2, h3, h4⟩
    · exact .inl h
    · exact .inr ⟨a, h1, k _ _ h3 h2, h3, h4⟩
  inj := r.inj
/-- a new list of places -/
theorem SR.newPl (r : SR B R ts g Hs H st go le ss sts gos kvs Ld) (s : Same H H') (hc : H c = none) (h : H' c = some (.lst (PLs B R (KM.after B R ts g sts.length)))) (sH : ∀ a o, Hs a = some o → H a ≠ none) : SR B R ts g Hs H' st go le ss (sts ++ [c]) gos kvs Ld where
  hst := s _ _ r.hst
  hgo := s _ _ r.hgo
  hle := s _ _ r.hle
  fst := r.fst
  fgo := r.fgo
  fle := r.fle
  nsg := r.nsg
  hs := fun j a e => by
    by_cases c1 : j < sts.length
    · rw [List.getElem?_append_left c1] at e
      exact ⟨s _ _ (r.hs j a e).1, (r.hs j a e).2⟩
    · rw [List.getElem?_append_right (by omega)] at e
      have ej : j = sts.length := by
        have := (List.getElem?_eq_some_iff.mp e).1
        simp at this
        omega
      subst ej
      simp at e
      subst e
      refine ⟨h, ?_, (ne_of_none r.hst hc).symm, (ne_of_none r.hgo hc).symm⟩
      cases e1 : Hs c with
      | none => rfl
      | some o => exact absurd hc (sH c o e1)
  hg := fun j a e => ⟨s _ _ (r.hg j a e).1, (r.hg j a e).2⟩
  hl := fun κ => by
    rcases r.hl κ with h | ⟨a, h1, h2, h3, h4, h5, h6⟩
    · exact .inl h
    · refine .inr ⟨a, h1, s _ _ h2, h3, h4, h5, fun m => ?_⟩
      rcases List.mem_append.mp m with m | m
      · exact h6 m
      · exact ne_of_none h2 hc (List.mem_singleton.mp m)
  inj := r.inj
/-- a new row -/
theorem SR.appGo (r : SR B R ts g Hs H st go le ss sts gos kvs Ld) (h : H c = some (.dK (dGo (KM.after B R ts g gos.length) (kinds B R)))) (fc : Hs c = none) :
    SR B R ts g Hs (upd H go (.lst ((gos ++ [c]).map V.ref))) st go le ss sts (gos ++ [c]) kvs Ld where
  hst := by rw [upd_ne r.nsg]; exact r.hst
  hgo := upd_same
  hle := by rw [upd_ne (ne_of r.hle r.hgo fun z => nomatch z)]; exact r.hle
  fst := r.fst
  fgo := r.fgo
  fle := r.fle
  nsg := r.nsg
  hs := fun j a e => by
    obtain ⟨h1, h2, h3, h4⟩ := r.hs j a e
    exact ⟨by rw [upd_ne h4]; exact h1, h2, h3, h4⟩
  hg := fun j a e => by
    by_cases c1 : j < gos.length
    · rw [List.getElem?_append_left c1] at e
      obtain ⟨h1, h2⟩ := r.hg j a e
      exact ⟨by rw [upd_ne (ne_of h1 r.hgo fun z => nomatch z)]; exact h1, h2⟩
    · rw [List.getElem?_append_right (by omega)] at e
      have ej : j = gos.length := by
        have := (List.getElem?_eq_some_iff.mp e).1
        simp at this
        omega
      subst ej
      simp at e
      subst e
      exact ⟨by rw [upd_ne (ne_of h r.hgo fun z => nomatch z)]; exact h, fc⟩
  hl := fun κ => by
    rcases r.hl κ with h | ⟨a, h1, h2, h3, h4, h5, h6⟩
    · exact .inl h
    · exact .inr ⟨a, h1, by rw [upd_ne h5]; exact h2, h3, h4, h5, h6⟩
  inj := r.inj
/-- the states take in the places -/
theorem SR.appSt (r : SR B R ts g Hs H st go le ss sts gos kvs Ld) : SR B R ts g Hs (upd H st (.lst (sts.map V.ref))) st go le sts sts gos kvs Ld where
  hst := upd_same
  hgo := by rw [upd_ne r.nsg.symm]; exact r.hgo
  hle := by rw [upd_ne (ne_of r.hle r.hst fun z => nomatch z)]; exact r.hle
  fst := r.fst
  fgo := r.fgo
  fle := r.fle
  nsg := r.nsg
  hs := fun j a e => by
    obtain ⟨h1, h2, h3, h4⟩ := r.hs j a e
    exact ⟨by rw [upd_ne h3]; exact h1, h2, h3, h4⟩
  hg := fun j a e => by
    obtain ⟨h1, h2⟩ := r.hg j a e
    exact ⟨by rw [upd_ne (ne_of h1 r.hst fun z => nomatch z)]; exact h1, h2⟩
  hl := fun κ => by
    rcases r.hl κ with h | ⟨a, h1, h2, h3, h4, h5, h6⟩
    · exact .inl h
    · exact .inr ⟨a, h1, by rw [upd_ne h4]; exact h2, h3, h4, h5, h6⟩
  inj := r.inj
/-- one lead more, in a list that stands there -/
theorem SR.addOld {κn : List Key} {n : Nat} {Ld' : List Key → List Nat} (r : SR B R ts g Hs H st go le ss sts gos kvs Ld) {a : Addr} (ha : valV kvs κn = some (.ref a)) (e1 : Ld' κn = Ld κn ++ [n]) (e2 : ∀ κ, κ ≠ κn → Ld' κ = Ld κ) :
    H a = some (.lst ((Ld κn).map fun j => V.int (j : Nat))) ∧ Hs a = none ∧ SR B R ts g Hs (upd H a (.lst ((Ld κn).map (fun j => V.int (j : Nat)) ++ [V.int (n : Nat)]))) st go le ss sts gos kvs Ld' := by
  have q : H a = some (.lst ((Ld κn).map fun j => V.int (j : Nat))) ∧ Hs a = none ∧ a ≠ st ∧ a ≠ go ∧ a ∉ sts := by
    rcases r.hl κn with h | ⟨b, h1, h2⟩
    · rw [ha] at h; cases h.1
    · rw [ha] at h1
      cases h1
      exact h2
  obtain ⟨q1, q2, q3, q4, q5⟩ := q
  refine ⟨q1, q2, { hst := ?_, hgo := ?_, hle := ?_, fst := r.fst, fgo := r.fgo, fle := r.fle, nsg := r.nsg, hs := ?_, hg := ?_, hl := ?_, inj := r.inj }⟩
  · rw [upd_ne q3.symm]; exact r.hst
  · rw [upd_ne q4.symm]; exact r.hgo
  · rw [upd_ne (ne_of r.hle q1 fun z => nomatch z)]; exact r.hle
  · intro j b e
    obtain ⟨h1, h2, h3, h4⟩ := r.hs j b e
    exact ⟨by rw [upd_ne (fun z => q5 (by rw [← z]; exact List.mem_of_getElem? e))]; exact h1, h2, h3, h4⟩
  · intro j b e
    obtain ⟨h1, h2⟩ := r.hg j b e
    exact ⟨by rw [upd_ne (ne_of h1 q1 fun z => nomatch z)]; exact h1, h2⟩
  · intro κ
    by_cases c : κ = κn
    · subst c
      refine .inr ⟨a, ha, ?_, q2, q3, q4, q5⟩
      rw [upd_same, e1, List.map_append]
      rfl
    · rw [e2 κ c]
      rcases r.hl κ with h | ⟨b, h1, h2, h3⟩
      · exact .inl h
      · refine .inr ⟨b, h1, ?_, h3⟩
        rw [upd_ne (fun z => c (r.inj κ κn a (by rw [← z]; exact h1) ha))]
        exact h2
/-- .. in a new one -/
theorem SR.addNew {κn : List Key} {n : Nat} {z : Addr} {Ld' : List Key → List Nat} (r : SR B R ts g Hs H st go le ss sts gos kvs Ld) (ha : valV kvs κn = none) (hz : H z = none) (fz : Hs z = none) (e1 : Ld' κn = Ld κn ++ [n]) (e2 : ∀ κ, κ ≠ κn → Ld' κ = Ld κ) :
    SR B R ts g Hs (upd (upd (upd H z (.lst [])) le (.dT (putK kvs κn (.ref z)))) z (.lst [V.int (n : Nat)])) st go le ss sts gos (putK kvs κn (.ref z)) Ld' := by
  have nz : ∀ {b : Addr} {o : HO}, H b = some o → b ≠ z := fun e => ne_of_none e hz
  have key : ∀ {b : Addr} {o : HO}, H b = some o → b ≠ le → upd (upd (upd H z (.lst [])) le (.dT (putK kvs κn (.ref z)))) z (.lst [V.int (n : Nat)]) b = some o := fun e h => by
    rw [upd_ne (nz e), upd_ne h, upd_ne (nz e)]; exact e
  refine { hst := ?_, hgo := ?_, hle := ?_, fst := r.fst, fgo := r.fgo, fle := r.fle, nsg := r.nsg, hs := ?_, hg := ?_, hl := ?_, inj := ?_ }
  · exact key r.hst (ne_of r.hst r.hle fun z => nomatch z)
  · exact key r.hgo (ne_of r.hgo r.hle fun z => nomatch z)
  · rw [upd_ne (nz r.hle), upd_same]
  · intro j b e
    obtain ⟨h1, h2⟩ := r.hs j b e
    exact ⟨key h1 (ne_of h1 r.hle fun z => nomatch z), h2⟩
  · intro j b e
    obtain ⟨h1, h2⟩ := r.hg j b e
    exact ⟨key h1 (ne_of h1 r.hle fun z => nomatch z), h2⟩
  · intro κ
    rw [valV_put]
    by_cases c : κ = κn
    · subst c
      rw [if_pos rfl]
      have e0 : Ld κ = [] := by
        rcases r.hl κ with h | ⟨b, h1, _⟩
        · exact h.2
        · rw [ha] at h1; cases h1
      refine .inr ⟨z, rfl, ?_, fz, fun e => nz r.hst e.symm, fun e => nz r.hgo e.symm, fun m => ?_⟩
      · rw [upd_same, e1, e0]
        rfl
      · obtain ⟨j, hj⟩ := List.mem_iff_getElem?.mp m
        exact nz (r.hs j z hj).1 rfl
    · rw [if_neg c, e2 κ c]
      rcases r.hl κ with h | ⟨b, h1, h2, h3⟩
      · exact .inl h
      · exact .inr ⟨b, h1, key h2 (ne_of h2 r.hle fun z => nomatch z), h3⟩
  · intro κ κ' a h1 h2
    rw [valV_put] at h1 h2
    have old : ∀ {κ : List Key} {b : Addr}, valV kvs κ = some (.ref b) → b ≠ z := fun {κ b} h => by
      rcases r.hl κ with h' | ⟨b', h1, h2, _⟩
      · rw [h] at h'; cases h'.1
      · rw [h] at h1
        cases h1
        exact nz h2
    by_cases c : κ = κn
    · by_cases c' : κ' = κn
      · rw [c, c']
      · rw [if_pos c] at h1
        rw [if_neg c'] at h2
        cases h1
        exact absurd rfl (old h2)
    · by_cases c' : κ' = κn
      · rw [if_neg c] at h1
        rw [if_pos c'] at h2
        cases h2
        exact absurd rfl (old h1)
      · rw [if_neg c] at h1
        rw [if_neg c'] at h2
        exact r.inj κ κ' a h1 h2
end
end Ku

/-! KuR3 -/
set_option Elab.async false
set_option linter.all false
set_option maxRecDepth 100000
set_option maxHeartbeats 8000000
namespace Ku
open PySem PySem.Spec PyProof.Rows L2 KuS KuD KuIt KuZ KuSd
theorem roundM_len {B R : List Str} : ∀ (ts : List (List Str)) (g : Str → Nat), (∀ s ∈ ts, s.length ≤ 8) → (KM.roundM B R ts g).length ≤ 8 * ts.length
  | [], _, _ => by simp [KM.roundM]
  | s :: r, g, h => by
    have h1 := roundM_len (B := B) (R := R) r (KM.stepG B R g s) fun x hx => h x (List.mem_cons_of_mem _ hx)
    have h2 := h s (List.mem_cons_self ..)
    have h3 := meets_len (B := B) (R := R) (g := g) (l := s)
    show (KM.meets B R g s ++ KM.roundM B R r (KM.stepG B R g s)).length ≤ _
    rw [List.length_append, List.length_cons]
    omega
/-- a write to what was made since -/
theorem Ra.own {K : PySem.W.Frag} {B R : List Str} {Hs Ha : Hp} {x dx e q p m a : Addr} {o : HO} {g0 g : Str → Nat} {n0 n : Nat} {kvs0 kvs : List (List Key × V)} (r0 : Ra K B R Hs x dx e q p m g0 n0 kvs0) (r : Ra K B R Ha x dx e q p m g n kvs) (b : But [x, q, p, m] Hs Ha) (ha : Hs a = none) :
    But [x, q, p, m] Hs (upd Ha a o) ∧ Ra K B R (upd Ha a o) x dx e q p m g n kvs := by
  have bb : But [x, q, p, m] Hs (upd Ha a o) := b.fresh ha
  refine ⟨bb, r0.move bb ?_ ⟨?_, ?_⟩ ?_⟩
  · rw [upd_ne (ne_of_none r0.at_ ha)]; exact r.at_
  · rw [upd_ne (ne_of_none r0.ls.pl ha)]; exact r.ls.pl
  · rw [upd_ne (ne_of_none r0.ls.go ha)]; exact r.ls.go
  · rw [upd_ne (ne_of_none r0.met ha)]; exact r.met
section
variable {P : Program} {w : World} {K : PySem.W.Frag} {mg : Str → Option Value} {base : Heap}
/-! ### settled_race -/
def spSR (K : PySem.W.Frag) : Sp := fun vs H Q _ => ∃ (H0 : Hp) (x dx e q p m ta : Addr) (N : Nat) (B R : List Str) (as : List Addr) (ts : List (List Str)) (g : Str → Nat), vs = [.ref x, .ref ta, .int (N : Nat)] ∧ Ra K B R H x dx e q p m g 0 [] ∧ p ≠ q ∧ Same H0 H ∧ (∀ a ∈ [x, q, p, m], H0 a = none) ∧ Tk H0 ta as ts ∧
  B ≠ [] ∧ B.length ≤ 100 ∧ R.length ≤ 100 ∧ (∀ k, g k ≤ 2 ^ 20) ∧ N ≤ 3000 ∧
  (∀ (t t1 adv go : Addr) (gos : List Addr) (l n : Nat) (kvs : List (List Key × V)) (H' : Hp), But [x, q, p, m] H H' → KM.findP (KM.paperB B R ts g) N = some (l, n) → H' t = some (.tup [.ref t1, .ref go]) → H' t1 = some (.tup [.int (l : Nat), .int ((n : Nat) - (l : Nat)), .ref adv]) →
    H' go = some (.lst (gos.map V.ref)) → gos.length = n + 1 → (∀ j a, gos[j]? = some a → H' a = some (.dK (dGo (KM.after B R ts g j) (kinds B R)))) → Ra K B R H' x dx e q p m (KM.after B R ts g n) n kvs → Q (.ref t) H') ∧
  (∀ H' : Hp, But [x, q, p, m] H H' → KM.findP (KM.paperB B R ts g) N = none → Q .non H')
abbrev nmSR : List Str := ["race", "takes", "bound", "size", "states", "gone", "leads", "places", "shape", "lead", "advances", "place"]
theorem sc_settled_race : FnScope nmSR ["race", "takes", "bound"] (defScope s_settled_race) := fnScope_dec (by decide +kernel)
/-- at the head of the loop -/
def LoopSR (K : PySem.W.Frag) (B R : List Str) (ts : List (List Str)) (g : Str → Nat) (Hs : Hp) (x dx e q p m ta : Addr) (N : Nat) (st go le : Addr) (n : Nat) (σ : L2.St) (H : Hp) : Prop :=
  ∃ (sts gos : List Addr) (kvs : List (List Key × V)) (ms : List Mt) (v7 v8 v9 v10 : Option V), σ = [some (.ref x), some (.ref ta), some (.int (N : Nat)), some (.int (B.length : Nat)), some (.ref st), some (.ref go), some (.ref le), v7, v8, v9, v10, none] ∧
    But [x, q, p, m] Hs H ∧ Ra K B R H x dx e q p m (KM.after B R ts g n) n (dM ms) ∧ MetI (fun j => KM.roundM B R ts (KM.after B R ts g j)) n ms ∧ (dM ms).length ≤ 240 * n ∧
    SR B R ts g Hs H st go le sts sts gos kvs (Lds B R ts g n) ∧ sts.length = n ∧ gos.length = n ∧ kvs.length ≤ n ∧ KM.findP (KM.paperB B R ts g) (n - 1) = none
theorem cal_settled_race (Z : Say K mg) : Cal P w K mg base 4 "settled_race" (spSR K) := by
  obtain ⟨fd, F⟩ := Z.D_settled_race
  have cB : Met P w K mg base 1 (cE K) "block" (spEnBlock K) := met_En_block Z
  have cP : Met P w K mg base 2 (cR K) "block_places" (spRaPlaces K) := met_Ra_places Z
  have cS : Met P w K mg base 2 (cR K) "is_settled" (spRaSettled K) := met_Ra_settled Z
  have cF : Met P w K mg base 1 (cR K) "is_fair" (spRaFair K) := met_Ra_fair Z
  have cD : Met P w K mg base 3 (cR K) "do_round" (spRaRound K) := met_Ra_do_round Z
  have cA : Cal P w K mg base 3 "advances_of" (spAdv K) := cal_advances_of Z
  refine ⟨_, fd, ["race", "takes", "bound"], fn_ok F sc_settled_race (fun vs H Q E h => ?_) (fun cdv A outer s H vs Q E hr h => ?_), Z.g_settled_race, F.kp, F.bindsN fun _ _ _ _ _ _ us hl => match us, hl with | [_, _, _], _ => rfl⟩
  · obtain ⟨H0, x, dx, e, q, p, m, ta, N, B, R, as, ts, g, rfl, _⟩ := h
    rfl
  · obtain ⟨H0, x, dx, e, q, p, m, ta, N, B, R, as, ts, g, rfl, ra, npq, s0, fr, tk, hne, zB, zR, sg, zN, q1, q2⟩ := h
    have nd := sc_settled_race.nd
    have hu := hr.units
    have hu1 : (A.deeper (envOfC d_settled_race.qual d_settled_race.scope s.heap.objs.size (He.fAd K d_settled_race.at_) cdv)).units + 1 < cLine := by omega
    refine ⟨_, pss_cons (ps_set (i := 3) nd rfl (Or.inr rfl) (pe_callB call_len_seq rfl Z.f_len boot_len (pa_cons (pe_mt0 cB hr (by decide) (pe_fld (pv 0) rfl)) pa_nil)))
      (pss_cons (ps_par3 (i := 4) (j := 5) (l := 6) rfl nd rfl rfl rfl (by decide) (by decide) (by decide) rfl rfl rfl (pa_cons (pe_lst pa_nil) (pa_cons (pe_lst pa_nil) (pa_cons pe_dnewT pa_nil))) (by rfl))
      (pss_cons (ps_while PassesOwn.never (pt_cmpR op_le (pe_fld (pv 0) rfl) (pv 2) (nomark _))
        (pss_cons (ps_set (i := 7) nd rfl (Or.inl rfl) (pe_mt0 cP hr (by decide) (pv 0)))
        (pss_cons (ps_set (i := 8) nd rfl (Or.inl rfl) (pe_callTy call_tuple_of rfl Z.f_tuple PyProof.Rows.boot_tuple (pa_cons (pe_lc (own := [("place", 11)]) (g := gName 11) (tt := tYes) rfl nd (pi_list (pv 7)) (blkOk_by (N := nmSR) (sc := defScope s_settled_race) (by decide +kernel))
            (fun _ _ _ _ _ => pg_name (i := 11) nd rfl (Or.inl rfl)) (fun _ _ _ _ _ => pts_nil) (fun _ _ _ _ _ => pe_op op_mod (pv 11) (pv 3))) pa_nil)))
        (pss_cons (ps_expr (pe_bm PySem.F.plainAttrs_list PySem.F.slot_list_append PySem.F.type_list_append mt_append (pv 5) (pa_cons (pe_callTy call_dictD rfl Z.f_dict boot_dict (pa_cons (pe_fld (pv 0) rfl) pa_nil)) pa_nil)))
        (pss_cons (ps_for PassesOwn.never rfl (pi_list (pe_dget2 hu1 (pv 6) (pv 8) (pe_lst pa_nil) ⟨rfl, rfl, rfl, rfl⟩)) (pg_name (i := 9) nd rfl (Or.inl rfl))
          (pss_cons (ps_set (i := 10) nd rfl (Or.inl rfl) (pe_c cA hr (by decide) rfl (pa_cons (pv 0) (pa_cons (pe_ix ix_list (pv 4) (pv 9) (fun _ _ => rfl)) pa_nil))))
          (pss_one (ps_if (PW.pt (pw_and (pt_cmp (pc_notN (pv 10))) (pw_and1 (pt_val (pe_mt cF hr (by decide) (pv 0) (pa_cons (pv 9) (pa_cons (pe_callTy (call_dictP rfl) rfl Z.f_dict boot_dict (pa_cons (pv 10) pa_nil)) pa_nil)))))))
            (pss_one (ps_ret (pe_tup (pa_cons (pe_tup (pa_cons (pv 9) (pa_cons (pe_op op_sub (pe_fld (pv 0) rfl) (pv 9)) (pa_cons (pv 10) pa_nil)))) (pa_cons (pv 5) pa_nil))))) pss_nil))))
        (pss_cons (ps_if (pt_val (pe_mt cS hr (by decide) (pv 0) (pa_cons (pv 1) pa_nil)))
            (pss_one (ps_expr (pe_bm PySem.F.plainAttrs_list PySem.F.slot_list_append PySem.F.type_list_append mt_append (pe_dsetdT hu1 (pv 6) (pv 8) (pe_lst pa_nil) ⟨rfl, rfl, rfl, rfl⟩) (pa_cons (pe_fld (pv 0) rfl) pa_nil)))) pss_nil)
        (pss_cons (ps_expr (pe_bm PySem.F.plainAttrs_list PySem.F.slot_list_append PySem.F.type_list_append mt_append (pv 4) (pa_cons (pv 7) pa_nil)))
        (pss_one (ps_expr (pe_mt cD hr (by decide) (pv 0) (pa_cons (pv 1) pa_nil)))))))))))
      (pss_one (ps_ret pe_non)))), ?_⟩
    have zBi : (0 : Int) < ((B.length : Nat) : Int) := by
      have := List.length_pos_iff.mpr hne
      omega
    have en := ra.en.mono hideL_le
    obtain ⟨dxe, kb, kr, bs, rs, kvb, kvr, pe⟩ := id en
    refine ⟨_, rfl, x, _, dx, _, .ref e, rfl, ra.at_, Z.c_Race, Z.n_Race_history, rfl, e, dxe, _, rfl, pe.at_, rfl, e, B, R, rfl, en, fun c1 h1 => ⟨c1, _, rfl, .inl (SqL.of upd_same), ?_⟩⟩
    rw [List.length_map]
    have s1 := Same.new (o := .lst (B.map V.str)) h1
    generalize upd H c1 (.lst (B.map V.str)) = H1 at s1 ⊢
    refine ⟨by show 0 ≤ sizeLine; decide, fun st hst => ⟨by show 0 ≤ sizeLine; decide, fun go hgo => fun le hle => ⟨_, _, _, rfl, ?_⟩⟩⟩
    have f1 : H st = none := s1.free hst
    have s2 := s1.trans (Same.new (o := .lst []) hst)
    have f2 : H go = none := s2.free hgo
    have nsg : st ≠ go := ne_of_none (H := upd H1 st (.lst [])) upd_same hgo
    have s3 := s2.trans (Same.new (o := .lst []) hgo)
    have f3 : H le = none := s3.free hle
    have s4 := s3.trans (Same.new (o := .dT []) hle)
    have hgo4 : upd (upd (upd H1 st (.lst [])) go (.lst [])) le (.dT []) go = some (.lst (([] : List Addr).map V.ref)) := (Same.new (o := .dT []) hle) _ _ upd_same
    have hst4 : upd (upd (upd H1 st (.lst [])) go (.lst [])) le (.dT []) st = some (.lst (([] : List Addr).map V.ref)) := (Same.new (o := .dT []) hle) _ _ ((upd_ne nsg).trans upd_same)
    have hle4 : upd (upd (upd H1 st (.lst [])) go (.lst [])) le (.dT []) le = some (.dT []) := upd_same
    generalize upd (upd (upd H1 st (.lst [])) go (.lst [])) le (.dT []) = H4 at s4 hgo4 hst4 hle4 ⊢
    have xs : ∀ a ∈ [x, q, p, m], H a ≠ none := by
      intro a ha
      simp only [List.mem_cons, List.not_mem_nil, or_false] at ha
      rcases ha with h | h | h | h
      · rw [h, ra.at_]; simp
      · rw [h, ra.ls.go]; simp
      · rw [h, ra.ls.pl]; simp
      · rw [h, ra.met]; simp
    have nx : ∀ {a : Addr}, H a = none → a ∉ [x, q, p, m] := fun h m => xs _ m h
    have tkH := tk.mono s0
    have nta : ∀ {a : Addr} {o : HO}, H0 a = some o → a ∉ [x, q, p, m] := fun h m => by rw [fr _ m] at h; cases h
    have toH0 : ∀ {Hn : Hp}, But [x, q, p, m] H Hn → Same H0 Hn := fun b a o h => b a o (nta h) (s0 _ _ h)
    refine ⟨fun k σ H' => ∃ n, k = N + 1 - n ∧ n ≤ N + 1 ∧ LoopSR K B R ts g H x dx e q p m ta N st go le n σ H', ⟨_, 0, rfl, Nat.zero_le _, [], [], [], [], none, none, none, none, rfl, But.of s4, ra.sames s4, MetI.zero _, Nat.zero_le _,
      ⟨hst4, hgo4, hle4, f1, f2, f3, nsg, fun j a h => by simp at h, fun j a h => by simp at h, fun κ => .inl ⟨rfl, rfl⟩, fun κ κ' a h => by cases h⟩, rfl, rfl, Nat.zero_le _, rfl⟩, ?_⟩
    clear s1 s2 s3 s4 hgo4 hst4 hle4 hst hgo hle
    rintro k σ Hn ⟨n, rfl, hnN, sts, gos, kvs, ms, v7, v8, v9, v10, rfl, bn, ran, mi, zms, sr, zst, zgo, zk, hf⟩
    refine ⟨_, rfl, x, _, dx, _, .int (n : Nat), rfl, ran.at_, Z.c_Race, Z.n_Race_rounds, rfl, _, rfl, _, _, rfl, rfl, _, rfl, ?_⟩
    by_cases cN : n ≤ N
    rotate_left
    · refine iteFe (decide_eq_false (by omega)) ?_
      have en : n - 1 = N := by omega
      rw [en] at hf
      exact q2 Hn bn hf
    refine iteTe (decide_eq_true (by omega)) ⟨LoopSR K B R ts g H x dx e q p m ta N st go le (n + 1), fun σ' H' h => ⟨N + 1 - (n + 1), by omega, n + 1, rfl, by omega, h⟩, ?_⟩
    have hsn : ∀ {Ha : Hp}, But [x, q, p, m] H Ha → Ra K B R Ha x dx e q p m (KM.after B R ts g n) n (dM ms) → ∀ a o, H a = some o → Ha a ≠ none := fun {Ha} b r a o h => by
      by_cases c : a ∈ [x, q, p, m]
      · simp only [List.mem_cons, List.not_mem_nil, or_false] at c
        rcases c with h | h | h | h
        · rw [h, r.at_]; simp
        · rw [h, r.ls.go]; simp
        · rw [h, r.ls.pl]; simp
        · rw [h, r.met]; simp
      · rw [b a o c h]; simp
    have fresh : ∀ {Ha : Hp} {a : Addr}, But [x, q, p, m] H Ha → Ra K B R Ha x dx e q p m (KM.after B R ts g n) n (dM ms) → Ha a = none → H a = none := fun {Ha a} b r h => by
      cases c : H a with
      | none => rfl
      | some o => exact absurd h (hsn b r a o c)
    -- places
    refine ⟨_, rfl, x, dx, _, rfl, ran.at_, rfl, x, dx, e, q, p, m, B, R, _, n, _, rfl, ran, zB, fun pl H1 s1 fpl hpl => ?_⟩
    have hpl : H1 pl = some (.lst (PLs B R (KM.after B R ts g n))) := hpl
    have sr1 := sr.newPl s1 fpl (by rw [zst]; exact hpl) (hsn bn ran)
    have b1 := bn.trans (But.of s1)
    have ra1 := ran.sames s1
    have fplH := fresh bn ran fpl
    -- shape
    refine ⟨_, rfl, pl, rfl, ⟨_, SqL.of hpl⟩, fun D hD => ?_⟩
    refine lc_listF (K := K) (a := pl) (xs := PLs B R (KM.after B R ts g n)) (fun v => match v with | .int i => .int (i % (B.length : Nat)) | _ => .non) ?_ hD (SqL.of hpl) (fun _ => rfl) ?_ ?_
    · unfold PLs
      rw [List.length_map]
      exact Nat.le_trans (kset_len B) (by omega)
    · intro j y Ha Q' hy sa q'
      unfold PLs at hy
      rw [List.getElem?_map] at hy
      obtain ⟨z, hz, rfl⟩ := Option.map_eq_some_iff.mp hy
      exact ⟨_, rfl, _, rfl, _, _, rfl, rfl, zBi, q'⟩
    refine ⟨D, _, rfl, .inl ⟨SqL.of upd_same, fun T hT => ?_⟩⟩
    have s2 := (Same.new (o := .lst ((PLs B R (KM.after B R ts g n)).map fun v => match v with | .int i => .int (i % (B.length : Nat)) | _ => .non)) hD).trans (Same.new (o := .tup ((PLs B R (KM.after B R ts g n)).map fun v => match v with | .int i => .int (i % (B.length : Nat)) | _ => .non)) hT)
    have hT2 : upd (upd H1 D (.lst ((PLs B R (KM.after B R ts g n)).map fun v => match v with | .int i => .int (i % (B.length : Nat)) | _ => .non))) T (.tup ((PLs B R (KM.after B R ts g n)).map fun v => match v with | .int i => .int (i % (B.length : Nat)) | _ => .non)) T = some (.tup ((shp B R (KM.after B R ts g n)).map kV)) := by
      rw [upd_same]
      unfold PLs shp
      rw [List.map_map, List.map_map]
      rfl
    have fT : H T = none := fresh (b1.trans (But.of (Same.new (o := .lst ((PLs B R (KM.after B R ts g n)).map fun v => match v with | .int i => .int (i % (B.length : Nat)) | _ => .non)) hD))) (ra1.sames (Same.new (o := .lst ((PLs B R (KM.after B R ts g n)).map fun v => match v with | .int i => .int (i % (B.length : Nat)) | _ => .non)) hD)) hT
    generalize upd (upd H1 D (.lst ((PLs B R (KM.after B R ts g n)).map fun v => match v with | .int i => .int (i % (B.length : Nat)) | _ => .non))) T (.tup ((PLs B R (KM.after B R ts g n)).map fun v => match v with | .int i => .int (i % (B.length : Nat)) | _ => .non)) = H2 at s2 hT2 ⊢
    have sr2 := sr1.kp (Kp.of s2)
    have b2 := b1.trans (But.of s2)
    have ra2 := ra1.sames s2
    have hpl2 := s2 _ _ hpl
    -- a row more
    refine ⟨_, rfl, .inl ⟨rfl, _, SqL.of sr2.hgo⟩, _, rfl, x, _, dx, _, .ref q, rfl, ra2.at_, Z.c_Race, Z.n_Race_gone, rfl, q, _, rfl, .inl ra2.ls.go, fun c hc => ?_⟩
    have fc := fresh b2 ra2 hc
    have s3 := Same.new (o := .dK (dGo (KM.after B R ts g n) (kinds B R))) hc
    have sr3 := (sr2.kp (Kp.of s3)).appGo (c := c) (by rw [zgo]; exact upd_same) fc
    have hgo3 := s3 _ _ sr2.hgo
    have b3' := b2.trans (But.of s3)
    have ra3' := ra2.sames s3
    have hpl3' := s3 _ _ hpl2
    have hT3' := s3 _ _ hT2
    generalize upd H2 c (.dK (dGo (KM.after B R ts g n) (kinds B R))) = H3' at sr3 hgo3 b3' ra3' hpl3' hT3' ⊢
    refine ⟨go, _, _, rfl, rfl, hgo3, ?_, ?_⟩
    · rw [List.length_map, zgo]
      exact Nat.lt_of_le_of_lt (show n ≤ 100000 by omega) (by decide)
    rw [show gos.map V.ref ++ [V.ref c] = (gos ++ [c]).map V.ref from by rw [List.map_append]; rfl]
    obtain ⟨b3, ra3⟩ := ra.own (o := .lst ((gos ++ [c]).map V.ref)) ra3' b3' f2
    have sr3 : SR B R ts g H (upd H3' go (.lst ((gos ++ [c]).map V.ref))) st go le sts (sts ++ [pl]) (gos ++ [c]) kvs (Lds B R ts g n) := sr3
    have nplg : pl ≠ go := by
      have := (sr3.hs sts.length pl (by simp)).2.2.2
      exact this
    have hpl3 : upd H3' go (.lst ((gos ++ [c]).map V.ref)) pl = some (.lst (PLs B R (KM.after B R ts g n))) := (upd_ne nplg).trans hpl3'
    have hT3 : upd H3' go (.lst ((gos ++ [c]).map V.ref)) T = some (.tup ((shp B R (KM.after B R ts g n)).map kV)) := (upd_ne (ne_of hT3' hgo3 fun z => nomatch z)).trans hT3'
    generalize upd H3' go (.lst ((gos ++ [c]).map V.ref)) = H3 at b3 ra3 sr3 hpl3 hT3 ⊢
    -- the leads of this shape
    refine ⟨_, rfl, le, rfl, .inr ⟨_, .inl sr3.hle⟩, _, rfl, by show 0 ≤ sizeLine; decide, fun z hz => ?_⟩
    have s4 := Same.new (o := .lst []) hz
    refine ⟨_, DGet.t (s4 _ _ sr3.hle) (s4 _ _ hT3), ?_⟩
    have sr4 := sr3.kp (Kp.of s4)
    have b4 := b3.trans (But.of s4)
    have ra4 := ra3.sames s4
    have hpl4 := s4 _ _ hpl3
    have hT4 := s4 _ _ hT3
    obtain ⟨la, ela, hla⟩ : ∃ la, (valV kvs (shp B R (KM.after B R ts g n))).getD (.ref z) = .ref la ∧ upd H3 z (.lst []) la = some (.lst ((Lds B R ts g n (shp B R (KM.after B R ts g n))).map fun j => V.int (j : Nat))) := by
      rcases sr4.hl (shp B R (KM.after B R ts g n)) with ⟨h1, h2⟩ | ⟨a, h1, h2, _⟩
      · exact ⟨z, by rw [h1]; rfl, by rw [h2]; exact upd_same⟩
      · exact ⟨a, by rw [h1]; rfl, h2⟩
    rw [ela]
    generalize upd H3 z (.lst []) = H4 at sr4 b4 ra4 hpl4 hT4 hla ⊢
    clear s4
    refine ⟨la, rfl, ⟨_, SqL.of hla⟩, ?_⟩
    have zL : (Lds B R ts g n (shp B R (KM.after B R ts g n))).length ≤ n := Lds_len
    refine for_list (K := K) (a := la) (xs := (Lds B R ts g n (shp B R (KM.after B R ts g n))).map fun j => V.int (j : Nat)) (fun i σ H' => Same H4 H' ∧ (∃ v9 v10 : Option V, σ = [some (.ref x), some (.ref ta), some (.int (N : Nat)), some (.int (B.length : Nat)), some (.ref st), some (.ref go), some (.ref le), some (.ref pl), some (.ref T), v9, v10, none]) ∧
        ∀ l ∈ (Lds B R ts g n (shp B R (KM.after B R ts g n))).take i, KM.paperB B R ts g l n = false)
      ⟨Same.refl _, ⟨_, _, rfl⟩, fun l h => by simp at h⟩ (fun i σ H' _ h => SqL.of (h.1 _ _ hla)) ?_ ?_
    · rintro i y σ H5 hy ⟨s5, ⟨v9, v10, rfl⟩, hno⟩
      rw [List.getElem?_map] at hy
      obtain ⟨l, hl, rfl⟩ := Option.map_eq_some_iff.mp hy
      obtain ⟨lln, lset, lshp⟩ := Lds_mem.mp (List.mem_of_getElem? hl)
      have et : (Lds B R ts g n (shp B R (KM.after B R ts g n))).take (i + 1) = (Lds B R ts g n (shp B R (KM.after B R ts g n))).take i ++ [l] := by rw [List.take_add_one, hl]; rfl
      have more : KM.paperB B R ts g l n = false → ∀ l ∈ (Lds B R ts g n (shp B R (KM.after B R ts g n))).take (i + 1), KM.paperB B R ts g l n = false := fun h l' hl' => by
        rw [et] at hl'
        rcases List.mem_append.mp hl' with h' | h'
        · exact hno l' h'
        · rw [List.mem_singleton.mp h']; exact h
      have sr5 := sr4.kp (Kp.of s5)
      have ra5 := ra4.sames s5
      obtain ⟨sl, esl, fsl⟩ := rows_at (l := sts) (n := l) (by omega)
      have hsl := (sr5.hs l sl (by rw [List.getElem?_append_left (by omega)]; exact esl)).1
      refine ⟨_, rfl, _, rfl, _, rfl, st, _, _, .ref sl, rfl, rfl, SqL.of sr5.hst, at_ofA (j := l) rfl fsl, x, dx, e, q, p, m, sl, B, R, _, n, _, KM.plc B R (KM.after B R ts g l), rfl, ra5, hne, zB, hsl, fun r H6 s6 fr6 hwh hg => ?_, fun H6 s6 hnw => ?_⟩
      · have hw : KM.wholeB B R ts g l n = true := KM.wholeB_iff.mpr hwh
        have s46 := s5.trans s6
        obtain ⟨ls, hls, hpp⟩ := hg
        refine ⟨_, rfl, _, rfl, ?_⟩
        refine iteT ?_
        have ra6 := ra5.sames s6
        have hpp6 : ∀ {l1 : List Addr} {m1 : List Str}, Paired (fun t k => H6 t = some (.tup [.str k, .int (((KM.plc B R (KM.after B R ts g n) k : Int) - (KM.plc B R (KM.after B R ts g l) k : Int)) / (B.length : Int))])) l1 m1 → Paired (fun p (kv : Key × V) => SqT K H6 p [kV kv.1, kv.2]) l1 (gd (fun k => .int (KM.blk B R ts g l n k)) m1) := by
          intro l1 m1 h
          induction h with
          | nil => exact .nil
          | cons h1 _ ih => exact .cons (SqT.of h1) ih
        refine ⟨_, rfl, x, dx, _, rfl, ra6.at_, rfl, _, rfl, _, rfl, r, ls, gd (fun k => .int (KM.blk B R ts g l n k)) (kset B), rfl, SqL.of hls, hpp6 hpp, fun bo hbo => ?_⟩
        rw [gd_dict _ (kset_nodup B)]
        have s7 := Same.new (o := .dK (gd (fun k => .int (KM.blk B R ts g l n k)) (kset B))) hbo
        refine ⟨x, dx, e, q, p, m, bo, l, B, R, kset B, _, n, ms, fun k => KM.blk B R ts g l n k, rfl, ra6.sames s7, upd_same, fun y hy hly => ?_, fun H8 s8 => ⟨_, rfl, ?_⟩⟩
        · obtain ⟨a1, a2⟩ := mi.sound y hy
          obtain ⟨k1, k2⟩ := KM.meet_block lset hly (w := y.1.1) (x := y.1.2) a2
          exact ⟨kset_mem.mpr k1, kset_mem.mpr k2⟩
        have s48 := (s46.trans s7).trans s8
        have ep : fairM l (fun k => KM.blk B R ts g l n k) ms = KM.paperB B R ts g l n := by
          unfold KM.paperB
          rw [lset, hw, Bool.true_and, Bool.true_and, Bool.eq_iff_iff, fairM_of mi, KM.fairB_iff]
          exact ⟨fun h j h1 h2 w' x' hm => h j h1 h2 (w', x') hm, fun h j h1 h2 y hy => h j h1 h2 y.1 y.2 hy⟩
        rw [ep]
        cases hp : KM.paperB B R ts g l n with
        | false => exact iteF ⟨s48, ⟨_, _, rfl⟩, more hp⟩
        | true =>
          refine iteT ?_
          have ra8 := ra4.sames s48
          refine ⟨_, rfl, _, rfl, x, _, dx, _, .int (n : Nat), rfl, ra8.at_, Z.c_Race, Z.n_Race_rounds, rfl, _, rfl, _, _, rfl, rfl, _, rfl, by show 3 ≤ sizeLine; decide, fun t1 ht1 => ⟨_, rfl, by show 2 ≤ sizeLine; decide, fun t ht => ?_⟩⟩
          have s9 := Same.new (o := .tup [.int (l : Nat), .int ((n : Nat) - (l : Nat)), .ref r]) ht1
          have s10 := Same.new (o := .tup [.ref t1, .ref go]) ht
          have sr10 := sr4.kp (Kp.of ((s48.trans s9).trans s10))
          refine q1 t t1 r go (gos ++ [c]) l n (dM ms) _ (b4.trans (But.of ((s48.trans s9).trans s10))) ?_ upd_same ?_ sr10.hgo (by rw [List.length_append, zgo]; rfl) (fun j a e => (sr10.hg j a e).1) (ra4.sames ((s48.trans s9).trans s10))
          · have hn1 : n = (n - 1) + 1 := by omega
            have hb := before_none hl hno
            rw [hn1] at hp hb ⊢
            exact find_hit hf (by omega) hp hb (by omega)
          · exact s10 _ _ upd_same
      · have hw : KM.paperB B R ts g l n = false := by
          unfold KM.paperB
          cases c : KM.wholeB B R ts g l n with
          | false => rw [Bool.false_and, Bool.and_false]
          | true => exact absurd (KM.wholeB_iff.mp c) hnw
        refine ⟨_, rfl, _, rfl, ?_⟩
        refine iteF ?_
        exact ⟨s5.trans s6, ⟨_, _, rfl⟩, more hw⟩
    · rintro σ H5 ⟨s5, ⟨v9, v10, rfl⟩, hno⟩
      rw [List.length_map, List.take_length] at hno
      have hf' := step_none hf (all_none hno)
      have sr5 := sr4.kp (Kp.of s5)
      have b5 := b4.trans (But.of s5)
      have ra5 := ra4.sames s5
      have hpl5 := s5 _ _ hpl4
      have hT5 := s5 _ _ hT4
      clear sr4 b4 ra4 hpl4 hT4 s5 hla ela
      have g8 : ∀ s ∈ ts, s.length ≤ 8 := fun s hs => (tk.good s hs).2.1
      -- the end of a turn
      have last : ∀ {H6 : Hp} {kvs' : List (List Key × V)}, But [x, q, p, m] H H6 → Ra K B R H6 x dx e q p m (KM.after B R ts g n) n (dM ms) → SR B R ts g H H6 st go le sts (sts ++ [pl]) (gos ++ [c]) kvs' (Lds B R ts g (n + 1)) → kvs'.length ≤ n + 1 →
          H6 st = some (.lst (sts.map V.ref)) ∧ (sts.map V.ref).length < sizeLine ∧ But [x, q, p, m] H (upd H6 st (.lst (sts.map V.ref ++ [V.ref pl]))) ∧ Ra K B R (upd H6 st (.lst (sts.map V.ref ++ [V.ref pl]))) x dx e q p m (KM.after B R ts g n) n (dM ms) ∧
          (∀ k, KM.after B R ts g n k ≤ 2 ^ 30) ∧ (dM ms).length ≤ 9000000 ∧ ∀ H' : Hp, But [x, q, p, m] (upd H6 st (.lst (sts.map V.ref ++ [V.ref pl]))) H' → Ra K B R H' x dx e q p m (KM.roundG B R ts (KM.after B R ts g n)) (n + 1) (putAll n (KM.roundM B R ts (KM.after B R ts g n)) (dM ms)) →
            LoopSR K B R ts g H x dx e q p m ta N st go le (n + 1) [some (.ref x), some (.ref ta), some (.int (N : Nat)), some (.int (B.length : Nat)), some (.ref st), some (.ref go), some (.ref le), some (.ref pl), some (.ref T), v9, v10, none] H' := fun {H6 kvs'} b6 ra6 sr6 zk' => by
        obtain ⟨b7, ra7⟩ := ra.own (o := .lst (sts.map V.ref ++ [V.ref pl])) ra6 b6 f1
        refine ⟨sr6.hst, ?_, b7, ra7, fun k => ?_, by omega, fun H' b8 ra8 => ?_⟩
        · rw [List.length_map, zst]
          exact Nat.lt_of_le_of_lt (show n ≤ 100000 by omega) (by decide)
        · have h1 := KM.after_up (B := B) (R := R) ts g k n
          have h2 := sg k
          have h3 := tk.few
          have h4 : n * ts.length ≤ 3000 * 30 := Nat.mul_le_mul (by omega) h3
          omega
        · rw [putAll_dM] at ra8
          have sr7 := sr6.appSt
          rw [show (sts ++ [pl]).map V.ref = sts.map V.ref ++ [V.ref pl] from by rw [List.map_append]; rfl] at sr7
          refine ⟨sts ++ [pl], gos ++ [c], kvs', _, _, _, _, _, rfl, b7.trans b8, ra8, mi.next, ?_, sr7.kp (Kp.but b8 xs), by rw [List.length_append, zst]; rfl, by rw [List.length_append, zgo]; rfl, zk', hf'⟩
          rw [← putAll_dM]
          have h1 := putAll_len n (KM.roundM B R ts (KM.after B R ts g n)) (dM ms)
          have h2 := roundM_len (B := B) (R := R) ts (KM.after B R ts g n) g8
          have h3 := tk.few
          omega
      refine ⟨_, rfl, x, dx, _, rfl, ra5.at_, rfl, _, rfl, x, dx, e, q, p, m, ta, B, R, as, ts, _, n, _, rfl, ra5, tk.mono (toH0 b5), fun H6 s6 => ⟨_, rfl, ?_⟩⟩
      have sr6 := sr5.kp (Kp.of s6)
      have b6 := b5.trans (But.of s6)
      have ra6 := ra5.sames s6
      have hpl6 := s6 _ _ hpl5
      have hT6 := s6 _ _ hT5
      cases hse : KM.settled B R ts (KM.after B R ts g n) with
      | false =>
        refine iteF ?_
        have eL : Lds B R ts g (n + 1) = Lds B R ts g n := by
          funext κ
          rw [Lds_succ, if_neg (fun h => by rw [hse] at h; cases h.1)]
        obtain ⟨h1, h2, b7, ra7, h3, h4, fin⟩ := last b6 ra6 (by rw [eL]; exact sr6) (by omega)
        exact ⟨_, rfl, .inl ⟨rfl, _, SqL.of h1⟩, _, rfl, st, _, _, rfl, rfl, h1, h2, _, rfl, x, dx, _, rfl, ra7.at_, rfl, _, rfl, H0, x, dx, e, q, p, m, ta, B, R, as, ts, _, n, _, rfl, ra7, npq, toH0 b7, fr, tk, hne, zB, zR, h3, h4, fin⟩
      | true =>
        refine iteT ?_
        have eL1 : Lds B R ts g (n + 1) (shp B R (KM.after B R ts g n)) = Lds B R ts g n (shp B R (KM.after B R ts g n)) ++ [n] := by rw [Lds_succ, if_pos ⟨hse, rfl⟩]
        have eL2 : ∀ κ, κ ≠ shp B R (KM.after B R ts g n) → Lds B R ts g (n + 1) κ = Lds B R ts g n κ := fun κ h => by rw [Lds_succ, if_neg (fun h' => h h'.2.symm)]
        refine ⟨_, rfl, le, rfl, .inr ⟨_, .inl sr6.hle⟩, _, rfl, by show 0 ≤ sizeLine; decide, fun z2 hz2 => ?_⟩
        have fz : H z2 = none := fresh b6 ra6 hz2
        have s7 := Same.new (o := .lst []) hz2
        have sr7 := sr6.kp (Kp.of s7)
        have b7 := b6.trans (But.of s7)
        have ra7 := ra6.sames s7
        refine ⟨kvs, shp B R (KM.after B R ts g n), T, s7 _ _ sr6.hle, rfl, s7 _ _ hT6, Nat.lt_of_le_of_lt (show kvs.length ≤ 100000 by omega) (by decide), fun v hv => ?_, fun hn => ?_⟩
        · obtain ⟨a, rfl⟩ : ∃ a, v = .ref a := by
            rcases sr7.hl (shp B R (KM.after B R ts g n)) with h | ⟨a, h1, _⟩
            · rw [hv] at h; cases h.1
            · rw [hv] at h1; cases h1; exact ⟨a, rfl⟩
          obtain ⟨ha, fa, sr8⟩ := sr7.addOld hv eL1 eL2
          obtain ⟨b8, ra8⟩ := ra.own (o := .lst ((Lds B R ts g n (shp B R (KM.after B R ts g n))).map (fun j => V.int (j : Nat)) ++ [V.int (n : Nat)])) ra7 b7 fa
          refine ⟨.inl ⟨rfl, _, SqL.of ha⟩, _, rfl, x, _, dx, _, .int (n : Nat), rfl, ra7.at_, Z.c_Race, Z.n_Race_rounds, rfl, a, _, _, rfl, rfl, ha, ?_, ?_⟩
          · rw [List.length_map]
            exact Nat.lt_of_le_of_lt (show _ ≤ 100000 by omega) (by decide)
          obtain ⟨h1, h2, b9, ra9, h3, h4, fin⟩ := last b8 ra8 sr8 (by omega)
          exact ⟨_, rfl, .inl ⟨rfl, _, SqL.of h1⟩, _, rfl, st, _, _, rfl, rfl, h1, h2, _, rfl, x, dx, _, rfl, ra9.at_, rfl, _, rfl, H0, x, dx, e, q, p, m, ta, B, R, as, ts, _, n, _, rfl, ra9, npq, toH0 b9, fr, tk, hne, zB, zR, h3, h4, fin⟩
        · have sr9 := sr6.addNew hn hz2 fz eL1 eL2
          obtain ⟨b8, ra8⟩ := ra.own (o := .dT (putK kvs (shp B R (KM.after B R ts g n)) (.ref z2))) ra7 b7 f3
          have hz8 : upd (upd H6 z2 (.lst [])) le (.dT (putK kvs (shp B R (KM.after B R ts g n)) (.ref z2))) z2 = some (.lst []) := by
            rw [upd_ne (ne_of_none sr6.hle hz2).symm]; exact upd_same
          obtain ⟨b9, ra9⟩ := ra.own (o := .lst ([V.int (n : Nat)])) ra8 b8 fz
          refine ⟨.inl ⟨rfl, _, SqL.of hz8⟩, _, rfl, x, _, dx, _, .int (n : Nat), rfl, ra8.at_, Z.c_Race, Z.n_Race_rounds, rfl, z2, _, _, rfl, rfl, hz8, by decide, ?_⟩
          have zk2 := length_putK kvs (shp B R (KM.after B R ts g n)) (V.ref z2)
          obtain ⟨h1, h2, b10, ra10, h3, h4, fin⟩ := last b9 ra9 sr9 (by omega)
          exact ⟨_, rfl, .inl ⟨rfl, _, SqL.of h1⟩, _, rfl, st, _, _, rfl, rfl, h1, h2, _, rfl, x, dx, _, rfl, ra10.at_, rfl, _, rfl, H0, x, dx, e, q, p, m, ta, B, R, as, ts, _, n, _, rfl, ra10, npq, toH0 b10, fr, tk, hne, zB, zR, h3, h4, fin⟩
end
end Ku

/-! KuR4 -/
set_option Elab.async false
set_option linter.all false
set_option maxRecDepth 100000
set_option maxHeartbeats 8000000
namespace Ku
open PySem PySem.Spec PyProof.Rows L2 KuS KuD KuIt KuZ KuSd
/-- over a list or a tuple -/
def iLT (K : PySem.W.Frag) (tl : TE) : TI := fun σ H R => tl σ H fun x H1 => ∃ a, x = .ref a ∧ (((∃ xs, SqL K H1 a xs) ∧ R (Itl K a) H1) ∨ ((∃ xs, SqT K H1 a xs) ∧ R (Itt K a) H1))
theorem pi_lt {X : Cx} {tg l : Expr} {tl : TE} (hl : PE X l tl) : PI X tg l (iLT X.K tl) := by
  refine ⟨fun pins s σ H R I h => ?_⟩
  refine thn (hl.run pins s σ H _ I h) fun v s1 ⟨x, H1, I1, r1, q1⟩ => ?_
  obtain ⟨a, e, q1⟩ := q1
  subst e
  cases r1
  rcases q1 with ⟨⟨xs, hq⟩, q⟩ | ⟨⟨xs, hq⟩, q⟩
  · obtain ⟨its, rv, p, hz⟩ := I1.list hq
    refine wpAny_pyIter_list p.isList ?_
    refine ⟨s1.heap.objs.size, [s1.heap.objs.size], _, _, H1, rfl, I1.kept (t' := s1.toks) fun b o e => Heap.get?_push_of_some _ e, turn_list a _, ⟨_, Heap.get?_push_size _ rfl, rfl, rfl⟩, fun b hb => ?_, q⟩
    have e : b = s1.heap.objs.size := by simpa using hb
    subst e
    exact I1.fpOk (Nat.le_refl _) (I1.hok.fresh (Nat.le_refl _))
  · obtain ⟨its, rv, p, hz⟩ := I1.tuple hq
    refine wpAny_pyIter_tuple (show s1.heap.IsTuple a its.toArray from p) ?_
    refine ⟨s1.heap.objs.size, [s1.heap.objs.size], _, _, H1, rfl, I1.kept (t' := s1.toks) fun b o e => Heap.get?_push_of_some _ e, turn_tuple a _, ⟨_, Heap.get?_push_size _ rfl, rfl, rfl⟩, fun b hb => ?_, q⟩
    have e : b = s1.heap.objs.size := by simpa using hb
    subst e
    exact I1.fpOk (Nat.le_refl _) (I1.hok.fresh (Nat.le_refl _))
/-- the first takes: a list, or the empty tuple -/
def Fs (K : PySem.W.Frag) (H : Hp) (ta : Addr) (as : List Addr) (ts : List (List Str)) : Prop := Tk H ta as ts ∨ (ts = [] ∧ ∀ H', SqT K H' ta [])
theorem Fs.mono {K : PySem.W.Frag} {H H' : Hp} {ta : Addr} {as : List Addr} {ts : List (List Str)} (t : Fs K H ta as ts) (s : Same H H') : Fs K H' ta as ts := by
  rcases t with t | t
  · exact .inl (t.mono s)
  · exact .inr t
section
variable {P : Program} {w : World} {K : PySem.W.Frag} {mg : Str → Option Value} {base : Heap}
theorem for_firsts {D : Ends} {X : Cx} {ta x dx e q p m : Addr} {B R : List Str} {as : List Addr} {ts : List (List Str)} {g : Str → Nat} {n : Nat} {kvs : List (List Key × V)} {H0 H : Hp} {v2 : Option V} {tb : TS}
    (etb : tb = tDrop (tMeth (cR K) "take" (spRaTake K) [] E0 (tVar 0) (tCons (tVar 2) tNil)))
    (ra : Ra K B R H x dx e q p m g n kvs) (npq : p ≠ q) (s0 : Same H0 H) (fr : ∀ a ∈ [x, q, p, m], H0 a = none) (fs : Fs K H0 ta as ts) (hne : B ≠ []) (zB : B.length ≤ 100) (zR : R.length ≤ 100) (sg : ∀ k, g k ≤ 2 ^ 30) (zk : kvs.length ≤ 9000000)
    (hd : ∀ (H' : Hp) (v2 : Option V), But [q, p, m] H H' → Ra K B R H' x dx e q p m (KM.roundG B R ts g) n (putAll n (KM.roundM B R ts g) kvs) → D.nx [some (.ref x), some (.ref ta), v2] H') :
    ((∃ xs, SqL K H ta xs) ∧ ∃ W : Nat → Nat → L2.St → Hp → Prop, (∃ k, W 0 k [some (.ref x), some (.ref ta), v2] H) ∧ ∀ i k σ H, W i k σ H →
      ((Itl K ta).stop i H ∧ D.nx σ H) ∨ ((Itl K ta).go i H ∧ ∃ N : L2.St → Hp → Prop, (∀ σ' H', N σ' H' → ∃ k', k' < k ∧ W (i + 1) k' σ' H') ∧ ∀ y H', (Itl K ta).yld i H y H' → gName 2 y σ H' fun σ2 H2 =>
        tb { D with nx := N, ct := N, bk := D.nx } σ2 H2)) ∨
    ((∃ xs, SqT K H ta xs) ∧ ∃ W : Nat → Nat → L2.St → Hp → Prop, (∃ k, W 0 k [some (.ref x), some (.ref ta), v2] H) ∧ ∀ i k σ H, W i k σ H →
      ((Itt K ta).stop i H ∧ D.nx σ H) ∨ ((Itt K ta).go i H ∧ ∃ N : L2.St → Hp → Prop, (∀ σ' H', N σ' H' → ∃ k', k' < k ∧ W (i + 1) k' σ' H') ∧ ∀ y H', (Itt K ta).yld i H y H' → gName 2 y σ H' fun σ2 H2 =>
        tb { D with nx := N, ct := N, bk := D.nx } σ2 H2)) := by
  subst etb
  rcases fs with tk | ⟨rfl, hq⟩
  · exact .inl ⟨⟨_, SqL.of (s0 _ _ tk.at_)⟩, for_takes (X := X) ra npq s0 fr tk hne zB zR sg zk hd⟩
  · refine .inr ⟨⟨_, hq H⟩, for_tup (K := K) (a := ta) (xs := []) (fun i σ H' => H' = H ∧ σ = [some (.ref x), some (.ref ta), v2]) ⟨rfl, rfl⟩ (fun i σ H' _ h => hq _) ?_ ?_⟩
    · intro i y σ H' h
      simp at h
    · rintro σ H' ⟨rfl, rfl⟩
      exact hd _ _ But.refl ra
/-- begin, the takes a list or the empty tuple -/
def spRaBegin2 (K : PySem.W.Frag) : Sp := fun vs H Q _ => ∃ (H0 : Hp) (x dx e q p m ta : Addr) (B R : List Str) (as : List Addr) (ts : List (List Str)) (g : Str → Nat), vs = [.ref x, .ref ta] ∧ Ra K B R H x dx e q p m g 0 [] ∧ p ≠ q ∧ Same H0 H ∧ (∀ a ∈ [x, q, p, m], H0 a = none) ∧ Fs K H0 ta as ts ∧
  B ≠ [] ∧ B.length ≤ 100 ∧ R.length ≤ 100 ∧ (∀ k, g k ≤ 2 ^ 30) ∧
  ∀ (m' : Addr) (H' : Hp), But [x, q, p, m] H H' → H m' = none → Ra K B R H' x dx e q p m' (KM.roundG B R ts g) 0 [] → Q .non H'
theorem met_Ra_begin2 (Z : Say K mg) : Met P w K mg base 3 (cR K) "begin" (spRaBegin2 K) := by
  obtain ⟨fd, F⟩ := Z.D_Race_begin
  have cT : Met P w K mg base 2 (cR K) "take" (spRaTake K) := met_Ra_take Z
  refine ⟨_, fd, ["self", "takes"], fn_ok F sc_Race_begin (fun vs H Q E h => ?_) (fun cdv A outer s H vs Q E hr h => ?_), Z.c_Race, Z.m_Race_begin, F.bindsN fun _ _ _ _ _ _ us hl => match us, hl with | [_, _], _ => rfl⟩
  · obtain ⟨H0, x, dx, e, q, p, m, ta, B, R, as, ts, g, rfl, _⟩ := h
    rfl
  · obtain ⟨H0, x, dx, e, q, p, m, ta, B, R, as, ts, g, rfl, ra, npq, s0, fr, tk, hne, zB, zR, sg, qq⟩ := h
    have nd := sc_Race_begin.nd
    refine ⟨_, pss_cons (ps_for PassesOwn.never rfl (pi_lt (pv 1)) (pg_name (i := 2) nd rfl (Or.inl rfl)) (pss_one (ps_expr (pe_mt cT hr (by decide) (pv 0) (pa_cons (pv 2) pa_nil)))))
      (pss_one (ps_fld (pv 0) pe_dnewT rfl)), ?_⟩
    refine ⟨_, rfl, ta, rfl, ?_⟩
    refine for_firsts (X := cxOf CX0 P w K mg base nmRaRound d_Race_begin.qual d_Race_begin.scope (He.fAd K d_Race_begin.at_) cdv A outer s H E) rfl ra npq s0 fr tk hne zB zR sg (by simp) fun H' v2 b' ra' => ?_
    refine fun m' hm' => ⟨_, rfl, ?_⟩
    have sm := Same.new (o := .dT []) hm'
    refine ⟨x, _, dx, _, rfl, sm _ _ ra'.at_, Z.c_Race, Z.n_Race_met, by show 5 < 1000; decide, ?_⟩
    have ef : putF "met" (.ref m') (raF e q p 0 m) = raF e q p 0 m' := rfl
    rw [ef]
    have nxp : p ≠ x := ne_of ra'.ls.pl ra'.at_ fun z => nomatch z
    have nxq : q ≠ x := ne_of ra'.ls.go ra'.at_ fun z => nomatch z
    have nxm : m' ≠ x := fun z => by rw [z, ra'.at_] at hm'; cases hm'
    have b2 : But [x] H' (upd (upd H' m' (.dT [])) x (.ins (cR K) dx (raF e q p 0 m'))) := (But.of sm).mut (by simp)
    have b3 := (b'.mono (l' := [x, q, p, m]) fun a h => List.mem_cons_of_mem _ h).trans (b2.mono (l' := [x, q, p, m]) fun a h => by rw [List.mem_singleton.mp h]; simp)
    have fm : H m' = none := by
      cases c : H m' with
      | none => rfl
      | some o =>
        by_cases cm : m' ∈ [q, p, m]
        · simp only [List.mem_cons, List.not_mem_nil, or_false] at cm
          rcases cm with z | z | z
          · rw [z, ra'.ls.go] at hm'; cases hm'
          · rw [z, ra'.ls.pl] at hm'; cases hm'
          · rw [z, ra'.met] at hm'; cases hm'
        · rw [b' m' o cm c] at hm'; cases hm'
    refine qq m' _ b3 fm ⟨upd_same, ?_, ⟨?_, ?_⟩, ?_⟩
    · refine ra.en.mono fun a o h => ?_
      by_cases ca : a ∈ [x, q, p, m]
      · rw [hideL_in ca] at h; cases h
      · rw [hideL_out ca] at h
        refine hideL_at (b3 a o ca h) fun z => ?_
        simp only [List.mem_cons, List.not_mem_nil, or_false] at z ca
        rcases z with z | z | z | z
        · exact ca (.inl z)
        · exact ca (.inr (.inl z))
        · exact ca (.inr (.inr (.inl z)))
        · rw [z, fm] at h; cases h
    · rw [upd_ne nxp]; exact sm _ _ ra'.ls.pl
    · rw [upd_ne nxq]; exact sm _ _ ra'.ls.go
    · rw [upd_ne nxm]; exact upd_same
end
end Ku

/-! KuX1 -/
set_option Elab.async false
set_option linter.all false
set_option maxRecDepth 100000
set_option maxHeartbeats 4000000
/-! The exception class TooMany: made, caught, asked. -/
namespace KuX
open PySem PySem.Spec PySem.W PySem.Calls PyProof.Rows
section
variable {prog : Program} {w : World} {A : Around} {E : Value → Shared → Prop} {s : Shared} {K : Frag} {x D : Addr} {ox : Obj} {od : Option Obj}
theorem findObj_dataO {C : Addr} {name : Str} {a g : Value} (hc : (clsIn K C).isSome = true) (ha : findIn K (.ref C) name = some (some a)) (hg : specialIn K a "__get__" = some (some g)) (ht : takesIn K a = some true) : findObj K C od name = some (.bind g a) := by
  obtain ⟨cd, hc⟩ := Option.isSome_iff_exists.mp hc
  unfold findObj
  rw [hc, Option.bind_some, ha, Option.bind_some]
  simp [hg, ht]
theorem kin_classO {Q : Option Value → Shared → Prop} (hga : findIn K (.ref D) "__getattribute__" = some (some (.builtin "BaseException.__getattribute__"))) (hgt : findIn K (.ref D) "__getattr__" = some none) (hsub : subIn K (.ref D) (.type "BaseException") = some true)
    (hdct : hasDictIn K D = true) (ha : findIn K (.ref D) "__class__" = some (some (.builtin "object.__class__")))
    (hn : specialIn K (.builtin "object.__class__") "__get__" = some (some (.builtin "getset_descriptor.__get__"))) (htk : takesIn K (.builtin "object.__class__") = some true) (hm : mroIn K D (.type "object") = some true)
    (X : K.In s.heap) (I : InstAt s.heap x ox D od) (h : Q (some (.ref D)) { s with toks := s.toks + 1 }) : wpAny (model prog w) A (getAttr? (.ref x) "__class__") Q E s := by
  have hf : findObj K D od "__class__" = some (.bind (.builtin "getset_descriptor.__get__") (.builtin "object.__class__")) := findObj_dataO (by obtain ⟨cd, hc, _⟩ := any_some hdct; rw [hc]; rfl) ha hn htk
  obtain ⟨hp, g, d, t, os⟩ := s
  have L0 := I.type (M := model prog w)
  have L1 := looks_findIn (M := model prog w) X hga
  have L2 := looks_findIn (M := model prog w) X hgt
  have L3 := looks_find (M := model prog w) X I hf
  have sub : Looks (model prog w) hp (isInstance (.ref x) (.type "BaseException")) true := L0.andThen (looks_subIn X hsub)
  have hx0 : (false && onTheHeap (Value.builtin "BaseException.__getattribute__")) = false := rfl
  have hx2 : (Value.builtin "BaseException.__getattribute__" == Value.builtin "object.__getattribute__") = false := by decide +kernel
  have hx1 : (onTheHeap (Value.ref D) && Value.builtin "BaseException.__getattribute__" == Value.builtin "object.__getattribute__") = false := by rw [hx2]; rfl
  unfold getAttr? getAttrBy? getAttrBy
  refine wpAny_bind (wpAny_mkText (wpAny_bind (wpAny_attempt (wpAny_holding (wpAny_bind (L0.at (wpAny_bind (L1.at ?_))))))))
  show wpAny _ _ (if (onTheHeap (Value.ref D) && Value.builtin "BaseException.__getattribute__" == Value.builtin "object.__getattribute__") = true then _ else _) _ _ _
  rw [hx1, if_neg Bool.false_ne_true]
  unfold getAttrByItsOwn hookBefore
  refine wpAny_bind ?_
  rw [if_pos (show onTheHeap (Value.ref D) = true from rfl)]
  refine L2.at ?_
  refine wpAny_bind (wpAny_attempt (wpAny_holding ?_))
  unfold callGetattribute
  rw [hx0, if_neg Bool.false_ne_true]
  unfold boundAndCalled
  rw [PySem.F.excAttr_ValueError.ga.bind (.ref x)]
  refine wpAny_bind (wpAny_pure ?_)
  show wpAny _ _ (call (.builtin "BaseException.__getattribute__") [.ref x, .str "__class__" t]) _ _ _
  refine wpAny_call (codeAny_call_builtin PySem.F.excAttr_ValueError.ga.plain PySem.F.entry_bexc_ga ?_)
  refine @check_slot (model prog w) _ _ ⟨hp, g, d, t + 1, os⟩ "BaseException.__getattribute__" "BaseException" "__getattribute__" (.ref x) [.str "__class__" t] [] _ (by decide +kernel) (by decide +kernel) sub (PySem.F.args_bexc_ga (.ref x) (.str "__class__" t)) ?_
  unfold Builtin.«object.__getattribute__»
  refine wpAny_bind (wpAny_of_eq (a := ((Value.ref x : Value), [Value.str "__class__" t])) (by first | rfl | (simp only [slotArgs]; rfl)) ?_)
  refine wpAny_bind (wpAny_pure (wpAny_bind (L0.at (wpAny_bind (L3.at ?_)))))
  show wpAny _ _ (holding [Value.builtin "object.__class__"] (call (.builtin "getset_descriptor.__get__") [.builtin "object.__class__", .ref x, .ref D]) >>= ret) _ _ _
  refine wpAny_bind (wpAny_holding (wpAny_call (class_get (s := ⟨hp, g, d, t + 1, os⟩) (ox := ox) (od := od) X I hm ?_)))
  refine wpAny_pure ?_
  show wpAny _ _ (handedOut (.ref D)) _ _ _
  rw [handedOut_of (v := .ref D) rfl]
  first
    | exact wpAny_pure (wpAny_pure h)
    | exact wpAny_pure h
    | exact wpAny_pure (wpAny_bind (wpAny_pure (wpAny_pure h)))
theorem kitx_excO (hga : findIn K (.ref D) "__getattribute__" = some (some (.builtin "BaseException.__getattribute__"))) (hgt : findIn K (.ref D) "__getattr__" = some none) (hsub : subIn K (.ref D) (.type "BaseException") = some true) (hdct : hasDictIn K D = true) (ha : findIn K (.ref D) "__class__" = some (some (.builtin "object.__class__")))
    (hn : specialIn K (.builtin "object.__class__") "__get__" = some (some (.builtin "getset_descriptor.__get__"))) (htk : takesIn K (.builtin "object.__class__") = some true) (hm : mroIn K D (.type "object") = some true) :
    KitX K (.ref x) (.ref D) (fun h => InstAt h x ox D od) where
  ty := fun _ _ _ I => I.type
  it := fun _ _ X _ => by
    obtain ⟨cdD, hcD, _⟩ := any_some hdct
    unfold clsIn at hcD
    split at hcD
    · rename_i c' d' cd' sl' ho
      intro A' Q' E' s' k q
      unfold isType loadHead
      exact wpAny_bind (wpAny_loadPart (k _ _ (X _ _ ho)) (wpAny_pure q))
    · cases hcD
  ne := fun h tp dd its n sl X htp => by
    obtain ⟨cdD, hcD, _⟩ := any_some hdct
    refine Bool.eq_false_iff.mpr fun q => ?_
    have e : D = tp := Value.ref.inj (beq_iff_eq.mp q)
    subst e
    unfold clsIn at hcD
    split at hcD
    · rename_i c' d' cd' sl' ho
      have z := (X _ _ ho).symm.trans htp
      cases z
    · cases hcD
  ca := fun X I k => kin_classO hga hgt hsub hdct ha hn htk hm X I k
end
end KuX
namespace Ku
open PySem PySem.Spec PyProof.Rows L2 KuS KuD KuIt KuZ KuSd KuX
/-- isinstance(e, c), e the exception that the suite holds, with a dict -/
def rIsO (K : PySem.W.Frag) (D a : Addr) (cls : Value) (d : Option Addr) : List V → Hp → VK → Prop := fun xs H Q => ∃ (c : V) (cv : Value) (b : Bool) (dd : Addr) (fs : List (Str × V)), cls = .ref D ∧ xs = [.ref a, c] ∧ (∀ u, RelV c u → u = cv) ∧ PySem.W.kitOne K (.ref D) cv = some b ∧ d = some dd ∧ H dd = some (.xd fs) ∧ Q (.bl b) H
theorem call_isO {X : Cx} {a D : Addr} {cls : Value} {d : Option Addr} {oe : Obj} {pn : List (Addr × Obj)} (C : ExcC X.K D) (hz : Zc cls d oe) (hf : ∃ vs, oe.data = .fields vs) : CallR (X.suite a ((a, oe) :: pn)) (.builtin "isinstance") (rIsO X.K D a cls d) := by
  intro pins s σ H xs us Q I r h
  obtain ⟨c, cv, b, dd, fs, ecls, rfl, hcv, e, ed, ea, q⟩ := h
  subst ecls
  cases r with
  | cons rx rr =>
    cases rr with
    | cons rt rr =>
      cases rr
      cases rx
      have ec := hcv _ rt
      subst ec
      subst ed
      obtain ⟨hget, _⟩ := I.pin (a, oe) (List.mem_append.mpr (.inl List.mem_cons_self))
      obtain ⟨vs, hv⟩ := hf
      have hx : ObjOk X.prog X.w H s.heap dd (.xd fs) := I.hok dd _ ea
      obtain ⟨mA, hns, hr⟩ := hx
      obtain ⟨od, ho, hl⟩ := lookIn_ns hns
      have J : PySem.W.InstAt s.heap a oe D (some od) := ⟨hget, hz.1, by unfold PySem.W.notCls; rw [hv] <;> rfl, by rw [hz.2]; exact ho⟩
      exact PySem.W.kia_one (kitx_excO C.hg C.hk C.hs C.hd C.ha C.hn C.ht C.hm) I.kIn J e (fun z => nomatch z) fun tk => ⟨.bl b, H, I.kept (t' := tk) fun _ _ z => z, rfl, q⟩
section
variable {P : Program} {w : World} {K : PySem.W.Frag} {mg : Str → Option Value} {base : Heap}
/-- the class TooMany, KindError -/
abbrev cT (K : PySem.W.Frag) : Addr := He.ga K "TooMany"
abbrev cKE (K : PySem.W.Frag) : Addr := He.ga K "KindError"
abbrev iT (K : PySem.W.Frag) : Addr := He.ma K (He.ga K "TooMany") "__init__"
theorem Say.exL_at (Z : Say K mg) {b : Bool} (i : Nat) (h : (exL K)[i]? = some b) : b = true := exB_at Z.ex i h
theorem Say.x_sa (Z : Say K mg) : PySem.W.findIn K (.ref (cT K)) "__setattr__" = some (some (.builtin "object.__setattr__")) := of_decide_eq_true (Z.exL_at 1 rfl)
theorem Say.x_xf (Z : Say K mg) : XfC K (cT K) := xfB_ok (Z.exL_at 2 rfl)
theorem Say.x_ty (Z : Say K mg) : PySem.W.typeIn K (.ref (cT K)) = some (.type "type") := of_decide_eq_true (Z.exL_at 3 rfl)
theorem Say.x_kp (Z : Say K mg) : PySem.W.keepIn K (.ref (cT K)) = true := Z.exL_at 4 rfl
theorem Say.x_in (Z : Say K mg) : PySem.W.findIn K (.ref (cT K)) "__init__" = some (some (.ref (iT K))) := of_decide_eq_true (Z.exL_at 5 rfl)
theorem Say.x_it (Z : Say K mg) : PySem.W.typeIn K (.ref (iT K)) = some (.type "function") := of_decide_eq_true (Z.exL_at 6 rfl)
theorem Say.x_li (Z : Say K mg) : PySem.W.findIn K (.ref (cT K)) "limit" = some none := of_decide_eq_true (Z.exL_at 7 rfl)
theorem Say.x_cl (Z : Say K mg) : ExcC K (cT K) := ⟨Z.x_xf.ga, Z.x_xf.gg, Z.x_xf.exC, Z.x_xf.hdC, of_decide_eq_true (Z.exL_at 8 rfl), of_decide_eq_true (Z.exL_at 9 rfl), of_decide_eq_true (Z.exL_at 10 rfl), of_decide_eq_true (Z.exL_at 11 rfl)⟩
theorem Say.x_e1 (Z : Say K mg) : PySem.W.exmOne K (.ref (cT K)) (.ref (cKE K)) = some true := of_decide_eq_true (Z.exL_at 12 rfl)
theorem Say.x_e2 (Z : Say K mg) : PySem.W.exmOne K (.ref (cT K)) (.ref (cT K)) = some true := of_decide_eq_true (Z.exL_at 13 rfl)
theorem Say.x_k1 (Z : Say K mg) : PySem.W.kitOne K (.ref (cT K)) (.ref (cT K)) = some true := of_decide_eq_true (Z.exL_at 14 rfl)
theorem Say.x_k2 (Z : Say K mg) : PySem.W.kitOne K (.ref (cT K)) (.ref (He.ga K "BadRecord")) = some false := of_decide_eq_true (Z.exL_at 15 rfl)
theorem Say.x_k3 (Z : Say K mg) : PySem.W.kitOne K (.ref (cT K)) (.type "ValueError") = some true := of_decide_eq_true (Z.exL_at 16 rfl)
theorem Say.x_empty (Z : Say K mg) : emptyTupB K (kwFirst K) = true := Z.exL_at 19 rfl
theorem Say.x_sg (Z : Say K mg) : PySem.W.specialIn K (.ref (cKE K)) "__getattribute__" = some (some (.builtin "type.__getattribute__")) := of_decide_eq_true (Z.exL_at 20 rfl)
theorem Say.x_rd (Z : Say K mg) : PySem.W.readsIn K (cKE K) (.type "type") = true := Z.exL_at 21 rfl
theorem Say.x_fc (Z : Say K mg) : PySem.W.findCls K (.ref (cKE K)) (.type "type") "__init__" = some (.val (.builtin "ValueError.__init__")) := by
  have h := Z.exL_at 22 rfl
  split at h
  · rename_i n e
    have e2 := of_decide_eq_true h
    subst e2
    exact e
  · cases h
theorem Say.x_oc (Z : Say K mg) : OexC K (cT K) := by
  refine ⟨?_, Z.x_sa, Z.x_xf.exC, Z.x_ty, Z.x_kp⟩
  have h := Z.exL_at 0 rfl
  unfold exVE at h
  split at h
  · rename_i d cd sl ho
    split at h
    · rename_i C' bm k0 k1 k2 k3 n k5 e1 e2
      simp only [Bool.and_eq_true, beq_iff_eq, Bool.not_eq_true'] at h
      obtain ⟨⟨⟨⟨h1, h2⟩, h3⟩, h4⟩, h5⟩ := h
      obtain ⟨nm, bs, mro, ns, qn, hd, sn, sb, ab, col, del⟩ := cd
      dsimp only at e1 h3 h4
      subst e1 h1 h2 h3 h4
      refine ⟨nm, qn, ns, bs, bm, sn, sb, ab, col, d, k0, k1, k2, k3, k5, ?_, h5⟩
      have e3 : sl = #[k0, k1, k2, k3, some (.builtin "ValueError.__new__"), k5] := by
        rw [← Array.toArray_toList (xs := sl), e2]
      rw [ho, e3]
    · cases h
  · cases h
/-- the empty tuple, the default of first -/
theorem Say.first (Z : Say K mg) (H : Hp) : SqT K H (kwFirst K) [] := by
  have h := Z.x_empty
  unfold emptyTupB at h
  split at h
  · rename_i c d its n sl ho
    rw [Bool.and_eq_true] at h
    have e1 := of_decide_eq_true h.1
    subst e1
    have e2 : its.toList = [] := List.isEmpty_iff.mp h.2
    refine .inr ⟨_, its, n, ho, rfl, rfl, ?_, by rw [e2]; exact .nil⟩
    have : its.size = 0 := by rw [← Array.length_toList, e2]; rfl
    rw [this]
    exact Nat.zero_le _
  · cases h
end
/-! ### TooMany.__init__ -/
section
variable {X : Cx} {e : Expr} {es : List Expr} {ta : TA} {p1 p2 pos : Pos}
theorem pe_keinit {pl : Sem Bool} {C : Addr} (hg : Gl X "KindError") (hm : X.mg "KindError" = some (.ref C)) (hga : PySem.W.specialIn X.K (.ref C) "__getattribute__" = some (some (.builtin "type.__getattribute__"))) (hrd : PySem.W.readsIn X.K C (.type "type") = true)
    (vV : PySem.W.findCls X.K (.ref C) (.type "type") "__init__" = some (.val (.builtin "ValueError.__init__"))) (ha : PA X (e :: es) ta)
    (hc : eval (.Call (.Attribute (.Name "KindError" p1) "__init__" p2) (e :: es) [] pos) X.env = (do
      let ov ← eval (.Name "KindError" p1) X.env
      standAt p2.atName
      let (f, first) ← holding [ov] (getMethod ov "__init__" pl)
      callWith pos f first (backTo pos (starEach (e :: es) X.env)) (backToKw pos (keywordEach [] X.env))) := by rfl)
    (he : starEach (e :: es) X.env = (false, eval e X.env) :: starEach es X.env := by rfl) (hpl : (backTo pos (starEach es X.env)).any (·.1) = false := by rfl) :
    PE X (.Call (.Attribute (.Name "KindError" p1) "__init__" p2) (e :: es) [] pos) (tVeI X.K ta) := by
  refine ⟨fun pins s σ H Q I h => ?_⟩
  refine PySem.W.methodCall_KW (ld_glob I hg hm ?_ (by decide)) hc
  refine PySem.W.method_cls I.kIn hga (PySem.W.cls_value I.kIn hrd vV (by decide +kernel) ?_)
  show wpAny _ _ (callWith pos (Value.builtin "ValueError.__init__") [] (backTo pos (starEach (e :: es) X.env)) []) _ _ _
  refine PyProof.Rows.callWith_method1 (thn (ha.run pos pins _ σ H _ (I.tok _) h) fun us s1 ⟨vs, H1, I1, r1, a, C, ws, ev, hl, T, ea, q⟩ => ?_) he hpl
  subst ev
  cases r1 with
  | @cons _ u0 _ ur ra rw' =>
    obtain rfl : u0 = Value.ref a := ra
    have hlen : ur.length ≤ sizeLine := by
      rw [← Paired.length rw', sizeLine_eq]
      omega
    exact oinit_ok T I1 ea hlen fun s' J => ⟨.non, H1, J, rfl, q⟩
end
section
variable {P : Program} {w : World} {K : PySem.W.Frag} {mg : Str → Option Value} {base : Heap}
def spTm (K : PySem.W.Frag) : Sp := fun vs H Q _ => ∃ (a : Addr) (n : Int), vs = [.ref a, .int n] ∧ H a = some (exo a (cT K) none) ∧ ∀ dx, H dx = none → dx ≠ a → Q .non (upd (upd H dx (exd dx [("limit", .int n)])) a (exo a (cT K) (some dx)))
theorem sc_TooMany_init : FnScope ["self", "limit"] ["self", "limit"] (defScope s_TooMany_init) := fnScope_dec (by decide +kernel)
theorem ok_TooMany (Z : Say K mg) : ∃ fd, FnOk P w K mg base CX0 1 (iT K) fd ["self", "limit"] (spTm K) ∧ Binds K fd ["self", "limit"] [] := by
  obtain ⟨fd, F⟩ := Z.D_TooMany_init
  refine ⟨fd, fn_ok F sc_TooMany_init (fun vs H Q E h => ?_) (fun cdv A outer s H vs Q E hr h => ?_), F.bindsN fun _ _ _ _ _ _ us hl => match us, hl with | [_, _], _ => rfl⟩
  · obtain ⟨a, n, rfl, _⟩ := h
    rfl
  · obtain ⟨a, n, rfl, ha, qq⟩ := h
    refine ⟨_, pss_cons (ps_expr (pe_keinit rfl Z.g_KindError Z.x_sg Z.x_rd Z.x_fc (pa_cons (pv 0) (pa_cons pe_str pa_nil)))) (pss_one (ps_ost (pv 0) (pv 1))), ?_⟩
    refine ⟨_, rfl, a, cT K, _, rfl, by decide, Z.x_oc, ha, ?_⟩
    exact ⟨_, rfl, _, rfl, a, cT K, rfl, Z.x_oc, Z.x_li, .inl ⟨ha, fun dx h1 h2 => qq dx h1 h2⟩⟩
end
end Ku

/-! KuR5 -/
set_option Elab.async false
set_option linter.all false
set_option maxRecDepth 100000
set_option maxHeartbeats 8000000
namespace Ku
open PySem PySem.Spec PyProof.Rows L2 KuS KuD KuIt KuZ KuSd
theorem But.over {l : List Addr} {H H1 H2 : Hp} (b : But l H1 H2) (s : Same H H1) (f : ∀ a ∈ l, H a = none) : Same H H2 := fun a o e => b a o (fun m => by rw [f a m] at e; cases e) (s a o e)
section
variable {P : Program} {w : World} {K : PySem.W.Frag} {mg : Str → Option Value} {base : Heap}
/-! ### removed -/
/-- a told answer, or too many -/
inductive Ans where
  | told (f : Str → Int)
  | many
def ansOf (B R : List Str) (ts : List (List Str)) (g : Str → Nat) (N r : Nat) : Ans :=
  if r ≤ N then .told fun k => (KM.after B R ts g r k : Nat) else match KM.findP (KM.paperB B R ts g) N with
    | none => .many
    | some x => .told (KM.counted (KM.after B R ts g) x r)
def spRem (K : PySem.W.Frag) : Sp := fun vs H Q E => ∃ (e ta fa : Addr) (r N : Nat) (B R : List Str) (as bs : List Addr) (ts fs : List (List Str)), vs = [.ref e, .ref ta, .int (r : Nat), .ref fa, .int (N : Nat)] ∧ En K B R H e ∧ Tk H ta as ts ∧ Fs K H fa bs fs ∧
  B ≠ [] ∧ B.length ≤ 100 ∧ R.length ≤ 100 ∧ fs.length ≤ 30 ∧ N ≤ 3000 ∧ r ≤ 2 ^ 62 ∧ (kinds B R).length < 64 ∧
  match ansOf B R ts (KM.roundG B R fs fun _ => 0) N r with
  | .told f => ∀ (a : Addr) (H' : Hp), Same H H' → Dp K H' (.ref a) (dueD (kinds B R) f) → Q (.ref a) H'
  | .many => ∀ (d : Addr) (H' : Hp), Same H H' → H' d = some (.xd [("limit", .int (N : Nat))]) → E (.ref (cT K)) (some d) H'
abbrev psRem : List Str := ["history", "takes", "rounds", "first", "limit"]
abbrev nmRem : List Str := ["history", "takes", "rounds", "first", "limit", "race", "number", "found", "lead", "length", "advances", "gone", "times", "rest", "counted", "kind", "grown"]
theorem sc_removed : FnScope nmRem psRem (defScope s_removed) := fnScope_dec (by decide +kernel)
theorem ok_removed (Z : Say K mg) {fd : FuncData} (F : FunD K d_removed.name d_removed.qual d_removed.params d_removed.body d_removed.scope (d_removed.dvs K) (d_removed.kws K) (He.fAd K d_removed.at_) fd) : FnOk P w K mg base (L2.CX P w) 5 (He.fAd K d_removed.at_) fd psRem (spRem K) := by
  have cM : Mak P w K mg base 2 "Race" (cR K) (spRaInit K) := mak_Race Z
  have cG : Met P w K mg base 3 (cR K) "begin" (spRaBegin2 K) := met_Ra_begin2 Z
  have cD : Met P w K mg base 3 (cR K) "do_round" (spRaRound K) := met_Ra_do_round Z
  have cS : Cal P w K mg base 4 "settled_race" (spSR K) := cal_settled_race Z
  obtain ⟨fT, FT, bT⟩ := ok_TooMany (P := P) (w := w) (base := base) Z
  refine F.ok sc_removed (fun vs H Q E h => ?_) (fun cdv A outer s H vs Q E hr h => ?_)
  · obtain ⟨e, ta, fa, r, N, B, R, as, bs, ts, fs, rfl, _⟩ := h
    rfl
  · obtain ⟨e, ta, fa, r, N, B, R, as, bs, ts, fs, rfl, en, tk, fi, hne, zB, zR, zf, zN, zr, zk, qq⟩ := h
    have nd := sc_removed.nd
    have hu := hr.units
    have hu1 : (A.deeper (envOfC d_removed.qual d_removed.scope s.heap.objs.size (He.fAd K d_removed.at_) cdv)).units + 1 < cLine := by omega
    refine ⟨_, pss_cons (ps_set (i := 5) nd rfl (Or.inl rfl) (pe_mk cM hr (by decide) rfl (pa_cons (pv 0) pa_nil)))
      (pss_cons (ps_expr (pe_mt cG hr (by decide) (pv 5) (pa_cons (pv 3) pa_nil)))
      (pss_cons (ps_if (pt_cmpR op_le (pv 2) (pv 4) (nomark _))
          (pss_cons (ps_for (passes_of rfl) rfl (pi_range1 rfl Z.f_range (pa_cons (pv 2) pa_nil)) (pg_name (i := 6) nd rfl (Or.inl rfl)) (pss_one (ps_expr (pe_mt cD hr (by decide) (pv 5) (pa_cons (pv 1) pa_nil)))))
          (pss_one (ps_ret (pe_sortItems rfl hu (pe_fld (pv 5) rfl) rfl Z.f_sorted boot_sorted)))) pss_nil)
      (pss_cons (ps_set (i := 7) nd rfl (Or.inl rfl) (pe_c cS hr (by decide) rfl (pa_cons (pv 5) (pa_cons (pv 1) (pa_cons (pv 4) pa_nil)))))
      (pss_cons (ps_if (pt_cmp (pc_isN (pv 7))) (pss_one (ps_raise rfl (takes_of rfl rfl rfl rfl) (pmk_oex Z.x_oc Z.x_in Z.x_it FT (hr.mono (by decide)) bT .nil pass0 rfl Z.g_TooMany (pa_cons (pv 4) pa_nil)))) pss_nil)
      (pss_cons (ps_asg (pv 7) (pg_tup rfl (pgs_cons (pg_tup rfl (pgs_cons (pg_name (i := 8) nd rfl (Or.inl rfl)) (pgs_cons (pg_name (i := 9) nd rfl (Or.inl rfl)) (pgs_cons (pg_name (i := 10) nd rfl (Or.inl rfl)) pgs_nil)))) (pgs_cons (pg_name (i := 11) nd rfl (Or.inl rfl)) pgs_nil))))
      (pss_cons (ps_asg (pe_callB call_divmod rfl Z.f_divmod PyProof.Rows.boot_divmod (pa_cons (pe_op op_sub (pv 2) (pv 8)) (pa_cons (pv 9) pa_nil))) (pg_tup rfl (pgs_cons (pg_name (i := 12) nd rfl (Or.inl rfl)) (pgs_cons (pg_name (i := 13) nd rfl (Or.inl rfl)) pgs_nil))))
      (pss_cons (ps_set (i := 14) nd rfl (Or.inl rfl) (pe_lst pa_nil))
      (pss_cons (ps_for (passes_of rfl) rfl (pi_list (pe_callB (call_sortedD rfl) rfl Z.f_sorted boot_sorted (pa_cons (pe_fld (pv 5) rfl) pa_nil))) (pg_name (i := 15) nd rfl (Or.inl rfl))
          (pss_cons (ps_set (i := 16) nd rfl (Or.inl rfl) (pe_op op_sub (pe_dget hu1 (pe_ix ix_list (pv 11) (pe_op op_add (pv 8) (pv 9)) (fun _ _ => rfl)) (pv 15) (fun _ _ => rfl)) (pe_dget hu1 (pe_ix ix_list (pv 11) (pv 8) (fun _ _ => rfl)) (pv 15) (fun _ _ => rfl))))
          (pss_one (ps_expr (pe_bm PySem.F.plainAttrs_list PySem.F.slot_list_append PySem.F.type_list_append mt_append (pv 14) (pa_cons (pe_tup (pa_cons (pv 15) (pa_cons (pe_op op_add (pe_dget hu1 (pe_ix ix_list (pv 11) (pe_op op_add (pv 8) (pv 13)) (fun _ _ => rfl)) (pv 15) (fun _ _ => rfl)) (pe_op op_mul (pv 12) (pv 16))) pa_nil))) pa_nil))))))
      (pss_one (ps_ret (pv 14))))))))))), ?_⟩
    -- the race made
    refine ⟨_, rfl, fun x dx hx hdx ndx => ?_⟩
    have hx' : upd H dx (.own x) x = none := by rw [upd_ne (Ne.symm ndx)]; exact hx
    have s1 := (Same.new (o := .own x) hdx).trans (Same.new (o := .ins (cR K) dx []) hx')
    have nxe : x ≠ e := by
      obtain ⟨dxe, kb, kr, bs, rs, kvb, kvr, pe⟩ := en
      exact (ne_of_none pe.at_ hx).symm
    refine ⟨x, dx, e, B, R, rfl, upd_same, en.mono s1, nxe, zB, zR, fun q p m H2 b2 fq fp fm npq ra => ⟨rfl, ?_⟩⟩
    have s2 : Same H H2 := b2.over s1 fun a ha => by rw [List.mem_singleton.mp ha]; exact hx
    have fq := s1.free fq
    have fp := s1.free fp
    have fm := s1.free fm
    have fr : ∀ {m : Addr}, H m = none → ∀ a ∈ [x, q, p, m], H a = none := fun {m} fm a ha => by
      simp only [List.mem_cons, List.not_mem_nil, or_false] at ha
      rcases ha with h | h | h | h <;> rw [h] <;> assumption
    clear s1 b2
    refine ⟨_, rfl, x, dx, _, rfl, ra.at_, rfl, _, rfl, H, x, dx, e, q, p, m, fa, B, R, bs, fs, _, rfl, ra, npq, s2, fr fm, fi, hne, zB, zR, fun _ => Nat.zero_le _, fun m' H3 b3 fm' ra3 => ?_⟩
    have s3 := b3.over s2 (fr fm)
    have fm' := s2.free fm'
    clear s2 b3 ra
    have sg1 : ∀ k, KM.roundG B R fs (fun _ => 0) k ≤ 30 := fun k => by
      have := KM.roundG_up (B := B) (R := R) fs (g := fun _ => 0) k
      omega
    generalize KM.roundG B R fs (fun _ => 0) = g at ra3 sg1 qq ⊢
    have zt := tk.few
    refine ⟨_, rfl, _, rfl, _, _, rfl, rfl, _, rfl, ?_⟩
    by_cases c : r ≤ N
    · refine iteTe (decide_eq_true (by omega)) ?_
      have eA : ansOf B R ts g N r = .told fun k => (KM.after B R ts g r k : Nat) := if_pos c
      rw [eA] at qq
      refine ⟨_, rfl, _, rfl, by omega, by omega, ?_⟩
      rw [Int.toNat_natCast]
      refine for_range (lo := 0) (n := r) (fun i σ H' => (∃ v6 : Option V, σ = [some (.ref e), some (.ref ta), some (.int (r : Nat)), some (.ref fa), some (.int (N : Nat)), some (.ref x), v6, none, none, none, none, none, none, none, none, none, none]) ∧ Same H H' ∧ ∃ kvs, Ra K B R H' x dx e q p m' (KM.after B R ts g i) i kvs ∧ kvs.length ≤ 240 * i)
        ⟨⟨_, rfl⟩, s3, [], ra3, Nat.zero_le _⟩ ?_ ?_
      · rintro i σ H' hi ⟨⟨v6, rfl⟩, s', kvs, ra', zkv⟩
        refine ⟨_, rfl, x, dx, _, rfl, ra'.at_, rfl, _, rfl, H, x, dx, e, q, p, m', ta, B, R, as, ts, _, i, kvs, rfl, ra', npq, s', fr fm', tk, hne, zB, zR, fun k => ?_, by omega, fun H'' b ra'' => ⟨⟨_, rfl⟩, b.over s' (fr fm'), _, ra'', ?_⟩⟩
        · have h1 := KM.after_up (B := B) (R := R) ts g k i
          have h2 := sg1 k
          have h4 : i * ts.length ≤ 3000 * 30 := Nat.mul_le_mul (by omega) zt
          omega
        · have h1 := putAll_len i (KM.roundM B R ts (KM.after B R ts g i)) kvs
          have h2 := roundM_len (B := B) (R := R) ts (KM.after B R ts g i) fun s hs => (tk.good s hs).2.1
          omega
      · rintro σ H' ⟨⟨v6, rfl⟩, s', kvs, ra', _⟩
        exact ⟨_, rfl, x, _, dx, _, .ref q, rfl, ra'.at_, Z.c_Race, Z.n_Race_gone, rfl, q, kinds B R, fun k => ((KM.after B R ts g r k : Nat) : Int), rfl, ra'.ls.go, kset_pw _, kset_nodup _, by omega, fun H'' p' hS hp hd => qq p' H'' (s'.trans hS) hd⟩
    refine iteFe (decide_eq_false (by omega)) ?_
    refine ⟨_, rfl, _, rfl, _, rfl, H, x, dx, e, q, p, m', ta, N, B, R, as, ts, g, rfl, ra3, npq, s3, fr fm', tk, hne, zB, zR, fun k => Nat.le_trans (sg1 k) (by decide), zN, fun t t1 adv go gos l n kvs H4 b4 hf ht ht1 hgo zgo hgs ra4 => ?_, fun H4 b4 hf => ?_⟩
    rotate_left
    · have eA : ansOf B R ts g N r = .many := by
        unfold ansOf
        rw [if_neg c, hf]
      rw [eA] at qq
      refine ⟨_, rfl, _, rfl, ?_⟩
      refine iteT ?_
      refine ⟨_, rfl, by simp, fun a ha => ?_⟩
      have s4 := b4.over s3 (fr fm')
      refine ⟨a, (N : Nat), rfl, upd_same, fun d hd hda => ⟨rfl, d, [("limit", .int (N : Nat))], upd_same, ?_, ?_, ?_⟩⟩
      · rw [upd_ne hda, upd_same]
      · rw [upd_ne hda] at hd; exact hd
      · have hd0 : H4 d = none := by rw [upd_ne hda] at hd; exact hd
        refine qq d _ (fun b o hb => ?_) upd_same
        have hb4 := s4 _ _ hb
        rw [upd_ne (ne_of_none hb4 hd0), del_ne (ne_of_none hb4 ha), upd_ne (ne_of_none hb4 ha), upd_ne (ne_of_none hb4 hd0), upd_ne (ne_of_none hb4 ha)]
        exact hb4
    · have eA : ansOf B R ts g N r = .told (KM.counted (KM.after B R ts g) (l, n) r) := by
        unfold ansOf
        rw [if_neg c, hf]
      rw [eA] at qq
      have s4 := b4.over s3 (fr fm')
      obtain ⟨k1, k2, _⟩ := KM.findP_some hf
      have hln : l < n := k1
      have hnN : n ≤ N := k2
      refine ⟨_, rfl, _, rfl, ?_⟩
      refine iteF ?_
      refine ⟨_, rfl, t, _, rfl, SqT.of ht, rfl, _, _, rfl, t1, _, rfl, SqT.of ht1, rfl, _, _, rfl, _, _, rfl, _, _, rfl, rfl, _, _, rfl, rfl, ?_⟩
      have hdiv : (((r : Nat) : Int) - ((l : Nat) : Int)) / (((n : Nat) : Int) - ((l : Nat) : Int)) = (((r - l) / (n - l) : Nat) : Int) := by
        rw [show ((r : Nat) : Int) - ((l : Nat) : Int) = ((r - l : Nat) : Int) by omega, show ((n : Nat) : Int) - ((l : Nat) : Int) = ((n - l : Nat) : Int) by omega, Int.natCast_ediv]
      have hmod : (((r : Nat) : Int) - ((l : Nat) : Int)) % (((n : Nat) : Int) - ((l : Nat) : Int)) = (((r - l) % (n - l) : Nat) : Int) := by
        rw [show ((r : Nat) : Int) - ((l : Nat) : Int) = ((r - l : Nat) : Int) by omega, show ((n : Nat) : Int) - ((l : Nat) : Int) = ((n - l : Nat) : Int) by omega, Int.natCast_emod]
      refine ⟨_, rfl, _, rfl, _, _, rfl, rfl, _, rfl, _, _, rfl, ⟨by omega, by omega⟩, fun dp hdp => ?_⟩
      rw [hdiv, hmod]
      have s5 := Same.new (o := .tup [.int (((r - l) / (n - l) : Nat) : Int), .int (((r - l) % (n - l) : Nat) : Int)]) hdp
      refine ⟨dp, _, rfl, SqT.of upd_same, rfl, _, _, rfl, _, _, rfl, rfl, ?_⟩
      have zti : (r - l) / (n - l) ≤ 2 ^ 62 := Nat.le_trans (Nat.div_le_self _ _) (by omega)
      have zr' : (r - l) % (n - l) < n - l := Nat.mod_lt _ (by omega)
      have ecount : ∀ k, KM.counted (KM.after B R ts g) (l, n) r k = ((KM.after B R ts g (l + (r - l) % (n - l)) k : Nat) : Int) + (((r - l) / (n - l) : Nat) : Int) * (((KM.after B R ts g n k : Nat) : Int) - ((KM.after B R ts g l k : Nat) : Int)) := fun k => rfl
      generalize (r - l) / (n - l) = times at zti ecount s5 ⊢
      generalize (r - l) % (n - l) = rest at zr' ecount s5 ⊢
      have sH5 := s4.trans s5
      have hgo5 := s5 _ _ hgo
      have ra5 := ra4.sames s5
      have hgs5 : ∀ j a, gos[j]? = some a → upd H4 dp (.tup [.int (times : Nat), .int (rest : Nat)]) a = some (.dK (dGo (KM.after B R ts g j) (kinds B R))) := fun j a e => s5 _ _ (hgs j a e)
      generalize upd H4 dp (.tup [.int (times : Nat), .int (rest : Nat)]) = H5 at sH5 hgo5 ra5 hgs5 ⊢
      refine ⟨by show 0 ≤ sizeLine; decide, fun du hdu => ?_⟩
      have fdu : H du = none := sH5.free hdu
      have s6 := Same.new (o := .lst []) hdu
      have hdu6 : upd H5 du (.lst []) du = some (.lst ([] : List V)) := upd_same
      have ndg : go ≠ du := ne_of_none hgo5 hdu
      have sH6 := sH5.trans s6
      have hgo6 := s6 _ _ hgo5
      have ra6 := ra5.sames s6
      have hgs6 : ∀ j a, gos[j]? = some a → upd H5 du (.lst []) a = some (.dK (dGo (KM.after B R ts g j) (kinds B R))) := fun j a e => s6 _ _ (hgs5 j a e)
      generalize upd H5 du (.lst []) = H6 at sH6 hgo6 ra6 hgs6 hdu6 ⊢
      refine ⟨_, rfl, x, _, dx, _, .ref q, rfl, ra6.at_, Z.c_Race, Z.n_Race_gone, rfl, q, _, kinds B R, rfl, .inl ra6.ls.go, by rw [List.map_map]; rfl, zk, fun ys p7 hperm hsort hp7 => ?_⟩
      have eys : ys = kinds B R := srt_uniq hperm (sorted_pw hsort) (kset_pw _)
      rw [eys]
      have s7 := Same.new (o := .lst ((kinds B R).map V.str)) hp7
      have hp8 : upd H6 p7 (.lst ((kinds B R).map V.str)) p7 = some (.lst ((kinds B R).map V.str)) := upd_same
      have ndp := ne_of_none hdu6 hp7
      have sH7 := sH6.trans s7
      have hgo7 := s7 _ _ hgo6
      have hdu7 := s7 _ _ hdu6
      have hgs7 : ∀ j a, gos[j]? = some a → upd H6 p7 (.lst ((kinds B R).map V.str)) a = some (.dK (dGo (KM.after B R ts g j) (kinds B R))) := fun j a e => s7 _ _ (hgs6 j a e)
      generalize upd H6 p7 (.lst ((kinds B R).map V.str)) = H7 at sH7 hgo7 hgs7 hdu7 hp8 ⊢
      obtain ⟨tl, el, fl⟩ := rows_at (l := gos) (n := l) (by omega)
      obtain ⟨tn, en', fn'⟩ := rows_at (l := gos) (n := n) (by omega)
      obtain ⟨tr, er, fr'⟩ := rows_at (l := gos) (n := l + rest) (by omega)
      refine ⟨p7, rfl, ⟨_, SqL.of hp8⟩, ?_⟩
      refine for_list (K := K) (a := p7) (xs := (kinds B R).map V.str) (fun i σ H' => (∃ v15 v16 : Option V, σ = [some (.ref e), some (.ref ta), some (.int (r : Nat)), some (.ref fa), some (.int (N : Nat)), some (.ref x), none, some (.ref t), some (.int (l : Nat)), some (.int ((n : Nat) - (l : Nat))), some (.ref adv), some (.ref go), some (.int (times : Nat)), some (.int (rest : Nat)), some (.ref du), v15, v16]) ∧
          Same H H' ∧ (∀ a o, a ≠ du → H7 a = some o → H' a = some o) ∧ ∃ ls : List Addr, H' du = some (.lst (ls.map V.ref)) ∧ Paired (fun t k => H' t = some (.tup [.str k, .int (KM.counted (KM.after B R ts g) (l, n) r k)])) ls ((kinds B R).take i))
        ⟨⟨_, _, rfl⟩, sH7, fun _ _ _ h => h, [], hdu7, .nil⟩ (fun i σ H' _ h => SqL.of (h.2.2.1 _ _ (Ne.symm ndp) hp8)) ?_ ?_
      · rintro i y σ H' hy ⟨⟨v15, v16, rfl⟩, s', k', ls, hls, hpp⟩
        obtain ⟨z, rfl, hz, hm⟩ := map_str_get hy
        have hgo' := k' _ _ ndg hgo7
        have getg : ∀ {j : Nat} {a : Addr}, gos[j]? = some a → DGet H' a (.str z) (some (.int (KM.after B R ts g j z : Nat))) := fun {j a} e => by
          have h7 := hgs7 j a e
          have h8 := k' _ _ (ne_of h7 hdu7 fun z => nomatch z) h7
          have e2 := DGet.k (k := .inr z) h8
          rw [gd_in hm] at e2
          exact e2
        refine ⟨_, rfl, _, rfl, _, rfl, _, _, rfl, rfl, go, _, _, .ref tn, rfl, rfl, SqL.of hgo', at_ofA (j := n) (by omega) fn', _, rfl, tn, _, rfl, getg en', ?_⟩
        refine ⟨_, rfl, _, rfl, go, _, _, .ref tl, rfl, rfl, SqL.of hgo', at_ofA (j := l) rfl fl, _, rfl, tl, _, rfl, getg el, _, _, rfl, rfl, ?_⟩
        refine ⟨_, rfl, .inl ⟨rfl, _, SqL.of hls⟩, _, rfl, ?_⟩
        refine ⟨_, rfl, _, rfl, _, rfl, _, _, rfl, rfl, go, _, _, .ref tr, rfl, rfl, SqL.of hgo', at_ofA (j := l + rest) (by omega) fr', _, rfl, tr, _, rfl, getg er, ?_⟩
        refine ⟨_, rfl, _, rfl, _, _, rfl, rfl, .inl ⟨by omega, by omega⟩, _, _, rfl, rfl, by show 2 ≤ sizeLine; decide, fun t2 ht2 => ?_⟩
        have ndt := ne_of_none hls ht2
        refine ⟨du, _, _, rfl, rfl, (Same.new ht2) _ _ hls, ?_, ?_⟩
        · rw [List.length_map, hpp.length, List.length_take]
          exact Nat.lt_of_le_of_lt (show min i (kinds B R).length ≤ 64 by omega) (by decide)
        · refine ⟨⟨_, _, rfl⟩, Same.mut (s'.trans (Same.new ht2)) fdu, fun a o na h => ?_, ls ++ [t2], ?_, ?_⟩
          · rw [upd_ne na]
            exact (Same.new ht2) _ _ (k' _ _ na h)
          · rw [upd_same, List.map_append]; rfl
          · rw [List.take_add_one, hz]
            refine pair_snoc (pair_imp hpp fun q x _ e => ?_) ?_
            · rw [upd_ne (ne_of e hls (fun z => nomatch z)), upd_ne (ne_of_none e ht2)]; exact e
            · rw [upd_ne (Ne.symm ndt), upd_same, ecount]
      · rintro σ H' ⟨⟨v15, v16, rfl⟩, s', k', ls, hls, hpp⟩
        rw [List.length_map, List.take_length] at hpp
        refine ⟨_, rfl, qq du H' s' (.lst (SqL.of hls) ?_)⟩
        have : ∀ {l1 : List Addr} {m1 : List Str}, Paired (fun t k => H' t = some (.tup [.str k, .int (KM.counted (KM.after B R ts g) (l, n) r k)])) l1 m1 → DpAll K H' (l1.map V.ref) (m1.map fun k => eK (k, KM.counted (KM.after B R ts g) (l, n) r k)) := by
          intro l1 m1 h
          induction h with
          | nil => exact .nil
          | cons h1 _ ih => exact .cons (.tup (SqT.of h1) (.cons (.str _) (.cons (.int _) .nil))) ih
        exact this hpp
end
end Ku

/-! KuX2 -/
set_option Elab.async false
set_option linter.all false
set_option maxRecDepth 100000
set_option maxHeartbeats 8000000
namespace Ku
open PySem PySem.Spec PyProof.Rows L2 KuS KuD KuIt KuZ KuSd
/-! ### a call with keywords, what is raised wished for at the caller's slots -/
def tCallNS (n m : Nat) (sp : Sp) (gV : List V → List V → List V) (E : L2.St → XK) (t tk : TA) : TE := fun σ H Q => t σ H fun vs H1 => tk σ H1 fun zs H2 => vs.length = n ∧ zs.length = m ∧ sp (gV vs zs) H2 Q (E σ)
section
variable {X : Cx} {CX : CXT} {k n : Nat} {f : Addr} {fd : FuncData} {ps ks : List Str} {sp : Sp} {E : L2.St → XK} {x : Str} {p pos : Pos} {e : Expr} {es : List Expr} {kws : List Keyword} {t tk : TA} {g : List Value → List Value → List Value} {gV : List V → List V → List V}
theorem run_fnNS {pins : List (Addr × Obj)} {σ : L2.St} {H : Hp} {s : Shared} {Q : VK} {us ws : List Value} {vs zs : List V} (F : FnOk X.prog X.w X.K X.mg X.base CX k f fd ps sp) (hr : Room k X.A) (hb : KBn X.K fd ps n ks g gV) (hx : PassesAt CX X σ (E σ))
    (I : Inv X pins σ H s) (r : Vals vs us) (rz : Vals zs ws) (l1 : vs.length = n) (l2 : zs.length = ks.length) (h : sp (gV vs zs) H Q (E σ)) : wpAny (model X.prog X.w) X.A (call (.ref f) us (ks.zip ws)) (EP X pins σ Q) X.xe s := by
  have r2 := hb.rel r rz
  refine wpAny_call (codeAny_mono (F.run X.A X.stack s H ⟨us, ks.zip ws⟩ (g us ws) (gV vs zs) Q (E σ) hr I.env0 (hb.to s us ws I.kIn (r.length.symm.trans l1) (rz.length.symm.trans l2)) r2 h) fun r s' hq => ?_)
  cases r with
  | error e => exact hx pins H s e s' I hq
  | ok fl =>
    cases fl with
    | ret u => exact I.after hq
    | next => exact False.elim hq
    | brk => exact False.elim hq
    | cont => exact False.elim hq
theorem pe_callNS (F : FnOk X.prog X.w X.K X.mg X.base CX k f fd ps sp) (hr : Room k X.A) (hg : Gl X x) (hm : X.mg x = some (.ref f)) (hk : PySem.W.keepIn X.K (.ref f) = true) (hb : KBn X.K fd ps n ks g gV) (hx : ∀ σ, PassesAt CX X σ (E σ))
    (ha : PA X (e :: es) t) (hkw : PK X kws tk) (hall : (backToKw pos (keywordEach kws X.env)).all (·.1.isSome) = true := by rfl) (hks : (backToKw pos (keywordEach kws X.env)).filterMap (·.1) = ks := by rfl)
    (hdb : (x == ("__debug__" : Str)) = false := by decide) (he : starEach (e :: es) X.env = (false, eval e X.env) :: starEach es X.env := by rfl)
    (hpl : ((backTo pos (starEach (e :: es) X.env)).any (·.1) || (backToKw pos (keywordEach kws X.env)).any (·.1.isNone)) = false := by rfl) :
    PE X (.Call (.Name x p) (e :: es) kws pos) (tCallNS n ks.length sp gV E t tk) := by
  refine ⟨fun pins s σ H Q I h => ?_⟩
  refine wpAny_Call_Name_kw (ld_glob I hg hm ?_ hdb)
  refine PySem.W.callWith_KW (h₀ := X.base) I.ok.mod.kin hk hall (thn (ha.run pos pins s σ H _ I h) fun us s1 ⟨vs, H1, I1, r, q⟩ => ?_) hpl he
  refine thn (hkw.run pos pins s1 σ H1 _ I1 q) fun ws s2 ⟨zs, H2, I2, rz, l1, l2, q2⟩ => ⟨I2.kIn, ?_⟩
  rw [hks]
  exact run_fnNS F hr hb (hx σ) I2 r rz l1 l2 q2
end
section
variable {P : Program} {w : World} {K : PySem.W.Frag} {mg : Str → Option Value} {base : Heap}
theorem kbn_removed {fd : FuncData} (F : FunD K d_removed.name d_removed.qual d_removed.params d_removed.body d_removed.scope (d_removed.dvs K) (d_removed.kws K) (He.fAd K d_removed.at_) fd) :
    KBn K fd psRem 3 ["first", "limit"] (fun us ws => us ++ ws) (fun vs zs => vs ++ zs) := by
  obtain ⟨oc, od, dV, kV, doc, pm, an, cdv, ct, osl, rfl, lk, hcd, hD, hK⟩ := F.ex
  rcases hD with ⟨_, rfl⟩ | ⟨e, _⟩
  · refine ⟨fun s us ws _ l1 l2 => ?_, fun r1 r2 => r1.append r2⟩
    match us, l1, ws, l2 with
    | [u1, u2, u3], _, [w1, w2], _ => exact BindsTo.of_eq rfl
  · exact absurd rfl e
/-! ### _law_told -/
def ansD (ks : List Str) (N : Nat) : Ans → PyData
  | .told f => .tuple [.str "told", dueD ks f]
  | .many => .tuple [.str "many", .int (N : Nat)]
def spTold (K : PySem.W.Frag) : Sp := fun vs H Q _ => ∃ (e ta fa : Addr) (r N : Nat) (B R : List Str) (as bs : List Addr) (ts fs : List (List Str)), vs = [.ref e, .ref ta, .int (r : Nat), .ref fa, .int (N : Nat)] ∧ En K B R H e ∧ Tk H ta as ts ∧ Fs K H fa bs fs ∧
  B ≠ [] ∧ B.length ≤ 100 ∧ R.length ≤ 100 ∧ fs.length ≤ 30 ∧ N ≤ 3000 ∧ r ≤ 2 ^ 62 ∧ (kinds B R).length < 64 ∧
  ∀ (a : Addr) (H' : Hp), Same H H' → Dp K H' (.ref a) (ansD (kinds B R) N (ansOf B R ts (KM.roundG B R fs fun _ => 0) N r)) → Q (.ref a) H'
abbrev nmTold : List Str := ["_law_history", "_law_takes", "_law_rounds", "_law_begin", "_law_bound", "e"]
theorem sc_law_told : FnScope nmTold ["_law_history", "_law_takes", "_law_rounds", "_law_begin", "_law_bound"] (defScope s_law_told) := fnScope_dec (by decide +kernel)
theorem cal_law_told (Z : Say K mg) : Cal P w K mg base 6 "_law_told" (spTold K) := by
  obtain ⟨fd, F⟩ := Z.D_law_told
  obtain ⟨fr, FR⟩ := Z.D_removed
  have okR := ok_removed (P := P) (w := w) (base := base) Z FR
  refine ⟨_, fd, ["_law_history", "_law_takes", "_law_rounds", "_law_begin", "_law_bound"], fn_ok F sc_law_told (fun vs H Q E h => ?_) (fun cdv A outer s H vs Q E hr h => ?_), Z.g_law_told, F.kp, F.bindsN fun _ _ _ _ _ _ us hl => match us, hl with | [_, _, _, _, _], _ => rfl⟩
  · obtain ⟨e, ta, fa, r, N, B, R, as, bs, ts, fs, rfl, _⟩ := h
    rfl
  · obtain ⟨e, ta, fa, r, N, B, R, as, bs, ts, fs, rfl, en, tk, fi, hne, zB, zR, zf, zN, zr, zk, qq⟩ := h
    have nd := sc_law_told.nd
    refine ⟨_, pss_cons (ps_try_as (i := 5) (Wout := fun _ _ _ _ => False) rfl rfl nd rfl rfl ⟨rfl, by decide, Or.inl Z.g_KindError⟩ takes0
          (fun W pn xe tk _ => pss_one (ps_ret (pe_tup (pa_cons pe_str (pa_cons (pe_callNS okR hr rfl Z.g_removed FR.kp (kbn_removed FR) (fun σ => passAt tk σ) (pa_cons (pv 0) (pa_cons (pv 1) (pa_cons (pv 2) pa_nil))) (pk_cons (pv 3) (pk_cons (pv 4) pk_nil))) pa_nil)))))
          (fun a oe cls d pn hz hf => pss_one (ps_if (PW.pt (pw_and (pt_val (pe_callB (call_isO Z.x_cl hz hf) rfl Z.f_isinstance boot_isinstance (pa_cons (pv 5) (pa_cons (pe_glob (v := .ref (cT K)) rfl Z.g_TooMany rfl) pa_nil))))
              (pw_and (pt_not (pt_val (pe_callB (call_isO Z.x_cl hz hf) rfl Z.f_isinstance boot_isinstance (pa_cons (pv 5) (pa_cons (pe_glob (v := .ref (He.ga K "BadRecord")) rfl Z.g_BadRecord rfl) pa_nil)))))
              (pw_and1 (pt_val (pe_callB (call_isO Z.x_cl hz hf) rfl Z.f_isinstance boot_isinstance (pa_cons (pv 5) (pa_cons (pe_bltn (v := .ty "ValueError") rfl Z.f_ValueError PyProof.Rows.Boot.«ValueError» rfl) pa_nil))))))))
            (pss_one (ps_ret (pe_tup (pa_cons pe_str (pa_cons (pe_xf Z.x_xf Z.x_li hz hf (pv 5)) pa_nil))))) pss_nil)))
      (pss_one (ps_ret (pe_tup (pa_cons pe_str (pa_cons pe_int pa_nil))))), ?_⟩
    refine ⟨_, rfl, _, rfl, _, rfl, _, rfl, _, rfl, rfl, rfl, e, ta, fa, r, N, B, R, as, bs, ts, fs, rfl, en, tk, fi, hne, zB, zR, zf, zN, zr, zk, ?_⟩
    generalize ansOf B R ts (KM.roundG B R fs fun _ => 0) N r = an at qq ⊢
    cases an with
    | told f =>
      intro a H' hS hd
      exact ⟨by show 2 ≤ sizeLine; decide, fun t ht => qq t _ (hS.trans (Same.new ht)) (.tup (SqT.of upd_same) (.cons (.str _) (.cons (dp_same (Same.new ht) hd) .nil)))⟩
    | many =>
      intro d H' hS hd
      refine ⟨true, Z.x_e1, fun _ a ha => ?_, fun h => by cases h⟩
      refine ⟨_, rfl, .ref (cT K), .ref (cT K), true, d, _, rfl, rfl, fun u h => h, Z.x_k1, rfl, hd, _, rfl, ?_⟩
      refine iteT ?_
      refine ⟨_, rfl, .ref (He.ga K "BadRecord"), .ref (He.ga K "BadRecord"), false, d, _, rfl, rfl, fun u h => h, Z.x_k2, rfl, hd, _, rfl, ?_⟩
      refine iteT ?_
      refine ⟨_, rfl, .ty "ValueError", .type "ValueError", true, d, _, rfl, rfl, fun u h => h, Z.x_k3, rfl, hd, _, rfl, ?_⟩
      refine iteT ?_
      refine ⟨_, rfl, rfl, rfl, d, _, .int (N : Nat), rfl, hd, rfl, by show 2 ≤ sizeLine; decide, fun t ht => ?_⟩
      exact qq t _ (hS.trans (Same.new ht)) (.tup (SqT.of upd_same) (.cons (.str _) (.cons (.int _) .nil)))
end
end Ku

/-! KuG -/
set_option Elab.async false
set_option linter.all false
set_option maxRecDepth 100000
set_option maxHeartbeats 4000000
/-! Defs that ask for repr: where nothing is being shown. -/
namespace Ku
open PySem PySem.Spec PyProof.Rows L2 KuS KuD KuIt KuZ KuSd
/-- the promise, where nothing is being shown -/
structure FnG (P : Program) (w : World) (K : PySem.W.Frag) (mg : Str → Option Value) (base : Heap) (CX : CXT) (k : Nat) (f : Addr) (fd : FuncData) (ps : List Str) (sp : Sp) : Prop where
  len : ∀ vs H Q E, sp vs H Q E → vs.length = ps.length
  run : ∀ (A : Around) (outer : List Env) (s : Shared) (H : Hp) (args : Args) (us : List Value) (vs : List V) (Q : VK) (E : XK), A.guards = some [] → Room k A → Env0 P w K mg base A outer s H → BindsTo s fd args (ps.zip us) → Vals vs us → sp vs H Q E →
    codeAny (model P w) A (.call (.ref f) args) (CR CX outer P w H s Q E) s
theorem fn_ofG {CX : CXT} {P : Program} {w : World} {K : PySem.W.Frag} {mg : Str → Option Value} {base : Heap} {k : Nat} {f : Addr} {name qual : Str} {params : Arguments} {body : List Stmt} {scope : Scope} {dV kV doc pm cdv ct oc : Value} {an od : Option Addr}
    {osl : Array (Option Value)} {N ps : List Str} {sp : Sp} (lk : K.lookup f = some ⟨oc, od, .func (PySem.W.fnOf name qual params body scope dV kV doc pm an cdv ct), osl⟩) (hcd : PySem.W.codeIn K cdv qual = true) (S : FnScope N ps scope)
    (len : ∀ vs H Q E, sp vs H Q E → vs.length = ps.length)
    (hbody : ∀ (A : Around) (outer : List Env) (s : Shared) (H : Hp) (vs : List V) (Q : VK) (E : XK), A.guards = some [] → Room k (A.deeper (envOfC qual scope s.heap.objs.size f cdv)) → sp vs H Q E →
      ∃ t, PSs (cxOf CX P w K mg base N qual scope f cdv A outer s H E) body t ∧ t { nx := fun _ H' => Q .non H', rt := Q } (start N vs) H) :
    FnG P w K mg base CX (k + 1) f (PySem.W.fnOf name qual params body scope dV kV doc pm an cdv ct) ps sp := by
  refine ⟨len, fun A outer s H args us vs Q E hgu hr e0 hb r hsp => ?_⟩
  have hl := len _ _ _ _ hsp
  have KX : K.In s.heap := e0.mod.kin.keeps fun b o e => (e0.bs b o e).1
  have lim : s.heap.NoLimit := e0.mod.nolimit.keeps fun b o e => (e0.bs b o e).1
  have hkind : ∀ y ∈ ps.zip us, scope.names.lookup y.1 = some .local ∨ (scope.names.lookup y.1 = some .cell ∧ ((cellsFrom (s.heap.objs.size + 1) scope.names []).lookup y.1).isSome = true) := fun ⟨n, v⟩ hy => by
    rcases S.par n (List.of_mem_zip hy).1 with q | q
    · exact .inl q
    · exact .inr ⟨q, PySem.W.cellsFrom_some _ _ _ (.inl q)⟩
  refine codeAny_call_function hr.depth (KX _ _ lk) rfl S.co S.gen rfl (PySem.W.codeRec_of KX hcd) (hb _ _ _ _ ?_)
  refine wpAny_newFunctionEnv_cells S.kind hkind fun env he s1 x => ?_
  subst he
  refine ⟨lim.keeps x.toInCall.keep, codeAny_func ?_⟩
  obtain ⟨t, ht, hq⟩ := hbody A outer s H vs Q E hgu (hr.deeper _) hsp
  have I : Inv (cxOf CX P w K mg base N qual scope f cdv A outer s H E) [] (start N vs) H s1 := inv_start S hr.hd e0 hl r x
  refine wpAny_mono (ht.run [] s1 (start N vs) H _ I hq) (fun fl s' hs => ?_) fun e s' hs => hs
  have fin : ∀ {σ' : L2.St} {H' : Hp} {v : V} {u : Value}, Inv (cxOf CX P w K mg base N qual scope f cdv A outer s H E) [] σ' H' s' → RelV v u → Q v H' → CE outer P w H s Q u s' :=
    fun {σ' H' v u} J rv q => ⟨v, H', J.os, J.bare, J.base, J.hok, rv, q⟩
  cases fl with
  | ret u =>
    obtain ⟨v, σ', H', J, rv, q⟩ := hs
    exact fin J rv q
  | next =>
    obtain ⟨σ', H', J, q⟩ := hs
    exact fin (v := V.non) (u := Value.none) J rfl q
  | brk =>
    obtain ⟨_, _, _, q⟩ := hs
    exact False.elim q
  | cont =>
    obtain ⟨_, _, _, q⟩ := hs
    exact False.elim q
section
variable {P : Program} {w : World} {K : PySem.W.Frag} {mg : Str → Option Value} {base : Heap}
variable {x qual : Str} {params : Arguments} {body : List Stmt} {scope : Scope} {f : Addr} {fd : FuncData} {N ps : List Str} {k : Nat} {sp : Sp}
theorem fn_okG (F : FunD K x qual params body scope [] [] f fd) (S : FnScope N ps scope) (len : ∀ vs H Q E, sp vs H Q E → vs.length = ps.length)
    (hbody : ∀ (cdv : Value) (A : Around) (outer : List Env) (s : Shared) (H : Hp) (vs : List V) (Q : VK) (E : XK), A.guards = some [] → Room k (A.deeper (envOfC qual scope s.heap.objs.size f cdv)) → sp vs H Q E →
      ∃ t, PSs (cxOf CX0 P w K mg base N qual scope f cdv A outer s H E).nox body t ∧ t { nx := fun _ H' => Q .non H', rt := Q } (start N vs) H) : FnG P w K mg base CX0 (k + 1) f fd ps sp := by
  obtain ⟨oc, od, dV, kV, doc, pm, an, cdv, ct, osl, rfl, lk, hcd, _, _⟩ := F.ex
  refine fn_ofG lk hcd S len fun A outer s H vs Q E hg hr hsp => ?_
  obtain ⟨t, h1, h2⟩ := hbody cdv A outer s H vs Q E hg hr hsp
  exact ⟨t, h1.nox, h2⟩
variable (P w K mg base) in
/-- a def of the text that asks for repr -/
def CalG (k : Nat) (x : Str) (sp : Sp) : Prop := ∃ (f : Addr) (fd : FuncData) (ps : List Str), FnG P w K mg base CX0 k f fd ps sp ∧ mg x = some (.ref f) ∧ PySem.W.keepIn K (.ref f) = true ∧ Binds K fd ps []
end
section
variable {X : Cx} {k j : Nat} {sp : Sp} {x : Str} {p pos : Pos} {e : Expr} {es : List Expr} {t : TA}
theorem pe_cG (c : CalG X.prog X.w X.K X.mg X.base k x sp) (hgu : X.A.guards = some []) (hr : Room j X.A) (hk : k ≤ j) (hg : Gl X x) (ha : PA X (e :: es) t)
    (hdb : (x == ("__debug__" : Str)) = false := by decide) (he : starEach (e :: es) X.env = (false, eval e X.env) :: starEach es X.env := by rfl) (hpl : (backTo pos (starEach es X.env)).any (·.1) = false := by rfl) :
    PE X (.Call (.Name x p) (e :: es) [] pos) (tCall sp [] E0 t) := by
  obtain ⟨f, fd, ps, F, hm, kp, b⟩ := c
  refine ⟨fun pins s σ H Q I h => ?_⟩
  refine wpAny_Call_Name_kw (ld_glob I hg hm ?_ hdb)
  refine PySem.W.callWith_K (h₀ := X.base) I.ok.mod.kin kp (thn (ha.run pos pins s σ H _ I h) fun us s1 ⟨vs, H1, I1, r, q⟩ => ⟨I1.kIn, ?_⟩) he hpl
  have r2 : Vals (vs ++ []) (us ++ []) := r.append .nil
  have hl : (us ++ []).length = ps.length := by rw [← r2.length]; exact F.len _ _ _ _ q
  refine wpAny_call (codeAny_mono (F.run X.A X.stack s1 H1 ⟨us, []⟩ (us ++ []) (vs ++ []) Q E0 hgu (hr.mono hk) I1.env0 (b s1 us I1.kIn hl) r2 q) fun r s' hq => ?_)
  cases r with
  | error e => exact pass0 pins σ H1 s1 e s' I1 hq
  | ok fl =>
    cases fl with
    | ret u => exact I1.after hq
    | next => exact False.elim hq
    | brk => exact False.elim hq
    | cont => exact False.elim hq
end
/-! ### the end, with such a law -/
theorem law_callG {P : Program} {w : World} {K : PySem.W.Frag} {mg mb : Str → Option Value} {k : Nat} {fa a : Addr} {fd : FuncData} {x : Str} {sp : Sp} {s₁ : Shared} {vs : List Value} {ns : List Int}
    (KX : K.In s₁.heap) (hns : s₁.heap.Ns mainGlobals mg) (hb : s₁.heap.Ns builtinsNs mb) (hbb : ∀ x : Str, x ≠ "__name__" → mb x = bootBuiltins x) (hlim : s₁.heap.NoLimit) (hg : s₁.gens = #[])
    (ha : s₁.heap.get? a = some { cls := .type "list", data := .seq vs.toArray }) (hi : IntsAre vs ns) (hl : ns.length ≤ sizeLine) (hr : Room k callerA)
    (F : ∀ base : Heap, K.In base → base.Ns mainGlobals mg → FnG P w K mg base CX0 k fa fd [x] sp) (hbind : ∀ (s : Shared) (u : Value), BindsTo s fd ⟨[u], []⟩ [(x, u)])
    (hsp : ∀ H : Hp, Only H → SqL K H a (ns.map V.int) → sp [.ref a] H (fun v _ => v = .bl true) fun _ _ _ => False) :
    codeAny (model P w) callerA (.call (.ref fa) ⟨[.ref a], []⟩) (fun r s' => r = .ok (.ret (.bool true)) ∧ OldK s₁.heap s'.heap ∧ s'.os = s₁.os ∧ AllBare s'.gens) s₁ := by
  have rv := vals_ints hi
  have lenV := hi.length
  -- from an abstract heap in which nothing but the script may be tracked
  have core : ∀ H : Hp, Only H → SqL K H a (ns.map V.int) → HOk P w H s₁.heap → (∀ b, H b ≠ none → b = a) → (H a ≠ none → K.lookup a = none) →
      codeAny (model P w) callerA (.call (.ref fa) ⟨[.ref a], []⟩) (fun r s' => r = .ok (.ret (.bool true)) ∧ OldK s₁.heap s'.heap ∧ s'.os = s₁.os ∧ AllBare s'.gens) s₁ := by
    intro H hO hS hok hA hK
    have base_of : ∀ {b : Addr} {o : Obj}, s₁.heap.get? b = some o → H b = none → (hidT s₁.heap H).get? b = some o := fun e n => hidT_get e n
    have noA : ∀ {b : Addr} {o : Obj} {es : Array DictEntry} {ep : Nat}, s₁.heap.get? b = some o → o.data = .dict es ep → H b = none := fun {b o es ep} e d => by
      cases q : H b with
      | none => rfl
      | some u =>
        have e' : b = a := hA b (by rw [q]; simp)
        subst e'
        rw [ha] at e; cases e
        have d' : Data.seq vs.toArray _ = Data.dict es ep := d
        cases d'
    have nsK : ∀ {b : Addr} {m : Str → Option Value}, s₁.heap.Ns b m → (hidT s₁.heap H).Ns b m := fun {b m} ⟨o, es, ep, e, d, r⟩ => ⟨o, es, ep, base_of e (noA e d), d, r⟩
    have hKb : K.In (hidT s₁.heap H) := fun b o e => base_of (KX b o e) (by
      cases q : H b with
      | none => rfl
      | some u =>
        have e' : b = a := hA b (by rw [q]; simp)
        subst e'
        rw [hK (by rw [q]; simp)] at e; cases e)
    have hM : Mod K mg (hidT s₁.heap H) := ⟨hKb, nsK hns, ⟨mb, nsK hb, hbb⟩, let ⟨mc, h1, h2⟩ := hlim; ⟨mc, nsK h1, h2⟩⟩
    have e0 : Env0 P w K mg (hidT s₁.heap H) callerA [] s₁ H := ⟨rfl, hM, fun b o e => of_hidT e, Nat.le_of_eq (hidT_size _ _), trivial, fun b hb => absurd (show b ∈ ([] : List Addr) from hb) (by simp), hok, .of_eq hg⟩
    refine codeAny_mono ((F _ hKb (nsK hns)).run callerA [] s₁ H ⟨[.ref a], []⟩ [.ref a] [.ref a] _ _ rfl hr e0 (hbind s₁ (.ref a)) (.cons rfl .nil) (hsp H hO hS)) fun r s' h => ?_
    cases r with
    | error e => exact False.elim h
    | ok fl =>
      cases fl with
      | next => exact False.elim h
      | brk => exact False.elim h
      | cont => exact False.elim h
      | ret u =>
        obtain ⟨v, H', os, bare, un, hok', r', q⟩ := h
        have q' : v = .bl true := q
        subst q'
        obtain rfl : u = Value.bool true := r'
        refine ⟨rfl, OldK.of_keep fun b o e => ?_, os, bare⟩
        cases q : H b with
        | none => exact un.keep b o e q (by intro z; exact absurd (show b ∈ ([] : List Addr) from z) (by simp)) (by simp)
        | some u =>
          rcases hO b with z | ⟨ob, xs, z⟩
          · rw [q] at z; cases z
          · have z2 := un.frzs b ob _ z
            obtain ⟨e1, _⟩ := hok b _ z
            obtain ⟨e2, _⟩ := hok' b _ z2
            rw [e] at e1; cases e1
            exact e2
  cases hk : K.lookup a with
  | some o =>
    -- the script is one of the module's own objects
    have e := KX a o hk
    rw [ha] at e
    cases e
    refine core (fun _ => none) (fun _ => .inl rfl) (.inr ⟨_, vs.toArray, _, hk, rfl, rfl, rfl, by rw [List.size_toArray, lenV]; exact hl, by simpa using rv⟩) (fun b u z => by have z' : (none : Option HO) = some u := z; cases z') (fun b z => absurd rfl z) fun z => absurd rfl z
  | none =>
    refine core (fun b => if b = a then some (.frz { cls := .type "list", data := .seq vs.toArray } (.lst (ns.map V.int))) else none) (fun b => ?_) (.inl (.inr ⟨{ cls := .type "list", data := .seq vs.toArray }, if_pos rfl⟩)) (fun b u z => ?_) (fun b z => ?_) fun _ => hk
    · by_cases hb : b = a
      · exact .inr ⟨_, _, if_pos hb⟩
      · exact .inl (if_neg hb)
    · by_cases hb : b = a
      · have z' := (if_pos hb).symm.trans z
        cases z'
        subst hb
        exact ⟨ha, by rw [List.length_map]; exact hl, vs, _, rv, ha⟩
      · have z' := (if_neg hb).symm.trans z
        cases z'
    · by_cases hb : b = a
      · exact hb
      · exact absurd (if_neg hb) z
theorem walk_ofG {l : PySem.W.OpenLaw} {n k : Nat} {q : Program} {loose : List Str} {XP : (Str → Option Value) → Heap → Prop} {YP : World → Heap → Prop} {d : DefRec} {x : Str}
    (hn : l.most = some n) (hn2 : n ≤ sizeLine) (hdf : d.params.defaults = []) (hr : Room k callerA)
    (F : ∀ (w : World) (mg : Str → Option Value) (fa : Addr) (h : Heap), YP w h → h.Ns mainGlobals mg → mg d.name = some (.ref fa) →
      ∃ (K : PySem.W.Frag) (fd : FuncData) (sp : Sp), K.In h ∧ (∀ (s : Shared) (u : Value), BindsTo s fd ⟨[u], []⟩ [(x, u)]) ∧
        (∀ (H : Hp) (a : Addr) (ns : List Int), ns.length ≤ n → Only H → SqL K H a (ns.map V.int) → sp [.ref a] H (fun v _ => v = .bl true) fun _ _ _ => False) ∧
        ∀ base : Heap, K.In base → base.Ns mainGlobals mg → FnG l.prog w K mg base CX0 k fa fd [x] sp) :
    PySem.W.WalkO q loose XP YP l.row.toRowW d [] (fun f vs => PySem.call f vs) := by
  refine Att.attach_call hn hdf fun w s₀ s₁ mg mb fa o pm cd doc a vs ns G Y ho hd hcd hmg hobj hints hlen hg => ?_
  obtain ⟨K, fd, sp, KX, hb, hsp, hF⟩ := F w mg fa _ Y G.T.g hmg
  exact law_callG KX G.T.g G.T.b G.T.builtins G.T.nolimit hg hobj hints (Nat.le_trans hlen hn2) hr hF hb fun H hO hS => hsp H a ns hlen hO hS
/-! ### _law_alike -/
mutual
theorem eqv_refl : ∀ d : PyData, d.hasDict = false → PyData.eqv d d = true
  | .none, _ => rfl
  | .bool b, _ => by show (b == b) = true; simp
  | .int i, _ => by show (i == i) = true; simp
  | .str x, _ => by show (x == x) = true; simp
  | .list xs, h => by
    have h' : PyData.hasDictAll xs = false := by simpa only [PyData.hasDict] using h
    have := eqvAll_refl xs h'
    simpa only [PyData.eqv] using this
  | .tuple xs, h => by
    have h' : PyData.hasDictAll xs = false := by simpa only [PyData.hasDict] using h
    have := eqvAll_refl xs h'
    simpa only [PyData.eqv] using this
  | .dict kvs, h => by simp [PyData.hasDict] at h
theorem eqvAll_refl : ∀ xs : List PyData, PyData.hasDictAll xs = false → PyData.eqvAll xs xs = true
  | [], _ => rfl
  | x :: xs, h => by
    have h' : PyData.hasDict x = false ∧ PyData.hasDictAll xs = false := by simpa only [PyData.hasDictAll, Bool.or_eq_false_iff] using h
    simp only [PyData.eqvAll, Bool.and_eq_true]
    exact ⟨eqv_refl x h'.1, eqvAll_refl xs h'.2⟩
end
/-- data that == and repr go through -/
structure Fine (d : PyData) : Prop where
  sh : SeqAt.shaped d = true
  sw : d.showable = true
  nd : d.hasDict = false
  dp : d.depth ≤ 20
  ln : d.shown.length ≤ sizeLine
section
variable {X : Cx}
theorem cr_reprG (hg : X.A.guards = some []) (hu : X.A.units + 64 < cLine) : CallR X (.builtin "repr") (fun vs H Q => ∃ (a : Addr) (d : PyData), vs = [.ref a] ∧ Dp X.K H (.ref a) d ∧ Fine d ∧ Q (.str d.shown) H) := by
  intro pins s σ H xs us Q I r h
  obtain ⟨a, d, rfl, hd, fi, q⟩ := h
  obtain ⟨u, rfl, rx⟩ := vals1 r
  have rx' := rx
  cases rx'
  obtain ⟨as, r1⟩ := Dp.reads I d _ _ hd rx
  have := fi.dp
  exact repr_of_reads' r1 fi.sw (PyData.noDict_hsm fi.nd) hg (by omega) (fun b o e => e) (fun h' u tk hk => ⟨.str d.shown, H, I.kept (t' := tk) hk, ⟨_, rfl⟩, q⟩) fi.ln
end
section
variable {P : Program} {w : World} {K : PySem.W.Frag} {mg : Str → Option Value} {base : Heap}
def spAlike (K : PySem.W.Frag) : Sp := fun vs H Q _ => ∃ (a b : Addr) (d : PyData), vs = [.ref a, .ref b] ∧ Dp K H (.ref a) d ∧ Dp K H (.ref b) d ∧ Fine d ∧ Q (.bl true) H
theorem sc_law_alike : FnScope ["_law_found", "_law_due"] ["_law_found", "_law_due"] (defScope s_law_alike) := fnScope_dec (by decide +kernel)
theorem cal_law_alike (Z : Say K mg) : CalG P w K mg base 1 "_law_alike" (spAlike K) := by
  obtain ⟨fd, F⟩ := Z.D_law_alike
  refine ⟨_, fd, ["_law_found", "_law_due"], fn_okG F sc_law_alike (fun vs H Q E h => ?_) (fun cdv A outer s H vs Q E hgu hr h => ?_), Z.g_law_alike, F.kp, F.bindsN fun _ _ _ _ _ _ us hl => match us, hl with | [_, _], _ => rfl⟩
  · obtain ⟨a, b, d, rfl, _⟩ := h
    rfl
  · obtain ⟨a, b, d, rfl, da, db, fi, qq⟩ := h
    have hu := hr.units
    refine ⟨_, pss_one (ps_ret (pe_and (pe_cmpR (op_eqD hu) (pv 0) (pv 1) (nomark _)) (pe_one (pe_cmpR op_eq (pe_callB (cr_reprG hgu hu) rfl Z.f_repr PyProof.Rows.boot_repr (pa_cons (pv 0) pa_nil)) (pe_callB (cr_reprG hgu hu) rfl Z.f_repr PyProof.Rows.boot_repr (pa_cons (pv 1) pa_nil)) (nomark _))))), ?_⟩
    refine ⟨_, rfl, _, rfl, d, d, da, db, fi.sh, fi.sh, ?_⟩
    rw [eqv_refl d fi.nd]
    refine ⟨_, rfl, iteT ?_⟩
    refine ⟨_, rfl, a, d, rfl, da, fi, _, rfl, b, d, rfl, db, fi, rfl, ?_⟩
    have e : decide (V.str d.shown = V.str d.shown) = true := decide_eq_true rfl
    rw [e]
    exact qq
end
end Ku

/-! KuH -/
set_option Elab.async false
set_option linter.all false
set_option maxRecDepth 100000
set_option maxHeartbeats 4000000
namespace Ku
open PySem PySem.Spec PyProof.Rows L2 KuS KuD KuIt KuZ KuSd
/-! ### what is told is plain data -/
/-- a text of few usual letters -/
structure Txt8 (k : Str) : Prop where
  len : k.cps.size ≤ 8
  lo : ∀ c ∈ k.cps.toList, c ≤ 122
theorem kd_txt {k : Str} (h : Kd k) : Txt8 k := ⟨h.2.1, fun c hc => (h.2.2 c hc).2⟩
theorem log_lt {i : Int} (h : i.natAbs < 2 ^ 100) : i.natAbs.log2 < 100 := by
  by_cases c : i.natAbs = 0
  · rw [c]; decide
  · exact (Nat.log2_lt c).mpr h
theorem int_sh {i : Int} (h : i.natAbs < 2 ^ 100) : (PyData.shown (.int i)).length ≤ 101 := by
  have := int_text_length_le (a := i) (k := 100) (by decide) (log_lt h)
  show (Str.ofString (toString i)).length ≤ 101
  rw [PySem.ofString_length]
  exact this
theorem txt_lay {k : Str} (h : Txt8 k) : PyData.canLay0 (.str k) = true := by
  show PyData.strOk k = true
  unfold PyData.strOk
  rw [Array.all_eq_true_iff_forall_mem]
  intro c hc
  have := h.lo c (Array.mem_toList_iff.mpr hc)
  exact decide_eq_true (by omega)
theorem txt_leaf {k : Str} (h : Txt8 k) (B : Nat) : PyData.leavesShort B (.str k) = true := by
  show (k.cps.toList.all fun c => decide (c < 16 ^ 8)) = true
  rw [List.all_eq_true]
  intro c hc
  have := h.lo c hc
  exact decide_eq_true (by omega)
theorem int_w {i : Int} (h : i.natAbs < 2 ^ 100) : PyData.weight (.int i) ≤ 101 := by
  show (if (i == 0) = true then 0 else i.natAbs.log2 + 1) ≤ 101
  have := log_lt h
  split <;> omega
theorem due_facts (f : Str → Int) : ∀ (ks : List Str), (∀ k ∈ ks, Txt8 k ∧ (f k).natAbs < 2 ^ 100) →
    PyData.canLayAll0 (ks.map fun k => eK (k, f k)) = true ∧ PyData.showableAll (ks.map fun k => eK (k, f k)) = true ∧ PyData.hasDictAll (ks.map fun k => eK (k, f k)) = false ∧ PyData.depthAll (ks.map fun k => eK (k, f k)) ≤ 4 ∧
    PyData.leavesShortAll 101 (ks.map fun k => eK (k, f k)) = true ∧ PyData.weightAll (ks.map fun k => eK (k, f k)) ≤ 120 * ks.length
  | [], _ => ⟨rfl, rfl, rfl, Nat.zero_le _, rfl, Nat.le_refl _⟩
  | k :: r, h => by
    obtain ⟨h1, h2, h3, h4, h5, h6⟩ := due_facts f r fun x hx => h x (List.mem_cons_of_mem _ hx)
    obtain ⟨tk, hi⟩ := h k (List.mem_cons_self ..)
    have c1 := txt_lay tk
    have c2 := txt_leaf tk 101
    have c3 := int_sh hi
    have c4 := int_w hi
    have c5 := log_lt hi
    have c6 : PyData.weight (.str k) ≤ 8 := tk.len
    rw [List.map_cons]
    refine ⟨?_, ?_, ?_, ?_, ?_, ?_⟩
    · simp only [PyData.canLayAll0, eK, PyData.canLay0, Bool.and_eq_true] at c1 ⊢
      exact ⟨⟨c1, trivial, trivial⟩, h1⟩
    · simp only [PyData.showableAll, eK, PyData.showable, Bool.and_eq_true, decide_eq_true_eq]
      exact ⟨⟨trivial, by omega, trivial⟩, h2⟩
    · simp only [PyData.hasDictAll, eK, PyData.hasDict, Bool.or_eq_false_iff]
      exact ⟨⟨trivial, trivial, trivial⟩, h3⟩
    · simp only [PyData.depthAll, eK, PyData.depth]
      exact Nat.max_le.mpr ⟨by decide, h4⟩
    · simp only [PyData.leavesShortAll, eK, PyData.leavesShort, Bool.and_eq_true, decide_eq_true_eq] at c2 ⊢
      exact ⟨⟨c2, c3, trivial⟩, h5⟩
    · show ((PyData.weight (.str k) + 1 + (PyData.weight (.int (f k)) + 1 + 0)) + 1 + PyData.weightAll (r.map fun k => eK (k, f k))) ≤ 120 * (r.length + 1)
      omega
theorem fine_of {d : PyData} (h1 : d.canLay0 = true) (h2 : d.showable = true) (h3 : d.hasDict = false) (h4 : d.depth ≤ 20) (h5 : d.leavesShort 101 = true) (h6 : d.weight ≤ 9000) : Fine d := by
  refine ⟨?_, h2, h3, h4, ?_⟩
  · unfold SeqAt.shaped
    rw [Bool.and_eq_true]
    exact ⟨h1, decide_eq_true (by omega)⟩
  · have := PyData.shown_le 101 (by decide) d h5
    rw [sizeLine_eq]
    omega
theorem txt_told : Txt8 "told" := ⟨by decide +kernel, by decide +kernel⟩
theorem txt_many : Txt8 "many" := ⟨by decide +kernel, by decide +kernel⟩
theorem fine_told {ks : List Str} {f : Str → Int} (hk : ks.length ≤ 64) (h : ∀ k ∈ ks, Txt8 k ∧ (f k).natAbs < 2 ^ 100) : Fine (.tuple [.str "told", dueD ks f]) := by
  obtain ⟨h1, h2, h3, h4, h5, h6⟩ := due_facts f ks h
  have c1 := txt_lay txt_told
  have c2 := txt_leaf txt_told 101
  have c6 : PyData.weight (.str "told") ≤ 8 := txt_told.len
  refine fine_of ?_ ?_ ?_ ?_ ?_ ?_
  · simp only [PyData.canLay0, PyData.canLayAll0, Bool.and_eq_true] at c1 ⊢
    exact ⟨c1, h1, trivial⟩
  · simp only [PyData.showable, PyData.showableAll, Bool.and_eq_true]
    exact ⟨trivial, h2, trivial⟩
  · simp only [PyData.hasDict, PyData.hasDictAll, Bool.or_eq_false_iff]
    exact ⟨trivial, h3, trivial⟩
  · simp only [PyData.depth, PyData.depthAll]
    omega
  · simp only [PyData.leavesShort, PyData.leavesShortAll, Bool.and_eq_true] at c2 ⊢
    exact ⟨c2, h5, trivial⟩
  · show PyData.weight (.str "told") + 1 + (PyData.weightAll (ks.map fun k => eK (k, f k)) + 1 + 0) ≤ 9000
    omega
theorem fine_many {N : Nat} (hN : N ≤ 3000) : Fine (.tuple [.str "many", .int (N : Nat)]) := by
  have hi : ((N : Nat) : Int).natAbs < 2 ^ 100 := by
    rw [Int.natAbs_natCast]
    exact Nat.lt_of_le_of_lt hN (by decide)
  have c1 := txt_lay txt_many
  have c2 := txt_leaf txt_many 101
  have c3 := int_sh hi
  have c4 := int_w hi
  have c5 := log_lt hi
  have c6 : PyData.weight (.str "many") ≤ 8 := txt_many.len
  refine fine_of ?_ ?_ ?_ ?_ ?_ ?_
  · simp only [PyData.canLay0, PyData.canLayAll0, Bool.and_eq_true] at c1 ⊢
    exact ⟨c1, trivial, trivial⟩
  · simp only [PyData.showable, PyData.showableAll, Bool.and_eq_true, decide_eq_true_eq]
    exact ⟨trivial, by omega, trivial⟩
  · simp only [PyData.hasDict, PyData.hasDictAll, Bool.or_eq_false_iff]
    exact ⟨trivial, trivial, trivial⟩
  · simp only [PyData.depth, PyData.depthAll]
    omega
  · simp only [PyData.leavesShort, PyData.leavesShortAll, Bool.and_eq_true, decide_eq_true_eq] at c2 ⊢
    exact ⟨c2, c3, trivial⟩
  · show PyData.weight (.str "many") + 1 + (PyData.weight (.int (N : Nat)) + 1 + 0) ≤ 9000
    omega
end Ku

/-! KuI -/
set_option Elab.async false
set_option linter.all false
set_option maxRecDepth 100000
set_option maxHeartbeats 8000000
namespace Ku
open PySem PySem.Spec PyProof.Rows L2 KuS KuD KuIt KuZ KuSd
/-! ### the numbers are small -/
theorem counted_small {B R : List Str} {ts : List (List Str)} {g : Str → Nat} {N l n r : Nat} (hg : ∀ k, g k ≤ 30) (ht : ts.length ≤ 30) (hln : l < n) (hn : n ≤ N) (hN : N ≤ 3000) (hr : r ≤ 2 ^ 62) (k : Str) :
    (KM.counted (KM.after B R ts g) (l, n) r k).natAbs < 2 ^ 100 := by
  have up : ∀ j, j ≤ 3000 → KM.after B R ts g j k ≤ 2 ^ 18 := fun j hj => by
    have h1 := KM.after_up (B := B) (R := R) ts g k j
    have h2 := hg k
    have h4 : j * ts.length ≤ 3000 * 30 := Nat.mul_le_mul hj ht
    omega
  have le := KM.after_le (B := B) (R := R) (takes := ts) (g := g) (Nat.le_of_lt hln) k
  have zr : (r - l) % (n - l) < n - l := Nat.mod_lt _ (by omega)
  have zt : (r - l) / (n - l) ≤ 2 ^ 62 := Nat.le_trans (Nat.div_le_self _ _) (by omega)
  have u1 := up n (by omega)
  have u2 := up (l + (r - l) % (n - l)) (by omega)
  have e : KM.counted (KM.after B R ts g) (l, n) r k = ((KM.after B R ts g (l + (r - l) % (n - l)) k + (r - l) / (n - l) * (KM.after B R ts g n k - KM.after B R ts g l k) : Nat) : Int) := by
    show ((KM.after B R ts g (l + (r - l) % (n - l)) k : Nat) : Int) + (((r - l) / (n - l) : Nat) : Int) * (((KM.after B R ts g n k : Nat) : Int) - ((KM.after B R ts g l k : Nat) : Int)) = _
    rw [Int.natCast_add, Int.natCast_mul, Int.natCast_sub le]
  rw [e, Int.natAbs_natCast]
  have m : (r - l) / (n - l) * (KM.after B R ts g n k - KM.after B R ts g l k) ≤ 2 ^ 62 * 2 ^ 18 := Nat.mul_le_mul zt (by omega)
  have p1 : (2 : Nat) ^ 62 * 2 ^ 18 = 2 ^ 80 := by decide
  have p2 : (2 : Nat) ^ 80 + 2 ^ 18 < 2 ^ 100 := by decide
  omega
theorem rounds_small {B R : List Str} {ts : List (List Str)} {g : Str → Nat} {n : Nat} (hg : ∀ k, g k ≤ 30) (ht : ts.length ≤ 30) (hn : n ≤ 3000) (k : Str) : (((KM.after B R ts g n k : Nat) : Int)).natAbs < 2 ^ 100 := by
  rw [Int.natAbs_natCast]
  have h1 := KM.after_up (B := B) (R := R) ts g k n
  have h2 := hg k
  have h4 : n * ts.length ≤ 3000 * 30 := Nat.mul_le_mul hn ht
  have p2 : (2 : Nat) ^ 20 < 2 ^ 100 := by decide
  omega
theorem begin_small {B R : List Str} {fs : List (List Str)} (h : fs.length ≤ 30) (k : Str) : KM.roundG B R fs (fun _ => 0) k ≤ 30 := by
  have := KM.roundG_up (B := B) (R := R) fs (g := fun _ => 0) k
  omega
/-- the answer is plain data -/
theorem fine_ans {B R : List Str} {ts fs : List (List Str)} {N r : Nat} (hk : ∀ k ∈ kinds B R, Kd k) (zk : (kinds B R).length ≤ 64) (ht : ts.length ≤ 30) (hf : fs.length ≤ 30) (hN : N ≤ 3000) (hr : r ≤ 2 ^ 62) :
    Fine (ansD (kinds B R) N (ansOf B R ts (KM.roundG B R fs fun _ => 0) N r)) := by
  unfold ansOf
  have hg := begin_small (B := B) (R := R) hf
  split
  · rename_i c
    exact fine_told zk fun k h => ⟨kd_txt (hk k h), rounds_small hg ht (by omega) k⟩
  · cases e : KM.findP (KM.paperB B R ts (KM.roundG B R fs fun _ => 0)) N with
    | none => exact fine_many hN
    | some x =>
      obtain ⟨l, n⟩ := x
      obtain ⟨h1, h2, _⟩ := KM.findP_some e
      exact fine_told zk fun k h => ⟨kd_txt (hk k h), counted_small hg ht h1 h2 hN hr k⟩
/-! ### a scene -/
/-- a history with its lists, its takes -/
structure Scn (K : PySem.W.Frag) (B R : List Str) (H : Hp) (e a b : Addr) : Prop where
  en : En K B R H e
  hB : H a = some (.lst (B.map V.str))
  hR : H b = some (.lst (R.map V.str))
theorem Scn.mono {K : PySem.W.Frag} {B R : List Str} {H H' : Hp} {e a b : Addr} (h : Scn K B R H e a b) (s : Same H H') : Scn K B R H' e a b := ⟨h.en.mono s, s _ _ h.hB, s _ _ h.hR⟩
structure Sizes (B R : List Str) : Prop where
  ne : B ≠ []
  zB : B.length ≤ 100
  zR : R.length ≤ 100
  zk : (kinds B R).length < 64
  kd : ∀ k ∈ kinds B R, Kd k
section
variable {P : Program} {w : World} {K : PySem.W.Frag} {mg : Str → Option Value} {base : Heap}
/-! ### _law_far_right -/
def spFar (K : PySem.W.Frag) : Sp := fun vs H Q _ => ∃ (e a b ta fa : Addr) (N : Nat) (B R : List Str) (as bs : List Addr) (ts fs : List (List Str)), vs = [.ref e, .ref a, .ref b, .ref ta, .ref fa, .int (N : Nat)] ∧ Scn K B R H e a b ∧ Sizes B R ∧ Tk H ta as ts ∧ Tk H fa bs fs ∧ N ≤ 3000 ∧
  ∀ H' : Hp, Same H H' → Q (.bl true) H'
abbrev nmFar : List Str := ["_law_history", "_law_block", "_law_recent", "_law_takes", "_law_begin", "_law_bound", "_law_race_here", "_law_rounds", "_law_found", "_law_due"]
abbrev psFar : List Str := ["_law_history", "_law_block", "_law_recent", "_law_takes", "_law_begin", "_law_bound"]
theorem sc_law_far_right : FnScope nmFar psFar (defScope s_law_far_right) := fnScope_dec (by decide +kernel)
theorem cal_law_far_right (Z : Say K mg) : CalG P w K mg base 7 "_law_far_right" (spFar K) := by
  obtain ⟨fd, F⟩ := Z.D_law_far_right
  have cR : Cal P w K mg base 4 "_law_race" spRace := cal_law_race Z
  have cP : Cal P w K mg base 3 "_law_paper" spPaper := cal_law_paper Z
  have cC : Cal P w K mg base 1 "_law_counted" (spCounted K) := cal_law_counted Z
  have cT : Cal P w K mg base 6 "_law_told" (spTold K) := cal_law_told Z
  have cA : CalG P w K mg base 1 "_law_alike" (spAlike K) := cal_law_alike Z
  refine ⟨_, fd, psFar, fn_okG F sc_law_far_right (fun vs H Q E h => ?_) (fun cdv A outer s H vs Q E hgu hr h => ?_), Z.g_law_far_right, F.kp, F.bindsN fun _ _ _ _ _ _ us hl => match us, hl with | [_, _, _, _, _, _], _ => rfl⟩
  · obtain ⟨e, a, b, ta, fa, N, B, R, as, bs, ts, fs, rfl, _⟩ := h
    rfl
  · obtain ⟨e, a, b, ta, fa, N, B, R, as, bs, ts, fs, rfl, sc, sz, tk, fk, zN, qq⟩ := h
    have nd := sc_law_far_right.nd
    have hu := hr.units
    refine ⟨_, pss_cons (ps_par (i := 6) (j := 7) rfl nd rfl rfl (by decide) rfl rfl (pa_cons (pe_c cR hr (by decide) rfl (pa_cons (pv 1) (pa_cons (pv 2) (pa_cons (pv 3) (pa_cons (pv 4) (pa_cons (pv 5) pa_nil)))))) (pa_cons (pe_op op_add (pe_op op_pow pe_int pe_int) pe_int) pa_nil)) (by rfl))
      (pss_cons (ps_set (i := 8) nd rfl (Or.inl rfl) (pe_c cP hr (by decide) rfl (pa_cons (pv 1) (pa_cons (pv 2) (pa_cons (pv 3) (pa_cons (pv 6) (pa_cons (pv 5) pa_nil)))))))
      (pss_cons (ps_set (i := 9) nd rfl (Or.inl rfl) (pe_ifExp (pt_cmp (pc_isN (pv 8))) (pe_tup (pa_cons pe_str (pa_cons (pv 5) pa_nil))) (pe_tup (pa_cons pe_str (pa_cons (pe_c cC hr (by decide) rfl (pa_cons (pe_ix ix_tup (pv 6) pe_int (fun _ _ => rfl)) (pa_cons (pv 8) (pa_cons (pv 7) pa_nil)))) pa_nil)))))
      (pss_one (ps_ret (pe_cG cA hgu hr (by decide) rfl (pa_cons (pe_c cT hr (by decide) rfl (pa_cons (pv 0) (pa_cons (pv 3) (pa_cons (pv 7) (pa_cons (pv 4) (pa_cons (pv 5) pa_nil)))))) (pa_cons (pv 9) pa_nil))))))), ?_⟩
    refine ⟨_, rfl, _, rfl, _, rfl, _, rfl, _, rfl, a, b, ta, fa, N, B, R, as, bs, ts, fs, rfl, sc.hB, sc.hR, tk.at_, tk.tu, tk.good, tk.few, fk.at_, fk.tu, fk.good, fk.few, zN, sz.ne, sz.zB, sz.zR, fun rc H1 s1 frc hrc => ?_⟩
    obtain ⟨r, hr17, zr, zNr⟩ : ∃ r : Nat, (10 : Int) ^ (17 : Int).toNat + 3 = ((r : Nat) : Int) ∧ r ≤ 2 ^ 62 ∧ 3000 < r := ⟨100000000000000003, by decide, by decide, by decide⟩
    refine ⟨_, _, rfl, rfl, ⟨by decide, by decide, by decide⟩, _, _, rfl, rfl, .ref rc, .int (r : Nat), congrArg (fun z => [V.ref rc, V.int z]) hr17, ?_⟩
    have sc1 := sc.mono s1
    have tk1 := tk.mono s1
    have fk1 := fk.mono s1
    refine ⟨_, rfl, _, rfl, _, rfl, _, rfl, _, rfl, a, b, ta, rc, N, B, R, as, ts, _, rfl, sc1.hB, sc1.hR, tk1.at_, tk1.tu, hrc, zN, sz.ne, sz.zB, fun v H2 s2 hv => ?_⟩
    have hrc2 := hrc.mono s2
    have s12 := s1.trans s2
    have key : ∀ (t : Addr) (H3 : Hp), Same H H3 → Dp K H3 (.ref t) (ansD (kinds B R) N (ansOf B R ts (KM.roundG B R fs fun _ => 0) N r)) → (tCall (spAlike K) [] E0 (tCons (tCall (spTold K) [] E0 (tCons (tVar 0) (tCons (tVar 3) (tCons (tVar 7) (tCons (tVar 4) (tCons (tVar 5) tNil)))))) (tCons (tVar 9) tNil)))
        [some (.ref e), some (.ref a), some (.ref b), some (.ref ta), some (.ref fa), some (.int (N : Nat)), some (.ref rc), some (.int (r : Nat)), some v, some (.ref t)] H3 Q := fun t H3 s3 hd => by
      have sc3 := sc.mono s3
      refine ⟨_, rfl, _, rfl, _, rfl, _, rfl, _, rfl, e, ta, fa, r, N, B, R, as, bs, ts, fs, rfl, sc3.en, tk.mono s3, .inl (fk.mono s3), sz.ne, sz.zB, sz.zR, fk.few, zN, zr, sz.zk, fun t2 H5 s5 hd5 => ?_⟩
      exact ⟨_, rfl, t2, t, _, rfl, hd5, dp_same s5 hd, fine_ans sz.kd (Nat.le_of_lt sz.zk) tk.few fk.few zN zr, qq H5 (s3.trans s5)⟩
    have eA : ansOf B R ts (KM.roundG B R fs fun _ => 0) N r = match KM.findP (KM.paperB B R ts (KM.roundG B R fs fun _ => 0)) N with
      | none => Ans.many
      | some x => .told (KM.counted (KM.after B R ts (KM.roundG B R fs fun _ => 0)) x r) := if_neg (by omega)
    rw [eA] at key
    cases ef : KM.findP (KM.paperB B R ts (KM.roundG B R fs fun _ => 0)) N with
    | none =>
      rw [ef] at hv key
      have hv : v = .non := hv
      subst hv
      refine ⟨_, rfl, _, rfl, iteT ?_⟩
      exact ⟨_, rfl, by show 2 ≤ sizeLine; decide, fun t ht => key t _ (s12.trans (Same.new ht)) (.tup (SqT.of upd_same) (.cons (.str _) (.cons (.int _) .nil)))⟩
    | some x =>
      obtain ⟨l, n⟩ := x
      rw [ef] at hv key
      obtain ⟨h1, h2, _⟩ := KM.findP_some ef
      have h1 : l < n := h1
      have h2 : n ≤ N := h2
      obtain ⟨t0, bo, rfl, ht0, hbo⟩ := hv
      obtain ⟨ra, ma, rs, ms, k1, k2, k3, zrs, zms, hrs, hms⟩ := hrc2
      refine ⟨_, rfl, _, rfl, iteF ?_⟩
      refine ⟨_, rfl, rc, _, 0, .ref ra, rfl, rfl, SqT.of k1, at_ofA (j := 0) rfl rfl, _, rfl, _, rfl, ra, t0, bo, l, n, N, r, B, R, rs, KM.after B R ts (KM.roundG B R fs fun _ => 0), rfl, k2, ht0, zrs, hrs, h1, h2, zN, by omega, zr, sz.zk, fun dr H3 s3 hd3 => ?_⟩
      exact ⟨by show 2 ≤ sizeLine; decide, fun t ht => key t _ ((s12.trans s3).trans (Same.new ht)) (.tup (SqT.of upd_same) (.cons (.str _) (.cons (dp_same (Same.new ht) hd3) .nil)))⟩
end
end Ku

/-! KuM2 -/
set_option Elab.async false
set_option linter.all false
set_option maxRecDepth 100000
set_option maxHeartbeats 4000000
/-! Takes of one kind each: nobody meets, the first paper is told by the counts. -/
namespace KM
section
variable {K : Type} [DecidableEq K] {B R : List K}
theorem racing_one {g : K → Nat} {k : K} (h : k ∈ B) : ∃ p, racing B R g [k] = [(p, k)] := by
  obtain ⟨p, e⟩ := nth_block (R := R) h (g k)
  exact ⟨p, by simp [racing, e]⟩
theorem winner_one {g : K → Nat} {k : K} (h : k ∈ B) : winner B R g [k] = some k := by
  obtain ⟨p, e⟩ := racing_one (R := R) (g := g) h
  unfold winner
  rw [e]
  rfl
theorem step_one {g : K → Nat} {k : K} (h : k ∈ B) : stepG B R g [k] = fun x => if x = k then g x + 1 else g x := by
  unfold stepG
  rw [winner_one h]
theorem meets_one {g : K → Nat} {k : K} (h : k ∈ B) : meets B R g [k] = [] := by
  obtain ⟨p, e⟩ := racing_one (R := R) (g := g) h
  unfold meets
  rw [winner_one h, e]
  simp
theorem round_ones : ∀ (ks : List K) (g : K → Nat), ks.Nodup → (∀ k ∈ ks, k ∈ B) → roundG B R (ks.map fun k => [k]) g = fun x => if x ∈ ks then g x + 1 else g x
  | [], g, _, _ => by funext x; simp [roundG]
  | k :: r, g, nd, h => by
    have nd' := List.nodup_cons.mp nd
    show roundG B R (r.map fun k => [k]) (stepG B R g [k]) = _
    rw [step_one (h k (List.mem_cons_self ..)), round_ones r _ nd'.2 fun x hx => h x (List.mem_cons_of_mem _ hx)]
    funext x
    by_cases c : x = k
    · subst c
      rw [if_neg nd'.1, if_pos rfl, if_pos (List.mem_cons_self ..)]
    · by_cases c2 : x ∈ r
      · rw [if_pos c2, if_neg c, if_pos (List.mem_cons_of_mem _ c2)]
      · rw [if_neg c2, if_neg c, if_neg (fun m => by rcases List.mem_cons.mp m with m | m <;> contradiction)]
theorem roundM_ones : ∀ (ks : List K) (g : K → Nat), (∀ k ∈ ks, k ∈ B) → roundM B R (ks.map fun k => [k]) g = []
  | [], g, _ => rfl
  | k :: r, g, h => by
    show meets B R g [k] ++ roundM B R (r.map fun k => [k]) (stepG B R g [k]) = []
    rw [meets_one (h k (List.mem_cons_self ..)), roundM_ones r _ fun x hx => h x (List.mem_cons_of_mem _ hx)]
    rfl
theorem after_ones {ks : List K} (nd : ks.Nodup) (h : ∀ k ∈ ks, k ∈ B) : ∀ n, after B R (ks.map fun k => [k]) (fun _ => 0) n = fun x => if x ∈ ks then n else 0
  | 0 => by funext x; simp [after]
  | n + 1 => by
    show roundG B R (ks.map fun k => [k]) (after B R (ks.map fun k => [k]) (fun _ => 0) n) = _
    rw [after_ones nd h n, round_ones ks _ nd h]
    funext x
    by_cases c : x ∈ ks
    · simp only [if_pos c]
    · simp only [if_neg c]
theorem nth_pure {k : K} (h : k ∈ B) (i : Nat) : nth B [] k i = some (i / B.count k * B.length + (spots k B).getD (i % B.count k) 0) := by
  have h1 : spots k B ≠ [] := fun e => (spots_nil.mp e) h
  have h2 : (spots k ([] : List K)).length = 0 := by rw [spots_len]; rfl
  unfold nth
  rw [if_neg (by omega), if_neg h1, h2, spots_len]
  simp
theorem spot_inj {k : K} {i j : Nat} (hi : i < B.count k) (hj : j < B.count k) (e : (spots k B).getD i 0 = (spots k B).getD j 0) : i = j := by
  rw [← spots_len] at hi hj
  rw [List.getD_eq_getElem?_getD, List.getD_eq_getElem?_getD, List.getElem?_eq_getElem hi, List.getElem?_eq_getElem hj] at e
  have e' : (spots k B)[i] = (spots k B)[j] := e
  have a := (spots_get (List.getElem?_eq_getElem hi)).2
  have b := (spots_get (List.getElem?_eq_getElem hj)).2
  rw [e'] at a
  omega
theorem spot_lt {k : K} {i : Nat} (hi : i < B.count k) : (spots k B).getD i 0 < B.length := by
  rw [← spots_len] at hi
  rw [List.getD_eq_getElem?_getD, List.getElem?_eq_getElem hi]
  exact spots_lt (List.getElem?_eq_getElem hi)
theorem mod_dvd {c l n : Nat} (h : l ≤ n) : n % c = l % c ↔ c ∣ n - l := by
  constructor
  · intro e
    exact Nat.dvd_of_mod_eq_zero (Nat.sub_mod_eq_zero_of_mod_eq e)
  · rintro ⟨q, e⟩
    have e2 : n = l + c * q := by omega
    rw [e2, Nat.add_mul_mod_self_left]
/-- the kinds' counts have T as their common period -/
structure Per (B ks : List K) (T : Nat) : Prop where
  nd : ks.Nodup
  mem : ∀ k, k ∈ ks ↔ k ∈ B
  per : ∀ m, (∀ k ∈ ks, B.count k ∣ m) ↔ T ∣ m
  pos : 0 < T
variable {ks : List K} {T : Nat}
theorem plc_ones (p : Per B ks T) (n : Nat) {k : K} (h : k ∈ B) : plc B [] (after B [] (ks.map fun k => [k]) (fun _ => 0) n) k = n / B.count k * B.length + (spots k B).getD (n % B.count k) 0 := by
  unfold plc
  rw [after_ones p.nd (fun k hk => (p.mem k).mp hk) n]
  show (nth B [] k (if k ∈ ks then n else 0)).getD 0 = _
  rw [if_pos ((p.mem k).mpr h), nth_pure h]
  rfl
theorem whole_ones (p : Per B ks T) {l n : Nat} (hl : l ≤ n) : wholeB B [] (ks.map fun k => [k]) (fun _ => 0) l n = decide (T ∣ n - l) := by
  rw [Bool.eq_iff_iff, wholeB_iff, decide_eq_true_eq, ← p.per]
  have key : ∀ k ∈ B, (grown B [] (ks.map fun k => [k]) (fun _ => 0) l n k % (B.length : Int) = 0 ↔ B.count k ∣ n - l) := fun k hk => by
    have c0 : 0 < B.count k := List.count_pos_iff.mpr hk
    unfold grown
    rw [plc_ones p n hk, plc_ones p l hk, ← Int.emod_eq_emod_iff_emod_sub_eq_zero]
    have a := spot_lt (B := B) (k := k) (Nat.mod_lt n c0)
    have b := spot_lt (B := B) (k := k) (Nat.mod_lt l c0)
    have e : ∀ q r : Nat, r < B.length → ((q * B.length + r : Nat) : Int) % (B.length : Int) = (r : Int) := fun q r hr => by
      rw [← Int.natCast_emod, Nat.mul_comm, Nat.mul_add_mod, Nat.mod_eq_of_lt hr]
    rw [e _ _ a, e _ _ b, ← mod_dvd hl]
    constructor
    · intro h
      exact spot_inj (Nat.mod_lt n c0) (Nat.mod_lt l c0) (by omega)
    · intro h
      rw [h]
  constructor
  · intro h k hk
    exact (key k ((p.mem k).mp hk)).mp (h k ((p.mem k).mp hk))
  · intro h k hk
    exact (key k hk).mpr (h k ((p.mem k).mpr hk))
theorem paper_ones (p : Per B ks T) {l n : Nat} (hl : l ≤ n) : paperB B [] (ks.map fun k => [k]) (fun _ => 0) l n = decide (T ∣ n - l) := by
  unfold paperB
  have h1 : settled B [] (ks.map fun k => [k]) (after B [] (ks.map fun k => [k]) (fun _ => 0) l) = true := settled_iff.mpr fun s hs k hk q e => by
    obtain ⟨k', hk', rfl⟩ := List.mem_map.mp hs
    rw [List.mem_singleton] at hk
    subst hk
    exact ⟨(p.mem k).mp hk', Nat.zero_le _⟩
  have h2 : fairB B [] (ks.map fun k => [k]) (fun _ => 0) l n = true := fairB_iff.mpr fun j _ _ w x h => by
    rw [roundM_ones ks _ fun k hk => (p.mem k).mp hk] at h
    cases h
  rw [h1, h2, whole_ones p hl, Bool.true_and, Bool.and_true]
theorem find_ones (p : Per B ks T) (N : Nat) : findP (paperB B [] (ks.map fun k => [k]) (fun _ => 0)) N = if T ≤ N then some (0, T) else none := by
  have none_ : ∀ n, n < T → findP (paperB B [] (ks.map fun k => [k]) (fun _ => 0)) n = none := fun n hn => findP_none.mpr fun l m h1 h2 => by
    rw [paper_ones p (Nat.le_of_lt h1)]
    refine decide_eq_false fun h => ?_
    have := Nat.le_of_dvd (by omega) h
    omega
  split
  · rename_i c
    have hT := p.pos
    refine findP_ext (n := T) ?_ c
    obtain ⟨t, rfl⟩ : ∃ t, T = t + 1 := ⟨T - 1, by omega⟩
    unfold findP
    rw [none_ t (by omega)]
    have e : firstIn (fun l => paperB B [] (ks.map fun k => [k]) (fun _ => 0) l (t + 1)) (t + 1) = some 0 := by
      cases e : firstIn (fun l => paperB B [] (ks.map fun k => [k]) (fun _ => 0) l (t + 1)) (t + 1) with
      | none =>
        have := firstIn_none.mp e 0 (by omega)
        rw [paper_ones p (Nat.zero_le _)] at this
        exact absurd (Nat.dvd_refl _) (of_decide_eq_false this)
      | some m =>
        obtain ⟨_, _, h⟩ := firstIn_some e
        cases m with
        | zero => rfl
        | succ m =>
          have := h 0 (by omega)
          rw [paper_ones p (Nat.zero_le _)] at this
          exact absurd (Nat.dvd_refl _) (of_decide_eq_false this)
    rw [e]
    rfl
  · rename_i c
    exact none_ N (by omega)
theorem counted_ones (p : Per B ks T) (r : Nat) {k : K} (h : k ∈ ks) : counted (after B [] (ks.map fun k => [k]) (fun _ => 0)) (0, T) r k = (r : Int) := by
  have e : ∀ n, after B [] (ks.map fun k => [k]) (fun _ => 0) n k = n := fun n => by
    rw [after_ones p.nd (fun k hk => (p.mem k).mp hk) n]
    exact if_pos h
  unfold counted
  show ((after B [] (ks.map fun k => [k]) (fun _ => 0) (0 + (r - 0) % (T - 0)) k : Nat) : Int) + (((r - 0) / (T - 0) : Nat) : Int) * (((after B [] (ks.map fun k => [k]) (fun _ => 0) T k : Nat) : Int) - ((after B [] (ks.map fun k => [k]) (fun _ => 0) 0 k : Nat) : Int)) = _
  rw [e, e, e, Nat.zero_add, Nat.sub_zero, Nat.sub_zero]
  have := Nat.mod_add_div r T
  rw [show ((0 : Nat) : Int) = 0 from rfl, Int.sub_zero, ← Int.natCast_mul, ← Int.natCast_add, Nat.mul_comm (r / T) T, this]
end
end KM

/-! KuJ -/
set_option Elab.async false
set_option linter.all false
set_option maxRecDepth 100000
set_option maxHeartbeats 8000000
namespace Ku
open PySem PySem.Spec PyProof.Rows PySem.W L2 KuS Ku
open KuS KuD KuIt KuZ KuSd
theorem leK_of {x y : Str × Int} (h : dataLe false eK x y = true) (n : x.1 ≠ y.1) : leS x.1 y.1 = true := by
  rw [dataLe_eq] at h
  have h : (!dataLt (eK y) (eK x)) = true := h
  unfold eK at h
  rw [dataLt_pair rfl rfl] at h
  have e1 : PyData.eqv (.str y.1) (.str x.1) = false := by
    show decide _ = false
    exact decide_eq_false fun e => n e.symm
  have q := congrFun (congrFun dataLe_strs x.1) y.1
  rw [dataLe_eq] at q
  have q : (!dataLt (.str y.1) (.str x.1)) = leS x.1 y.1 := q
  rw [← q]
  rw [e1] at h
  simpa using h
theorem sorted_same {ks : List Str} (nd : ks.Nodup) (r : Int) : ((ks.map fun k => (k, r)).mergeSort (dataLe false eK)) = (kset ks).map fun k => (k, r) := by
  have pm := List.mergeSort_perm (ks.map fun k => (k, r)) (dataLe false eK)
  have pw : ((ks.map fun k => (k, r)).mergeSort (dataLe false eK)).Pairwise fun x y => dataLe false eK x y = true := sort_pairwise (sortLe_total _ false _) _
  generalize (ks.map fun k => (k, r)).mergeSort (dataLe false eK) = m at pm pw ⊢
  have pm1 : (m.map (·.1)).Perm ks := by
    have := pm.map (·.1)
    rw [List.map_map, show ((fun x : Str × Int => x.1) ∘ fun k : Str => (k, r)) = id from rfl, List.map_id] at this
    exact this
  have nd1 : (m.map (·.1)).Nodup := pm1.nodup_iff.mpr nd
  have pw1 : (m.map (·.1)).Pairwise fun x y => leS x y = true := by
    rw [List.pairwise_map]
    have nd2 := List.pairwise_map.mp nd1
    exact (pw.and nd2).imp fun h => leK_of h.1 h.2
  have e1 : m.map (·.1) = kset ks := srt_uniq (pm1.trans ((List.perm_ext_iff_of_nodup nd (ofS_nodup ks)).mpr fun x => ofS_mem.symm |>.trans Iff.rfl) |>.trans (srt_perm _).symm) pw1 (kset_pw ks)
  have e2 : ∀ x ∈ m, x.2 = r := fun x hx => by
    have := (pm.mem_iff).mp hx
    obtain ⟨k, _, rfl⟩ := List.mem_map.mp this
    rfl
  rw [← e1, List.map_map]
  refine (List.map_id m).symm.trans (List.map_congr_left fun x hx => ?_)
  show x = (x.1, r)
  rw [← e2 x hx]
/-! ### the answers of takes of one kind each -/
theorem kinds_ones {B ks : List Str} {T : Nat} (p : KM.Per B ks T) : kinds B [] = kset ks := kset_congr fun x => by rw [List.append_nil]; exact (p.mem x).symm
theorem due_same {ks : List Str} {f : Str → Int} {r : Int} (h : ∀ k ∈ ks, f k = r) : dueD ks f = dueD ks fun _ => r := by
  show PyData.list _ = PyData.list _
  refine congrArg PyData.list (List.map_congr_left fun k hk => ?_)
  rw [h k hk]
theorem ans_ones {B ks : List Str} {T : Nat} (p : KM.Per B ks T) (N r : Nat) : ansD (kinds B []) N (ansOf B [] (ks.map fun k => [k]) (fun _ => 0) N r) =
    if r ≤ N ∨ T ≤ N then .tuple [.str "told", dueD (kset ks) fun _ => (r : Int)] else .tuple [.str "many", .int (N : Nat)] := by
  unfold ansOf
  rw [KM.find_ones p, kinds_ones p]
  have mem : ∀ k ∈ kset ks, k ∈ ks := fun k hk => kset_mem.mp hk
  by_cases c : r ≤ N
  · rw [if_pos c, if_pos (Or.inl c)]
    show PyData.tuple [.str "told", dueD (kset ks) _] = _
    rw [due_same (r := (r : Int)) fun k hk => ?_]
    rw [KM.after_ones p.nd (fun k hk => (p.mem k).mp hk) r]
    show (((if k ∈ ks then r else 0 : Nat) : Nat) : Int) = r
    rw [if_pos (mem k hk)]
  · rw [if_neg c]
    by_cases c2 : T ≤ N
    · rw [if_pos c2, if_pos (Or.inr c2)]
      show PyData.tuple [.str "told", dueD (kset ks) _] = _
      rw [due_same (r := (r : Int)) fun k hk => KM.counted_ones p r (mem k hk)]
    · rw [if_neg c2, if_neg (by omega)]
      rfl
/-- three kinds in a block -/
theorem per3 {k0 k1 k2 : Str} {a b c T : Nat} {B : List Str} (nd : [k0, k1, k2].Nodup) (hB : B.Perm (List.replicate a k0 ++ List.replicate b k1 ++ List.replicate c k2)) (ha : 0 < a) (hb : 0 < b) (hc : 0 < c) (hT : 0 < T) (h : ∀ m, (a ∣ m ∧ b ∣ m ∧ c ∣ m) ↔ T ∣ m) : KM.Per B [k0, k1, k2] T := by
  have n01 : k0 ≠ k1 := fun e => by rw [e] at nd; simp at nd
  have n02 : k0 ≠ k2 := fun e => by rw [e] at nd; simp at nd
  have n12 : k1 ≠ k2 := fun e => by rw [e] at nd; simp at nd
  have c0 : B.count k0 = a := by
    rw [hB.count_eq]
    simp [List.count_append, List.count_replicate, n01.symm, n02.symm]
  have c1 : B.count k1 = b := by
    rw [hB.count_eq]
    simp [List.count_append, List.count_replicate, n01, n12.symm]
  have c2 : B.count k2 = c := by
    rw [hB.count_eq]
    simp [List.count_append, List.count_replicate, n02, n12]
  refine ⟨nd, fun k => ?_, fun m => ?_, hT⟩
  · rw [hB.mem_iff]
    simp only [List.mem_cons, List.not_mem_nil, or_false, List.mem_append, List.mem_replicate, ne_eq]
    constructor
    · rintro (e | e | e)
      · exact .inl (.inl ⟨by omega, e⟩)
      · exact .inl (.inr ⟨by omega, e⟩)
      · exact .inr ⟨by omega, e⟩
    · rintro ((⟨_, e⟩ | ⟨_, e⟩) | ⟨_, e⟩)
      · exact .inl e
      · exact .inr (.inl e)
      · exact .inr (.inr e)
  · rw [← h m]
    simp only [List.mem_cons, List.not_mem_nil, or_false, forall_eq_or_imp, forall_eq]
    rw [c0, c1, c2]
theorem lcm1 (m : Nat) : (9 ∣ m ∧ 11 ∣ m ∧ 19 ∣ m) ↔ 1881 ∣ m := by omega
theorem lcm2 (m : Nat) : (11 ∣ m ∧ 13 ∣ m ∧ 16 ∣ m) ↔ 2288 ∣ m := by omega
theorem lcm3 (m : Nat) : (7 ∣ m ∧ 8 ∣ m ∧ 5 ∣ m) ↔ 280 ∣ m := by omega
theorem lcm4 (m : Nat) : (7 ∣ m ∧ 8 ∣ m ∧ 9 ∣ m) ↔ 504 ∣ m := by omega
end Ku

/-! KuLo -/
set_option Elab.async false
set_option linter.all false
set_option maxRecDepth 100000
set_option maxHeartbeats 8000000
namespace Ku
open PySem PySem.Spec PyProof.Rows L2 KuS KuD KuIt KuZ KuSd
/-- [(x,) for x in ns] -/
theorem lc_tup1 {K : PySem.W.Frag} {a : Addr} {ns : List Str} {i : Nat} {te : TE} {vs : List Nat} {σ : L2.St} {H1 : Hp} {D : Addr} {Qd : Hp → Prop} (hn : ns.length ≤ 100000) (hD : H1 D = none) (hq : SqL K H1 a (ns.map V.str))
    (hw : ∀ x, wipe ((wipe σ vs).set i (some x)) vs = wipe σ vs)
    (hs : ∀ (x : Str) (H : Hp) (Q : VK), x ∈ ns → Same H1 H → (∀ p, H p = none → Q (.ref p) (upd H p (.tup [.str x]))) → te ((wipe σ vs).set i (some (.str x))) H Q)
    (hd : ∀ (H : Hp) (ps : List Addr), Same H1 H → H D = some (.lst (ps.map V.ref)) → Tups H ps (ns.map fun k => [k]) → Qd H) :
    ∃ W : Nat → Nat → Hp → Prop, (∃ m, W 0 m (upd H1 D (.lst []))) ∧ ∀ j m H, W j m H →
      ((Itl K a).stop j H ∧ Qd H) ∨ ((Itl K a).go j H ∧ ∃ Nx : Hp → Prop, (∀ H', Nx H' → ∃ m', m' < m ∧ W (j + 1) m' H') ∧ ∀ x H', (Itl K a).yld j H x H' → gName i x (wipe σ vs) H' fun σ2 H2 => wipe σ2 vs = wipe σ vs ∧ tYes σ2 H2 fun b H3 =>
        if b = true then te σ2 H3 fun y H4 => ∃ acc, H4 D = some (.lst acc) ∧ acc.length < sizeLine ∧ Nx (upd H4 D (.lst (acc ++ [y]))) else Nx H3) := by
  refine lc_list (K := K) (a := a) (xs := ns.map V.str) (fun j H => Same H1 H ∧ ∃ ps : List Addr, H D = some (.lst (ps.map V.ref)) ∧ Tups H ps ((ns.map fun k => [k]).take j)) ?_ ?_ ?_ ?_
  · exact ⟨Same.new hD, [], upd_same, .nil⟩
  · rintro j H _ ⟨s, _⟩
    exact s.seq hq
  · rintro j x H hx ⟨s, ps, hd', pp⟩
    obtain ⟨z, rfl, hz, hm⟩ := map_str_get hx
    have hj := (List.getElem?_eq_some_iff.mp hz).1
    refine ⟨hw _, ?_⟩
    show te _ _ _
    refine hs z _ _ hm s fun p hp => ?_
    have nDp := ne_of_none hd' hp
    refine ⟨_, by rw [upd_ne nDp]; exact hd', ?_, Same.mut (s.trans (Same.new hp)) hD, ps ++ [p], ?_, ?_⟩
    · rw [List.length_map, pp.len, List.length_take, List.length_map]
      exact Nat.lt_of_lt_of_le (show min j ns.length < 100000 by omega) (by decide)
    · rw [upd_same, List.map_append]; rfl
    · rw [List.take_add_one, List.getElem?_map, hz]
      refine Tups.snoc (pair_imp pp fun q x _ e => ?_) ?_
      · rw [upd_ne (ne_of e hd' (fun z => nomatch z)), upd_ne (ne_of_none e hp)]; exact e
      · rw [upd_ne (Ne.symm nDp)]; exact upd_same
  · rintro H ⟨s, ps, hd', pp⟩
    rw [List.length_map, List.take_of_length_le (by rw [List.length_map]; exact Nat.le_refl _)] at pp
    exact hd H ps s hd' pp
/-- [k0] * n0 + [k1] * n1 + [k2] * n2 -/
theorem blk_read {K : PySem.W.Frag} {σ : L2.St} {lk : Addr} {k0 k1 k2 : Str} {H : Hp} {n0 n1 n2 : Nat} (hσ : σ[1]? = some (some (.ref lk))) (hlk : H lk = some (.lst [.str k0, .str k1, .str k2])) (h : n0 + n1 + n2 ≤ 40) {Q : VK}
    (q : ∀ (p : Addr) (H' : Hp), Same H H' → H' p = some (.lst ((List.replicate n0 k0 ++ List.replicate n1 k1 ++ List.replicate n2 k2).map V.str)) → Q (.ref p) H') :
    tOp rCat (tOp rCat (tOp rRep (tLst (tCons (tOp (rIxL K) (tVar 1) (tC (.int 0))) tNil)) (tC (.int (n0 : Nat)))) (tOp rRep (tLst (tCons (tOp (rIxL K) (tVar 1) (tC (.int 1))) tNil)) (tC (.int (n1 : Nat))))) (tOp rRep (tLst (tCons (tOp (rIxL K) (tVar 1) (tC (.int 2))) tNil)) (tC (.int (n2 : Nat)))) σ H Q := by
  have sz : ∀ {n : Nat}, n ≤ 100 → n ≤ sizeLine := fun h => Nat.le_trans h (by decide)
  refine ⟨_, hσ, lk, _, 0, .str k0, rfl, rfl, SqL.of hlk, rfl, sz (by simp), fun p1 f1 => ?_⟩
  refine ⟨p1, (n0 : Int), _, rfl, rfl, upd_same, by omega, by omega, sz (by simp; omega), fun p2 f2 => ?_⟩
  refine ⟨_, hσ, lk, _, 1, .str k1, rfl, rfl, SqL.of (((Same.new f1).trans (Same.new f2)) _ _ hlk), rfl, sz (by simp), fun p3 f3 => ?_⟩
  refine ⟨p3, (n1 : Int), _, rfl, rfl, upd_same, by omega, by omega, sz (by simp; omega), fun p4 f4 => ?_⟩
  refine ⟨p2, p4, _, _, rfl, rfl, ((Same.new f3).trans (Same.new f4)) _ _ upd_same, upd_same, sz (by simp; omega), fun p5 f5 => ?_⟩
  refine ⟨_, hσ, lk, _, 2, .str k2, rfl, rfl, SqL.of (((((Same.new f1).trans (Same.new f2)).trans (Same.new f3)).trans (Same.new f4)).trans (Same.new f5) |> fun s => s _ _ hlk), rfl, sz (by simp), fun p6 f6 => ?_⟩
  refine ⟨p6, (n2 : Int), _, rfl, rfl, upd_same, by omega, by omega, sz (by simp; omega), fun p7 f7 => ?_⟩
  refine ⟨p5, p7, _, _, rfl, rfl, ((Same.new f6).trans (Same.new f7)) _ _ upd_same, upd_same, sz (by simp; omega), fun p8 f8 => ?_⟩
  refine q p8 _ ((((((((Same.new f1).trans (Same.new f2)).trans (Same.new f3)).trans (Same.new f4)).trans (Same.new f5)).trans (Same.new f6)).trans (Same.new f7)).trans (Same.new f8)) ?_
  rw [upd_same, Int.toNat_natCast, Int.toNat_natCast, Int.toNat_natCast, flat_one, flat_one, flat_one, List.map_append, List.map_append, List.map_replicate, List.map_replicate, List.map_replicate]
theorem nodup_le : ∀ {l m : List Str}, l.Nodup → (∀ x ∈ l, x ∈ m) → l.length ≤ m.length
  | [], m, _, _ => Nat.zero_le _
  | x :: r, m, nd, h => by
    have nd' := List.nodup_cons.mp nd
    have hx := h x (List.mem_cons_self ..)
    have ih := nodup_le (l := r) (m := m.erase x) nd'.2 fun y hy => (List.mem_erase_of_ne (fun e => nd'.1 (by rw [← e]; exact hy))).mpr (h y (List.mem_cons_of_mem _ hy))
    rw [List.length_erase_of_mem hx] at ih
    have : 0 < m.length := List.length_pos_of_mem hx
    rw [List.length_cons]
    omega
/-- Endless(..), made -/
theorem hist_read {K : PySem.W.Frag} {Hc : Hp} {B ks : List Str} {p8 p9 x dx : Addr} {R : Hp → Prop} {E : XK} (h8 : Hc p8 = some (.lst (B.map V.str))) (h9 : Hc p9 = some (.lst [])) (hx : Hc x = none) (hdx : Hc dx = none) (ndx : dx ≠ x) (hne : B ≠ []) (zB : B.length ≤ 40)
    (hm : ∀ k ∈ B, k ∈ ks) (zk : ks.length ≤ 8) (kd : ∀ k ∈ ks, Kd k) (q : ∀ H' : Hp, Same Hc H' → En K B [] H' x → R H') : spEnInit K [.ref x, .ref p8, .ref p9] (upd (upd Hc dx (.own x)) x (.ins (cE K) dx [])) (fun v H2 => v = .non ∧ R H2) E := by
  have hx' : upd Hc dx (.own x) x = none := by rw [upd_ne (Ne.symm ndx)]; exact hx
  have s1 := (Same.new (o := .own x) hdx).trans (Same.new (o := .ins (cE K) dx []) hx')
  refine ⟨x, dx, p8, p9, B, [], rfl, upd_same, s1 _ _ h8, s1 _ _ h9, hne, zB, Nat.zero_le _, fun k hk => kd k (hm k hk), fun k hk => by simp at hk, ?_, fun H' b' en _ => ⟨rfl, q H' (b'.over s1 fun a ha => by rw [List.mem_singleton.mp ha]; exact hx) en⟩⟩
  exact Nat.le_trans (nodup_le (kset_nodup B) fun k hk => hm k (kset_mem.mp hk)) zk
section
variable {P : Program} {w : World} {K : PySem.W.Frag} {mg : Str → Option Value} {base : Heap}
/-! ### _law_longest_right -/
def spLong : Sp := fun vs H Q _ => ∃ (G : Addr × List Int) (H0 : Hp) (b : Addr), vs = [.ref b] ∧ Bag G H0 H b ∧ ∀ H' : Hp, Q (.bl true) H'
abbrev nmLong : List Str := ["_law_bag_here", "_law_kinds_here", "_law_takes", "_law_due", "_law_history", "_law_bound", "_law_kind_here"]
theorem sc_law_longest_right : FnScope nmLong ["_law_bag_here"] (defScope s_law_longest_right) := fnScope_dec (by decide +kernel)
theorem cal_law_longest_right (Z : Say K mg) : CalG P w K mg base 7 "_law_longest_right" spLong := by
  obtain ⟨fd, F⟩ := Z.D_law_longest_right
  have cK : Cal P w K mg base 2 "_law_kinds" spKinds := cal_law_kinds Z
  have cM : Mak P w K mg base 3 "Endless" (cE K) (spEnInit K) := mak_Endless Z
  have cT : Cal P w K mg base 6 "_law_told" (spTold K) := cal_law_told Z
  have cA : CalG P w K mg base 1 "_law_alike" (spAlike K) := cal_law_alike Z
  refine ⟨_, fd, ["_law_bag_here"], fn_okG F sc_law_longest_right (fun vs H Q E h => ?_) (fun cdv A outer s H vs Q E hgu hr h => ?_), Z.g_law_longest_right, F.kp, F.bindsN fun _ _ _ _ _ _ us hl => match us, hl with | [_], _ => rfl⟩
  · obtain ⟨G, H0, b, rfl, _⟩ := h
    rfl
  · obtain ⟨G, H0, b, rfl, hB, qq⟩ := h
    have nd := sc_law_longest_right.nd
    have hu := hr.units
    refine ⟨_, pss_cons (ps_set (i := 1) nd rfl (Or.inl rfl) (pe_c cK hr (by decide) rfl (pa_cons (pv 0) (pa_cons pe_int pa_nil))))
      (pss_cons (ps_setLc (i := 2) (own := [("_law_kind_here", 6)]) (g := gName 6) (tt := tYes) rfl nd rfl rfl (sw_true rfl rfl rfl (by decide +kernel)) (pi_list (pv 1))
          (blkOk_by (N := nmLong) (sc := defScope s_law_longest_right) (by decide +kernel)) (fun _ _ _ _ _ => pg_name (i := 6) nd rfl (Or.inl rfl)) (fun _ _ _ _ _ => pts_nil) (fun _ _ _ _ _ => pe_tup (pa_cons (pv 6) pa_nil)))
      (pss_cons (ps_set (i := 3) nd rfl (Or.inl rfl) (pe_tup (pa_cons pe_str (pa_cons (pe_callB (cr_sortX eK alike_eK (fun b => ⟨_, _, rfl⟩) (fun b => by simp [PyData.depth, PyData.depthAll]) hu) rfl Z.f_sorted boot_sorted
          (pa_cons (pe_lc (own := [("_law_kind_here", 6)]) (g := gName 6) (tt := tYes) rfl nd (pi_list (pv 1)) (blkOk_by (N := nmLong) (sc := defScope s_law_longest_right) (by decide +kernel)) (fun _ _ _ _ _ => pg_name (i := 6) nd rfl (Or.inl rfl)) (fun _ _ _ _ _ => pts_nil)
            (fun _ _ _ _ _ => pe_tup (pa_cons (pv 6) (pa_cons (pe_op op_pow pe_int pe_int) pa_nil)))) pa_nil)) pa_nil))))
      (pss_cons (ps_set (i := 4) nd rfl (Or.inl rfl) (pe_mk cM hr (by decide) rfl (pa_cons (pe_op op_cat (pe_op op_cat (pe_op op_rep (pe_lst (pa_cons (pe_ix ix_list (pv 1) pe_int (fun _ _ => rfl)) pa_nil)) pe_int) (pe_op op_rep (pe_lst (pa_cons (pe_ix ix_list (pv 1) pe_int (fun _ _ => rfl)) pa_nil)) pe_int)) (pe_op op_rep (pe_lst (pa_cons (pe_ix ix_list (pv 1) pe_int (fun _ _ => rfl)) pa_nil)) pe_int)) (pa_cons (pe_lst pa_nil) pa_nil))))
      (pss_cons (ps_for PassesOwn.never rfl (pi_tup (pe_tup (pa_cons pe_int (pa_cons pe_int (pa_cons pe_int pa_nil))))) (pg_name (i := 5) nd rfl (Or.inl rfl))
          (pss_cons (ps_if (pt_cmpR op_eq (pv 5) pe_int (nomark _)) (pss_one (ps_set (i := 3) nd rfl (Or.inl rfl) (pe_tup (pa_cons pe_str (pa_cons pe_int pa_nil))))) pss_nil)
          (pss_one (ps_if (pt_not (pt_val (pe_cG cA hgu hr (by decide) rfl (pa_cons (pe_c cT hr (by decide) rfl (pa_cons (pv 4) (pa_cons (pv 2) (pa_cons (pe_op op_pow pe_int pe_int) (pa_cons (pe_lst pa_nil) (pa_cons (pv 5) pa_nil)))))) (pa_cons (pv 3) pa_nil))))) (pss_one (ps_ret pe_bl)) pss_nil))))
      (pss_cons (ps_set (i := 4) nd rfl (Or.inl rfl) (pe_mk cM hr (by decide) rfl (pa_cons (pe_op op_cat (pe_op op_cat (pe_op op_rep (pe_lst (pa_cons (pe_ix ix_list (pv 1) pe_int (fun _ _ => rfl)) pa_nil)) pe_int) (pe_op op_rep (pe_lst (pa_cons (pe_ix ix_list (pv 1) pe_int (fun _ _ => rfl)) pa_nil)) pe_int)) (pe_op op_rep (pe_lst (pa_cons (pe_ix ix_list (pv 1) pe_int (fun _ _ => rfl)) pa_nil)) pe_int)) (pa_cons (pe_lst pa_nil) pa_nil))))
      (pss_one (ps_ret (pe_cmpR (op_eqD hu) (pe_c cT hr (by decide) rfl (pa_cons (pv 4) (pa_cons (pv 2) (pa_cons (pe_op op_pow pe_int pe_int) (pa_cons (pe_lst pa_nil) (pa_cons pe_int pa_nil)))))) (pe_tup (pa_cons pe_str (pa_cons pe_int pa_nil))) (nomark _))))))))), ?_⟩
    have sz : ∀ {n : Nat}, n ≤ 100 → n ≤ sizeLine := fun h => Nat.le_trans h (by decide)
    refine ⟨_, rfl, G, H0, b, 3, rfl, hB, by decide, by decide, fun lk ks H1 Ha s1 Ba gk _ hlk => ?_⟩
    obtain ⟨k0, k1, k2, rfl⟩ : ∃ k0 k1 k2, ks = [k0, k1, k2] := by
      have h := gk.len
      match ks, h with
      | [a, b, c], _ => exact ⟨a, b, c, rfl⟩
    have hlk := Ba.le _ _ hlk
    clear hB s1 Ba
    -- the takes
    refine ⟨_, rfl, lk, rfl, ⟨_, SqL.of hlk⟩, fun D hD => ?_⟩
    refine lc_tup1 (K := K) (a := lk) (ns := [k0, k1, k2]) (by simp) hD (SqL.of hlk) (fun _ => rfl) ?_ ?_
    · intro x H' Q' hx s' q'
      exact ⟨_, rfl, by show 1 ≤ sizeLine; decide, q'⟩
    intro H2 as s2 hD2 tu2
    have hlk2 := s2 _ _ hlk
    -- what is due
    obtain ⟨r, e18, zr, zNr⟩ : ∃ r : Nat, (10 : Int) ^ (18 : Int).toNat = ((r : Nat) : Int) ∧ r ≤ 2 ^ 62 ∧ 3000 < r := ⟨1000000000000000000, by decide, by decide, by decide⟩
    refine ⟨_, rfl, lk, rfl, ⟨_, SqL.of hlk2⟩, fun D2 hD2' => ?_⟩
    refine lc_pairs (K := K) (a := lk) (ns := [k0, k1, k2]) (fun _ => .int (r : Nat)) (by simp) hD2' (SqL.of hlk2) (fun _ => rfl) ?_ ?_
    · intro x H' Q' hx s' q'
      rw [← e18] at q'
      exact ⟨_, rfl, _, _, rfl, rfl, ⟨by decide, by decide, by decide⟩, by show 2 ≤ sizeLine; decide, q'⟩
    intro H3 ps s3 hD3 pp3
    have dall : ∀ {l1 : List Addr} {m1 : List Str}, Paired (fun p x => H3 p = some (.tup [.str x, .int (r : Nat)])) l1 m1 → DpAll K H3 (l1.map V.ref) ((m1.map fun k => (k, ((r : Nat) : Int))).map eK) := by
      intro l1 m1 h
      induction h with
      | nil => exact .nil
      | cons h1 _ ih => exact .cons (.tup (SqT.of h1) (.cons (.str _) (.cons (.int _) .nil))) ih
    refine ⟨D2, _, [k0, k1, k2].map fun k => (k, ((r : Nat) : Int)), rfl, SqL.of hD3, dall pp3, fun out p hout hp => ⟨by show 2 ≤ sizeLine; decide, fun dt hdt => ?_⟩⟩
    rw [sorted_same gk.nd, List.map_map] at hout
    have s4 := (Same.new (o := .lst out) hp).trans (Same.new (o := .tup [.str "told", .ref p]) hdt)
    have hdue : Dp K (upd (upd H3 p (.lst out)) dt (.tup [.str "told", .ref p])) (.ref dt) (.tuple [.str "told", dueD (kset [k0, k1, k2]) fun _ => ((r : Nat) : Int)]) :=
      .tup (SqT.of upd_same) (.cons (.str _) (.cons (.lst (SqL.of ((Same.new (o := .tup [.str "told", .ref p]) hdt) _ _ upd_same)) (dpa_same s4 hout)) .nil))
    have s34 := s3.trans s4
    have hlk4 := s34 _ _ hlk2
    have htk4 := s34 _ _ hD2
    have htu4 := tu2.mono fun a xs e => s34 _ _ e
    generalize upd (upd H3 p (.lst out)) dt (.tup [.str "told", .ref p]) = H4 at hdue hlk4 htk4 htu4 ⊢
    clear s4 s34 s3 s2
    have mB : ∀ {a b c : Nat}, ∀ k ∈ List.replicate a k0 ++ List.replicate b k1 ++ List.replicate c k2, k ∈ [k0, k1, k2] := fun {a b c} k hk => by
      simp only [List.mem_append, List.mem_replicate] at hk
      simp only [List.mem_cons, List.not_mem_nil, or_false]
      rcases hk with (h | h) | h
      · exact .inl h.2
      · exact .inr (.inl h.2)
      · exact .inr (.inr h.2)
    refine blk_read (n0 := 9) (n1 := 11) (n2 := 19) rfl hlk4 (by decide) fun p8 H5 s5 hp8 => ?_
    refine ⟨by show 0 ≤ sizeLine; decide, fun p9 f9 => fun x dx hx hdx ndx => ?_⟩
    refine hist_read (ks := [k0, k1, k2]) ((Same.new f9) _ _ hp8) upd_same hx hdx ndx (by simp) (by simp) mB (by simp) gk.kd fun H6 s6 en6 => ?_
    have s46 := (s5.trans (Same.new f9)).trans s6
    have hlk6 := s46 _ _ hlk4
    have hdue6 := dp_same s46 hdue
    have htk6 := s46 _ _ htk4
    have htu6 := htu4.mono fun a xs e => s46 _ _ e
    clear s46 s6 s5 f9 hp8 hx hdx hdue htu4 htk4 hlk4
    have gts : GoodTs ([k0, k1, k2].map fun k => [k]) := fun s hs => by
      obtain ⟨k, hk, rfl⟩ := List.mem_map.mp hs
      exact ⟨by simp, by simp, fun z hz => by rw [List.mem_singleton.mp hz]; exact gk.kd k hk⟩
    have tk6 : Tk H6 D as ([k0, k1, k2].map fun k => [k]) := ⟨htk6, htu6, gts, by simp⟩
    -- told, asked at any time
    have ask : ∀ {a b c T N : Nat} {xe : Addr} {Hc : Hp} {fa : Addr} {R : VK} {E : XK}, (h : (∀ m, (a ∣ m ∧ b ∣ m ∧ c ∣ m) ↔ T ∣ m)) → 0 < a → 0 < b → 0 < c → 0 < T → a + b + c ≤ 40 → N ≤ 3000 → Same H6 Hc → En K (List.replicate a k0 ++ List.replicate b k1 ++ List.replicate c k2) [] Hc xe → Hc fa = some (.lst []) →
        (∀ (t : Addr) (H' : Hp), Same Hc H' → Dp K H' (.ref t) (if T ≤ N then .tuple [.str "told", dueD (kset [k0, k1, k2]) fun _ => ((r : Nat) : Int)] else .tuple [.str "many", .int (N : Nat)]) → R (.ref t) H') →
        spTold K [.ref xe, .ref D, .int (r : Nat), .ref fa, .int (N : Nat)] Hc R E := fun {a b c T N xe Hc fa R E} h ha hb hc hT hs hN s en hfa q => by
      have p := per3 (B := List.replicate a k0 ++ List.replicate b k1 ++ List.replicate c k2) gk.nd (List.Perm.refl _) ha hb hc hT h
      refine ⟨xe, D, fa, r, N, _, [], as, [], [k0, k1, k2].map fun k => [k], [], rfl, en, tk6.mono s, .inl ⟨hfa, .nil, fun s hs => by simp at hs, by simp⟩, ?_, ?_, by simp, by simp, hN, zr, ?_, fun t H' s' hd => q t H' s' ?_⟩
      · intro e
        have := congrArg List.length e
        simp at this
        omega
      · simp only [List.length_append, List.length_replicate]
        omega
      · rw [kinds_ones p]
        exact Nat.lt_of_le_of_lt (kset_len _) (by simp)
      · have e := ans_ones p N r
        have hd : Dp K H' (.ref t) (ansD (kinds (List.replicate a k0 ++ List.replicate b k1 ++ List.replicate c k2) []) N (ansOf (List.replicate a k0 ++ List.replicate b k1 ++ List.replicate c k2) [] ([k0, k1, k2].map fun k => [k]) (fun _ => 0) N r)) := hd
        rw [e] at hd
        by_cases cT : T ≤ N
        · rw [if_pos (Or.inr cT)] at hd; rw [if_pos cT]; exact hd
        · rw [if_neg (by omega)] at hd; rw [if_neg cT]; exact hd
    refine ⟨by show 3 ≤ sizeLine; decide, fun tt htt => ⟨tt, rfl, ⟨_, SqT.of upd_same⟩, ?_⟩⟩
    have s67 := Same.new (o := .tup [.int 2000, .int 1881, .int 1880]) htt
    have htt7 : upd H6 tt (.tup [.int 2000, .int 1881, .int 1880]) tt = some (.tup [.int 2000, .int 1881, .int 1880]) := upd_same
    generalize upd H6 tt (.tup [.int 2000, .int 1881, .int 1880]) = H7 at s67 htt7 ⊢
    refine for_tup (K := K) (a := tt) (xs := [.int 2000, .int 1881, .int 1880]) (fun i σ H' => Same H7 H' ∧ ∃ (du : Addr) (v5 : Option V), σ = [some (.ref b), some (.ref lk), some (.ref D), some (.ref du), some (.ref x), v5, none] ∧
        (i ≤ 2 → Dp K H' (.ref du) (.tuple [.str "told", dueD (kset [k0, k1, k2]) fun _ => ((r : Nat) : Int)])))
      ⟨Same.refl _, dt, _, rfl, fun _ => dp_same s67 hdue6⟩ (fun i σ H' _ h => SqT.of (h.1 _ _ htt7)) ?_ ?_
    · rintro i y σ H8 hy ⟨s8, du, v5, rfl, hd8⟩
      have hi : i < 3 := (List.getElem?_eq_some_iff.mp hy).1
      obtain ⟨N, rfl, zN, hN⟩ : ∃ N : Nat, y = .int (N : Nat) ∧ N ≤ 3000 ∧ ((N = 1880 ∧ i = 2) ∨ (1881 ≤ N ∧ i ≤ 1)) := by
        match i, hi, hy with
        | 0, _, hy => cases hy; exact ⟨2000, rfl, by omega, by omega⟩
        | 1, _, hy => cases hy; exact ⟨1881, rfl, by omega, by omega⟩
        | 2, _, hy => cases hy; exact ⟨1880, rfl, by omega, by omega⟩
      have s68 := s67.trans s8
      have zK : (kset [k0, k1, k2]).length ≤ 64 := Nat.le_trans (kset_len _) (by simp)
      have small : ∀ k ∈ kset [k0, k1, k2], Txt8 k ∧ ((r : Nat) : Int).natAbs < 2 ^ 100 := fun k hk => ⟨kd_txt (gk.kd k (kset_mem.mp hk)), by
        rw [Int.natAbs_natCast]
        exact Nat.lt_of_le_of_lt zr (by decide)⟩
      refine ⟨_, rfl, rfl, _, rfl, ?_⟩
      rcases hN with ⟨rfl, rfl⟩ | ⟨h1, h2⟩
      · refine iteTe (decide_eq_true rfl) ⟨by show 2 ≤ sizeLine; decide, fun t2 ht2 => ?_⟩
        have s9 := Same.new (o := .tup [.str "many", .int (1880 : Nat)]) ht2
        refine ⟨_, rfl, _, rfl, _, _, rfl, rfl, ⟨by decide, by decide, by decide⟩, by show 0 ≤ sizeLine; decide, fun fa hfa => ⟨_, rfl, ?_⟩⟩
        have s10 := Same.new (o := .lst []) hfa
        simp only [e18, tNil, List.nil_append, List.append_nil, List.cons_append]
        refine ask (a := 9) (b := 11) (c := 19) (T := 1881) (N := 1880) lcm1 (by decide) (by decide) (by decide) (by decide) (by decide) (by decide) ((s68.trans s9).trans s10) (en6.mono ((s68.trans s9).trans s10)) upd_same fun t H' s' hd => ?_
        rw [if_neg (by decide)] at hd
        refine ⟨_, rfl, t, t2, _, rfl, hd, .tup (SqT.of (s' _ _ (s10 _ _ upd_same))) (.cons (.str _) (.cons (.int _) .nil)), fine_many (by decide), _, rfl, ?_⟩
        exact iteF ⟨((s8.trans s9).trans s10).trans s', t2, _, rfl, fun h => absurd h (by omega)⟩
      · have hne : decide (V.int ((N : Nat) : Int) = V.int 1880) = false := decide_eq_false fun h => by
          have := V.int.inj h
          omega
        refine iteFe hne ?_
        refine ⟨_, rfl, _, rfl, _, _, rfl, rfl, ⟨by decide, by decide, by decide⟩, by show 0 ≤ sizeLine; decide, fun fa hfa => ⟨_, rfl, ?_⟩⟩
        have s10 := Same.new (o := .lst []) hfa
        simp only [e18, tNil, List.nil_append, List.append_nil, List.cons_append]
        refine ask (a := 9) (b := 11) (c := 19) (T := 1881) lcm1 (by decide) (by decide) (by decide) (by decide) (by decide) zN (s68.trans s10) (en6.mono (s68.trans s10)) upd_same fun t H' s' hd => ?_
        rw [if_pos h1] at hd
        have d0 := dp_same (s10.trans s') (hd8 (by omega))
        refine ⟨_, rfl, t, du, _, rfl, hd, d0, fine_told zK small, _, rfl, ?_⟩
        exact iteF ⟨(s8.trans s10).trans s', du, _, rfl, fun _ => d0⟩
    · rintro σ H8 ⟨s8, du, v5, rfl, _⟩
      have s68 := s67.trans s8
      refine blk_read (n0 := 11) (n1 := 13) (n2 := 16) rfl (s68 _ _ hlk6) (by decide) fun p8 H9 s9 hp8 => ?_
      refine ⟨by show 0 ≤ sizeLine; decide, fun p9 f9 => fun x2 dx2 hx2 hdx2 ndx2 => ?_⟩
      refine hist_read (ks := [k0, k1, k2]) ((Same.new f9) _ _ hp8) upd_same hx2 hdx2 ndx2 (by simp) (by simp) mB (by simp) gk.kd fun H10 s10 en10 => ?_
      have s610 := ((s68.trans s9).trans (Same.new f9)).trans s10
      refine ⟨_, rfl, _, rfl, _, _, rfl, rfl, ⟨by decide, by decide, by decide⟩, by show 0 ≤ sizeLine; decide, fun fa hfa => ?_⟩
      have s11 := Same.new (o := .lst []) hfa
      simp only [e18, tNil, tCons, tC, List.nil_append, List.append_nil, List.cons_append]
      refine ask (a := 11) (b := 13) (c := 16) (T := 2288) (N := 2000) lcm2 (by decide) (by decide) (by decide) (by decide) (by decide) (by decide) (s610.trans s11) (en10.mono s11) upd_same fun t H' s' hd => ?_
      rw [if_neg (by decide)] at hd
      refine ⟨by show 2 ≤ sizeLine; decide, fun t2 ht2 => ?_⟩
      have fi := fine_many (N := 2000) (by decide)
      refine ⟨_, _, dp_same (Same.new ht2) hd, .tup (SqT.of upd_same) (.cons (.str _) (.cons (.int _) .nil)), fi.sh, fi.sh, ?_⟩
      have e : PyData.eqv (.tuple [.str "many", .int ((2000 : Nat) : Int)]) (.tuple [.str "many", .int 2000]) = true := eqv_refl _ fi.nd
      rw [e]
      exact qq _
end
end Ku

/-! KuSl -/
set_option Elab.async false
set_option linter.all false
set_option maxRecDepth 100000
set_option maxHeartbeats 8000000
namespace Ku
open PySem PySem.Spec PyProof.Rows L2 KuS KuD KuIt KuZ KuSd
theorem ansOf_told {B ks : List Str} {T : Nat} (p : KM.Per B ks T) {N r : Nat} (h : r ≤ N ∨ T ≤ N) : ∃ f : Str → Int, ansOf B [] (ks.map fun k => [k]) (fun _ => 0) N r = .told f ∧ ∀ k ∈ kset ks, f k = r := by
  have mem : ∀ k ∈ kset ks, k ∈ ks := fun k hk => kset_mem.mp hk
  unfold ansOf
  by_cases c : r ≤ N
  · rw [if_pos c]
    refine ⟨_, rfl, fun k hk => ?_⟩
    rw [KM.after_ones p.nd (fun k hk => (p.mem k).mp hk) r]
    show (((if k ∈ ks then r else 0 : Nat) : Nat) : Int) = r
    rw [if_pos (mem k hk)]
  · rw [if_neg c, KM.find_ones p, if_pos (by omega)]
    exact ⟨_, rfl, fun k hk => KM.counted_ones p r (mem k hk)⟩
theorem ansOf_many {B ks : List Str} {T : Nat} (p : KM.Per B ks T) {N r : Nat} (h1 : N < r) (h2 : N < T) : ansOf B [] (ks.map fun k => [k]) (fun _ => 0) N r = .many := by
  unfold ansOf
  rw [if_neg (by omega), KM.find_ones p, if_neg (by omega)]
theorem Bag.same {G : Addr × List Int} {H0 H H' : Hp} {b : Addr} (B : Bag G H0 H b) (s : Same H H') : Bag G H0 H' b := by
  obtain ⟨x, y, z, hb, h2⟩ := B.at_
  exact ⟨B.le.trans s, B.no, B.cl, B.nn, x, y, z, s _ _ hb, h2⟩
theorem fine_due {ks : List Str} {f : Str → Int} (hk : ks.length ≤ 64) (h : ∀ k ∈ ks, Txt8 k ∧ (f k).natAbs < 2 ^ 100) : Fine (dueD ks f) := by
  obtain ⟨h1, h2, h3, h4, h5, h6⟩ := due_facts f ks h
  refine fine_of ?_ ?_ ?_ ?_ ?_ ?_
  · rw [PyData.canLay0]; exact h1
  · rw [PyData.showable]; exact h2
  · rw [PyData.hasDict]; exact h3
  · show PyData.depthAll (ks.map fun k => eK (k, f k)) + 1 ≤ 20
    omega
  · rw [PyData.leavesShort]; exact h5
  · show PyData.weightAll (ks.map fun k => eK (k, f k)) ≤ 9000
    omega
theorem op_neDK {X : Cx} (K : PySem.W.Frag) (hu : X.A.units + 64 < cLine) (h : X.K = K := by rfl) : OpR X (compareOp .NotEq) (rNeD K) := by
  subst h
  exact op_neD hu
section
variable {P : Program} {w : World} {K : PySem.W.Frag} {mg : Str → Option Value} {base : Heap}
/-! ### _law_slow_right -/
theorem binds_removed {fd : FuncData} (F : FunD K d_removed.name d_removed.qual d_removed.params d_removed.body d_removed.scope (d_removed.dvs K) (d_removed.kws K) (He.fAd K d_removed.at_) fd) :
    ∃ ds, Vals [V.ref (kwFirst K), V.int 400] ds ∧ Binds K fd psRem ds := by
  refine FunD.binds0 F 3 (fun h => by cases h) rfl fun D doc pm an cdv ct us ks l1 l2 => ?_
  match us, l1, ks, l2 with
  | [u1, u2, u3], _, [k1, k2], _ => exact ⟨_, _, _, _, _, _, rfl, rfl, _, _, _, _, _, _, rfl, rfl, rfl⟩
def spSlowR : Sp := fun vs H Q _ => ∃ (G : Addr × List Int) (H0 : Hp) (b : Addr), vs = [.ref b] ∧ Bag G H0 H b ∧ ∀ H' : Hp, Q (.bl true) H'
abbrev nmSlowR : List Str := ["_law_bag_here", "_law_last", "_law_rounds", "_law_kinds_here", "_law_block", "_law_takes", "_law_due", "e", "_law_kind_here"]
theorem sc_law_slow_right : FnScope nmSlowR ["_law_bag_here"] (defScope s_law_slow_right) := fnScope_dec (by decide +kernel)
theorem cal_law_slow_right (Z : Say K mg) : Cal P w K mg base 6 "_law_slow_right" spSlowR := by
  obtain ⟨fd, F⟩ := Z.D_law_slow_right
  obtain ⟨fr, FR⟩ := Z.D_removed
  have okR := ok_removed (P := P) (w := w) (base := base) Z FR
  obtain ⟨ds, vds, bR⟩ := binds_removed FR
  have cS : Cal P w K mg base 3 "_law_slow_scene" spSlow := cal_law_slow_scene Z
  have cM : Mak P w K mg base 3 "Endless" (cE K) (spEnInit K) := mak_Endless Z
  refine ⟨_, fd, ["_law_bag_here"], fn_ok F sc_law_slow_right (fun vs H Q E h => ?_) (fun cdv A outer s H vs Q E hr h => ?_), Z.g_law_slow_right, F.kp, F.bindsN fun _ _ _ _ _ _ us hl => match us, hl with | [_], _ => rfl⟩
  · obtain ⟨G, H0, b, rfl, _⟩ := h
    rfl
  · obtain ⟨G, H0, b, rfl, hB, qq⟩ := h
    have nd := sc_law_slow_right.nd
    have hu := hr.units
    refine ⟨_, pss_cons (ps_for PassesOwn.never rfl (pi_list (pe_lst (pa_cons (pe_tup (pa_cons pe_int (pa_cons pe_int pa_nil))) (pa_cons (pe_tup (pa_cons pe_int (pa_cons (pe_op op_pow pe_int pe_int) pa_nil))) (pa_cons (pe_tup (pa_cons pe_int (pa_cons pe_int pa_nil))) (pa_cons (pe_tup (pa_cons pe_int (pa_cons pe_int pa_nil))) (pa_cons (pe_tup (pa_cons pe_int (pa_cons (pe_op op_pow pe_int pe_int) pa_nil))) pa_nil)))))))
          (pg_tup rfl (pgs_cons (pg_name (i := 1) nd rfl (Or.inl rfl)) (pgs_cons (pg_name (i := 2) nd rfl (Or.inr rfl)) pgs_nil)))
        (pss_cons (ps_asg (pe_c cS hr (by decide) rfl (pa_cons (pv 0) (pa_cons (pv 1) pa_nil))) (pg_tup rfl (pgs_cons (pg_name (i := 3) nd rfl (Or.inl rfl)) (pgs_cons (pg_name (i := 4) nd rfl (Or.inl rfl)) (pgs_cons (pg_name (i := 5) nd rfl (Or.inl rfl)) pgs_nil)))))
        (pss_cons (ps_set (i := 6) nd rfl (Or.inl rfl) (pe_callB (cr_sortX eK alike_eK (fun b => ⟨_, _, rfl⟩) (fun b => by simp [PyData.depth, PyData.depthAll]) hu) rfl Z.f_sorted boot_sorted
          (pa_cons (pe_lc (own := [("_law_kind_here", 8)]) (g := gName 8) (tt := tYes) rfl nd (pi_list (pv 3)) (blkOk_by (N := nmSlowR) (sc := defScope s_law_slow_right) (by decide +kernel)) (fun _ _ _ _ _ => pg_name (i := 8) nd rfl (Or.inl rfl)) (fun _ _ _ _ _ => pts_nil)
            (fun _ _ _ _ _ => pe_tup (pa_cons (pv 8) (pa_cons (pv 2) pa_nil)))) pa_nil)))
        (pss_one (ps_try_as (i := 7) (Wout := fun _ _ _ _ => False) rfl rfl nd rfl rfl ⟨rfl, by decide, Or.inl Z.g_TooMany⟩ takes0
          (fun W pn xe tk _ => pss_one (ps_if (PW.pt (pw_or (pt_cmpR (op_neDK K hu) (pe_callSD okR hr rfl Z.g_removed FR.kp bR vds (fun σ => passAt tk σ) (pa_cons (pe_mk cM hr (by decide) rfl (pa_cons (pv 4) (pa_cons (pe_lst pa_nil) pa_nil))) (pa_cons (pv 5) (pa_cons (pv 2) pa_nil)))) (pv 6) (nomark _))
              (pw_or1 (PW.pt (pw_and (pt_cmpR op_eq (pv 1) pe_int (nomark _)) (pw_and1 (pt_cmpR op_gt (pv 2) pe_int (nomark _)))))))) (pss_one (ps_ret pe_bl)) pss_nil))
          (fun a oe cls d pn hz hf => pss_one (ps_if (PW.pt (pw_or (pt_cmpR op_ne (pe_xf Z.x_xf Z.x_li hz hf (pv 7)) pe_int (nomark _)) (pw_or (pt_cmpR op_eq (pv 1) pe_int (nomark _)) (pw_or1 (pt_cmpR op_eq (pv 2) pe_int (nomark _)))))) (pss_one (ps_ret pe_bl)) pss_nil)))))))
      (pss_one (ps_ret pe_bl)), ?_⟩
    have s2z : (2 : Nat) ≤ sizeLine := by decide
    obtain ⟨r18, e18, zr18, zNr18⟩ : ∃ r : Nat, (10 : Int) ^ (18 : Int).toNat = ((r : Nat) : Int) ∧ r ≤ 2 ^ 62 ∧ 3000 < r := ⟨1000000000000000000, by decide, by decide, by decide⟩
    refine ⟨s2z, fun t1 f1 => ⟨_, _, rfl, rfl, ⟨by decide, by decide, by decide⟩, s2z, fun t2 f2 => ⟨s2z, fun t3 f3 => ⟨s2z, fun t4 f4 => ⟨_, _, rfl, rfl, ⟨by decide, by decide, by decide⟩, s2z, fun t5 f5 => ⟨by show 5 ≤ sizeLine; decide, fun l hl => ⟨l, rfl, ⟨_, SqL.of upd_same⟩, ?_⟩⟩⟩⟩⟩⟩⟩
    simp only [e18] at f3 f4 f5 hl ⊢
    have B6 := (((((hB.new f1).new f2).new f3).new f4).new f5).new (o := .lst [.ref t1, .ref t2, .ref t3, .ref t4, .ref t5]) hl
    have g1 := (Same.new (o := .tup [.int 5, .int r18]) f2) t1 _ (upd_same (H := H) (a := t1) (o := .tup [.int 5, .int 401]))
    have g2 : upd (upd H t1 (.tup [.int 5, .int 401])) t2 (.tup [.int 5, .int r18]) t2 = _ := upd_same
    have s3 := Same.new (o := .tup [.int 9, .int 400]) f3
    have g3 : upd (upd (upd H t1 (.tup [.int 5, .int 401])) t2 (.tup [.int 5, .int r18])) t3 (.tup [.int 9, .int 400]) t3 = _ := upd_same
    have s4 := Same.new (o := .tup [.int 9, .int 401]) f4
    have g4 : upd (upd (upd (upd H t1 (.tup [.int 5, .int 401])) t2 (.tup [.int 5, .int r18])) t3 (.tup [.int 9, .int 400])) t4 (.tup [.int 9, .int 401]) t4 = _ := upd_same
    have s5 := Same.new (o := .tup [.int 9, .int r18]) f5
    have g5 : upd (upd (upd (upd (upd H t1 (.tup [.int 5, .int 401])) t2 (.tup [.int 5, .int r18])) t3 (.tup [.int 9, .int 400])) t4 (.tup [.int 9, .int 401])) t5 (.tup [.int 9, .int r18]) t5 = _ := upd_same
    have s6 := Same.new (o := .lst [.ref t1, .ref t2, .ref t3, .ref t4, .ref t5]) hl
    have g6 : upd (upd (upd (upd (upd (upd H t1 (.tup [.int 5, .int 401])) t2 (.tup [.int 5, .int r18])) t3 (.tup [.int 9, .int 400])) t4 (.tup [.int 9, .int 401])) t5 (.tup [.int 9, .int r18])) l (.lst [.ref t1, .ref t2, .ref t3, .ref t4, .ref t5]) l = _ := upd_same
    have g1 := s6 _ _ (s5 _ _ (s4 _ _ (s3 _ _ g1)))
    have g2 := s6 _ _ (s5 _ _ (s4 _ _ (s3 _ _ g2)))
    have g3 := s6 _ _ (s5 _ _ (s4 _ _ g3))
    have g4 := s6 _ _ (s5 _ _ g4)
    have g5 := s6 _ _ g5
    generalize upd (upd (upd (upd (upd (upd H t1 (.tup [.int 5, .int 401])) t2 (.tup [.int 5, .int r18])) t3 (.tup [.int 9, .int 400])) t4 (.tup [.int 9, .int 401])) t5 (.tup [.int 9, .int r18])) l (.lst [.ref t1, .ref t2, .ref t3, .ref t4, .ref t5]) = Hl at B6 g1 g2 g3 g4 g5 g6 ⊢
    clear s3 s4 s5 s6 f1 f2 f3 f4 f5 hl hB
    have Bl := B6.hide
    have k0 := hide_at (B6.neR (l := [t1, t2, t3, t4, t5]) g6) g6
    have k1 := hide_at (B6.neT g1) g1
    have k2 := hide_at (B6.neT g2) g2
    have k3 := hide_at (B6.neT g3) g3
    have k4 := hide_at (B6.neT g4) g4
    have k5 := hide_at (B6.neT g5) g5
    generalize Ku.hide b Hl = Hh at Bl k0 k1 k2 k3 k4 k5
    refine for_list (K := K) (a := l) (D := { nx := tRet (tC (.bl true)) { nx := fun _ H' => Q .non H', rt := Q }, rt := Q }) (xs := [.ref t1, .ref t2, .ref t3, .ref t4, .ref t5]) (fun i σ H' => Bag G Hh H' b ∧ ∃ v1 v2 v3 v4 v5 v6 : Option V, σ = [some (.ref b), v1, v2, v3, v4, v5, v6, none, none])
      ⟨Bl, none, none, none, none, none, none, rfl⟩ (fun i σ H' _ h => SqL.of (h.1.le _ _ k0)) ?_ ?_
    rotate_left
    · rintro σ H' ⟨_, v1, v2, v3, v4, v5, v6, rfl⟩
      exact qq H'
    rintro i y σ H1 hy ⟨B1, v1, v2, v3, v4, v5, v6, rfl⟩
    obtain ⟨t, c, r, rfl, ht, hcr⟩ : ∃ (t : Addr) (c r : Nat), y = .ref t ∧ Hh t = some (.tup [.int (c : Nat), .int (r : Nat)]) ∧ ((c = 5 ∧ 400 < r ∧ r ≤ 2 ^ 62) ∨ (c = 9 ∧ r = 400) ∨ (c = 9 ∧ 400 < r ∧ r ≤ 2 ^ 62)) := by
      have hi : i < 5 := (List.getElem?_eq_some_iff.mp hy).1
      match i, hi, hy with
      | 0, _, hy => cases hy; exact ⟨t1, 5, 401, rfl, k1, .inl ⟨rfl, by decide, by decide⟩⟩
      | 1, _, hy => cases hy; exact ⟨t2, 5, r18, rfl, k2, .inl ⟨rfl, by omega, zr18⟩⟩
      | 2, _, hy => cases hy; exact ⟨t3, 9, 400, rfl, k3, .inr (.inl ⟨rfl, rfl⟩)⟩
      | 3, _, hy => cases hy; exact ⟨t4, 9, 401, rfl, k4, .inr (.inr ⟨rfl, by decide, by decide⟩)⟩
      | 4, _, hy => cases hy; exact ⟨t5, 9, r18, rfl, k5, .inr (.inr ⟨rfl, by omega, zr18⟩)⟩
    have zr : r ≤ 2 ^ 62 := by omega
    refine ⟨t, _, rfl, SqT.of (B1.le _ _ ht), rfl, _, _, rfl, _, _, rfl, rfl, ?_⟩
    refine ⟨_, rfl, _, rfl, G, Hh, b, c, rfl, B1, by omega, fun tt lk lb lt a0 a1 a2 B as H2 H3 s2 B3 htt hlk hlb hlt htu gk pm => ?_⟩
    have htt := B3.le _ _ htt
    have hlk := B3.le _ _ hlk
    have hlb := B3.le _ _ hlb
    have hlt := B3.le _ _ hlt
    have htu := htu.mono fun a xs e => B3.le _ _ e
    have B3' := B3.low s2 B1.cl
    refine ⟨tt, _, rfl, SqT.of htt, rfl, _, _, rfl, _, _, rfl, _, _, rfl, rfl, ?_⟩
    -- what is due
    refine ⟨_, rfl, lk, rfl, ⟨_, SqL.of hlk⟩, fun D hD => ?_⟩
    refine lc_pairs (K := K) (a := lk) (ns := [a0, a1, a2]) (fun _ => .int (r : Nat)) (by simp) hD (SqL.of hlk) (fun _ => rfl) ?_ ?_
    · intro x H' Q' hx s' q'
      exact ⟨_, rfl, _, rfl, s2z, q'⟩
    intro H4 ps s4 hD4 pp4
    have dall : ∀ {l1 : List Addr} {m1 : List Str}, Paired (fun p x => H4 p = some (.tup [.str x, .int (r : Nat)])) l1 m1 → DpAll K H4 (l1.map V.ref) ((m1.map fun k => (k, ((r : Nat) : Int))).map eK) := by
      intro l1 m1 h
      induction h with
      | nil => exact .nil
      | cons h1 _ ih => exact .cons (.tup (SqT.of h1) (.cons (.str _) (.cons (.int _) .nil))) ih
    refine ⟨D, _, [a0, a1, a2].map fun k => (k, ((r : Nat) : Int)), rfl, SqL.of hD4, dall pp4, fun out p hout hp => ?_⟩
    rw [sorted_same gk.nd, List.map_map] at hout
    have s5 := Same.new (o := .lst out) hp
    have hdue : Dp K (upd H4 p (.lst out)) (.ref p) (dueD (kset [a0, a1, a2]) fun _ => ((r : Nat) : Int)) := .lst (SqL.of upd_same) (dpa_same s5 hout)
    have s45 := s4.trans s5
    have B5 : Bag G Hh (upd H4 p (.lst out)) b := B3'.same s45
    have hlb5 := s45 _ _ hlb
    have hlt5 := s45 _ _ hlt
    have htu5 := htu.mono fun a xs e => s45 _ _ e
    generalize upd H4 p (.lst out) = H5 at hdue B5 hlb5 hlt5 htu5 ⊢
    clear s45 s5 s4 hlb hlt htu hlk htt B3 B3' B1 hD hD4 pp4 hout hp dall
    have lB : B.length = 15 + c := by
      have := pm.length_eq
      simp only [List.length_append, List.length_replicate] at this
      omega
    have zc : c ≤ 9 := by omega
    have hne : B ≠ [] := fun e => by rw [e] at lB; simp at lB; omega
    have mB : ∀ k ∈ B, k ∈ [a0, a1, a2] := fun k hk => by
      have hk := (pm.mem_iff).mp hk
      simp only [List.mem_append, List.mem_replicate] at hk
      simp only [List.mem_cons, List.not_mem_nil, or_false]
      rcases hk with (h | h) | h
      · exact .inl h.2
      · exact .inr (.inl h.2)
      · exact .inr (.inr h.2)
    obtain ⟨T, p3, hT⟩ : ∃ T, KM.Per B [a0, a1, a2] T ∧ ((c = 5 ∧ T = 280) ∨ (c = 9 ∧ T = 504)) := by
      rcases hcr with ⟨rfl, _⟩ | ⟨rfl, _⟩ | ⟨rfl, _⟩
      · exact ⟨280, per3 gk.nd pm (by decide) (by decide) (by decide) (by decide) lcm3, .inl ⟨rfl, rfl⟩⟩
      · exact ⟨504, per3 gk.nd pm (by decide) (by decide) (by decide) (by decide) lcm4, .inr ⟨rfl, rfl⟩⟩
      · exact ⟨504, per3 gk.nd pm (by decide) (by decide) (by decide) (by decide) lcm4, .inr ⟨rfl, rfl⟩⟩
    have gts : GoodTs [[a0], [a1], [a2]] := fun s hs => by
      obtain ⟨k, hk, rfl⟩ := List.mem_map.mp (show s ∈ [a0, a1, a2].map fun k => [k] from hs)
      exact ⟨by simp, by simp, fun z hz => by rw [List.mem_singleton.mp hz]; exact gk.kd k hk⟩
    have fi : Fine (dueD (kset [a0, a1, a2]) fun _ => ((r : Nat) : Int)) := fine_due (Nat.le_trans (kset_len _) (by simp)) fun k hk => ⟨kd_txt (gk.kd k (kset_mem.mp hk)), by
      rw [Int.natAbs_natCast]
      exact Nat.lt_of_le_of_lt zr (by decide)⟩
    -- the history
    refine ⟨_, rfl, by show 0 ≤ sizeLine; decide, fun p9 f9 => fun x dx hx hdx ndx => ?_⟩
    refine hist_read (ks := [a0, a1, a2]) ((Same.new f9) _ _ hlb5) upd_same hx hdx ndx hne (by omega) mB (by simp) gk.kd fun H6 s6 en6 => ?_
    have s56 := (Same.new (o := .lst []) f9).trans s6
    have tk6 : Tk H6 lt as [[a0], [a1], [a2]] := ⟨s56 _ _ hlt5, htu5.mono fun a xs e => s56 _ _ e, gts, by simp⟩
    have hdue6 := dp_same s56 hdue
    have B6 := B5.same s56
    clear s56 s6 f9 hx hdx hdue htu5 hlt5 hlb5 B5
    refine ⟨_, rfl, _, rfl, x, lt, kwFirst K, r, 400, B, [], as, [], [[a0], [a1], [a2]], [], rfl, en6, tk6, .inr ⟨rfl, Z.first⟩, hne, by omega, by simp, by simp, by decide, zr, ?_, ?_⟩
    · rw [kinds_ones p3]
      exact Nat.lt_of_le_of_lt (kset_len _) (by simp)
    rcases (show (r ≤ 400 ∨ T ≤ 400) ∨ (400 < r ∧ 400 < T ∧ c = 9) by omega) with h | ⟨h1, h2, h9⟩
    · obtain ⟨f, ef, hf⟩ := ansOf_told p3 (N := 400) h
      have ef : ansOf B [] [[a0], [a1], [a2]] (KM.roundG B [] [] fun _ => 0) 400 r = .told f := ef
      rw [ef]
      intro t2 H7 s7 hd
      rw [kinds_ones p3, due_same (r := ((r : Nat) : Int)) hf] at hd
      refine ⟨_, rfl, _, _, hd, dp_same s7 hdue6, fi.sh, fi.sh, _, rfl, iteFe (by rw [eqv_refl _ fi.nd]; rfl) ?_⟩
      rcases (show c = 5 ∨ (c = 9 ∧ r = 400) by omega) with h5 | ⟨h9, h4⟩
      · refine ⟨_, rfl, rfl, _, rfl, iteFe (decide_eq_false fun h => by have := V.int.inj h; omega) ?_⟩
        exact iteF ⟨B6.same s7, _, _, _, _, _, _, rfl⟩
      · refine ⟨_, rfl, rfl, _, rfl, iteTe (decide_eq_true (by rw [h9]; rfl)) ?_⟩
        refine ⟨_, rfl, _, _, rfl, rfl, _, rfl, iteFe (decide_eq_false (by omega)) ?_⟩
        exact ⟨B6.same s7, _, _, _, _, _, _, rfl⟩
    · have em : ansOf B [] [[a0], [a1], [a2]] (KM.roundG B [] [] fun _ => 0) 400 r = .many := ansOf_many p3 h1 h2
      rw [em]
      intro d H7 s7 hd
      refine ⟨true, Z.x_e2, fun _ a ha => ?_, fun h => by cases h⟩
      have e4 : decide (V.int ((400 : Nat) : Int) = V.int 400) = true := decide_eq_true rfl
      refine ⟨_, rfl, rfl, rfl, d, _, .int (400 : Nat), rfl, hd, rfl, rfl, _, rfl, iteFe (by rw [e4]; rfl) ?_⟩
      refine ⟨_, rfl, rfl, _, rfl, iteFe (decide_eq_false fun h => by have := V.int.inj h; omega) ?_⟩
      refine ⟨_, rfl, rfl, _, rfl, iteFe (decide_eq_false fun h => by have := V.int.inj h; omega) ?_⟩
      exact ⟨B6.same s7, _, _, _, _, _, _, rfl⟩
end
end Ku

/-! KuN -/
set_option Elab.async false
set_option linter.all false
set_option maxRecDepth 100000
set_option maxHeartbeats 8000000
/-! What is known stands beside the bag: it stands without it. -/
namespace Ku
open PySem PySem.Spec PyProof.Rows L2 KuS KuD KuIt KuZ KuSd
/-- it looks as the bag does -/
def Bx (H : Hp) (b : Addr) : Prop := ∃ (x y z : Int) (c : Addr), H b = some (.lst [.int x, .int y, .int z, .ref c])
theorem hide_mono {H H' : Hp} {t : Addr} (s : Same H H') : Same (hide t H) (hide t H') := fun a o h => by
  by_cases c : a = t
  · rw [c, hide_same] at h; cases h
  · rw [hide_ne c] at h; exact hide_at c (s _ _ h)
theorem hide_two {H H' : Hp} {b t : Addr} (s : Same (hide b H) H') : Same (hide b (hide t H)) (hide t H') := fun a o h => by
  by_cases c : a = b
  · rw [c, hide_same] at h; cases h
  · rw [hide_ne c] at h
    by_cases d : a = t
    · rw [d, hide_same] at h; cases h
    · rw [hide_ne d] at h
      exact hide_at d (s _ _ (hide_at c h))
section
variable {K : PySem.W.Frag} {G : Addr × List Int} {H0 H H' : Hp} {a b e r : Addr} {B R : List Str} {ts fs : List (List Str)} {as bs : List Addr} {g0 : Str → Nat} {N : Nat}
theorem Bag.x (Z : Bag G H0 H b) : Bx H b := by
  obtain ⟨x, y, z, h, _⟩ := Z.at_
  exact ⟨x, y, z, G.1, h⟩
theorem Bx.neS (Z : Bx H b) {l : List Str} (h : H a = some (.lst (l.map V.str))) : a ≠ b := fun e => by
  obtain ⟨x, y, z, c, hb⟩ := Z
  rw [e, hb] at h
  cases l with
  | nil => cases h
  | cons k r => cases h
theorem Bx.neR (Z : Bx H b) {l : List Addr} (h : H a = some (.lst (l.map V.ref))) : a ≠ b := fun e => by
  obtain ⟨x, y, z, c, hb⟩ := Z
  rw [e, hb] at h
  cases l with
  | nil => cases h
  | cons k r => cases h
theorem Bx.neT (Z : Bx H b) {l : List V} (h : H a = some (.tup l)) : a ≠ b := fun e => by
  obtain ⟨x, y, z, c, hb⟩ := Z
  rw [e, hb] at h
  cases h
theorem Bx.neD (Z : Bx H b) {kvs : List (Key × V)} (h : H a = some (.dK kvs)) : a ≠ b := fun e => by
  obtain ⟨x, y, z, c, hb⟩ := Z
  rw [e, hb] at h
  cases h
theorem Bx.neI (Z : Bx H b) {l : List Nat} (h : H a = some (.lst (l.map fun n => V.int (n : Nat)))) : a ≠ b := fun e => by
  obtain ⟨x, y, z, c, hb⟩ := Z
  rw [e, hb] at h
  match l, h with
  | [], h => cases h
  | [_], h => cases h
  | [_, _], h => cases h
  | [_, _, _], h => cases h
  | _ :: _ :: _ :: _ :: _, h => cases h
theorem Bx.neO (Z : Bx H b) {c' d : Addr} {f : List (Str × V)} (h : H a = some (.ins c' d f)) : a ≠ b := fun e => by
  obtain ⟨x, y, z, c, hb⟩ := Z
  rw [e, hb] at h
  cases h
theorem Bx.neF (Z : Bx H b) {o : Obj} {u : HO} (h : H a = some (.frz o u)) : a ≠ b := fun e => by
  obtain ⟨x, y, z, c, hb⟩ := Z
  rw [e, hb] at h
  cases h
theorem spd_hide (Z : Bx H b) {kvs : List (Key × V)} {f : Str → List Nat} (h : SpD kvs f H) : SpD kvs f (hide b H) := fun k => ⟨(h k).1, fun e => by
  obtain ⟨c, h1, h2⟩ := (h k).2 e
  exact ⟨c, h1, hide_at (Z.neI h2) h2⟩⟩
theorem En.hide (Z : Bx H b) (h : En K B R H e) : En K B R (Ku.hide b H) e := by
  obtain ⟨dx, kb, kr, bs, rs, kvb, kvr, p⟩ := h
  exact ⟨dx, kb, kr, bs, rs, kvb, kvr, hide_at (Z.neO p.at_) p.at_, hide_at (Z.neS p.kb_) p.kb_, hide_at (Z.neS p.kr_) p.kr_, hide_at (Z.neD p.bs_) p.bs_, spd_hide Z p.sb, hide_at (Z.neD p.rs_) p.rs_, spd_hide Z p.sr⟩
theorem tups_hide (Z : Bx H b) (h : Tups H as ts) : Tups (Ku.hide b H) as ts := h.mono fun a xs e => hide_at (Z.neT e) e
theorem Tk.hide (Z : Bx H b) (h : Tk H a as ts) : Tk (Ku.hide b H) a as ts := ⟨hide_at (Z.neR h.at_) h.at_, tups_hide Z h.tu, h.good, h.few⟩
theorem Scn.hide {c : Addr} (Z : Bx H b) (h : Scn K B R H e a c) : Scn K B R (Ku.hide b H) e a c := ⟨h.en.hide Z, hide_at (Z.neS h.hB) h.hB, hide_at (Z.neS h.hR) h.hR⟩
theorem Row.hide {g : Str → Nat} {t : Addr} (Z : Bx H b) (h : Row B R g H t) : Row B R g (Ku.hide b H) t := by
  obtain ⟨p, q, h, L⟩ := h
  exact ⟨p, q, hide_at (Z.neT h) h, hide_at (Z.neD L.pl) L.pl, hide_at (Z.neD L.go) L.go⟩
theorem MRow.hide {M : List (Str × Str)} {m : Addr} (Z : Bx H b) (h : MRow M H m) : MRow M (Ku.hide b H) m := by
  obtain ⟨ts, xs, h, p, al, zl⟩ := h
  exact ⟨ts, xs, hide_at (Z.neR h) h, pair_imp p fun a x _ e => hide_at (Z.neT e) e, al, zl⟩
theorem RcAt.hide (Z : Bx H b) (h : RcAt B R ts g0 N H r) : RcAt B R ts g0 N (Ku.hide b H) r := by
  obtain ⟨ra, ma, rs, ms, h1, h2, h3, h4, h5, h6, h7⟩ := h
  exact ⟨ra, ma, rs, ms, hide_at (Z.neT h1) h1, hide_at (Z.neR h2) h2, hide_at (Z.neR h3) h3, h4, h5, fun n t e => (h6 n t e).hide Z, fun n m e => (h7 n m e).hide Z⟩
theorem PapOr.hide {o : Option (Nat × Nat)} {v : V} (Z : Bx H b) (h : PapOr B R ts g0 H o v) : PapOr B R ts g0 (Ku.hide b H) o v := by
  cases o with
  | none => exact h
  | some x =>
    obtain ⟨t, bo, e, h1, h2⟩ := h
    exact ⟨t, bo, e, hide_at (Z.neT h1) h1, hide_at (Z.neD h2) h2⟩
theorem PapOr.mono {o : Option (Nat × Nat)} {v : V} (s : Same H H') (h : PapOr B R ts g0 H o v) : PapOr B R ts g0 H' o v := by
  cases o with
  | none => exact h
  | some x =>
    obtain ⟨t, bo, e, h1, h2⟩ := h
    exact ⟨t, bo, e, s _ _ h1, s _ _ h2⟩
theorem sqt_hide {xs : List V} (Z : Bx H b) (h : SqT K H a xs) : SqT K (Ku.hide b H) a xs := by
  rcases h with (h | ⟨o, h⟩) | h
  · exact .inl (.inl (hide_at (Z.neT h) h))
  · exact .inl (.inr ⟨o, hide_at (Z.neF h) h⟩)
  · exact .inr h
theorem sqr_hide {ls : List Addr} (Z : Bx H b) (h : SqL K H a (ls.map V.ref)) : SqL K (Ku.hide b H) a (ls.map V.ref) := by
  rcases h with (h | ⟨o, h⟩) | h
  · exact .inl (.inl (hide_at (Z.neR h) h))
  · exact .inl (.inr ⟨o, hide_at (Z.neF h) h⟩)
  · exact .inr h
theorem dues_hide {f : Str → Int} (Z : Bx H b) : ∀ {ks : List Str} {xs : List V}, DpAll K H xs (ks.map fun k => eK (k, f k)) → DpAll K (Ku.hide b H) xs (ks.map fun k => eK (k, f k)) ∧ ∃ ls : List Addr, xs = ls.map V.ref
  | [], _, h => by
    cases h
    exact ⟨.nil, [], rfl⟩
  | k :: r, _, h => by
    cases h with
    | cons h1 h2 =>
      obtain ⟨c, ys, rfl, hs, ha⟩ := dp_tuple h1
      obtain ⟨h3, ls, rfl⟩ := dues_hide Z h2
      refine ⟨.cons (.tup (sqt_hide Z hs) ?_) h3, c :: ls, rfl⟩
      cases ha with
      | cons a1 a2 =>
        cases a2 with
        | cons a2 a3 =>
          cases a3
          cases a1
          cases a2
          exact .cons (.str _) (.cons (.int _) .nil)
theorem due_hide {ks : List Str} {f : Str → Int} (Z : Bx H b) (h : Dp K H (.ref a) (dueD ks f)) : Dp K (Ku.hide b H) (.ref a) (dueD ks f) := by
  obtain ⟨a', xs, e, hs, ha⟩ := dp_list h
  cases e
  obtain ⟨h1, ls, rfl⟩ := dues_hide Z ha
  exact .lst (sqr_hide Z hs) h1
end
/-! ### a turn's scene -/
/-- the answers that the law itself holds -/
theorem ans_near {B R : List Str} {ts : List (List Str)} {g : Str → Nat} {N r : Nat} (ks : List Str) (h : r ≤ N) : ansD ks N (ansOf B R ts g N r) = .tuple [.str "told", dueD ks fun k => ((KM.after B R ts g r k : Nat) : Int)] := by
  unfold ansOf
  rw [if_pos h]
  rfl
theorem ans_far {B R : List Str} {ts : List (List Str)} {g : Str → Nat} {N r : Nat} (h : N < r) : ansOf B R ts g N r = match KM.findP (KM.paperB B R ts g) N with
    | none => Ans.many
    | some x => .told (KM.counted (KM.after B R ts g) x r) := by
  unfold ansOf
  exact if_neg (by omega)
/-- what a turn knows -/
structure Tn (K : PySem.W.Frag) (ks B R : List Str) (ts fs : List (List Str)) (N : Nat) (H : Hp) (lk e a c ta fa rc : Addr) (as bs : List Addr) (v : V) : Prop where
  hk : H lk = some (.lst (ks.map V.str))
  hB : H a = some (.lst (B.map V.str))
  hR : H c = some (.lst (R.map V.str))
  aw : En K B R (hide ta H) e
  tk : Tk H ta as ts
  fk : Tk H fa bs fs
  rc : RcAt B R ts (KM.roundG B R fs fun _ => 0) N H rc
  pa : PapOr B R ts (KM.roundG B R fs fun _ => 0) H (KM.findP (KM.paperB B R ts (KM.roundG B R fs fun _ => 0)) N) v
/-- a due answer that is told -/
structure Nr (K : PySem.W.Frag) (ks : List Str) (f : Str → Int) (H : Hp) (t p : Addr) : Prop where
  at_ : H t = some (.tup [.str "told", .ref p])
  dp : Dp K H (.ref p) (dueD ks f)
section
variable {K : PySem.W.Frag} {G : Addr × List Int} {H0 H H' : Hp} {a b c e rc ta fa lk : Addr} {ks B R : List Str} {ts fs : List (List Str)} {as bs : List Addr} {N : Nat} {v : V} {f : Str → Int} {t p : Addr}
theorem Nr.mono (h : Nr K ks f H t p) (s : Same H H') : Nr K ks f H' t p := ⟨s _ _ h.at_, dp_same s h.dp⟩
theorem Nr.hide (Z : Bx H b) (h : Nr K ks f H t p) : Nr K ks f (Ku.hide b H) t p := ⟨hide_at (Z.neT h.at_) h.at_, due_hide Z h.dp⟩
theorem Nr.all (h : Nr K ks f H t p) : Dp K H (.ref t) (.tuple [.str "told", dueD ks f]) := .tup (SqT.of h.at_) (.cons (.str _) (.cons h.dp .nil))
theorem Tn.sc (t : Tn K ks B R ts fs N H lk e a c ta fa rc as bs v) : Scn K B R H e a c := ⟨t.aw.mono hide_le, t.hB, t.hR⟩
theorem Tn.mono (t : Tn K ks B R ts fs N H lk e a c ta fa rc as bs v) (s : Same H H') : Tn K ks B R ts fs N H' lk e a c ta fa rc as bs v := ⟨s _ _ t.hk, s _ _ t.hB, s _ _ t.hR, t.aw.mono (hide_mono s), t.tk.mono s, t.fk.mono s, t.rc.mono s, t.pa.mono s⟩
/-- behind a call that was told all but the bag -/
theorem Tn.next (Z : Bx H b) (t : Tn K ks B R ts fs N H lk e a c ta fa rc as bs v) (s : Same (Ku.hide b H) H') : Tn K ks B R ts fs N H' lk e a c ta fa rc as bs v := by
  have nb : b ≠ ta := (Z.neR t.tk.at_).symm
  have Z' : Bx (Ku.hide ta H) b := by
    obtain ⟨x, y, z, c, hb⟩ := Z
    exact ⟨x, y, z, c, hide_at nb hb⟩
  exact ⟨s _ _ (hide_at (Z.neS t.hk) t.hk), s _ _ (hide_at (Z.neS t.hB) t.hB), s _ _ (hide_at (Z.neS t.hR) t.hR), (t.aw.hide Z').mono (hide_two s), (t.tk.hide Z).mono s, (t.fk.hide Z).mono s, (t.rc.hide Z).mono s, (t.pa.hide Z).mono s⟩
theorem Nr.next (Z : Bx H b) (h : Nr K ks f H t p) (s : Same (Ku.hide b H) H') : Nr K ks f H' t p := (h.hide Z).mono s
/-- told, asked -/
theorem ask_told {Hc : Hp} {Q : VK} {E : XK} {m r : Nat} (t : Tn K ks B R ts fs N Hc lk e a c ta fa rc as bs v) (sz : Sizes B R) (zm : m ≤ 3000) (zr : r ≤ 2 ^ 62)
    (q : ∀ (u : Addr) (H' : Hp), Same Hc H' → Dp K H' (.ref u) (ansD (kinds B R) m (ansOf B R ts (KM.roundG B R fs fun _ => 0) m r)) → Q (.ref u) H') : spTold K [.ref e, .ref ta, .int (r : Nat), .ref fa, .int (m : Nat)] Hc Q E :=
  ⟨e, ta, fa, r, m, B, R, as, bs, ts, fs, rfl, t.sc.en, t.tk, .inl t.fk, sz.ne, sz.zB, sz.zR, t.fk.few, zm, zr, sz.zk, q⟩
theorem ask_fine {m r : Nat} (t : Tn K ks B R ts fs N H lk e a c ta fa rc as bs v) (sz : Sizes B R) (zm : m ≤ 3000) (zr : r ≤ 2 ^ 62) : Fine (ansD (kinds B R) m (ansOf B R ts (KM.roundG B R fs fun _ => 0) m r)) := fine_ans sz.kd (Nat.le_of_lt sz.zk) t.tk.few t.fk.few zm zr
/-- Endless(..), made -/
theorem hist_made {Hc : Hp} {B R ks : List Str} {p8 p9 x dx : Addr} {Q : Hp → Prop} {E : XK} (h8 : Hc p8 = some (.lst (B.map V.str))) (h9 : Hc p9 = some (.lst (R.map V.str))) (hx : Hc x = none) (hdx : Hc dx = none) (ndx : dx ≠ x) (hne : B ≠ []) (zB : B.length ≤ 40) (zR : R.length ≤ 60)
    (hB : ∀ k ∈ B, k ∈ ks) (hR : ∀ k ∈ R, k ∈ ks) (zk : ks.length ≤ 8) (kd : ∀ k ∈ ks, Kd k) (q : ∀ H' : Hp, Same Hc H' → En K B R H' x → (∀ (a : Addr) (as : List Addr), Hc a = some (.lst (as.map V.ref)) → En K B R (hide a H') x) → Q H') :
    spEnInit K [.ref x, .ref p8, .ref p9] (upd (upd Hc dx (.own x)) x (.ins (cE K) dx [])) (fun v H2 => v = .non ∧ Q H2) E := by
  have hx' : upd Hc dx (.own x) x = none := by rw [upd_ne (Ne.symm ndx)]; exact hx
  have s1 := (Same.new (o := .own x) hdx).trans (Same.new (o := .ins (cE K) dx []) hx')
  refine ⟨x, dx, p8, p9, B, R, rfl, upd_same, s1 _ _ h8, s1 _ _ h9, hne, zB, zR, fun k hk => kd k (hB k hk), fun k hk => kd k (hR k hk), ?_, fun H' b' en aw => ⟨rfl, q H' (b'.over s1 fun a ha => by rw [List.mem_singleton.mp ha]; exact hx) en fun a as ha => aw a as (s1 _ _ ha)⟩⟩
  exact Nat.le_trans (nodup_le (kset_nodup B) fun k hk => hB k (kset_mem.mp hk)) zk
end
end Ku

/-! KuLa -/
set_option Elab.async false
set_option linter.all false
set_option maxRecDepth 100000
set_option maxHeartbeats 16000000
/-! The law. -/
namespace Ku
open PySem PySem.Spec PyProof.Rows L2 KuS KuD KuIt KuZ KuSd
theorem for_listD {K : PySem.W.Frag} {a : Addr} {xs : List V} {g : TG} {tb : TS} {nx : L2.St → Hp → Prop} {rt : VK} {σ : L2.St} {H : Hp} (Pv : Nat → L2.St → Hp → Prop) (h0 : Pv 0 σ H) (hl : ∀ i σ H, i ≤ xs.length → Pv i σ H → SqL K H a xs)
    (hs : ∀ i x σ H, xs[i]? = some x → Pv i σ H → g x σ H fun σ2 H2 => tb { nx := Pv (i + 1), rt := rt, bk := nx, ct := Pv (i + 1) } σ2 H2) (hd : ∀ σ H, Pv xs.length σ H → nx σ H) :
    ∃ W : Nat → Nat → L2.St → Hp → Prop, (∃ m, W 0 m σ H) ∧ ∀ i m σ H, W i m σ H →
      ((Itl K a).stop i H ∧ nx σ H) ∨ ((Itl K a).go i H ∧ ∃ N : L2.St → Hp → Prop, (∀ σ' H', N σ' H' → ∃ m', m' < m ∧ W (i + 1) m' σ' H') ∧ ∀ x H', (Itl K a).yld i H x H' → g x σ H' fun σ2 H2 => tb { nx := N, rt := rt, bk := nx, ct := N } σ2 H2) :=
  for_list (D := { nx := nx, rt := rt }) Pv h0 hl hs hd
theorem for_tupD {K : PySem.W.Frag} {a : Addr} {xs : List V} {g : TG} {tb : TS} {nx : L2.St → Hp → Prop} {rt : VK} {σ : L2.St} {H : Hp} (Pv : Nat → L2.St → Hp → Prop) (h0 : Pv 0 σ H) (hl : ∀ i σ H, i ≤ xs.length → Pv i σ H → SqT K H a xs)
    (hs : ∀ i x σ H, xs[i]? = some x → Pv i σ H → g x σ H fun σ2 H2 => tb { nx := Pv (i + 1), rt := rt, bk := nx, ct := Pv (i + 1) } σ2 H2) (hd : ∀ σ H, Pv xs.length σ H → nx σ H) :
    ∃ W : Nat → Nat → L2.St → Hp → Prop, (∃ m, W 0 m σ H) ∧ ∀ i m σ H, W i m σ H →
      ((Itt K a).stop i H ∧ nx σ H) ∨ ((Itt K a).go i H ∧ ∃ N : L2.St → Hp → Prop, (∀ σ' H', N σ' H' → ∃ m', m' < m ∧ W (i + 1) m' σ' H') ∧ ∀ x H', (Itt K a).yld i H x H' → g x σ H' fun σ2 H2 => tb { nx := N, rt := rt, bk := nx, ct := N } σ2 H2) :=
  for_tup (D := { nx := nx, rt := rt }) Pv h0 hl hs hd
theorem iteAny {c : Bool} {a b : Prop} (x : a) (y : b) : if c = true then a else b := by cases c <;> assumption
section
variable {P : Program} {w : World} {K : PySem.W.Frag} {mg : Str → Option Value} {base : Heap}
def spLaw (K : PySem.W.Frag) : Sp := fun vs H Q _ => ∃ (a : Addr) (ns : List Int), vs = [.ref a] ∧ SqL K H a (ns.map V.int) ∧ ns.length ≤ 1000 ∧ ∀ H' : Hp, Q (.bl true) H'
abbrev nmLaw : List Str := ["_law_script", "_law_bag_here", "_law_turn", "_law_kinds_here", "_law_block", "_law_recent", "_law_takes", "_law_begin", "_law_bound", "_law_history", "_law_race_here", "_law_found", "_law_near", "_law_few", "_law_rounds", "_law_due", "_law_first_ones"]
theorem sc_law : FnScope nmLaw ["_law_script"] (defScope s_law) := fnScope_dec (by decide +kernel)
theorem ok_law (Z : Say K mg) {fd : FuncData} (F : FunD K d_law.name d_law.qual d_law.params d_law.body d_law.scope (d_law.dvs K) (d_law.kws K) (He.fAd K d_law.at_) fd) : FnG P w K mg base CX0 8 (He.fAd K d_law.at_) fd ["_law_script"] (spLaw K) := by
  have cB : Cal P w K mg base 1 "_law_bag" (spBag K) := cal_law_bag Z
  have cT : Cal P w K mg base 1 "_law_take" spTake := cal_law_take Z
  have cW : Cal P w K mg base 3 "_law_wide_scene" spWide := cal_law_wide_scene Z
  have cM : Cal P w K mg base 3 "_law_more_takes" (spMore K) := cal_law_more_takes Z
  have cE : Mak P w K mg base 3 "Endless" (cE K) (spEnInit K) := mak_Endless Z
  have cR : Cal P w K mg base 4 "_law_race" spRace := cal_law_race Z
  have cP : Cal P w K mg base 3 "_law_paper" spPaper := cal_law_paper Z
  have cC : Cal P w K mg base 1 "_law_counted" (spCounted K) := cal_law_counted Z
  have cO : Cal P w K mg base 6 "_law_told" (spTold K) := cal_law_told Z
  have cS : Cal P w K mg base 2 "_law_set" (spSet K) := cal_law_set Z
  have cA : CalG P w K mg base 1 "_law_alike" (spAlike K) := cal_law_alike Z
  have cF : CalG P w K mg base 7 "_law_far_right" (spFar K) := cal_law_far_right Z
  have cL : CalG P w K mg base 7 "_law_longest_right" spLong := cal_law_longest_right Z
  have cV : Cal P w K mg base 6 "_law_slow_right" spSlowR := cal_law_slow_right Z
  refine fn_okG F sc_law (fun vs H Q E h => ?_) (fun cdv A outer s H vs Q E hgu hr h => ?_)
  · obtain ⟨a, ns, rfl, _⟩ := h
    rfl
  · obtain ⟨sa, ns, rfl, hS, zns, qq⟩ := h
    have nd := sc_law.nd
    have hu := hr.units
    refine ⟨_, pss_cons (ps_set (i := 1) nd rfl (Or.inl rfl) (pe_c cB hr (by decide) rfl (pa_cons (pv 0) pa_nil)))
      (pss_cons (ps_for PassesOwn.never rfl (pi_range1 rfl Z.f_range (pa_cons pe_int pa_nil)) (pg_name (i := 2) nd rfl (Or.inl rfl))
        (pss_cons (ps_asg (pe_c cW hr (by decide) rfl (pa_cons (pv 1) pa_nil)) (pg_tup rfl (pgs_cons (pg_name (i := 3) nd rfl (Or.inl rfl)) (pgs_cons (pg_name (i := 4) nd rfl (Or.inl rfl)) (pgs_cons (pg_name (i := 5) nd rfl (Or.inl rfl)) pgs_nil)))))
        (pss_cons (ps_par3 (i := 6) (j := 7) (l := 8) rfl nd rfl rfl rfl (by decide) (by decide) (by decide) rfl rfl rfl (pa_cons (pe_c cM hr (by decide) rfl (pa_cons (pv 1) (pa_cons (pv 3) (pa_cons pe_int pa_nil))))
            (pa_cons (pe_c cM hr (by decide) rfl (pa_cons (pv 1) (pa_cons (pv 3) (pa_cons pe_int pa_nil)))) (pa_cons (pe_op op_add pe_int (pe_c cT hr (by decide) rfl (pa_cons (pv 1) (pa_cons pe_int pa_nil)))) pa_nil))) (by rfl))
        (pss_cons (ps_par (i := 9) (j := 10) rfl nd rfl rfl (by decide) rfl rfl (pa_cons (pe_mk cE hr (by decide) rfl (pa_cons (pv 4) (pa_cons (pv 5) pa_nil)))
            (pa_cons (pe_c cR hr (by decide) rfl (pa_cons (pv 4) (pa_cons (pv 5) (pa_cons (pv 6) (pa_cons (pv 7) (pa_cons (pv 8) pa_nil)))))) pa_nil)) (by rfl))
        (pss_cons (ps_set (i := 11) nd rfl (Or.inl rfl) (pe_c cP hr (by decide) rfl (pa_cons (pv 4) (pa_cons (pv 5) (pa_cons (pv 6) (pa_cons (pv 10) (pa_cons (pv 8) pa_nil)))))))
        (pss_cons (ps_par (i := 12) (j := 13) rfl nd rfl rfl (by decide) rfl rfl (pa_cons (pe_tup (pa_cons pe_str (pa_cons (pe_sortItems rfl hu (pe_ix ix_tup (pe_ix ix_list (pe_ix ix_tup (pv 10) pe_int (fun _ _ => rfl)) (pv 8) (fun _ _ => rfl)) pe_int (fun _ _ => rfl)) rfl Z.f_sorted boot_sorted) pa_nil)))
            (pa_cons (pe_c cT hr (by decide) rfl (pa_cons (pv 1) (pa_cons (pe_op op_add (pv 8) pe_int) pa_nil))) pa_nil)) (by rfl))
        (pss_cons (ps_if (pt_not (pt_val (pe_cG cA hgu hr (by decide) rfl (pa_cons (pe_c cO hr (by decide) rfl (pa_cons (pv 9) (pa_cons (pv 6) (pa_cons (pv 8) (pa_cons (pv 7) (pa_cons (pv 8) pa_nil)))))) (pa_cons (pv 12) pa_nil))))) (pss_one (ps_ret pe_bl)) pss_nil)
        (pss_cons (ps_for PassesOwn.never rfl (pi_list (pe_lst (pa_cons (pe_op op_add (pv 8) pe_int) (pa_cons (pe_op op_add (pe_op op_add (pv 8) pe_int) (pe_c cT hr (by decide) rfl (pa_cons (pv 1) (pa_cons pe_int pa_nil))))
              (pa_cons (pe_op op_pow pe_int pe_int) (pa_cons (pe_op op_sub (pe_op op_pow pe_int pe_int) (pe_c cT hr (by decide) rfl (pa_cons (pv 1) (pa_cons (pe_op op_pow pe_int pe_int) pa_nil)))) pa_nil)))))) (pg_name (i := 14) nd rfl (Or.inl rfl))
            (pss_cons (ps_set (i := 15) nd rfl (Or.inl rfl) (pe_tup (pa_cons pe_str (pa_cons (pv 8) pa_nil))))
            (pss_cons (ps_if (pt_cmp (pc_notN (pv 11))) (pss_one (ps_set (i := 15) nd rfl (Or.inl rfl) (pe_tup (pa_cons pe_str (pa_cons (pe_c cC hr (by decide) rfl (pa_cons (pe_ix ix_tup (pv 10) pe_int (fun _ _ => rfl)) (pa_cons (pv 11) (pa_cons (pv 14) pa_nil)))) pa_nil))))) pss_nil)
            (pss_one (ps_if (pt_not (pt_val (pe_cG cA hgu hr (by decide) rfl (pa_cons (pe_c cO hr (by decide) rfl (pa_cons (pv 9) (pa_cons (pv 6) (pa_cons (pv 14) (pa_cons (pv 7) (pa_cons (pv 8) pa_nil)))))) (pa_cons (pv 15) pa_nil))))) (pss_one (ps_ret pe_bl)) pss_nil)))))
        (Evl.pss_cut (ps_if (PW.pt (pw_and (pt_cmp (pc_notN (pv 11))) (pw_and1 (pt_cmpR op_gt (pe_ix ix_tup (pv 11) pe_int (fun _ _ => rfl)) pe_int (nomark _)))))
            (pss_one (ps_if (pt_cmpR (op_neDK K hu) (pe_c cO hr (by decide) rfl (pa_cons (pv 9) (pa_cons (pv 6) (pa_cons (pe_op op_add (pv 8) pe_int) (pa_cons (pv 7) (pa_cons (pe_op op_sub (pe_ix ix_tup (pv 11) pe_int (fun _ _ => rfl)) pe_int) pa_nil))))))
              (pe_tup (pa_cons pe_str (pa_cons (pe_op op_sub (pe_ix ix_tup (pv 11) pe_int (fun _ _ => rfl)) pe_int) pa_nil))) (nomark _)) (pss_one (ps_ret pe_bl)) pss_nil)) pss_nil)
        (pss_cons (ps_for PassesOwn.never rfl (pi_tup (pe_tup (pa_cons (pe_lst pa_nil) (pa_cons (pe_op op_cat (pv 7) (pv 6)) (pa_cons (pv 7) pa_nil))))) (pg_name (i := 16) nd rfl (Or.inl rfl))
            (pss_one (ps_if (pt_not (pt_val (pe_cG cF hgu hr (by decide) rfl (pa_cons (pv 9) (pa_cons (pv 4) (pa_cons (pv 5) (pa_cons (pv 6) (pa_cons (pv 16) (pa_cons (pv 8) pa_nil))))))))) (pss_one (ps_ret pe_bl)) pss_nil)))
        (pss_cons (ps_for PassesOwn.never rfl (pi_list (pe_lst (pa_cons (pe_tup (pa_cons (pv 13) (pa_cons (pe_tup (pa_cons pe_str (pa_cons (pe_sortItems rfl hu (pe_ix ix_tup (pe_ix ix_list (pe_ix ix_tup (pv 10) pe_int (fun _ _ => rfl)) (pv 13) (fun _ _ => rfl)) pe_int (fun _ _ => rfl)) rfl Z.f_sorted boot_sorted) pa_nil))) pa_nil)))
              (pa_cons (pe_tup (pa_cons (pv 8) (pa_cons (pv 12) pa_nil))) pa_nil)))) (pg_tup rfl (pgs_cons (pg_name (i := 14) nd rfl (Or.inl rfl)) (pgs_cons (pg_name (i := 15) nd rfl (Or.inl rfl)) pgs_nil)))
            (pss_one (ps_if (pt_not (pt_val (pe_cG cA hgu hr (by decide) rfl (pa_cons (pe_c cO hr (by decide) rfl (pa_cons (pv 9) (pa_cons (pv 6) (pa_cons (pv 14) (pa_cons (pv 7) (pa_cons (pv 8) pa_nil)))))) (pa_cons (pv 15) pa_nil))))) (pss_one (ps_ret pe_bl)) pss_nil)))
        (pss_cons (ps_expr (pe_bm PySem.F.plainAttrs_list PySem.F.slot_list_append PySem.F.type_list_append mt_append (pv 6) (pa_cons (pe_c cS hr (by decide) rfl (pa_cons (pv 1) (pa_cons (pv 3) pa_nil))) pa_nil)))
        (pss_one (ps_if (pt_not (pt_val (pe_cG cF hgu hr (by decide) rfl (pa_cons (pv 9) (pa_cons (pv 4) (pa_cons (pv 5) (pa_cons (pv 6) (pa_cons (pv 7) (pa_cons (pv 8) pa_nil))))))))) (pss_one (ps_ret pe_bl)) pss_nil))))))))))))))
      (pss_cons (ps_if (pt_cmpR op_eq (pe_c cT hr (by decide) rfl (pa_cons (pv 1) (pa_cons pe_int pa_nil))) pe_int (nomark _)) (pss_one (ps_ret (pe_cG cL hgu hr (by decide) rfl (pa_cons (pv 1) pa_nil)))) pss_nil)
      (pss_one (ps_ret (pe_or (pe_cmpR op_gt (pe_c cT hr (by decide) rfl (pa_cons (pv 1) (pa_cons pe_int pa_nil))) pe_int (nomark _)) (pe_one (pe_c cV hr (by decide) rfl (pa_cons (pv 1) pa_nil)))))))), ?_⟩
    have s2z : (2 : Nat) ≤ sizeLine := by decide
    refine ⟨_, rfl, sa, ns, rfl, hS, zns, fun G b H00 Hs s0 B0 => ?_⟩
    refine ⟨_, rfl, by decide, by decide, ?_⟩
    refine for_range (lo := 0) (n := 3) (fun i σ H' => Bag G H00 H' b ∧ ∃ v2 v3 v4 v5 v6 v7 v8 v9 v10 v11 v12 v13 v14 v15 v16 : Option V, σ = [some (.ref sa), some (.ref b), v2, v3, v4, v5, v6, v7, v8, v9, v10, v11, v12, v13, v14, v15, v16])
      ⟨B0, none, none, none, none, none, none, none, none, none, none, none, none, none, none, none, rfl⟩ ?_ ?_
    rotate_left
    · rintro σ Hz ⟨Bz, v2, v3, v4, v5, v6, v7, v8, v9, v10, v11, v12, v13, v14, v15, v16, rfl⟩
      refine ⟨_, rfl, G, H00, b, 8, rfl, Bz, by decide, by decide, fun v Ha v0 v1 Ba => ⟨rfl, _, rfl, iteAny ?_ ?_⟩⟩
      · exact ⟨_, rfl, G, H00, b, rfl, Ba, fun H' => qq H'⟩
      · refine ⟨_, rfl, G, H00, b, 4, rfl, Ba, by decide, by decide, fun v' Hb v0 v1 Bb => ⟨_, _, rfl, rfl, _, rfl, iteAny ?_ ?_⟩⟩
        · exact qq _
        · exact ⟨_, rfl, G, H00, b, rfl, Bb, fun H' => qq H'⟩
    rintro i σ Hz hi ⟨Bz, v2, v3, v4, v5, v6, v7, v8, v9, v10, v11, v12, v13, v14, v15, v16, rfl⟩
    clear hi
    -- the scene
    refine ⟨_, rfl, G, H00, b, rfl, Bz, fun t0 lk lb lr m ks B R H1 Ha s1 B1 ht0 hlk hlb hlr gk m1 m8 mB mR zB1 zB zR => ?_⟩
    refine ⟨t0, _, rfl, SqT.of (B1.le _ _ ht0), rfl, _, _, rfl, _, _, rfl, _, _, rfl, rfl, ?_⟩
    have hks1 : 1 ≤ ks.length := by rw [gk.len]; omega
    have hks8 : ks.length ≤ 8 := by rw [gk.len]; omega
    refine ⟨_, rfl, _, rfl, G, H1, b, lk, ks, 5, rfl, B1, hlk, hks1, hks8, gk.nd, gk.kd, by decide, fun ta as ts H2 Hb s2 B2 fta hta htu gts zts => ?_⟩
    refine ⟨_, rfl, _, rfl, G, H2, b, lk, ks, 3, rfl, B2, s2 _ _ hlk, hks1, hks8, gk.nd, gk.kd, by decide, fun fa bs fs H3 Hc s3 B3 ffa hfa hfu gfs zfs => ?_⟩
    refine ⟨_, rfl, G, H3, b, 40, rfl, B3, by decide, by decide, fun v Hd v0 v1 B4 => ⟨_, _, rfl, rfl, _, _, _, rfl, ?_⟩⟩
    obtain ⟨N, eN, zN1, zN⟩ : ∃ N : Nat, (1 : Int) + v = ((N : Nat) : Int) ∧ 1 ≤ N ∧ N ≤ 40 := ⟨1 + v.toNat, by omega, by omega, by omega⟩
    simp only [eN]
    have f00 : H00 ta = none := s1.free fta
    have nta : ta ≠ b := B4.neR ((B4.le _ _ (s3 _ _ hta)))
    have nlb : lb ≠ ta := ne_of_none hlb fta
    have nlr : lr ≠ ta := ne_of_none hlr fta
    have nfa : fa ≠ ta := (ne_of_none hta ffa).symm
    have Bd : Bag G H00 Hd b := B4.low ((s1.trans s2).trans s3) Bz.cl
    have s1d := (s2.trans s3).trans B4.le
    have hlkd := s1d _ _ hlk
    have hlbd := s1d _ _ hlb
    have hlrd := s1d _ _ hlr
    have s2d := s3.trans B4.le
    have tkd : Tk Hd ta as ts := ⟨s2d _ _ hta, htu.mono fun _ _ e => s2d _ _ e, gts, by omega⟩
    have fkd : Tk Hd fa bs fs := ⟨B4.le _ _ hfa, hfu.mono fun _ _ e => B4.le _ _ e, gfs, by omega⟩
    clear s1d s2d hlk hlb hlr hta htu hfa hfu B4 B3 B2 B1 ht0 s3 s2 s1 fta ffa gts gfs
    -- the sizes
    have hne : B ≠ [] := fun e => by rw [e] at zB1; exact absurd zB1 (by decide)
    have mk : ∀ k ∈ kinds B R, k ∈ ks := fun k hk => by
      rcases List.mem_append.mp (kset_mem.mp hk) with h | h
      · exact mB k h
      · exact mR k h
    have zk8 : (kinds B R).length ≤ 8 := Nat.le_trans (nodup_le (kset_nodup _) mk) hks8
    have sz : Sizes B R := ⟨hne, by omega, by omega, by omega, fun k hk => gk.kd k (mk k hk)⟩
    -- the history, the race, the paper
    refine ⟨_, rfl, _, rfl, fun x dx hx hdx ndx => ?_⟩
    refine hist_made (ks := ks) hlbd hlrd hx hdx ndx hne (by omega) (by omega) mB mR hks8 gk.kd fun He s5 en aw => ?_
    have aw := aw ta as tkd.at_
    have tke := tkd.mono s5
    have fke := fkd.mono s5
    have hlbe := s5 _ _ hlbd
    have hlre := s5 _ _ hlrd
    have hlke := s5 _ _ hlkd
    have Be := Bd.same s5
    clear hx hdx hlbd hlrd hlkd tkd fkd s5 Bd en
    refine ⟨_, rfl, _, rfl, _, rfl, _, rfl, _, rfl, lb, lr, ta, fa, N, B, R, as, bs, ts, fs, rfl, hlbe, hlre, tke.at_, tke.tu, tke.good, tke.few, fke.at_, fke.tu, fke.good, fke.few, by omega, hne, by omega, by omega, fun rc Hf s6 frc hrc => ⟨_, _, rfl, ?_⟩⟩
    have tkf := tke.mono s6
    refine ⟨_, rfl, _, rfl, _, rfl, _, rfl, _, rfl, lb, lr, ta, rc, N, B, R, as, ts, _, rfl, s6 _ _ hlbe, s6 _ _ hlre, tkf.at_, tkf.tu, hrc, by omega, hne, by omega, fun fv Hg s7 hpa => ?_⟩
    have s67 := s6.trans s7
    have tg : Tn K ks B R ts fs N Hg lk x lb lr ta fa rc as bs fv := ⟨s67 _ _ hlke, s67 _ _ hlbe, s67 _ _ hlre, aw.mono (hide_mono s67), tke.mono s67, fke.mono s67, hrc.mono s7, hpa⟩
    have Bg := Be.same s67
    clear s67 s6 s7 hlke hlbe hlre aw tke fke hrc hpa Be tkf frc
    -- near, few
    obtain ⟨ra, ma, rs, ms, k1, k2, k3, zrs, zms, hrs, hms⟩ := tg.rc
    obtain ⟨tr, er, fr⟩ := rows_at (l := rs) (n := N) (by omega)
    obtain ⟨rp, rq, hrow, L⟩ := hrs N tr er
    refine ⟨_, rfl, rc, _, 0, .ref ra, rfl, rfl, SqT.of k1, at_ofA (j := 0) rfl rfl, _, rfl, ra, _, _, .ref tr, rfl, rfl, SqL.of k2, at_ofA (j := N) rfl fr, tr, _, 1, .ref rq, rfl, rfl, SqT.of hrow, at_ofA (j := 1) rfl rfl, rq, kinds B R, fun k => ((KM.after B R ts (KM.roundG B R fs fun _ => 0) N k : Nat) : Int), rfl, L.go, kset_pw _, kset_nodup _, by omega, fun Hh np s8 fnp hnp => ⟨s2z, fun nt hnt => ?_⟩⟩
    have nrh : Nr K (kinds B R) (fun k => ((KM.after B R ts (KM.roundG B R fs fun _ => 0) N k : Nat) : Int)) (upd Hh nt (.tup [.str "told", .ref np])) nt np := ⟨upd_same, dp_same (Same.new hnt) hnp⟩
    have sgh := s8.trans (Same.new (o := .tup [.str "told", .ref np]) hnt)
    have th := tg.mono sgh
    have Bh := Bg.same sgh
    clear sgh s8 hnp fnp hnt hrow L er fr hrs hms k1 k2 k3 zrs zms tg Bg
    generalize upd Hh nt (.tup [.str "told", .ref np]) = Hi at nrh th Bh ⊢
    refine ⟨_, rfl, _, rfl, _, _, rfl, rfl, G, Ku.hide b Hi, b, _, rfl, Bh.hide, by omega, by omega, fun few Hj w0 w1 Bj => ⟨_, _, rfl, ?_⟩⟩
    obtain ⟨fw, efw, zfw⟩ : ∃ fw : Nat, few = ((fw : Nat) : Int) ∧ fw ≤ N := ⟨few.toNat, by omega, by omega⟩
    subst efw
    clear w0 w1
    have tj := th.next Bh.x Bj.le
    have nj := nrh.next Bh.x Bj.le
    have Bj := Bh.back Bj
    clear th nrh Bh
    -- just so many rounds
    refine ⟨_, rfl, _, rfl, _, rfl, _, rfl, _, rfl, x, ta, fa, N, N, B, R, as, bs, ts, fs, rfl, tj.sc.en, tj.tk, .inl tj.fk, sz.ne, sz.zB, sz.zR, tj.fk.few, by omega, by omega, sz.zk, fun u Hk sk hdk => ?_⟩
    have tk := tj.mono sk
    have nk := nj.mono sk
    have Bk := Bj.same sk
    refine ⟨_, rfl, u, nt, _, rfl, hdk, by rw [ans_near _ (Nat.le_refl N)]; exact nk.all, ask_fine tk sz (by omega) (by omega), _, rfl, iteF ?_⟩
    clear tj nj Bj sk hdk
    -- more rounds
    obtain ⟨r18, e18, zr18, zNr18⟩ : ∃ r : Nat, (10 : Int) ^ (18 : Int).toNat = ((r : Nat) : Int) ∧ r ≤ 2 ^ 62 ∧ 2 ^ 31 < r := ⟨1000000000000000000, by decide, by decide, by decide⟩
    refine ⟨_, rfl, _, _, rfl, rfl, _, rfl, _, _, rfl, rfl, _, rfl, G, Ku.hide b Hk, b, 60, rfl, Bk.hide, by decide, by decide, fun w1 Hl w10 w11 Bl => ⟨_, _, rfl, rfl, ?_⟩⟩
    have tl := tk.next Bk.x Bl.le
    have nl := nk.next Bk.x Bl.le
    have Bl := Bk.back Bl
    clear tk nk Bk
    refine ⟨_, _, rfl, rfl, ⟨by decide, by decide, by decide⟩, _, _, rfl, rfl, ⟨by decide, by decide, by decide⟩, _, rfl, _, _, rfl, rfl, ⟨by decide, by decide, by decide⟩, G, Ku.hide b Hl, b, _, rfl, Bl.hide, by decide, by decide, fun w2 Hm w20 w21 Bm => ⟨_, _, rfl, rfl, by show 4 ≤ sizeLine; decide, fun la hla => ⟨la, rfl, ⟨_, SqL.of upd_same⟩, ?_⟩⟩⟩
    have tm := tl.next Bl.x Bm.le
    have nm := nl.next Bl.x Bm.le
    have Bm := Bl.back Bm
    clear tl nl Bl
    have e9 : (10 : Int) ^ (9 : Int).toNat = 1000000000 := by decide
    rw [e9] at w21
    simp only [e18]
    have sA := Same.new (o := .lst [.int (((N : Nat) : Int) + 1), .int (((N : Nat) : Int) + 2 + w1), .int (r18 : Nat), .int (((r18 : Nat) : Int) - w2)]) hla
    have tn := tm.mono sA
    have nn := nm.mono sA
    have Bn := Bm.same sA
    have hln : upd Hm la (.lst [.int (((N : Nat) : Int) + 1), .int (((N : Nat) : Int) + 2 + w1), .int (r18 : Nat), .int (((r18 : Nat) : Int) - w2)]) la = some _ := upd_same
    clear sA tm nm Bm hla
    generalize upd Hm la (.lst [.int (((N : Nat) : Int) + 1), .int (((N : Nat) : Int) + 2 + w1), .int (r18 : Nat), .int (((r18 : Nat) : Int) - w2)]) = Hn at tn nn Bn hln ⊢
    refine for_listD (K := K) (a := la) (xs := [.int (((N : Nat) : Int) + 1), .int (((N : Nat) : Int) + 2 + w1), .int (r18 : Nat), .int (((r18 : Nat) : Int) - w2)]) (fun i' σ H' => Same Hn H' ∧ ∃ v14 v15 : Option V, σ = [some (.ref sa), some (.ref b), some (.int (0 + (i : Nat))), some (.ref lk), some (.ref lb), some (.ref lr), some (.ref ta), some (.ref fa), some (.int (N : Nat)), some (.ref x), some (.ref rc), some fv, some (.ref nt), some (.int (fw : Nat)), v14, v15, v16])
      ⟨Same.refl _, v14, v15, rfl⟩ (fun i σ H' _ h => SqL.of (h.1 _ _ hln)) ?_ ?_
    · rintro j y σ Ho hy ⟨so, v14, v15, rfl⟩
      obtain ⟨r, rfl, hr1, hr2⟩ : ∃ r : Nat, y = .int (r : Nat) ∧ N < r ∧ r ≤ 2 ^ 62 := by
        match j, hy with
        | 0, hy => cases hy; exact ⟨N + 1, rfl, by omega, by omega⟩
        | 1, hy => cases hy; exact ⟨N + 2 + w1.toNat, congrArg V.int (by omega), by omega, by omega⟩
        | 2, hy => cases hy; exact ⟨r18, rfl, by omega, zr18⟩
        | 3, hy => cases hy; exact ⟨r18 - w2.toNat, congrArg V.int (by omega), by omega, by omega⟩
        | _ + 4, hy => cases hy
      refine ⟨_, rfl, s2z, fun d1 hd1 => ?_⟩
      have s1 := Same.new (o := .tup [.str "many", .int (N : Nat)]) hd1
      have t1 := tn.mono (so.trans s1)
      have h1d : upd Ho d1 (.tup [.str "many", .int (N : Nat)]) d1 = some (.tup [.str "many", .int (N : Nat)]) := upd_same
      have s01 := so.trans s1
      clear s1 so hd1
      generalize upd Ho d1 (.tup [.str "many", .int (N : Nat)]) = H1 at t1 h1d s01 ⊢
      cases ef : KM.findP (KM.paperB B R ts (KM.roundG B R fs fun _ => 0)) N with
      | none =>
        have hv := t1.pa
        rw [ef] at hv
        have hv : fv = .non := hv
        subst hv
        have eA : ansOf B R ts (KM.roundG B R fs fun _ => 0) N r = .many := by rw [ans_far hr1, ef]
        refine ⟨_, rfl, _, rfl, iteFe (by rw [decide_eq_true rfl]; rfl) ?_⟩
        refine ⟨_, rfl, _, rfl, _, rfl, _, rfl, _, rfl, x, ta, fa, r, N, B, R, as, bs, ts, fs, rfl, t1.sc.en, t1.tk, .inl t1.fk, sz.ne, sz.zB, sz.zR, t1.fk.few, by omega, hr2, sz.zk, fun u Hu su hdu => ?_⟩
        refine ⟨_, rfl, u, d1, _, rfl, hdu, ?_, ask_fine t1 sz (by omega) hr2, _, rfl, iteF ⟨s01.trans su, _, _, rfl⟩⟩
        rw [eA]
        exact .tup (SqT.of (su _ _ h1d)) (.cons (.str _) (.cons (.int _) .nil))
      | some xx =>
        obtain ⟨l, n⟩ := xx
        obtain ⟨g1, g2, _⟩ := KM.findP_some ef
        have g1 : l < n := g1
        have g2 : n ≤ N := g2
        have hv := t1.pa
        rw [ef] at hv
        obtain ⟨t0, bo, rfl, ht0, hbo⟩ := hv
        have eA : ansOf B R ts (KM.roundG B R fs fun _ => 0) N r = .told (KM.counted (KM.after B R ts (KM.roundG B R fs fun _ => 0)) (l, n) r) := by rw [ans_far hr1, ef]
        obtain ⟨ra, ma, rs, ms, k1, k2, k3, zrs, zms, hrs, hms⟩ := t1.rc
        refine ⟨_, rfl, _, rfl, iteTe (by rw [decide_eq_false (fun h => nomatch h)]; rfl) ?_⟩
        refine ⟨_, rfl, rc, _, 0, .ref ra, rfl, rfl, SqT.of k1, at_ofA (j := 0) rfl rfl, _, rfl, _, rfl, ra, t0, bo, l, n, N, r, B, R, rs, KM.after B R ts (KM.roundG B R fs fun _ => 0), rfl, k2, ht0, zrs, hrs, g1, g2, by omega, by omega, hr2, sz.zk, fun dr H3 s3 hd3 => ⟨s2z, fun d2 hd2 => ?_⟩⟩
        have s4 := s3.trans (Same.new (o := .tup [.str "told", .ref dr]) hd2)
        have nr2 : Nr K (kinds B R) (KM.counted (KM.after B R ts (KM.roundG B R fs fun _ => 0)) (l, n) r) (upd H3 d2 (.tup [.str "told", .ref dr])) d2 dr := ⟨upd_same, dp_same (Same.new hd2) hd3⟩
        refine ⟨_, rfl, _, rfl, _, rfl, _, rfl, _, rfl, x, ta, fa, r, N, B, R, as, bs, ts, fs, rfl, (t1.mono s4).sc.en, (t1.mono s4).tk, .inl (t1.mono s4).fk, sz.ne, sz.zB, sz.zR, (t1.mono s4).fk.few, by omega, hr2, sz.zk, fun u Hu su hdu => ?_⟩
        refine ⟨_, rfl, u, d2, _, rfl, hdu, ?_, ask_fine t1 sz (by omega) hr2, _, rfl, iteF ⟨(s01.trans s4).trans su, _, _, rfl⟩⟩
        rw [eA]
        exact (nr2.mono su).all
    rintro σ Ho ⟨so, v14, v15, rfl⟩
    have tp := tn.mono so
    have np1 := nn.mono so
    have Bp := Bn.same so
    clear tn nn Bn so hln v0 v1 w10 w11 w20 w21 e18 zr18 zNr18 e9
    have sz1 : ∀ {n : Nat}, n ≤ 100 → n ≤ sizeLine := fun h => Nat.le_trans h (by decide)
    -- a smaller limit
    refine ⟨fun σ' H' => Same Ho H' ∧ σ' = [some (.ref sa), some (.ref b), some (.int (0 + (i : Nat))), some (.ref lk), some (.ref lb), some (.ref lr), some (.ref ta), some (.ref fa), some (.int (N : Nat)), some (.ref x), some (.ref rc), some fv, some (.ref nt), some (.int (fw : Nat)), v14, v15, v16], ?_, ?_⟩
    · cases ef : KM.findP (KM.paperB B R ts (KM.roundG B R fs fun _ => 0)) N with
      | none =>
        have hv := tp.pa
        rw [ef] at hv
        have hv : fv = .non := hv
        subst hv
        exact ⟨_, rfl, _, rfl, iteFe (by rw [decide_eq_true rfl]; rfl) (iteF ⟨Same.refl _, rfl⟩)⟩
      | some xx =>
        obtain ⟨l, n⟩ := xx
        obtain ⟨g1, g2, _, _, g3⟩ := KM.findP_some ef
        have g1 : l < n := g1
        have g2 : n ≤ N := g2
        have g3 : ∀ m, m < n → KM.findP (KM.paperB B R ts (KM.roundG B R fs fun _ => 0)) m = none := g3
        have hv := tp.pa
        rw [ef] at hv
        obtain ⟨t0, bo, rfl, ht0, hbo⟩ := hv
        have ht0 : Ho t0 = some (.tup [.int (l : Nat), .int (n : Nat), .ref bo]) := ht0
        refine ⟨_, rfl, _, rfl, iteTe (by rw [decide_eq_false (fun h => nomatch h)]; rfl) ?_⟩
        refine ⟨_, rfl, t0, _, 1, .int (n : Nat), rfl, rfl, SqT.of ht0, at_ofA (j := 1) rfl rfl, _, _, rfl, rfl, _, rfl, ?_⟩
        by_cases c1 : 1 < n
        · refine iteTe (decide_eq_true (by omega)) ?_
          obtain ⟨m', rfl⟩ : ∃ m', n = m' + 1 := ⟨n - 1, by omega⟩
          have en : (((m' + 1 : Nat) : Int) - 1) = ((m' : Nat) : Int) := by omega
          refine ⟨_, rfl, _, rfl, _, rfl, _, _, rfl, rfl, _, rfl, _, rfl, t0, _, 1, .int (m' + 1 : Nat), rfl, rfl, SqT.of ht0, at_ofA (j := 1) rfl rfl, _, _, rfl, rfl, x, ta, fa, N + 1, m', B, R, as, bs, ts, fs, by rw [← en]; rfl, tp.sc.en, tp.tk, .inl tp.fk, sz.ne, sz.zB, sz.zR, tp.fk.few, by omega, by omega, sz.zk, fun u Hu su hdu => ?_⟩
          have em : ansOf B R ts (KM.roundG B R fs fun _ => 0) m' (N + 1) = .many := by rw [ans_far (by omega), g3 m' (by omega)]
          rw [em] at hdu
          have hdu : Dp K Hu (.ref u) (.tuple [.str "many", .int (m' : Nat)]) := hdu
          refine ⟨_, rfl, t0, _, 1, .int (m' + 1 : Nat), rfl, rfl, SqT.of (su _ _ ht0), at_ofA (j := 1) rfl rfl, _, _, rfl, rfl, s2z, fun t2 ht2 => ?_⟩
          simp only [en]
          have fi := fine_many (N := m') (by omega)
          refine ⟨_, _, dp_same (Same.new ht2) hdu, .tup (SqT.of upd_same) (.cons (.str _) (.cons (.int _) .nil)), fi.sh, fi.sh, _, rfl, iteFe (by rw [eqv_refl _ fi.nd]; rfl) ?_⟩
          exact ⟨su.trans (Same.new ht2), rfl⟩
        · exact iteFe (decide_eq_false (by omega)) ⟨Same.refl _, rfl⟩
    rintro σ Hq ⟨sq, rfl⟩
    have tq := tp.mono sq
    have nq := np1.mono sq
    have Bq := Bp.same sq
    clear tp np1 Bp sq
    -- other first ones
    have las := tq.tk.tu.len
    have lbs := tq.fk.tu.len
    have zts' := tq.tk.few
    have zfs' := tq.fk.few
    refine ⟨by show 0 ≤ sizeLine; decide, fun e0 he0 => ⟨_, rfl, _, rfl, fa, ta, _, _, rfl, rfl, (Same.new he0) _ _ tq.fk.at_, (Same.new he0) _ _ tq.tk.at_, sz1 (by rw [List.length_map, List.length_map]; omega), fun cc hcc => ⟨_, rfl, by show 3 ≤ sizeLine; decide, fun tt htt => ⟨tt, rfl, ⟨_, SqT.of upd_same⟩, ?_⟩⟩⟩⟩
    have s1 := Same.new (o := .lst []) he0
    have s2 := Same.new (o := .lst (bs.map V.ref ++ as.map V.ref)) hcc
    have s3 := Same.new (o := .tup [.ref e0, .ref cc, .ref fa]) htt
    have he := s3 _ _ (s2 _ _ (upd_same (H := Hq) (a := e0) (o := .lst [])))
    have hc := s3 _ _ (upd_same (H := upd Hq e0 (.lst [])) (a := cc) (o := .lst (bs.map V.ref ++ as.map V.ref)))
    have ht : upd (upd (upd Hq e0 (.lst [])) cc (.lst (bs.map V.ref ++ as.map V.ref))) tt (.tup [.ref e0, .ref cc, .ref fa]) tt = some _ := upd_same
    have tr := tq.mono ((s1.trans s2).trans s3)
    have nr := nq.mono ((s1.trans s2).trans s3)
    have Br := Bq.same ((s1.trans s2).trans s3)
    clear s1 s2 s3 he0 hcc htt tq nq Bq
    generalize upd (upd (upd Hq e0 (.lst [])) cc (.lst (bs.map V.ref ++ as.map V.ref))) tt (.tup [.ref e0, .ref cc, .ref fa]) = Hr at he hc ht tr nr Br ⊢
    have k1 : Tk Hr e0 [] [] := ⟨he, .nil, fun s hs => by simp at hs, by simp⟩
    have k2 : Tk Hr cc (bs ++ as) (fs ++ ts) := ⟨by rw [List.map_append]; exact hc, tr.fk.tu.app tr.tk.tu, fun s hs => by
      rcases List.mem_append.mp hs with h | h
      · exact tr.fk.good s h
      · exact tr.tk.good s h, by rw [List.length_append]; omega⟩
    refine for_tupD (K := K) (a := tt) (xs := [.ref e0, .ref cc, .ref fa]) (fun i' σ H' => Same Hr H' ∧ ∃ v16 : Option V, σ = [some (.ref sa), some (.ref b), some (.int (0 + (i : Nat))), some (.ref lk), some (.ref lb), some (.ref lr), some (.ref ta), some (.ref fa), some (.int (N : Nat)), some (.ref x), some (.ref rc), some fv, some (.ref nt), some (.int (fw : Nat)), v14, v15, v16])
      ⟨Same.refl _, _, rfl⟩ (fun i σ H' _ h => SqT.of (h.1 _ _ ht)) ?_ ?_
    · rintro j y σ H1 hy ⟨s1, v16, rfl⟩
      obtain ⟨f', bs', fs', rfl, fk'⟩ : ∃ (f' : Addr) (bs' : List Addr) (fs' : List (List Str)), y = .ref f' ∧ Tk Hr f' bs' fs' := by
        match j, hy with
        | 0, hy => cases hy; exact ⟨_, _, _, rfl, k1⟩
        | 1, hy => cases hy; exact ⟨_, _, _, rfl, k2⟩
        | 2, hy => cases hy; exact ⟨_, _, _, rfl, tr.fk⟩
        | _ + 3, hy => cases hy
      have t1 := tr.mono s1
      exact ⟨_, rfl, _, rfl, _, rfl, _, rfl, _, rfl, _, rfl, x, lb, lr, ta, f', N, B, R, as, bs', ts, fs', rfl, t1.sc, sz, t1.tk, fk'.mono s1, by omega, fun Hu su => ⟨_, rfl, iteF ⟨s1.trans su, _, rfl⟩⟩⟩
    rintro σ Hs ⟨ss, v16', rfl⟩
    have ts1 := tr.mono ss
    have ns := nr.mono ss
    have Bs := Br.same ss
    clear tr nr Br ss k1 k2 he hc ht
    -- few rounds behind far ones
    obtain ⟨ra, ma, rs, ms, k1, k2, k3, zrs, zms, hrs, hms⟩ := ts1.rc
    obtain ⟨tr, er, fr⟩ := rows_at (l := rs) (n := fw) (by omega)
    obtain ⟨rp, rq, hrow, L⟩ := hrs fw tr er
    refine ⟨_, rfl, _, rfl, rc, _, 0, .ref ra, rfl, rfl, SqT.of k1, at_ofA (j := 0) rfl rfl, _, rfl, ra, _, _, .ref tr, rfl, rfl, SqL.of k2, at_ofA (j := fw) rfl fr, tr, _, 1, .ref rq, rfl, rfl, SqT.of hrow, at_ofA (j := 1) rfl rfl, rq, kinds B R, fun k => ((KM.after B R ts (KM.roundG B R fs fun _ => 0) fw k : Nat) : Int), rfl, L.go, kset_pw _, kset_nodup _, by omega, fun H3 np2 s3 fnp hnp => ⟨s2z, fun d1 hd1 => ⟨s2z, fun p1 hp1 => ⟨_, rfl, _, rfl, s2z, fun p2 hp2 => ⟨s2z, fun lc hlc => ⟨lc, rfl, ⟨_, SqL.of upd_same⟩, ?_⟩⟩⟩⟩⟩⟩
    have nr1 : Nr K (kinds B R) (fun k => ((KM.after B R ts (KM.roundG B R fs fun _ => 0) fw k : Nat) : Int)) (upd H3 d1 (.tup [.str "told", .ref np2])) d1 np2 := ⟨upd_same, dp_same (Same.new hd1) hnp⟩
    have s4 := s3.trans (Same.new (o := .tup [.str "told", .ref np2]) hd1)
    clear s3 hd1 hnp fnp hrow L er fr hrs hms k1 k2 k3 zrs zms
    generalize upd H3 d1 (.tup [.str "told", .ref np2]) = H4 at nr1 s4 hp1 hp2 hlc ⊢
    have s5 := Same.new (o := .tup [.int (fw : Nat), .ref d1]) hp1
    have s6 := Same.new (o := .tup [.int (N : Nat), .ref nt]) hp2
    have s7 := Same.new (o := .lst [.ref p1, .ref p2]) hlc
    have h1 := s7 _ _ (s6 _ _ (upd_same (H := H4) (a := p1) (o := .tup [.int (fw : Nat), .ref d1])))
    have h2 := s7 _ _ (upd_same (H := upd H4 p1 (.tup [.int (fw : Nat), .ref d1])) (a := p2) (o := .tup [.int (N : Nat), .ref nt]))
    have h3 : upd (upd (upd H4 p1 (.tup [.int (fw : Nat), .ref d1])) p2 (.tup [.int (N : Nat), .ref nt])) lc (.lst [.ref p1, .ref p2]) lc = some _ := upd_same
    have s57 := (s5.trans s6).trans s7
    have nr1 := nr1.mono s57
    have s8 := s4.trans s57
    have tt1 := ts1.mono s8
    have nt1 := ns.mono s8
    have Bt := Bs.same s8
    clear s57 s5 s6 s7 s4 s8 hp1 hp2 hlc ts1 ns Bs
    generalize upd (upd (upd H4 p1 (.tup [.int (fw : Nat), .ref d1])) p2 (.tup [.int (N : Nat), .ref nt])) lc (.lst [.ref p1, .ref p2]) = Ht at h1 h2 h3 nr1 tt1 nt1 Bt ⊢
    refine for_listD (K := K) (a := lc) (xs := [.ref p1, .ref p2]) (fun i' σ H' => Same Ht H' ∧ ∃ v14 v15 : Option V, σ = [some (.ref sa), some (.ref b), some (.int (0 + (i : Nat))), some (.ref lk), some (.ref lb), some (.ref lr), some (.ref ta), some (.ref fa), some (.int (N : Nat)), some (.ref x), some (.ref rc), some fv, some (.ref nt), some (.int (fw : Nat)), v14, v15, v16'])
      ⟨Same.refl _, _, _, rfl⟩ (fun i σ H' _ h => SqL.of (h.1 _ _ h3)) ?_ ?_
    · rintro j y σ H1 hy ⟨s1, v14, v15, rfl⟩
      obtain ⟨p, r, d, np', rfl, hp, hr, nr'⟩ : ∃ (p : Addr) (r : Nat) (d np' : Addr), y = .ref p ∧ Ht p = some (.tup [.int (r : Nat), .ref d]) ∧ r ≤ N ∧ Nr K (kinds B R) (fun k => ((KM.after B R ts (KM.roundG B R fs fun _ => 0) r k : Nat) : Int)) Ht d np' := by
        match j, hy with
        | 0, hy => cases hy; exact ⟨_, _, _, _, rfl, h1, zfw, nr1⟩
        | 1, hy => cases hy; exact ⟨_, _, _, _, rfl, h2, Nat.le_refl N, nt1⟩
        | _ + 2, hy => cases hy
      have t1 := tt1.mono s1
      refine ⟨p, _, rfl, SqT.of (s1 _ _ hp), rfl, _, _, rfl, _, _, rfl, rfl, ?_⟩
      refine ⟨_, rfl, _, rfl, _, rfl, _, rfl, _, rfl, x, ta, fa, r, N, B, R, as, bs, ts, fs, rfl, t1.sc.en, t1.tk, .inl t1.fk, sz.ne, sz.zB, sz.zR, t1.fk.few, by omega, by omega, sz.zk, fun u Hu su hdu => ?_⟩
      exact ⟨_, rfl, u, d, _, rfl, hdu, by rw [ans_near _ hr]; exact ((nr'.mono s1).mono su).all, ask_fine t1 sz (by omega) (by omega), _, rfl, iteF ⟨s1.trans su, _, _, rfl⟩⟩
    rintro σ Hu ⟨su, v14', v15', rfl⟩
    have tu := tt1.mono su
    have Bu := Bt.same su
    clear tt1 nt1 Bt su nr1 h1 h2 h3
    -- one take more in the very list
    refine ⟨_, rfl, .inl ⟨rfl, _, SqL.of tu.tk.at_⟩, _, rfl, _, rfl, G, Ku.hide b Hu, b, lk, ks, rfl, Bu.hide, SqL.of (hide_at (Bu.x.neS tu.hk) tu.hk), hks1, by omega, gk.nd, fun st sl Hv Hw sv Bw fst hst snd smm sl1 sl2 => ?_⟩
    have tw := tu.next Bu.x (sv.trans Bw.le)
    have hst := Bw.le _ _ hst
    have Bw := Bu.back (Bw.low sv Bu.hide.cl)
    refine ⟨ta, _, _, rfl, rfl, tw.tk.at_, ?_, ?_⟩
    · rw [List.length_map]
      exact Nat.lt_of_le_of_lt (show as.length ≤ 40 by omega) (by decide)
    have sU : Same (Ku.hide ta Hw) (upd Hw ta (.lst (as.map V.ref ++ [.ref st]))) := fun a o h => by
      by_cases c : a = ta
      · rw [c, hide_same] at h; cases h
      · rw [hide_ne c] at h; rw [upd_ne c]; exact h
    have tup_ne : ∀ {a : Addr} {l : List V}, Hw a = some (.tup l) → a ≠ ta := fun {a l} h => ne_of h tw.tk.at_ fun z => nomatch z
    have tk' : Tk (upd Hw ta (.lst (as.map V.ref ++ [.ref st]))) ta (as ++ [st]) (ts ++ [sl]) := ⟨by rw [upd_same, List.map_append]; rfl, Tups.snoc (tw.tk.tu.mono fun a xs e => sU _ _ (hide_at (tup_ne e) e)) (sU _ _ (hide_at (tup_ne hst) hst)), fun s hs => by
      rcases List.mem_append.mp hs with h | h
      · exact tw.tk.good s h
      · rw [List.mem_singleton.mp h]
        exact ⟨snd, by omega, fun k hk => gk.kd k (smm k hk)⟩, by rw [List.length_append]; show ts.length + 1 ≤ 30; omega⟩
    have fk' : Tk (upd Hw ta (.lst (as.map V.ref ++ [.ref st]))) fa bs fs := ⟨sU _ _ (hide_at nfa tw.fk.at_), tw.fk.tu.mono fun a xs e => sU _ _ (hide_at (tup_ne e) e), tw.fk.good, tw.fk.few⟩
    have sc' : Scn K B R (upd Hw ta (.lst (as.map V.ref ++ [.ref st]))) x lb lr := ⟨tw.aw.mono sU, sU _ _ (hide_at nlb tw.hB), sU _ _ (hide_at nlr tw.hR)⟩
    have Bx' : Bag G H00 (upd Hw ta (.lst (as.map V.ref ++ [.ref st]))) b := Bw.mut f00 nta
    exact ⟨_, rfl, _, rfl, _, rfl, _, rfl, _, rfl, _, rfl, x, lb, lr, ta, fa, N, B, R, as ++ [st], bs, ts ++ [sl], fs, rfl, sc', sz, tk', fk', by omega, fun H' s' => ⟨_, rfl, iteF ⟨Bx'.same s', _, _, _, _, _, _, _, _, _, _, _, _, _, _, _, rfl⟩⟩⟩
end
end Ku

/-! KuEnd -/
set_option Elab.async false
set_option linter.all false
set_option maxRecDepth 100000
set_option maxHeartbeats 0
namespace Ku
open PySem PySem.Spec PyProof.Rows L2
theorem facts {P : Program} {w : World} {K : PySem.W.Frag} {h : Heap} {mg : Str → Option Value} {f : Addr} (X : K.In h) (G : h.Ns mainGlobals mg) (hfa : mg ("law" : Str) = some (.ref f)) (c : He.SaysD fa fn K) (cx : exB K = true) :
    ∃ fd : FuncData, (∀ (s : Shared) (v : Value), BindsTo s fd ⟨[v], []⟩ [("_law_script", v)]) ∧ ∀ base : Heap, K.In base → base.Ns mainGlobals mg → FnG P w K mg base CX0 8 f fd ["_law_script"] (spLaw K) := by
  have Z : Say K mg := ⟨c, cx, h, X, G⟩
  obtain ⟨fd, F⟩ := Z.D_law
  have e := hfa.symm.trans Z.g_law
  cases e
  have b := FunD.bindsA (ps := ["_law_script"]) F fun _ _ _ _ _ _ us hl => match us, hl with | [_], _ => rfl
  exact ⟨fd, fun s v => b s [v] rfl, fun base _ _ => ok_law Z F⟩
end Ku
open PySem PySem.W PySem.Calls PyProof.Rows
theorem PySem.Challenge.cw_kindundo_k62_whole_removed_far_holds : PySem.Challenge.rw_kindundo_k62_whole_removed_far.Holds := by
  w_on; o_law
  refine HandSHeadRun.head_any (r := OpenLaw.row PySem.Challenge.rw_kindundo_k62_whole_removed_far) (q := view (OpenLaw.row PySem.Challenge.rw_kindundo_k62_whole_removed_far).prog [Ku.lawAt]) (H := Ku.hk) (ob := Ku.ob) (M := 4000) (loose := Ku.loose) (d := HandSHeadRun.topDef (OpenLaw.row PySem.Challenge.rw_kindundo_k62_whole_removed_far).prog Ku.lawAt) (kwd := []) Ku.ob_eq
    (by kernel_rfl) (fun s => by kernel_rfl) Ku.run (by kernel_rfl) (by kernel_rfl) (by kernel_rfl) (by rfl) (by first | assumption | decide +kernel) (by decide +kernel) ⟨rfl, rfl, rfl, rfl, rfl, by decide +kernel⟩ ?hw ?hc
  case hw => w_witness2
  case hc =>
    refine Ku.walk_ofG (l := PySem.Challenge.rw_kindundo_k62_whole_removed_far) (n := 63) (k := 8) (x := "_law_script") rfl (by decide) (by kernel_rfl) ⟨rfl, by decide, by decide⟩ ?F
    intro w mg fa h Y G hmg0
    obtain ⟨K, KX, c, cx⟩ := Y
    have hmg : mg ("law" : PySem.Str) = some (.ref fa) := by
      have e : (HandSHeadRun.topDef (OpenLaw.row PySem.Challenge.rw_kindundo_k62_whole_removed_far).prog Ku.lawAt).name = ("law" : PySem.Str) := by kernel_rfl
      rw [← e]
      exact hmg0
    obtain ⟨fd, hb, hF⟩ := Ku.facts (P := (PySem.Challenge.rw_kindundo_k62_whole_removed_far).prog) (w := w) KX G hmg c cx
    exact ⟨K, fd, Ku.spLaw K, KX, hb, fun H a ns hl _ hS => ⟨a, ns, rfl, hS, by omega, fun _ => rfl⟩, hF⟩

