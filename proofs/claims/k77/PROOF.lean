import PyProof.Rows.All
import Wide.All
import OpenK.AllK
import Wide.FinOn
import HandS.ForMost
import HandS.Flow
import HandS.Style
import HandS.Small
import HandS.TupAny
import HandS.SetKeys
import HandS.DictComp
import HandS.IsInst
import HandS.IterVal
import HandS.OwnIter
import HandS.Evl
import HandS.More
import HandS.Defaults
import HandS.ListItems
import KE.SortData
import PySem.Challenge.RW_missedmarks_k77_whole_a_greater_hold
import HandS.Head0
import HandS.Head1
import HandS.Head2
import HandS.HeadEnd
import HandS.HeadHook1
import HandS.HeadHook2
import HandS.Steps
import HandS.Walk
import PyProof.DictUpdate
import KE.KAssignIn
import HandS.OwnEq
import KE.KItemsList
import KE.KDictList
import HandS.DictTup
import HandS.SortRule
import KE.GoesEnum
import HandS.Set
import HandS.SetFor
import HandS.Strs
import KE.KStateDown
set_option Elab.async false
set_option linter.all false
set_option maxRecDepth 100000
set_option maxHeartbeats 4000000
namespace K7
open PySem PySem.Spec PyProof.Rows L2

/-! ### the text -/
def top (i : Nat) : Stmt := PySem.Challenge.pw_missedmarks_k77_whole_a_greater_hold.main.body.getD i (.Pass ⟨0, 0, 0, 0⟩)

/-! ### what is owned: F frozen things, L cells that may change, R the caller's -/
abbrev Cell := Addr × HO
structure Ow (F : Hp) (L : List Cell) (H : Hp) : Prop where
  le : Same F H
  own : ∀ p ∈ L, H p.1 = some p.2
  off : ∀ p ∈ L, F p.1 = none
  nd : (L.map (·.1)).Nodup

section
variable {F F' H H' : Hp} {L L' : List Cell} {p : Addr} {o o' : HO}
theorem Ow.mem (O : Ow F L H) {n : Nat} (h : L[n]? = some (p, o)) : H p = some o := O.own (p, o) (List.mem_of_getElem? h)
theorem Ow.get (O : Ow F L H) (n : Nat) {p : Addr} {o : HO} (h : L[n]? = some (p, o) := by rfl) : H p = some o := O.mem h
theorem Ow.fz (O : Ow F L H) (h : F p = some o) : H p = some o := O.le p o h
theorem Ow.offAt (O : Ow F L H) (n : Nat) {p : Addr} {o : HO} (h : L[n]? = some (p, o) := by rfl) : F p = none := O.off (p, o) (List.mem_of_getElem? h)
theorem Ow.freeF (O : Ow F L H) (h : H p = none) : F p = none := O.le.free h
/-- a new cell -/
theorem Ow.new (O : Ow F L H) (h : H p = none) : Ow F ((p, o) :: L) (upd H p o) where
  le := fun b u e => by rw [upd_ne (ne_of_none (O.le _ _ e) h)]; exact O.le _ _ e
  own := fun q hq => by
    rcases List.mem_cons.mp hq with rfl | hq
    · exact upd_same
    · rw [upd_ne (ne_of_none (O.own q hq) h)]; exact O.own q hq
  off := fun q hq => by
    rcases List.mem_cons.mp hq with rfl | hq
    · exact O.freeF h
    · exact O.off q hq
  nd := by
    refine List.nodup_cons.mpr ⟨fun hm => ?_, O.nd⟩
    obtain ⟨q, hq, e⟩ := List.mem_map.mp hm
    have z := O.own q hq
    rw [show q.1 = p from e, h] at z
    cases z
/-- a cell is written -/
theorem Ow.set (O : Ow F L H) (n : Nat) {p : Addr} {o : HO} (o' : HO) (h : L[n]? = some (p, o) := by rfl) : Ow F (L.set n (p, o')) (upd H p o') where
  le := fun b u e => by
    rw [upd_ne (fun z => by rw [z, O.offAt n h] at e; cases e)]
    exact O.le _ _ e
  own := fun q hq => by
    obtain ⟨i, hi⟩ := List.getElem?_of_mem hq
    by_cases e : n = i
    · subst e
      rw [List.getElem?_set_self (by have := (List.getElem?_eq_some_iff.mp h).1; omega)] at hi
      cases hi
      exact upd_same
    · rw [List.getElem?_set_ne e] at hi
      rw [upd_ne (fun z => e ?_)]
      · exact O.own q (List.mem_of_getElem? hi)
      · have hm : (L.map (·.1))[n]? = (L.map (·.1))[i]? := by
          rw [List.getElem?_map, List.getElem?_map, h, hi]
          exact congrArg some z.symm
        have hl : n < (L.map (·.1)).length := by
          have := (List.getElem?_eq_some_iff.mp h).1
          simpa using this
        exact (List.getElem?_inj hl O.nd).mp hm
  off := fun q hq => by
    obtain ⟨i, hi⟩ := List.getElem?_of_mem hq
    by_cases e : n = i
    · subst e
      rw [List.getElem?_set_self (by have := (List.getElem?_eq_some_iff.mp h).1; omega)] at hi
      cases hi
      exact O.offAt n h
    · rw [List.getElem?_set_ne e] at hi
      exact O.off q (List.mem_of_getElem? hi)
  nd := by
    have e : (L.set n (p, o')).map (·.1) = L.map (·.1) := by
      rw [List.map_set]
      apply List.ext_getElem?
      intro i
      by_cases q : n = i
      · subst q
        have hl := (List.getElem?_eq_some_iff.mp h).1
        rw [List.getElem?_set_self (by simpa using hl), List.getElem?_map, h]
        rfl
      · rw [List.getElem?_set_ne q]
    rw [e]
    exact O.nd
theorem Ow.sub (O : Ow F L H) (h : L'.Sublist L) : Ow F L' H := ⟨O.le, fun q hq => O.own q (h.subset hq), fun q hq => O.off q (h.subset hq), (h.map _).nodup O.nd⟩
theorem Ow.drop (O : Ow F ((p, o) :: L) H) : Ow F L H := O.sub (List.sublist_cons_self _ _)
theorem Ow.perm (O : Ow F L H) (h : L.Perm L') : Ow F L' H := ⟨O.le, fun q hq => O.own q (h.mem_iff.mpr hq), fun q hq => O.off q (h.mem_iff.mpr hq), (h.map _).nodup_iff.mp O.nd⟩
/-- the n-th cell first -/
theorem Ow.top (O : Ow F L H) (n : Nat) {c : Cell} (h : L[n]? = some c := by rfl) : Ow F (c :: L.eraseIdx n) H := O.perm (erase_perm L n c h).symm
/-- a cell is frozen -/
theorem Ow.freeze (O : Ow F ((p, o) :: L) H) : Ow (upd F p o) L H where
  le := fun b u e => by
    by_cases z : b = p
    · subst z; rw [upd_same] at e; cases e; exact O.get 0
    · rw [upd_ne z] at e; exact O.le _ _ e
  own := fun q hq => O.own q (List.mem_cons_of_mem _ hq)
  off := fun q hq => by
    have : q.1 ≠ p := fun z => (List.nodup_cons.mp O.nd).1 (List.mem_map.mpr ⟨q, hq, z⟩)
    rw [upd_ne this]
    exact O.off q (List.mem_cons_of_mem _ hq)
  nd := (List.nodup_cons.mp O.nd).2
theorem Ow.fle (O : Ow F ((p, o) :: L) H) : Same F (upd F p o) := fun b u e => by
  rw [upd_ne (fun z => by rw [z, O.offAt 0] at e; cases e)]
  exact e
end
end K7

set_option Elab.async false
set_option linter.all false
set_option maxRecDepth 100000
set_option maxHeartbeats 0
namespace K7Hd
open PySem PySem.Spec PyProof.Rows L2 K7
/-! ### the head, run once by the kernel: ahead of the walks, where the file's memory is still small -/
abbrev s_as_tuples : Stmt := top 4
abbrev s_View_init : Stmt := inClass (top 8) 0
abbrev s_View_len : Stmt := inClass (top 8) 1
abbrev s_View_iter : Stmt := inClass (top 8) 2
abbrev s_View_read_time : Stmt := inClass (top 8) 3
abbrev s_View_gaps : Stmt := inClass (top 8) 4
abbrev s_View_held : Stmt := inClass (top 8) 5
abbrev s_View_many_at : Stmt := inClass (top 8) 6
abbrev s_Fit_init : Stmt := inClass (top 9) 0
abbrev s_Fit_next_of : Stmt := inClass (top 9) 1
abbrev s_Fit_aged : Stmt := inClass (top 9) 2
abbrev s_Fit_can_be : Stmt := inClass (top 9) 3
abbrev s_Fit_shared : Stmt := inClass (top 9) 4
abbrev s_Fit_choices : Stmt := inClass (top 9) 5
abbrev s_Fit_fill : Stmt := inClass (top 9) 6
abbrev s_Fit_bounds : Stmt := inClass (top 9) 7
abbrev s_fits : Stmt := top 10
abbrev s_can_be : Stmt := top 11
abbrev s_look_can_be : Stmt := top 12
abbrev s_missed_at : Stmt := top 13
abbrev s_missed_places : Stmt := top 14
abbrev s_doubtful : Stmt := top 15
abbrev s_w_box : Stmt := top 17
abbrev s_w_take : Stmt := top 18
abbrev s_w_of : Stmt := top 19
abbrev s_w_bare : Stmt := top 20
abbrev s_w_leave : Stmt := top 21
abbrev s_w_swept : Stmt := top 22
abbrev s_w_heard : Stmt := top 23
abbrev s_w_did : Stmt := top 24
abbrev s_w_run : Stmt := top 25
abbrev s_w_event : Stmt := top 26
abbrev s_w_moved : Stmt := top 27
abbrev s_w_table : Stmt := top 28
abbrev s_w_many : Stmt := top 29
abbrev s_w_tale : Stmt := top 30
abbrev s_w_drawn_broom : Stmt := top 31
abbrev s_w_view : Stmt := top 32
abbrev s_w_some : Stmt := top 33
abbrev s_w_gaps : Stmt := top 34
abbrev s_w_good : Stmt := top 35
abbrev s_w_without : Stmt := top 36
abbrev s_w_right : Stmt := top 37
abbrev s_law : Stmt := top 38
def d_as_tuples : He.DefD := ⟨("as_tuples", none), "as_tuples", "as_tuples", defArgs s_as_tuples, defBody s_as_tuples, defScope s_as_tuples, [], []⟩
def d_View_init : He.DefD := ⟨("View", some "__init__"), "__init__", "View.__init__", defArgs s_View_init, defBody s_View_init, defScope s_View_init, [], []⟩
def d_View_len : He.DefD := ⟨("View", some "__len__"), "__len__", "View.__len__", defArgs s_View_len, defBody s_View_len, defScope s_View_len, [], []⟩
def d_View_iter : He.DefD := ⟨("View", some "__iter__"), "__iter__", "View.__iter__", defArgs s_View_iter, defBody s_View_iter, defScope s_View_iter, [], []⟩
def d_View_read_time : He.DefD := ⟨("View", some "read_time"), "read_time", "View.read_time", defArgs s_View_read_time, defBody s_View_read_time, defScope s_View_read_time, [], []⟩
def d_View_gaps : He.DefD := ⟨("View", some "gaps"), "gaps", "View.gaps", defArgs s_View_gaps, defBody s_View_gaps, defScope s_View_gaps, [], []⟩
def d_View_held : He.DefD := ⟨("View", some "held"), "held", "View.held", defArgs s_View_held, defBody s_View_held, defScope s_View_held, [], []⟩
def d_View_many_at : He.DefD := ⟨("View", some "many_at"), "many_at", "View.many_at", defArgs s_View_many_at, defBody s_View_many_at, defScope s_View_many_at, [], []⟩
def d_Fit_init : He.DefD := ⟨("Fit", some "__init__"), "__init__", "Fit.__init__", defArgs s_Fit_init, defBody s_Fit_init, defScope s_Fit_init, [], []⟩
def d_Fit_next_of : He.DefD := ⟨("Fit", some "next_of"), "next_of", "Fit.next_of", defArgs s_Fit_next_of, defBody s_Fit_next_of, defScope s_Fit_next_of, [], []⟩
def d_Fit_aged : He.DefD := ⟨("Fit", some "aged"), "aged", "Fit.aged", defArgs s_Fit_aged, defBody s_Fit_aged, defScope s_Fit_aged, [], []⟩
def d_Fit_can_be : He.DefD := ⟨("Fit", some "can_be"), "can_be", "Fit.can_be", defArgs s_Fit_can_be, defBody s_Fit_can_be, defScope s_Fit_can_be, [], []⟩
def d_Fit_shared : He.DefD := ⟨("Fit", some "shared"), "shared", "Fit.shared", defArgs s_Fit_shared, defBody s_Fit_shared, defScope s_Fit_shared, [], []⟩
def d_Fit_choices : He.DefD := ⟨("Fit", some "choices"), "choices", "Fit.choices", defArgs s_Fit_choices, defBody s_Fit_choices, defScope s_Fit_choices, [], []⟩
def d_Fit_fill : He.DefD := ⟨("Fit", some "fill"), "fill", "Fit.fill", defArgs s_Fit_fill, defBody s_Fit_fill, defScope s_Fit_fill, [], []⟩
def d_Fit_bounds : He.DefD := ⟨("Fit", some "bounds"), "bounds", "Fit.bounds", defArgs s_Fit_bounds, defBody s_Fit_bounds, defScope s_Fit_bounds, [], []⟩
def d_fits : He.DefD := ⟨("fits", none), "fits", "fits", defArgs s_fits, defBody s_fits, defScope s_fits, [], []⟩
def d_can_be : He.DefD := ⟨("can_be", none), "can_be", "can_be", defArgs s_can_be, defBody s_can_be, defScope s_can_be, [], []⟩
def d_look_can_be : He.DefD := ⟨("look_can_be", none), "look_can_be", "look_can_be", defArgs s_look_can_be, defBody s_look_can_be, defScope s_look_can_be, [], []⟩
def d_missed_at : He.DefD := ⟨("missed_at", none), "missed_at", "missed_at", defArgs s_missed_at, defBody s_missed_at, defScope s_missed_at, [], []⟩
def d_missed_places : He.DefD := ⟨("missed_places", none), "missed_places", "missed_places", defArgs s_missed_places, defBody s_missed_places, defScope s_missed_places, [], []⟩
def d_doubtful : He.DefD := ⟨("doubtful", none), "doubtful", "doubtful", defArgs s_doubtful, defBody s_doubtful, defScope s_doubtful, [], []⟩
def d_w_box : He.DefD := ⟨("_law_box", none), "_law_box", "_law_box", defArgs s_w_box, defBody s_w_box, defScope s_w_box, [], []⟩
def d_w_take : He.DefD := ⟨("_law_take", none), "_law_take", "_law_take", defArgs s_w_take, defBody s_w_take, defScope s_w_take, [], []⟩
def d_w_of : He.DefD := ⟨("_law_of", none), "_law_of", "_law_of", defArgs s_w_of, defBody s_w_of, defScope s_w_of, [], []⟩
def d_w_bare : He.DefD := ⟨("_law_bare", none), "_law_bare", "_law_bare", defArgs s_w_bare, defBody s_w_bare, defScope s_w_bare, [], []⟩
def d_w_leave : He.DefD := ⟨("_law_leave", none), "_law_leave", "_law_leave", defArgs s_w_leave, defBody s_w_leave, defScope s_w_leave, [], []⟩
def d_w_swept : He.DefD := ⟨("_law_swept", none), "_law_swept", "_law_swept", defArgs s_w_swept, defBody s_w_swept, defScope s_w_swept, [], []⟩
def d_w_heard : He.DefD := ⟨("_law_heard", none), "_law_heard", "_law_heard", defArgs s_w_heard, defBody s_w_heard, defScope s_w_heard, [], []⟩
def d_w_did : He.DefD := ⟨("_law_did", none), "_law_did", "_law_did", defArgs s_w_did, defBody s_w_did, defScope s_w_did, [], []⟩
def d_w_run : He.DefD := ⟨("_law_run", none), "_law_run", "_law_run", defArgs s_w_run, defBody s_w_run, defScope s_w_run, [], []⟩
def d_w_event : He.DefD := ⟨("_law_event", none), "_law_event", "_law_event", defArgs s_w_event, defBody s_w_event, defScope s_w_event, [], []⟩
def d_w_moved : He.DefD := ⟨("_law_moved", none), "_law_moved", "_law_moved", defArgs s_w_moved, defBody s_w_moved, defScope s_w_moved, [], []⟩
def d_w_table : He.DefD := ⟨("_law_table", none), "_law_table", "_law_table", defArgs s_w_table, defBody s_w_table, defScope s_w_table, [], []⟩
def d_w_many : He.DefD := ⟨("_law_many", none), "_law_many", "_law_many", defArgs s_w_many, defBody s_w_many, defScope s_w_many, [], []⟩
def d_w_tale : He.DefD := ⟨("_law_tale", none), "_law_tale", "_law_tale", defArgs s_w_tale, defBody s_w_tale, defScope s_w_tale, [], []⟩
def d_w_drawn_broom : He.DefD := ⟨("_law_drawn_broom", none), "_law_drawn_broom", "_law_drawn_broom", defArgs s_w_drawn_broom, defBody s_w_drawn_broom, defScope s_w_drawn_broom, [], []⟩
def d_w_view : He.DefD := ⟨("_law_view", none), "_law_view", "_law_view", defArgs s_w_view, defBody s_w_view, defScope s_w_view, [], []⟩
def d_w_some : He.DefD := ⟨("_law_some", none), "_law_some", "_law_some", defArgs s_w_some, defBody s_w_some, defScope s_w_some, [], []⟩
def d_w_gaps : He.DefD := ⟨("_law_gaps", none), "_law_gaps", "_law_gaps", defArgs s_w_gaps, defBody s_w_gaps, defScope s_w_gaps, [], []⟩
def d_w_good : He.DefD := ⟨("_law_good", none), "_law_good", "_law_good", defArgs s_w_good, defBody s_w_good, defScope s_w_good, [], []⟩
def d_w_without : He.DefD := ⟨("_law_without", none), "_law_without", "_law_without", defArgs s_w_without, defBody s_w_without, defScope s_w_without, [], []⟩
def d_w_right : He.DefD := ⟨("_law_right", none), "_law_right", "_law_right", defArgs s_w_right, defBody s_w_right, defScope s_w_right, [], []⟩
def d_law : He.DefD := ⟨("law", none), "law", "law", defArgs s_law, defBody s_law, defScope s_law, [], []⟩
def fn : List He.DefD := [d_as_tuples, d_View_init, d_View_len, d_View_iter, d_View_read_time, d_View_gaps, d_View_held, d_View_many_at, d_Fit_init, d_Fit_next_of, d_Fit_aged, d_Fit_can_be, d_Fit_shared, d_Fit_choices, d_Fit_fill, d_Fit_bounds, d_fits, d_can_be, d_look_can_be, d_missed_at, d_missed_places, d_doubtful, d_w_box, d_w_take, d_w_of, d_w_bare, d_w_leave, d_w_swept, d_w_heard, d_w_did, d_w_run, d_w_event, d_w_moved, d_w_table, d_w_many, d_w_tale, d_w_drawn_broom, d_w_view, d_w_some, d_w_gaps, d_w_good, d_w_without, d_w_right, d_law]
def fa0 : List He.Fa := [.glo "as_tuples", .glo "View", .glo "Fit", .glo "fits", .glo "can_be", .glo "look_can_be", .glo "missed_at", .glo "missed_places", .glo "doubtful", .glo "_law_box", .glo "_law_take", .glo "_law_of", .glo "_law_bare", .glo "_law_leave", .glo "_law_swept"]
def fa1 : List He.Fa := [.glo "_law_heard", .glo "_law_did", .glo "_law_run", .glo "_law_event", .glo "_law_moved", .glo "_law_table", .glo "_law_many", .glo "_law_tale", .glo "_law_drawn_broom", .glo "_law_view", .glo "_law_some", .glo "_law_gaps", .glo "_law_good", .glo "_law_without", .glo "_law_right"]
def fa2 : List He.Fa := [.glo "law", .free "len", .free "int", .free "abs", .free "range", .free "enumerate", .free "min", .free "tuple", .free "list", .free "dict", .free "sorted", .free "set", .free "isinstance", .free "iter", .free "any"]
def fa3 : List He.Fa := [.free "all", .cls "View", .noat "View" "own_reads", .noat "View" "own_times", .noat "View" "own_got", .noat "View" "own_rows", .meth "View" "__len__", .meth "View" "__iter__", .meth "View" "read_time", .meth "View" "gaps", .meth "View" "held", .meth "View" "many_at", .mkr "View", .cls "Fit", .noat "Fit" "own_view"]
def fa4 : List He.Fa := [.noat "Fit" "own_hold", .noat "Fit" "own_known", .noat "Fit" "own_lows", .noat "Fit" "own_highs", .noat "Fit" "own_left", .noat "Fit" "own_keys", .noat "Fit" "own_marks", .meth "Fit" "next_of", .meth "Fit" "aged", .meth "Fit" "can_be", .meth "Fit" "shared", .meth "Fit" "choices", .meth "Fit" "fill", .meth "Fit" "bounds", .mkr "Fit"]
def fa : List He.Fa := fa0 ++ fa1 ++ fa2 ++ fa3 ++ fa4
def names0 : List PySem.Str := ["_wall", "as_tuples", "CannotBe", "View", "Fit", "fits", "can_be", "look_can_be", "missed_at", "missed_places", "doubtful", "_law_box"]
def names1 : List PySem.Str := ["_law_take", "_law_of", "_law_bare", "_law_leave", "_law_swept", "_law_heard", "_law_did", "_law_run", "_law_event", "_law_moved", "_law_table", "_law_many"]
def names2 : List PySem.Str := ["_law_tale", "_law_drawn_broom", "_law_view", "_law_some", "_law_gaps", "_law_good", "_law_without", "_law_right", "PUT", "DROP"]
def names : List PySem.Str := names0 ++ names1 ++ names2
abbrev R : PySem.W.OpenRow := PySem.W.OpenLaw.row PySem.Challenge.rw_missedmarks_k77_whole_a_greater_hold
abbrev hk : PySem.W.Hook := He.hookD 5 fa fn
def ob (s : PySem.W.SharedT) : He.AlD := He.obsDG 5 fa fn (HandSHeadRun.getT s)
theorem ob_eq (s : PySem.W.SharedT) : ob s = hk.obs s.abs := He.obsDG_eq (HandSHeadRun.getT_eq s)
theorem run (w : World) : HandSHeadRun.RunEq R (PySem.W.view R.prog [38]) hk ob 30000 names w := by
  intro os
  kernel_rfl
end K7Hd

set_option Elab.async false
set_option linter.all false
set_option maxRecDepth 100000
set_option maxHeartbeats 4000000
namespace K7
open PySem PySem.Spec PyProof.Rows L2

/-! ### defs as they stand, and as they are proved -/
abbrev Src (K : PySem.W.Frag) (x qual : Str) (st : Stmt) (f : Addr) : Prop := ∃ fd, FunD K x qual (defArgs st) (defBody st) (defScope st) [] [] f fd
abbrev Bd (x qual : Str) (st : Stmt) (ps : List Str) : Prop := ∀ (kV doc pm : Value) (an : Option Addr) (cdv ct : Value) (us : List Value), us.length = ps.length →
  bindArgs (PySem.W.fnOf x qual (defArgs st) (defBody st) (defScope st) .none kV doc pm an cdv ct) ⟨us, []⟩ = pure (ps.zip us)
/-- a def at f keeps its promise -/
structure Fn (P : Program) (w : World) (K : PySem.W.Frag) (mg : Str → Option Value) (base : Heap) (f : Addr) (ps : List Str) (k : Nat) (sp : Sp) : Prop where
  ex : ∃ fd, PySem.W.keepIn K (.ref f) = true ∧ Binds K fd ps [] ∧ FnOk P w K mg base CX0 k f fd ps sp
/-- .. a global's -/
structure Def (P : Program) (w : World) (K : PySem.W.Frag) (mg : Str → Option Value) (base : Heap) (x : Str) (ps : List Str) (k : Nat) (sp : Sp) : Prop where
  ex : ∃ f, mg x = some (.ref f) ∧ Fn P w K mg base f ps k sp
/-- .. a method's -/
structure Mth (P : Program) (w : World) (K : PySem.W.Frag) (mg : Str → Option Value) (base : Heap) (C : Addr) (m : Str) (ps : List Str) (k : Nat) (sp : Sp) : Prop where
  ex : ∃ f, Meth K C m f ∧ Fn P w K mg base f ps k sp
/-- a class that is made by its __init__ -/
structure Mak (P : Program) (w : World) (K : PySem.W.Frag) (mg : Str → Option Value) (base : Heap) (x : Str) (C : Addr) (ps : List Str) (k : Nat) (sp : Sp) : Prop where
  mgC : mg x = some (.ref C)
  ex : ∃ f, Mk K C f ∧ Fn P w K mg base f ps k sp

section
variable {P : Program} {w : World} {K : PySem.W.Frag} {mg : Str → Option Value} {base : Heap} {x qual : Str} {st : Stmt} {f : Addr} {N ps : List Str} {k : Nat} {sp : Sp}
/-- the context of such a def's body -/
abbrev cx (P : Program) (w : World) (K : PySem.W.Frag) (mg : Str → Option Value) (base : Heap) (N : List Str) (qual : Str) (st : Stmt) (f : Addr) (cdv : Value) (A : Around) (outer : List Env) (s : Shared) (H : Hp) (E : XK) : Cx :=
  (cxOf CX0 P w K mg base N qual (defScope st) f cdv A outer s H E).nox
theorem fn_mk (S : Src K x qual st f) (sc : FnScope N ps (defScope st)) (b : Bd x qual st ps) (len : ∀ vs H Q E, sp vs H Q E → vs.length = ps.length)
    (hbody : ∀ (cdv : Value) (A : Around) (outer : List Env) (s : Shared) (H : Hp) (vs : List V) (Q : VK) (E : XK), Room k (A.deeper (envOfC qual (defScope st) s.heap.objs.size f cdv)) → sp vs H Q E →
      ∃ t, PSs (cx P w K mg base N qual st f cdv A outer s H E) (defBody st) t ∧ t { nx := fun _ H' => Q .non H', rt := Q } (start N vs) H) : Fn P w K mg base f ps (k + 1) sp := by
  obtain ⟨fd, F⟩ := S
  refine ⟨fd, F.kp, F.bindsN b, F.ok sc len fun cdv A outer s H vs Q E hr h => ?_⟩
  obtain ⟨t, h1, h2⟩ := hbody cdv A outer s H vs Q E hr h
  exact ⟨t, h1.nox, h2⟩
theorem Fn.mono {j : Nat} (F : Fn P w K mg base f ps j sp) (h : j ≤ k) : Fn P w K mg base f ps k sp := by
  obtain ⟨fd, a, b, c⟩ := F.ex
  exact ⟨fd, a, b, c.mono h⟩
theorem Def.mono {j : Nat} (F : Def P w K mg base x ps j sp) (h : j ≤ k) : Def P w K mg base x ps k sp := by
  obtain ⟨f, a, b⟩ := F.ex
  exact ⟨f, a, b.mono h⟩
end

section
variable {X : Cx} {k : Nat} {ps : List Str} {sp : Sp} {x m : Str} {C : Addr} {p pos apos : Pos} {e o : Expr} {es : List Expr} {ta : TE} {t : TA}
theorem pe_def (D : Def X.prog X.w X.K X.mg X.base x ps k sp) (hr : Room k X.A) (hg : Gl X x) (ha : PA X (e :: es) t) (hdb : (x == ("__debug__" : Str)) = false := by decide)
    (he : starEach (e :: es) X.env = (false, eval e X.env) :: starEach es X.env := by rfl) (hpl : (backTo pos (starEach es X.env)).any (·.1) = false := by rfl) : PE X (.Call (.Name x p) (e :: es) [] pos) (tCall sp [] E0 t) := by
  obtain ⟨f, hm, fd, hk, hb, F⟩ := D.ex
  exact pe_call F hr hg hm hk hb .nil pass0 ha hdb he hpl
theorem pe_def0 (D : Def X.prog X.w X.K X.mg X.base x ps k sp) (hr : Room k X.A) (hg : Gl X x) (hdb : (x == ("__debug__" : Str)) = false := by decide) : PE X (.Call (.Name x p) [] [] pos) (tCall sp [] E0 tNil) := by
  obtain ⟨f, hm, fd, hk, hb, F⟩ := D.ex
  exact pe_call0 F hr hg hm hk hb .nil pass0 hdb
end
end K7

set_option Elab.async false
set_option linter.all false
set_option maxRecDepth 100000
set_option maxHeartbeats 4000000
namespace K7
open PySem PySem.Spec PyProof.Rows L2

/-! ### calls of built-ins, by named readings -/
def qLen (K : PySem.W.Frag) : List V → Hp → VK → Prop := fun xs H Q => ∃ p ys, xs = [.ref p] ∧ (SqL K H p ys ∨ SqT K H p ys) ∧ Q (.int ys.length) H
def qLenS : List V → Hp → VK → Prop := fun xs H Q => ∃ z, xs = [.str z] ∧ z.length ≤ sizeLine ∧ Q (.int z.length) H
def qInt : List V → Hp → VK → Prop := fun xs H Q => ∃ i, xs = [.int i] ∧ Q (.int i) H
def qIntB : List V → Hp → VK → Prop := fun xs H Q => ∃ k, xs = [.bl k] ∧ Q (.int (if k then 1 else 0)) H
def qAbs : List V → Hp → VK → Prop := fun xs H Q => ∃ i, xs = [.int i] ∧ Q (.int (if i < 0 then -i else i)) H
def qTupL (K : PySem.W.Frag) : List V → Hp → VK → Prop := fun xs H Q => ∃ p ys, xs = [.ref p] ∧ SqL K H p ys ∧ ∀ l, H l = none → Q (.ref l) (upd H l (.tup ys))
def qListT (K : PySem.W.Frag) : List V → Hp → VK → Prop := fun xs H Q => ∃ p ys, xs = [.ref p] ∧ SqT K H p ys ∧ ∀ l, H l = none → Q (.ref l) (upd H l (.lst ys))
section
variable {X : Cx}
theorem cl_len : CallR X (.builtin "len") (qLen X.K) := call_len_seq
theorem cl_lenS : CallR X (.builtin "len") qLenS := call_len_str
theorem cl_int : CallR X (.type "int") qInt := fun pins s σ H xs us Q I r ⟨i, e, q⟩ => call_int1 pins s σ H xs us Q I r (.inl ⟨i, e, q⟩)
theorem cl_intB : CallR X (.type "int") qIntB := fun pins s σ H xs us Q I r ⟨i, e, q⟩ => call_int1 pins s σ H xs us Q I r (.inr ⟨i, e, q⟩)
theorem cl_abs : CallR X (.builtin "abs") qAbs := call_abs
theorem cl_tupL : CallR X (.type "tuple") (qTupL X.K) := fun pins s σ H xs us Q I r ⟨p, ys, e, h, q⟩ => call_tuple_of pins s σ H xs us Q I r ⟨p, ys, e, .inl ⟨h, q⟩⟩
theorem cl_listT : CallR X (.type "list") (qListT X.K) := fun pins s σ H xs us Q I r ⟨p, ys, e, h, q⟩ => call_list_of pins s σ H xs us Q I r ⟨p, ys, e, .inr h, q⟩
end

/-! ### readings, a step each -/
section
variable {σ : L2.St} {H : Hp} {Q : VK} {QT : Bool → Hp → Prop} {QA : List V → Hp → Prop} {i : Nat} {v x y : V} {ta tb te : TE} {tA tB' : TT} {t tr : TA} {K : PySem.W.Frag} {D : Ends} {g : TG} {ts tu : TS} {a : Addr}
theorem rd_var (h : σ[i]? = some (some v)) (q : Q v H) : tVar i σ H Q := ⟨v, h, q⟩
theorem rd_c (q : Q v H) : tC v σ H Q := q
theorem rd_op {r : R2} (q : ta σ H fun x H1 => tb σ H1 fun y H2 => r x y H2 Q) : tOp r ta tb σ H Q := q
theorem rd_I0 {f : Int → Int → V} {m n : Int} (q : Q (f m n) H) : rI0 f (.int m) (.int n) H Q := ⟨m, n, rfl, rfl, q⟩
theorem rd_I {C : Int → Int → Prop} {f : Int → Int → V} {m n : Int} (c : C m n) (q : Q (f m n) H) : rI C f (.int m) (.int n) H Q := ⟨m, n, rfl, rfl, c, q⟩
theorem rd_eq (s : scal x y = true) (q : Q (.bl (decide (x = y))) H) : rEq x y H Q := ⟨s, q⟩
theorem rd_ne (s : scal x y = true) (q : Q (.bl (!decide (x = y))) H) : rNe x y H Q := ⟨s, q⟩
theorem rd_isN (q : Q (.bl (decide (x = .non))) H) : rIsN x .non H Q := ⟨rfl, q⟩
theorem rd_notN (q : Q (.bl (!decide (x = .non))) H) : rNotN x .non H Q := ⟨rfl, q⟩
theorem rd_isNr {a : Addr} (q : Q (.bl false) H) : rIsN (.ref a) .non H Q := ⟨rfl, q⟩
theorem rd_notNr {a : Addr} (q : Q (.bl true) H) : rNotN (.ref a) .non H Q := ⟨rfl, q⟩
theorem rd_isNn (q : Q (.bl true) H) : rIsN .non .non H Q := ⟨rfl, q⟩
theorem rd_notNn (q : Q (.bl false) H) : rNotN .non .non H Q := ⟨rfl, q⟩
theorem rd_isNi {n : Int} (q : Q (.bl false) H) : rIsN (.int n) .non H Q := ⟨rfl, q⟩
theorem rd_notNi {n : Int} (q : Q (.bl true) H) : rNotN (.int n) .non H Q := ⟨rfl, q⟩
theorem rd_CB {r : List V → Hp → VK → Prop} (q : t σ H fun vs H1 => r vs H1 Q) : tCB r t σ H Q := q
theorem rd_cons (q : ta σ H fun x H1 => tr σ H1 fun xs H2 => QA (x :: xs) H2) : tCons ta tr σ H QA := q
theorem rd_nil (q : QA [] H) : tNil σ H QA := q
theorem rd_tTest (q : te σ H fun x H' => ∃ k, x = .bl k ∧ QT k H') : tTest te σ H QT := q
theorem rd_tB (q : te σ H fun x H' => ∃ k, x = .bl k ∧ QT k H') : tB te σ H QT := q
theorem rd_ex {b : Bool} {R : Bool → Prop} (q : R b) : ∃ k, V.bl b = .bl k ∧ R k := ⟨b, rfl, q⟩
theorem rd_and (q : tA σ H fun c H1 => if c = true then tB' σ H1 QT else QT false H1) : tAnd tA tB' σ H QT := q
theorem rd_or (q : tA σ H fun c H1 => if c = true then QT true H1 else tB' σ H1 QT) : tOr tA tB' σ H QT := q
theorem rd_not (q : tA σ H fun c H1 => QT (!c) H1) : tNot tA σ H QT := q
theorem rd_if (q : tA σ H fun c H1 => if c = true then ta σ H1 Q else tb σ H1 Q) : tIf tA ta tb σ H Q := q
theorem rd_ixL {p : Addr} {xs : List V} {n : Int} (h : SqL K H p xs) (e : atI xs n = some v) (q : Q v H) : rIxL K (.ref p) (.int n) H Q := ⟨p, xs, n, v, rfl, rfl, h, e, q⟩
theorem rd_ixT {p : Addr} {xs : List V} {n : Int} (h : SqT K H p xs) (e : atI xs n = some v) (q : Q v H) : rIxT K (.ref p) (.int n) H Q := ⟨p, xs, n, v, rfl, rfl, h, e, q⟩
theorem rd_len {p : Addr} {ys : List V} (h : SqL K H p ys) (q : Q (.int ys.length) H) : qLen K [.ref p] H Q := ⟨p, ys, rfl, .inl h, q⟩
theorem rd_lenT {p : Addr} {ys : List V} (h : SqT K H p ys) (q : Q (.int ys.length) H) : qLen K [.ref p] H Q := ⟨p, ys, rfl, .inr h, q⟩
theorem rd_lenS {z : Str} (h : z.length ≤ sizeLine) (q : Q (.int z.length) H) : qLenS [.str z] H Q := ⟨z, rfl, h, q⟩
theorem rd_int {n : Int} (q : Q (.int n) H) : qInt [.int n] H Q := ⟨n, rfl, q⟩
theorem rd_intB {b : Bool} (q : Q (.int (if b then 1 else 0)) H) : qIntB [.bl b] H Q := ⟨b, rfl, q⟩
theorem rd_abs {n : Int} (q : Q (.int (if n < 0 then -n else n)) H) : qAbs [.int n] H Q := ⟨n, rfl, q⟩
theorem rd_tup (q : t σ H fun xs H1 => xs.length ≤ sizeLine ∧ ∀ p, H1 p = none → Q (.ref p) (upd H1 p (.tup xs))) : tTup t σ H Q := q
theorem rd_lst (q : t σ H fun xs H1 => xs.length ≤ sizeLine ∧ ∀ p, H1 p = none → Q (.ref p) (upd H1 p (.lst xs))) : tLst t σ H Q := q
theorem rd_dnew (q : ∀ p, H p = none → Q (.ref p) (upd H p (.dK []))) : tDNewK σ H Q := q
-- several at once
theorem rd_opVC {r : R2} {c : V} (h : σ[i]? = some (some x)) (q : r x c H Q) : tOp r (tVar i) (tC c) σ H Q := ⟨x, h, q⟩
theorem rd_opVV {r : R2} {j : Nat} (h : σ[i]? = some (some x)) (h' : σ[j]? = some (some y)) (q : r x y H Q) : tOp r (tVar i) (tVar j) σ H Q := ⟨x, h, y, h', q⟩
theorem rd_opV {r : R2} (h : σ[i]? = some (some x)) (q : tb σ H fun y H2 => r x y H2 Q) : tOp r (tVar i) tb σ H Q := ⟨x, h, q⟩
theorem rd_opC {r : R2} {c : V} (q : ta σ H fun x H1 => r x c H1 Q) : tOp r ta (tC c) σ H Q := q
theorem rd_CB1 {r : List V → Hp → VK → Prop} (q : ta σ H fun x H1 => r [x] H1 Q) : tCB r (tCons ta tNil) σ H Q := q
theorem rd_CB1V {r : List V → Hp → VK → Prop} (h : σ[i]? = some (some x)) (q : r [x] H Q) : tCB r (tCons (tVar i) tNil) σ H Q := ⟨x, h, q⟩
theorem rd_consV (h : σ[i]? = some (some x)) (q : tr σ H fun xs H2 => QA (x :: xs) H2) : tCons (tVar i) tr σ H QA := ⟨x, h, q⟩
theorem rd_cons0 (q : ta σ H fun x H1 => QA [x] H1) : tCons ta tNil σ H QA := q
theorem rd_consC {c : V} (q : tr σ H fun xs H2 => QA (c :: xs) H2) : tCons (tC c) tr σ H QA := q
theorem rd_sSet {j : Nat} {nx bk ct : L2.St → Hp → Prop} {rt : VK} (q : te σ H fun x H1 => tu ⟨nx, rt, bk, ct⟩ (σ.set j (some x)) H1) : tSeq (tAsg te (gName j)) tu ⟨nx, rt, bk, ct⟩ σ H := q
theorem rd_sSet1 {j : Nat} {nx bk ct : L2.St → Hp → Prop} {rt : VK} (q : te σ H fun x H1 => nx (σ.set j (some x)) H1) : tAsg te (gName j) ⟨nx, rt, bk, ct⟩ σ H := q
theorem rd_tTestOp {r : R2} (q : ta σ H fun x H1 => tb σ H1 fun y H2 => r x y H2 fun z H' => ∃ k, z = .bl k ∧ QT k H') : tTest (tOp r ta tb) σ H QT := q
theorem rd_lt {m n : Int} (q : QT (decide (m < n)) H) : rI0 (fun i j => .bl (decide (i < j))) (.int m) (.int n) H (fun z H' => ∃ k, z = .bl k ∧ QT k H') := ⟨m, n, rfl, rfl, _, rfl, q⟩
theorem rd_gt {m n : Int} (q : QT (decide (n < m)) H) : rI0 (fun i j => .bl (decide (j < i))) (.int m) (.int n) H (fun z H' => ∃ k, z = .bl k ∧ QT k H') := ⟨m, n, rfl, rfl, _, rfl, q⟩
theorem rd_le {m n : Int} (q : QT (decide (m ≤ n)) H) : rI0 (fun i j => .bl (decide (i ≤ j))) (.int m) (.int n) H (fun z H' => ∃ k, z = .bl k ∧ QT k H') := ⟨m, n, rfl, rfl, _, rfl, q⟩
theorem rd_ge {m n : Int} (q : QT (decide (n ≤ m)) H) : rI0 (fun i j => .bl (decide (j ≤ i))) (.int m) (.int n) H (fun z H' => ∃ k, z = .bl k ∧ QT k H') := ⟨m, n, rfl, rfl, _, rfl, q⟩
-- dicts
theorem rd_dget (q : ta σ H fun x H1 => tb σ H1 fun y H2 => ∃ a v, x = .ref a ∧ DGet H2 a y (some v) ∧ Q v H2) : tDGet ta tb σ H Q := q
theorem rd_din (q : ta σ H fun y H1 => tb σ H1 fun x H2 => ∃ a o, x = .ref a ∧ DGet H2 a y o ∧ Q (.bl o.isSome) H2) : tDIn ta tb σ H Q := q
theorem rd_dnotin (q : ta σ H fun y H1 => tb σ H1 fun x H2 => ∃ a o, x = .ref a ∧ DGet H2 a y o ∧ Q (.bl (!o.isSome)) H2) : tDNotIn ta tb σ H Q := q
-- statements
theorem rd_seq (q : ts { D with nx := tu D } σ H) : tSeq ts tu D σ H := q
theorem rd_seqD {nx bk ct : L2.St → Hp → Prop} {rt : VK} (q : ts ⟨tu ⟨nx, rt, bk, ct⟩, rt, bk, ct⟩ σ H) : tSeq ts tu ⟨nx, rt, bk, ct⟩ σ H := q
theorem rd_asg (q : te σ H fun x H1 => g x σ H1 D.nx) : tAsg te g D σ H := q
theorem rd_ret (q : te σ H D.rt) : tRet te D σ H := q
theorem rd_retN (q : D.rt .non H) : tRetN D σ H := q
theorem rd_ifS (q : tA σ H fun b H1 => if b = true then ts D σ H1 else tu D σ H1) : tIfS tA ts tu D σ H := q
theorem rd_drop (q : te σ H fun _ H1 => D.nx σ H1) : tDrop te D σ H := q
theorem rd_next (q : D.nx σ H) : tNext D σ H := q
variable {QS : L2.St → Hp → Prop}
theorem rd_gName (q : QS (σ.set i (some v)) H) : gName i v σ H QS := q
theorem rd_gSub {t3 : TSet} (q : ta σ H fun o H1 => tb σ H1 fun i H2 => t3 o i v H2 fun H3 => QS σ H3) : gSub ta tb t3 v σ H QS := q
theorem rd_gTup {n : Nat} {xs : List V} {tg : TGs} (h : SqT K H a xs) (e : xs.length = n) (q : tg xs σ H QS) : gTup K n tg (.ref a) σ H QS := ⟨a, xs, rfl, h, e, q⟩
theorem rd_gCons {tg : TGs} {vs : List V} (q : g v σ H fun σ' H' => tg vs σ' H' QS) : gCons g tg (v :: vs) σ H QS := ⟨v, vs, rfl, q⟩
theorem rd_gNil (q : QS σ H) : gNil [] σ H QS := ⟨rfl, q⟩
theorem rd_par {i j : Nat} (q : t σ H fun vs H1 => ∃ v w, vs = [v, w] ∧ D.nx ((σ.set i (some v)).set j (some w)) H1) : tPar i j t D σ H := q
theorem rd_par3 {i j l : Nat} (q : t σ H fun vs H1 => ∃ u v w, vs = [u, v, w] ∧ D.nx (((σ.set i (some u)).set j (some v)).set l (some w)) H1) : tPar3 i j l t D σ H := q
theorem rd_ex2 {v w : V} {R : V → V → Prop} (q : R v w) : ∃ v' w', [v, w] = [v', w'] ∧ R v' w' := ⟨v, w, rfl, q⟩
theorem rd_ex3 {u v w : V} {R : V → V → V → Prop} (q : R u v w) : ∃ u' v' w', [u, v, w] = [u', v', w'] ∧ R u' v' w' := ⟨u, v, w, rfl, q⟩
-- calls
theorem rd_call {sp : Sp} {dvs : List V} {E : XK} (q : t σ H fun vs H1 => sp (vs ++ dvs) H1 Q E) : tCall sp dvs E t σ H Q := q
theorem br {c A B : Prop} [Decidable c] (h1 : c → A) (h2 : ¬ c → B) : if decide c = true then A else B := by
  by_cases h : c
  · rw [decide_eq_true h]; exact iteT (h1 h)
  · rw [decide_eq_false h]; exact iteF (h2 h)
theorem brn {c A B : Prop} [Decidable c] (h1 : ¬ c → A) (h2 : c → B) : if (!decide c) = true then A else B := by
  by_cases h : c
  · rw [decide_eq_true h]; exact iteF (h2 h)
  · rw [decide_eq_false h]; exact iteT (h1 h)
theorem brb {b : Bool} {A B : Prop} (h1 : b = true → A) (h2 : b = false → B) : if b = true then A else B := by
  cases b with
  | true => exact iteT (h1 rfl)
  | false => exact iteF (h2 rfl)
end
/-- xs[j] = v -/
theorem rd_setL {H : Hp} {p : Addr} {xs : List V} {n : Int} {j : Nat} {v : V} {Q : Hp → Prop} (h : H p = some (.lst xs)) (e : ixN xs.length n = some j) (q : Q (upd H p (.lst (xs.set j v)))) : rSetL (.ref p) (.int n) v H Q := ⟨p, xs, n, j, rfl, rfl, h, e, q⟩
/-- new things -/
theorem Ow.newF {F H : Hp} {L : List Cell} {p : Addr} {o : HO} (O : Ow F L H) (h : H p = none) : ∃ F1, Same F F1 ∧ F1 p = some o ∧ Ow F1 L (upd H p o) :=
  ⟨upd F p o, (O.new h).fle, upd_same, (O.new h).freeze⟩
theorem Ow.junk {F H : Hp} {L : List Cell} {p : Addr} {o : HO} (O : Ow F L H) (h : H p = none) : Ow F L (upd H p o) := (O.new h).drop
theorem szl {n : Nat} (h : n ≤ 100000) : n ≤ sizeLine := Nat.le_trans h (by decide)
theorem sztl {n : Nat} (h : n < 100000) : n < sizeLine := Nat.lt_of_lt_of_le h (by decide)
theorem atI_ex {α : Type} {xs : List α} {r : Int} (h0 : 0 ≤ r) (h1 : r < xs.length) : ∃ v, v ∈ xs ∧ xs[r.toNat]? = some v ∧ atI xs r = some v := by
  obtain ⟨j, rfl⟩ := Int.eq_ofNat_of_zero_le h0
  have hj : j < xs.length := by omega
  exact ⟨xs[j], List.getElem_mem hj, by simp, atI_nat (by simp)⟩
theorem atI_zero {α : Type} {x : α} {xs : List α} : atI (x :: xs) 0 = some x := atI_nat (j := 0) rfl
theorem atI_of {α : Type} {xs : List α} {r : Int} {v : α} (h0 : 0 ≤ r) (h : xs[r.toNat]? = some v) : atI xs r = some v := by
  obtain ⟨j, rfl⟩ := Int.eq_ofNat_of_zero_le h0
  exact atI_nat (by simpa using h)
end K7

set_option Elab.async false
set_option linter.all false
set_option maxRecDepth 100000
set_option maxHeartbeats 4000000
set_option pp.deepTerms false
set_option pp.maxSteps 600
namespace K7
open PySem PySem.Spec PyProof.Rows L2
local macro_rules | `(tactic| walk_at "hp") => `(tactic| with_unfolding_all first
  | exact Ow.get (by assumption) 0 | exact Ow.get (by assumption) 1 | exact Ow.get (by assumption) 2 | exact Ow.get (by assumption) 3
  | exact Ow.fz (by assumption) (by assumption)
  | exact Ow.get (by assumption) 4 | exact Ow.get (by assumption) 5 | exact Ow.get (by assumption) 6 | exact Ow.get (by assumption) 7 | exact Ow.get (by assumption) 8 | exact Ow.get (by assumption) 9)
local macro_rules | `(tactic| walk_at "sq") => `(tactic| with_unfolding_all first
  | exact SqL.of (by walk_at "hp") | exact SqT.of (by walk_at "hp") | assumption)
local macro_rules | `(tactic| walk_at "rd") => `(tactic| with_unfolding_all first
  | exact Rd.of (by walk_at "hp") | assumption)
local macro_rules | `(tactic| walk_at "dk") => `(tactic| assumption)
local macro_rules | `(tactic| walk_at "ai") => `(tactic| first | with_unfolding_all rfl | exact atI_zero | assumption)
local macro_rules | `(tactic| walk_at "sd") => `(tactic| with_unfolding_all first
  | rfl | assumption | decide | omega
  | exact ⟨by omega, by omega⟩ | exact Or.inl ⟨by omega, by omega⟩ | exact Or.inr ⟨by omega, by omega⟩ | exact ⟨by decide, by decide, by omega⟩)
local macro_rules | `(tactic| walk_at "sz") => `(tactic| first
  | with_unfolding_all exact szl (Nat.le_of_ble_eq_true rfl)
  | with_unfolding_all exact sztl (Nat.le_of_ble_eq_true rfl)
  | exact szl (by simp <;> omega)
  | exact sztl (by simp <;> omega))
local macro_rules | `(tactic| walk_at "s") => `(tactic| first
  | with_reducible refine rd_I0 ?_
  | ((with_reducible apply rd_I); (focus walk_at "sd"))
  | ((with_reducible apply rd_opVC); (focus with_unfolding_all rfl))
  | ((with_reducible apply rd_opVV); (focus with_unfolding_all rfl); (focus with_unfolding_all rfl))
  | ((with_reducible apply rd_opV); (focus with_unfolding_all rfl))
  | with_reducible refine rd_opC ?_
  | with_reducible refine rd_op ?_
  | ((with_reducible apply rd_var); (focus with_unfolding_all rfl))
  | with_reducible refine rd_c ?_
  | with_reducible refine rd_sSet ?_
  | ((with_reducible apply rd_CB1V); (focus with_unfolding_all rfl)) | with_reducible refine rd_CB1 ?_ | with_reducible refine rd_CB ?_
  | ((with_reducible apply rd_consV); (focus with_unfolding_all rfl)) | with_reducible refine rd_consC ?_ | with_reducible refine rd_cons0 ?_ | with_reducible refine rd_cons ?_ | with_reducible refine rd_nil ?_
  | ((with_reducible apply rd_ixL); (focus walk_at "sq"); (focus walk_at "ai"))
  | ((with_reducible apply rd_ixT); (focus walk_at "sq"); (focus walk_at "ai"))
  | with_reducible refine rd_int ?_ | with_reducible refine rd_intB ?_ | with_reducible refine rd_abs ?_
  | ((with_reducible apply rd_len); (focus walk_at "sq")) | ((with_reducible apply rd_lenT); (focus walk_at "sq"))
  | with_reducible refine rd_ifS ?_ | with_reducible refine iteT ?_ | with_reducible refine iteF ?_
  | with_reducible refine rd_tTest ?_ | with_reducible refine rd_tB ?_ | with_reducible refine rd_ex ?_
  | with_reducible refine rd_seqD ?_ | with_reducible refine rd_sSet1 ?_ | with_reducible refine rd_ret ?_ | with_reducible refine rd_drop ?_ | with_reducible refine rd_asg ?_
  | ((with_reducible apply rd_eq); (focus with_unfolding_all rfl)) | ((with_reducible apply rd_ne); (focus with_unfolding_all rfl))
  | with_reducible refine rd_isNr ?_ | with_reducible refine rd_notNr ?_ | with_reducible refine rd_isNn ?_ | with_reducible refine rd_notNn ?_ | with_reducible refine rd_isNi ?_ | with_reducible refine rd_notNi ?_
  | with_reducible refine rd_isN ?_ | with_reducible refine rd_notN ?_
  | with_reducible refine rd_and ?_ | with_reducible refine rd_or ?_ | with_reducible refine rd_not ?_ | with_reducible refine rd_if ?_
  | with_reducible refine rd_seq ?_ | with_reducible refine rd_gName ?_ | with_reducible refine rd_next ?_ | with_reducible refine rd_retN ?_
  | with_reducible refine rd_gSub ?_ | with_reducible refine rd_gCons ?_ | with_reducible refine rd_gNil ?_ | ((with_reducible apply rd_gTup); (focus walk_at "sq"); (focus with_unfolding_all rfl))
  | ((with_reducible apply rd_setL); (focus walk_at "hp"); (focus with_unfolding_all rfl))
  | with_reducible refine rd_par ?_ | with_reducible refine rd_par3 ?_ | with_reducible refine rd_ex2 ?_ | with_reducible refine rd_ex3 ?_
  | with_reducible refine rd_dget ?_ | with_reducible refine rd_din ?_ | with_reducible refine rd_dnotin ?_
  | with_reducible refine rd_tup ?_ | with_reducible refine rd_lst ?_ | with_reducible refine rd_dnew ?_
  | with_reducible refine rd_call ?_)
local macro_rules | `(tactic| walk_at "r") => `(tactic| repeat (walk_at "s"))
/-! ### the built-ins' names are free -/
structure Blt (mg : Str → Option Value) : Prop where
  len : mg "len" = none
  int : mg "int" = none
  abs : mg "abs" = none
  range : mg "range" = none
  enumerate : mg "enumerate" = none
  min : mg "min" = none
  tuple : mg "tuple" = none
  list : mg "list" = none
  dict : mg "dict" = none
  sorted : mg "sorted" = none
  set : mg "set" = none
  isinstance : mg "isinstance" = none
  iter : mg "iter" = none
  any : mg "any" = none
  all : mg "all" = none

/-! ### the source of draws -/
structure Bx where
  x : Int
  y : Int
  n : Int
structure BxOk (b : Bx) (N : Int) : Prop where
  x0 : 0 ≤ b.x
  y0 : 0 ≤ b.y
  y1 : b.y < 2147483648
  n0 : 0 ≤ b.n
  n1 : b.n ≤ N
abbrev Bx.o (b : Bx) : HO := .lst [.int b.x, .int b.y, .int b.n]
theorem BxOk.mono {b : Bx} {N M : Int} (h : BxOk b N) (l : N ≤ M) : BxOk b M := ⟨h.x0, h.y0, h.y1, h.n0, Int.le_trans h.n1 l⟩

def spTake : Sp := fun vs H Q _ => ∃ (F : Hp) (R : List Cell) (b : Addr) (bx : Bx) (span N : Int), vs = [.ref b, .int span] ∧ Ow F ((b, bx.o) :: R) H ∧ BxOk bx N ∧ N ≤ 1000000 ∧ 0 < span ∧ span < 1000000 ∧
  ∀ (r : Int) (bx' : Bx) (H' : Hp), 0 ≤ r → r < span → BxOk bx' (N + 1) → Ow F ((b, bx'.o) :: R) H' → Q (.int r) H'
section
variable {P : Program} {w : World} {K : PySem.W.Frag} {mg : Str → Option Value} {base : Heap}
abbrev s_w_take : Stmt := top 18
theorem sc_w_take : FnScope ["_law_box_here", "_law_span", "_law_once", "_law_odd", "_law_found"] ["_law_box_here", "_law_span"] (defScope s_w_take) := ⟨rfl, rfl, rfl, by decide +kernel, rfl, by decide +kernel, by decide +kernel⟩
theorem bd_w_take : Bd "_law_take" "_law_take" s_w_take ["_law_box_here", "_law_span"] := fun _ _ _ _ _ _ us hl => match us, hl with | [_, _], _ => rfl
/-! slots: 0 _law_box_here, 1 _law_span, 2 _law_once, 3 _law_odd, 4 _law_found -/
theorem ok_w_take {f : Addr} (S : Src K "_law_take" "_law_take" s_w_take f) (T : Blt mg) : Fn P w K mg base f ["_law_box_here", "_law_span"] 1 spTake := by
  refine fn_mk S sc_w_take bd_w_take (fun vs H Q E h => ?_) (fun cdv A outer s H vs Q E hr h => ?_)
  · obtain ⟨_, _, _, _, _, _, rfl, _⟩ := h
    rfl
  · obtain ⟨F, R, b, bx, span, N, rfl, O, ⟨x0, y0, y1, n0, n1⟩, hN, h1, h2, k⟩ := h
    refine ⟨_, (pss_cons (ps_if (pt_cmpR op_gt (pe_ix ix_list (pv 0) pe_int (fun _ _ => rfl)) pe_int (nomark _))
        (pss_cons (ps_set (i := 4) sc_w_take.nd rfl (Or.inl rfl) (pe_op op_mod (pe_callTy cl_int (by rfl) T.int (by decide +kernel) (pa_cons (pe_ix ix_list (pv 0) pe_int (fun _ _ => rfl)) pa_nil)) (pv 1)))
        (pss_cons (ps_asg (pe_op op_fdiv (pe_ix ix_list (pv 0) pe_int (fun _ _ => rfl)) (pv 1)) (pg_sub (pv 0) pe_int set_list))
        (pss_one (ps_ret (pv 4)))))
        pss_nil)
      (pss_cons (ps_asg (pe_op op_add (pe_ix ix_list (pv 0) pe_int (fun _ _ => rfl)) pe_int) (pg_sub (pv 0) pe_int set_list))
      (pss_cons (ps_set (i := 2) sc_w_take.nd rfl (Or.inl rfl) (pe_op op_mod (pe_callTy cl_int (by rfl) T.int (by decide +kernel) (pa_cons (pe_op op_pow (pe_op op_add (pe_ix ix_list (pv 0) pe_int (fun _ _ => rfl)) (pe_op op_mul pe_int (pe_ix ix_list (pv 0) pe_int (fun _ _ => rfl)))) pe_int) pa_nil)) pe_int))
      (pss_cons (ps_set (i := 3) sc_w_take.nd rfl (Or.inl rfl) (pe_op op_add (pe_op op_mod (pe_callTy cl_int (by rfl) T.int (by decide +kernel) (pa_cons (pv 2) pa_nil)) pe_int) pe_int))
      (pss_one (ps_ret (pe_op op_mod (pe_callTy cl_int (by rfl) T.int (by decide +kernel) (pa_cons (pe_op op_fdiv (pe_op op_mod (pe_callTy cl_int (by rfl) T.int (by decide +kernel) (pa_cons (pe_op op_add (pe_op op_mul (pv 2) (pv 3)) (pe_op op_mul (pe_ix ix_list (pv 0) pe_int (fun _ _ => rfl)) pe_int)) pa_nil)) pe_int) pe_int) pa_nil)) (pv 1)))))))), ?_⟩
    walk_at "r"
    refine br (fun hx => ?_) (fun hx => ?_)
    · walk_at "r"
      exact k _ ⟨_, bx.y, bx.n⟩ _ (Int.emod_nonneg _ (by omega)) (Int.emod_lt_of_pos _ h1) ⟨Int.ediv_nonneg x0 (by omega), y0, y1, n0, by show bx.n ≤ N + 1; omega⟩ (O.set 0 _)
    · walk_at "r"
      replace O := O.set 0 (.lst [.int bx.x, .int bx.y, .int (bx.n + 1)])
      walk_at "r"
      exact k _ ⟨bx.x, bx.y, bx.n + 1⟩ _ (Int.emod_nonneg _ (by omega)) (Int.emod_lt_of_pos _ h1) ⟨x0, y0, y1, by show 0 ≤ bx.n + 1; omega, by show bx.n + 1 ≤ N + 1; omega⟩ O
def spOf : Sp := fun vs H Q _ => ∃ (F : Hp) (R : List Cell) (b l : Addr) (bx : Bx) (xs : List V) (N : Int), vs = [.ref b, .ref l] ∧ Ow F ((b, bx.o) :: R) H ∧ F l = some (.lst xs) ∧ BxOk bx N ∧ N ≤ 1000000 ∧ xs ≠ [] ∧ xs.length < 1000 ∧
  ∀ (v : V) (bx' : Bx) (H' : Hp), v ∈ xs → BxOk bx' (N + 1) → Ow F ((b, bx'.o) :: R) H' → Q v H'
abbrev s_w_of : Stmt := top 19
theorem sc_w_of : FnScope ["_law_box_here", "_law_some_here"] ["_law_box_here", "_law_some_here"] (defScope s_w_of) := ⟨rfl, rfl, rfl, by decide +kernel, rfl, by decide +kernel, by decide +kernel⟩
theorem bd_w_of : Bd "_law_of" "_law_of" s_w_of ["_law_box_here", "_law_some_here"] := fun _ _ _ _ _ _ us hl => match us, hl with | [_, _], _ => rfl
/-! slots: 0 _law_box_here, 1 _law_some_here -/
theorem ok_w_of {f : Addr} (S : Src K "_law_of" "_law_of" s_w_of f) (T : Blt mg) (G_w_take : Def P w K mg base "_law_take" ["_law_box_here", "_law_span"] 1 spTake) : Fn P w K mg base f ["_law_box_here", "_law_some_here"] 2 spOf := by
  refine fn_mk S sc_w_of bd_w_of (fun vs H Q E h => ?_) (fun cdv A outer s H vs Q E hr h => ?_)
  · obtain ⟨_, _, _, _, _, _, _, rfl, _⟩ := h
    rfl
  · obtain ⟨F, R, b, l, bx, xs, N, rfl, O, hl, B, hN, hne, hlen, k⟩ := h
    have h0 : 0 < xs.length := List.length_pos_iff.mpr hne
    refine ⟨_, (pss_one (ps_ret (pe_ix ix_list (pv 1) (pe_def G_w_take (hr.mono (by decide)) rfl (pa_cons (pv 0) (pa_cons (pe_callB cl_len (by rfl) T.len (by decide +kernel) (pa_cons (pv 1) pa_nil)) pa_nil))) (fun _ _ => rfl)))), ?_⟩
    walk_at "r"
    refine ⟨F, R, b, bx, _, N, rfl, O, B, hN, by omega, by omega, fun r bx' H' r0 r1 B' O' => ?_⟩
    obtain ⟨v, hv, _, e⟩ := atI_ex r0 r1
    exact rd_ixL (by walk_at "sq") e (k v bx' H' hv B' O')

def spBox (K : PySem.W.Frag) : Sp := fun vs H Q _ => ∃ (F : Hp) (R : List Cell) (a : Addr) (ns : List Int) (n : Int), vs = [.ref a, .int n] ∧ Ow F R H ∧ SqL K F a (ns.map V.int) ∧ 0 ≤ n ∧ n ≤ 1 ∧
  ∀ (p : Addr) (bx : Bx) (H' : Hp), BxOk bx 0 → Ow F ((p, bx.o) :: R) H' → Q (.ref p) H'
theorem seqO {K : PySem.W.Frag} {F H : Hp} {R : List Cell} {a : Addr} {xs : List V} (O : Ow F R H) (h : SqL K F a xs) : SqL K H a xs := O.le.seq h
theorem ite01 (p : Prop) [Decidable p] : (0 : Int) ≤ if decide p = true then 1 else 0 := by by_cases h : p <;> simp [h]
theorem bx_new (c n : Int) : BxOk ⟨(if c < 0 then -c else c) * (if decide (10 ^ 18 ≤ if c < 0 then -c else c) = true then 1 else 0), (c % 2305843009213693921 + 43867 * n + 71) * 40129 % 2147483563, 0⟩ 0 := by
  refine ⟨?_, Int.emod_nonneg _ (by decide), Int.lt_trans (Int.emod_lt_of_pos _ (by decide)) (by decide), Int.le_refl _, Int.le_refl _⟩
  show 0 ≤ (if c < 0 then -c else c) * _
  refine Int.mul_nonneg (by split <;> omega) (ite01 _)
abbrev s_w_box : Stmt := top 17
theorem sc_w_box : FnScope ["_law_script", "_law_k", "_law_cell", "_law_seed"] ["_law_script", "_law_k"] (defScope s_w_box) := ⟨rfl, rfl, rfl, by decide +kernel, rfl, by decide +kernel, by decide +kernel⟩
theorem bd_w_box : Bd "_law_box" "_law_box" s_w_box ["_law_script", "_law_k"] := fun _ _ _ _ _ _ us hl => match us, hl with | [_, _], _ => rfl
/-! slots: 0 _law_script, 1 _law_k, 2 _law_cell, 3 _law_seed -/
theorem ok_w_box {f : Addr} (S : Src K "_law_box" "_law_box" s_w_box f) (T : Blt mg) : Fn P w K mg base f ["_law_script", "_law_k"] 1 (spBox K) := by
  refine fn_mk S sc_w_box bd_w_box (fun vs H Q E h => ?_) (fun cdv A outer s H vs Q E hr h => ?_)
  · obtain ⟨_, _, _, _, _, rfl, _⟩ := h
    rfl
  · obtain ⟨F, R, a, ns, n, rfl, O, hl, n0, n1, k⟩ := h
    have hl' := seqO O hl
    refine ⟨_, (pss_cons (ps_set (i := 2) sc_w_box.nd rfl (Or.inl rfl) (pe_ifExp (pt_cmpR op_lt (pv 1) (pe_callB cl_len (by rfl) T.len (by decide +kernel) (pa_cons (pv 0) pa_nil)) (nomark _)) (pe_ix ix_list (pv 0) (pv 1) (fun _ _ => rfl)) pe_int))
      (pss_cons (ps_set (i := 3) sc_w_box.nd rfl (Or.inl rfl) (pe_op op_mod (pe_callTy cl_int (by rfl) T.int (by decide +kernel) (pa_cons (pe_op op_mul (pe_op op_add (pe_op op_add (pe_op op_mod (pe_callTy cl_int (by rfl) T.int (by decide +kernel) (pa_cons (pv 2) pa_nil)) pe_int) (pe_op op_mul pe_int (pv 1))) pe_int) pe_int) pa_nil)) pe_int))
      (pss_one (ps_ret (pe_lst (pa_cons (pe_op op_mul (pe_callB cl_abs (by rfl) T.abs (by decide +kernel) (pa_cons (pv 2) pa_nil)) (pe_callTy cl_intB (by rfl) T.int (by decide +kernel) (pa_cons (pe_cmpR op_ge (pe_callB cl_abs (by rfl) T.abs (by decide +kernel) (pa_cons (pv 2) pa_nil)) (pe_op op_pow pe_int pe_int) (nomark _)) pa_nil))) (pa_cons (pv 3) (pa_cons pe_int pa_nil)))))))), ?_⟩
    walk_at "r"
    refine br (fun hc => ?_) (fun hc => ?_)
    · obtain ⟨v, hv, _, e⟩ := atI_ex n0 hc
      obtain ⟨z, _, rfl⟩ := List.mem_map.mp hv
      refine rd_opVV rfl rfl (rd_ixL hl' e ?_)
      walk_at "r"
      exact ⟨by walk_at "sz", fun p hp => k p ⟨_, _, _⟩ _ (bx_new z n) (O.new hp)⟩
    · walk_at "r"
      exact ⟨by walk_at "sz", fun p hp => k p ⟨_, _, _⟩ _ (bx_new 0 n) (O.new hp)⟩
end
end K7

set_option Elab.async false
set_option linter.all false
set_option maxRecDepth 100000
set_option maxHeartbeats 4000000
set_option pp.deepTerms false
set_option pp.maxSteps 600
namespace K7
open PySem PySem.Spec PyProof.Rows L2
local macro_rules | `(tactic| walk_at "hp") => `(tactic| with_unfolding_all first
  | exact Ow.get (by assumption) 0 | exact Ow.get (by assumption) 1 | exact Ow.get (by assumption) 2 | exact Ow.get (by assumption) 3
  | exact Ow.fz (by assumption) (by assumption)
  | exact Ow.get (by assumption) 4 | exact Ow.get (by assumption) 5 | exact Ow.get (by assumption) 6 | exact Ow.get (by assumption) 7 | exact Ow.get (by assumption) 8 | exact Ow.get (by assumption) 9)
local macro_rules | `(tactic| walk_at "sq") => `(tactic| with_unfolding_all first
  | exact SqL.of (by walk_at "hp") | exact SqT.of (by walk_at "hp") | assumption)
local macro_rules | `(tactic| walk_at "rd") => `(tactic| with_unfolding_all first
  | exact Rd.of (by walk_at "hp") | assumption)
local macro_rules | `(tactic| walk_at "dk") => `(tactic| assumption)
local macro_rules | `(tactic| walk_at "ai") => `(tactic| first | with_unfolding_all rfl | exact atI_zero | assumption)
local macro_rules | `(tactic| walk_at "sd") => `(tactic| with_unfolding_all first
  | rfl | assumption | decide | omega
  | exact ⟨by omega, by omega⟩ | exact Or.inl ⟨by omega, by omega⟩ | exact Or.inr ⟨by omega, by omega⟩ | exact ⟨by decide, by decide, by omega⟩)
local macro_rules | `(tactic| walk_at "sz") => `(tactic| first
  | with_unfolding_all exact szl (Nat.le_of_ble_eq_true rfl)
  | with_unfolding_all exact sztl (Nat.le_of_ble_eq_true rfl)
  | exact szl (by simp <;> omega)
  | exact sztl (by simp <;> omega))
local macro_rules | `(tactic| walk_at "s") => `(tactic| first
  | with_reducible refine rd_I0 ?_
  | ((with_reducible apply rd_I); (focus walk_at "sd"))
  | ((with_reducible apply rd_opVC); (focus with_unfolding_all rfl))
  | ((with_reducible apply rd_opVV); (focus with_unfolding_all rfl); (focus with_unfolding_all rfl))
  | ((with_reducible apply rd_opV); (focus with_unfolding_all rfl))
  | with_reducible refine rd_opC ?_
  | with_reducible refine rd_op ?_
  | ((with_reducible apply rd_var); (focus with_unfolding_all rfl))
  | with_reducible refine rd_c ?_
  | with_reducible refine rd_sSet ?_
  | ((with_reducible apply rd_CB1V); (focus with_unfolding_all rfl)) | with_reducible refine rd_CB1 ?_ | with_reducible refine rd_CB ?_
  | ((with_reducible apply rd_consV); (focus with_unfolding_all rfl)) | with_reducible refine rd_consC ?_ | with_reducible refine rd_cons0 ?_ | with_reducible refine rd_cons ?_ | with_reducible refine rd_nil ?_
  | ((with_reducible apply rd_ixL); (focus walk_at "sq"); (focus walk_at "ai"))
  | ((with_reducible apply rd_ixT); (focus walk_at "sq"); (focus walk_at "ai"))
  | with_reducible refine rd_int ?_ | with_reducible refine rd_intB ?_ | with_reducible refine rd_abs ?_
  | ((with_reducible apply rd_len); (focus walk_at "sq")) | ((with_reducible apply rd_lenT); (focus walk_at "sq"))
  | with_reducible refine rd_ifS ?_ | with_reducible refine iteT ?_ | with_reducible refine iteF ?_
  | with_reducible refine rd_tTest ?_ | with_reducible refine rd_tB ?_ | with_reducible refine rd_ex ?_
  | with_reducible refine rd_seqD ?_ | with_reducible refine rd_sSet1 ?_ | with_reducible refine rd_ret ?_ | with_reducible refine rd_drop ?_ | with_reducible refine rd_asg ?_
  | ((with_reducible apply rd_eq); (focus with_unfolding_all rfl)) | ((with_reducible apply rd_ne); (focus with_unfolding_all rfl))
  | with_reducible refine rd_isNr ?_ | with_reducible refine rd_notNr ?_ | with_reducible refine rd_isNn ?_ | with_reducible refine rd_notNn ?_ | with_reducible refine rd_isNi ?_ | with_reducible refine rd_notNi ?_
  | with_reducible refine rd_isN ?_ | with_reducible refine rd_notN ?_
  | with_reducible refine rd_and ?_ | with_reducible refine rd_or ?_ | with_reducible refine rd_not ?_ | with_reducible refine rd_if ?_
  | with_reducible refine rd_seq ?_ | with_reducible refine rd_gName ?_ | with_reducible refine rd_next ?_ | with_reducible refine rd_retN ?_
  | with_reducible refine rd_gSub ?_ | with_reducible refine rd_gCons ?_ | with_reducible refine rd_gNil ?_ | ((with_reducible apply rd_gTup); (focus walk_at "sq"); (focus with_unfolding_all rfl))
  | ((with_reducible apply rd_setL); (focus walk_at "hp"); (focus with_unfolding_all rfl))
  | with_reducible refine rd_par ?_ | with_reducible refine rd_par3 ?_ | with_reducible refine rd_ex2 ?_ | with_reducible refine rd_ex3 ?_
  | with_reducible refine rd_dget ?_ | with_reducible refine rd_din ?_ | with_reducible refine rd_dnotin ?_
  | with_reducible refine rd_tup ?_ | with_reducible refine rd_lst ?_ | with_reducible refine rd_dnew ?_
  | with_reducible refine rd_call ?_)
local macro_rules | `(tactic| walk_at "r") => `(tactic| repeat (walk_at "s"))
/-! ### dicts that are written out -/
section
variable {κ : Type} [DecidableEq κ] {kvs : List (κ × V)} {k : κ} {v y : V}
theorem valV_at {i : Nat} (nd : (kvs.map (·.1)).Nodup) (h : kvs[i]? = some (k, v)) : valV kvs k = some v := by
  induction kvs generalizing i with
  | nil => simp at h
  | cons p r ih =>
    cases i with
    | zero =>
      simp at h
      subst h
      exact valV_pos rfl
    | succ j =>
      have h' : r[j]? = some (k, v) := by simpa using h
      obtain ⟨n1, n2⟩ := List.nodup_cons.mp (show (p.1 :: r.map (·.1)).Nodup from nd)
      rw [valV_neg (fun e => n1 (by rw [e]; exact List.mem_map.mpr ⟨_, List.mem_of_getElem? h', rfl⟩))]
      exact ih n2 h'
theorem valV_out (h : k ∉ kvs.map (·.1)) : valV kvs k = none := by
  cases e : valV kvs k with
  | none => rfl
  | some v =>
    refine absurd ?_ h
    unfold valV at e
    cases q : kvs.find? fun kv => decide (kv.1 = k) with
    | none => rw [q] at e; cases e
    | some p =>
      have h1 := List.mem_of_find?_eq_some q
      have h3 := List.find?_some q
      have h2 : p.1 = k := of_decide_eq_true h3
      exact List.mem_map.mpr ⟨p, h1, h2⟩
theorem valV_mem (h : valV kvs k = some v) : (k, v) ∈ kvs := by
  unfold valV at h
  cases q : kvs.find? fun kv => decide (kv.1 = k) with
  | none => rw [q] at h; cases h
  | some p =>
    rw [q] at h
    have h1 := List.mem_of_find?_eq_some q
    have h3 := List.find?_some q
    have h2 : p.1 = k := of_decide_eq_true h3
    cases h
    rw [← h2]
    exact h1
theorem putK_at {i : Nat} (nd : (kvs.map (·.1)).Nodup) (h : kvs[i]? = some (k, v)) : putK kvs k y = kvs.set i (k, y) := by
  have ha : (kvs.any fun kv => decide (kv.1 = k)) = true := by
    rw [valV_any, valV_at nd h]
    rfl
  unfold putK
  rw [if_pos ha]
  clear ha
  induction kvs generalizing i with
  | nil => simp at h
  | cons p r ih =>
    obtain ⟨n1, n2⟩ := List.nodup_cons.mp (show (p.1 :: r.map (·.1)).Nodup from nd)
    cases i with
    | zero =>
      simp at h
      subst h
      show (if k = k then (k, y) else _) :: r.map _ = (k, y) :: r
      rw [if_pos rfl]
      congr 1
      refine (List.map_congr_left fun q hq => ?_).trans (List.map_id _)
      exact if_neg fun e => n1 (by rw [← e]; exact List.mem_map.mpr ⟨q, hq, rfl⟩)
    | succ j =>
      have h' : r[j]? = some (k, v) := by simpa using h
      have hp : ¬ p.1 = k := fun e => n1 (by rw [e]; exact List.mem_map.mpr ⟨_, List.mem_of_getElem? h', rfl⟩)
      show (if p.1 = k then (p.1, y) else p) :: r.map _ = p :: r.set j (k, y)
      rw [if_neg hp, ih n2 h']
theorem mem_putK {p : κ × V} (h : p ∈ putK kvs k y) : p ∈ kvs ∨ p = (k, y) := by
  unfold putK at h
  split at h
  · obtain ⟨q, hq, e⟩ := List.mem_map.mp h
    split at e
    · rename_i e1
      rw [e1] at e
      exact .inr e.symm
    · subst e
      exact .inl hq
  · rcases List.mem_append.mp h with h | h
    · exact .inl h
    · exact .inr (List.mem_singleton.mp h)
end
theorem merge_snoc : ∀ (more acc : List (Key × V)), ((acc ++ more).map (·.1)).Nodup → mergeK acc more = acc ++ more
  | [], acc, _ => by simp [mergeK]
  | p :: r, acc, h => by
    show mergeK (putK acc p.1 p.2) r = _
    have e : valV acc p.1 = none := valV_out fun hm => by
      rw [List.map_append, List.map_cons] at h
      exact (List.nodup_append.mp h).2.2 _ hm _ (List.mem_cons_self ..) rfl
    rw [putK_new _ e, merge_snoc r (acc ++ [(p.1, p.2)]) (by simpa using h)]
    simp
theorem merge_lit {kvs : List (Key × V)} (h : (kvs.map (·.1)).Nodup) : mergeK [] kvs = kvs := merge_snoc kvs [] h

section
variable {σ : L2.St} {H : Hp} {Q : VK} {d : Addr} {kvs : List (Key × V)} {v : V} {z : Str} {n : Int} {ta tb tv : TE} {D : Ends}
theorem rd_dgS {R : V → Prop} (h : Rd H d (.dK kvs)) (e : valV kvs (.inr z) = some v) (q : R v) : ∃ a v', V.ref d = .ref a ∧ DGet H a (.str z) (some v') ∧ R v' := ⟨d, v, rfl, .inl ⟨kvs, .inr z, h, rfl, e.symm⟩, q⟩
theorem rd_dgI {R : V → Prop} (h : Rd H d (.dK kvs)) (e : valV kvs (.inl n) = some v) (q : R v) : ∃ a v', V.ref d = .ref a ∧ DGet H a (.int n) (some v') ∧ R v' := ⟨d, v, rfl, .inl ⟨kvs, .inl n, h, rfl, e.symm⟩, q⟩
theorem rd_doS {R : Option V → Prop} (h : Rd H d (.dK kvs)) (q : R (valV kvs (.inr z))) : ∃ a o, V.ref d = .ref a ∧ DGet H a (.str z) o ∧ R o := ⟨d, _, rfl, .inl ⟨kvs, .inr z, h, rfl, rfl⟩, q⟩
theorem rd_doI {R : Option V → Prop} (h : Rd H d (.dK kvs)) (q : R (valV kvs (.inl n))) : ∃ a o, V.ref d = .ref a ∧ DGet H a (.int n) o ∧ R o := ⟨d, _, rfl, .inl ⟨kvs, .inl n, h, rfl, rfl⟩, q⟩
theorem rd_dput (q : tv σ H fun v H1 => ta σ H1 fun x H2 => tb σ H2 fun y H3 => ∃ a H4, x = .ref a ∧ DPut H3 a y v H4 ∧ D.nx σ H4) : sDPut ta tb tv D σ H := q
theorem rd_dpS {R : Hp → Prop} (h : H d = some (.dK kvs)) (l : kvs.length < sizeLine) (q : R (upd H d (.dK (putK kvs (.inr z) v)))) : ∃ a H4, V.ref d = .ref a ∧ DPut H a (.str z) v H4 ∧ R H4 := ⟨d, _, rfl, DPut.k (k := .inr z) h l, q⟩
theorem rd_dpI {R : Hp → Prop} (h : H d = some (.dK kvs)) (l : kvs.length < sizeLine) (q : R (upd H d (.dK (putK kvs (.inl n) v)))) : ∃ a H4, V.ref d = .ref a ∧ DPut H a (.int n) v H4 ∧ R H4 := ⟨d, _, rfl, DPut.k (k := .inl n) h l, q⟩
/-- x in (c1, c2, ..), the tuple made on the way -/
theorem rd_inT {K : PySem.W.Frag} {F : Hp} {L : List Cell} {x : V} {xs : List V} (s : xs.length ≤ sizeLine) (hx : flatV x = true) (hf : xs.all flatV = true) (O : Ow F L H) (q : ∀ H1, Ow F L H1 → Q (.bl (inV x xs)) H1) :
    xs.length ≤ sizeLine ∧ ∀ p, H p = none → rIn K false x (.ref p) (upd H p (.tup xs)) Q :=
  ⟨s, fun p hp => ⟨p, xs, rfl, .inr (SqT.of upd_same), hx, hf, q _ (O.junk hp)⟩⟩
theorem ifT {c : Bool} {A B : Prop} (h : c = true) (q : A) : if c = true then A else B := by rw [h]; exact iteT q
theorem ifF {c : Bool} {A B : Prop} (h : c = false) (q : B) : if c = true then A else B := by rw [h]; exact iteF q
/-- xs.append(v) -/
theorem rd_bm {K : PySem.W.Frag} {T : String} {r : V → List V → Hp → VK → Prop} {t : TA} (q : ta σ H fun x H1 => tyV K T x H1 ∧ t σ H1 fun xs H2 => r x xs H2 Q) : tBM K T r ta t σ H Q := q
theorem rd_tyL {K : PySem.W.Frag} {l : Addr} {xs : List V} {A : Prop} (h : H l = some (.lst xs)) (q : A) : tyV K "list" (.ref l) H ∧ A := ⟨.inl ⟨rfl, xs, SqL.of h⟩, q⟩
theorem rd_append {l : Addr} {xs : List V} (h : H l = some (.lst xs)) (s : xs.length < sizeLine) (q : Q .non (upd H l (.lst (xs ++ [v])))) : rAppend (.ref l) [v] H Q := ⟨l, xs, v, rfl, rfl, h, s, q⟩
end
end K7

set_option Elab.async false
set_option linter.all false
set_option maxRecDepth 100000
set_option maxHeartbeats 4000000
set_option pp.deepTerms false
set_option pp.maxSteps 600
namespace K7
open PySem PySem.Spec PyProof.Rows L2
local macro_rules | `(tactic| walk_at "hp") => `(tactic| with_unfolding_all first
  | exact Ow.get (by assumption) 0 | exact Ow.get (by assumption) 1 | exact Ow.get (by assumption) 2 | exact Ow.get (by assumption) 3
  | exact Ow.fz (by assumption) (by assumption)
  | exact Ow.get (by assumption) 4 | exact Ow.get (by assumption) 5 | exact Ow.get (by assumption) 6 | exact Ow.get (by assumption) 7 | exact Ow.get (by assumption) 8 | exact Ow.get (by assumption) 9)
local macro_rules | `(tactic| walk_at "sq") => `(tactic| with_unfolding_all first
  | exact SqL.of (by walk_at "hp") | exact SqT.of (by walk_at "hp") | assumption)
local macro_rules | `(tactic| walk_at "rd") => `(tactic| with_unfolding_all first
  | exact Rd.of (by walk_at "hp") | assumption)
local macro_rules | `(tactic| walk_at "dk") => `(tactic| assumption)
local macro_rules | `(tactic| walk_at "ai") => `(tactic| first | with_unfolding_all rfl | exact atI_zero | assumption)
local macro_rules | `(tactic| walk_at "sd") => `(tactic| with_unfolding_all first
  | rfl | assumption | decide | omega
  | exact ⟨by omega, by omega⟩ | exact Or.inl ⟨by omega, by omega⟩ | exact Or.inr ⟨by omega, by omega⟩ | exact ⟨by decide, by decide, by omega⟩)
local macro_rules | `(tactic| walk_at "sz") => `(tactic| first
  | with_unfolding_all exact szl (Nat.le_of_ble_eq_true rfl)
  | with_unfolding_all exact sztl (Nat.le_of_ble_eq_true rfl)
  | exact szl (by simp <;> omega)
  | exact sztl (by simp <;> omega))
local macro_rules | `(tactic| walk_at "s") => `(tactic| first
  | with_reducible refine rd_I0 ?_
  | ((with_reducible apply rd_I); (focus walk_at "sd"))
  | ((with_reducible apply rd_opVC); (focus with_unfolding_all rfl))
  | ((with_reducible apply rd_opVV); (focus with_unfolding_all rfl); (focus with_unfolding_all rfl))
  | ((with_reducible apply rd_opV); (focus with_unfolding_all rfl))
  | with_reducible refine rd_opC ?_
  | with_reducible refine rd_op ?_
  | ((with_reducible apply rd_var); (focus with_unfolding_all rfl))
  | with_reducible refine rd_c ?_
  | with_reducible refine rd_sSet ?_
  | ((with_reducible apply rd_CB1V); (focus with_unfolding_all rfl)) | with_reducible refine rd_CB1 ?_ | with_reducible refine rd_CB ?_
  | ((with_reducible apply rd_consV); (focus with_unfolding_all rfl)) | with_reducible refine rd_consC ?_ | with_reducible refine rd_cons0 ?_ | with_reducible refine rd_cons ?_ | with_reducible refine rd_nil ?_
  | ((with_reducible apply rd_ixL); (focus walk_at "sq"); (focus walk_at "ai"))
  | ((with_reducible apply rd_ixT); (focus walk_at "sq"); (focus walk_at "ai"))
  | with_reducible refine rd_int ?_ | with_reducible refine rd_intB ?_ | with_reducible refine rd_abs ?_
  | ((with_reducible apply rd_len); (focus walk_at "sq")) | ((with_reducible apply rd_lenT); (focus walk_at "sq"))
  | with_reducible refine rd_ifS ?_ | with_reducible refine iteT ?_ | with_reducible refine iteF ?_
  | with_reducible refine rd_tTest ?_ | with_reducible refine rd_tB ?_ | with_reducible refine rd_ex ?_
  | with_reducible refine rd_seqD ?_ | with_reducible refine rd_sSet1 ?_ | with_reducible refine rd_ret ?_ | with_reducible refine rd_drop ?_ | with_reducible refine rd_asg ?_
  | ((with_reducible apply rd_eq); (focus with_unfolding_all rfl)) | ((with_reducible apply rd_ne); (focus with_unfolding_all rfl))
  | with_reducible refine rd_isNr ?_ | with_reducible refine rd_notNr ?_ | with_reducible refine rd_isNn ?_ | with_reducible refine rd_notNn ?_ | with_reducible refine rd_isNi ?_ | with_reducible refine rd_notNi ?_
  | with_reducible refine rd_isN ?_ | with_reducible refine rd_notN ?_
  | with_reducible refine rd_and ?_ | with_reducible refine rd_or ?_ | with_reducible refine rd_not ?_ | with_reducible refine rd_if ?_
  | with_reducible refine rd_seq ?_ | with_reducible refine rd_gName ?_ | with_reducible refine rd_next ?_ | with_reducible refine rd_retN ?_
  | with_reducible refine rd_gSub ?_ | with_reducible refine rd_gCons ?_ | with_reducible refine rd_gNil ?_ | ((with_reducible apply rd_gTup); (focus walk_at "sq"); (focus with_unfolding_all rfl))
  | ((with_reducible apply rd_setL); (focus walk_at "hp"); (focus with_unfolding_all rfl))
  | with_reducible refine rd_par ?_ | with_reducible refine rd_par3 ?_ | with_reducible refine rd_ex2 ?_ | with_reducible refine rd_ex3 ?_
  | with_reducible refine rd_dget ?_ | with_reducible refine rd_din ?_ | with_reducible refine rd_dnotin ?_
  | ((with_reducible apply rd_dgS); (focus walk_at "rd"); (focus walk_at "dk"))
  | ((with_reducible apply rd_dgI); (focus walk_at "rd"); (focus walk_at "dk"))
  | ((with_reducible apply rd_doS); (focus walk_at "rd")) | ((with_reducible apply rd_doI); (focus walk_at "rd"))
  | with_reducible refine rd_dput ?_
  | ((with_reducible apply rd_dpS); (focus walk_at "hp"); (focus walk_at "sz")) | ((with_reducible apply rd_dpI); (focus walk_at "hp"); (focus walk_at "sz"))
  | with_reducible refine rd_bm ?_
  | ((with_reducible apply rd_tyL); (focus walk_at "hp")) | ((with_reducible apply rd_append); (focus walk_at "hp"); (focus walk_at "sz"))
  | with_reducible refine rd_tup ?_ | with_reducible refine rd_lst ?_ | with_reducible refine rd_dnew ?_
  | with_reducible refine rd_call ?_)
local macro_rules | `(tactic| walk_at "r") => `(tactic| repeat (walk_at "s"))

local macro_rules | `(tactic| walk_at "lt") => `(tactic| first | with_reducible refine ifT (by decide +kernel) ?_ | with_reducible refine ifF (by decide +kernel) ?_)
local macro_rules | `(tactic| walk_at "R") => `(tactic| repeat (first | walk_at "s" | walk_at "lt"))
/-! ### events, courses -/
inductive Ev where
  | put (k : Str) (v : Int) | drop (k : Str) | wait | join (p : Int) | read (p u : Int) | save (p : Int) | load (p c : Int)
def Ev.vs : Ev → List V
  | .put k v => [.str "put", .str k, .int v]
  | .drop k => [.str "drop", .str k]
  | .wait => [.str "wait"]
  | .join p => [.str "join", .int p]
  | .read p u => [.str "read", .int p, .int u]
  | .save p => [.str "save", .int p]
  | .load p c => [.str "load", .int p, .int c]
/-- seats: as the dict stands -/
structure Crs where
  seats : List (Key × V)
  copies : List Int
  many : Int
def KeyOk (k : Str) : Prop := k = "a" ∨ k = "b" ∨ k = "c"
def seatOf (c : Crs) (p : Int) : Int := match valV c.seats (.inl p) with
  | some (.int n) => n
  | _ => 0
def Crs.step (c : Crs) : Ev → Crs
  | .put _ _ => { c with many := c.many + 1 }
  | .drop _ => { c with many := c.many + 1 }
  | .wait => c
  | .join p => { c with seats := putK c.seats (.inl p) (.int 0) }
  | .read p u => { c with seats := putK c.seats (.inl p) (.int u) }
  | .save p => { c with copies := c.copies ++ [seatOf c p] }
  | .load p k => { c with seats := putK c.seats (.inl p) (.int (c.copies.getD k.toNat 0)) }
def Crs.ok (c : Crs) : Ev → Prop
  | .put k _ => KeyOk k
  | .drop k => KeyOk k
  | .wait => True
  | .join p => p = 0 ∨ p = 1
  | .read p u => (p = 0 ∨ p = 1) ∧ ∃ n, valV c.seats (.inl p) = some (.int n) ∧ n < u ∧ u ≤ c.many
  | .save p => ∃ n, valV c.seats (.inl p) = some (.int n)
  | .load p k => (p = 0 ∨ p = 1) ∧ 0 ≤ k ∧ k < c.copies.length
def c0 : Crs := ⟨[], [], 0⟩
def Crs.run (c : Crs) (es : List Ev) : Crs := es.foldl Crs.step c
def Valid : Crs → List Ev → Prop
  | _, [] => True
  | c, e :: es => c.ok e ∧ Valid (c.step e) es
theorem Crs.run_snoc (c : Crs) (es : List Ev) (e : Ev) : c.run (es ++ [e]) = (c.run es).step e := by simp [Crs.run]
theorem valid_snoc : ∀ {c : Crs} {es : List Ev} {e : Ev}, Valid c es → (c.run es).ok e → Valid c (es ++ [e])
  | _, [], _, _, h => ⟨h, trivial⟩
  | c, x :: es, e, ⟨h1, h2⟩, h => ⟨h1, valid_snoc (c := c.step x) h2 h⟩
/-- what holds of each course that is met -/
structure CrsOk (c : Crs) : Prop where
  m0 : 0 ≤ c.many
  seat : ∀ p v, (p, v) ∈ c.seats → (p = .inl 0 ∨ p = .inl 1) ∧ ∃ n : Int, v = .int n ∧ 0 ≤ n ∧ n ≤ c.many
  cop : ∀ n ∈ c.copies, 0 ≤ n ∧ n ≤ c.many
theorem CrsOk.zero : CrsOk c0 := ⟨Int.le_refl _, fun _ _ h => (nomatch h), fun _ h => (nomatch h)⟩
theorem CrsOk.val {c : Crs} (h : CrsOk c) {p : Int} {v : V} (e : valV c.seats (.inl p) = some v) : ∃ n : Int, v = .int n ∧ 0 ≤ n ∧ n ≤ c.many := (h.seat _ _ (valV_mem e)).2
theorem seatOf_eq {c : Crs} {p n : Int} (e : valV c.seats (.inl p) = some (.int n)) : seatOf c p = n := by unfold seatOf; rw [e]
theorem CrsOk.put {c : Crs} (h : CrsOk c) {p n : Int} (hp : p = 0 ∨ p = 1) (h0 : 0 ≤ n) (h1 : n ≤ c.many) : CrsOk { c with seats := putK c.seats (.inl p) (.int n) } := by
  refine ⟨h.m0, fun q v hq => ?_, h.cop⟩
  rcases mem_putK hq with hq | hq
  · exact h.seat q v hq
  · cases hq
    exact ⟨hp.imp (fun e => by rw [e]) (fun e => by rw [e]), n, rfl, h0, h1⟩
theorem CrsOk.more {c : Crs} (h : CrsOk c) : CrsOk { c with many := c.many + 1 } := by
  refine ⟨by have := h.m0; show 0 ≤ c.many + 1; omega, fun q v hq => ?_, fun n hn => ?_⟩
  · obtain ⟨a, n, e, b1, b2⟩ := h.seat q v hq
    exact ⟨a, n, e, b1, by show n ≤ c.many + 1; omega⟩
  · obtain ⟨b1, b2⟩ := h.cop n hn
    exact ⟨b1, by show n ≤ c.many + 1; omega⟩
theorem CrsOk.step {c : Crs} (h : CrsOk c) {e : Ev} (o : c.ok e) : CrsOk (c.step e) := by
  cases e with
  | put k v => exact h.more
  | drop k => exact h.more
  | wait => exact h
  | join p => exact h.put o (Int.le_refl _) h.m0
  | read p u =>
    obtain ⟨hp, n, e, h1, h2⟩ := o
    obtain ⟨m, em, a, b⟩ := h.val e
    cases em
    exact h.put hp (by omega) h2
  | save p =>
    obtain ⟨n, e⟩ := o
    obtain ⟨m, em, a, b⟩ := h.val e
    cases em
    refine ⟨h.m0, h.seat, fun x hx => ?_⟩
    rcases List.mem_append.mp hx with hx | hx
    · exact h.cop x hx
    · rw [List.mem_singleton.mp hx, seatOf_eq e]
      exact ⟨a, b⟩
  | load p k =>
    obtain ⟨hp, h1, h2⟩ := o
    have hm : c.copies.getD k.toNat 0 ∈ c.copies := by
      have hl : k.toNat < c.copies.length := by omega
      rw [List.getD_eq_getElem?_getD, List.getElem?_eq_getElem hl]
      exact List.getElem_mem hl
    obtain ⟨b1, b2⟩ := h.cop _ hm
    exact h.put hp b1 b2

/-! ### the drawn timetable's own course -/
def wdK (sa ca : Addr) (m : Int) : List (Key × V) := [(.inr "seats", .ref sa), (.inr "copies", .ref ca), (.inr "many", .int m)]
theorem wd_nd : ([.inr "seats", .inr "copies", .inr "many"] : List Key).Nodup := by decide +kernel
section
variable {sa ca : Addr} {m n : Int}
theorem wd_seats : valV (wdK sa ca m) (.inr "seats") = some (.ref sa) := valV_at (i := 0) wd_nd rfl
theorem wd_copies : valV (wdK sa ca m) (.inr "copies") = some (.ref ca) := valV_at (i := 1) wd_nd rfl
theorem wd_many : valV (wdK sa ca m) (.inr "many") = some (.int m) := valV_at (i := 2) wd_nd rfl
theorem wd_put : putK (wdK sa ca m) (.inr "many") (.int n) = wdK sa ca n := putK_at (i := 2) wd_nd rfl
end
local macro_rules | `(tactic| walk_at "dk") => `(tactic| first
  | assumption | exact wd_seats | exact wd_copies | exact wd_many)
def wdC (wd sa ca : Addr) (c : Crs) : List Cell := [(wd, .dK (wdK sa ca c.many)), (sa, .dK c.seats), (ca, .lst (c.copies.map V.int))]
def spMoved : Sp := fun vs H Q _ => ∃ (F : Hp) (R : List Cell) (wd sa ca ea : Addr) (c : Crs) (e : Ev), vs = [.ref wd, .ref ea] ∧ Ow F (wdC wd sa ca c ++ R) H ∧ F ea = some (.tup e.vs) ∧ CrsOk c ∧ c.ok e ∧ c.seats.length ≤ 1000 ∧ c.copies.length ≤ 1000 ∧
  ∀ H' : Hp, Ow F (wdC wd sa ca (c.step e) ++ R) H' → Q .non H'
section
variable {P : Program} {w : World} {K : PySem.W.Frag} {mg : Str → Option Value} {base : Heap}
abbrev s_w_moved : Stmt := top 27
theorem sc_w_moved : FnScope ["_law_w", "_law_event_so", "_law_word"] ["_law_w", "_law_event_so"] (defScope s_w_moved) := ⟨rfl, rfl, rfl, by decide +kernel, rfl, by decide +kernel, by decide +kernel⟩
theorem bd_w_moved : Bd "_law_moved" "_law_moved" s_w_moved ["_law_w", "_law_event_so"] := fun _ _ _ _ _ _ us hl => match us, hl with | [_, _], _ => rfl
/-! slots: 0 _law_w, 1 _law_event_so, 2 _law_word -/
theorem ok_w_moved {f : Addr} (S : Src K "_law_moved" "_law_moved" s_w_moved f) (T : Blt mg) : Fn P w K mg base f ["_law_w", "_law_event_so"] 1 spMoved := by
  refine fn_mk S sc_w_moved bd_w_moved (fun vs H Q E h => ?_) (fun cdv A outer s H vs Q E hr h => ?_)
  · obtain ⟨_, _, _, _, _, _, _, _, rfl, _⟩ := h
    rfl
  · obtain ⟨F, R, wd, sa, ca, ea, c, e, rfl, O, he, C, ok, l1, l2, k⟩ := h
    have hu := hu_of hr
    refine ⟨_, (pss_cons (ps_set (i := 2) sc_w_moved.nd rfl (Or.inl rfl) (pe_ix ix_tup (pv 1) pe_int (fun _ _ => rfl)))
      (pss_one (ps_if (pt_cmpR op_in_seq (pv 2) (pe_tup (pa_cons pe_str (pa_cons pe_str pa_nil))) rfl)
        (pss_one (ps_dput hu (pv 0) pe_str (pe_op op_add (pe_dget hu (pv 0) pe_str (fun _ _ => rfl)) pe_int) rfl))
        (pss_one (ps_if (pt_cmpR op_eq (pv 2) pe_str (nomark _))
          (pss_one (ps_dput hu (pe_dget hu (pv 0) pe_str (fun _ _ => rfl)) (pe_ix ix_tup (pv 1) pe_int (fun _ _ => rfl)) pe_int rfl))
          (pss_one (ps_if (pt_cmpR op_eq (pv 2) pe_str (nomark _))
            (pss_one (ps_dput hu (pe_dget hu (pv 0) pe_str (fun _ _ => rfl)) (pe_ix ix_tup (pv 1) pe_int (fun _ _ => rfl)) (pe_ix ix_tup (pv 1) pe_int (fun _ _ => rfl)) rfl))
            (pss_one (ps_if (pt_cmpR op_eq (pv 2) pe_str (nomark _))
              (pss_one (ps_expr (pe_bm PySem.F.plainAttrs_list PySem.F.slot_list_append PySem.F.type_list_append mt_append (pe_dget hu (pv 0) pe_str (fun _ _ => rfl)) (pa_cons (pe_dget hu (pe_dget hu (pv 0) pe_str (fun _ _ => rfl)) (pe_ix ix_tup (pv 1) pe_int (fun _ _ => rfl)) (fun _ _ => rfl)) pa_nil))))
              (pss_one (ps_if (pt_cmpR op_eq (pv 2) pe_str (nomark _))
                (pss_one (ps_dput hu (pe_dget hu (pv 0) pe_str (fun _ _ => rfl)) (pe_ix ix_tup (pv 1) pe_int (fun _ _ => rfl)) (pe_ix ix_list (pe_dget hu (pv 0) pe_str (fun _ _ => rfl)) (pe_ix ix_tup (pv 1) pe_int (fun _ _ => rfl)) (fun _ _ => rfl)) rfl))
                pss_nil))))))))))), ?_⟩
    cases e with
    | put kk v =>
      walk_at "R"
      refine rd_inT (by walk_at "sz") rfl rfl O fun H O => ?_
      walk_at "R"
      rw [wd_put]
      exact k _ (O.set 0 _)
    | drop kk =>
      walk_at "R"
      refine rd_inT (by walk_at "sz") rfl rfl O fun H O => ?_
      walk_at "R"
      rw [wd_put]
      exact k _ (O.set 0 _)
    | wait =>
      walk_at "R"
      refine rd_inT (by walk_at "sz") rfl rfl O fun H O => ?_
      walk_at "R"
      exact k _ O
    | join p =>
      walk_at "R"
      refine rd_inT (by walk_at "sz") rfl rfl O fun H O => ?_
      walk_at "R"
      exact k _ (O.set 1 _)
    | read p u =>
      walk_at "R"
      refine rd_inT (by walk_at "sz") rfl rfl O fun H O => ?_
      walk_at "R"
      exact k _ (O.set 1 _)
    | save p =>
      obtain ⟨n, e⟩ := id ok
      walk_at "R"
      refine rd_inT (by walk_at "sz") rfl rfl O fun H O => ?_
      walk_at "R"
      have e2 : c.copies.map V.int ++ [V.int n] = (c.step (.save p)).copies.map V.int := by simp [Crs.step, seatOf_eq e]
      rw [e2]
      exact k _ (O.set 2 _)
    | load p i =>
      obtain ⟨hp, i0, i1⟩ := id ok
      have hl : i.toNat < c.copies.length := by omega
      have e : atI (c.copies.map V.int) i = some (V.int (c.copies.getD i.toNat 0)) := by
        refine atI_of i0 ?_
        rw [List.getElem?_map, List.getD_eq_getElem?_getD, List.getElem?_eq_getElem hl]
        rfl
      walk_at "R"
      refine rd_inT (by walk_at "sz") rfl rfl O fun H O => ?_
      walk_at "R"
      exact k _ (O.set 1 _)
end
end K7

set_option Elab.async false
set_option linter.all false
set_option maxRecDepth 100000
set_option maxHeartbeats 4000000
set_option pp.deepTerms false
set_option pp.maxSteps 600
namespace K7
open PySem PySem.Spec PyProof.Rows L2
local macro_rules | `(tactic| walk_at "hp") => `(tactic| with_unfolding_all first
  | exact Ow.get (by assumption) 0 | exact Ow.get (by assumption) 1 | exact Ow.get (by assumption) 2 | exact Ow.get (by assumption) 3
  | exact Ow.fz (by assumption) (by assumption)
  | exact Ow.get (by assumption) 4 | exact Ow.get (by assumption) 5 | exact Ow.get (by assumption) 6 | exact Ow.get (by assumption) 7 | exact Ow.get (by assumption) 8 | exact Ow.get (by assumption) 9)
local macro_rules | `(tactic| walk_at "sq") => `(tactic| with_unfolding_all first
  | exact SqL.of (by walk_at "hp") | exact SqT.of (by walk_at "hp") | assumption)
local macro_rules | `(tactic| walk_at "rd") => `(tactic| with_unfolding_all first
  | exact Rd.of (by walk_at "hp") | assumption)
local macro_rules | `(tactic| walk_at "dk") => `(tactic| assumption)
local macro_rules | `(tactic| walk_at "ai") => `(tactic| first | with_unfolding_all rfl | exact atI_zero | assumption)
local macro_rules | `(tactic| walk_at "sd") => `(tactic| with_unfolding_all first
  | rfl | assumption | decide | omega
  | exact ⟨by omega, by omega⟩ | exact Or.inl ⟨by omega, by omega⟩ | exact Or.inr ⟨by omega, by omega⟩ | exact ⟨by decide, by decide, by omega⟩)
local macro_rules | `(tactic| walk_at "sz") => `(tactic| first
  | with_unfolding_all exact szl (Nat.le_of_ble_eq_true rfl)
  | with_unfolding_all exact sztl (Nat.le_of_ble_eq_true rfl)
  | exact szl (by simp <;> omega)
  | exact sztl (by simp <;> omega))
local macro_rules | `(tactic| walk_at "s") => `(tactic| first
  | with_reducible refine rd_I0 ?_
  | ((with_reducible apply rd_I); (focus walk_at "sd"))
  | ((with_reducible apply rd_opVC); (focus with_unfolding_all rfl))
  | ((with_reducible apply rd_opVV); (focus with_unfolding_all rfl); (focus with_unfolding_all rfl))
  | ((with_reducible apply rd_opV); (focus with_unfolding_all rfl))
  | with_reducible refine rd_opC ?_
  | with_reducible refine rd_op ?_
  | ((with_reducible apply rd_var); (focus with_unfolding_all rfl))
  | with_reducible refine rd_c ?_
  | with_reducible refine rd_sSet ?_
  | ((with_reducible apply rd_CB1V); (focus with_unfolding_all rfl)) | with_reducible refine rd_CB1 ?_ | with_reducible refine rd_CB ?_
  | ((with_reducible apply rd_consV); (focus with_unfolding_all rfl)) | with_reducible refine rd_consC ?_ | with_reducible refine rd_cons0 ?_ | with_reducible refine rd_cons ?_ | with_reducible refine rd_nil ?_
  | ((with_reducible apply rd_ixL); (focus walk_at "sq"); (focus walk_at "ai"))
  | ((with_reducible apply rd_ixT); (focus walk_at "sq"); (focus walk_at "ai"))
  | with_reducible refine rd_int ?_ | with_reducible refine rd_intB ?_ | with_reducible refine rd_abs ?_
  | ((with_reducible apply rd_len); (focus walk_at "sq")) | ((with_reducible apply rd_lenT); (focus walk_at "sq"))
  | with_reducible refine rd_ifS ?_ | with_reducible refine iteT ?_ | with_reducible refine iteF ?_
  | with_reducible refine rd_tTest ?_ | with_reducible refine rd_tB ?_ | with_reducible refine rd_ex ?_
  | with_reducible refine rd_seqD ?_ | with_reducible refine rd_sSet1 ?_ | with_reducible refine rd_ret ?_ | with_reducible refine rd_drop ?_ | with_reducible refine rd_asg ?_
  | ((with_reducible apply rd_eq); (focus with_unfolding_all rfl)) | ((with_reducible apply rd_ne); (focus with_unfolding_all rfl))
  | with_reducible refine rd_isNr ?_ | with_reducible refine rd_notNr ?_ | with_reducible refine rd_isNn ?_ | with_reducible refine rd_notNn ?_ | with_reducible refine rd_isNi ?_ | with_reducible refine rd_notNi ?_
  | with_reducible refine rd_isN ?_ | with_reducible refine rd_notN ?_
  | with_reducible refine rd_and ?_ | with_reducible refine rd_or ?_ | with_reducible refine rd_not ?_ | with_reducible refine rd_if ?_
  | with_reducible refine rd_seq ?_ | with_reducible refine rd_gName ?_ | with_reducible refine rd_next ?_ | with_reducible refine rd_retN ?_
  | with_reducible refine rd_gSub ?_ | with_reducible refine rd_gCons ?_ | with_reducible refine rd_gNil ?_ | ((with_reducible apply rd_gTup); (focus walk_at "sq"); (focus with_unfolding_all rfl))
  | ((with_reducible apply rd_setL); (focus walk_at "hp"); (focus with_unfolding_all rfl))
  | with_reducible refine rd_par ?_ | with_reducible refine rd_par3 ?_ | with_reducible refine rd_ex2 ?_ | with_reducible refine rd_ex3 ?_
  | with_reducible refine rd_dget ?_ | with_reducible refine rd_din ?_ | with_reducible refine rd_dnotin ?_
  | ((with_reducible apply rd_dgS); (focus walk_at "rd"); (focus walk_at "dk"))
  | ((with_reducible apply rd_dgI); (focus walk_at "rd"); (focus walk_at "dk"))
  | ((with_reducible apply rd_doS); (focus walk_at "rd")) | ((with_reducible apply rd_doI); (focus walk_at "rd"))
  | with_reducible refine rd_dput ?_
  | ((with_reducible apply rd_dpS); (focus walk_at "hp"); (focus walk_at "sz")) | ((with_reducible apply rd_dpI); (focus walk_at "hp"); (focus walk_at "sz"))
  | with_reducible refine rd_bm ?_
  | ((with_reducible apply rd_tyL); (focus walk_at "hp")) | ((with_reducible apply rd_append); (focus walk_at "hp"); (focus walk_at "sz"))
  | with_reducible refine rd_tup ?_ | with_reducible refine rd_lst ?_ | with_reducible refine rd_dnew ?_
  | with_reducible refine rd_call ?_)
local macro_rules | `(tactic| walk_at "r") => `(tactic| repeat (walk_at "s"))

local macro_rules | `(tactic| walk_at "lt") => `(tactic| first | with_reducible refine ifT (by decide +kernel) ?_ | with_reducible refine ifF (by decide +kernel) ?_)
local macro_rules | `(tactic| walk_at "R") => `(tactic| repeat (first | walk_at "s" | walk_at "lt"))
local macro_rules | `(tactic| walk_at "dk") => `(tactic| first
  | assumption | exact wd_seats | exact wd_copies | exact wd_many)
/-! ### a list against the empty one -/
theorem shaped_list {ds : List PyData} (h : ∀ d ∈ ds, d.canLay0 = true ∧ d.depth ≤ 60) : SeqAt.shaped (.list ds) = true := by
  have h1 : PyData.canLayAll0 ds = true ∧ PyData.depthAll ds ≤ 60 := by
    induction ds with
    | nil => exact ⟨rfl, Nat.zero_le _⟩
    | cons d r ih =>
      obtain ⟨a, b⟩ := h d (List.mem_cons_self ..)
      obtain ⟨c, e⟩ := ih fun x hx => h x (List.mem_cons_of_mem _ hx)
      exact ⟨by simp [PyData.canLayAll0, a, c], by simp only [PyData.depthAll]; omega⟩
  refine Bool.and_eq_true_iff.mpr ⟨by simp only [PyData.canLay0, h1.1], decide_eq_true ?_⟩
  have h2 := h1.2
  simp only [PyData.depth]
  omega
theorem rd_neNil {K : PySem.W.Frag} {F H : Hp} {L : List Cell} {Q : VK} {a : Addr} {ds : List PyData} (h : ∀ H1, Ow F L H1 → Dp K H1 (.ref a) (.list ds)) (hs : ∀ d ∈ ds, d.canLay0 = true ∧ d.depth ≤ 60) (O : Ow F L H) (q : ∀ H1, Ow F L H1 → Q (.bl (!ds.isEmpty)) H1) :
    ([] : List V).length ≤ sizeLine ∧ ∀ p, H p = none → rNeD K (.ref a) (.ref p) (upd H p (.lst [])) Q := by
  refine ⟨szl (Nat.zero_le _), fun p hp => ⟨.list ds, .list [], h _ (O.junk hp), .lst (SqL.of upd_same) .nil, shaped_list hs, rfl, ?_⟩⟩
  have e : (PyData.eqv (.list ds) (.list [])) = ds.isEmpty := by cases ds <;> simp [PyData.eqv, PyData.eqvAll]
  rw [e]
  exact q _ (O.junk hp)
theorem dp_ints {K : PySem.W.Frag} {H : Hp} : ∀ ns : List Int, DpAll K H (ns.map V.int) (ns.map PyData.int)
  | [] => .nil
  | n :: ns => .cons (.int n) (dp_ints ns)
theorem ok_ints (ns : List Int) : ∀ d ∈ ns.map PyData.int, d.canLay0 = true ∧ d.depth ≤ 60 := fun d hd => by
  obtain ⟨n, _, rfl⟩ := List.mem_map.mp hd
  exact ⟨rfl, Nat.zero_le _⟩
theorem rd_if1 {c : Bool} {A B : Prop} : (c = true → A) → (c = false → B) → if c = true then A else B := brb
theorem inV_two {x a b : V} : inV x [a, b] = (eqV a x || eqV b x) := by simp [inV]
def spEvent : Sp := fun vs H Q _ => ∃ (F : Hp) (R : List Cell) (b wd sa ca nl : Addr) (bx : Bx) (c : Crs) (N : Int), vs = [.ref b, .ref wd, .int 2, .ref nl, .str "pppddrrrjwsl"] ∧ Ow F ((b, bx.o) :: (wdC wd sa ca c ++ R)) H ∧ F nl = some (.lst [.str "a", .str "b", .str "c"]) ∧
  BxOk bx N ∧ N ≤ 900000 ∧ CrsOk c ∧ c.seats.length ≤ 1000 ∧ c.copies.length ≤ 1000 ∧ c.many ≤ 1000 ∧
  ∀ (r : V) (F' : Hp) (bx' : Bx) (H' : Hp), Same F F' → BxOk bx' (N + 6) → Ow F' ((b, bx'.o) :: (wdC wd sa ca c ++ R)) H' → (r = .non ∨ ∃ (e : Ev) (ea : Addr), r = .ref ea ∧ F' ea = some (.tup e.vs) ∧ c.ok e) → Q r H'
section
variable {P : Program} {w : World} {K : PySem.W.Frag} {mg : Str → Option Value} {base : Heap}
abbrev s_w_event : Stmt := top 26
theorem sc_w_event : FnScope ["_law_box_here", "_law_w", "_law_folk", "_law_names", "_law_words", "_law_gap", "_law_way", "_law_p", "_law_key_so"] ["_law_box_here", "_law_w", "_law_folk", "_law_names", "_law_words"] (defScope s_w_event) := ⟨rfl, rfl, rfl, by decide +kernel, rfl, by decide +kernel, by decide +kernel⟩
theorem bd_w_event : Bd "_law_event" "_law_event" s_w_event ["_law_box_here", "_law_w", "_law_folk", "_law_names", "_law_words"] := fun _ _ _ _ _ _ us hl => match us, hl with | [_, _, _, _, _], _ => rfl
/-! slots: 0 _law_box_here, 1 _law_w, 2 _law_folk, 3 _law_names, 4 _law_words, 5 _law_gap, 6 _law_way, 7 _law_p, 8 _law_key_so -/
theorem ok_w_event {f : Addr} (S : Src K "_law_event" "_law_event" s_w_event f) (T : Blt mg) (G_w_take : Def P w K mg base "_law_take" ["_law_box_here", "_law_span"] 1 spTake) (G_w_of : Def P w K mg base "_law_of" ["_law_box_here", "_law_some_here"] 2 spOf) :
    Fn P w K mg base f ["_law_box_here", "_law_w", "_law_folk", "_law_names", "_law_words"] 3 spEvent := by
  refine fn_mk S sc_w_event bd_w_event (fun vs H Q E h => ?_) (fun cdv A outer s H vs Q E hr h => ?_)
  · obtain ⟨_, _, _, _, _, _, _, _, _, _, rfl, _⟩ := h
    rfl
  · obtain ⟨F, R, b, wd, sa, ca, nl, bx, c, N, rfl, O, hn, B, hN, C, l1, l2, l3, k⟩ := h
    have hu := hu_of hr
    have fin : ∀ (e : Ev) (bx : Bx) (H : Hp) (M : Int), M ≤ N + 6 → BxOk bx M → Ow F ((b, bx.o) :: (wdC wd sa ca c ++ R)) H → c.ok e → e.vs.length ≤ sizeLine ∧ ∀ p, H p = none → Q (.ref p) (upd H p (.tup e.vs)) := by
      intro e bx H M hM B O o
      refine ⟨by cases e <;> exact szl (Nat.le_of_ble_eq_true rfl), fun p hp => ?_⟩
      obtain ⟨F1, s1, h1, O1⟩ := O.newF (o := .tup e.vs) hp
      exact k _ F1 bx _ s1 (B.mono hM) O1 (.inr ⟨e, p, rfl, h1, o⟩)
    refine ⟨_, (pss_cons (ps_par3 (i := 6) (j := 7) (l := 8) rfl sc_w_event.nd rfl rfl rfl (by decide) (by decide) (by decide) rfl rfl rfl (pa_cons (pe_ix ix_str (pv 4) (pe_def G_w_take (hr.mono (by decide)) rfl (pa_cons (pv 0) (pa_cons (pe_callB cl_lenS (by rfl) T.len (by decide +kernel) (pa_cons (pv 4) pa_nil)) pa_nil))) (fun _ _ => rfl)) (pa_cons (pe_def G_w_take (hr.mono (by decide)) rfl (pa_cons (pv 0) (pa_cons (pv 2) pa_nil))) (pa_cons (pe_def G_w_of (hr.mono (by decide)) rfl (pa_cons (pv 0) (pa_cons (pv 3) pa_nil))) pa_nil))) rfl)
      (pss_cons (ps_if (pt_cmpR op_eq (pv 6) pe_str (nomark _))
        (pss_one (ps_ret (pe_tup (pa_cons pe_str (pa_cons (pv 8) (pa_cons (pe_op op_sub (pe_def G_w_take (hr.mono (by decide)) rfl (pa_cons (pv 0) (pa_cons pe_int pa_nil))) pe_int) pa_nil))))))
        pss_nil)
      (pss_cons (ps_if (pt_cmpR op_in_seq (pv 6) (pe_tup (pa_cons pe_str (pa_cons pe_str pa_nil))) rfl)
        (pss_one (ps_ret (pe_ifExp (pt_cmpR op_eq (pv 6) pe_str (nomark _)) (pe_tup (pa_cons pe_str (pa_cons (pv 8) pa_nil))) (pe_tup (pa_cons pe_str pa_nil)))))
        pss_nil)
      (pss_cons (ps_if (pt_cmpR op_eq (pv 6) pe_str (nomark _))
        (pss_one (ps_ret (pe_tup (pa_cons pe_str (pa_cons (pv 7) pa_nil)))))
        pss_nil)
      (pss_cons (ps_if (pt_cmpR op_eq (pv 6) pe_str (nomark _))
        (pss_one (ps_ret (pe_ifExp (pt_cmpR (op_neD hr.units) (pe_dget hu (pv 1) pe_str (fun _ _ => rfl)) (pe_lst pa_nil) (nomark _)) (pe_tup (pa_cons pe_str (pa_cons (pv 7) (pa_cons (pe_def G_w_take (hr.mono (by decide)) rfl (pa_cons (pv 0) (pa_cons (pe_callB cl_len (by rfl) T.len (by decide +kernel) (pa_cons (pe_dget hu (pv 1) pe_str (fun _ _ => rfl)) pa_nil)) pa_nil))) pa_nil)))) pe_non)))
        pss_nil)
      (pss_cons (ps_if (pt_cmp (pc_dnotin hu (pv 7) (pe_dget hu (pv 1) pe_str (fun _ _ => rfl))))
        (pss_one (ps_ret (pe_tup (pa_cons pe_str (pa_cons (pv 7) pa_nil)))))
        pss_nil)
      (pss_cons (ps_if (pt_cmpR op_eq (pv 6) pe_str (nomark _))
        (pss_one (ps_ret (pe_tup (pa_cons pe_str (pa_cons (pv 7) pa_nil)))))
        pss_nil)
      (pss_cons (ps_set (i := 5) sc_w_event.nd rfl (Or.inl rfl) (pe_op op_sub (pe_dget hu (pv 1) pe_str (fun _ _ => rfl)) (pe_dget hu (pe_dget hu (pv 1) pe_str (fun _ _ => rfl)) (pv 7) (fun _ _ => rfl))))
      (pss_one (ps_ret (pe_ifExp (pt_cmpR op_gt (pv 5) pe_int (nomark _)) (pe_tup (pa_cons pe_str (pa_cons (pv 7) (pa_cons (pe_op op_add (pe_op op_add (pe_dget hu (pe_dget hu (pv 1) pe_str (fun _ _ => rfl)) (pv 7) (fun _ _ => rfl)) pe_int) (pe_def G_w_take (hr.mono (by decide)) rfl (pa_cons (pv 0) (pa_cons (pv 5) pa_nil)))) pa_nil)))) pe_non))))))))))), ?_⟩
    walk_at "r"
    have hz : ((("pppddrrrjwsl" : Str).length : Nat) : Int) = 12 := by decide +kernel
    have hz2 : ((("pppddrrrjwsl" : Str).cps.toList.length : Nat) : Int) = 12 := by decide +kernel
    refine rd_lenS (by decide +kernel) ?_
    refine ⟨F, _, b, bx, _, N, rfl, O, B, by omega, by omega, by omega, fun r bx H r0 r1 B O => ?_⟩
    obtain ⟨ch, _, _, e⟩ := atI_ex (xs := ("pppddrrrjwsl" : Str).cps.toList) r0 (by omega)
    refine ⟨_, _, ch, rfl, rfl, by decide +kernel, e, ?_⟩
    walk_at "r"
    refine ⟨F, _, b, bx, _, N + 1, rfl, O, B, by omega, by omega, by omega, fun p bx H p0 p1 B O => ?_⟩
    have hp : p = 0 ∨ p = 1 := by omega
    walk_at "r"
    refine ⟨F, _, b, nl, bx, _, N + 1 + 1, rfl, O, hn, B, by omega, by simp, by simp, fun key bx H hk B O => ?_⟩
    obtain ⟨ks, rfl, hks⟩ : ∃ ks, key = .str ks ∧ KeyOk ks := by
      simp only [List.mem_cons, List.not_mem_nil, or_false] at hk
      rcases hk with rfl | rfl | rfl
      · exact ⟨_, rfl, .inl rfl⟩
      · exact ⟨_, rfl, .inr (.inl rfl)⟩
      · exact ⟨_, rfl, .inr (.inr rfl)⟩
    walk_at "r"
    refine br (fun _ => ?_) (fun _ => ?_)
    · walk_at "r"
      refine ⟨F, _, b, bx, _, N + 1 + 1 + 1, rfl, O, B, by omega, by omega, by omega, fun v bx H _ _ B O => ?_⟩
      walk_at "r"
      exact fin (.put ks _) bx H _ (by omega) B O hks
    walk_at "r"
    refine rd_inT (by walk_at "sz") rfl rfl O fun H O => ?_
    walk_at "r"
    refine brb (fun _ => ?_) (fun _ => ?_)
    · walk_at "r"
      refine br (fun _ => ?_) (fun _ => ?_)
      · walk_at "r"
        exact fin (.drop ks) bx H _ (by omega) B O hks
      · walk_at "r"
        exact fin .wait bx H _ (by omega) B O trivial
    walk_at "r"
    refine br (fun _ => ?_) (fun _ => ?_)
    · walk_at "r"
      exact fin (.join p) bx H _ (by omega) B O hp
    walk_at "r"
    refine br (fun _ => ?_) (fun _ => ?_)
    · walk_at "r"
      refine rd_neNil (ds := c.copies.map PyData.int) (fun H1 O1 => .lst (SqL.of (O1.get 3)) (dp_ints _)) (ok_ints _) O fun H O => ?_
      walk_at "r"
      refine brb (fun hne => ?_) (fun _ => ?_)
      · have hc : 0 < c.copies.length := by
          cases h : c.copies with
          | nil => rw [h] at hne; cases hne
          | cons x r => simp
        walk_at "r"
        have hl : (((c.copies.map V.int).length : Nat) : Int) = (c.copies.length : Int) := by rw [List.length_map]
        refine ⟨F, _, b, bx, _, N + 1 + 1 + 1, rfl, O, B, by omega, by omega, by omega, fun i bx H i0 i1 B O => ?_⟩
        walk_at "r"
        exact fin (.load p i) bx H _ (by omega) B O ⟨hp, i0, by omega⟩
      · walk_at "r"
        exact k _ _ _ _ (Same.refl _) (B.mono (by omega)) O (.inl rfl)
    walk_at "r"
    cases hs : valV c.seats (.inl p) with
    | none =>
      refine ifT rfl ?_
      walk_at "r"
      exact fin (.join p) bx H _ (by omega) B O hp
    | some sv =>
      obtain ⟨m, rfl, m0, m1⟩ := C.val hs
      refine ifF rfl ?_
      walk_at "r"
      refine br (fun _ => ?_) (fun _ => ?_)
      · walk_at "r"
        exact fin (.save p) bx H _ (by omega) B O ⟨m, hs⟩
      walk_at "r"
      refine br (fun hg => ?_) (fun _ => ?_)
      · walk_at "r"
        refine ⟨F, _, b, bx, _, N + 1 + 1 + 1, rfl, O, B, by omega, hg, by omega, fun i bx H i0 i1 B O => ?_⟩
        walk_at "r"
        exact fin (.read p _) bx H _ (by omega) B O ⟨hp, m, hs, by omega, by omega⟩
      · walk_at "r"
        exact k _ _ _ _ (Same.refl _) (B.mono (by omega)) O (.inl rfl)
end
end K7

set_option Elab.async false
set_option linter.all false
set_option maxRecDepth 100000
set_option maxHeartbeats 4000000
set_option pp.deepTerms false
set_option pp.maxSteps 600
namespace K7
open PySem PySem.Spec PyProof.Rows L2
local macro_rules | `(tactic| walk_at "hp") => `(tactic| with_unfolding_all first
  | exact Ow.get (by assumption) 0 | exact Ow.get (by assumption) 1 | exact Ow.get (by assumption) 2 | exact Ow.get (by assumption) 3
  | exact Ow.fz (by assumption) (by assumption)
  | exact Ow.get (by assumption) 4 | exact Ow.get (by assumption) 5 | exact Ow.get (by assumption) 6 | exact Ow.get (by assumption) 7 | exact Ow.get (by assumption) 8 | exact Ow.get (by assumption) 9)
local macro_rules | `(tactic| walk_at "sq") => `(tactic| with_unfolding_all first
  | exact SqL.of (by walk_at "hp") | exact SqT.of (by walk_at "hp") | assumption)
local macro_rules | `(tactic| walk_at "rd") => `(tactic| with_unfolding_all first
  | exact Rd.of (by walk_at "hp") | assumption)
local macro_rules | `(tactic| walk_at "dk") => `(tactic| assumption)
local macro_rules | `(tactic| walk_at "ai") => `(tactic| first | with_unfolding_all rfl | exact atI_zero | assumption)
local macro_rules | `(tactic| walk_at "sd") => `(tactic| with_unfolding_all first
  | rfl | assumption | decide | omega
  | exact ⟨by omega, by omega⟩ | exact Or.inl ⟨by omega, by omega⟩ | exact Or.inr ⟨by omega, by omega⟩ | exact ⟨by decide, by decide, by omega⟩)
local macro_rules | `(tactic| walk_at "sz") => `(tactic| first
  | with_unfolding_all exact szl (Nat.le_of_ble_eq_true rfl)
  | with_unfolding_all exact sztl (Nat.le_of_ble_eq_true rfl)
  | exact szl (by simp <;> omega)
  | exact sztl (by simp <;> omega))
local macro_rules | `(tactic| walk_at "s") => `(tactic| first
  | with_reducible refine rd_I0 ?_
  | ((with_reducible apply rd_I); (focus walk_at "sd"))
  | ((with_reducible apply rd_opVC); (focus with_unfolding_all rfl))
  | ((with_reducible apply rd_opVV); (focus with_unfolding_all rfl); (focus with_unfolding_all rfl))
  | ((with_reducible apply rd_opV); (focus with_unfolding_all rfl))
  | with_reducible refine rd_opC ?_
  | with_reducible refine rd_op ?_
  | ((with_reducible apply rd_var); (focus with_unfolding_all rfl))
  | with_reducible refine rd_c ?_
  | with_reducible refine rd_sSet ?_
  | ((with_reducible apply rd_CB1V); (focus with_unfolding_all rfl)) | with_reducible refine rd_CB1 ?_ | with_reducible refine rd_CB ?_
  | ((with_reducible apply rd_consV); (focus with_unfolding_all rfl)) | with_reducible refine rd_consC ?_ | with_reducible refine rd_cons0 ?_ | with_reducible refine rd_cons ?_ | with_reducible refine rd_nil ?_
  | ((with_reducible apply rd_ixL); (focus walk_at "sq"); (focus walk_at "ai"))
  | ((with_reducible apply rd_ixT); (focus walk_at "sq"); (focus walk_at "ai"))
  | with_reducible refine rd_int ?_ | with_reducible refine rd_intB ?_ | with_reducible refine rd_abs ?_
  | ((with_reducible apply rd_len); (focus walk_at "sq")) | ((with_reducible apply rd_lenT); (focus walk_at "sq"))
  | with_reducible refine rd_ifS ?_ | with_reducible refine iteT ?_ | with_reducible refine iteF ?_
  | with_reducible refine rd_tTest ?_ | with_reducible refine rd_tB ?_ | with_reducible refine rd_ex ?_
  | with_reducible refine rd_seqD ?_ | with_reducible refine rd_sSet1 ?_ | with_reducible refine rd_ret ?_ | with_reducible refine rd_drop ?_ | with_reducible refine rd_asg ?_
  | ((with_reducible apply rd_eq); (focus with_unfolding_all rfl)) | ((with_reducible apply rd_ne); (focus with_unfolding_all rfl))
  | with_reducible refine rd_isNr ?_ | with_reducible refine rd_notNr ?_ | with_reducible refine rd_isNn ?_ | with_reducible refine rd_notNn ?_ | with_reducible refine rd_isNi ?_ | with_reducible refine rd_notNi ?_
  | with_reducible refine rd_isN ?_ | with_reducible refine rd_notN ?_
  | with_reducible refine rd_and ?_ | with_reducible refine rd_or ?_ | with_reducible refine rd_not ?_ | with_reducible refine rd_if ?_
  | with_reducible refine rd_seq ?_ | with_reducible refine rd_gName ?_ | with_reducible refine rd_next ?_ | with_reducible refine rd_retN ?_
  | with_reducible refine rd_gSub ?_ | with_reducible refine rd_gCons ?_ | with_reducible refine rd_gNil ?_ | ((with_reducible apply rd_gTup); (focus walk_at "sq"); (focus with_unfolding_all rfl))
  | ((with_reducible apply rd_setL); (focus walk_at "hp"); (focus with_unfolding_all rfl))
  | with_reducible refine rd_par ?_ | with_reducible refine rd_par3 ?_ | with_reducible refine rd_ex2 ?_ | with_reducible refine rd_ex3 ?_
  | with_reducible refine rd_dget ?_ | with_reducible refine rd_din ?_ | with_reducible refine rd_dnotin ?_
  | ((with_reducible apply rd_dgS); (focus walk_at "rd"); (focus walk_at "dk"))
  | ((with_reducible apply rd_dgI); (focus walk_at "rd"); (focus walk_at "dk"))
  | ((with_reducible apply rd_doS); (focus walk_at "rd")) | ((with_reducible apply rd_doI); (focus walk_at "rd"))
  | with_reducible refine rd_dput ?_
  | ((with_reducible apply rd_dpS); (focus walk_at "hp"); (focus walk_at "sz")) | ((with_reducible apply rd_dpI); (focus walk_at "hp"); (focus walk_at "sz"))
  | with_reducible refine rd_bm ?_
  | ((with_reducible apply rd_tyL); (focus walk_at "hp")) | ((with_reducible apply rd_append); (focus walk_at "hp"); (focus walk_at "sz"))
  | with_reducible refine rd_tup ?_ | with_reducible refine rd_lst ?_ | with_reducible refine rd_dnew ?_
  | with_reducible refine rd_call ?_)
local macro_rules | `(tactic| walk_at "r") => `(tactic| repeat (walk_at "s"))

local macro_rules | `(tactic| walk_at "lt") => `(tactic| first | with_reducible refine ifT (by decide +kernel) ?_ | with_reducible refine ifF (by decide +kernel) ?_)
local macro_rules | `(tactic| walk_at "R") => `(tactic| repeat (first | walk_at "s" | walk_at "lt"))
/-! ### loops -/
section
variable {K : PySem.W.Frag} {σ : L2.St} {H : Hp} {ta : TA} {te : TE} {wi : TI} {g : TG} {tb : TS} {D : Ends} {nx : L2.St → Hp → Prop} {rt : VK} {R : It → Hp → Prop}
theorem rd_for (q : wi σ H fun J H1 => ∃ W : Nat → Nat → L2.St → Hp → Prop, (∃ m, W 0 m σ H1) ∧ ∀ i m σ H, W i m σ H →
    (J.stop i H ∧ D.nx σ H) ∨ (J.go i H ∧ ∃ N : L2.St → Hp → Prop, (∀ σ' H', N σ' H' → ∃ m', m' < m ∧ W (i + 1) m' σ' H') ∧ ∀ x H', J.yld i H x H' → g x σ H' fun σ2 H2 => tb { D with nx := N, ct := N, bk := D.nx } σ2 H2)) : tFor wi g tb D σ H := q
theorem rd_iR1 (q : ta σ H fun vs H1 => ∃ j : Int, vs = [.int j] ∧ -(2 ^ 62) ≤ j ∧ j < 2 ^ 62 ∧ R (Itr 0 j.toNat) H1) : iRng1 ta σ H R := q
theorem rd_iR2 (q : ta σ H fun vs H1 => ∃ i j : Int, vs = [.int i, .int j] ∧ (-(2 ^ 62) ≤ i ∧ i < 2 ^ 62 ∧ -(2 ^ 62) ≤ j ∧ j < 2 ^ 62) ∧ R (Itr i (j - i).toNat) H1) : iRng2 ta σ H R := q
theorem rd_iL (q : te σ H fun x H1 => ∃ a, x = .ref a ∧ (∃ xs, SqL K H1 a xs) ∧ R (Itl K a) H1) : iList K te σ H R := q
theorem rd_iT (q : te σ H fun x H1 => ∃ a, x = .ref a ∧ (∃ xs, SqT K H1 a xs) ∧ R (Itt K a) H1) : iTup K te σ H R := q
/-- what is asked of a loop, J its walk -/
abbrev LpG (J : It) (g : TG) (tb : TS) (nx : L2.St → Hp → Prop) (rt : VK) (σ : L2.St) (H : Hp) : Prop := ∃ W : Nat → Nat → L2.St → Hp → Prop, (∃ m, W 0 m σ H) ∧ ∀ i m σ H, W i m σ H →
    (J.stop i H ∧ nx σ H) ∨ (J.go i H ∧ ∃ N : L2.St → Hp → Prop, (∀ σ' H', N σ' H' → ∃ m', m' < m ∧ W (i + 1) m' σ' H') ∧ ∀ x H', J.yld i H x H' → g x σ H' fun σ2 H2 => tb ⟨N, rt, nx, N⟩ σ2 H2)
theorem lp_R1 {n : Int} (hn : 0 ≤ n) (hn2 : n ≤ 1000000) (Pv : Nat → L2.St → Hp → Prop) (h0 : Pv 0 σ H)
    (hs : ∀ (i : Nat) σ' H', (i : Int) < n → Pv i σ' H' → g (.int (i : Int)) σ' H' fun σ2 H2 => tb ⟨Pv (i + 1), rt, nx, Pv (i + 1)⟩ σ2 H2) (hd : ∀ σ' H', Pv n.toNat σ' H' → nx σ' H') :
    ∃ j : Int, [V.int n] = [.int j] ∧ -(2 ^ 62) ≤ j ∧ j < 2 ^ 62 ∧ LpG (Itr 0 j.toNat) g tb nx rt σ H := by
  refine ⟨n, rfl, by omega, by omega, for_range (D := ⟨nx, rt, nx, nx⟩) (lo := 0) (n := n.toNat) Pv h0 (fun i σ' H' hi p => ?_) hd⟩
  rw [Int.zero_add]
  exact hs i σ' H' (by omega) p
theorem lp_R2 {lo n : Int} (hl : 0 ≤ lo) (hl2 : lo ≤ 1000000) (hn : 0 ≤ n) (hn2 : n ≤ 1000000) (Pv : Nat → L2.St → Hp → Prop) (h0 : Pv 0 σ H)
    (hs : ∀ (i : Nat) σ' H', lo + (i : Int) < n → Pv i σ' H' → g (.int (lo + (i : Int))) σ' H' fun σ2 H2 => tb ⟨Pv (i + 1), rt, nx, Pv (i + 1)⟩ σ2 H2) (hd : ∀ σ' H', Pv (n - lo).toNat σ' H' → nx σ' H') :
    ∃ i j : Int, [V.int lo, V.int n] = [.int i, .int j] ∧ (-(2 ^ 62) ≤ i ∧ i < 2 ^ 62 ∧ -(2 ^ 62) ≤ j ∧ j < 2 ^ 62) ∧ LpG (Itr i (j - i).toNat) g tb nx rt σ H := by
  refine ⟨lo, n, rfl, ⟨by omega, by omega, by omega, by omega⟩, for_range (D := ⟨nx, rt, nx, nx⟩) (lo := lo) (n := (n - lo).toNat) Pv h0 (fun i σ' H' hi p => ?_) hd⟩
  exact hs i σ' H' (by omega) p
theorem lp_L {a : Addr} (xs : List V) (Pv : Nat → L2.St → Hp → Prop) (h0 : Pv 0 σ H) (hl : ∀ i σ' H', i ≤ xs.length → Pv i σ' H' → SqL K H' a xs)
    (hs : ∀ i x σ' H', xs[i]? = some x → Pv i σ' H' → g x σ' H' fun σ2 H2 => tb ⟨Pv (i + 1), rt, nx, Pv (i + 1)⟩ σ2 H2) (hd : ∀ σ' H', Pv xs.length σ' H' → nx σ' H') :
    ∃ b, V.ref a = .ref b ∧ (∃ xs, SqL K H b xs) ∧ LpG (Itl K b) g tb nx rt σ H :=
  ⟨a, rfl, ⟨xs, hl 0 σ H (Nat.zero_le _) h0⟩, for_list (D := ⟨nx, rt, nx, nx⟩) Pv h0 hl hs hd⟩
theorem lp_T {a : Addr} (xs : List V) (Pv : Nat → L2.St → Hp → Prop) (h0 : Pv 0 σ H) (hl : ∀ i σ' H', i ≤ xs.length → Pv i σ' H' → SqT K H' a xs)
    (hs : ∀ i x σ' H', xs[i]? = some x → Pv i σ' H' → g x σ' H' fun σ2 H2 => tb ⟨Pv (i + 1), rt, nx, Pv (i + 1)⟩ σ2 H2) (hd : ∀ σ' H', Pv xs.length σ' H' → nx σ' H') :
    ∃ b, V.ref a = .ref b ∧ (∃ xs, SqT K H b xs) ∧ LpG (Itt K b) g tb nx rt σ H :=
  ⟨a, rfl, ⟨xs, hl 0 σ H (Nat.zero_le _) h0⟩, for_tup (D := ⟨nx, rt, nx, nx⟩) Pv h0 hl hs hd⟩
-- displays of dicts
variable {keys : List (TE × TE)} {Q : VK} {tk tv : TE} {QP : List (V × V) → Hp → Prop} {v : V}
theorem rd_disp (q : ∀ p, H p = none → tPairs keys σ (upd H p (.dK [])) fun ps H2 => H2 p = some (.dK []) ∧ ∃ kvs : List (Key × V), ps = kvs.map (fun kv => (kV kv.1, kv.2)) ∧ kvs.length ≤ 15 ∧ Q (.ref p) (upd H2 p (.dK (mergeK [] kvs)))) : tDisp keys σ H Q := q
theorem rd_pair (q : tk σ H fun x H1 => tv σ H1 fun y H2 => tPairs keys σ H2 fun ps H3 => QP ((x, y) :: ps) H3) : tPairs ((tk, tv) :: keys) σ H QP := q
theorem rd_pair0 (q : QP [] H) : tPairs [] σ H QP := q
-- values: and, or, not
variable {ta' tb' : TE}
theorem rd_andV (q : ta' σ H fun x H1 => ∃ c, x = .bl c ∧ if c = true then tb' σ H1 Q else Q (.bl false) H1) : tAndV ta' tb' σ H Q := q
theorem rd_orV (q : ta' σ H fun x H1 => ∃ c, x = .bl c ∧ if c = true then Q (.bl true) H1 else tb' σ H1 Q) : tOrV ta' tb' σ H Q := q
theorem rd_tupL {p : Addr} {ys : List V} (h : SqL K H p ys) (q : ∀ l, H l = none → Q (.ref l) (upd H l (.tup ys))) : qTupL K [.ref p] H Q := ⟨p, ys, rfl, h, q⟩
theorem rd_listT {p : Addr} {ys : List V} (h : SqT K H p ys) (q : ∀ l, H l = none → Q (.ref l) (upd H l (.lst ys))) : qListT K [.ref p] H Q := ⟨p, ys, rfl, h, q⟩
end
end K7

set_option Elab.async false
set_option linter.all false
set_option maxRecDepth 100000
set_option maxHeartbeats 4000000
set_option pp.deepTerms false
set_option pp.maxSteps 600
namespace K7
open PySem PySem.Spec PyProof.Rows L2
local macro_rules | `(tactic| walk_at "hp") => `(tactic| with_unfolding_all first
  | exact Ow.get (by assumption) 0 | exact Ow.get (by assumption) 1 | exact Ow.get (by assumption) 2 | exact Ow.get (by assumption) 3
  | exact Ow.fz (by assumption) (by assumption)
  | exact Ow.get (by assumption) 4 | exact Ow.get (by assumption) 5 | exact Ow.get (by assumption) 6 | exact Ow.get (by assumption) 7 | exact Ow.get (by assumption) 8 | exact Ow.get (by assumption) 9)
local macro_rules | `(tactic| walk_at "sq") => `(tactic| with_unfolding_all first
  | exact SqL.of (by walk_at "hp") | exact SqT.of (by walk_at "hp") | assumption)
local macro_rules | `(tactic| walk_at "rd") => `(tactic| with_unfolding_all first
  | exact Rd.of (by walk_at "hp") | assumption)
local macro_rules | `(tactic| walk_at "dk") => `(tactic| assumption)
local macro_rules | `(tactic| walk_at "ai") => `(tactic| first | with_unfolding_all rfl | exact atI_zero | assumption)
local macro_rules | `(tactic| walk_at "sd") => `(tactic| with_unfolding_all first
  | rfl | assumption | decide | omega
  | exact ⟨by omega, by omega⟩ | exact Or.inl ⟨by omega, by omega⟩ | exact Or.inr ⟨by omega, by omega⟩ | exact ⟨by decide, by decide, by omega⟩)
local macro_rules | `(tactic| walk_at "sz") => `(tactic| first
  | with_unfolding_all exact szl (Nat.le_of_ble_eq_true rfl)
  | with_unfolding_all exact sztl (Nat.le_of_ble_eq_true rfl)
  | exact szl (by simp <;> omega)
  | exact sztl (by simp <;> omega))
local macro_rules | `(tactic| walk_at "s") => `(tactic| first
  | with_reducible refine rd_I0 ?_
  | ((with_reducible apply rd_I); (focus walk_at "sd"))
  | ((with_reducible apply rd_opVC); (focus with_unfolding_all rfl))
  | ((with_reducible apply rd_opVV); (focus with_unfolding_all rfl); (focus with_unfolding_all rfl))
  | ((with_reducible apply rd_opV); (focus with_unfolding_all rfl))
  | with_reducible refine rd_opC ?_
  | with_reducible refine rd_op ?_
  | ((with_reducible apply rd_var); (focus with_unfolding_all rfl))
  | with_reducible refine rd_c ?_
  | with_reducible refine rd_sSet ?_
  | ((with_reducible apply rd_CB1V); (focus with_unfolding_all rfl)) | with_reducible refine rd_CB1 ?_ | with_reducible refine rd_CB ?_
  | ((with_reducible apply rd_consV); (focus with_unfolding_all rfl)) | with_reducible refine rd_consC ?_ | with_reducible refine rd_cons0 ?_ | with_reducible refine rd_cons ?_ | with_reducible refine rd_nil ?_
  | ((with_reducible apply rd_ixL); (focus walk_at "sq"); (focus walk_at "ai"))
  | ((with_reducible apply rd_ixT); (focus walk_at "sq"); (focus walk_at "ai"))
  | with_reducible refine rd_int ?_ | with_reducible refine rd_intB ?_ | with_reducible refine rd_abs ?_
  | ((with_reducible apply rd_len); (focus walk_at "sq")) | ((with_reducible apply rd_lenT); (focus walk_at "sq"))
  | with_reducible refine rd_ifS ?_ | with_reducible refine iteT ?_ | with_reducible refine iteF ?_
  | with_reducible refine rd_tTest ?_ | with_reducible refine rd_tB ?_ | with_reducible refine rd_ex ?_
  | with_reducible refine rd_seqD ?_ | with_reducible refine rd_sSet1 ?_ | with_reducible refine rd_ret ?_ | with_reducible refine rd_drop ?_ | with_reducible refine rd_asg ?_
  | ((with_reducible apply rd_eq); (focus with_unfolding_all rfl)) | ((with_reducible apply rd_ne); (focus with_unfolding_all rfl))
  | with_reducible refine rd_isNr ?_ | with_reducible refine rd_notNr ?_ | with_reducible refine rd_isNn ?_ | with_reducible refine rd_notNn ?_ | with_reducible refine rd_isNi ?_ | with_reducible refine rd_notNi ?_
  | with_reducible refine rd_isN ?_ | with_reducible refine rd_notN ?_
  | with_reducible refine rd_and ?_ | with_reducible refine rd_or ?_ | with_reducible refine rd_not ?_ | with_reducible refine rd_if ?_
  | with_reducible refine rd_seq ?_ | with_reducible refine rd_gName ?_ | with_reducible refine rd_next ?_ | with_reducible refine rd_retN ?_
  | with_reducible refine rd_gSub ?_ | with_reducible refine rd_gCons ?_ | with_reducible refine rd_gNil ?_ | ((with_reducible apply rd_gTup); (focus walk_at "sq"); (focus with_unfolding_all rfl))
  | ((with_reducible apply rd_setL); (focus walk_at "hp"); (focus with_unfolding_all rfl))
  | with_reducible refine rd_par ?_ | with_reducible refine rd_par3 ?_ | with_reducible refine rd_ex2 ?_ | with_reducible refine rd_ex3 ?_
  | with_reducible refine rd_dget ?_ | with_reducible refine rd_din ?_ | with_reducible refine rd_dnotin ?_
  | ((with_reducible apply rd_dgS); (focus walk_at "rd"); (focus walk_at "dk"))
  | ((with_reducible apply rd_dgI); (focus walk_at "rd"); (focus walk_at "dk"))
  | ((with_reducible apply rd_doS); (focus walk_at "rd")) | ((with_reducible apply rd_doI); (focus walk_at "rd"))
  | with_reducible refine rd_dput ?_
  | ((with_reducible apply rd_dpS); (focus walk_at "hp"); (focus walk_at "sz")) | ((with_reducible apply rd_dpI); (focus walk_at "hp"); (focus walk_at "sz"))
  | with_reducible refine rd_bm ?_
  | ((with_reducible apply rd_tyL); (focus walk_at "hp")) | ((with_reducible apply rd_append); (focus walk_at "hp"); (focus walk_at "sz"))
  | with_reducible refine rd_tup ?_ | with_reducible refine rd_lst ?_ | with_reducible refine rd_dnew ?_
  | with_reducible refine rd_for ?_ | with_reducible refine rd_iR1 ?_ | with_reducible refine rd_iR2 ?_ | with_reducible refine rd_iL ?_ | with_reducible refine rd_iT ?_
  | with_reducible refine rd_disp ?_ | with_reducible refine rd_pair ?_ | with_reducible refine rd_pair0 ?_
  | with_reducible refine rd_andV ?_ | with_reducible refine rd_orV ?_
  | ((with_reducible apply rd_tupL); (focus walk_at "sq")) | ((with_reducible apply rd_listT); (focus walk_at "sq"))
  | with_reducible refine rd_lc ?_ | ((with_reducible apply rd_wp); (focus with_unfolding_all rfl)) | with_reducible refine rd_yes ?_
  | with_reducible refine rd_sl ?_ | with_reducible refine rd_noPart ?_ | with_reducible refine rd_part ?_ | with_reducible refine rd_exI ?_
  | ((with_reducible apply rd_isd); (focus walk_at "rd")) | ((with_reducible apply rd_dg1S); (focus walk_at "rd")) | ((with_reducible apply rd_dg1I); (focus walk_at "rd"))
  | with_reducible refine rd_dget1 ?_ | with_reducible refine rd_dget2 ?_ | with_reducible refine rd_dpop2 ?_ | with_reducible refine rd_dpop1 ?_ | with_reducible refine rd_dsetd ?_
  | ((with_reducible apply rd_slL); (focus walk_at "sq"))
  | with_reducible refine rd_iE ?_ | with_reducible refine rd_iS ?_
  | ((with_reducible apply rd_dictD); (focus walk_at "rd"))
  | with_reducible refine rd_call ?_)
local macro_rules | `(tactic| walk_at "r") => `(tactic| repeat (walk_at "s"))

local macro_rules | `(tactic| walk_at "lt") => `(tactic| first | with_reducible refine ifT (by decide +kernel) ?_ | with_reducible refine ifF (by decide +kernel) ?_)
local macro_rules | `(tactic| walk_at "R") => `(tactic| repeat (first | walk_at "s" | walk_at "lt"))
local macro_rules | `(tactic| walk_at "dk") => `(tactic| first
  | assumption | exact wd_seats | exact wd_copies | exact wd_many)
theorem Ow.er {F H : Hp} {L : List Cell} (O : Ow F L H) (n : Nat) : Ow F (L.eraseIdx n) H := O.sub (List.eraseIdx_sublist ..)
/-! ### the drawn timetable -/
def EvAt (F : Hp) (v : V) (e : Ev) : Prop := ∃ a, v = .ref a ∧ F a = some (.tup e.vs)
abbrev TabAt (F : Hp) (vs : List V) (es : List Ev) : Prop := Paired (EvAt F) vs es
theorem TabAt.mono {F G : Hp} {vs : List V} {es : List Ev} (h : TabAt F vs es) (s : Same F G) : TabAt G vs es := L2.Paired.mapP h fun _ _ ⟨a, e, h⟩ => ⟨a, e, s _ _ h⟩
theorem run_len (es : List Ev) : ∀ c : Crs, (c.run es).seats.length ≤ c.seats.length + es.length ∧ (c.run es).copies.length ≤ c.copies.length + es.length ∧ (c.run es).many ≤ c.many + es.length := by
  induction es with
  | nil => exact fun c => ⟨Nat.le_refl _, Nat.le_refl _, by show c.many ≤ c.many + ((0 : Nat) : Int); omega⟩
  | cons e r ih =>
    intro c
    obtain ⟨a, b, d⟩ := ih (c.step e)
    have h1 : (c.step e).seats.length ≤ c.seats.length + 1 := by
      cases e <;> first | exact Nat.le_succ _ | exact length_putK _ _ _
    have h2 : (c.step e).copies.length ≤ c.copies.length + 1 := by
      cases e <;> first | exact Nat.le_succ _ | (show (c.copies ++ [_]).length ≤ _; simp)
    have h3 : (c.step e).many ≤ c.many + 1 := by
      cases e <;> first | exact Int.le_refl _ | (show c.many ≤ c.many + 1; omega)
    show (Crs.run (c.step e) r).seats.length ≤ _ ∧ (Crs.run (c.step e) r).copies.length ≤ _ ∧ (Crs.run (c.step e) r).many ≤ _
    rw [List.length_cons]
    refine ⟨by omega, by omega, by push_cast; omega⟩
theorem run_ok : ∀ {es : List Ev} {c : Crs}, CrsOk c → Valid c es → CrsOk (c.run es)
  | [], _, h, _ => h
  | _ :: es, c, h, ⟨a, b⟩ => run_ok (es := es) (h.step a) b
def spTable : Sp := fun vs H Q _ => ∃ (F : Hp) (R : List Cell) (b nl : Addr) (bx : Bx) (n N : Int), vs = [.ref b, .int n, .int 6, .int 2, .ref nl, .str "pppddrrrjwsl"] ∧ Ow F ((b, bx.o) :: R) H ∧ F nl = some (.lst [.str "a", .str "b", .str "c"]) ∧ BxOk bx N ∧ N ≤ 800000 ∧ 0 ≤ n ∧ n ≤ 20 ∧
  ∀ (ta : Addr) (vs : List V) (es : List Ev) (F' : Hp) (bx' : Bx) (H' : Hp), Same F F' → BxOk bx' (N + 200) → Ow F' ((b, bx'.o) :: R) H' → F' ta = some (.tup vs) → TabAt F' vs es → Valid c0 es → es.length ≤ 20 → Q (.ref ta) H'
section
variable {P : Program} {w : World} {K : PySem.W.Frag} {mg : Str → Option Value} {base : Heap}
abbrev s_w_table : Stmt := top 28
theorem sc_w_table : FnScope ["_law_box_here", "_law_many_here", "_law_most", "_law_folk", "_law_names", "_law_words", "_law_turn", "_law_found", "_law_w", "_law_event_so", "_law_is_full"] ["_law_box_here", "_law_many_here", "_law_most", "_law_folk", "_law_names", "_law_words"] (defScope s_w_table) := ⟨rfl, rfl, rfl, by decide +kernel, rfl, by decide +kernel, by decide +kernel⟩
theorem bd_w_table : Bd "_law_table" "_law_table" s_w_table ["_law_box_here", "_law_many_here", "_law_most", "_law_folk", "_law_names", "_law_words"] := fun _ _ _ _ _ _ us hl => match us, hl with | [_, _, _, _, _, _], _ => rfl
/-! slots: 0 _law_box_here, 1 _law_many_here, 2 _law_most, 3 _law_folk, 4 _law_names, 5 _law_words, 6 _law_turn, 7 _law_found, 8 _law_w, 9 _law_event_so, 10 _law_is_full -/
theorem ok_w_table {f : Addr} (S : Src K "_law_table" "_law_table" s_w_table f) (T : Blt mg) (G_w_event : Def P w K mg base "_law_event" ["_law_box_here", "_law_w", "_law_folk", "_law_names", "_law_words"] 3 spEvent) (G_w_moved : Def P w K mg base "_law_moved" ["_law_w", "_law_event_so"] 1 spMoved) :
    Fn P w K mg base f ["_law_box_here", "_law_many_here", "_law_most", "_law_folk", "_law_names", "_law_words"] 4 spTable := by
  refine fn_mk S sc_w_table bd_w_table (fun vs H Q E h => ?_) (fun cdv A outer s H vs Q E hr h => ?_)
  · obtain ⟨_, _, _, _, _, _, _, rfl, _⟩ := h
    rfl
  · obtain ⟨F, R, b, nl, bx, n, N, rfl, O, hn, B, hN, n0, n1, k⟩ := h
    have hu := hu_of hr
    refine ⟨_, (pss_cons (ps_par (i := 7) (j := 8) rfl sc_w_table.nd rfl rfl (by decide) rfl rfl (pa_cons (pe_lst pa_nil) (pa_cons (pe_disp (pps_cons pe_str pe_dnewK (pps_cons pe_str (pe_lst pa_nil) (pps_cons pe_str pe_int pps_nil))) (by rfl) (by rfl) (fun z => by cases z) (by decide)) pa_nil)) rfl)
      (pss_cons (ps_for PassesOwn.never rfl (pi_range1 rfl T.range (pa_cons (pv 1) pa_nil)) (pg_name (i := 6) sc_w_table.nd rfl (Or.inl rfl))
        (pss_cons (ps_set (i := 9) sc_w_table.nd rfl (Or.inl rfl) (pe_def G_w_event (hr.mono (by decide)) rfl (pa_cons (pv 0) (pa_cons (pv 8) (pa_cons (pv 3) (pa_cons (pv 4) (pa_cons (pv 5) pa_nil)))))))
        (pss_cons (ps_set (i := 10) sc_w_table.nd rfl (Or.inl rfl) (pe_and (pe_cmpR op_notN1 (pv 9) pe_non (nomark _)) (pe_and (pe_cmpR op_in_seq (pe_ix ix_tup (pv 9) pe_int (fun _ _ => rfl)) (pe_tup (pa_cons pe_str (pa_cons pe_str pa_nil))) rfl) (pe_one (pe_cmpR op_ge (pe_dget hu (pv 8) pe_str (fun _ _ => rfl)) (pv 2) (nomark _))))))
        (pss_one (ps_if (PW.pt (pw_and (pt_cmpR op_notN1 (pv 9) pe_non (nomark _)) (pw_and (pt_not (pt_val (pv 10))) (pw_and1 (PW.pt (pw_or (pt_cmpR op_ne (pe_ix ix_tup (pv 9) pe_int (fun _ _ => rfl)) pe_str (nomark _)) (pw_or1 (pt_cmpR op_lt (pe_callB cl_len (by rfl) T.len (by decide +kernel) (pa_cons (pe_dget hu (pv 8) pe_str (fun _ _ => rfl)) pa_nil)) pe_int (nomark _)))))))))
          (pss_cons (ps_expr (pe_def G_w_moved (hr.mono (by decide)) rfl (pa_cons (pv 8) (pa_cons (pv 9) pa_nil))))
          (pss_one (ps_expr (pe_bm PySem.F.plainAttrs_list PySem.F.slot_list_append PySem.F.type_list_append mt_append (pv 7) (pa_cons (pv 9) pa_nil)))))
          pss_nil)))))
      (pss_one (ps_ret (pe_callTy cl_tupL (by rfl) T.tuple (by decide +kernel) (pa_cons (pv 7) pa_nil)))))), ?_⟩
    walk_at "r"
    refine ⟨by walk_at "sz", fun fl hp => ?_⟩
    have O := O.new (o := .lst []) hp
    walk_at "r"
    intro wd hp
    have O := O.new (o := .dK []) hp
    walk_at "r"
    intro sa hp
    have O := O.new (o := .dK []) hp
    walk_at "r"
    refine ⟨by walk_at "sz", fun ca hp => ?_⟩
    have O := O.new (o := .lst []) hp
    walk_at "r"
    refine ⟨O.get 2, wdK sa ca 0, rfl, by show 3 ≤ 15; decide, ?_⟩
    rw [merge_lit (kvs := wdK sa ca 0) wd_nd]
    have O := O.set 2 (.dK (wdK sa ca 0))
    have O : Ow F ((b, bx.o) :: (wdC wd sa ca c0 ++ ((fl, .lst []) :: R))) _ := ((((O.top 3).top 1).top 2).top 3).top 4
    walk_at "r"
    refine lp_R1 n0 (by omega) (fun i σ' H' => ∃ (F1 : Hp) (bx1 : Bx) (es : List Ev) (refs : List V) (v6 v9 v10 : Option V), σ' = [some (.ref b), some (.int n), some (.int 6), some (.int 2), some (.ref nl), some (.str "pppddrrrjwsl"), v6, some (.ref fl), some (.ref wd), v9, v10] ∧
      Same F F1 ∧ BxOk bx1 (N + 6 * i) ∧ Ow F1 ((b, bx1.o) :: (wdC wd sa ca (c0.run es) ++ ((fl, .lst refs) :: R))) H' ∧ TabAt F1 refs es ∧ Valid c0 es ∧ es.length ≤ i)
      ⟨F, bx, [], [], none, none, none, rfl, Same.refl _, B.mono (by omega), O, .nil, trivial, Nat.le_refl _⟩ ?_ ?_
    · rintro i σ' H' hi ⟨F1, bx1, es, refs, v6, v9, v10, rfl, s1, B, O, tab, va, hl⟩
      obtain ⟨q1, q2, q3⟩ := run_len es c0
      have q1 : (c0.run es).seats.length ≤ 0 + es.length := q1
      have q2 : (c0.run es).copies.length ≤ 0 + es.length := q2
      have q3 : (c0.run es).many ≤ 0 + es.length := q3
      have C := run_ok CrsOk.zero va
      have lr : refs.length = es.length := tab.length
      walk_at "r"
      refine ⟨F1, _, b, wd, sa, ca, nl, bx1, c0.run es, N + 6 * i, rfl, O, s1 _ _ hn, B, by omega, C, by omega, by omega, by omega, fun r F2 bx2 H2 s2 B O hr' => ?_⟩
      have B : BxOk bx2 (N + 6 * ((i + 1 : Nat) : Int)) := B.mono (by omega)
      have tab := tab.mono s2
      rcases hr' with rfl | ⟨e, ea, rfl, he, ok⟩
      · walk_at "R"
        exact ⟨F2, bx2, es, refs, _, _, _, rfl, s1.trans s2, B, O, tab, va, by omega⟩
      · obtain ⟨z, rest, ez⟩ : ∃ z rest, e.vs = .str z :: rest := by cases e <;> exact ⟨_, _, rfl⟩
        have he' := he
        rw [ez] at he'
        walk_at "r"
        refine rd_inT (by walk_at "sz") rfl rfl O fun H O => ?_
        walk_at "r"
        have fin : ∀ (H : Hp) (y9 y10 : Option V), Ow F2 ((b, bx2.o) :: (wdC wd sa ca (c0.run es) ++ ((fl, .lst refs) :: R))) H → ∃ (F1 : Hp) (bx1 : Bx) (es : List Ev) (refs : List V) (v6 v9 v10 : Option V), [some (.ref b), some (.int n), some (.int 6), some (.int 2), some (.ref nl), some (.str "pppddrrrjwsl"), some (.int (i : Int)), some (.ref fl), some (.ref wd), y9, y10] = [some (.ref b), some (.int n), some (.int 6), some (.int 2), some (.ref nl), some (.str "pppddrrrjwsl"), v6, some (.ref fl), some (.ref wd), v9, v10] ∧
            Same F F1 ∧ BxOk bx1 (N + 6 * ((i + 1 : Nat) : Int)) ∧ Ow F1 ((b, bx1.o) :: (wdC wd sa ca (c0.run es) ++ ((fl, .lst refs) :: R))) H ∧ TabAt F1 refs es ∧ Valid c0 es ∧ es.length ≤ i + 1 :=
          fun H y9 y10 O => ⟨F2, bx2, es, refs, _, _, _, rfl, s1.trans s2, B, O, tab, va, by omega⟩
        refine brb (fun _ => ?_) (fun _ => ?_)
        · walk_at "r"
          refine brn (fun _ => ?_) (fun _ => ?_)
          rotate_left
          · walk_at "r"
            exact fin _ _ _ O
          walk_at "r"
          refine brn (fun _ => ?_) (fun _ => ?_)
          rotate_left
          · walk_at "r"
            refine br (fun _ => ?_) (fun _ => ?_)
            rotate_left
            · walk_at "r"
              exact fin _ _ _ O
            walk_at "r"
            refine ⟨F2, _, wd, sa, ca, ea, _, e, rfl, ((O.top 3).top 3).top 3, he, C, ok, by omega, by omega, fun H O => ?_⟩
            replace O := O.top 3
            walk_at "r"
            have O := O.set 4 (.lst (refs ++ [.ref ea]))
            exact ⟨F2, bx2, es ++ [e], refs ++ [.ref ea], _, _, _, rfl, s1.trans s2, B, by rw [Crs.run_snoc]; exact O, tab.snoc ⟨ea, rfl, he⟩, valid_snoc va ok, by simp; omega⟩
          walk_at "r"
          refine ⟨F2, _, wd, sa, ca, ea, _, e, rfl, ((O.top 3).top 3).top 3, he, C, ok, by omega, by omega, fun H O => ?_⟩
          replace O := O.top 3
          walk_at "r"
          have O := O.set 4 (.lst (refs ++ [.ref ea]))
          exact ⟨F2, bx2, es ++ [e], refs ++ [.ref ea], _, _, _, rfl, s1.trans s2, B, by rw [Crs.run_snoc]; exact O, tab.snoc ⟨ea, rfl, he⟩, valid_snoc va ok, by simp; omega⟩
        · walk_at "r"
          refine ifT rfl ?_
          walk_at "r"
          refine brn (fun _ => ?_) (fun _ => ?_)
          rotate_left
          · walk_at "r"
            refine br (fun _ => ?_) (fun _ => ?_)
            rotate_left
            · walk_at "r"
              exact fin _ _ _ O
            walk_at "r"
            refine ⟨F2, _, wd, sa, ca, ea, _, e, rfl, ((O.top 3).top 3).top 3, he, C, ok, by omega, by omega, fun H O => ?_⟩
            replace O := O.top 3
            walk_at "r"
            have O := O.set 4 (.lst (refs ++ [.ref ea]))
            exact ⟨F2, bx2, es ++ [e], refs ++ [.ref ea], _, _, _, rfl, s1.trans s2, B, by rw [Crs.run_snoc]; exact O, tab.snoc ⟨ea, rfl, he⟩, valid_snoc va ok, by simp; omega⟩
          walk_at "r"
          refine ⟨F2, _, wd, sa, ca, ea, _, e, rfl, ((O.top 3).top 3).top 3, he, C, ok, by omega, by omega, fun H O => ?_⟩
          replace O := O.top 3
          walk_at "r"
          have O := O.set 4 (.lst (refs ++ [.ref ea]))
          exact ⟨F2, bx2, es ++ [e], refs ++ [.ref ea], _, _, _, rfl, s1.trans s2, B, by rw [Crs.run_snoc]; exact O, tab.snoc ⟨ea, rfl, he⟩, valid_snoc va ok, by simp; omega⟩
    · rintro σ' H' ⟨F1, bx1, es, refs, v6, v9, v10, rfl, s1, B, O, tab, va, hl⟩
      walk_at "r"
      intro ta hp
      have O : Ow F1 ((b, bx1.o) :: R) H' := (((O.er 1).er 1).er 1).er 1
      obtain ⟨F2, s2, h2, O⟩ := O.newF (o := .tup refs) hp
      exact k ta refs es F2 bx1 _ (s1.trans s2) (B.mono (by omega)) O h2 (tab.mono s2) va (by omega)
end
end K7

set_option Elab.async false
set_option linter.all false
set_option maxRecDepth 100000
set_option maxHeartbeats 4000000
namespace K7
open PySem PySem.Spec PyProof.Rows L2
/-! ### more readings -/
section
variable {K : PySem.W.Frag} {σ : L2.St} {H : Hp} {Q : VK} {QT : Bool → Hp → Prop} {ta tb tc : TE} {wi : TI} {g : TG} {tt : TT} {te tk tv : TE} {vs : List Nat} {D : Ends} {v : V} {a d p : Addr} {xs : List V} {F : Hp} {L : List Cell}
theorem rd_lc (q : wi σ H fun J H1 => ∀ D, H1 D = none → ∃ W : Nat → Nat → Hp → Prop, (∃ m, W 0 m (upd H1 D (.lst []))) ∧ ∀ i m H, W i m H →
  (J.stop i H ∧ Q (.ref D) H) ∨ (J.go i H ∧ ∃ Nx : Hp → Prop, (∀ H', Nx H' → ∃ m', m' < m ∧ W (i + 1) m' H') ∧ ∀ x H', J.yld i H x H' → g x (wipe σ vs) H' fun σ2 H2 => wipe σ2 vs = wipe σ vs ∧ tt σ2 H2 fun b H3 =>
    if b = true then te σ2 H3 fun y H4 => ∃ acc, H4 D = some (.lst acc) ∧ acc.length < sizeLine ∧ Nx (upd H4 D (.lst (acc ++ [y]))) else Nx H3)) : tLc wi g tt te vs σ H Q := q
theorem rd_wp {s1 s2 : L2.St} {A : Prop} (e : s1 = s2) (q : A) : s1 = s2 ∧ A := ⟨e, q⟩
theorem rd_yes (q : QT true H) : tYes σ H QT := q
theorem rd_sl {r : V → Option Int → Option Int → Hp → VK → Prop} {tl th : TO} (q : te σ H fun x H1 => tl σ H1 fun l H2 => th σ H2 fun u H3 => r x l u H3 Q) : tSl r te tl th σ H Q := q
theorem rd_noPart {R : Option Int → Hp → Prop} (q : R none H) : tNoPart σ H R := q
theorem rd_part {R : Option Int → Hp → Prop} (q : te σ H fun x H1 => ∃ i, x = .int i ∧ R (some i) H1) : tPart te σ H R := q
theorem rd_exI {n : Int} {R : Int → Prop} (q : R n) : ∃ i, V.int n = .int i ∧ R i := ⟨n, rfl, q⟩
theorem rd_isd {kvs : List (Key × V)} {R : Addr → Prop} (h : Rd H d (.dK kvs)) (q : R d) : ∃ a, V.ref d = .ref a ∧ IsD H a ∧ R a := ⟨d, rfl, .inl ⟨kvs, h⟩, q⟩
theorem rd_dg1S {kvs : List (Key × V)} {z : Str} {R : Option V → Prop} (h : Rd H d (.dK kvs)) (q : R (valV kvs (.inr z))) : ∃ o, DGet H d (.str z) o ∧ R o := ⟨_, .inl ⟨kvs, .inr z, h, rfl, rfl⟩, q⟩
theorem rd_dg1I {kvs : List (Key × V)} {z : Int} {R : Option V → Prop} (h : Rd H d (.dK kvs)) (q : R (valV kvs (.inl z))) : ∃ o, DGet H d (.int z) o ∧ R o := ⟨_, .inl ⟨kvs, .inl z, h, rfl, rfl⟩, q⟩
theorem rd_dget1 (q : ta σ H fun x H1 => ∃ a, x = .ref a ∧ IsD H1 a ∧ tb σ H1 fun y H2 => ∃ o, DGet H2 a y o ∧ Q (o.getD .non) H2) : tDGet1 ta tb σ H Q := q
theorem rd_dget2 (q : ta σ H fun x H1 => ∃ a, x = .ref a ∧ IsD H1 a ∧ tb σ H1 fun y H2 => tc σ H2 fun z H3 => ∃ o, DGet H3 a y o ∧ Q (o.getD z) H3) : tDGet2 ta tb tc σ H Q := q
theorem rd_dpop2 (q : ta σ H fun x H1 => ∃ a, x = .ref a ∧ IsD H1 a ∧ tb σ H1 fun y H2 => tc σ H2 fun z H3 => ∃ kvs k, H3 a = some (.dK kvs) ∧ y = kV k ∧
  (∀ v, valV kvs k = some v → Q v (upd H3 a (.dK (dropK kvs k)))) ∧ (valV kvs k = none → Q z H3)) : tDPop2 ta tb tc σ H Q := q
theorem rd_dpop1 (q : ta σ H fun x H1 => ∃ a, x = .ref a ∧ IsD H1 a ∧ tb σ H1 fun y H2 => ∃ kvs k v, H2 a = some (.dK kvs) ∧ y = kV k ∧ valV kvs k = some v ∧ Q v (upd H2 a (.dK (dropK kvs k)))) : tDPop1 ta tb σ H Q := q
theorem rd_dsetd (q : ta σ H fun x H1 => ∃ a, x = .ref a ∧ IsD H1 a ∧ tb σ H1 fun y H2 => tc σ H2 fun z H3 => ∃ (kvs : List (Key × V)) (k : Key), H3 a = some (.dK kvs) ∧ y = kV k ∧ kvs.length < sizeLine ∧
  (∀ v, valV kvs k = some v → Q v H3) ∧ (valV kvs k = none → Q z (upd H3 a (.dK (putK kvs k z))))) : tDSetd ta tb tc σ H Q := q
theorem rd_inL (h : SqL K H p xs) (hx : flatV v = true) (hf : xs.all flatV = true) (q : Q (.bl (inV v xs)) H) : rIn K false v (.ref p) H Q := ⟨p, xs, rfl, .inl h, hx, hf, q⟩
theorem rd_ninL (h : SqL K H p xs) (hx : flatV v = true) (hf : xs.all flatV = true) (q : Q (.bl (!inV v xs)) H) : rIn K true v (.ref p) H Q := ⟨p, xs, rfl, .inl h, hx, hf, q⟩
theorem Ow.weak {F1 : Hp} (O : Ow F1 L H) (s : Same F F1) : Ow F L H := ⟨s.trans O.le, O.own, fun q hq => s.free (O.off q hq), O.nd⟩
/-- t[:spot] -/
theorem rd_slA {n : Nat} (O : Ow F L H) (h : F a = some (.tup xs)) (q : ∀ p F1 H1, Same F F1 → F1 p = some (.tup (xs.take n)) → Ow F1 L H1 → Q (.ref p) H1) : rSlA K (.ref a) none (some ((n : Nat) : Int)) H Q := by
  refine ⟨a, xs, rfl, SqT.of (O.fz h), fun e => ?_, fun _ p hp => ?_⟩
  · have e2 : min n xs.length = xs.length := by
      have := e.2
      rw [HT.sIx_nat] at this
      exact this
    refine q a F H (Same.refl _) ?_ O
    rw [List.take_of_length_le (by omega)]
    exact h
  · obtain ⟨F1, s1, h1, O1⟩ := O.newF (o := .tup (cutV xs none (some ((n : Nat) : Int)))) hp
    refine q p F1 _ s1 ?_ O1
    rw [h1]
    have e : cutV xs none (some ((n : Nat) : Int)) = xs.take n := by
      unfold cutV
      rw [HT.sIx_nat, HT.sIx_none, List.drop_zero, Nat.sub_zero]
      rw [← List.take_take, List.take_length]
    rw [e]
/-- tuple + tuple -/
theorem rd_catA {b : Addr} {ys : List V} (O : Ow F L H) (h : F a = some (.tup xs)) (h' : F b = some (.tup ys)) (sz : xs.length + ys.length ≤ 100000) (q : ∀ p F1 H1, Same F F1 → F1 p = some (.tup (xs ++ ys)) → Ow F1 L H1 → Q (.ref p) H1) :
    rCatA K (.ref a) (.ref b) H Q := by
  refine ⟨a, b, xs, ys, rfl, rfl, SqT.of (O.fz h), SqT.of (O.fz h'), szl sz, fun e => ?_, fun _ e => ?_, fun _ _ p hp => ?_⟩
  · subst e
    exact q b F H (Same.refl _) h' O
  · subst e
    exact q a F H (Same.refl _) (by rw [List.append_nil]; exact h) O
  · obtain ⟨F1, s1, h1, O1⟩ := O.newF (o := .tup (xs ++ ys)) hp
    exact q p F1 _ s1 h1 O1
theorem rd_slL {lo hi : Option Int} (h : SqL K H a xs) (q : ∀ p, H p = none → Q (.ref p) (upd H p (.lst (cutV xs lo hi)))) : rSlL K (.ref a) lo hi H Q := ⟨a, xs, rfl, h, q⟩
theorem rd_cat {b : Addr} {zs : List V} (h : H a = some (.lst xs)) (h' : H b = some (.lst zs)) (sz : xs.length + zs.length ≤ sizeLine) (q : ∀ p, H p = none → Q (.ref p) (upd H p (.lst (xs ++ zs)))) : rCat (.ref a) (.ref b) H Q := ⟨a, b, xs, zs, rfl, rfl, h, h', sz, q⟩
theorem rd_rep {k : Int} (h : H a = some (.lst xs)) (h1 : -(2 ^ 63) ≤ k) (h2 : k < 2 ^ 63) (sz : xs.length * k.toNat ≤ sizeLine) (q : ∀ p, H p = none → Q (.ref p) (upd H p (.lst (List.replicate k.toNat xs).flatten))) : rRep (.ref a) (.int k) H Q := ⟨a, k, xs, rfl, rfl, h, h1, h2, sz, q⟩
end

section
variable {X : Cx} {K : PySem.W.Frag}
theorem pg_tupE {es : List Expr} {k : Nat} {t : TGs} {n : Nat} {pos : Pos} (hK : X.K = K) (hc : X.calm = true) (h : PGs X es t)
    (hn : (assignEach es X.env).length = n := by rfl) (hst : (assignEach es X.env).findIdx? (·.1) = none := by rfl) : PG X (.Tuple es k pos) (gTup K n t) := by
  subst hK
  exact pg_tup hc h hn hst
theorem pe_fldE {e : Expr} {f : Str} {pos : Pos} {ta : TE} (hK : X.K = K) (he : PE X e ta) (hb : attributeBase e f X.env (eval e X.env) = eval e X.env) : PE X (.Attribute e f pos) (tFld K ta f) := by
  subst hK
  exact pe_fld he hb
end
/-! ### dict(d) -/
theorem rd_setD {o i v : V} {H : Hp} {Q : Hp → Prop} (q : ∃ a H', o = .ref a ∧ DPut H a i v H' ∧ Q H') : rSetD o i v H Q := q
def qDictD : List V → Hp → VK → Prop := fun xs H Q => ∃ (a : Addr) (kvs : List (Key × V)), xs = [.ref a] ∧ Rd H a (.dK kvs) ∧ ∀ p, H p = none → Q (.ref p) (upd H p (.dK kvs))
theorem cl_dictD {X : Cx} : CallR X (.type "dict") qDictD := call_dictD
theorem rd_dictD {H : Hp} {Q : VK} {d : Addr} {kvs : List (Key × V)} (h : Rd H d (.dK kvs)) (q : ∀ p, H p = none → Q (.ref p) (upd H p (.dK kvs))) : qDictD [.ref d] H Q := ⟨d, kvs, rfl, h, q⟩
/-! ### comprehensions -/
section
variable {K : PySem.W.Frag} {σ : L2.St} {H1 : Hp} {Q : VK} {g : TG} {tt : TT} {te : TE} {vs : List Nat} {F : Hp} {L : List Cell} {P : Nat → Hp → List V → Prop} {J : It} {n : Nat} {G : Hp → Prop} {Y : Nat → Hp → V → Hp → Prop}
/-- what stands ahead of a turn: the new list at D -/
def LcI (F : Hp) (L : List Cell) (P : Nat → Hp → List V → Prop) (D : Addr) (i : Nat) (H : Hp) : Prop := ∃ F' acc, Same F F' ∧ P i F' acc ∧ acc.length ≤ i ∧ Ow F' ((D, .lst acc) :: L) H
/-- an item comes in -/
def LcK (F : Hp) (L : List Cell) (P : Nat → Hp → List V → Prop) (D : Addr) (i : Nat) : VK := fun y H4 => ∃ acc, H4 D = some (.lst acc) ∧ acc.length < sizeLine ∧ LcI F L P D (i + 1) (upd H4 D (.lst (acc ++ [y])))
theorem lcP {F' : Hp} {acc : List V} {D : Addr} {i : Nat} {y : V} {H4 : Hp} (hi : i < 90000) (s : Same F F') (l : acc.length ≤ i) (O : Ow F' ((D, .lst acc) :: L) H4) (p : P (i + 1) F' (acc ++ [y])) : LcK F L P D i y H4 :=
  ⟨acc, O.get 0, sztl (by omega), F', acc ++ [y], s, p, by simp; omega, O.set 0 _⟩
theorem lcN {F' : Hp} {acc : List V} {D : Addr} {i : Nat} {H4 : Hp} (s : Same F F') (l : acc.length ≤ i) (O : Ow F' ((D, .lst acc) :: L) H4) (p : P (i + 1) F' acc) : LcI F L P D (i + 1) H4 := ⟨F', acc, s, p, by omega, O⟩
variable {Qd : Addr → Hp → Prop}
/-- a turn -/
abbrev LcT (F : Hp) (L : List Cell) (P : Nat → Hp → List V → Prop) (g : TG) (tt : TT) (te : TE) (vs : List Nat) (σ : L2.St) (D : Addr) (i : Nat) (x : V) (H' : Hp) : Prop :=
  g x (wipe σ vs) H' fun σ2 H2 => wipe σ2 vs = wipe σ vs ∧ tt σ2 H2 fun b H3 => if b = true then te σ2 H3 (LcK F L P D i) else LcI F L P D (i + 1) H3
abbrev LcG (J : It) (g : TG) (tt : TT) (te : TE) (vs : List Nat) (Qd : Addr → Hp → Prop) (σ : L2.St) (H1 : Hp) : Prop := ∀ D, H1 D = none → ∃ W : Nat → Nat → Hp → Prop, (∃ m, W 0 m (upd H1 D (.lst []))) ∧ ∀ i m H, W i m H →
  (J.stop i H ∧ Qd D H) ∨ (J.go i H ∧ ∃ Nx : Hp → Prop, (∀ H', Nx H' → ∃ m', m' < m ∧ W (i + 1) m' H') ∧ ∀ x H', J.yld i H x H' → g x (wipe σ vs) H' fun σ2 H2 => wipe σ2 vs = wipe σ vs ∧ tt σ2 H2 fun b H3 =>
    if b = true then te σ2 H3 fun y H4 => ∃ acc, H4 D = some (.lst acc) ∧ acc.length < sizeLine ∧ Nx (upd H4 D (.lst (acc ++ [y]))) else Nx H3)
theorem lc_any (w : Walk J n G Y) (O : Ow F L H1) (P : Nat → Hp → List V → Prop) (p0 : P 0 F []) (hG : ∀ D F' acc H, Same F F' → Ow F' ((D, .lst acc) :: L) H → G H)
    (hs : ∀ D i x F' acc H H', i < n → Same F F' → P i F' acc → acc.length ≤ i → Ow F' ((D, .lst acc) :: L) H → Y i H x H' → LcT F L P g tt te vs σ D i x H')
    (hd : ∀ D F' acc H, Same F F' → P n F' acc → acc.length ≤ n → Ow F' ((D, .lst acc) :: L) H → Qd D H) : LcG J g tt te vs Qd σ H1 := by
  intro D hD
  refine lc_it w (fun i H => LcI F L P D i H) ⟨F, [], Same.refl _, p0, Nat.le_refl _, O.new hD⟩ (fun i H _ ⟨F', acc, s, _, _, O'⟩ => hG D F' acc H s O') (fun i x H H' hi ⟨F', acc, s, p, l, O'⟩ y => ?_) fun H ⟨F', acc, s, p, l, O'⟩ => hd D F' acc H s p l O'
  exact hs D i x F' acc H H' hi s p l O' y
theorem lc_L {a : Addr} (xs : List V) (O : Ow F L H1) (P : Nat → Hp → List V → Prop) (p0 : P 0 F []) (hG : ∀ D F' acc H, Same F F' → Ow F' ((D, .lst acc) :: L) H → SqL K H a xs)
    (hs : ∀ D i x F' acc H, xs[i]? = some x → Same F F' → P i F' acc → acc.length ≤ i → Ow F' ((D, .lst acc) :: L) H → LcT F L P g tt te vs σ D i x H)
    (hd : ∀ D F' acc H, Same F F' → P xs.length F' acc → acc.length ≤ xs.length → Ow F' ((D, .lst acc) :: L) H → Qd D H) (hG0 : SqL K H1 a xs) :
    ∃ b, V.ref a = .ref b ∧ (∃ xs, SqL K H1 b xs) ∧ LcG (Itl K b) g tt te vs Qd σ H1 :=
  ⟨a, rfl, ⟨xs, hG0⟩, lc_any walk_list O P p0 hG (fun D i x F' acc H H' hi s p l O' y => by obtain ⟨rfl, hx⟩ := y; exact hs D i x F' acc _ hx s p l O') hd⟩
theorem lc_T {a : Addr} (xs : List V) (O : Ow F L H1) (h : F a = some (.tup xs)) (P : Nat → Hp → List V → Prop) (p0 : P 0 F [])
    (hs : ∀ D i x F' acc H, xs[i]? = some x → Same F F' → P i F' acc → acc.length ≤ i → Ow F' ((D, .lst acc) :: L) H → LcT F L P g tt te vs σ D i x H)
    (hd : ∀ D F' acc H, Same F F' → P xs.length F' acc → acc.length ≤ xs.length → Ow F' ((D, .lst acc) :: L) H → Qd D H) :
    ∃ b, V.ref a = .ref b ∧ (∃ xs, SqT K H1 b xs) ∧ LcG (Itt K b) g tt te vs Qd σ H1 :=
  ⟨a, rfl, ⟨xs, SqT.of (O.fz h)⟩, lc_any walk_tup O P p0 (fun D F' acc H s O' => SqT.of (O'.fz (s _ _ h))) (fun D i x F' acc H H' hi s p l O' y => by obtain ⟨rfl, hx⟩ := y; exact hs D i x F' acc _ hx s p l O') hd⟩
/-- range(n) -/
theorem lc_R1 {n : Int} (hn : 0 ≤ n) (hn2 : n ≤ 1000000) (O : Ow F L H1) (P : Nat → Hp → List V → Prop) (p0 : P 0 F [])
    (hs : ∀ D (i : Nat) F' acc H, (i : Int) < n → Same F F' → P i F' acc → acc.length ≤ i → Ow F' ((D, .lst acc) :: L) H → LcT F L P g tt te vs σ D i (.int (i : Int)) H)
    (hd : ∀ D F' acc H, Same F F' → P n.toNat F' acc → acc.length ≤ n.toNat → Ow F' ((D, .lst acc) :: L) H → Qd D H) :
    ∃ j : Int, [V.int n] = [.int j] ∧ -(2 ^ 62) ≤ j ∧ j < 2 ^ 62 ∧ LcG (Itr 0 j.toNat) g tt te vs Qd σ H1 := by
  refine ⟨n, rfl, by omega, by omega, lc_any (walk_range (lo := 0) (n := n.toNat)) O P p0 (fun _ _ _ _ _ _ => trivial) (fun D i x F' acc H H' hi s p l O' y => ?_) hd⟩
  obtain ⟨rfl, rfl⟩ := y
  show LcT F L P g tt te vs σ D i (.int (0 + (i : Int))) _
  rw [Int.zero_add]
  exact hs D i F' acc _ (by omega) s p l O'
/-- a text -/
theorem lc_S {z : Str} (O : Ow F L H1) (P : Nat → Hp → List V → Prop) (p0 : P 0 F [])
    (hs : ∀ D (i : Nat) c F' acc H, z.cps[i]? = some c → Same F F' → P i F' acc → acc.length ≤ i → Ow F' ((D, .lst acc) :: L) H → LcT F L P g tt te vs σ D i (.str ⟨#[c]⟩) H)
    (hd : ∀ D F' acc H, Same F F' → P z.cps.size F' acc → acc.length ≤ z.cps.size → Ow F' ((D, .lst acc) :: L) H → Qd D H) : LcG (Its z) g tt te vs Qd σ H1 :=
  lc_any walk_str O P p0 (fun _ _ _ _ _ _ => trivial) (fun D i x F' acc H H' hi s p l O' y => by obtain ⟨rfl, c, hc, rfl⟩ := y; exact hs D i c F' acc _ hc s p l O') hd
/-- a locked dict's keys -/
theorem lc_K {d : Addr} {od : Obj} {kvs : List (Key × V)} (O : Ow F L H1) (m : Nat) (hm : L[m]? = some (d, .frz od (.dK kvs))) (P : Nat → Hp → List V → Prop) (p0 : P 0 F [])
    (hs : ∀ D (i : Nat) k v F' acc H, kvs[i]? = some (k, v) → Same F F' → P i F' acc → acc.length ≤ i → Ow F' ((D, .lst acc) :: L) H → LcT F L P g tt te vs σ D i (kV k) H)
    (hd : ∀ D F' acc H, Same F F' → P kvs.length F' acc → acc.length ≤ kvs.length → Ow F' ((D, .lst acc) :: L) H → Qd D H) : LcG (Itk d od kvs) g tt te vs Qd σ H1 :=
  lc_any walk_keys O P p0 (fun D F' acc H _ O' => O'.get (m + 1) (by simpa using hm)) (fun D i x F' acc H H' hi s p l O' y => by obtain ⟨rfl, k, v, hk, rfl⟩ := y; exact hs D i k v F' acc _ hk s p l O') hd
end
/-! ### for over enumerate -/
section
variable {K : PySem.W.Frag} {σ : L2.St} {H : Hp} {ta : TA} {g : TG} {tb : TS} {nx : L2.St → Hp → Prop} {rt : VK} {R : It → Hp → Prop}
theorem rd_iE (q : ta σ H fun vs H1 => ∃ a xs, vs = [.ref a] ∧ SqL K H1 a xs ∧ R (Ite K a) H1) : iEnum K ta σ H R := q
theorem rd_iS {te : TE} (q : te σ H fun v H1 => ∃ x, v = .str x ∧ R (Its x) H1) : iStr te σ H R := q
theorem lp_E {a : Addr} (xs : List V) (Pv : Nat → L2.St → Hp → Prop) (h0 : Pv 0 σ H) (hl : ∀ i σ' H', i ≤ xs.length → Pv i σ' H' → SqL K H' a xs)
    (hs : ∀ i x T σ' H', xs[i]? = some x → Pv i σ' H' → H' T = none → g (.ref T) σ' (upd H' T (.tup [.int (i : Int), x])) fun σ2 H2 => tb ⟨Pv (i + 1), rt, nx, Pv (i + 1)⟩ σ2 H2) (hd : ∀ σ' H', Pv xs.length σ' H' → nx σ' H') :
    ∃ b ys, [V.ref a] = [.ref b] ∧ SqL K H b ys ∧ LpG (Ite K b) g tb nx rt σ H :=
  ⟨a, xs, rfl, hl 0 σ H (Nat.zero_le _) h0, for_it (D := ⟨nx, rt, nx, nx⟩) walk_enum Pv h0 (fun i σ' H' hi p => hl i σ' H' hi p) (fun i x σ' H1 H' hi p y => by
    obtain ⟨T, u, v, rfl, hT, rfl, e1, e2⟩ := y
    cases e1
    exact hs i v T σ' _ e2 p hT) hd⟩
end
end K7

set_option Elab.async false
set_option linter.all false
set_option maxRecDepth 100000
set_option maxHeartbeats 4000000
set_option pp.deepTerms false
set_option pp.maxSteps 600
namespace K7
open PySem PySem.Spec PyProof.Rows L2
local macro_rules | `(tactic| walk_at "hp") => `(tactic| with_unfolding_all first
  | exact Ow.get (by assumption) 0 | exact Ow.get (by assumption) 1 | exact Ow.get (by assumption) 2 | exact Ow.get (by assumption) 3
  | exact Ow.fz (by assumption) (by assumption)
  | exact Ow.get (by assumption) 4 | exact Ow.get (by assumption) 5 | exact Ow.get (by assumption) 6 | exact Ow.get (by assumption) 7 | exact Ow.get (by assumption) 8 | exact Ow.get (by assumption) 9)
local macro_rules | `(tactic| walk_at "sq") => `(tactic| with_unfolding_all first
  | exact SqL.of (by walk_at "hp") | exact SqT.of (by walk_at "hp") | assumption)
local macro_rules | `(tactic| walk_at "rd") => `(tactic| with_unfolding_all first
  | exact Rd.of (by walk_at "hp") | assumption)
local macro_rules | `(tactic| walk_at "dk") => `(tactic| assumption)
local macro_rules | `(tactic| walk_at "ai") => `(tactic| first | with_unfolding_all rfl | exact atI_zero | assumption)
local macro_rules | `(tactic| walk_at "sd") => `(tactic| with_unfolding_all first
  | rfl | assumption | decide | omega
  | exact ⟨by omega, by omega⟩ | exact Or.inl ⟨by omega, by omega⟩ | exact Or.inr ⟨by omega, by omega⟩ | exact ⟨by decide, by decide, by omega⟩)
local macro_rules | `(tactic| walk_at "sz") => `(tactic| first
  | with_unfolding_all exact szl (Nat.le_of_ble_eq_true rfl)
  | with_unfolding_all exact sztl (Nat.le_of_ble_eq_true rfl)
  | exact szl (by simp <;> omega)
  | exact sztl (by simp <;> omega))
local macro_rules | `(tactic| walk_at "s") => `(tactic| first
  | with_reducible refine rd_I0 ?_
  | ((with_reducible apply rd_I); (focus walk_at "sd"))
  | ((with_reducible apply rd_opVC); (focus with_unfolding_all rfl))
  | ((with_reducible apply rd_opVV); (focus with_unfolding_all rfl); (focus with_unfolding_all rfl))
  | ((with_reducible apply rd_opV); (focus with_unfolding_all rfl))
  | with_reducible refine rd_opC ?_
  | with_reducible refine rd_op ?_
  | ((with_reducible apply rd_var); (focus with_unfolding_all rfl))
  | with_reducible refine rd_c ?_
  | with_reducible refine rd_sSet ?_
  | ((with_reducible apply rd_CB1V); (focus with_unfolding_all rfl)) | with_reducible refine rd_CB1 ?_ | with_reducible refine rd_CB ?_
  | ((with_reducible apply rd_consV); (focus with_unfolding_all rfl)) | with_reducible refine rd_consC ?_ | with_reducible refine rd_cons0 ?_ | with_reducible refine rd_cons ?_ | with_reducible refine rd_nil ?_
  | ((with_reducible apply rd_ixL); (focus walk_at "sq"); (focus walk_at "ai"))
  | ((with_reducible apply rd_ixT); (focus walk_at "sq"); (focus walk_at "ai"))
  | with_reducible refine rd_int ?_ | with_reducible refine rd_intB ?_ | with_reducible refine rd_abs ?_
  | ((with_reducible apply rd_len); (focus walk_at "sq")) | ((with_reducible apply rd_lenT); (focus walk_at "sq"))
  | with_reducible refine rd_ifS ?_ | with_reducible refine iteT ?_ | with_reducible refine iteF ?_
  | with_reducible refine rd_tTest ?_ | with_reducible refine rd_tB ?_ | with_reducible refine rd_ex ?_
  | with_reducible refine rd_seqD ?_ | with_reducible refine rd_sSet1 ?_ | with_reducible refine rd_ret ?_ | with_reducible refine rd_drop ?_ | with_reducible refine rd_asg ?_
  | ((with_reducible apply rd_eq); (focus with_unfolding_all rfl)) | ((with_reducible apply rd_ne); (focus with_unfolding_all rfl))
  | with_reducible refine rd_isNr ?_ | with_reducible refine rd_notNr ?_ | with_reducible refine rd_isNn ?_ | with_reducible refine rd_notNn ?_ | with_reducible refine rd_isNi ?_ | with_reducible refine rd_notNi ?_
  | with_reducible refine rd_isN ?_ | with_reducible refine rd_notN ?_
  | with_reducible refine rd_and ?_ | with_reducible refine rd_or ?_ | with_reducible refine rd_not ?_ | with_reducible refine rd_if ?_
  | with_reducible refine rd_seq ?_ | with_reducible refine rd_gName ?_ | with_reducible refine rd_next ?_ | with_reducible refine rd_retN ?_
  | with_reducible refine rd_gSub ?_ | with_reducible refine rd_gCons ?_ | with_reducible refine rd_gNil ?_ | ((with_reducible apply rd_gTup); (focus walk_at "sq"); (focus with_unfolding_all rfl))
  | ((with_reducible apply rd_setL); (focus walk_at "hp"); (focus with_unfolding_all rfl))
  | with_reducible refine rd_par ?_ | with_reducible refine rd_par3 ?_ | with_reducible refine rd_ex2 ?_ | with_reducible refine rd_ex3 ?_
  | with_reducible refine rd_dget ?_ | with_reducible refine rd_din ?_ | with_reducible refine rd_dnotin ?_
  | ((with_reducible apply rd_dgS); (focus walk_at "rd"); (focus walk_at "dk"))
  | ((with_reducible apply rd_dgI); (focus walk_at "rd"); (focus walk_at "dk"))
  | ((with_reducible apply rd_doS); (focus walk_at "rd")) | ((with_reducible apply rd_doI); (focus walk_at "rd"))
  | with_reducible refine rd_dput ?_
  | ((with_reducible apply rd_dpS); (focus walk_at "hp"); (focus walk_at "sz")) | ((with_reducible apply rd_dpI); (focus walk_at "hp"); (focus walk_at "sz"))
  | with_reducible refine rd_bm ?_
  | ((with_reducible apply rd_tyL); (focus walk_at "hp")) | ((with_reducible apply rd_append); (focus walk_at "hp"); (focus walk_at "sz"))
  | with_reducible refine rd_tup ?_ | with_reducible refine rd_lst ?_ | with_reducible refine rd_dnew ?_
  | with_reducible refine rd_for ?_ | with_reducible refine rd_iR1 ?_ | with_reducible refine rd_iR2 ?_ | with_reducible refine rd_iL ?_ | with_reducible refine rd_iT ?_
  | with_reducible refine rd_disp ?_ | with_reducible refine rd_pair ?_ | with_reducible refine rd_pair0 ?_
  | with_reducible refine rd_andV ?_ | with_reducible refine rd_orV ?_
  | ((with_reducible apply rd_tupL); (focus walk_at "sq")) | ((with_reducible apply rd_listT); (focus walk_at "sq"))
  | with_reducible refine rd_lc ?_ | ((with_reducible apply rd_wp); (focus with_unfolding_all rfl)) | with_reducible refine rd_yes ?_
  | with_reducible refine rd_sl ?_ | with_reducible refine rd_noPart ?_ | with_reducible refine rd_part ?_ | with_reducible refine rd_exI ?_
  | ((with_reducible apply rd_isd); (focus walk_at "rd")) | ((with_reducible apply rd_dg1S); (focus walk_at "rd")) | ((with_reducible apply rd_dg1I); (focus walk_at "rd"))
  | with_reducible refine rd_dget1 ?_ | with_reducible refine rd_dget2 ?_ | with_reducible refine rd_dpop2 ?_ | with_reducible refine rd_dpop1 ?_ | with_reducible refine rd_dsetd ?_
  | ((with_reducible apply rd_slL); (focus walk_at "sq"))
  | with_reducible refine rd_iE ?_ | with_reducible refine rd_iS ?_
  | ((with_reducible apply rd_dictD); (focus walk_at "rd"))
  | with_reducible refine rd_setD ?_
  | with_reducible refine rd_call ?_)
local macro_rules | `(tactic| walk_at "r") => `(tactic| repeat (walk_at "s"))

local macro_rules | `(tactic| walk_at "lt") => `(tactic| first | with_reducible refine ifT (by decide +kernel) ?_ | with_reducible refine ifF (by decide +kernel) ?_)
local macro_rules | `(tactic| walk_at "R") => `(tactic| repeat (first | walk_at "s" | walk_at "lt"))
/-! ### how many rows -/
/-- is it a row -/
def Ev.row (e : Ev) : Bool := match e with
  | .put _ _ => true
  | .drop _ => true
  | _ => false
theorem many_row (c : Crs) (e : Ev) : (c.step e).many = c.many + (if e.row = true then 1 else 0) := by
  cases e <;> simp [Crs.step, Ev.row]
def manyAt (es : List Ev) (i : Nat) : Int := (c0.run (es.take i)).many
theorem run_next {es : List Ev} {i : Nat} {e : Ev} (h : es[i]? = some e) (c : Crs) : c.run (es.take (i + 1)) = (c.run (es.take i)).step e := by
  rw [List.take_add_one, h]
  exact Crs.run_snoc c _ e
theorem manyAt_next {es : List Ev} {i : Nat} {e : Ev} (h : es[i]? = some e) : manyAt es i ≤ manyAt es (i + 1) ∧ manyAt es (i + 1) ≤ manyAt es i + 1 := by
  unfold manyAt
  rw [run_next h, many_row]
  split <;> constructor <;> omega
theorem manyAt_mono {es : List Ev} {i : Nat} : manyAt es i ≤ manyAt es (i + 1) := by
  cases h : es[i]? with
  | some e => exact (manyAt_next h).1
  | none =>
    have hl := List.getElem?_eq_none_iff.mp h
    unfold manyAt
    rw [List.take_of_length_le hl, List.take_of_length_le (by omega)]
    exact Int.le_refl _
theorem manyAt_bd (es : List Ev) (i : Nat) : 0 ≤ manyAt es i ∧ manyAt es i ≤ es.length := by
  have h := run_len (es.take i) c0
  have h2 := h.2.2
  have h3 : (es.take i).length ≤ es.length := by rw [List.length_take]; omega
  have h4 : c0.many = 0 := rfl
  refine ⟨?_, by unfold manyAt; omega⟩
  have : ∀ (es : List Ev) (c : Crs), 0 ≤ c.many → 0 ≤ (c.run es).many := by
    intro es
    induction es with
    | nil => exact fun c h => h
    | cons e r ih => exact fun c h => ih (c.step e) (by rw [many_row]; split <;> omega)
  exact this _ _ (by rw [h4]; exact Int.le_refl _)
theorem tab_get {F : Hp} {vs : List V} {es : List Ev} (h : TabAt F vs es) {i : Nat} {v : V} (e : vs[i]? = some v) : ∃ x, es[i]? = some x ∧ EvAt F v x := L2.paired_get h e
theorem ev_head (e : Ev) : ∃ z rest, e.vs = .str z :: rest := by cases e <;> exact ⟨_, _, rfl⟩
theorem ev_row {e : Ev} {z : Str} {rest : List V} (h : e.vs = .str z :: rest) : inV (.str z) [.str "put", .str "drop"] = e.row := by
  cases e <;> cases h <;> (simp only [Ev.row]; decide +kernel)
def spMany : Sp := fun vs H Q _ => ∃ (F : Hp) (R : List Cell) (ta : Addr) (tvs : List V) (es : List Ev) (n : Nat), vs = [.ref ta, .int (n : Int)] ∧ Ow F R H ∧ F ta = some (.tup tvs) ∧ TabAt F tvs es ∧ es.length ≤ 20 ∧
  ∀ H' : Hp, Ow F R H' → Q (.int (manyAt es n)) H'
section
variable {P : Program} {w : World} {K : PySem.W.Frag} {mg : Str → Option Value} {base : Heap}
abbrev s_w_many : Stmt := top 29
theorem sc_w_many : FnScope ["_law_table_here", "_law_spot", "_law_event_so"] ["_law_table_here", "_law_spot"] (defScope s_w_many) := ⟨rfl, rfl, rfl, by decide +kernel, rfl, by decide +kernel, by decide +kernel⟩
theorem bd_w_many : Bd "_law_many" "_law_many" s_w_many ["_law_table_here", "_law_spot"] := fun _ _ _ _ _ _ us hl => match us, hl with | [_, _], _ => rfl
/-! slots: 0 _law_table_here, 1 _law_spot, 2 _law_event_so -/
theorem ok_w_many {f : Addr} (S : Src K "_law_many" "_law_many" s_w_many f) (T : Blt mg) : Fn P w K mg base f ["_law_table_here", "_law_spot"] 1 spMany := by
  refine fn_mk S sc_w_many bd_w_many (fun vs H Q E h => ?_) (fun cdv A outer s H vs Q E hr h => ?_)
  · obtain ⟨_, _, _, _, _, _, rfl, _⟩ := h
    rfl
  · obtain ⟨F, R, ta, tvs, es, n, rfl, O, ht, tab, hl, k⟩ := h
    have hu := hu_of hr
    refine ⟨_, (pss_one (ps_ret (pe_callB cl_len (by rfl) T.len (by decide +kernel) (pa_cons (pe_lc (own := [("_law_event_so", 2)]) rfl sc_w_many.nd (pi_tup (pe_slice sl_tupA (pv 0) po_none (po_some (pv 1)))) (blkOk_by (N := ["_law_table_here", "_law_spot", "_law_event_so"]) (sc := defScope s_w_many) (own := [("_law_event_so", 2)]) (by decide +kernel)) (fun _ _ _ _ _ => (pg_name (i := 2) sc_w_many.nd rfl (Or.inl rfl))) (fun _ _ _ _ _ => (pts_one (pt_cmpR (r := rIn K false) op_in_seq (pe_ix (r := rIxT K) ix_tup (pv 2) pe_int (fun _ _ => rfl)) (pe_tup (pa_cons pe_str (pa_cons pe_str pa_nil))) rfl))) (fun _ _ _ _ _ => (pv 2))) pa_nil)))), ?_⟩
    walk_at "r"
    refine rd_slA O ht fun sl F1 H s1 hs O => ?_
    refine lc_T (tvs.take n) O hs (fun i _ acc => (acc.length : Int) = manyAt (es.take n) i) rfl (fun D i x F' acc H hx s p l O => ?_) (fun D F' acc H s p l O => ?_)
    · obtain ⟨e, he, a, rfl, ha⟩ := tab_get (tab.mono (s1.trans s)) (show tvs[i]? = some x by
        rw [List.getElem?_take] at hx
        split at hx
        · exact hx
        · cases hx)
      have hi : i < n := by
        rw [List.getElem?_take] at hx
        split at hx
        · assumption
        · cases hx
      have he' : (es.take n)[i]? = some e := by rw [List.getElem?_take, if_pos hi]; exact he
      have hi2 : i < es.length := (List.getElem?_eq_some_iff.mp he).1
      have hm : manyAt (es.take n) (i + 1) = manyAt (es.take n) i + (if e.row = true then 1 else 0) := by
        unfold manyAt
        rw [run_next he', many_row]
      obtain ⟨z, rest, ez⟩ := ev_head e
      rw [ez] at ha
      walk_at "r"
      refine rd_inT (by walk_at "sz") rfl rfl O fun H O => ?_
      rw [ev_row ez]
      walk_at "r"
      refine brb (fun h => ?_) (fun h => ?_)
      · walk_at "r"
        refine lcP (by omega) s l O ?_
        rw [hm, if_pos h, ← p]
        simp
      · refine lcN s l O ?_
        rw [hm, h, if_neg (by decide), ← p]
        simp
    · refine rd_len (SqL.of (O.get 0)) ?_
      rw [p]
      have e : manyAt (es.take n) (tvs.take n).length = manyAt es n := by
        unfold manyAt
        rw [List.length_take, tab.length, List.take_take]
        congr 2
        rw [List.take_eq_take_iff]
        omega
      rw [e]
      exact k _ (O.drop.weak (s1.trans s))
def spTale : Sp := fun vs H Q _ => ∃ (F : Hp) (R : List Cell) (b : Addr) (bx : Bx) (n N : Int), vs = [.ref b, .int n, .int 6, .int 2] ∧ Ow F ((b, bx.o) :: R) H ∧ BxOk bx N ∧ N ≤ 800000 ∧ 0 ≤ n ∧ n ≤ 20 ∧
  ∀ (ta : Addr) (vs : List V) (es : List Ev) (F' : Hp) (bx' : Bx) (H' : Hp), Same F F' → BxOk bx' (N + 200) → Ow F' ((b, bx'.o) :: R) H' → F' ta = some (.tup vs) → TabAt F' vs es → Valid c0 es → es.length ≤ 20 → Q (.ref ta) H'
abbrev s_w_tale : Stmt := top 30
theorem sc_w_tale : FnScope ["_law_box_here", "_law_tries", "_law_most", "_law_folk"] ["_law_box_here", "_law_tries", "_law_most", "_law_folk"] (defScope s_w_tale) := ⟨rfl, rfl, rfl, by decide +kernel, rfl, by decide +kernel, by decide +kernel⟩
theorem bd_w_tale : Bd "_law_tale" "_law_tale" s_w_tale ["_law_box_here", "_law_tries", "_law_most", "_law_folk"] := fun _ _ _ _ _ _ us hl => match us, hl with | [_, _, _, _], _ => rfl
/-! slots: 0 _law_box_here, 1 _law_tries, 2 _law_most, 3 _law_folk -/
theorem ok_w_tale {f : Addr} (S : Src K "_law_tale" "_law_tale" s_w_tale f) (T : Blt mg) (G_w_table : Def P w K mg base "_law_table" ["_law_box_here", "_law_many_here", "_law_most", "_law_folk", "_law_names", "_law_words"] 4 spTable) : Fn P w K mg base f ["_law_box_here", "_law_tries", "_law_most", "_law_folk"] 5 spTale := by
  refine fn_mk S sc_w_tale bd_w_tale (fun vs H Q E h => ?_) (fun cdv A outer s H vs Q E hr h => ?_)
  · obtain ⟨_, _, _, _, _, _, rfl, _⟩ := h
    rfl
  · obtain ⟨F, R, b, bx, n, N, rfl, O, B, hN, n0, n1, k⟩ := h
    have hu := hu_of hr
    refine ⟨_, (pss_one (ps_ret (pe_def G_w_table (hr.mono (by decide)) rfl (pa_cons (pv 0) (pa_cons (pv 1) (pa_cons (pv 2) (pa_cons (pv 3) (pa_cons (pe_lst (pa_cons pe_str (pa_cons pe_str (pa_cons pe_str pa_nil)))) (pa_cons pe_str pa_nil))))))))), ?_⟩
    walk_at "r"
    refine ⟨by walk_at "sz", fun nl hp => ?_⟩
    obtain ⟨F1, s1, h1, O1⟩ := O.newF (o := .lst [.str "a", .str "b", .str "c"]) hp
    walk_at "r"
    exact ⟨F1, R, b, nl, bx, n, N, rfl, O1, h1, B, hN, n0, n1, fun ta vs es F' bx' H' s' B' O' h' tab va hl => k ta vs es F' bx' H' (s1.trans s') B' O' h' tab va hl⟩
/-- a sweep's place and its end -/
def BrAt (F : Hp) (v : V) (p : Nat × Int) : Prop := ∃ a, v = .ref a ∧ F a = some (.tup [.int (p.1 : Int), .int p.2])
abbrev BrsAt (F : Hp) (vs : List V) (ps : List (Nat × Int)) : Prop := Paired (BrAt F) vs ps
theorem BrsAt.mono {F G : Hp} {vs : List V} {ps : List (Nat × Int)} (h : BrsAt F vs ps) (s : Same F G) : BrsAt G vs ps := L2.Paired.mapP h fun _ _ ⟨a, e, h⟩ => ⟨a, e, s _ _ h⟩
def BrOk (es : List Ev) (p : Nat × Int) : Prop := 0 ≤ p.2 ∧ p.2 ≤ manyAt es p.1
def spDrawn : Sp := fun vs H Q _ => ∃ (F : Hp) (R : List Cell) (b ta : Addr) (bx : Bx) (tvs : List V) (es : List Ev) (N : Int), vs = [.ref b, .ref ta] ∧ Ow F ((b, bx.o) :: R) H ∧ F ta = some (.tup tvs) ∧ TabAt F tvs es ∧ es.length ≤ 20 ∧ BxOk bx N ∧ N ≤ 800000 ∧
  ∀ (br : Addr) (vs : List V) (ps : List (Nat × Int)) (F' : Hp) (bx' : Bx) (H' : Hp), Same F F' → BxOk bx' (N + 100) → Ow F' ((b, bx'.o) :: R) H' → F' br = some (.tup vs) → BrsAt F' vs ps → (∀ p ∈ ps, BrOk es p) → ps.length ≤ 21 → Q (.ref br) H'
abbrev s_w_drawn_broom : Stmt := top 31
theorem sc_w_drawn_broom : FnScope ["_law_box_here", "_law_table_here", "_law_spot", "_law_found", "_law_end", "_law_many_so"] ["_law_box_here", "_law_table_here"] (defScope s_w_drawn_broom) := ⟨rfl, rfl, rfl, by decide +kernel, rfl, by decide +kernel, by decide +kernel⟩
theorem bd_w_drawn_broom : Bd "_law_drawn_broom" "_law_drawn_broom" s_w_drawn_broom ["_law_box_here", "_law_table_here"] := fun _ _ _ _ _ _ us hl => match us, hl with | [_, _], _ => rfl
/-! slots: 0 _law_box_here, 1 _law_table_here, 2 _law_spot, 3 _law_found, 4 _law_end, 5 _law_many_so -/
theorem ok_w_drawn_broom {f : Addr} (S : Src K "_law_drawn_broom" "_law_drawn_broom" s_w_drawn_broom f) (T : Blt mg) (G_w_many : Def P w K mg base "_law_many" ["_law_table_here", "_law_spot"] 1 spMany) (G_w_take : Def P w K mg base "_law_take" ["_law_box_here", "_law_span"] 1 spTake) :
    Fn P w K mg base f ["_law_box_here", "_law_table_here"] 2 spDrawn := by
  refine fn_mk S sc_w_drawn_broom bd_w_drawn_broom (fun vs H Q E h => ?_) (fun cdv A outer s H vs Q E hr h => ?_)
  · obtain ⟨_, _, _, _, _, _, _, _, rfl, _⟩ := h
    rfl
  · obtain ⟨F, R, b, ta, bx, tvs, es, N, rfl, O, ht, tab, hl, B, hN, k⟩ := h
    have hu := hu_of hr
    have hlt := tab.length
    refine ⟨_, (pss_cons (ps_par (i := 3) (j := 4) rfl sc_w_drawn_broom.nd rfl rfl (by decide) rfl rfl (pa_cons (pe_lst pa_nil) (pa_cons pe_int pa_nil)) rfl)
      (pss_cons (ps_for PassesOwn.never rfl (pi_range1 rfl T.range (pa_cons (pe_op op_add (pe_callB cl_len (by rfl) T.len (by decide +kernel) (pa_cons (pv 1) pa_nil)) pe_int) pa_nil)) (pg_name (i := 2) sc_w_drawn_broom.nd rfl (Or.inl rfl))
        (pss_cons (ps_set (i := 5) sc_w_drawn_broom.nd rfl (Or.inl rfl) (pe_def G_w_many (hr.mono (by decide)) rfl (pa_cons (pv 1) (pa_cons (pv 2) pa_nil))))
        (pss_cons (ps_if (PW.pt (pw_and (pt_cmpR op_gt (pv 5) (pv 4) (nomark _)) (pw_and1 (pt_cmpR op_eq (pe_def G_w_take (hr.mono (by decide)) rfl (pa_cons (pv 0) (pa_cons pe_int pa_nil))) pe_int (nomark _)))))
          (pss_one (ps_set (i := 4) sc_w_drawn_broom.nd rfl (Or.inl rfl) (pe_op op_add (pe_op op_add (pv 4) pe_int) (pe_def G_w_take (hr.mono (by decide)) rfl (pa_cons (pv 0) (pa_cons (pe_op op_sub (pv 5) (pv 4)) pa_nil))))))
          pss_nil)
        (pss_one (ps_set (i := 3) sc_w_drawn_broom.nd rfl (Or.inl rfl) (pe_op op_cat (pv 3) (pe_op op_rep (pe_lst (pa_cons (pe_tup (pa_cons (pv 2) (pa_cons (pv 4) pa_nil))) pa_nil)) (pe_callTy cl_intB (by rfl) T.int (by decide +kernel) (pa_cons (pe_cmpR op_gt (pe_def G_w_take (hr.mono (by decide)) rfl (pa_cons (pv 0) (pa_cons pe_int pa_nil))) pe_int (nomark _)) pa_nil)))))))))
      (pss_one (ps_ret (pe_callTy cl_tupL (by rfl) T.tuple (by decide +kernel) (pa_cons (pv 3) pa_nil)))))), ?_⟩
    walk_at "r"
    refine ⟨by walk_at "sz", fun fl hp => ?_⟩
    have O := O.new (o := .lst []) hp
    walk_at "r"
    refine lp_R1 (by omega) (by omega) (fun i σ' H' => ∃ (F1 : Hp) (bx1 : Bx) (fl : Addr) (xs : List V) (ps : List (Nat × Int)) (en : Int) (v2 v5 : Option V), σ' = [some (.ref b), some (.ref ta), v2, some (.ref fl), some (.int en), v5] ∧ Same F F1 ∧ BxOk bx1 (N + 3 * i) ∧
        Ow F1 ((fl, .lst xs) :: (b, bx1.o) :: R) H' ∧ BrsAt F1 xs ps ∧ (∀ p ∈ ps, BrOk es p) ∧ ps.length ≤ i ∧ 0 ≤ en ∧ en ≤ manyAt es i)
      ⟨F, bx, fl, [], [], 0, none, none, rfl, Same.refl _, B.mono (by omega), O, .nil, fun _ h => (nomatch h), Nat.le_refl _, Int.le_refl _, (manyAt_bd es 0).1⟩ ?_ ?_
    · rintro i σ' H' hi ⟨F1, bx1, fl, xs, ps, en, v2, v5, rfl, s1, B, O, hb, hok, hpl, e0, e1⟩
      obtain ⟨m0, m1⟩ := manyAt_bd es i
      have hxl := hb.length
      have mm := manyAt_mono (es := es) (i := i)
      walk_at "r"
      refine ⟨F1, _, ta, tvs, es, i, rfl, O, s1 _ _ ht, tab.mono s1, hl, fun H O => ?_⟩
      walk_at "r"
      refine br (fun h => ?_) (fun h => ?_)
      · walk_at "r"
        refine ⟨F1, _, b, _, _, _, rfl, O.top 1, B, by omega, by omega, by omega, fun z bx2 H z0 z1 B O => ?_⟩
        replace O := O.top 1
        walk_at "r"
        refine br (fun hz => ?_) (fun hz => ?_)
        · walk_at "r"
          refine ⟨F1, _, b, _, _, _, rfl, O.top 1, B, by omega, by omega, by omega, fun y bx3 H y0 y1 B O => ?_⟩
          replace O := O.top 1
          walk_at "r"
          refine ⟨by walk_at "sz", fun p1 hp1 => ?_⟩
          obtain ⟨F2, s2, h1, O⟩ := O.newF (o := .tup [.int (i : Int), .int (en + 1 + y)]) hp1
          walk_at "r"
          refine ⟨by walk_at "sz", fun p2 hp2 => ?_⟩
          have O := O.new (o := .lst [.ref p1]) hp2
          walk_at "r"
          refine ⟨F2, _, b, _, _, _, rfl, O.top 2, B, by omega, by omega, by omega, fun r bx2 H r0 r1 B O => ?_⟩
          replace O := (O.top 2).top 2
          walk_at "r"
          refine rd_rep (O.get 0) (by split <;> decide) (by split <;> decide) (szl (by split <;> simp)) fun p3 hp3 => ?_
          have O := O.new (o := .lst (List.replicate (if decide (0 < r) = true then (1 : Int) else 0).toNat [V.ref p1]).flatten) hp3
          walk_at "r"
          refine rd_cat (O.get 2) (O.get 0) (szl (by split <;> (simp; omega))) fun p4 hp4 => ?_
          have O := O.new (o := .lst (xs ++ (List.replicate (if decide (0 < r) = true then (1 : Int) else 0).toNat [V.ref p1]).flatten)) hp4
          walk_at "r"
          have O := (((O.er 1).er 1).er 1)
          by_cases hr0 : 0 < r
          · refine ⟨F2, _, p4, _, ps ++ [(i, (en + 1 + y))], _, _, _, rfl, s1.trans s2, B.mono (by omega), O, ?_, fun q hq => ?_, by simp; omega, by omega, by omega⟩
            · rw [decide_eq_true hr0]
              exact (hb.mono s2).snoc ⟨p1, rfl, h1⟩
            · rcases List.mem_append.mp hq with hq | hq
              · exact hok q hq
              · rw [List.mem_singleton.mp hq]
                exact ⟨by show 0 ≤ (en + 1 + y); omega, by show (en + 1 + y) ≤ manyAt es i; omega⟩
          · refine ⟨F2, _, p4, _, ps, _, _, _, rfl, s1.trans s2, B.mono (by omega), O, ?_, hok, by omega, by omega, by omega⟩
            rw [decide_eq_false hr0]
            simpa using hb.mono s2
        · refine rd_next ?_
          walk_at "r"
          refine ⟨by walk_at "sz", fun p1 hp1 => ?_⟩
          obtain ⟨F2, s2, h1, O⟩ := O.newF (o := .tup [.int (i : Int), .int en]) hp1
          walk_at "r"
          refine ⟨by walk_at "sz", fun p2 hp2 => ?_⟩
          have O := O.new (o := .lst [.ref p1]) hp2
          walk_at "r"
          refine ⟨F2, _, b, _, _, _, rfl, O.top 2, B, by omega, by omega, by omega, fun r bx2 H r0 r1 B O => ?_⟩
          replace O := (O.top 2).top 2
          walk_at "r"
          refine rd_rep (O.get 0) (by split <;> decide) (by split <;> decide) (szl (by split <;> simp)) fun p3 hp3 => ?_
          have O := O.new (o := .lst (List.replicate (if decide (0 < r) = true then (1 : Int) else 0).toNat [V.ref p1]).flatten) hp3
          walk_at "r"
          refine rd_cat (O.get 2) (O.get 0) (szl (by split <;> (simp; omega))) fun p4 hp4 => ?_
          have O := O.new (o := .lst (xs ++ (List.replicate (if decide (0 < r) = true then (1 : Int) else 0).toNat [V.ref p1]).flatten)) hp4
          walk_at "r"
          have O := (((O.er 1).er 1).er 1)
          by_cases hr0 : 0 < r
          · refine ⟨F2, _, p4, _, ps ++ [(i, en)], _, _, _, rfl, s1.trans s2, B.mono (by omega), O, ?_, fun q hq => ?_, by simp; omega, by omega, by omega⟩
            · rw [decide_eq_true hr0]
              exact (hb.mono s2).snoc ⟨p1, rfl, h1⟩
            · rcases List.mem_append.mp hq with hq | hq
              · exact hok q hq
              · rw [List.mem_singleton.mp hq]
                exact ⟨by show 0 ≤ en; omega, by show en ≤ manyAt es i; omega⟩
          · refine ⟨F2, _, p4, _, ps, _, _, _, rfl, s1.trans s2, B.mono (by omega), O, ?_, hok, by omega, by omega, by omega⟩
            rw [decide_eq_false hr0]
            simpa using hb.mono s2
      · walk_at "r"
        refine ⟨by walk_at "sz", fun p1 hp1 => ?_⟩
        obtain ⟨F2, s2, h1, O⟩ := O.newF (o := .tup [.int (i : Int), .int en]) hp1
        walk_at "r"
        refine ⟨by walk_at "sz", fun p2 hp2 => ?_⟩
        have O := O.new (o := .lst [.ref p1]) hp2
        walk_at "r"
        refine ⟨F2, _, b, _, _, _, rfl, O.top 2, B, by omega, by omega, by omega, fun r bx2 H r0 r1 B O => ?_⟩
        replace O := (O.top 2).top 2
        walk_at "r"
        refine rd_rep (O.get 0) (by split <;> decide) (by split <;> decide) (szl (by split <;> simp)) fun p3 hp3 => ?_
        have O := O.new (o := .lst (List.replicate (if decide (0 < r) = true then (1 : Int) else 0).toNat [V.ref p1]).flatten) hp3
        walk_at "r"
        refine rd_cat (O.get 2) (O.get 0) (szl (by split <;> (simp; omega))) fun p4 hp4 => ?_
        have O := O.new (o := .lst (xs ++ (List.replicate (if decide (0 < r) = true then (1 : Int) else 0).toNat [V.ref p1]).flatten)) hp4
        walk_at "r"
        have O := (((O.er 1).er 1).er 1)
        by_cases hr0 : 0 < r
        · refine ⟨F2, _, p4, _, ps ++ [(i, en)], _, _, _, rfl, s1.trans s2, B.mono (by omega), O, ?_, fun q hq => ?_, by simp; omega, by omega, by omega⟩
          · rw [decide_eq_true hr0]
            exact (hb.mono s2).snoc ⟨p1, rfl, h1⟩
          · rcases List.mem_append.mp hq with hq | hq
            · exact hok q hq
            · rw [List.mem_singleton.mp hq]
              exact ⟨by show 0 ≤ en; omega, by show en ≤ manyAt es i; omega⟩
        · refine ⟨F2, _, p4, _, ps, _, _, _, rfl, s1.trans s2, B.mono (by omega), O, ?_, hok, by omega, by omega, by omega⟩
          rw [decide_eq_false hr0]
          simpa using hb.mono s2
    · rintro σ' H' ⟨F1, bx1, fl, xs, ps, en, v2, v5, rfl, s1, B, O, hb, hok, hpl, e0, e1⟩
      walk_at "r"
      intro br hp
      have O : Ow F1 ((b, bx1.o) :: R) H' := O.drop
      obtain ⟨F2, s2, h2, O⟩ := O.newF (o := .tup xs) hp
      exact k br xs ps F2 bx1 _ (s1.trans s2) (B.mono (by omega)) O h2 (hb.mono s2) hok (by omega)
end
end K7

set_option Elab.async false
set_option linter.all false
set_option maxRecDepth 100000
set_option maxHeartbeats 4000000
set_option pp.deepTerms false
set_option pp.maxSteps 600
namespace K7
open PySem PySem.Spec PyProof.Rows L2
local macro_rules | `(tactic| walk_at "hp") => `(tactic| with_unfolding_all first
  | exact Ow.get (by assumption) 0 | exact Ow.get (by assumption) 1 | exact Ow.get (by assumption) 2 | exact Ow.get (by assumption) 3
  | exact Ow.fz (by assumption) (by assumption)
  | exact Ow.get (by assumption) 4 | exact Ow.get (by assumption) 5 | exact Ow.get (by assumption) 6 | exact Ow.get (by assumption) 7 | exact Ow.get (by assumption) 8 | exact Ow.get (by assumption) 9)
local macro_rules | `(tactic| walk_at "sq") => `(tactic| with_unfolding_all first
  | exact SqL.of (by walk_at "hp") | exact SqT.of (by walk_at "hp") | assumption)
local macro_rules | `(tactic| walk_at "rd") => `(tactic| with_unfolding_all first
  | exact Rd.of (by walk_at "hp") | assumption)
local macro_rules | `(tactic| walk_at "dk") => `(tactic| assumption)
local macro_rules | `(tactic| walk_at "ai") => `(tactic| first | with_unfolding_all rfl | exact atI_zero | assumption)
local macro_rules | `(tactic| walk_at "sd") => `(tactic| with_unfolding_all first
  | rfl | assumption | decide | omega
  | exact ⟨by omega, by omega⟩ | exact Or.inl ⟨by omega, by omega⟩ | exact Or.inr ⟨by omega, by omega⟩ | exact ⟨by decide, by decide, by omega⟩)
local macro_rules | `(tactic| walk_at "sz") => `(tactic| first
  | with_unfolding_all exact szl (Nat.le_of_ble_eq_true rfl)
  | with_unfolding_all exact sztl (Nat.le_of_ble_eq_true rfl)
  | exact szl (by simp <;> omega)
  | exact sztl (by simp <;> omega))
local macro_rules | `(tactic| walk_at "s") => `(tactic| first
  | with_reducible refine rd_I0 ?_
  | ((with_reducible apply rd_I); (focus walk_at "sd"))
  | ((with_reducible apply rd_opVC); (focus with_unfolding_all rfl))
  | ((with_reducible apply rd_opVV); (focus with_unfolding_all rfl); (focus with_unfolding_all rfl))
  | ((with_reducible apply rd_opV); (focus with_unfolding_all rfl))
  | with_reducible refine rd_opC ?_
  | with_reducible refine rd_op ?_
  | ((with_reducible apply rd_var); (focus with_unfolding_all rfl))
  | with_reducible refine rd_c ?_
  | with_reducible refine rd_sSet ?_
  | ((with_reducible apply rd_CB1V); (focus with_unfolding_all rfl)) | with_reducible refine rd_CB1 ?_ | with_reducible refine rd_CB ?_
  | ((with_reducible apply rd_consV); (focus with_unfolding_all rfl)) | with_reducible refine rd_consC ?_ | with_reducible refine rd_cons0 ?_ | with_reducible refine rd_cons ?_ | with_reducible refine rd_nil ?_
  | ((with_reducible apply rd_ixL); (focus walk_at "sq"); (focus walk_at "ai"))
  | ((with_reducible apply rd_ixT); (focus walk_at "sq"); (focus walk_at "ai"))
  | with_reducible refine rd_int ?_ | with_reducible refine rd_intB ?_ | with_reducible refine rd_abs ?_
  | ((with_reducible apply rd_len); (focus walk_at "sq")) | ((with_reducible apply rd_lenT); (focus walk_at "sq"))
  | with_reducible refine rd_ifS ?_ | with_reducible refine iteT ?_ | with_reducible refine iteF ?_
  | with_reducible refine rd_tTest ?_ | with_reducible refine rd_tB ?_ | with_reducible refine rd_ex ?_
  | with_reducible refine rd_seqD ?_ | with_reducible refine rd_sSet1 ?_ | with_reducible refine rd_ret ?_ | with_reducible refine rd_drop ?_ | with_reducible refine rd_asg ?_
  | ((with_reducible apply rd_eq); (focus with_unfolding_all rfl)) | ((with_reducible apply rd_ne); (focus with_unfolding_all rfl))
  | with_reducible refine rd_isNr ?_ | with_reducible refine rd_notNr ?_ | with_reducible refine rd_isNn ?_ | with_reducible refine rd_notNn ?_ | with_reducible refine rd_isNi ?_ | with_reducible refine rd_notNi ?_
  | with_reducible refine rd_isN ?_ | with_reducible refine rd_notN ?_
  | with_reducible refine rd_and ?_ | with_reducible refine rd_or ?_ | with_reducible refine rd_not ?_ | with_reducible refine rd_if ?_
  | with_reducible refine rd_seq ?_ | with_reducible refine rd_gName ?_ | with_reducible refine rd_next ?_ | with_reducible refine rd_retN ?_
  | with_reducible refine rd_gSub ?_ | with_reducible refine rd_gCons ?_ | with_reducible refine rd_gNil ?_ | ((with_reducible apply rd_gTup); (focus walk_at "sq"); (focus with_unfolding_all rfl))
  | ((with_reducible apply rd_setL); (focus walk_at "hp"); (focus with_unfolding_all rfl))
  | with_reducible refine rd_par ?_ | with_reducible refine rd_par3 ?_ | with_reducible refine rd_ex2 ?_ | with_reducible refine rd_ex3 ?_
  | with_reducible refine rd_dget ?_ | with_reducible refine rd_din ?_ | with_reducible refine rd_dnotin ?_
  | ((with_reducible apply rd_dgS); (focus walk_at "rd"); (focus walk_at "dk"))
  | ((with_reducible apply rd_dgI); (focus walk_at "rd"); (focus walk_at "dk"))
  | ((with_reducible apply rd_doS); (focus walk_at "rd")) | ((with_reducible apply rd_doI); (focus walk_at "rd"))
  | with_reducible refine rd_dput ?_
  | ((with_reducible apply rd_dpS); (focus walk_at "hp"); (focus walk_at "sz")) | ((with_reducible apply rd_dpI); (focus walk_at "hp"); (focus walk_at "sz"))
  | with_reducible refine rd_bm ?_
  | ((with_reducible apply rd_tyL); (focus walk_at "hp")) | ((with_reducible apply rd_append); (focus walk_at "hp"); (focus walk_at "sz"))
  | with_reducible refine rd_tup ?_ | with_reducible refine rd_lst ?_ | with_reducible refine rd_dnew ?_
  | with_reducible refine rd_for ?_ | with_reducible refine rd_iR1 ?_ | with_reducible refine rd_iR2 ?_ | with_reducible refine rd_iL ?_ | with_reducible refine rd_iT ?_
  | with_reducible refine rd_disp ?_ | with_reducible refine rd_pair ?_ | with_reducible refine rd_pair0 ?_
  | with_reducible refine rd_andV ?_ | with_reducible refine rd_orV ?_
  | ((with_reducible apply rd_tupL); (focus walk_at "sq")) | ((with_reducible apply rd_listT); (focus walk_at "sq"))
  | with_reducible refine rd_lc ?_ | ((with_reducible apply rd_wp); (focus with_unfolding_all rfl)) | with_reducible refine rd_yes ?_
  | with_reducible refine rd_sl ?_ | with_reducible refine rd_noPart ?_ | with_reducible refine rd_part ?_ | with_reducible refine rd_exI ?_
  | ((with_reducible apply rd_isd); (focus walk_at "rd")) | ((with_reducible apply rd_dg1S); (focus walk_at "rd")) | ((with_reducible apply rd_dg1I); (focus walk_at "rd"))
  | with_reducible refine rd_dget1 ?_ | with_reducible refine rd_dget2 ?_ | with_reducible refine rd_dpop2 ?_ | with_reducible refine rd_dpop1 ?_ | with_reducible refine rd_dsetd ?_
  | ((with_reducible apply rd_slL); (focus walk_at "sq"))
  | with_reducible refine rd_iE ?_ | with_reducible refine rd_iS ?_
  | ((with_reducible apply rd_dictD); (focus walk_at "rd"))
  | with_reducible refine rd_setD ?_
  | with_reducible refine rd_call ?_)
local macro_rules | `(tactic| walk_at "r") => `(tactic| repeat (walk_at "s"))

local macro_rules | `(tactic| walk_at "lt") => `(tactic| first | with_reducible refine ifT (by decide +kernel) ?_ | with_reducible refine ifF (by decide +kernel) ?_)
local macro_rules | `(tactic| walk_at "R") => `(tactic| repeat (first | walk_at "s" | walk_at "lt"))
/-! ### keys below 21 -/
def KsOk (kvs : List (Key × V)) : Prop := (kvs.map (·.1)).Nodup ∧ ∀ k ∈ kvs.map (·.1), ∃ i : Nat, i < 21 ∧ k = .inl (i : Int)
theorem pigeonN : ∀ (n : Nat) (ks : List Nat), ks.Nodup → (∀ k ∈ ks, k < n) → ks.length ≤ n
  | 0, [], _, _ => Nat.le_refl _
  | 0, k :: _, _, h => by
    have := h k (List.mem_cons_self ..)
    omega
  | n + 1, ks, nd, h => by
    have ih := pigeonN n (ks.erase n) (nd.erase _) fun k hk => by
      obtain ⟨h1, h2⟩ := (nd.mem_erase_iff).mp hk
      have := h k h2
      omega
    by_cases hm : n ∈ ks
    · rw [List.length_erase_of_mem hm] at ih
      omega
    · rw [List.erase_of_not_mem hm] at ih
      omega
def keyN : Key → Nat
  | .inl i => i.toNat
  | .inr _ => 0
theorem pigeon (n : Nat) (ks : List Key) (nd : ks.Nodup) (h : ∀ k ∈ ks, ∃ i : Nat, i < n ∧ k = .inl (i : Int)) : ks.length ≤ n := by
  have := pigeonN n (ks.map keyN) (by
    refine List.pairwise_map.mpr (List.Pairwise.imp_of_mem (fun {a b} ha hb ne e => ne ?_) nd)
    obtain ⟨i, _, rfl⟩ := h a ha
    obtain ⟨j, _, rfl⟩ := h b hb
    have e' : ((i : Int)).toNat = ((j : Int)).toNat := e
    have : i = j := by omega
    rw [this]) fun k hk => by
    obtain ⟨a, ha, rfl⟩ := List.mem_map.mp hk
    obtain ⟨i, hi, rfl⟩ := h a ha
    show ((i : Int)).toNat < n
    omega
  rwa [List.length_map] at this
theorem KsOk.len {kvs : List (Key × V)} (h : KsOk kvs) : kvs.length ≤ 21 := by
  have := pigeon 21 _ h.1 h.2
  rwa [List.length_map] at this
theorem KsOk.nil : KsOk [] := ⟨List.nodup_nil, fun _ h => (nomatch h)⟩
theorem keys_in {kvs : List (Key × V)} {k : Key} {v : V} (hk : k ∈ kvs.map (·.1)) : (putK kvs k v).map (·.1) = kvs.map (·.1) := by
  unfold putK
  have ha : (kvs.any fun kv => decide (kv.1 = k)) = true := by
    obtain ⟨p, hp, e⟩ := List.mem_map.mp hk
    exact List.any_eq_true.mpr ⟨p, hp, decide_eq_true e⟩
  rw [if_pos ha, List.map_map]
  refine List.map_congr_left fun p _ => ?_
  show (if p.1 = k then (p.1, v) else p).1 = p.1
  split <;> rfl
theorem keys_out {kvs : List (Key × V)} {k : Key} {v : V} (hk : k ∉ kvs.map (·.1)) : (putK kvs k v).map (·.1) = kvs.map (·.1) ++ [k] := by
  unfold putK
  have ha : ¬ (kvs.any fun kv => decide (kv.1 = k)) = true := fun h => by
    obtain ⟨p, hp, e⟩ := List.any_eq_true.mp h
    exact hk (List.mem_map.mpr ⟨p, hp, of_decide_eq_true e⟩)
  rw [if_neg ha, List.map_append]
  rfl
theorem KsOk.put {kvs : List (Key × V)} (h : KsOk kvs) {i : Nat} (hi : i < 21) (v : V) : KsOk (putK kvs (.inl (i : Int)) v) := by
  unfold KsOk
  by_cases hk : (.inl (i : Int) : Key) ∈ kvs.map (·.1)
  · rw [keys_in hk]; exact h
  · rw [keys_out hk]
    refine ⟨List.nodup_append.mpr ⟨h.1, by simp, fun a ha b hb => ?_⟩, fun k hk' => ?_⟩
    · rw [List.mem_singleton.mp hb]
      exact fun e => hk (e ▸ ha)
    · rcases List.mem_append.mp hk' with hk' | hk'
      · exact h.2 k hk'
      · exact ⟨i, hi, List.mem_singleton.mp hk'⟩
/-! ### the run's own course -/
structure Wa where
  w : Addr
  rw_ : Addr
  go : Addr
  si : Addr
  se : Addr
  ta : Addr
  co : Addr
  he : Addr
def Wa.K (a : Wa) : List (Key × V) := [(.inr "rows", .ref a.rw_), (.inr "gone", .ref a.go), (.inr "since", .ref a.si), (.inr "seats", .ref a.se), (.inr "tables", .ref a.ta), (.inr "copies", .ref a.co), (.inr "heard", .ref a.he)]
theorem wa_nd : ([.inr "rows", .inr "gone", .inr "since", .inr "seats", .inr "tables", .inr "copies", .inr "heard"] : List Key).Nodup := by decide +kernel
section
variable {a : Wa}
theorem wa_rows : valV a.K (.inr "rows") = some (.ref a.rw_) := valV_at (i := 0) wa_nd rfl
theorem wa_gone : valV a.K (.inr "gone") = some (.ref a.go) := valV_at (i := 1) wa_nd rfl
theorem wa_since : valV a.K (.inr "since") = some (.ref a.si) := valV_at (i := 2) wa_nd rfl
theorem wa_seats : valV a.K (.inr "seats") = some (.ref a.se) := valV_at (i := 3) wa_nd rfl
theorem wa_tables : valV a.K (.inr "tables") = some (.ref a.ta) := valV_at (i := 4) wa_nd rfl
theorem wa_copies : valV a.K (.inr "copies") = some (.ref a.co) := valV_at (i := 5) wa_nd rfl
theorem wa_heard : valV a.K (.inr "heard") = some (.ref a.he) := valV_at (i := 6) wa_nd rfl
end
structure Ws where
  rows : List V
  gone : List (Key × V)
  since : List (Key × V)
  seats : List (Key × V)
  tables : List (Key × V)
  copies : List V
  heard : List V
def Ws0 : Ws := ⟨[], [], [], [], [], [], []⟩
def waC (a : Wa) (s : Ws) : List Cell := [(a.w, .dK a.K), (a.rw_, .lst s.rows), (a.go, .dK s.gone), (a.si, .dK s.since), (a.se, .dK s.seats), (a.ta, .dK s.tables), (a.co, .lst s.copies), (a.he, .lst s.heard)]
/-- a row: its key, its value -/
def oV : Option Int → V
  | none => .non
  | some n => .int n
def RowAt (F : Hp) (v : V) (r : Str × Option Int) : Prop := ∃ a, v = .ref a ∧ F a = some (.tup [.str r.1, oV r.2])
abbrev RowsAt (F : Hp) (vs : List V) (rs : List (Str × Option Int)) : Prop := Paired (RowAt F) vs rs
theorem RowsAt.mono {F G : Hp} {vs : List V} {rs : List (Str × Option Int)} (h : RowsAt F vs rs) (s : Same F G) : RowsAt G vs rs := L2.Paired.mapP h fun _ _ ⟨a, e, h⟩ => ⟨a, e, s _ _ h⟩
def IntsV (kvs : List (Key × V)) : Prop := ∀ k v, valV kvs k = some v → ∃ n : Int, v = .int n
local macro_rules | `(tactic| walk_at "dk") => `(tactic| first
  | assumption | exact wa_rows | exact wa_gone | exact wa_since | exact wa_seats | exact wa_tables | exact wa_copies | exact wa_heard)
def spBare : Sp := fun vs H Q _ => ∃ (F : Hp) (R : List Cell), vs = [] ∧ Ow F R H ∧ ∀ (a : Wa) (H' : Hp), Ow F (waC a Ws0 ++ R) H' → Q (.ref a.w) H'
def spLeave : Sp := fun vs H Q _ => ∃ (F : Hp) (R : List Cell) (a : Wa) (s : Ws) (rs : List (Str × Option Int)) (keep spot : Int), vs = [.ref a.w, .int keep, .int spot] ∧ Ow F (waC a s ++ R) H ∧ RowsAt F s.rows rs ∧ rs.length ≤ 20 ∧ KsOk s.gone ∧ IntsV s.since ∧
  ∀ (gone : List (Key × V)) (H' : Hp), KsOk gone → Ow F (waC a { s with gone := gone } ++ R) H' → Q .non H'
def spSwept : Sp := fun vs H Q _ => ∃ (F : Hp) (R : List Cell) (a : Wa) (s : Ws) (rs : List (Str × Option Int)) (keep spot en : Int), vs = [.ref a.w, .int keep, .int spot, .int en] ∧ Ow F (waC a s ++ R) H ∧ RowsAt F s.rows rs ∧ rs.length ≤ 20 ∧ KsOk s.gone ∧ KsOk s.since ∧ IntsV s.since ∧ 0 ≤ en ∧ en ≤ rs.length ∧
  ∀ (gone since : List (Key × V)) (H' : Hp), KsOk gone → KsOk since → IntsV since → Ow F (waC a { s with gone := gone, since := since } ++ R) H' → Q .non H'
theorem IntsV.put {kvs : List (Key × V)} (h : IntsV kvs) (k : Key) (n : Int) : IntsV (putK kvs k (.int n)) := fun j v e => by
  rw [valV_put] at e
  split at e
  · cases e; exact ⟨n, rfl⟩
  · exact h j v e
theorem flat_strs (ks : List Str) : (ks.map V.str).all flatV = true := by
  rw [List.all_eq_true]
  intro v hv
  obtain ⟨k, _, rfl⟩ := List.mem_map.mp hv
  rfl
theorem flat_cut {xs : List V} (h : xs.all flatV = true) (lo hi : Option Int) : (cutV xs lo hi).all flatV = true := by
  rw [List.all_eq_true] at h ⊢
  exact fun v hv => h v (List.mem_of_mem_drop (List.mem_of_mem_take hv))
theorem cut_hi {xs : List V} {n : Int} (h0 : 0 ≤ n) (h1 : n ≤ xs.length) : cutV xs none (some n) = xs.take n.toNat := by
  obtain ⟨j, rfl⟩ := Int.eq_ofNat_of_zero_le h0
  unfold cutV
  rw [HT.sIx_nat, HT.sIx_none, List.drop_zero, Nat.sub_zero, Nat.min_eq_left (by omega)]
  rfl
section
variable {P : Program} {w : World} {K : PySem.W.Frag} {mg : Str → Option Value} {base : Heap}
abbrev s_w_bare : Stmt := top 20
theorem sc_w_bare : FnScope [] [] (defScope s_w_bare) := ⟨rfl, rfl, rfl, by decide +kernel, rfl, by decide +kernel, by decide +kernel⟩
theorem bd_w_bare : Bd "_law_bare" "_law_bare" s_w_bare [] := fun _ _ _ _ _ _ us hl => match us, hl with | [], _ => rfl
/-! slots:  -/
theorem ok_w_bare {f : Addr} (S : Src K "_law_bare" "_law_bare" s_w_bare f) (T : Blt mg) : Fn P w K mg base f [] 1 spBare := by
  refine fn_mk S sc_w_bare bd_w_bare (fun vs H Q E h => ?_) (fun cdv A outer s H vs Q E hr h => ?_)
  · obtain ⟨_, _, rfl, _⟩ := h
    rfl
  · obtain ⟨F, R, rfl, O, k⟩ := h
    have hu := hu_of hr
    refine ⟨_, (pss_one (ps_ret (pe_disp (pps_cons pe_str (pe_lst pa_nil) (pps_cons pe_str pe_dnewK (pps_cons pe_str pe_dnewK (pps_cons pe_str pe_dnewK (pps_cons pe_str pe_dnewK (pps_cons pe_str (pe_lst pa_nil) (pps_cons pe_str (pe_lst pa_nil) pps_nil))))))) (by rfl) (by rfl) (fun z => by cases z) (by decide)))), ?_⟩
    walk_at "r"
    intro wd hp
    have O := O.new (o := .dK []) hp
    walk_at "r"
    refine ⟨by walk_at "sz", fun x1 hp => ?_⟩
    have O := O.new (o := .lst []) hp
    walk_at "r"
    intro x2 hp
    have O := O.new (o := .dK []) hp
    walk_at "r"
    intro x3 hp
    have O := O.new (o := .dK []) hp
    walk_at "r"
    intro x4 hp
    have O := O.new (o := .dK []) hp
    walk_at "r"
    intro x5 hp
    have O := O.new (o := .dK []) hp
    walk_at "r"
    refine ⟨by walk_at "sz", fun x6 hp => ?_⟩
    have O := O.new (o := .lst []) hp
    walk_at "r"
    refine ⟨by walk_at "sz", fun x7 hp => ?_⟩
    have O := O.new (o := .lst []) hp
    walk_at "r"
    refine ⟨O.get 7, Wa.K ⟨wd, x1, x2, x3, x4, x5, x6, x7⟩, rfl, by show 7 ≤ 15; decide, ?_⟩
    rw [merge_lit (kvs := Wa.K ⟨wd, x1, x2, x3, x4, x5, x6, x7⟩) wa_nd]
    have O := O.set 7 (.dK (Wa.K ⟨wd, x1, x2, x3, x4, x5, x6, x7⟩))
    exact k ⟨wd, x1, x2, x3, x4, x5, x6, x7⟩ _ (((((((O.top 1).top 2).top 3).top 4).top 5).top 6).top 7)
abbrev s_w_leave : Stmt := top 21
theorem sc_w_leave : FnScope ["_law_w", "_law_keep", "_law_spot", "_law_k", "_law_key_so", "_law_worth"] ["_law_w", "_law_keep", "_law_spot"] (defScope s_w_leave) := ⟨rfl, rfl, rfl, by decide +kernel, rfl, by decide +kernel, by decide +kernel⟩
theorem bd_w_leave : Bd "_law_leave" "_law_leave" s_w_leave ["_law_w", "_law_keep", "_law_spot"] := fun _ _ _ _ _ _ us hl => match us, hl with | [_, _, _], _ => rfl
/-! slots: 0 _law_w, 1 _law_keep, 2 _law_spot, 3 _law_k, 4 _law_key_so, 5 _law_worth -/
theorem ok_w_leave {f : Addr} (S : Src K "_law_leave" "_law_leave" s_w_leave f) (T : Blt mg) : Fn P w K mg base f ["_law_w", "_law_keep", "_law_spot"] 1 spLeave := by
  refine fn_mk S sc_w_leave bd_w_leave (fun vs H Q E h => ?_) (fun cdv A outer s0 H vs Q E hr h => ?_)
  · obtain ⟨_, _, _, _, _, _, _, rfl, _⟩ := h
    rfl
  · obtain ⟨F, R, a, s, rs, keep, spot, rfl, O, hrs, hl, kg, ki, k⟩ := h
    have hu := hu_of hr
    have hlen := hrs.length
    refine ⟨_, (pss_one (ps_for PassesOwn.never rfl (pi_enum rfl T.enumerate (pa_cons (pe_dget hu (pv 0) pe_str (fun _ _ => rfl)) pa_nil)) (pg_tup (n := 2) rfl (pgs_cons (pg_name (i := 3) sc_w_leave.nd rfl (Or.inl rfl)) (pgs_cons (pg_tup (n := 2) rfl (pgs_cons (pg_name (i := 4) sc_w_leave.nd rfl (Or.inl rfl)) (pgs_cons (pg_name (i := 5) sc_w_leave.nd rfl (Or.inl rfl)) pgs_nil))) pgs_nil)))
        (pss_one (ps_if (PW.pt (pw_and (pt_cmpR op_isN1 (pv 5) pe_non (nomark _)) (pw_and (pt_cmp (pc_din hu (pv 3) (pe_dget hu (pv 0) pe_str (fun _ _ => rfl)))) (pw_and1 (pt_cmpR op_le (pe_op op_add (pe_dget hu (pe_dget hu (pv 0) pe_str (fun _ _ => rfl)) (pv 3) (fun _ _ => rfl)) (pv 1)) (pv 2) (nomark _))))))
          (pss_one (ps_dput hu (pe_dget hu (pv 0) pe_str (fun _ _ => rfl)) (pv 3) pe_bl rfl))
          pss_nil)))), ?_⟩
    walk_at "r"
    refine lp_E s.rows (fun i σ' H' => ∃ (gone : List (Key × V)) (v3 v4 v5 : Option V), σ' = [some (.ref a.w), some (.int keep), some (.int spot), v3, v4, v5] ∧ KsOk gone ∧ Ow F (waC a { s with gone := gone } ++ R) H')
      ⟨s.gone, none, none, none, rfl, kg, O⟩ (fun i σ' H' _ ⟨_, _, _, _, _, _, O⟩ => SqL.of (O.get 1)) ?_ ?_
    · rintro i x Tp σ' H' hx ⟨gone, v3, v4, v5, rfl, kg, O⟩ hT
      obtain ⟨r, hr', ra, rfl, hra⟩ := L2.paired_get hrs hx
      have hi : i < rs.length := (List.getElem?_eq_some_iff.mp hr').1
      have hgl := kg.len
      have O := O.new (o := .tup [.int (i : Int), .ref ra]) hT
      obtain ⟨key, o⟩ := r
      cases o with
      | some n =>
        have hra : F ra = some (.tup [.str key, .int n]) := hra
        walk_at "r"
        exact ⟨gone, _, _, _, rfl, kg, O.drop⟩
      | none =>
        have hra : F ra = some (.tup [.str key, .non]) := hra
        walk_at "r"
        cases hs : valV s.since (.inl (i : Int)) with
        | none =>
          refine ifF rfl ?_
          walk_at "r"
          exact ⟨gone, _, _, _, rfl, kg, O.drop⟩
        | some sv =>
          obtain ⟨n, rfl⟩ := ki _ _ hs
          refine ifT rfl ?_
          walk_at "r"
          refine br (fun _ => ?_) (fun _ => ?_)
          · walk_at "r"
            have O := O.set 3 (.dK (putK gone (.inl (i : Int)) (.bl true)))
            exact ⟨_, _, _, _, rfl, kg.put (by omega) _, O.drop⟩
          · walk_at "r"
            exact ⟨gone, _, _, _, rfl, kg, O.drop⟩
    · rintro σ' H' ⟨gone, v3, v4, v5, rfl, kg, O⟩
      exact k gone H' kg O
abbrev s_w_swept : Stmt := top 22
theorem sc_w_swept : FnScope ["_law_w", "_law_keep", "_law_spot", "_law_end", "_law_names", "_law_k", "_law_key_so", "_law_worth"] ["_law_w", "_law_keep", "_law_spot", "_law_end"] (defScope s_w_swept) := ⟨rfl, rfl, rfl, by decide +kernel, rfl, by decide +kernel, by decide +kernel⟩
theorem bd_w_swept : Bd "_law_swept" "_law_swept" s_w_swept ["_law_w", "_law_keep", "_law_spot", "_law_end"] := fun _ _ _ _ _ _ us hl => match us, hl with | [_, _, _, _], _ => rfl
/-! slots: 0 _law_w, 1 _law_keep, 2 _law_spot, 3 _law_end, 4 _law_names, 5 _law_k, 6 _law_key_so, 7 _law_worth -/
theorem ok_w_swept {f : Addr} (S : Src K "_law_swept" "_law_swept" s_w_swept f) (T : Blt mg) (G_w_leave : Def P w K mg base "_law_leave" ["_law_w", "_law_keep", "_law_spot"] 1 spLeave) : Fn P w K mg base f ["_law_w", "_law_keep", "_law_spot", "_law_end"] 2 spSwept := by
  refine fn_mk S sc_w_swept bd_w_swept (fun vs H Q E h => ?_) (fun cdv A outer s0 H vs Q E hr h => ?_)
  · obtain ⟨_, _, _, _, _, _, _, _, rfl, _⟩ := h
    rfl
  · obtain ⟨F, R, a, s, rs, keep, spot, en, rfl, O, hrs, hl, kg, ks, ki, e0, e1, k⟩ := h
    have hu := hu_of hr
    have hlen := hrs.length
    refine ⟨_, (pss_cons (ps_setLc (i := 4) (own := [("_law_key_so", 6), ("_law_worth", 7)]) rfl sc_w_swept.nd rfl rfl (sw_true rfl rfl rfl (by decide +kernel)) (pi_list (pe_slice sl_list (pe_dget hu (pv 0) pe_str (fun _ _ => rfl)) po_none (po_some (pv 3)))) (blkOk_by (N := ["_law_w", "_law_keep", "_law_spot", "_law_end", "_law_names", "_law_k", "_law_key_so", "_law_worth"]) (sc := defScope s_w_swept) (own := [("_law_key_so", 6), ("_law_worth", 7)]) (by decide +kernel)) (fun _ _ _ _ _ => (pg_tupE (K := K) (n := 2) rfl rfl (pgs_cons (pg_name (i := 6) sc_w_swept.nd rfl (Or.inl rfl)) (pgs_cons (pg_name (i := 7) sc_w_swept.nd rfl (Or.inl rfl)) pgs_nil)))) (fun _ _ _ _ _ => pts_nil) (fun _ _ _ _ _ => (pv 6)))
      (pss_cons (ps_for PassesOwn.never rfl (pi_range1 rfl T.range (pa_cons (pv 3) pa_nil)) (pg_name (i := 5) sc_w_swept.nd rfl (Or.inl rfl))
        (pss_cons (ps_if (pt_cmpR op_in_seq (pe_ix ix_list (pv 4) (pv 5) (fun _ _ => rfl)) (pe_slice sl_list (pv 4) (po_some (pe_op op_add (pv 5) pe_int)) po_none) rfl)
          (pss_one (ps_dput hu (pe_dget hu (pv 0) pe_str (fun _ _ => rfl)) (pv 5) pe_bl rfl))
          pss_nil)
        (pss_one (ps_expr (pe_dsetd (pe_dget hu (pv 0) pe_str (fun _ _ => rfl)) (pv 5) (pv 2) ⟨rfl, rfl, rfl, rfl⟩)))))
      (pss_one (ps_expr (pe_def G_w_leave (hr.mono (by decide)) rfl (pa_cons (pv 0) (pa_cons (pv 1) (pa_cons (pv 2) pa_nil)))))))), ?_⟩
    walk_at "r"
    intro sl hp
    have O := O.new (o := .lst (cutV s.rows none (some en))) hp
    rw [cut_hi e0 (by omega)] at O ⊢
    walk_at "r"
    refine lc_L (s.rows.take en.toNat) O (fun i _ acc => acc = (rs.take i).map fun r => V.str r.1) rfl (fun D F' acc H s' O => SqL.of (O.get 1)) (fun D i x F' acc H hx s' p l O => ?_) (fun D F' acc H s' p l O => ?_) (SqL.of (O.get 0))
    · have hx' : s.rows[i]? = some x := by
        rw [List.getElem?_take] at hx
        split at hx
        · exact hx
        · cases hx
      obtain ⟨r, hr', ra, rfl, hra⟩ := L2.paired_get hrs hx'
      have hra := s' _ _ hra
      have hi : i < rs.length := (List.getElem?_eq_some_iff.mp hr').1
      walk_at "r"
      refine lcP (by omega) s' l O ?_
      rw [p, List.take_add_one, hr', List.map_append]
      rfl
    · have hl2 : (s.rows.take en.toNat).length = en.toNat := by rw [List.length_take]; omega
      rw [hl2] at p
      subst p
      have O := O.er 1
      have O := O.weak s'
      walk_at "r"
      have hnl : (((rs.take en.toNat).map fun r => V.str r.1).length : Int) = en := by rw [List.length_map, List.length_take]; omega
      have hfl : ((rs.take en.toNat).map fun r => V.str r.1).all flatV = true := by
        have := flat_strs ((rs.take en.toNat).map (·.1))
        rwa [List.map_map] at this
      generalize hnm : ((rs.take en.toNat).map fun r => V.str r.1) = nm at O hnl hfl
      have hst : ∀ v ∈ nm, ∃ z, v = V.str z := by
        intro v hv
        rw [← hnm] at hv
        obtain ⟨r, _, rfl⟩ := List.mem_map.mp hv
        exact ⟨_, rfl⟩
      refine lp_R1 e0 (by omega) (fun i σ' H' => ∃ (gone since : List (Key × V)) (v5 v6 v7 : Option V), σ' = [some (.ref a.w), some (.int keep), some (.int spot), some (.int en), some (.ref D), v5, v6, v7] ∧ KsOk gone ∧ KsOk since ∧ IntsV since ∧ Ow F ((D, .lst nm) :: (waC a { s with gone := gone, since := since } ++ R)) H')
        ⟨s.gone, s.since, none, none, none, rfl, kg, ks, ki, O⟩ ?_ ?_
      · rintro i σ' H' hi ⟨gone, since, v5, v6, v7, rfl, kg, ks, ki, O⟩
        have hgl := kg.len
        have hsl := ks.len
        obtain ⟨x, hx, _, e⟩ := atI_ex (xs := nm) (r := (i : Int)) (by omega) (by omega)
        obtain ⟨z, rfl⟩ := hst x hx
        walk_at "r"
        intro s2 hp2
        have O := O.new (o := .lst (cutV nm (some ((i : Int) + 1)) none)) hp2
        refine rd_inL (SqL.of (O.get 0)) rfl (flat_cut hfl _ _) ?_
        walk_at "r"
        have setd : ∀ (gone : List (Key × V)) (H : Hp) (v6 v7 : Option V), KsOk gone → Ow F ((D, .lst nm) :: (waC a { s with gone := gone, since := since } ++ R)) H →
            (∃ (kvs : List (Key × V)) (k : Key), H a.si = some (.dK kvs) ∧ V.int (i : Int) = kV k ∧ kvs.length < sizeLine ∧ (∀ v, valV kvs k = some v → ∃ (gone since : List (Key × V)) (v5 v6' v7' : Option V), [some (.ref a.w), some (.int keep), some (.int spot), some (.int en), some (.ref D), some (V.int (i : Int)), v6, v7] = [some (.ref a.w), some (.int keep), some (.int spot), some (.int en), some (.ref D), v5, v6', v7'] ∧ KsOk gone ∧ KsOk since ∧ IntsV since ∧ Ow F ((D, .lst nm) :: (waC a { s with gone := gone, since := since } ++ R)) H) ∧
              (valV kvs k = none → ∃ (gone since : List (Key × V)) (v5 v6' v7' : Option V), [some (.ref a.w), some (.int keep), some (.int spot), some (.int en), some (.ref D), some (V.int (i : Int)), v6, v7] = [some (.ref a.w), some (.int keep), some (.int spot), some (.int en), some (.ref D), v5, v6', v7'] ∧ KsOk gone ∧ KsOk since ∧ IntsV since ∧ Ow F ((D, .lst nm) :: (waC a { s with gone := gone, since := since } ++ R)) (upd H a.si (.dK (putK kvs k (.int spot)))))) :=
          fun gone H v6 v7 kg O => ⟨since, .inl (i : Int), O.get 4, rfl, sztl (by omega), fun _ _ => ⟨gone, since, _, _, _, rfl, kg, ks, ki, O⟩, fun _ => ⟨gone, _, _, _, _, rfl, kg, ks.put (by omega) _, ki.put _ _, O.set 4 _⟩⟩
        refine brb (fun _ => ?_) (fun _ => ?_)
        · walk_at "r"
          have O := O.set 4 (.dK (putK gone (.inl (i : Int)) (.bl true)))
          walk_at "r"
          exact setd _ _ _ _ (kg.put (by omega) _) O.drop
        · walk_at "r"
          exact setd _ _ _ _ kg O.drop
      · rintro σ' H' ⟨gone, since, v5, v6, v7, rfl, kg, ks, ki, O⟩
        walk_at "r"
        exact ⟨F, R, a, _, rs, keep, spot, rfl, O.drop, hrs, hl, kg, ki, fun gone' H2 kg' O2 => k gone' since H2 kg' ks ki O2⟩
end
end K7

set_option Elab.async false
set_option linter.all false
set_option maxRecDepth 100000
set_option maxHeartbeats 4000000
set_option pp.deepTerms false
set_option pp.maxSteps 600
namespace K7
open PySem PySem.Spec PyProof.Rows L2
local macro_rules | `(tactic| walk_at "hp") => `(tactic| with_unfolding_all first
  | exact Ow.get (by assumption) 0 | exact Ow.get (by assumption) 1 | exact Ow.get (by assumption) 2 | exact Ow.get (by assumption) 3
  | exact Ow.fz (by assumption) (by assumption)
  | exact Ow.get (by assumption) 4 | exact Ow.get (by assumption) 5 | exact Ow.get (by assumption) 6 | exact Ow.get (by assumption) 7 | exact Ow.get (by assumption) 8 | exact Ow.get (by assumption) 9)
local macro_rules | `(tactic| walk_at "sq") => `(tactic| with_unfolding_all first
  | exact SqL.of (by walk_at "hp") | exact SqT.of (by walk_at "hp") | assumption)
local macro_rules | `(tactic| walk_at "rd") => `(tactic| with_unfolding_all first
  | exact Rd.of (by walk_at "hp") | assumption)
local macro_rules | `(tactic| walk_at "dk") => `(tactic| assumption)
local macro_rules | `(tactic| walk_at "ai") => `(tactic| first | with_unfolding_all rfl | exact atI_zero | assumption)
local macro_rules | `(tactic| walk_at "sd") => `(tactic| with_unfolding_all first
  | rfl | assumption | decide | omega
  | exact ⟨by omega, by omega⟩ | exact Or.inl ⟨by omega, by omega⟩ | exact Or.inr ⟨by omega, by omega⟩ | exact ⟨by decide, by decide, by omega⟩)
local macro_rules | `(tactic| walk_at "sz") => `(tactic| first
  | with_unfolding_all exact szl (Nat.le_of_ble_eq_true rfl)
  | with_unfolding_all exact sztl (Nat.le_of_ble_eq_true rfl)
  | exact szl (by simp <;> omega)
  | exact sztl (by simp <;> omega))
local macro_rules | `(tactic| walk_at "s") => `(tactic| first
  | with_reducible refine rd_I0 ?_
  | ((with_reducible apply rd_I); (focus walk_at "sd"))
  | ((with_reducible apply rd_opVC); (focus with_unfolding_all rfl))
  | ((with_reducible apply rd_opVV); (focus with_unfolding_all rfl); (focus with_unfolding_all rfl))
  | ((with_reducible apply rd_opV); (focus with_unfolding_all rfl))
  | with_reducible refine rd_opC ?_
  | with_reducible refine rd_op ?_
  | ((with_reducible apply rd_var); (focus with_unfolding_all rfl))
  | with_reducible refine rd_c ?_
  | with_reducible refine rd_sSet ?_
  | ((with_reducible apply rd_CB1V); (focus with_unfolding_all rfl)) | with_reducible refine rd_CB1 ?_ | with_reducible refine rd_CB ?_
  | ((with_reducible apply rd_consV); (focus with_unfolding_all rfl)) | with_reducible refine rd_consC ?_ | with_reducible refine rd_cons0 ?_ | with_reducible refine rd_cons ?_ | with_reducible refine rd_nil ?_
  | ((with_reducible apply rd_ixL); (focus walk_at "sq"); (focus walk_at "ai"))
  | ((with_reducible apply rd_ixT); (focus walk_at "sq"); (focus walk_at "ai"))
  | with_reducible refine rd_int ?_ | with_reducible refine rd_intB ?_ | with_reducible refine rd_abs ?_
  | ((with_reducible apply rd_len); (focus walk_at "sq")) | ((with_reducible apply rd_lenT); (focus walk_at "sq"))
  | with_reducible refine rd_ifS ?_ | with_reducible refine iteT ?_ | with_reducible refine iteF ?_
  | with_reducible refine rd_tTest ?_ | with_reducible refine rd_tB ?_ | with_reducible refine rd_ex ?_
  | with_reducible refine rd_seqD ?_ | with_reducible refine rd_sSet1 ?_ | with_reducible refine rd_ret ?_ | with_reducible refine rd_drop ?_ | with_reducible refine rd_asg ?_
  | ((with_reducible apply rd_eq); (focus with_unfolding_all rfl)) | ((with_reducible apply rd_ne); (focus with_unfolding_all rfl))
  | with_reducible refine rd_isNr ?_ | with_reducible refine rd_notNr ?_ | with_reducible refine rd_isNn ?_ | with_reducible refine rd_notNn ?_ | with_reducible refine rd_isNi ?_ | with_reducible refine rd_notNi ?_
  | with_reducible refine rd_isN ?_ | with_reducible refine rd_notN ?_
  | with_reducible refine rd_and ?_ | with_reducible refine rd_or ?_ | with_reducible refine rd_not ?_ | with_reducible refine rd_if ?_
  | with_reducible refine rd_seq ?_ | with_reducible refine rd_gName ?_ | with_reducible refine rd_next ?_ | with_reducible refine rd_retN ?_
  | with_reducible refine rd_gSub ?_ | with_reducible refine rd_gCons ?_ | with_reducible refine rd_gNil ?_ | ((with_reducible apply rd_gTup); (focus walk_at "sq"); (focus with_unfolding_all rfl))
  | ((with_reducible apply rd_setL); (focus walk_at "hp"); (focus with_unfolding_all rfl))
  | with_reducible refine rd_par ?_ | with_reducible refine rd_par3 ?_ | with_reducible refine rd_ex2 ?_ | with_reducible refine rd_ex3 ?_
  | with_reducible refine rd_dget ?_ | with_reducible refine rd_din ?_ | with_reducible refine rd_dnotin ?_
  | ((with_reducible apply rd_dgS); (focus walk_at "rd"); (focus walk_at "dk"))
  | ((with_reducible apply rd_dgI); (focus walk_at "rd"); (focus walk_at "dk"))
  | ((with_reducible apply rd_doS); (focus walk_at "rd")) | ((with_reducible apply rd_doI); (focus walk_at "rd"))
  | with_reducible refine rd_dput ?_
  | ((with_reducible apply rd_dpS); (focus walk_at "hp"); (focus walk_at "sz")) | ((with_reducible apply rd_dpI); (focus walk_at "hp"); (focus walk_at "sz"))
  | with_reducible refine rd_bm ?_
  | ((with_reducible apply rd_tyL); (focus walk_at "hp")) | ((with_reducible apply rd_append); (focus walk_at "hp"); (focus walk_at "sz"))
  | with_reducible refine rd_tup ?_ | with_reducible refine rd_lst ?_ | with_reducible refine rd_dnew ?_
  | with_reducible refine rd_for ?_ | with_reducible refine rd_iR1 ?_ | with_reducible refine rd_iR2 ?_ | with_reducible refine rd_iL ?_ | with_reducible refine rd_iT ?_
  | with_reducible refine rd_disp ?_ | with_reducible refine rd_pair ?_ | with_reducible refine rd_pair0 ?_
  | with_reducible refine rd_andV ?_ | with_reducible refine rd_orV ?_
  | ((with_reducible apply rd_tupL); (focus walk_at "sq")) | ((with_reducible apply rd_listT); (focus walk_at "sq"))
  | with_reducible refine rd_lc ?_ | ((with_reducible apply rd_wp); (focus with_unfolding_all rfl)) | with_reducible refine rd_yes ?_
  | with_reducible refine rd_sl ?_ | with_reducible refine rd_noPart ?_ | with_reducible refine rd_part ?_ | with_reducible refine rd_exI ?_
  | ((with_reducible apply rd_isd); (focus walk_at "rd")) | ((with_reducible apply rd_dg1S); (focus walk_at "rd")) | ((with_reducible apply rd_dg1I); (focus walk_at "rd"))
  | with_reducible refine rd_dget1 ?_ | with_reducible refine rd_dget2 ?_ | with_reducible refine rd_dpop2 ?_ | with_reducible refine rd_dpop1 ?_ | with_reducible refine rd_dsetd ?_
  | ((with_reducible apply rd_slL); (focus walk_at "sq"))
  | with_reducible refine rd_iE ?_ | with_reducible refine rd_iS ?_
  | ((with_reducible apply rd_dictD); (focus walk_at "rd"))
  | with_reducible refine rd_setD ?_
  | with_reducible refine rd_call ?_)
local macro_rules | `(tactic| walk_at "r") => `(tactic| repeat (walk_at "s"))

local macro_rules | `(tactic| walk_at "lt") => `(tactic| first | with_reducible refine ifT (by decide +kernel) ?_ | with_reducible refine ifF (by decide +kernel) ?_)
local macro_rules | `(tactic| walk_at "R") => `(tactic| repeat (first | walk_at "s" | walk_at "lt"))
local macro_rules | `(tactic| walk_at "dk") => `(tactic| first
  | assumption | exact wa_rows | exact wa_gone | exact wa_since | exact wa_seats | exact wa_tables | exact wa_copies | exact wa_heard)
def Row3At (F : Hp) (v : V) (r : Int × Str × Option Int) : Prop := ∃ a, v = .ref a ∧ F a = some (.tup [.int r.1, .str r.2.1, oV r.2.2])
abbrev Rows3At (F : Hp) (vs : List V) (rs : List (Int × Str × Option Int)) : Prop := Paired (Row3At F) vs rs
theorem Rows3At.mono {F G : Hp} {vs : List V} {rs : List (Int × Str × Option Int)} (h : Rows3At F vs rs) (s : Same F G) : Rows3At G vs rs := L2.Paired.mapP h fun _ _ ⟨a, e, h⟩ => ⟨a, e, s _ _ h⟩
/-- rows that were heard: their places ascend in [lo, hi) -/
structure RowsOk (lo hi : Int) (rs : List (Int × Str × Option Int)) : Prop where
  asc : (rs.map (·.1)).Pairwise (· < ·)
  bd : ∀ r ∈ rs, lo ≤ r.1 ∧ r.1 < hi ∧ KeyOk r.2.1
theorem RowsOk.nil {lo hi : Int} : RowsOk lo hi [] := ⟨List.Pairwise.nil, fun _ h => (nomatch h)⟩
theorem RowsOk.mono {lo hi hi' : Int} {rs : List (Int × Str × Option Int)} (h : RowsOk lo hi rs) (l : hi ≤ hi') : RowsOk lo hi' rs := ⟨h.asc, fun r hr => let ⟨a, b, c⟩ := h.bd r hr; ⟨a, by omega, c⟩⟩
theorem RowsOk.snoc {lo hi : Int} {rs : List (Int × Str × Option Int)} (h : RowsOk lo hi rs) (l : lo ≤ hi) {key : Str} (hk : KeyOk key) (o : Option Int) : RowsOk lo (hi + 1) (rs ++ [(hi, key, o)]) := by
  refine ⟨?_, fun r hr => ?_⟩
  · rw [List.map_append]
    refine List.pairwise_append.mpr ⟨h.asc, List.pairwise_singleton _ _, fun a ha b hb => ?_⟩
    obtain ⟨r, hr, rfl⟩ := List.mem_map.mp ha
    have hb := List.mem_singleton.mp hb
    subst hb
    exact (h.bd r hr).2.1
  · rcases List.mem_append.mp hr with hr | hr
    · obtain ⟨a, b, c⟩ := h.bd r hr
      exact ⟨a, by omega, c⟩
    · rw [List.mem_singleton.mp hr]
      exact ⟨l, by show hi < hi + 1; omega, hk⟩
def spHeard : Sp := fun vs H Q _ => ∃ (F : Hp) (R : List Cell) (a : Wa) (s : Ws) (rs : List (Str × Option Int)) (td : Addr) (tk : List (Key × V)) (p u n : Int), vs = [.ref a.w, .int p, .int u] ∧ Ow F (waC a s ++ (td, .dK tk) :: R) H ∧ RowsAt F s.rows rs ∧ rs.length ≤ 20 ∧ (∀ r ∈ rs, KeyOk r.1) ∧
  valV s.seats (.inl p) = some (.int n) ∧ valV s.tables (.inl p) = some (.ref td) ∧ 0 ≤ n ∧ n ≤ u ∧ u ≤ rs.length ∧ tk.length ≤ 50000 ∧ s.seats.length ≤ 50000 ∧
  ∀ (h : Addr) (refs : List V) (out : List (Int × Str × Option Int)) (tk' : List (Key × V)) (F' H' : Hp), Same F F' → F' h = some (.lst refs) → Rows3At F' refs out → RowsOk n u out → tk'.length ≤ tk.length + 20 →
    Ow F' (waC a { s with seats := putK s.seats (.inl p) (.int u) } ++ (td, .dK tk') :: R) H' → Q (.ref h) H'
section
variable {P : Program} {w : World} {K : PySem.W.Frag} {mg : Str → Option Value} {base : Heap}
abbrev s_w_heard : Stmt := top 23
theorem sc_w_heard : FnScope ["_law_w", "_law_p", "_law_upto_so", "_law_found", "_law_k"] ["_law_w", "_law_p", "_law_upto_so"] (defScope s_w_heard) := ⟨rfl, rfl, rfl, by decide +kernel, rfl, by decide +kernel, by decide +kernel⟩
theorem bd_w_heard : Bd "_law_heard" "_law_heard" s_w_heard ["_law_w", "_law_p", "_law_upto_so"] := fun _ _ _ _ _ _ us hl => match us, hl with | [_, _, _], _ => rfl
/-! slots: 0 _law_w, 1 _law_p, 2 _law_upto_so, 3 _law_found, 4 _law_k -/
theorem ok_w_heard {f : Addr} (S : Src K "_law_heard" "_law_heard" s_w_heard f) (T : Blt mg) : Fn P w K mg base f ["_law_w", "_law_p", "_law_upto_so"] 1 spHeard := by
  refine fn_mk S sc_w_heard bd_w_heard (fun vs H Q E h => ?_) (fun cdv A outer s0 H vs Q E hr h => ?_)
  · obtain ⟨_, _, _, _, _, _, _, _, _, _, rfl, _⟩ := h
    rfl
  · obtain ⟨F, R, a, s, rs, td, tk, p, u, n, rfl, O, hrs, hl, hky, hse, hta, n0, n1, u1, tl, sl, k⟩ := h
    have hu := hu_of hr
    have hlen := hrs.length
    refine ⟨_, (pss_cons (ps_set (i := 3) sc_w_heard.nd rfl (Or.inl rfl) (pe_lst pa_nil))
      (pss_cons (ps_for PassesOwn.never rfl (pi_range2 rfl T.range (pa_cons (pe_dget hu (pe_dget hu (pv 0) pe_str (fun _ _ => rfl)) (pv 1) (fun _ _ => rfl)) (pa_cons (pv 2) pa_nil))) (pg_name (i := 4) sc_w_heard.nd rfl (Or.inl rfl))
        (pss_one (ps_if (pt_cmp (pc_dnotin hu (pv 4) (pe_dget hu (pv 0) pe_str (fun _ _ => rfl))))
          (pss_cons (ps_expr (pe_bm PySem.F.plainAttrs_list PySem.F.slot_list_append PySem.F.type_list_append mt_append (pv 3) (pa_cons (pe_op op_catA (pe_tup (pa_cons (pv 4) pa_nil)) (pe_ix ix_list (pe_dget hu (pv 0) pe_str (fun _ _ => rfl)) (pv 4) (fun _ _ => rfl))) pa_nil)))
          (pss_cons (ps_expr (pe_dpop2 (pe_dget hu (pe_dget hu (pv 0) pe_str (fun _ _ => rfl)) (pv 1) (fun _ _ => rfl)) (pe_ix ix_tup (pe_ix ix_list (pe_dget hu (pv 0) pe_str (fun _ _ => rfl)) (pv 4) (fun _ _ => rfl)) pe_int (fun _ _ => rfl)) pe_non ⟨rfl, rfl, rfl, rfl⟩))
          (pss_one (ps_if (pt_cmpR op_notN1 (pe_ix ix_tup (pe_ix ix_list (pe_dget hu (pv 0) pe_str (fun _ _ => rfl)) (pv 4) (fun _ _ => rfl)) pe_int (fun _ _ => rfl)) pe_non (nomark _))
            (pss_one (ps_dput hu (pe_dget hu (pe_dget hu (pv 0) pe_str (fun _ _ => rfl)) (pv 1) (fun _ _ => rfl)) (pe_ix ix_tup (pe_ix ix_list (pe_dget hu (pv 0) pe_str (fun _ _ => rfl)) (pv 4) (fun _ _ => rfl)) pe_int (fun _ _ => rfl)) (pe_ix ix_tup (pe_ix ix_list (pe_dget hu (pv 0) pe_str (fun _ _ => rfl)) (pv 4) (fun _ _ => rfl)) pe_int (fun _ _ => rfl)) rfl))
            pss_nil))))
          pss_nil)))
      (pss_cons (ps_dput hu (pe_dget hu (pv 0) pe_str (fun _ _ => rfl)) (pv 1) (pv 2) rfl)
      (pss_one (ps_ret (pv 3)))))), ?_⟩
    walk_at "r"
    refine ⟨by walk_at "sz", fun fl hp => ?_⟩
    have O := O.new (o := .lst []) hp
    walk_at "r"
    refine lp_R2 n0 (by omega) (by omega) (by omega) (fun i σ' H' => ∃ (F1 : Hp) (refs : List V) (out : List (Int × Str × Option Int)) (tk' : List (Key × V)) (v4 : Option V), σ' = [some (.ref a.w), some (.int p), some (.int u), some (.ref fl), v4] ∧
        Same F F1 ∧ Rows3At F1 refs out ∧ RowsOk n (n + (i : Int)) out ∧ refs.length ≤ i ∧ tk'.length ≤ tk.length + i ∧ Ow F1 ((fl, .lst refs) :: (waC a s ++ (td, .dK tk') :: R)) H')
      ⟨F, [], [], tk, none, rfl, Same.refl _, .nil, .nil, Nat.le_refl _, Nat.le_refl _, O⟩ ?_ ?_
    · rintro i σ' H' hi ⟨F1, refs, out, tk', v4, rfl, s1, h3, hok, hrl, htl, O⟩
      have ei : (n + (i : Int)) + 1 = n + ((i + 1 : Nat) : Int) := by omega
      have hkl : (n + (i : Int)).toNat < rs.length := by omega
      obtain ⟨x, hx, hx2, ex⟩ := atI_ex (xs := s.rows) (r := n + (i : Int)) (by omega) (by omega)
      obtain ⟨⟨key, o⟩, hr', ra, rfl, hra⟩ := L2.paired_get hrs hx2
      have hkey : KeyOk key := hky _ (List.mem_of_getElem? hr')
      have hra1 := s1 _ _ hra
      walk_at "r"
      cases hg : valV s.gone (.inl (n + (i : Int))) with
      | some gv =>
        refine ifF rfl ?_
        walk_at "r"
        exact ⟨F1, refs, out, tk', _, rfl, s1, h3, hok.mono (by omega), by omega, by omega, O⟩
      | none =>
        refine ifT rfl ?_
        walk_at "r"
        refine ⟨by walk_at "sz", fun p1 hp1 => ?_⟩
        obtain ⟨F2, s2, h2, O⟩ := O.newF (o := .tup [.int (n + (i : Int))]) hp1
        have hra2 := s2 _ _ hra1
        walk_at "r"
        refine rd_catA O h2 hra2 (by simp) fun p3 F3 H s3 hp3 O => ?_
        have hra3 := s3 _ _ hra2
        walk_at "r"
        have O := O.set 0 (.lst (refs ++ [.ref p3]))
        walk_at "r"
        have h3' : Rows3At F3 (refs ++ [.ref p3]) (out ++ [(n + (i : Int), key, o)]) := (Rows3At.mono h3 (s2.trans s3)).snoc ⟨p3, rfl, hp3⟩
        have hok' : RowsOk n (n + ((i + 1 : Nat) : Int)) (out ++ [(n + (i : Int), key, o)]) := by rw [← ei]; exact hok.snoc (by omega) hkey o
        have hs13 := (s1.trans s2).trans s3
        have hrl' : (refs ++ [V.ref p3]).length ≤ i + 1 := by simp; omega
        refine ⟨tk', .inr key, O.get 9, rfl, fun v _ => ?_, fun _ => ?_⟩
        · have ht2 : (dropK tk' (.inr key)).length ≤ tk'.length := dropK_le _ _
          have O := O.set 9 (.dK (dropK tk' (.inr key)))
          generalize dropK tk' (.inr key) = tk2 at O ht2
          cases o with
          | none =>
            have hra3 : F3 ra = some (.tup [.str key, .non]) := hra3
            walk_at "r"
            exact ⟨F3, _, _, tk2, _, rfl, hs13, h3', hok', hrl', by omega, O⟩
          | some vv =>
            have hra3 : F3 ra = some (.tup [.str key, .int vv]) := hra3
            walk_at "r"
            have hl3 := length_putK tk2 (.inr key) (.int vv)
            exact ⟨F3, _, _, _, _, rfl, hs13, h3', hok', hrl', by omega, O.set 9 _⟩
        · cases o with
          | none =>
            have hra3 : F3 ra = some (.tup [.str key, .non]) := hra3
            walk_at "r"
            exact ⟨F3, _, _, tk', _, rfl, hs13, h3', hok', hrl', by omega, O⟩
          | some vv =>
            have hra3 : F3 ra = some (.tup [.str key, .int vv]) := hra3
            walk_at "r"
            have hl3 := length_putK tk' (.inr key) (.int vv)
            exact ⟨F3, _, _, _, _, rfl, hs13, h3', hok', hrl', by omega, O.set 9 _⟩
    · rintro σ' H' ⟨F1, refs, out, tk', v4, rfl, s1, h3, hok, hrl, htl, O⟩
      walk_at "r"
      have O := O.set 5 (.dK (putK s.seats (.inl p) (.int u)))
      walk_at "r"
      have O2 := O.freeze
      exact k fl refs out tk' _ _ (s1.trans O.fle) upd_same (h3.mono O.fle) (hok.mono (by omega)) (by omega) O2
end
end K7

set_option Elab.async false
set_option linter.all false
set_option maxRecDepth 100000
set_option maxHeartbeats 4000000
set_option pp.deepTerms false
set_option pp.maxSteps 600
namespace K7
open PySem PySem.Spec PyProof.Rows L2
local macro_rules | `(tactic| walk_at "hp") => `(tactic| with_unfolding_all first
  | exact Ow.get (by assumption) 0 | exact Ow.get (by assumption) 1 | exact Ow.get (by assumption) 2 | exact Ow.get (by assumption) 3
  | exact Ow.fz (by assumption) (by assumption)
  | exact Ow.get (by assumption) 4 | exact Ow.get (by assumption) 5 | exact Ow.get (by assumption) 6 | exact Ow.get (by assumption) 7 | exact Ow.get (by assumption) 8 | exact Ow.get (by assumption) 9)
local macro_rules | `(tactic| walk_at "sq") => `(tactic| with_unfolding_all first
  | exact SqL.of (by walk_at "hp") | exact SqT.of (by walk_at "hp") | assumption)
local macro_rules | `(tactic| walk_at "rd") => `(tactic| with_unfolding_all first
  | exact Rd.of (by walk_at "hp") | assumption)
local macro_rules | `(tactic| walk_at "dk") => `(tactic| assumption)
local macro_rules | `(tactic| walk_at "ai") => `(tactic| first | with_unfolding_all rfl | exact atI_zero | assumption)
local macro_rules | `(tactic| walk_at "sd") => `(tactic| with_unfolding_all first
  | rfl | assumption | decide | omega
  | exact ⟨by omega, by omega⟩ | exact Or.inl ⟨by omega, by omega⟩ | exact Or.inr ⟨by omega, by omega⟩ | exact ⟨by decide, by decide, by omega⟩)
local macro_rules | `(tactic| walk_at "sz") => `(tactic| first
  | with_unfolding_all exact szl (Nat.le_of_ble_eq_true rfl)
  | with_unfolding_all exact sztl (Nat.le_of_ble_eq_true rfl)
  | exact szl (by simp <;> omega)
  | exact sztl (by simp <;> omega))
local macro_rules | `(tactic| walk_at "s") => `(tactic| first
  | with_reducible refine rd_I0 ?_
  | ((with_reducible apply rd_I); (focus walk_at "sd"))
  | ((with_reducible apply rd_opVC); (focus with_unfolding_all rfl))
  | ((with_reducible apply rd_opVV); (focus with_unfolding_all rfl); (focus with_unfolding_all rfl))
  | ((with_reducible apply rd_opV); (focus with_unfolding_all rfl))
  | with_reducible refine rd_opC ?_
  | with_reducible refine rd_op ?_
  | ((with_reducible apply rd_var); (focus with_unfolding_all rfl))
  | with_reducible refine rd_c ?_
  | with_reducible refine rd_sSet ?_
  | ((with_reducible apply rd_CB1V); (focus with_unfolding_all rfl)) | with_reducible refine rd_CB1 ?_ | with_reducible refine rd_CB ?_
  | ((with_reducible apply rd_consV); (focus with_unfolding_all rfl)) | with_reducible refine rd_consC ?_ | with_reducible refine rd_cons0 ?_ | with_reducible refine rd_cons ?_ | with_reducible refine rd_nil ?_
  | ((with_reducible apply rd_ixL); (focus walk_at "sq"); (focus walk_at "ai"))
  | ((with_reducible apply rd_ixT); (focus walk_at "sq"); (focus walk_at "ai"))
  | with_reducible refine rd_int ?_ | with_reducible refine rd_intB ?_ | with_reducible refine rd_abs ?_
  | ((with_reducible apply rd_len); (focus walk_at "sq")) | ((with_reducible apply rd_lenT); (focus walk_at "sq"))
  | with_reducible refine rd_ifS ?_ | with_reducible refine iteT ?_ | with_reducible refine iteF ?_
  | with_reducible refine rd_tTest ?_ | with_reducible refine rd_tB ?_ | with_reducible refine rd_ex ?_
  | with_reducible refine rd_seqD ?_ | with_reducible refine rd_sSet1 ?_ | with_reducible refine rd_ret ?_ | with_reducible refine rd_drop ?_ | with_reducible refine rd_asg ?_
  | ((with_reducible apply rd_eq); (focus with_unfolding_all rfl)) | ((with_reducible apply rd_ne); (focus with_unfolding_all rfl))
  | with_reducible refine rd_isNr ?_ | with_reducible refine rd_notNr ?_ | with_reducible refine rd_isNn ?_ | with_reducible refine rd_notNn ?_ | with_reducible refine rd_isNi ?_ | with_reducible refine rd_notNi ?_
  | with_reducible refine rd_isN ?_ | with_reducible refine rd_notN ?_
  | with_reducible refine rd_and ?_ | with_reducible refine rd_or ?_ | with_reducible refine rd_not ?_ | with_reducible refine rd_if ?_
  | with_reducible refine rd_seq ?_ | with_reducible refine rd_gName ?_ | with_reducible refine rd_next ?_ | with_reducible refine rd_retN ?_
  | with_reducible refine rd_gSub ?_ | with_reducible refine rd_gCons ?_ | with_reducible refine rd_gNil ?_ | ((with_reducible apply rd_gTup); (focus walk_at "sq"); (focus with_unfolding_all rfl))
  | ((with_reducible apply rd_setL); (focus walk_at "hp"); (focus with_unfolding_all rfl))
  | with_reducible refine rd_par ?_ | with_reducible refine rd_par3 ?_ | with_reducible refine rd_ex2 ?_ | with_reducible refine rd_ex3 ?_
  | with_reducible refine rd_dget ?_ | with_reducible refine rd_din ?_ | with_reducible refine rd_dnotin ?_
  | ((with_reducible apply rd_dgS); (focus walk_at "rd"); (focus walk_at "dk"))
  | ((with_reducible apply rd_dgI); (focus walk_at "rd"); (focus walk_at "dk"))
  | ((with_reducible apply rd_doS); (focus walk_at "rd")) | ((with_reducible apply rd_doI); (focus walk_at "rd"))
  | with_reducible refine rd_dput ?_
  | ((with_reducible apply rd_dpS); (focus walk_at "hp"); (focus walk_at "sz")) | ((with_reducible apply rd_dpI); (focus walk_at "hp"); (focus walk_at "sz"))
  | with_reducible refine rd_bm ?_
  | ((with_reducible apply rd_tyL); (focus walk_at "hp")) | ((with_reducible apply rd_append); (focus walk_at "hp"); (focus walk_at "sz"))
  | with_reducible refine rd_tup ?_ | with_reducible refine rd_lst ?_ | with_reducible refine rd_dnew ?_
  | with_reducible refine rd_for ?_ | with_reducible refine rd_iR1 ?_ | with_reducible refine rd_iR2 ?_ | with_reducible refine rd_iL ?_ | with_reducible refine rd_iT ?_
  | with_reducible refine rd_disp ?_ | with_reducible refine rd_pair ?_ | with_reducible refine rd_pair0 ?_
  | with_reducible refine rd_andV ?_ | with_reducible refine rd_orV ?_
  | ((with_reducible apply rd_tupL); (focus walk_at "sq")) | ((with_reducible apply rd_listT); (focus walk_at "sq"))
  | with_reducible refine rd_lc ?_ | ((with_reducible apply rd_wp); (focus with_unfolding_all rfl)) | with_reducible refine rd_yes ?_
  | with_reducible refine rd_sl ?_ | with_reducible refine rd_noPart ?_ | with_reducible refine rd_part ?_ | with_reducible refine rd_exI ?_
  | ((with_reducible apply rd_isd); (focus walk_at "rd")) | ((with_reducible apply rd_dg1S); (focus walk_at "rd")) | ((with_reducible apply rd_dg1I); (focus walk_at "rd"))
  | with_reducible refine rd_dget1 ?_ | with_reducible refine rd_dget2 ?_ | with_reducible refine rd_dpop2 ?_ | with_reducible refine rd_dpop1 ?_ | with_reducible refine rd_dsetd ?_
  | ((with_reducible apply rd_slL); (focus walk_at "sq"))
  | with_reducible refine rd_iE ?_ | with_reducible refine rd_iS ?_
  | ((with_reducible apply rd_dictD); (focus walk_at "rd"))
  | with_reducible refine rd_setD ?_
  | with_reducible refine rd_call ?_)
local macro_rules | `(tactic| walk_at "r") => `(tactic| repeat (walk_at "s"))

local macro_rules | `(tactic| walk_at "lt") => `(tactic| first | with_reducible refine ifT (by decide +kernel) ?_ | with_reducible refine ifF (by decide +kernel) ?_)
local macro_rules | `(tactic| walk_at "R") => `(tactic| repeat (first | walk_at "s" | walk_at "lt"))
local macro_rules | `(tactic| walk_at "dk") => `(tactic| first
  | assumption | exact wa_rows | exact wa_gone | exact wa_since | exact wa_seats | exact wa_tables | exact wa_copies | exact wa_heard)
/-! ### what holds of the run's course -/
def CopyAt (F : Hp) (T : List Cell) (v : V) (n : Int) : Prop := ∃ a d, v = .ref a ∧ F a = some (.tup [.int n, .ref d]) ∧ d ∈ T.map (·.1)
structure RunI (F : Hp) (c : Crs) (s : Ws) (T : List Cell) (B : Nat) : Prop where
  rows : ∃ rs, RowsAt F s.rows rs ∧ (rs.length : Int) = c.many ∧ ∀ r ∈ rs, KeyOk r.1
  gone : KsOk s.gone
  since : KsOk s.since
  sin : IntsV s.since
  seats : s.seats = c.seats
  tabs : ∀ p n, valV c.seats (.inl p) = some n → ∃ td, valV s.tables (.inl p) = some (.ref td) ∧ td ∈ T.map (·.1)
  tlen : s.tables.length ≤ B
  cops : Paired (CopyAt F T) s.copies c.copies
  dics : ∀ q ∈ T, ∃ kvs, q.2 = .dK kvs ∧ kvs.length ≤ 20 * B
theorem CopyAt.mono {F F' : Hp} {T T' : List Cell} {vs : List V} {ns : List Int} (h : Paired (CopyAt F T) vs ns) (s : Same F F') (t : ∀ d ∈ T.map (·.1), d ∈ T'.map (·.1)) : Paired (CopyAt F' T') vs ns :=
  L2.Paired.mapP h fun _ _ ⟨a, d, e, h, m⟩ => ⟨a, d, e, s _ _ h, t _ m⟩
/-- one of the dicts, the others behind it -/
theorem dic_out {T : List Cell} {B : Nat} {d : Addr} (hd : ∀ q ∈ T, ∃ kvs : List (Key × V), q.2 = .dK kvs ∧ kvs.length ≤ 20 * B) (h : d ∈ T.map (·.1)) :
    ∃ kvs T2, T.Perm ((d, .dK kvs) :: T2) ∧ kvs.length ≤ 20 * B ∧ ∀ q ∈ T2, q ∈ T := by
  obtain ⟨q, hq, rfl⟩ := List.mem_map.mp h
  obtain ⟨kvs, e, l⟩ := hd q hq
  obtain ⟨s, t, rfl⟩ := List.append_of_mem hq
  refine ⟨kvs, s ++ t, ?_, l, fun x hx => ?_⟩
  · rw [← e]
    exact List.perm_middle
  · rcases List.mem_append.mp hx with hx | hx
    · exact List.mem_append.mpr (.inl hx)
    · exact List.mem_append.mpr (.inr (List.mem_cons_of_mem _ hx))
def HrdAt (F : Hp) (c : Crs) (e : Ev) (r : V) : Prop := match e with
  | .read p u => ∃ (n : Int) (h : Addr) (refs : List V) (out : List (Int × Str × Option Int)), valV c.seats (.inl p) = some (.int n) ∧ r = .ref h ∧ F h = some (.lst refs) ∧ Rows3At F refs out ∧ RowsOk n u out
  | _ => True
theorem HrdAt.mono {F F' : Hp} {c : Crs} {e : Ev} {r : V} (h : HrdAt F c e r) (s : Same F F') : HrdAt F' c e r := by
  cases e with
  | read p u =>
    obtain ⟨n, hh, refs, out, a, b, c, d, g⟩ := h
    exact ⟨n, hh, refs, out, a, b, s _ _ c, d.mono s, g⟩
  | _ => trivial
theorem RunI.gs {F : Hp} {c : Crs} {s : Ws} {T : List Cell} {B : Nat} (h : RunI F c s T B) {g n : List (Key × V)} (a : KsOk g) (b : KsOk n) (d : IntsV n) : RunI F c { s with gone := g, since := n } T B :=
  ⟨h.rows, a, b, d, h.seats, h.tabs, h.tlen, h.cops, h.dics⟩
theorem RunI.up {F F' : Hp} {c : Crs} {s : Ws} {T : List Cell} {B B' : Nat} (h : RunI F c s T B) (l : B ≤ B') (q : Same F F') : RunI F' c s T B' := by
  obtain ⟨rs, r1, r2, r3⟩ := h.rows
  exact ⟨⟨rs, r1.mono q, r2, r3⟩, h.gone, h.since, h.sin, h.seats, h.tabs, by have := h.tlen; omega, CopyAt.mono h.cops q fun _ m => m, fun x hx => by
    obtain ⟨kvs, e, l2⟩ := h.dics x hx
    exact ⟨kvs, e, by omega⟩⟩
/-- a row more -/
theorem RunI.row {F : Hp} {c : Crs} {s : Ws} {T : List Cell} {B : Nat} (h : RunI F c s T B) {v : V} {key : Str} {o : Option Int} (hk : KeyOk key) (hv : RowAt F v (key, o)) : RunI F { c with many := c.many + 1 } { s with rows := s.rows ++ [v] } T (B + 1) := by
  obtain ⟨rs, r1, r2, r3⟩ := (h.up (Nat.le_succ B) (Same.refl _)).rows
  have h := h.up (Nat.le_succ B) (Same.refl _)
  refine ⟨⟨rs ++ [(key, o)], r1.snoc hv, ?_, fun r hr => ?_⟩, h.gone, h.since, h.sin, h.seats, h.tabs, h.tlen, h.cops, h.dics⟩
  · rw [List.length_append]
    show ((rs.length + 1 : Nat) : Int) = c.many + 1
    omega
  · rcases List.mem_append.mp hr with hr | hr
    · exact r3 r hr
    · rw [List.mem_singleton.mp hr]
      exact hk
/-- a seat and its table are set -/
theorem RunI.seat {F : Hp} {c : Crs} {s : Ws} {T : List Cell} {B : Nat} (h : RunI F c s T B) {p n : Int} {d : Addr} {kvs : List (Key × V)} (l : kvs.length ≤ 20 * B) :
    RunI F { c with seats := putK c.seats (.inl p) (.int n) } { s with seats := putK s.seats (.inl p) (.int n), tables := putK s.tables (.inl p) (.ref d) } ((d, .dK kvs) :: T) (B + 1) := by
  obtain ⟨rs, r1, r2, r3⟩ := h.rows
  refine ⟨⟨rs, r1, r2, r3⟩, h.gone, h.since, h.sin, by show putK s.seats _ _ = putK c.seats _ _; rw [h.seats], fun q m hq => ?_, ?_, CopyAt.mono h.cops (Same.refl _) fun _ m => List.mem_cons_of_mem _ m, fun x hx => ?_⟩
  · have hq : valV (putK c.seats (.inl p) (.int n)) (.inl q) = some m := hq
    show ∃ td, valV (putK s.tables (.inl p) (.ref d)) (.inl q) = some (.ref td) ∧ _
    rw [valV_put] at hq ⊢
    by_cases e : (Sum.inl q : Key) = .inl p
    · rw [if_pos e]
      exact ⟨d, rfl, List.mem_cons_self ..⟩
    · rw [if_neg e] at hq ⊢
      obtain ⟨td, a, b⟩ := h.tabs q m hq
      exact ⟨td, a, List.mem_cons_of_mem _ b⟩
  · have := length_putK s.tables (.inl p) (.ref d)
    have := h.tlen
    show (putK s.tables (.inl p) (.ref d)).length ≤ B + 1
    omega
  · rcases List.mem_cons.mp hx with rfl | hx
    · exact ⟨kvs, rfl, by omega⟩
    · obtain ⟨k2, e, l2⟩ := h.dics x hx
      exact ⟨k2, e, by omega⟩
/-- a seat alone is set, its table written -/
theorem RunI.heard {F : Hp} {c : Crs} {s : Ws} {T T2 : List Cell} {B : Nat} (h : RunI F c s T B) {p n m : Int} {d : Addr} {kvs kvs' : List (Key × V)} (hp : valV c.seats (.inl p) = some (.int m)) (pm : T.Perm ((d, .dK kvs) :: T2)) (hs : ∀ q ∈ T2, q ∈ T) (l : kvs'.length ≤ kvs.length + 20) (l0 : kvs.length ≤ 20 * B) :
    RunI F { c with seats := putK c.seats (.inl p) (.int n) } { s with seats := putK s.seats (.inl p) (.int n) } ((d, .dK kvs') :: T2) (B + 1) := by
  obtain ⟨rs, r1, r2, r3⟩ := h.rows
  have mm : ∀ x ∈ T.map (·.1), x ∈ (((d, HO.dK kvs') :: T2 : List Cell)).map (·.1) := fun x hx => by
    have := (pm.map (·.1)).mem_iff.mp hx
    exact this
  refine ⟨⟨rs, r1, r2, r3⟩, h.gone, h.since, h.sin, by show putK s.seats _ _ = putK c.seats _ _; rw [h.seats], fun q v hq => ?_, by have := h.tlen; exact Nat.le_succ_of_le this, CopyAt.mono h.cops (Same.refl _) mm, fun x hx => ?_⟩
  · have hq : valV (putK c.seats (.inl p) (.int n)) (.inl q) = some v := hq
    rw [valV_put] at hq
    by_cases e : (Sum.inl q : Key) = .inl p
    · cases e
      obtain ⟨td, a, b⟩ := h.tabs p _ hp
      exact ⟨td, a, mm _ b⟩
    · rw [if_neg e] at hq
      obtain ⟨td, a, b⟩ := h.tabs q v hq
      exact ⟨td, a, mm _ b⟩
  · rcases List.mem_cons.mp hx with rfl | hx
    · exact ⟨kvs', rfl, by omega⟩
    · obtain ⟨k2, e, l2⟩ := h.dics x (hs x hx)
      exact ⟨k2, e, by omega⟩
theorem RunI.copy {F : Hp} {c : Crs} {s : Ws} {T : List Cell} {B : Nat} (h : RunI F c s T B) {n : Int} {d a : Addr} {kvs : List (Key × V)} (l : kvs.length ≤ 20 * B) (ha : F a = some (.tup [.int n, .ref d])) :
    RunI F { c with copies := c.copies ++ [n] } { s with copies := s.copies ++ [.ref a] } ((d, .dK kvs) :: T) (B + 1) := by
  obtain ⟨rs, r1, r2, r3⟩ := h.rows
  refine ⟨⟨rs, r1, r2, r3⟩, h.gone, h.since, h.sin, h.seats, fun q m hq => ?_, by have := h.tlen; exact Nat.le_succ_of_le this, (CopyAt.mono (T' := (d, .dK kvs) :: T) h.cops (Same.refl _) fun _ m => List.mem_cons_of_mem _ m).snoc ⟨a, d, rfl, ha, List.mem_cons_self ..⟩, fun x hx => ?_⟩
  · obtain ⟨td, a, b⟩ := h.tabs q m hq
    exact ⟨td, a, List.mem_cons_of_mem _ b⟩
  · rcases List.mem_cons.mp hx with rfl | hx
    · exact ⟨kvs, rfl, by omega⟩
    · obtain ⟨k2, e, l2⟩ := h.dics x hx
      exact ⟨k2, e, by omega⟩
def spDid : Sp := fun vs H Q _ => ∃ (F : Hp) (R T : List Cell) (a : Wa) (s : Ws) (c : Crs) (B : Nat) (ea : Addr) (e : Ev), vs = [.ref a.w, .ref ea] ∧ Ow F (waC a s ++ (T ++ R)) H ∧ F ea = some (.tup e.vs) ∧ RunI F c s T B ∧ CrsOk c ∧ c.ok e ∧ c.many ≤ 20 ∧ c.seats.length ≤ 1000 ∧ c.copies.length ≤ 1000 ∧ B ≤ 100 ∧
  ∀ (r : V) (F' : Hp) (s' : Ws) (T' : List Cell) (H' : Hp), Same F F' → s'.heard = s.heard → RunI F' (c.step e) s' T' (B + 1) → Ow F' (waC a s' ++ (T' ++ R)) H' → HrdAt F' c e r → Q r H'
section
variable {P : Program} {w : World} {K : PySem.W.Frag} {mg : Str → Option Value} {base : Heap}
abbrev s_w_did : Stmt := top 24
theorem sc_w_did : FnScope ["_law_w", "_law_event_so", "_law_word", "_law_own"] ["_law_w", "_law_event_so"] (defScope s_w_did) := ⟨rfl, rfl, rfl, by decide +kernel, rfl, by decide +kernel, by decide +kernel⟩
theorem bd_w_did : Bd "_law_did" "_law_did" s_w_did ["_law_w", "_law_event_so"] := fun _ _ _ _ _ _ us hl => match us, hl with | [_, _], _ => rfl
/-! slots: 0 _law_w, 1 _law_event_so, 2 _law_word, 3 _law_own -/
theorem ok_w_did {f : Addr} (S : Src K "_law_did" "_law_did" s_w_did f) (T : Blt mg) (G_w_heard : Def P w K mg base "_law_heard" ["_law_w", "_law_p", "_law_upto_so"] 1 spHeard) : Fn P w K mg base f ["_law_w", "_law_event_so"] 2 spDid := by
  refine fn_mk S sc_w_did bd_w_did (fun vs H Q E h => ?_) (fun cdv A outer s0 H vs Q E hr h => ?_)
  · obtain ⟨_, _, _, _, _, _, _, _, _, rfl, _⟩ := h
    rfl
  · obtain ⟨F, R, T', a, s, c, B, ea, e, rfl, O, he, I, C, ok, c1, c2, c3, hB, k⟩ := h
    have hu := hu_of hr
    obtain ⟨rs, r1, r2, r3⟩ := I.rows
    have hrl := r1.length
    have hcl := I.cops.length
    have htl := I.tlen
    have hsl : s.seats.length ≤ 1000 := by rw [I.seats]; exact c2
    refine ⟨_, (pss_cons (ps_set (i := 2) sc_w_did.nd rfl (Or.inl rfl) (pe_ix ix_tup (pv 1) pe_int (fun _ _ => rfl)))
      (pss_cons (ps_if (pt_cmpR op_in_seq (pv 2) (pe_tup (pa_cons pe_str (pa_cons pe_str pa_nil))) rfl)
        (pss_cons (ps_expr (pe_bm PySem.F.plainAttrs_list PySem.F.slot_list_append PySem.F.type_list_append mt_append (pe_dget hu (pv 0) pe_str (fun _ _ => rfl)) (pa_cons (pe_tup (pa_cons (pe_ix ix_tup (pv 1) pe_int (fun _ _ => rfl)) (pa_cons (pe_ifExp (pt_cmpR op_eq (pv 2) pe_str (nomark _)) (pe_ix ix_tup (pv 1) pe_int (fun _ _ => rfl)) pe_non) pa_nil))) pa_nil)))
        (pss_one (ps_ret (pe_op op_sub (pe_callB cl_len (by rfl) T.len (by decide +kernel) (pa_cons (pe_dget hu (pv 0) pe_str (fun _ _ => rfl)) pa_nil)) pe_int))))
        pss_nil)
      (pss_cons (ps_if (pt_cmpR op_eq (pv 2) pe_str (nomark _))
        (pss_one (ps_ret (pe_def G_w_heard (hr.mono (by decide)) rfl (pa_cons (pv 0) (pa_cons (pe_ix ix_tup (pv 1) pe_int (fun _ _ => rfl)) (pa_cons (pe_ix ix_tup (pv 1) pe_int (fun _ _ => rfl)) pa_nil))))))
        pss_nil)
      (pss_cons (ps_if (pt_cmpR op_eq (pv 2) pe_str (nomark _))
        (pss_cons (ps_expr (pe_bm PySem.F.plainAttrs_list PySem.F.slot_list_append PySem.F.type_list_append mt_append (pe_dget hu (pv 0) pe_str (fun _ _ => rfl)) (pa_cons (pe_tup (pa_cons (pe_dget hu (pe_dget hu (pv 0) pe_str (fun _ _ => rfl)) (pe_ix ix_tup (pv 1) pe_int (fun _ _ => rfl)) (fun _ _ => rfl)) (pa_cons (pe_callTy cl_dictD (by rfl) T.dict (by decide +kernel) (pa_cons (pe_dget hu (pe_dget hu (pv 0) pe_str (fun _ _ => rfl)) (pe_ix ix_tup (pv 1) pe_int (fun _ _ => rfl)) (fun _ _ => rfl)) pa_nil)) pa_nil))) pa_nil)))
        (pss_one (ps_ret (pe_op op_sub (pe_callB cl_len (by rfl) T.len (by decide +kernel) (pa_cons (pe_dget hu (pv 0) pe_str (fun _ _ => rfl)) pa_nil)) pe_int))))
        pss_nil)
      (pss_cons (ps_if (pt_cmpR op_in_seq (pv 2) (pe_tup (pa_cons pe_str (pa_cons pe_str pa_nil))) rfl)
        (pss_cons (ps_set (i := 3) sc_w_did.nd rfl (Or.inl rfl) (pe_ifExp (pt_cmpR op_eq (pv 2) pe_str (nomark _)) (pe_tup (pa_cons pe_int (pa_cons pe_dnewK pa_nil))) (pe_ix ix_list (pe_dget hu (pv 0) pe_str (fun _ _ => rfl)) (pe_ix ix_tup (pv 1) pe_int (fun _ _ => rfl)) (fun _ _ => rfl))))
        (pss_one (ps_asg (pe_tup (pa_cons (pe_ix ix_tup (pv 3) pe_int (fun _ _ => rfl)) (pa_cons (pe_callTy cl_dictD (by rfl) T.dict (by decide +kernel) (pa_cons (pe_ix ix_tup (pv 3) pe_int (fun _ _ => rfl)) pa_nil)) pa_nil))) (pg_tup (n := 2) rfl (pgs_cons (pg_sub (pe_dget hu (pv 0) pe_str (fun _ _ => rfl)) (pe_ix ix_tup (pv 1) pe_int (fun _ _ => rfl)) (set_dict hu)) (pgs_cons (pg_sub (pe_dget hu (pv 0) pe_str (fun _ _ => rfl)) (pe_ix ix_tup (pv 1) pe_int (fun _ _ => rfl)) (set_dict hu)) pgs_nil))))))
        pss_nil)
      (pss_one (ps_ret pe_non))))))), ?_⟩
    cases e with
    | put kk v =>
      walk_at "R"
      refine rd_inT (by walk_at "sz") rfl rfl O fun H O => ?_
      walk_at "R"
      refine ⟨by walk_at "sz", fun p hp => ?_⟩
      obtain ⟨F1, s1, h1, O⟩ := O.newF (o := .tup [.str kk, .int v]) hp
      walk_at "R"
      have O := O.set 1 (.lst (s.rows ++ [.ref p]))
      walk_at "R"
      exact k _ F1 { s with rows := s.rows ++ [.ref p] } T' _ s1 rfl ((I.up (Nat.le_refl _) s1).row (o := some v) ok ⟨p, rfl, h1⟩) O trivial
    | drop kk =>
      walk_at "R"
      refine rd_inT (by walk_at "sz") rfl rfl O fun H O => ?_
      walk_at "R"
      refine ⟨by walk_at "sz", fun p hp => ?_⟩
      obtain ⟨F1, s1, h1, O⟩ := O.newF (o := .tup [.str kk, .non]) hp
      walk_at "R"
      have O := O.set 1 (.lst (s.rows ++ [.ref p]))
      walk_at "R"
      exact k _ F1 { s with rows := s.rows ++ [.ref p] } T' _ s1 rfl ((I.up (Nat.le_refl _) s1).row (o := none) ok ⟨p, rfl, h1⟩) O trivial
    | wait =>
      walk_at "R"
      refine rd_inT (by walk_at "sz") rfl rfl O fun H O => ?_
      walk_at "R"
      refine rd_inT (by walk_at "sz") rfl rfl O fun H O => ?_
      walk_at "R"
      exact k _ F s T' _ (Same.refl _) rfl (I.up (Nat.le_succ _) (Same.refl _)) O trivial
    | read p u =>
      obtain ⟨hp, n, hn, n1, n2⟩ := id ok
      obtain ⟨_, en, n0, _⟩ := C.val hn
      cases en
      obtain ⟨td, t1, t2⟩ := I.tabs _ _ hn
      obtain ⟨kvs, T2, pm, kl, hs⟩ := dic_out I.dics t2
      have O : Ow F (waC a s ++ ((td, .dK kvs) :: (T2 ++ R))) H := O.perm (List.Perm.append_left _ (pm.append_right R))
      walk_at "R"
      refine rd_inT (by walk_at "sz") rfl rfl O fun H O => ?_
      walk_at "R"
      refine ⟨F, _, a, s, rs, td, kvs, p, u, n, rfl, O, r1, by omega, r3, by rw [I.seats]; exact hn, t1, n0, by omega, by omega, by omega, by omega, fun h refs out tk' F' H' s1 h1 h3 hok l O => ?_⟩
      exact k _ F' { s with seats := putK s.seats (.inl p) (.int u) } ((td, .dK tk') :: T2) _ s1 rfl ((I.up (Nat.le_refl _) s1).heard hn pm hs l kl) O ⟨n, h, refs, out, hn, rfl, h1, h3, hok⟩
    | save p =>
      obtain ⟨n, hn⟩ := id ok
      have hn' : valV s.seats (.inl p) = some (.int n) := by rw [I.seats]; exact hn
      obtain ⟨td, t1, t2⟩ := I.tabs _ _ hn
      obtain ⟨kvs, T2, pm, kl, hs⟩ := dic_out I.dics t2
      have O : Ow F (waC a s ++ ((td, .dK kvs) :: (T2 ++ R))) H := O.perm (List.Perm.append_left _ (pm.append_right R))
      walk_at "R"
      refine rd_inT (by walk_at "sz") rfl rfl O fun H O => ?_
      walk_at "R"
      intro d hd
      have O := O.new (o := .dK kvs) hd
      walk_at "R"
      refine ⟨by walk_at "sz", fun q hq => ?_⟩
      obtain ⟨F1, s1, h1, O⟩ := O.newF (o := .tup [.int n, .ref d]) hq
      walk_at "R"
      have O := O.set 7 (.lst (s.copies ++ [.ref q]))
      walk_at "R"
      have O : Ow F1 (waC a { s with copies := s.copies ++ [.ref q] } ++ (((d, .dK kvs) :: T') ++ R)) _ := O.perm ((List.perm_middle (l₁ := waC a { s with copies := s.copies ++ [.ref q] }) (a := (d, HO.dK kvs)) (l₂ := (td, HO.dK kvs) :: (T2 ++ R))).symm.trans (List.Perm.append_left _ (List.Perm.cons _ (pm.symm.append_right R))))
      have e2 : c.step (.save p) = { c with copies := c.copies ++ [n] } := by show ({ c with copies := c.copies ++ [seatOf c p] } : Crs) = _; rw [seatOf_eq hn]
      exact k _ F1 { s with copies := s.copies ++ [.ref q] } ((d, .dK kvs) :: T') _ s1 rfl (by rw [e2]; exact (I.up (Nat.le_refl _) s1).copy kl h1) O trivial
    | join p =>
      walk_at "R"
      refine rd_inT (by walk_at "sz") rfl rfl O fun H O => ?_
      walk_at "R"
      refine rd_inT (by walk_at "sz") rfl rfl O fun H O => ?_
      walk_at "R"
      intro d0 hp0
      have O := O.new (o := .dK []) hp0
      walk_at "R"
      refine ⟨by walk_at "sz", fun q hq => ?_⟩
      obtain ⟨F1, s1, h1, O⟩ := O.newF (o := .tup [.int 0, .ref d0]) hq
      have he := s1 _ _ he
      walk_at "R"
      intro d1 hd1
      have O := O.new (o := .dK []) hd1
      walk_at "R"
      refine ⟨by walk_at "sz", fun q2 hq2 => ?_⟩
      obtain ⟨F2, s2, h2, O⟩ := O.newF (o := .tup [.int 0, .ref d1]) hq2
      have he := s2 _ _ he
      walk_at "R"
      have O := O.set 6 (.dK (putK s.seats (.inl p) (.int 0)))
      walk_at "R"
      have O := O.set 7 (.dK (putK s.tables (.inl p) (.ref d1)))
      walk_at "R"
      have O := O.er 1
      have O : Ow F2 (waC a { s with seats := putK s.seats (.inl p) (.int 0), tables := putK s.tables (.inl p) (.ref d1) } ++ (((d1, .dK []) :: T') ++ R)) _ := O.perm (List.perm_middle (l₁ := waC a { s with seats := putK s.seats (.inl p) (.int 0), tables := putK s.tables (.inl p) (.ref d1) }) (a := (d1, HO.dK [])) (l₂ := T' ++ R)).symm
      exact k _ F2 { s with seats := putK s.seats (.inl p) (.int 0), tables := putK s.tables (.inl p) (.ref d1) } ((d1, .dK []) :: T') _ (s1.trans s2) rfl ((I.up (Nat.le_refl _) (s1.trans s2)).seat (kvs := []) (Nat.zero_le _)) O trivial
    | load p i =>
      obtain ⟨hp, i0, i1⟩ := id ok
      obtain ⟨x, hx, hx2, ex⟩ := atI_ex (xs := s.copies) (r := i) i0 (by omega)
      obtain ⟨n, hn, qa, d, rfl, hq, hd⟩ := L2.paired_get I.cops hx2
      obtain ⟨kvs, T2, pm, kl, hs⟩ := dic_out I.dics hd
      have O : Ow F (waC a s ++ ((d, .dK kvs) :: (T2 ++ R))) H := O.perm (List.Perm.append_left _ (pm.append_right R))
      walk_at "R"
      refine rd_inT (by walk_at "sz") rfl rfl O fun H O => ?_
      walk_at "R"
      refine rd_inT (by walk_at "sz") rfl rfl O fun H O => ?_
      walk_at "R"
      intro d1 hd1
      have O := O.new (o := .dK kvs) hd1
      walk_at "R"
      refine ⟨by walk_at "sz", fun q2 hq2 => ?_⟩
      obtain ⟨F2, s2, h2, O⟩ := O.newF (o := .tup [.int n, .ref d1]) hq2
      have he := s2 _ _ he
      walk_at "R"
      have O := O.set 5 (.dK (putK s.seats (.inl p) (.int n)))
      walk_at "R"
      have O := O.set 6 (.dK (putK s.tables (.inl p) (.ref d1)))
      walk_at "R"
      have O : Ow F2 (waC a { s with seats := putK s.seats (.inl p) (.int n), tables := putK s.tables (.inl p) (.ref d1) } ++ (((d1, .dK kvs) :: T') ++ R)) _ :=
        O.perm ((List.perm_middle (l₁ := waC a { s with seats := putK s.seats (.inl p) (.int n), tables := putK s.tables (.inl p) (.ref d1) }) (a := (d1, HO.dK kvs)) (l₂ := (d, HO.dK kvs) :: (T2 ++ R))).symm.trans (List.Perm.append_left _ (List.Perm.cons _ (pm.symm.append_right R))))
      have e2 : c.step (.load p i) = { c with seats := putK c.seats (.inl p) (.int n) } := by
        show ({ c with seats := putK c.seats (.inl p) (.int (c.copies.getD i.toNat 0)) } : Crs) = _
        rw [List.getD_eq_getElem?_getD, hn]
        rfl
      exact k _ F2 { s with seats := putK s.seats (.inl p) (.int n), tables := putK s.tables (.inl p) (.ref d1) } ((d1, .dK kvs) :: T') _ s2 rfl (by rw [e2]; exact (I.up (Nat.le_refl _) s2).seat kl) O trivial
end
end K7

set_option Elab.async false
set_option linter.all false
set_option maxRecDepth 100000
set_option maxHeartbeats 4000000
set_option pp.deepTerms false
set_option pp.maxSteps 600
namespace K7
open PySem PySem.Spec PyProof.Rows L2
local macro_rules | `(tactic| walk_at "hp") => `(tactic| with_unfolding_all first
  | exact Ow.get (by assumption) 0 | exact Ow.get (by assumption) 1 | exact Ow.get (by assumption) 2 | exact Ow.get (by assumption) 3
  | exact Ow.fz (by assumption) (by assumption)
  | exact Ow.get (by assumption) 4 | exact Ow.get (by assumption) 5 | exact Ow.get (by assumption) 6 | exact Ow.get (by assumption) 7 | exact Ow.get (by assumption) 8 | exact Ow.get (by assumption) 9)
local macro_rules | `(tactic| walk_at "sq") => `(tactic| with_unfolding_all first
  | exact SqL.of (by walk_at "hp") | exact SqT.of (by walk_at "hp") | assumption)
local macro_rules | `(tactic| walk_at "rd") => `(tactic| with_unfolding_all first
  | exact Rd.of (by walk_at "hp") | assumption)
local macro_rules | `(tactic| walk_at "dk") => `(tactic| assumption)
local macro_rules | `(tactic| walk_at "ai") => `(tactic| first | with_unfolding_all rfl | exact atI_zero | assumption)
local macro_rules | `(tactic| walk_at "sd") => `(tactic| with_unfolding_all first
  | rfl | assumption | decide | omega
  | exact ⟨by omega, by omega⟩ | exact Or.inl ⟨by omega, by omega⟩ | exact Or.inr ⟨by omega, by omega⟩ | exact ⟨by decide, by decide, by omega⟩)
local macro_rules | `(tactic| walk_at "sz") => `(tactic| first
  | with_unfolding_all exact szl (Nat.le_of_ble_eq_true rfl)
  | with_unfolding_all exact sztl (Nat.le_of_ble_eq_true rfl)
  | exact szl (by simp <;> omega)
  | exact sztl (by simp <;> omega))
local macro_rules | `(tactic| walk_at "s") => `(tactic| first
  | with_reducible refine rd_I0 ?_
  | ((with_reducible apply rd_I); (focus walk_at "sd"))
  | ((with_reducible apply rd_opVC); (focus with_unfolding_all rfl))
  | ((with_reducible apply rd_opVV); (focus with_unfolding_all rfl); (focus with_unfolding_all rfl))
  | ((with_reducible apply rd_opV); (focus with_unfolding_all rfl))
  | with_reducible refine rd_opC ?_
  | with_reducible refine rd_op ?_
  | ((with_reducible apply rd_var); (focus with_unfolding_all rfl))
  | with_reducible refine rd_c ?_
  | with_reducible refine rd_sSet ?_
  | ((with_reducible apply rd_CB1V); (focus with_unfolding_all rfl)) | with_reducible refine rd_CB1 ?_ | with_reducible refine rd_CB ?_
  | ((with_reducible apply rd_consV); (focus with_unfolding_all rfl)) | with_reducible refine rd_consC ?_ | with_reducible refine rd_cons0 ?_ | with_reducible refine rd_cons ?_ | with_reducible refine rd_nil ?_
  | ((with_reducible apply rd_ixL); (focus walk_at "sq"); (focus walk_at "ai"))
  | ((with_reducible apply rd_ixT); (focus walk_at "sq"); (focus walk_at "ai"))
  | with_reducible refine rd_int ?_ | with_reducible refine rd_intB ?_ | with_reducible refine rd_abs ?_
  | ((with_reducible apply rd_len); (focus walk_at "sq")) | ((with_reducible apply rd_lenT); (focus walk_at "sq"))
  | with_reducible refine rd_ifS ?_ | with_reducible refine iteT ?_ | with_reducible refine iteF ?_
  | with_reducible refine rd_tTest ?_ | with_reducible refine rd_tB ?_ | with_reducible refine rd_ex ?_
  | with_reducible refine rd_seqD ?_ | with_reducible refine rd_sSet1 ?_ | with_reducible refine rd_ret ?_ | with_reducible refine rd_drop ?_ | with_reducible refine rd_asg ?_
  | ((with_reducible apply rd_eq); (focus with_unfolding_all rfl)) | ((with_reducible apply rd_ne); (focus with_unfolding_all rfl))
  | with_reducible refine rd_isNr ?_ | with_reducible refine rd_notNr ?_ | with_reducible refine rd_isNn ?_ | with_reducible refine rd_notNn ?_ | with_reducible refine rd_isNi ?_ | with_reducible refine rd_notNi ?_
  | with_reducible refine rd_isN ?_ | with_reducible refine rd_notN ?_
  | with_reducible refine rd_and ?_ | with_reducible refine rd_or ?_ | with_reducible refine rd_not ?_ | with_reducible refine rd_if ?_
  | with_reducible refine rd_seq ?_ | with_reducible refine rd_gName ?_ | with_reducible refine rd_next ?_ | with_reducible refine rd_retN ?_
  | with_reducible refine rd_gSub ?_ | with_reducible refine rd_gCons ?_ | with_reducible refine rd_gNil ?_ | ((with_reducible apply rd_gTup); (focus walk_at "sq"); (focus with_unfolding_all rfl))
  | ((with_reducible apply rd_setL); (focus walk_at "hp"); (focus with_unfolding_all rfl))
  | with_reducible refine rd_par ?_ | with_reducible refine rd_par3 ?_ | with_reducible refine rd_ex2 ?_ | with_reducible refine rd_ex3 ?_
  | with_reducible refine rd_dget ?_ | with_reducible refine rd_din ?_ | with_reducible refine rd_dnotin ?_
  | ((with_reducible apply rd_dgS); (focus walk_at "rd"); (focus walk_at "dk"))
  | ((with_reducible apply rd_dgI); (focus walk_at "rd"); (focus walk_at "dk"))
  | ((with_reducible apply rd_doS); (focus walk_at "rd")) | ((with_reducible apply rd_doI); (focus walk_at "rd"))
  | with_reducible refine rd_dput ?_
  | ((with_reducible apply rd_dpS); (focus walk_at "hp"); (focus walk_at "sz")) | ((with_reducible apply rd_dpI); (focus walk_at "hp"); (focus walk_at "sz"))
  | with_reducible refine rd_bm ?_
  | ((with_reducible apply rd_tyL); (focus walk_at "hp")) | ((with_reducible apply rd_append); (focus walk_at "hp"); (focus walk_at "sz"))
  | with_reducible refine rd_tup ?_ | with_reducible refine rd_lst ?_ | with_reducible refine rd_dnew ?_
  | with_reducible refine rd_for ?_ | with_reducible refine rd_iR1 ?_ | with_reducible refine rd_iR2 ?_ | with_reducible refine rd_iL ?_ | with_reducible refine rd_iT ?_
  | with_reducible refine rd_disp ?_ | with_reducible refine rd_pair ?_ | with_reducible refine rd_pair0 ?_
  | with_reducible refine rd_andV ?_ | with_reducible refine rd_orV ?_
  | ((with_reducible apply rd_tupL); (focus walk_at "sq")) | ((with_reducible apply rd_listT); (focus walk_at "sq"))
  | with_reducible refine rd_lc ?_ | ((with_reducible apply rd_wp); (focus with_unfolding_all rfl)) | with_reducible refine rd_yes ?_
  | with_reducible refine rd_sl ?_ | with_reducible refine rd_noPart ?_ | with_reducible refine rd_part ?_ | with_reducible refine rd_exI ?_
  | ((with_reducible apply rd_isd); (focus walk_at "rd")) | ((with_reducible apply rd_dg1S); (focus walk_at "rd")) | ((with_reducible apply rd_dg1I); (focus walk_at "rd"))
  | with_reducible refine rd_dget1 ?_ | with_reducible refine rd_dget2 ?_ | with_reducible refine rd_dpop2 ?_ | with_reducible refine rd_dpop1 ?_ | with_reducible refine rd_dsetd ?_
  | ((with_reducible apply rd_slL); (focus walk_at "sq"))
  | with_reducible refine rd_iE ?_ | with_reducible refine rd_iS ?_
  | ((with_reducible apply rd_dictD); (focus walk_at "rd"))
  | with_reducible refine rd_setD ?_
  | with_reducible refine rd_call ?_)
local macro_rules | `(tactic| walk_at "r") => `(tactic| repeat (walk_at "s"))

local macro_rules | `(tactic| walk_at "lt") => `(tactic| first | with_reducible refine ifT (by decide +kernel) ?_ | with_reducible refine ifF (by decide +kernel) ?_)
local macro_rules | `(tactic| walk_at "R") => `(tactic| repeat (first | walk_at "s" | walk_at "lt"))
local macro_rules | `(tactic| walk_at "dk") => `(tactic| first
  | assumption | exact wa_rows | exact wa_gone | exact wa_since | exact wa_seats | exact wa_tables | exact wa_copies | exact wa_heard)
theorem valid_at : ∀ {es : List Ev} {c : Crs} {i : Nat} {e : Ev}, Valid c es → es[i]? = some e → (c.run (es.take i)).ok e
  | [], _, _, _, _, h => by simp at h
  | x :: es, c, 0, e, v, h => by
    simp at h
    subst h
    exact v.1
  | x :: es, c, i + 1, e, v, h => valid_at (c := c.step x) (i := i) v.2 (by simpa using h)
theorem valid_take : ∀ {es : List Ev} {c : Crs} (i : Nat), Valid c es → Valid c (es.take i)
  | _, _, 0, _ => by rw [List.take_zero]; trivial
  | [], _, _ + 1, v => v
  | x :: es, c, i + 1, v => ⟨v.1, valid_take (c := c.step x) i v.2⟩
def HrdsAt (F : Hp) (es : List Ev) (m : Nat) (hvs : List V) : Prop := hvs.length = m ∧ ∀ (i : Nat) e, i < m → es[i]? = some e → ∃ r, hvs[i]? = some r ∧ HrdAt F (c0.run (es.take i)) e r
theorem HrdsAt.mono {F F' : Hp} {es : List Ev} {m : Nat} {hvs : List V} (h : HrdsAt F es m hvs) (s : Same F F') : HrdsAt F' es m hvs := ⟨h.1, fun i e a b => let ⟨r, x, y⟩ := h.2 i e a b; ⟨r, x, y.mono s⟩⟩
theorem HrdsAt.snoc {F : Hp} {es : List Ev} {m : Nat} {hvs : List V} (h : HrdsAt F es m hvs) {e : Ev} {r : V} (he : es[m]? = some e) (hr : HrdAt F (c0.run (es.take m)) e r) : HrdsAt F es (m + 1) (hvs ++ [r]) := by
  refine ⟨by simp [h.1], fun i x hi hx => ?_⟩
  by_cases hm : i < m
  · obtain ⟨q, a, b⟩ := h.2 i x hm hx
    exact ⟨q, by rw [List.getElem?_append_left (by rw [h.1]; exact hm)]; exact a, b⟩
  · have e1 : i = m := by omega
    subst e1
    rw [he] at hx
    cases hx
    exact ⟨r, by rw [List.getElem?_append_right (by rw [h.1]; exact Nat.le_refl _), h.1]; simp, hr⟩
theorem RunI.hd {F : Hp} {c : Crs} {s : Ws} {T : List Cell} {B : Nat} (h : RunI F c s T B) (x : List V) : RunI F c { s with heard := x } T B := ⟨h.rows, h.gone, h.since, h.sin, h.seats, h.tabs, h.tlen, h.cops, h.dics⟩
theorem RunI.zero (F : Hp) : RunI F c0 Ws0 [] 0 :=
  ⟨⟨[], .nil, rfl, fun _ h => (nomatch h)⟩, .nil, .nil, fun _ _ h => by simp [Ws0, valV] at h, rfl, fun _ _ h => by simp [c0, valV] at h, Nat.le_refl _, .nil, fun _ h => (nomatch h)⟩
def spRun : Sp := fun vs H Q _ => ∃ (F : Hp) (R : List Cell) (ta br : Addr) (tvs bvs : List V) (es : List Ev) (ps : List (Nat × Int)) (keep : Int), vs = [.ref ta, .int keep, .ref br] ∧ Ow F R H ∧ F ta = some (.tup tvs) ∧ TabAt F tvs es ∧ Valid c0 es ∧ es.length ≤ 20 ∧
  F br = some (.tup bvs) ∧ BrsAt F bvs ps ∧ (∀ p ∈ ps, BrOk es p) ∧ ps.length ≤ 21 ∧
  ∀ (a : Wa) (hvs : List V) (F' H' : Hp), Same F F' → F' a.w = some (.dK a.K) → F' a.he = some (.lst hvs) → HrdsAt F' es es.length hvs → Ow F' R H' → Q (.ref a.w) H'
section
variable {P : Program} {w : World} {K : PySem.W.Frag} {mg : Str → Option Value} {base : Heap}
abbrev s_w_run : Stmt := top 25
theorem sc_w_run : FnScope ["_law_table_here", "_law_keep", "_law_broom", "_law_w", "_law_spot", "_law_when", "_law_end"] ["_law_table_here", "_law_keep", "_law_broom"] (defScope s_w_run) := ⟨rfl, rfl, rfl, by decide +kernel, rfl, by decide +kernel, by decide +kernel⟩
theorem bd_w_run : Bd "_law_run" "_law_run" s_w_run ["_law_table_here", "_law_keep", "_law_broom"] := fun _ _ _ _ _ _ us hl => match us, hl with | [_, _, _], _ => rfl
/-! slots: 0 _law_table_here, 1 _law_keep, 2 _law_broom, 3 _law_w, 4 _law_spot, 5 _law_when, 6 _law_end -/
theorem ok_w_run {f : Addr} (S : Src K "_law_run" "_law_run" s_w_run f) (T : Blt mg) (G_w_bare : Def P w K mg base "_law_bare" [] 1 spBare) (G_w_leave : Def P w K mg base "_law_leave" ["_law_w", "_law_keep", "_law_spot"] 1 spLeave)
    (G_w_swept : Def P w K mg base "_law_swept" ["_law_w", "_law_keep", "_law_spot", "_law_end"] 2 spSwept) (G_w_did : Def P w K mg base "_law_did" ["_law_w", "_law_event_so"] 2 spDid) : Fn P w K mg base f ["_law_table_here", "_law_keep", "_law_broom"] 3 spRun := by
  refine fn_mk S sc_w_run bd_w_run (fun vs H Q E h => ?_) (fun cdv A outer s0 H vs Q E hr h => ?_)
  · obtain ⟨_, _, _, _, _, _, _, _, _, rfl, _⟩ := h
    rfl
  · obtain ⟨F, R, ta, bra, tvs, bvs, es, ps, keep, rfl, O, ht, tab, va, hl, hb, brs, bok, bl, k⟩ := h
    have hu := hu_of hr
    have htl := tab.length
    have hbl := brs.length
    refine ⟨_, (pss_cons (ps_set (i := 3) sc_w_run.nd rfl (Or.inl rfl) (pe_def0 G_w_bare (hr.mono (by decide)) rfl))
      (pss_cons (ps_for PassesOwn.never rfl (pi_range1 rfl T.range (pa_cons (pe_op op_add (pe_callB cl_len (by rfl) T.len (by decide +kernel) (pa_cons (pv 0) pa_nil)) pe_int) pa_nil)) (pg_name (i := 4) sc_w_run.nd rfl (Or.inl rfl))
        (pss_cons (ps_expr (pe_def G_w_leave (hr.mono (by decide)) rfl (pa_cons (pv 3) (pa_cons (pv 1) (pa_cons (pv 4) pa_nil)))))
        (pss_cons (ps_for PassesOwn.never rfl (pi_tup (pv 2)) (pg_tup (n := 2) rfl (pgs_cons (pg_name (i := 5) sc_w_run.nd rfl (Or.inl rfl)) (pgs_cons (pg_name (i := 6) sc_w_run.nd rfl (Or.inl rfl)) pgs_nil)))
          (pss_one (ps_if (pt_cmpR op_eq (pv 5) (pv 4) (nomark _))
            (pss_one (ps_expr (pe_def G_w_swept (hr.mono (by decide)) rfl (pa_cons (pv 3) (pa_cons (pv 1) (pa_cons (pv 4) (pa_cons (pv 6) pa_nil)))))))
            pss_nil)))
        (pss_one (ps_if (pt_cmpR op_lt (pv 4) (pe_callB cl_len (by rfl) T.len (by decide +kernel) (pa_cons (pv 0) pa_nil)) (nomark _))
          (pss_one (ps_expr (pe_bm PySem.F.plainAttrs_list PySem.F.slot_list_append PySem.F.type_list_append mt_append (pe_dget hu (pv 3) pe_str (fun _ _ => rfl)) (pa_cons (pe_def G_w_did (hr.mono (by decide)) rfl (pa_cons (pv 3) (pa_cons (pe_ix ix_tup (pv 0) (pv 4) (fun _ _ => rfl)) pa_nil))) pa_nil))))
          pss_nil)))))
      (pss_one (ps_ret (pv 3))))), ?_⟩
    walk_at "r"
    refine ⟨F, R, rfl, O, fun a H O => ?_⟩
    walk_at "r"
    refine lp_R1 (by omega) (by omega) (fun i σ' H' => ∃ (F1 : Hp) (s : Ws) (T : List Cell) (v4 v5 v6 : Option V), σ' = [some (.ref ta), some (.int keep), some (.ref bra), some (.ref a.w), v4, v5, v6] ∧ Same F F1 ∧ RunI F1 (c0.run (es.take i)) s T i ∧
        HrdsAt F1 es (min i es.length) s.heard ∧ Ow F1 (waC a s ++ (T ++ R)) H')
      ⟨F, Ws0, [], none, none, none, rfl, Same.refl _, by rw [List.take_zero]; exact .zero F, by rw [Nat.zero_min]; exact ⟨rfl, fun i e h => by omega⟩, O⟩ ?_ ?_
    · rintro i σ' H' hi ⟨F1, s, T', v4, v5, v6, rfl, s1, I, hh, O⟩
      have ht1 := s1 _ _ ht
      have C : CrsOk (c0.run (es.take i)) := run_ok CrsOk.zero (valid_take i va)
      obtain ⟨rs, r1, r2, r3⟩ := I.rows
      have mb := manyAt_bd es i
      have r2 : (rs.length : Int) = manyAt es i := r2
      obtain ⟨q1, q2, q3⟩ := run_len (es.take i) c0
      have q1 : (c0.run (es.take i)).seats.length ≤ 0 + (es.take i).length := q1
      have q2 : (c0.run (es.take i)).copies.length ≤ 0 + (es.take i).length := q2
      have q4 : (es.take i).length ≤ es.length := by rw [List.length_take]; omega
      have q5 : (c0.run (es.take i)).many = manyAt es i := rfl
      walk_at "r"
      refine ⟨F1, T' ++ R, a, s, rs, keep, (i : Int), rfl, O, r1, by omega, I.gone, I.sin, fun gone H kg O => ?_⟩
      walk_at "r"
      refine lp_T bvs (fun j σ' H' => ∃ (gone since : List (Key × V)) (v5 v6 : Option V), σ' = [some (.ref ta), some (.int keep), some (.ref bra), some (.ref a.w), some (.int (i : Int)), v5, v6] ∧ KsOk gone ∧ KsOk since ∧ IntsV since ∧ Ow F1 (waC a { s with gone := gone, since := since } ++ (T' ++ R)) H')
        ⟨gone, s.since, _, _, rfl, kg, I.since, I.sin, O⟩ (fun j σ' H' _ ⟨_, _, _, _, _, _, _, _, O⟩ => SqT.of (O.fz (s1 _ _ hb))) ?_ ?_
      · rintro j x σ' H' hx ⟨gone, since, v5, v6, rfl, kg, ks, ki, O⟩
        obtain ⟨⟨wn, en⟩, hw, b, rfl, hbb⟩ := L2.paired_get brs hx
        have hbb := s1 _ _ hbb
        obtain ⟨b0, b1⟩ := bok _ (List.mem_of_getElem? hw)
        walk_at "r"
        refine br (fun hz => ?_) (fun hz => ?_)
        · have hz : (wn : Int) = (i : Int) := by cases hz; rfl
          have hz : wn = i := by omega
          have b1 : en ≤ manyAt es wn := b1
          rw [hz] at b1
          walk_at "r"
          refine ⟨F1, T' ++ R, a, { s with gone := gone, since := since }, rs, keep, (i : Int), en, rfl, O, r1, by omega, kg, ks, ki, b0, by omega, fun gone since H kg ks ki O => ?_⟩
          walk_at "r"
          exact ⟨gone, since, _, _, rfl, kg, ks, ki, O⟩
        · walk_at "r"
          exact ⟨gone, since, _, _, rfl, kg, ks, ki, O⟩
      · rintro σ' H' ⟨gone, since, v5, v6, rfl, kg, ks, ki, O⟩
        have I2 := I.gs kg ks ki
        walk_at "r"
        refine br (fun hlt => ?_) (fun hge => ?_)
        · have hil : i < es.length := by omega
          obtain ⟨x, hx, hx2, ex⟩ := atI_ex (xs := tvs) (r := (i : Int)) (by omega) (by omega)
          obtain ⟨e, he, ea, rfl, hea⟩ := tab_get tab hx2
          rw [Int.toNat_natCast] at he
          walk_at "r"
          refine ⟨F1, R, T', a, { s with gone := gone, since := since }, _, i, ea, e, rfl, O, s1 _ _ hea, I2, C, valid_at va he, by omega, by omega, by omega, by omega, fun r F2 s' T2 H s2 hhd I3 O hrd => ?_⟩
          have hhd : s'.heard = s.heard := hhd
          have hhl : s'.heard.length = min i es.length := by rw [hhd]; exact hh.1
          walk_at "r"
          have O := O.set 7 (.lst (s'.heard ++ [r]))
          refine ⟨F2, { s' with heard := s'.heard ++ [r] }, T2, _, _, _, rfl, s1.trans s2, by rw [run_next he]; exact I3.hd _, ?_, O⟩
          rw [Nat.min_eq_left (by omega)] at hh ⊢
          show HrdsAt F2 es (i + 1) (s'.heard ++ [r])
          rw [hhd]
          exact (hh.mono s2).snoc he hrd
        · walk_at "r"
          have hil : es.length ≤ i := by omega
          refine ⟨F1, { s with gone := gone, since := since }, T', _, _, _, rfl, s1, ?_, ?_, O⟩
          · rw [List.take_of_length_le (by omega)] at I2 ⊢
            exact I2.up (Nat.le_succ _) (Same.refl _)
          · rw [Nat.min_eq_right (by omega)] at hh ⊢
            exact hh
    · rintro σ' H' ⟨F1, s, T', v4, v5, v6, rfl, s1, I, hh, O⟩
      walk_at "r"
      rw [Nat.min_eq_right (by omega)] at hh
      have O := O.top 7
      have f1 := O.fle
      have O2 := O.freeze
      have f2 := O2.fle
      have O3 := O2.freeze
      refine k a s.heard _ _ ((s1.trans f1).trans f2) upd_same (f2 _ _ upd_same) ((hh.mono f1).mono f2) (O3.sub ?_)
      exact ((((((List.sublist_append_right T' R).cons _).cons _).cons _).cons _).cons _).cons _
end
end K7

set_option Elab.async false
set_option linter.all false
set_option maxRecDepth 100000
set_option maxHeartbeats 4000000
namespace K7
open PySem PySem.Spec PyProof.Rows L2
/-! ### own methods and classes -/
structure Mtd (P : Program) (w : World) (K : PySem.W.Frag) (mg : Str → Option Value) (base : Heap) (C : Addr) (m : Str) (ps : List Str) (k : Nat) (sp : Sp) : Prop where
  cls : Cls K C
  ex : ∃ f, Meth K C m f ∧ Fn P w K mg base f ps k sp
theorem Mtd.mono {P : Program} {w : World} {K : PySem.W.Frag} {mg : Str → Option Value} {base : Heap} {C : Addr} {m : Str} {ps : List Str} {j k : Nat} {sp : Sp} (M : Mtd P w K mg base C m ps j sp) (h : j ≤ k) : Mtd P w K mg base C m ps k sp := by
  obtain ⟨f, a, b⟩ := M.ex
  exact ⟨M.cls, f, a, b.mono h⟩
section
variable {X : Cx} {k : Nat} {ps : List Str} {sp : Sp} {x m : Str} {C : Addr} {p pos apos : Pos} {e o : Expr} {es : List Expr} {ta : TE} {t : TA}
theorem pe_mth {pl : Sem Bool} (ho : PE X o ta) (M : Mtd X.prog X.w X.K X.mg X.base C m ps k sp) (hr : Room k X.A) (ha : PA X (e :: es) t)
    (h1 : starEach (e :: es) X.env = (false, eval e X.env) :: starEach es X.env := by rfl) (h2 : (backTo pos (starEach es X.env)).any (·.1) = false := by rfl)
    (h3 : eval (.Call (.Attribute o m apos) (e :: es) [] pos) X.env = (do
      let v ← eval o X.env
      standAt apos.atName
      let (g, one) ← holding [v] (getMethod v m pl)
      callWith pos g one (backTo pos (starEach (e :: es) X.env)) (backToKw pos (keywordEach [] X.env))) := by rfl) :
    PE X (.Call (.Attribute o m apos) (e :: es) [] pos) (tMeth C m sp [] E0 ta t) := by
  obtain ⟨f, hm, fd, hk, hb, F⟩ := M.ex
  exact pe_meth ho M.cls hm F hr hb .nil pass0 ha h1 h2 h3
theorem pe_mth0 {pl : Sem Bool} (ho : PE X o ta) (M : Mtd X.prog X.w X.K X.mg X.base C m ps k sp) (hr : Room k X.A)
    (h3 : eval (.Call (.Attribute o m apos) [] [] pos) X.env = (do
      let v ← eval o X.env
      standAt apos.atName
      let (g, one) ← holding [v] (getMethod v m pl)
      callWith pos g one (backTo pos (starEach [] X.env)) (backToKw pos (keywordEach [] X.env))) := by rfl) :
    PE X (.Call (.Attribute o m apos) [] [] pos) (tMeth C m sp [] E0 ta tNil) := by
  obtain ⟨f, hm, fd, hk, hb, F⟩ := M.ex
  exact pe_meth0 ho M.cls hm F hr hb .nil pass0 h3
theorem pe_mak (M : Mak X.prog X.w X.K X.mg X.base x C ps k sp) (hr : Room (k + 1) X.A) (hg : Gl X x) (ha : PA X (e :: es) t) (hdb : (x == ("__debug__" : Str)) = false := by decide)
    (he : starEach (e :: es) X.env = (false, eval e X.env) :: starEach es X.env := by rfl) (hpl : (backTo pos (starEach es X.env)).any (·.1) = false := by rfl) : PE X (.Call (.Name x p) (e :: es) [] pos) (tMake C sp [] E0 t) := by
  obtain ⟨f, hm, fd, hk, hb, F⟩ := M.ex
  exact pe_make hm F hr hg M.mgC hb .nil pass0 ha hdb he hpl
/-! ### o.f as a target -/
def gFld (K : PySem.W.Frag) (ta : TE) (f : Str) : TG := fun v σ H Q => ta σ H fun x H2 => ∃ a C dx fs, x = .ref a ∧ H2 a = some (.ins C dx fs) ∧ Cls K C ∧ NoAttr K C f ∧ fs.length < 1000 ∧ Q σ (upd H2 a (.ins C dx (putF f v fs)))
theorem pg_fld {f : Str} (ho : PE X o ta) : PG X (.Attribute o f pos) (gFld X.K ta f) := by
  refine ⟨fun pins s σ H v u Q I rv h => ?_⟩
  refine PySem.W.kas_attr (thn (ho.run pins s σ H _ I h) fun ov s1 ⟨z, H1, J, rz, b, D, dz, gs, e1, e2, e3, e4, e5, e6⟩ => ?_)
  subst e1
  obtain rfl : ov = Value.ref b := rz
  exact setattr_ok J e2 e3 e4 e5 rv fun s3 J3 => ⟨σ, _, J3, e6⟩
end
/-! ### d.update(e) -/
theorem len_merge : ∀ (more kvs : List (Key × V)), (mergeK kvs more).length ≤ kvs.length + more.length
  | [], kvs => by simp [mergeK]
  | p :: r, kvs => by
    have h1 := len_merge r (putK kvs p.1 p.2)
    have h2 := length_putK kvs p.1 p.2
    show (mergeK (putK kvs p.1 p.2) r).length ≤ _
    rw [List.length_cons]
    omega
def tDUpd (td ty : TE) : TE := fun σ H Q => td σ H fun x H1 => ∃ a, x = .ref a ∧ IsD H1 a ∧ ty σ H1 fun y H2 => ∃ b kvs more, y = .ref b ∧ a ≠ b ∧ H2 a = some (.dK kvs) ∧ Rd H2 b (.dK more) ∧ kvs.length + more.length ≤ sizeLine ∧ Q .non (upd H2 a (.dK (mergeK kvs more)))
section
variable {X : Cx} {o e : Expr} {td ty : TE} {apos cpos : Pos}
theorem pe_dupd (ho : PE X o td) (hy : PE X e ty) (m : M1 X o "update" apos e cpos) : PE X (.Call (.Attribute o "update" apos) [e] [] cpos) (tDUpd td ty) := by
  refine ⟨fun pins s σ H Q I h => ?_⟩
  refine wpAny_Call_method m.base m.few m.line PySem.F.plainAttrs_dict PySem.F.slot_dict_update PySem.F.type_dict_update (thn (ho.run pins s σ H _ I h) fun ov s1 ⟨z, H1, J, rz, a, e1, e2, e3⟩ => ?_)
  subst e1
  obtain rfl : ov = Value.ref a := rz
  obtain ⟨t1, t2, _⟩ := isD_at J e2
  refine ⟨t1, t2, ?_⟩
  rw [m.trees]
  refine Calls.callWith_builtin rfl (Calls.evalArgs_plain (Calls.spliced_cons (thn (hy.run pins s1 σ H1 _ J e3) fun bv s2 ⟨y, H2, J2, ry, b, kvs, more, g1, g2, g3, g4, g5, g6⟩ => Calls.spliced_nil ?_)))
  subst g1
  obtain rfl : bv = Value.ref b := ry
  obtain ⟨z1, lo1, vs, r1, d1⟩ := dk_of J2.hok g3
  obtain ⟨z2, lo2, ws, r2, d2⟩ := dk_rd J2.hok g4
  have q1 := Paired.length r1
  have q2 := Paired.length r2
  refine call_meetsIn PySem.F.slot_dict_update d1.typeIs PySem.F.entry_dict_update (PySem.F.args_dict_update_2 _ _) (meets_dict_update (mixKind X.prog X.w) a b g2 lo2) ⟨vs, ws, d1, d2, by rw [← q1, ← q2]; exact g5, fun h' hm _ hs => ?_⟩
  have there : ∃ ob, h'.get? a = some ob := let ⟨ob, _, _, hob, _⟩ := hm; ⟨ob, hob⟩
  exact ⟨.non, _, d_write (t' := s2.toks) J2 (by rw [g3]; exact True.intro) hs there (dk_new (Nat.le_trans (len_merge more kvs) g5) lo1 (KV.merge r2 r1) hm), rfl, g6⟩
end
end K7

set_option Elab.async false
set_option linter.all false
set_option maxRecDepth 100000
set_option maxHeartbeats 4000000
namespace K7
open PySem PySem.Spec PyProof.Rows L2 ItX
/-! ### an own def run at a place below -/
section
variable {X : Cx} {pins : List (Addr × Obj)} {σ : L2.St} {H : Hp} {s : Shared} {P : Program} {w : World} {K : PySem.W.Frag} {mg : Str → Option Value} {base : Heap}
theorem own_run {n : Nat} {A1 : Around} {fn : Addr} {ps : List Str} {sp : Sp} {vs : List V} {us : List Value} {Q : VK} {E : Value → Shared → Prop} (room : Room n A1) (hfr : A1.frames = X.A.frames) (FN : Fn X.prog X.w X.K X.mg X.base fn ps n sp) (I : Inv X pins σ H s) (rv : Vals vs us)
    (hsp : sp vs H Q E0) : wpAny (model X.prog X.w) A1 (call (.ref fn) us) (EP X pins σ Q) E s := by
  obtain ⟨fd, hk, hb, F⟩ := FN.ex
  have e0 : Env0 X.prog X.w X.K X.mg X.base A1 X.stack s H := by
    have e := I.env0
    exact { frames := by rw [hfr]; exact e.frames, mod := e.mod, bs := e.bs, bsz := e.bsz, funs := e.funs, frf := e.frf, hok := e.hok, bare := e.bare }
  have hl := F.len _ _ _ _ hsp
  have hlu : (us ++ []).length = ps.length := by rw [List.append_nil, ← rv.length]; exact hl
  have hbt := hb s us I.kIn hlu
  rw [List.append_nil] at hbt
  refine wpAny_call (codeAny_mono (F.run A1 X.stack s H ⟨us, []⟩ us vs Q E0 room e0 hbt rv hsp) fun r s' hq => ?_)
  cases r with
  | error e => exact False.elim hq
  | ok fl =>
    cases fl with
    | ret u => exact I.after hq
    | next => exact hq.elim
    | brk => exact hq.elim
    | cont => exact hq.elim
end
/-! ### len(o) by an own __len__ -/
def qLenV (C : Addr) (sp : Sp) : List V → Hp → VK → Prop := fun xs H Q => ∃ a dx fs, xs = [.ref a] ∧ H a = some (.ins C dx fs) ∧ sp [.ref a] H (fun v H' => ∃ n : Int, v = .int n ∧ 0 ≤ n ∧ n < 2 ^ 63 ∧ Q (.int n) H') E0
theorem cl_lenV {X : Cx} {C : Addr} {ps : List Str} {k : Nat} {sp : Sp} (M : Mtd X.prog X.w X.K X.mg X.base C "__len__" ps k sp) (hr : Room (k + 3) X.A) : CallR X (.builtin "len") (qLenV C sp) := by
  intro pins s σ H xs us Q I r h
  obtain ⟨a, dx, fs, rfl, ha, q⟩ := h
  obtain ⟨u, rfl, ru⟩ := vals1 r
  obtain rfl : u = Value.ref a := ru
  obtain ⟨f, hm, FN⟩ := M.ex
  obtain ⟨mA, J, _⟩ := ins_get I.hok ha
  obtain ⟨od, J, _⟩ := J.look
  refine Calls.call_function_entry kind_len plain_len entry_len (args_len1 _) ?_
  unfold Builtin.«len»
  refine wpAny_bind (m := oneArg "len" _) (wpAny_pure ?_)
  refine wpAny_bind (m := callSpecial? (.ref a) (Str.ofString "__len__")) (PySem.W.special_fn I.kIn J hm.at_ (beq_iff_eq.mp hm.fn) (wpAny_mono (own_run (n := k) (vs := [V.ref a]) (us := [Value.ref a]) (hr.in1.mono (show k ≤ k + 2 by omega)) rfl FN I (.cons rfl .nil) q) (fun u s1 hu => ?_) fun _ _ z => z))
  obtain ⟨v, H1, I1, rv, n, rfl, n0, n1, q1⟩ := hu
  obtain ⟨t, rfl⟩ := rv
  refine wpAny_bind (wpAny_holding (wpAny_pure ?_))
  refine wpAny_bind (wpAny_letGo ?_)
  show wpAny _ _ (if n < 0 then _ else _) _ _ _
  rw [if_neg (by omega)]
  show wpAny _ _ (if n ≥ 2 ^ 63 then _ else _) _ _ _
  rw [if_neg (by omega)]
  refine wpAny_bind (wpAny_mkInt (wpAny_pure ⟨_, rfl, ?_⟩))
  exact ⟨.int n, H1, I1.tok _, ⟨_, rfl⟩, q1⟩
/-! ### for x in o by an own __iter__ that gives a list's new iterator -/
/-- a def that is told the state's size at its call -/
structure FnN (P : Program) (w : World) (K : PySem.W.Frag) (mg : Str → Option Value) (base : Heap) (f : Addr) (ps : List Str) (k : Nat) (sp : Nat → Sp) : Prop where
  ex : ∃ fd, PySem.W.keepIn K (.ref f) = true ∧ Binds K fd ps [] ∧ (∀ n vs H Q E, sp n vs H Q E → vs.length = ps.length) ∧
    ∀ (A : Around) (outer : List Env) (s : Shared) (H : Hp) (args : Args) (us : List Value) (vs : List V) (Q : VK) (E : XK), Room k A → Env0 P w K mg base A outer s H → BindsTo s fd args (ps.zip us) → Vals vs us → sp s.heap.objs.size vs H Q E →
      codeAny (model P w) A (.call (.ref f) args) (CR CX0 outer P w H s Q E) s
theorem fn_mkN {P : Program} {w : World} {K : PySem.W.Frag} {mg : Str → Option Value} {base : Heap} {x qual : Str} {st : Stmt} {f : Addr} {N ps : List Str} {k : Nat} {sp : Nat → Sp} (S : Src K x qual st f) (sc : FnScope N ps (defScope st)) (b : Bd x qual st ps) (len : ∀ n vs H Q E, sp n vs H Q E → vs.length = ps.length)
    (hbody : ∀ (cdv : Value) (A : Around) (outer : List Env) (s : Shared) (H : Hp) (vs : List V) (Q : VK) (E : XK), Room k (A.deeper (envOfC qual (defScope st) s.heap.objs.size f cdv)) → sp s.heap.objs.size vs H Q E →
      ∃ t, PSs (cxOf CX0 P w K mg base N qual (defScope st) f cdv A outer s H E) (defBody st) t ∧ t { nx := fun _ H' => Q .non H', rt := Q } (start N vs) H) : FnN P w K mg base f ps (k + 1) sp := by
  obtain ⟨fd, D⟩ := S
  refine ⟨fd, D.kp, D.bindsN b, len, ?_⟩
  obtain ⟨oc, od, dV, kV, doc, pm, an, cdv, ct, osl, rfl, lk, hcd, _, _⟩ := D.ex
  intro A outer s H args us vs Q E hr e0 hbt rv hsp
  have hlen := len _ _ _ _ _ hsp
  have kin : K.In s.heap := e0.mod.kin.keeps fun b o e => (e0.bs b o e).1
  have nolim : s.heap.NoLimit := e0.mod.nolimit.keeps fun b o e => (e0.bs b o e).1
  have hloc : ∀ z ∈ ps.zip us, (defScope st).names.lookup z.1 = some .local ∨ ((defScope st).names.lookup z.1 = some .cell ∧ ((cellsFrom (s.heap.objs.size + 1) (defScope st).names []).lookup z.1).isSome = true) := fun ⟨n, v⟩ hz => by
    rcases sc.par n (List.of_mem_zip hz).1 with q | q
    · exact .inl q
    · exact .inr ⟨q, PySem.W.cellsFrom_some _ _ _ (.inl q)⟩
  refine codeAny_call_function hr.depth (kin _ _ lk) rfl sc.co sc.gen rfl (PySem.W.codeRec_of kin hcd) (hbt _ _ _ _ ?_)
  refine wpAny_newFunctionEnv_cells sc.kind hloc fun env henv s1 inc => ?_
  subst henv
  refine ⟨nolim.keeps inc.toInCall.keep, codeAny_func ?_⟩
  obtain ⟨t, ht, hq⟩ := hbody cdv A outer s H vs Q E (hr.deeper _) hsp
  have J : Inv (cxOf CX0 P w K mg base N qual (defScope st) f cdv A outer s H E) [] (start N vs) H s1 := inv_start sc hr.hd e0 hlen rv inc
  refine wpAny_mono (ht.run [] s1 (start N vs) H _ J hq) (fun fl s' hs => ?_) fun e s' hs => hs
  cases fl with
  | ret u =>
    obtain ⟨v, σ', H', J', ru, qq⟩ := hs
    exact ⟨v, H', J'.os, J'.bare, J'.base, J'.hok, ru, qq⟩
  | next =>
    obtain ⟨σ', H', J', qq⟩ := hs
    exact ⟨V.non, H', J'.os, J'.bare, J'.base, J'.hok, rfl, qq⟩
  | brk => exact hs.elim fun _ z => z.elim fun _ z => False.elim z.2
  | cont => exact hs.elim fun _ z => z.elim fun _ z => False.elim z.2
/-- what __iter__ promises -/
def spIter (K : PySem.W.Frag) : Nat → Sp := fun n vs H Q _ => ∃ (a C dx : Addr) (fs : List (Str × V)) (l : Addr) (zs : List V), vs = [.ref a] ∧ H a = some (.ins C dx fs) ∧ Cls K C ∧ NoAttr K C "own_rows" ∧ fs.lookup ("own_rows" : Str) = some (.ref l) ∧ SqL K H l zs ∧
  ∀ it, H it = none → n ≤ it → Q (.ref it) (upd H it (ItO l it 0))
structure ItV (K : PySem.W.Frag) (C fi : Addr) : Prop where
  it : PySem.W.findIn K (.ref C) "__iter__" = some (some (.ref fi))
  itF : PySem.W.isFn K (.ref fi) = true
def iView (K : PySem.W.Frag) (C : Addr) (te : TE) : TI := fun σ H R => te σ H fun x H1 => ∃ (a dx : Addr) (fs : List (Str × V)) (l : Addr) (zs : List V), x = .ref a ∧ H1 a = some (.ins C dx fs) ∧ Cls K C ∧ NoAttr K C "own_rows" ∧ fs.lookup ("own_rows" : Str) = some (.ref l) ∧ SqL K H1 l zs ∧ R (ItlF K l 0) H1
theorem pi_view {X : Cx} {C fi : Addr} {k : Nat} {te : TE} {tg e : Expr} (IV : ItV X.K C fi) (FN : FnN X.prog X.w X.K X.mg X.base fi ["self"] k (spIter X.K)) (hr : Room (k + 1) X.A) (he : PE X e te) : PI X tg e (iView X.K C te) := by
  refine ⟨fun pins s σ H R I h => ?_⟩
  refine thn (he.run pins s σ H _ I h) fun u s1 ⟨z, H1, I1, rz, a, dx, fs, l, zs, e1, e2, e3, e4, e5, e6, e7⟩ => ?_
  subst e1
  obtain rfl : u = Value.ref a := rz
  obtain ⟨mA, J, _⟩ := ins_get I1.hok e2
  obtain ⟨od, J, _⟩ := J.look
  obtain ⟨m0, hF⟩ := I1.fr
  refine PySem.W.owit_iter hF I1.ok.mod.kin J IV.it IV.itF ?_
  obtain ⟨fd, hk, hb, hlen, run⟩ := FN.ex
  have hsp : spIter X.K s1.heap.objs.size [.ref a] H1 (fun v H' => ∃ it, v = .ref it ∧ H1 it = none ∧ s1.heap.objs.size ≤ it ∧ H' = upd H1 it (ItO l it 0)) E0 :=
    ⟨a, C, dx, fs, l, zs, rfl, e2, e3, e4, e5, e6, fun it h1 h2 => ⟨it, rfl, h1, h2, rfl⟩⟩
  have rv : Vals [V.ref a] [Value.ref a] := .cons rfl .nil
  have hbt := hb s1 [.ref a] I1.kIn (by simp)
  rw [List.append_nil] at hbt
  refine wpAny_call (codeAny_mono (run _ X.stack s1 H1 ⟨[.ref a], []⟩ [.ref a] [.ref a] _ E0 (hr.mono (by omega)) I1.env0 hbt rv hsp) fun r s' hq => ?_)
  cases r with
  | error e => exact False.elim hq
  | ok fl =>
    cases fl with
    | next => exact hq.elim
    | brk => exact hq.elim
    | cont => exact hq.elim
    | ret u =>
      obtain ⟨v, H2, I2, rv2, it, ev, hn, hsz, eH⟩ := I1.after hq
      subst ev
      subst eH
      obtain rfl : u = Value.ref it := rv2
      have eo := itO_get I2 upd_same
      have hT : s'.TypeIs (.ref it) "list_iterator" := ⟨_, eo, rfl⟩
      unfold PySem.W.OwitIt
      refine wpAny_specialOf (name := Str.ofString "__next__") hT slot_listiter_next.lookup ?_
      have st : s'.heap.IsListIter it l (0 + 0) := ⟨_, eo, rfl, rfl⟩
      have hi : (upd H1 it (ItO l it 0)) it = some (ItO l it 0) := upd_same
      have I3 := inv_drop I2 (show (upd H1 it (ItO l it 0)) it = some (.ext fun h => h.get? it = some (GNX.itObj l 0)) from upd_same)
      refine ⟨it, [it], _, _, dropH (upd H1 it (ItO l it 0)) it, rfl, I3, turn_listF l it 0, st, fun b hb => ?_, ?_⟩
      · obtain rfl : b = it := by simpa using hb
        exact inv_fp I2 hi (Nat.le_trans I1.sz hsz)
      · rw [dropH_upd hn]
        exact e7
end K7

set_option Elab.async false
set_option linter.all false
set_option maxRecDepth 100000
set_option maxHeartbeats 4000000
namespace K7
open PySem PySem.Spec PyProof.Rows L2
/-! ### list(d.values()) -/
def tListVals (td : TE) : TE := fun σ H Q => td σ H fun x H1 => ∃ (d : Addr) (kvs : List (Key × V)), x = .ref d ∧ Rd H1 d (.dK kvs) ∧ ∀ p, H1 p = none → Q (.ref p) (upd H1 p (.lst (kvs.map (·.2))))
theorem vals_each : ∀ {xs : List V} {us : List Value}, xs.length = us.length → (∀ (j : Nat) (x : V) (u : Value), xs[j]? = some x → us[j]? = some u → RelV x u) → Vals xs us
  | [], [], _, _ => .nil
  | [], _ :: _, h, _ => by simp at h
  | _ :: _, [], h, _ => by simp at h
  | x :: xs, u :: us, h, f => by
    refine .cons (f 0 x u rfl rfl) (vals_each (by simpa using h) fun j y w g1 g2 => f (j + 1) y w ?_ ?_)
    · simpa using g1
    · simpa using g2
section
variable {X : Cx} {e : Expr} {td : TE} {p apos cpos pos : Pos}
theorem pe_listVals (cm : X.calm = true) (he : PE X e td) (gl : Gl X "list") (gm : X.mg "list" = none) (gv : bootBuiltins "list" = some (.type "list")) (gb : attributeBase e "values" X.env (eval e X.env) = eval e X.env := by rfl) (gn : (apos.endLine == cpos.line) = true := by rfl)
    (gs : starEach [.Call (.Attribute e "values" apos) [] [] cpos] X.env = (false, eval (.Call (.Attribute e "values" apos) [] [] cpos) X.env) :: starEach [] X.env := by rfl) :
    PE X (.Call (.Name "list" p) [.Call (.Attribute e "values" apos) [] [] cpos] [] pos) (tListVals td) := by
  refine ⟨fun pins s σ H Q I hq => ?_⟩
  refine wpAny_Call_Name_kw (ld_blt I gl gm gv ?_)
  refine PyProof.Rows.callWith_type1 ?_ gs rfl
  rw [gs]
  show wpAny _ _ (spliced ((false, eval (.Call (.Attribute e "values" apos) [] [] cpos) X.env) :: backTo pos (starEach [] X.env))) _ _ s
  refine Calls.spliced_cons ?_
  refine wpAny_Call_method (T := "dict") (id := "dict.values") gb rfl gn F.plainAttrs_dict F.slot_dict_values F.type_dict_values (thn (he.run pins s σ H _ I hq) fun u s1 ⟨z, H1, J, rz, d, kvs, e1, e2, q⟩ => ?_)
  subst e1
  obtain rfl : u = Value.ref d := rz
  obtain ⟨hz, lo, vs, kv, dd⟩ := dk_rd J.hok e2
  obtain ⟨ep, hat⟩ := dd.dictAt
  have lk := Paired.length kv
  have J2 : Inv X pins σ H1 { s1 with heap := s1.heap.push { cls := .type "dict_values", data := .fields #[.ref d] } } := J.kept (t' := s1.toks) fun b ob y => Heap.get?_push_of_some _ y
  refine ⟨dd.typeIs, dd.mapOf.noDict, ?_⟩
  show wpAny _ _ (callWith cpos (.builtin "dict.values") [.ref d] [] []) _ X.xe s1
  refine method_meetsIn F.slot_dict_values F.entry_dict_values rfl (PySem.evalArgs_none ⟨rfl, dd.typeIs, F.args_dict_values_1 _, _, meets_dict_values (mixKind X.prog X.w) d lo, ⟨vs, dd⟩, ?_⟩)
  refine Calls.spliced_nil ?_
  refine PySem.W.kdl_call (PySem.W.kdl_values (knd := mixKind X.prog X.w) (kvs := vs) (ep := ep) (r := s1.heap.objs.size) (d := d)) (J.ok.hd cm) ⟨⟨_, Heap.get?_push_size _ rfl, rfl, rfl⟩, hat.push _⟩ (by omega) fun h' tk acc c hk hS hacc => ?_
  refine ⟨.ref _, upd H1 _ (.lst (kvs.map (·.2))), J2.laid (t' := tk) hk (Nat.le_refl _) (show ObjOk X.prog X.w _ _ _ (.lst (kvs.map (·.2))) from ⟨by rw [List.length_map]; exact hz, acc.toList, c, ?_, by rw [Array.toArray_toList]; exact hS⟩), rfl, q _ (J2.hok.fresh (Nat.le_refl _))⟩
  have el : acc.toList.length = vs.length := by simpa using hacc.1
  refine vals_each (by rw [List.length_map, el, lk]) fun j x w g1 g2 => ?_
  obtain ⟨k, hv⟩ := hacc.2 j w (by rw [← Array.getElem?_toList]; exact g2)
  rw [List.getElem?_map] at g1
  obtain ⟨pr, hp, rfl⟩ := Option.map_eq_some_iff.mp g1
  obtain ⟨qv, r1, r2, r3⟩ := LiI.paired_get kv hp
  rw [hv] at r1
  cases r1
  exact r3
end
/-! ### sorted(d.items()), the keys ints that ascend -/
def ik (h : Heap) (v : Value) : Int := match DT.seqAt0 h (DT.refOf (some v)) with
  | some (.int n _) => n
  | _ => 0
/-- a tuple whose first is the int x -/
def Fst (h : Heap) (v : Value) (x : Int) (r : Value) : Prop := ∃ (a : Addr) (o : Obj) (t : Tok) (n : Nat), v = .ref a ∧ h.get? a = some o ∧ o.cls = .type "tuple" ∧ o.data = .seq #[.int x t, r] n
theorem Fst.key {h : Heap} {v r : Value} {x : Int} (f : Fst h v x r) : ik h v = x := by
  obtain ⟨a, o, t, n, rfl, ho, hc, hd⟩ := f
  unfold ik
  rw [show DT.seqAt0 h (DT.refOf (some (Value.ref a))) = some (.int x t) from (DT.seqAt0_of (items := #[.int x t, r]) ⟨o, ho, hc, n, hd⟩).trans rfl]
theorem Fst.keep {h h' : Heap} {v r : Value} {x : Int} {a : Addr} (f : Fst h v x r) (hl : ∀ o, h.get? a = some o → o.cls ≠ .type "tuple") (k : ∀ b o, b ≠ a → h.get? b = some o → h'.get? b = some o) : Fst h' v x r := by
  obtain ⟨b, o, t, n, e, ho, hc, hd⟩ := f
  exact ⟨b, o, t, n, e, k b o (fun z => by subst z; exact hl o ho hc) ho, hc, hd⟩
section
variable {prog : Program} {w : World} {A : Around} {s : Shared}
abbrev ltK (k : Value → Int) : Value → Value → Bool := fun v u => SrtO.lexB (k v, 0) (k u, 0)
theorem fst_firsts {h : Heap} {k : Value → Int} : ∀ vs : List Value, (∀ v ∈ vs, ∃ r, Fst h v (k v) r) → ∃ fs : List Value, PySem.W.KatTups h vs fs ∧ fs.length = vs.length ∧ ∀ f ∈ fs, ∃ x t, f = Value.int x t
  | [], _ => ⟨[], PySem.W.KatTups.nil, rfl, fun f hf => (nomatch hf)⟩
  | v :: vs, x => by
    obtain ⟨fs, g1, g2, g3⟩ := fst_firsts vs fun u hu => x u (List.mem_cons_of_mem _ hu)
    obtain ⟨r, a, o, t, n, rfl, ho, hc, hd⟩ := x v (List.mem_cons_self ..)
    refine ⟨.int (k (.ref a)) t :: fs, PySem.W.KatTups.cons ho hc hd rfl g1, by simp [g2], fun f hf => ?_⟩
    rcases List.mem_cons.mp hf with rfl | hf
    · exact ⟨_, t, rfl⟩
    · exact g3 f hf
theorem fst_sortable {a : Addr} {vs : List Value} {k : Value → Int} (h0 : 0 < vs.length) (hp : ∀ v ∈ vs, ∃ r, Fst s.heap v (k v) r) (inj : ∀ v ∈ vs, ∀ u ∈ vs, k v = k u → v = u) (ha : ∀ o, s.heap.get? a = some o → o.cls ≠ .type "tuple") :
    SrtO.SortableO prog w A s a vs (ltK k) := by
  intro h' keep
  have hp' : ∀ v ∈ vs, ∃ r, Fst h' v (k v) r := fun v hv => let ⟨r, f⟩ := hp v hv; ⟨r, f.keep ha keep⟩
  obtain ⟨fs, f1, f2, f3⟩ := fst_firsts vs hp'
  refine ⟨tuples' true, fun Q E hq => ?_, ?_⟩
  · refine PySem.W.kat_kind (T := .type "int") f1 (by omega) (fun f hf => ?_) rfl ?_
    · obtain ⟨x, t, rfl⟩ := f3 f hf
      exact PySem.W.Looks.now
    · have e : (Value.type "int" != Value.type "tuple") = true := by first | decide +kernel | rfl
      rw [e]
      exact hq
  · intro x y hx hy
    obtain ⟨r1, p1⟩ := hp' _ hx
    obtain ⟨r2, p2⟩ := hp' _ hy
    have same := inj _ hx _ hy
    show wpAny (model prog w) A (keyLt' (tuples' true) x.1 y.1) (fun r s' => s' = _ ∧ r = SrtO.lexB (k x.1, 0) (k y.1, 0)) (fun _ _ => False) _
    have e0 : SrtO.lexB (k x.1, 0) (k y.1, 0) = decide (k x.1 < k y.1) := by
      unfold SrtO.lexB
      by_cases c : k x.1 = k y.1
      · rw [if_pos c]; simp [c]
      · rw [if_neg c]
    rw [e0]
    generalize k x.1 = m at p1 same ⊢
    generalize k y.1 = m' at p2 same ⊢
    obtain ⟨b, o, t, n, e, ho, hc, hd⟩ := p1
    obtain ⟨b', o', t', n', e', ho', hc', hd'⟩ := p2
    by_cases c : m = m'
    · have z := same c
      rw [e, e'] at z
      cases z
      rw [ho] at ho'
      cases ho'
      rw [hd] at hd'
      cases hd'
      rw [e, e']
      refine PySem.W.kat_lt ho hd ho hd ?_
      show PySem.W.KatLex prog w A true (decide (2 < 2)) _ [(Value.int m t, Value.int m t), (r1, r1)] 0 _
      refine PySem.W.kat_cons (SeqAt.EqAt.same _ prog w _ _ ?_)
      refine PySem.W.kat_yes (PySem.W.kat_cons (SeqAt.EqAt.same _ prog w _ _ ?_))
      exact PySem.W.kat_yes (PySem.W.kat_nil ⟨rfl, by simp⟩)
    · rw [e, e']
      refine PySem.W.kat_lt ho hd ho' hd' ?_
      show PySem.W.KatLex prog w A true (decide (2 < 2)) _ [(Value.int m t, Value.int m' t'), (r1, r2)] 0 _
      refine PySem.W.kat_cons (SeqAt.EqAt.int_int m t m' t' prog w _ _ ?_)
      refine PySem.W.kat_go (fun e1 => absurd (by simpa using e1) c) (fun _ => ?_)
      exact PySem.W.kat_no (oneLt_int ⟨rfl, rfl⟩)
end
def tSortItems (td : TE) : TE := fun σ H Q => td σ H fun x H1 => ∃ (d : Addr) (kvs : List (Key × V)) (is : List Int), x = .ref d ∧ Rd H1 d (.dK kvs) ∧ kvs.map (·.1) = is.map Sum.inl ∧ is.Pairwise (· < ·) ∧
  ∀ (H' : Hp) (p : Addr) (ts : List Addr), (∀ b o, H1 b = some o → H' b = some o) → H1 p = none → (∀ t ∈ ts, H1 t = none) → p ∉ ts → H' p = some (.lst (ts.map V.ref)) → Paired (fun (t : Addr) (q : Key × V) => H' t = some (.tup [kV q.1, q.2])) ts kvs → Q (.ref p) H'
theorem srt_incr (k : Value → Int) : ∀ {vs : List Value} {is : List Int}, vs.map k = is → is.Pairwise (· < ·) → SrtO.Srtd (ltK k) vs
  | [], _, _, _ => List.Pairwise.nil
  | v :: vs, is, e, h => by
    subst e
    obtain ⟨h1, h2⟩ := List.pairwise_cons.mp h
    refine List.pairwise_cons.mpr ⟨fun u hu => ?_, srt_incr k rfl h2⟩
    have h3 := h1 (k u) (List.mem_map.mpr ⟨u, hu, rfl⟩)
    show SrtO.lexB (k u, 0) (k v, 0) = false
    refine SrtO.lexB_no.mpr ?_
    show ¬ (k u < k v ∨ (k u = k v ∧ (0 : Int) < 0))
    omega
/-- what was laid by the walk over the items is tracked, and the list at L behind it -/
theorem items_kept {X : Cx} {pins : List (Addr × Obj)} {σ : L2.St} {H : Hp} {s : Shared} {h' : Heap} {tk : Nat} {kvs : List (Key × V)} {vs : List (Key × Value)} {L : Addr} {n : Nat} {as : List Addr} (I : Inv X pins σ H s) (hz : kvs.length ≤ sizeLine) (kv : KV kvs vs)
    (hk : ∀ b o, s.heap.get? b = some o → h'.get? b = some o) (hL : s.heap.objs.size ≤ L) (hLn : L ∉ as) (hab : ∀ a ∈ as, s.heap.objs.size ≤ a) (nd : as.Nodup) (hl : as.length = kvs.length)
    (hg : ∀ (j : Nat) (a : Addr), as[j]? = some a → ∃ key k x, vs[j]? = some (k, x) ∧ keyIs k key = true ∧ h'.get? a = some { cls := .type "tuple", data := .seq #[key, x] }) (hS : h'.get? L = some (seqObj "list" (as.map Value.ref).toArray n)) :
    ∃ H' : Hp, (∀ b o, H b = some o → H' b = some o) ∧ H L = none ∧ (∀ t ∈ as, H t = none) ∧ H' L = some (.lst (as.map V.ref)) ∧ Paired (fun (t : Addr) (q : Key × V) => H' t = some (.tup [kV q.1, q.2])) as kvs ∧ Inv X pins σ H' { s with heap := h', toks := tk } := by
  have new : ∀ t ∈ as, H t = none := fun t ht => I.hok.fresh (hab t ht)
  have newL : H L = none := I.hok.fresh hL
  have low : ∀ b o, s.heap.get? b = some o → b ∉ as ∧ b ≠ L := fun b o e => ⟨fun z => absurd (Heap.lt_size e) (Nat.not_lt.mpr (hab b z)), Nat.ne_of_lt (Nat.lt_of_lt_of_le (Heap.lt_size e) hL)⟩
  have pt := LiI.putT_at as kvs (upd H L (.lst (as.map V.ref))) hl nd
  have off : ∀ b, b ∉ as → b ≠ L → LiI.putT (upd H L (.lst (as.map V.ref))) as kvs b = H b := fun b g1 g2 => (LiI.putT_off as kvs _ g1).trans (upd_ne g2)
  have atL : LiI.putT (upd H L (.lst (as.map V.ref))) as kvs L = some (.lst (as.map V.ref)) := (LiI.putT_off as kvs _ hLn).trans upd_same
  have kp : ∀ b u, H b = some u → (LiI.putT (upd H L (.lst (as.map V.ref))) as kvs) b = some u := fun b u e => by
    have g1 : b ∉ as := fun z => by rw [new b z] at e; cases e
    have g2 : b ≠ L := fun z => by rw [z, newL] at e; cases e
    exact (off b g1 g2).trans e
  refine ⟨_, kp, newL, new, atL, pt, ?_⟩
  refine I.call' (ch := []) rfl { keep := fun b o q _ _ _ => hk b o q, slot := fun b o q _ _ _ => ⟨o.slots, hk b o q⟩, free := fun b o q n _ => ?_, there := fun b o q _ => ⟨o, hk b o q⟩, tups := fun b xs q => kp b _ q, frzs := fun b o u q => kp b _ q, tbls := fun b ps q => ⟨#[], by rw [kp b _ q]; simp⟩ } (fun b u q => ?_) I.bare fun b z => by simp at z
  · obtain ⟨z1, z2⟩ := low b o q
    exact (off b z1 z2).trans n
  · by_cases hb : b ∈ as
    · obtain ⟨j, pk, j1, j2, j3⟩ := LiI.paired_ix pt hb
      rw [j3] at q
      cases q
      obtain ⟨key, k, x, f1, f2, f3⟩ := hg j b j1
      obtain ⟨qv, g1, g2, g3⟩ := LiI.paired_get kv j2
      rw [f1] at g1
      cases g1
      have rk : RelV (kV pk.1) key := by
        rw [g2]
        exact relV_key f2
      exact ⟨by show 2 ≤ sizeLine; decide, [key, x], .cons rk (.cons g3 .nil), ⟨_, f3, rfl, _, rfl⟩⟩
    · by_cases hb2 : b = L
      · subst hb2
        rw [atL] at q
        cases q
        exact ⟨by rw [List.length_map, hl]; exact hz, as.map Value.ref, n, LiI.vals_refs as, hS⟩
      · rw [off b hb hb2] at q
        exact (I.hok b u q).stay (fun d v _ y => hk d v y) (fun d y => kp d _ y) fun d xs y => kp d _ y
section
variable {X : Cx} {e : Expr} {td : TE} {p apos cpos pos : Pos}
theorem pe_sortItems (cm : X.calm = true) (he : PE X e td) (gl : Gl X "sorted") (gm : X.mg "sorted" = none) (gv : bootBuiltins "sorted" = some (.builtin "sorted")) (gb : attributeBase e "items" X.env (eval e X.env) = eval e X.env := by rfl) (gn : (apos.endLine == cpos.line) = true := by rfl)
    (gs : starEach [.Call (.Attribute e "items" apos) [] [] cpos] X.env = (false, eval (.Call (.Attribute e "items" apos) [] [] cpos) X.env) :: starEach [] X.env := by rfl) :
    PE X (.Call (.Name "sorted" p) [.Call (.Attribute e "items" apos) [] [] cpos] [] pos) (tSortItems td) := by
  refine ⟨fun pins s σ H Q I hq => ?_⟩
  refine wpAny_Call_Name_kw (ld_blt I gl gm gv ?_)
  refine PyProof.Rows.callWith_builtin1 ?_ gs rfl
  rw [gs]
  show wpAny _ _ (spliced ((false, eval (.Call (.Attribute e "items" apos) [] [] cpos) X.env) :: backTo pos (starEach [] X.env))) _ _ s
  refine Calls.spliced_cons ?_
  refine wpAny_Call_method (T := "dict") (id := "dict.items") gb rfl gn F.plainAttrs_dict F.slot_dict_items F.type_dict_items (thn (he.run pins s σ H _ I hq) fun u s1 ⟨z, H1, J, rz, d, kvs, is, e1, e2, e3, e4, q⟩ => ?_)
  subst e1
  obtain rfl : u = Value.ref d := rz
  obtain ⟨hz, lo, vs, kv, dd⟩ := dk_rd J.hok e2
  obtain ⟨ep, hat⟩ := dd.dictAt
  have lk := Paired.length kv
  have J2 : Inv X pins σ H1 { s1 with heap := s1.heap.push { cls := .type "dict_items", data := .fields #[.ref d] } } := J.kept (t' := s1.toks) fun b ob y => Heap.get?_push_of_some _ y
  refine ⟨dd.typeIs, dd.mapOf.noDict, ?_⟩
  show wpAny _ _ (callWith cpos (.builtin "dict.items") [.ref d] [] []) (_ : Value → Shared → Prop) X.xe s1
  refine method_meetsIn F.slot_dict_items F.entry_dict_items rfl (PySem.evalArgs_none ⟨rfl, dd.typeIs, F.args_dict_items_1 _, _, meets_dict_items (mixKind X.prog X.w) d lo, ⟨vs, dd⟩, ?_⟩)
  refine Calls.spliced_nil ?_
  refine Calls.call_function_entry kind_sorted plain_sorted entry_sorted (args_sorted1 _) ?_
  unfold Builtin.«sorted»
  refine wpAny_bind (m := checkCount "sorted" 1 1 _) (wpAny_pure ?_)
  refine wpAny_bind (PySem.W.kdx_collect (knd := mixKind X.prog X.w) (kvs := vs) (ep := ep) (J.ok.hd cm) ⟨_, Heap.get?_push_size _ rfl, rfl, rfl⟩ (hat.push _) (by omega) fun h1 tk as hk hl hG => ?_)
  refine wpAny_bind (wpAny_newList ?_ (by rw [List.length_map]; omega))
  have keepA : ∀ b o, h1.get? b = some o → b ≠ h1.objs.size := fun b o y => Nat.ne_of_lt (Heap.lt_size y)
  have hob : (h1.push { cls := .type "list", data := .seq (as.map Value.ref).toArray }).get? h1.objs.size = some (seqObj "list" (as.map Value.ref).toArray 0) := Heap.get?_push_size _ rfl
  have hpush : ∀ b o, h1.get? b = some o → (h1.push { cls := .type "list", data := .seq (as.map Value.ref).toArray }).get? b = some o := fun b o y => Heap.get?_push_of_some _ y
  have hne : ∀ o, (h1.push { cls := .type "list", data := .seq (as.map Value.ref).toArray }).get? h1.objs.size = some o → o.cls ≠ .type "tuple" := fun o y c => by
    rw [hob] at y
    cases y
    exact absurd (Value.type.inj c) (by decide)
  generalize h1.push { cls := .type "list", data := .seq (as.map Value.ref).toArray } = h2 at hob hpush hne ⊢
  have hkl : kvs.length = is.length := by
    have := congrArg List.length e3
    rwa [List.length_map, List.length_map] at this
  have at_ : ∀ (j : Nat) (a : Addr), as[j]? = some a → ∃ m t x, is[j]? = some m ∧ h1.get? a = some { cls := .type "tuple", data := .seq #[.int m t, x] } := by
    intro j a hj
    obtain ⟨key, k, x, f1, f2, f3⟩ := hG.pairs j a hj
    have c1 : (kvs.map (·.1))[j]? = some k := by rw [KV.keys kv, List.getElem?_map, f1]; rfl
    rw [e3, List.getElem?_map] at c1
    obtain ⟨m, c2, rfl⟩ := Option.map_eq_some_iff.mp c1
    obtain ⟨t, rfl⟩ := relV_key (show keyIs (Sum.inl m) key = true from f2)
    exact ⟨m, t, x, c2, f3⟩
  have fst_ : ∀ (j : Nat) (a : Addr), as[j]? = some a → ∃ m x, is[j]? = some m ∧ Fst h2 (.ref a) m x := by
    intro j a hj
    obtain ⟨m, t, x, c1, c2⟩ := at_ j a hj
    exact ⟨m, x, c1, a, _, t, _, rfl, hpush _ _ c2, rfl, rfl⟩
  have keys_ : (as.map Value.ref).map (ik h2) = is := by
    apply List.ext_getElem?
    intro j
    rw [List.getElem?_map, List.getElem?_map]
    cases hj : as[j]? with
    | none =>
      have h3 := List.getElem?_eq_none_iff.mp hj
      rw [List.getElem?_eq_none (by omega)]
      rfl
    | some a =>
      obtain ⟨m, x, c1, c2⟩ := fst_ j a hj
      rw [c1]
      exact congrArg some c2.key
  have mem_ : ∀ v ∈ as.map Value.ref, ∃ (j : Nat) (a : Addr), v = .ref a ∧ as[j]? = some a := by
    intro v hv
    obtain ⟨a, ha, rfl⟩ := List.mem_map.mp hv
    obtain ⟨j, hj⟩ := List.mem_iff_getElem?.mp ha
    exact ⟨j, a, rfl, hj⟩
  have inj_ : ∀ v ∈ as.map Value.ref, ∀ u ∈ as.map Value.ref, ik h2 v = ik h2 u → v = u := by
    intro v hv u hu c
    obtain ⟨j, a, rfl, hj⟩ := mem_ v hv
    obtain ⟨i, b, rfl, hi⟩ := mem_ u hu
    obtain ⟨m, _, c1, c2⟩ := fst_ j a hj
    obtain ⟨m', _, d1, d2⟩ := fst_ i b hi
    rw [c2.key, d2.key] at c
    subst c
    obtain ⟨lj, ej⟩ := List.getElem?_eq_some_iff.mp c1
    obtain ⟨li, ei⟩ := List.getElem?_eq_some_iff.mp d1
    have sm := List.pairwise_iff_getElem.mp e4
    have : j = i := by
      rcases Nat.lt_trichotomy j i with z | z | z
      · have := sm j i lj li z
        omega
      · exact z
      · have := sm i j li lj z
        omega
    subst this
    rw [hj] at hi
    cases hi
    rfl
  have O := SrtO.swo_lex fun v => (ik h2 v, (0 : Int))
  refine wpAny_bind (wpAny_holding (wpAny_call_entry PyProof.Rows.slot_list_sort ⟨_, hob, rfl⟩ PyProof.Rows.entry_list_sort (SrtO.list_sort_ord O hob (by rw [List.length_map]; omega) (fun g => fst_sortable (by omega) (fun v hv => ?_) inj_ hne) fun out o1 o2 => ⟨_, rfl, ?_⟩) (PyProof.Rows.args_list_sort _)))
  · obtain ⟨j, a, rfl, hj⟩ := mem_ v hv
    obtain ⟨m, x, c1, c2⟩ := fst_ j a hj
    exact ⟨x, by rw [c2.key]; exact c2⟩
  · have eo : out = as.map Value.ref := SrtO.stb_uniq O o1 (srt_incr (ik h2) keys_ e4) o2
    subst eo
    refine wpAny_pure ⟨_, rfl, ?_⟩
    obtain ⟨n, hsort⟩ := PyProof.Rows.sortedHeap_at (vs := as.map Value.ref) (out := (as.map Value.ref).toArray) hob
    have old : ∀ b o, h1.get? b = some o → (sortedHeap h2 h1.objs.size (as.map Value.ref) (as.map Value.ref).toArray).get? b = some o := fun b o y => (PyProof.Rows.sortedHeap_old (keepA b o y) (Heap.lt_size (hpush _ _ y))).trans (hpush _ _ y)
    have hLs : (s1.heap.push { cls := .type "dict_items", data := .fields #[.ref d] }).objs.size ≤ h1.objs.size := by
      have := Heap.lt_size (hk s1.heap.objs.size _ (Heap.get?_push_size _ rfl))
      rw [Heap.size_push]
      exact this
    have hLn : h1.objs.size ∉ as := fun z => absurd (hG.there z) (Nat.lt_irrefl _)
    obtain ⟨H', k1, k2, k3, k4, k5, J3⟩ := items_kept (tk := tk) (n := n) J2 hz kv (fun b o y => old b o (hk b o y)) hLs hLn (fun a ha => Nat.le_of_lt (hG.above a ha)) (List.Pairwise.imp (fun {a b} (c : a < b) => Nat.ne_of_lt c) hG.rise) (by omega)
      (fun j a hj => let ⟨key, k, x, f1, f2, f3⟩ := hG.pairs j a hj; ⟨key, k, x, f1, f2, old _ _ f3⟩) hsort
    exact ⟨.ref h1.objs.size, H', J3, rfl, q H' _ as k1 k2 k3 hLn k4 k5⟩
end
end K7

set_option Elab.async false
set_option linter.all false
set_option maxRecDepth 100000
set_option maxHeartbeats 4000000
namespace K7
open PySem PySem.Spec PyProof.Rows L2
open Sem (wp)
/-! ### for i, x in enumerate(t), t a tuple -/
theorem enumB {v : Value} {o : Obj} {G : Heap → Prop} (B : Begins v o G) :
    Meets (Builtin.«enumerate.__new__» ⟨[.type "enumerate", v], []⟩) (fun _ R s => G s.heap ∧
      R (.ok (.ret (.ref (s.heap.push o).objs.size))) { s with heap := (s.heap.push o).push { cls := .type "enumerate", data := .fields #[.none, .bool false, .ref s.heap.objs.size, rawInt 0, .none, .none] } }) :=
  .of_wp fun prog w A R s h => by
    obtain ⟨hp, g, d, tk, os⟩ := s
    obtain ⟨h1, h⟩ := h
    have subE := sub_enumerate
    have begin_ : ∀ {A' : Around} {E : Value → Shared → Prop} {Q : Value → Shared → Prop}, Q (.ref hp.objs.size) ⟨hp.push o, g, d, tk, os⟩ → wpAny (model prog w) A' (pyIter v) Q E ⟨hp, g, d, tk, os⟩ :=
      fun q => B.iter prog w _ _ ⟨hp, g, d, tk, os⟩ _ h1 q
    wp_walk using begin_
    refine wpAny_stack_any fun st => wpAny_pure ?_
    split
    · rename_i c _ _ _ _ _
      cases (c == Value.type "enumerate")
      · wp_walk using begin_
        exact ⟨_, rfl, h⟩
      · wp_walk using begin_
        exact ⟨_, rfl, h⟩
    · wp_walk using begin_
      exact ⟨_, rfl, h⟩
theorem call_enumB {prog : Program} {w : World} {A : Around} {E : Value → Shared → Prop} {s : Shared} {v : Value} {o : Obj} {G : Heap → Prop} {Q : Value → Shared → Prop} (B : Begins v o G) (h1 : G s.heap)
    (h : ∀ h', IsEnum h' (s.heap.objs.size + 1) s.heap.objs.size 0 .none → h'.get? s.heap.objs.size = some o → (∀ b u, s.heap.get? b = some u → h'.get? b = some u) → Q (.ref (s.heap.objs.size + 1)) { s with heap := h' }) :
    wpAny (model prog w) A (call (.type "enumerate") [v]) Q E s := by
  refine callType_new F.called_enumerate (by decide) (F.typeCall_enumerate_1 _) (F.newCall_enumerate_1 _) (fun ob => F.args_object_init_2 ob _) F.entry_enumerate_new (enumB B) ⟨h1, ?_⟩
  have sz : (s.heap.push o).objs.size = s.heap.objs.size + 1 := Heap.size_push ..
  show _ ∧ _
  rw [sz]
  have en : IsEnum ((s.heap.push o).push { cls := .type "enumerate", data := .fields #[.none, .bool false, .ref s.heap.objs.size, rawInt 0, .none, .none] }) (s.heap.objs.size + 1) s.heap.objs.size 0 .none := by
    have := Heap.get?_push_size (s.heap.push o) (o := { cls := .type "enumerate", data := .fields #[.none, .bool false, .ref s.heap.objs.size, rawInt 0, .none, .none] }) rfl
    rwa [sz] at this
  exact ⟨⟨_, en, rfl⟩, h _ en (Heap.get?_push_of_some _ (Heap.get?_push_size _ B.free)) fun b u x => Heap.get?_push_of_some _ (Heap.get?_push_of_some _ x)⟩
def IteT (K : PySem.W.Frag) (a : Addr) : It :=
  ⟨fun i H => ∃ (xs : List V) (x : V), SqT K H a xs ∧ xs[i]? = some x, fun i H v H' => ∃ T x, v = .ref T ∧ H T = none ∧ H' = upd H T (.tup [.int (i : Nat), x]) ∧ ∀ xs, SqT K H a xs → xs[i]? = some x, fun i H => ∃ xs : List V, SqT K H a xs ∧ xs.length ≤ i⟩
theorem turn_enumT {P : Program} {w : World} {K : PySem.W.Frag} {elts : List Expr} {kk : Nat} {tpos : Pos} (a e it : Addr) :
    Turn P w K (.Tuple elts kk tpos) (IteT K a) [e, it] e (fun i h => (∃ old, IsEnum h e it ((i : Nat) : Int) old) ∧ h.IsTupleIter it a i ∧ e ≠ it ∧ a ≠ it ∧ e ≠ a) where
  mem := by simp
  obj := fun i h st b hb => by
    obtain ⟨⟨old, en⟩, ⟨o, ho, hc, hd⟩, _⟩ := st
    rcases (show b = e ∨ b = it by simpa using hb) with rfl | rfl
    · exact ⟨_, en, fun v q => nomatch q⟩
    · exact ⟨o, ho, fun v q => by rw [hd] at q; cases q⟩
  keep := fun i h h' st k => let ⟨⟨old, en⟩, hi, ne⟩ := st; ⟨⟨old, k e (by simp) _ en⟩, hi.at fun o q => k it (by simp) o q, ne⟩
  item := by
    intro X hP hw hK hc i pins s σ H E I hf st hg
    subst hP hw hK
    obtain ⟨⟨old, en⟩, hit, n1, n2, n3⟩ := st
    obtain ⟨xs, x, hq, hx⟩ := hg
    obtain ⟨its, rv, tp, hz⟩ := I.tuple hq
    obtain ⟨u, hu, ru⟩ := rv.get hx
    have he1 : e < s.heap.objs.size := Heap.lt_size en
    have he2 : it < s.heap.objs.size := by obtain ⟨_, q, _⟩ := hit; exact Heap.lt_size q
    have D := Draws.tuple (prog := X.prog) (w := X.w) (A := X.A.in1) (I.ok.hd hc) it a n2 its.toArray
    have lt : i < its.toArray.size := by
      have := (List.getElem?_eq_some_iff.mp hu).1
      simpa using this
    refine wpAny_pyNext_enum_itemD D en ⟨hit, tp⟩ lt n1 (by simp [n1, n3]) fun y h' tk hy ho st' hT hsz hk => ?_
    have ey : y = u := by
      have hy' : its.toArray[i]? = some y := hy
      rw [List.getElem?_toArray, hu] at hy'
      exact (Option.some.inj hy').symm
    subst ey
    refine ⟨_, rfl, wpAny_letOwnedTupleGo_enum (s := { s with heap := h', toks := tk + 1 }) ho fun h2 en2 sb => ?_⟩
    have hT2 : h2.get? s.heap.objs.size = some { cls := .type "tuple", data := .seq #[.int i tk, y] } := (sb.2 _ (Nat.ne_of_gt he1)).trans hT
    have okT : ObjOk X.prog X.w (upd H s.heap.objs.size (.tup [.int (i : Nat), x])) h2 s.heap.objs.size (.tup [.int (i : Nat), x]) :=
      ⟨by show 2 ≤ sizeLine; decide, [.int i tk, y], .cons ⟨_, rfl⟩ (.cons ru .nil), ⟨_, hT2, rfl, _, rfl⟩⟩
    have J : Inv X pins σ (upd H s.heap.objs.size (.tup [.int (i : Nat), x])) { s with heap := h2, toks := tk + 1 } :=
      I.turnedNew (ch := [e, it]) (fun b ob hb q => (sb.2 b (fun z => hb (by simp [z]))).trans (hk b ob (fun z => hb (by simp [z])) (fun z => hb (by simp [z])) q)) hf (Nat.le_refl _) okT
    refine ⟨.ref s.heap.objs.size, _, J, rfl, ⟨_, x, rfl, I.hok.fresh (Nat.le_refl _), rfl, fun ys hy => by rw [I.tuple_inj hy hq]; exact hx⟩, ⟨⟨y, ?_⟩, st'.1.at fun o q => (sb.2 it (Ne.symm n1)).trans q, n1, n2, n3⟩, fun b hb => ?_⟩
    · rw [show ((i + 1 : Nat) : Int) = (i : Int) + 1 by omega]
      exact en2
    · have hb' : b < s.heap.objs.size := by
        rcases (show b = e ∨ b = it by simpa using hb) with rfl | rfl
        · exact he1
        · exact he2
      rw [upd_ne (Nat.ne_of_lt hb')]
      exact (hf b hb).1
  done := by
    intro X hP hw hK hc i pins s σ H E I hf st hg
    subst hP hw hK
    obtain ⟨⟨old, en⟩, hit, n1, n2, n3⟩ := st
    obtain ⟨xs, hq, hx⟩ := hg
    obtain ⟨its, rv, tp, hz⟩ := I.tuple hq
    obtain ⟨f0, f1, f2, f3, f4, f5⟩ := hf it (by simp)
    have hl := rv.length
    have D := Draws.tuple (prog := X.prog) (w := X.w) (A := X.A.in1) (I.ok.hd hc) it a n2 its.toArray
    have hno : its.toArray[i]? = none := by simp; omega
    unfold pyNext
    have hT : s.TypeIs (.ref e) "enumerate" := ⟨_, en, rfl⟩
    refine wpAny_bind (wpAny_attempt (wpAny_callSpecial?_slot (name := Str.ofString "__next__") hT F.slot_enumerate_next
      (wpAny_call_entry F.slot_enumerate_next hT F.entry_enumerate_next ?_ (F.args_enumerate_next_1 _))))
    show wpAny _ _ (field (.ref e) 2 >>= _) _ _ _
    refine wpAny_bind (wpAny_field en rfl (x := .ref it) rfl ?_)
    refine wpAny_bind (wpAny_nextOf_tuple_end (I.ok.hd hc) hit tp hno fun h' x eb hx' => ?_)
    obtain ⟨o, ho, hcl⟩ := hx'
    refine wpAny_bind (wpAny_isInstance (T := "StopIteration") (b := true) ⟨o, ho, hcl⟩ isSubtype_stop ?_)
    exact wpAny_pure ⟨rfl, I.turned (t' := s.toks) (fun b o hb q => eb b o hb q) f0 f1 f3 f4 f5⟩
  self := fun A i s Q E st h => let ⟨⟨_, en⟩, _⟩ := st; wpAny_pyIter_enum en h
def iEnumT (K : PySem.W.Frag) (ta : TA) : TI := fun σ H R => ta σ H fun vs H1 => ∃ a xs, vs = [.ref a] ∧ SqT K H1 a xs ∧ R (IteT K a) H1
theorem pi_enumT {X : Cx} {e : Expr} {ta : TA} {p pos tpos : Pos} {elts : List Expr} {kk : Nat} (gl : Gl X "enumerate") (gm : X.mg "enumerate" = none) (ha : PA X [e] ta) (gs : starEach [e] X.env = [(false, eval e X.env)] := by rfl) :
    PI X (.Tuple elts kk tpos) (.Call (.Name "enumerate" p) [e] [] pos) (iEnumT X.K ta) := by
  refine ⟨fun pins s σ H R I h => ?_⟩
  refine Call_ (ld_blt I gl gm boot_enumerate (PyProof.Rows.callWith_type1 (thn (ha.run pos pins s σ H _ I h) fun us s1 ⟨vs, H1, J, rs, q1⟩ => ?_) gs rfl))
  obtain ⟨a, xs, rfl, hq, q⟩ := q1
  obtain rfl := Vals.ref1 rs
  obtain ⟨its, rv, tp, hz⟩ := J.tuple hq
  have hal : a < s1.heap.objs.size := by obtain ⟨_, q, _⟩ := tp; exact Heap.lt_size q
  refine call_enumB (begins_tuple a its.toArray) tp fun h' en hit hk => wpAny_pyIter_enum en ?_
  have J2 : Inv X pins σ H1 { s1 with heap := h' } := J.kept (t' := s1.toks) hk
  refine ⟨s1.heap.objs.size + 1, [s1.heap.objs.size + 1, s1.heap.objs.size], _, _, H1, rfl, J2, turn_enumT a (s1.heap.objs.size + 1) s1.heap.objs.size, ⟨⟨.none, en⟩, ⟨_, hit, rfl, rfl⟩, Nat.succ_ne_self _, Nat.ne_of_lt hal, Nat.ne_of_gt (Nat.lt_succ_of_lt hal)⟩, fun b hb => ?_, q⟩
  have lo : s1.heap.objs.size ≤ b := by
    rcases (show b = s1.heap.objs.size + 1 ∨ b = s1.heap.objs.size by simpa using hb) with z | z
    · rw [z]; exact Nat.le_add_right _ _
    · rw [z]; exact Nat.le_refl _
  exact J.fpOk lo (J.hok.fresh lo)
theorem walk_enumT {K : PySem.W.Frag} {a : Addr} {xs : List V} : Walk (IteT K a) xs.length (fun H => SqT K H a xs) (YPair (fun i => some (.int (i : Nat))) (fun i => xs[i]?)) where
  goes := fun i H hi h => ⟨xs, xs[i], h, by simp [hi]⟩
  stops := fun H h => ⟨xs, h, Nat.le_refl _⟩
  yields := fun i H v H' hi h y => by
    obtain ⟨T, x, e1, e2, e3, e4⟩ := y
    exact ⟨T, .int (i : Nat), x, e1, e2, e3, rfl, e4 xs h⟩
end K7

set_option Elab.async false
set_option linter.all false
set_option maxRecDepth 100000
set_option maxHeartbeats 4000000
namespace K7
open PySem PySem.Spec PyProof.Rows L2
/-! ### sets of one kind of keys (ints, or texts) -/
structure KS {P : Program} {w : World} {κ : Type} [DecidableEq κ] (knd : KeyKind P w κ) (mk : κ → Tok → Value) (un : Value → κ) : Prop where
  is_ : ∀ k t, knd.is k (mk k t) = true
  scan : ∀ k t, (mk k t).scannable = true
  back : ∀ k t, un (mk k t) = k
  only : ∀ k k' t, knd.is k (mk k' t) = true → k' = k
def unI : Value → Int
  | .int k _ => k
  | _ => 0
def unS : Value → Str
  | .str k _ => k
  | _ => ⟨#[]⟩
theorem ksI (P : Program) (w : World) : KS (intKind P w) Value.int unI := ⟨fun k t => intKind_is P w k t, fun _ _ => rfl, fun _ _ => rfl, fun k k' t h => by
  have h' : (k' == k) = true := h
  exact beq_iff_eq.mp h'⟩
theorem ksS (P : Program) (w : World) : KS (PySem.strKind P w) Value.str unS := ⟨fun k t => strKind_is P w k t, fun _ _ => rfl, fun _ _ => rfl, fun k k' t h => by
  obtain ⟨t', e⟩ := Value.isStrOf_shape (x := k) (v := .str k' t) h
  cases e
  rfl⟩
section
variable {P : Program} {w : World} {κ : Type} [DecidableEq κ] {knd : KeyKind P w κ} {mk : κ → Tok → Value} {un : Value → κ}
def GdE (knd : KeyKind P w κ) (mk : κ → Tok → Value) (e : Int × Value) : Prop := ∃ k t, e.2 = mk k t ∧ e.1 = knd.hash k
/-- the set of keys at a -/
def SetX (knd : KeyKind P w κ) (mk : κ → Tok → Value) (un : Value → κ) (h : Heap) (a : Addr) (S : κ → Bool) (n : Nat) : Prop :=
  ∃ ob ents ver tab, h.get? a = some ob ∧ ob.ExactSet ∧ ob.data = .set ents ver tab ∧ (∀ e ∈ ents.toList, GdE knd mk e) ∧ (ents.toList.map fun e => un e.2).Nodup ∧ (∀ k, S k = true ↔ k ∈ ents.toList.map fun e => un e.2) ∧
    ents.size < scanBound ∧ tab.fits ents.size = true ∧ ents.size = n ∧ Ris tab.place.toList ∧ (w.params.followText "set-order" = true ∨ tab.led = true)
variable {h h' : Heap} {a : Addr} {S : κ → Bool} {n : Nat}
theorem SetX.at_ (Z : SetX knd mk un h a S n) (k : ∀ o, h.get? a = some o → h'.get? a = some o) : SetX knd mk un h' a S n := by
  obtain ⟨ob, ents, ver, tab, g, r⟩ := Z
  exact ⟨ob, ents, ver, tab, k ob g, r⟩
theorem SetX.cong {S' : κ → Bool} (Z : SetX knd mk un h a S n) (e : ∀ k, S' k = S k) : SetX knd mk un h a S' n := by
  rw [show S' = S from funext e]
  exact Z
theorem gd_is (ks : KS knd mk un) {e : Int × Value} (g : GdE knd mk e) (k : κ) : knd.is k e.2 = true ↔ un e.2 = k := by
  obtain ⟨k0, t, h1, _⟩ := g
  rw [h1, ks.back]
  exact ⟨fun q => ks.only _ _ _ q, fun q => by rw [q]; exact ks.is_ _ _⟩
theorem gd_mem (ks : KS knd mk un) {l : List (Int × Value)} (g : ∀ e ∈ l, GdE knd mk e) (k : κ) : k ∈ l.map (fun e => un e.2) ↔ ∃ e ∈ l, knd.is k e.2 = true := by
  rw [List.mem_map]
  exact ⟨fun ⟨e, he, q⟩ => ⟨e, he, (gd_is ks (g e he) k).2 q⟩, fun ⟨e, he, q⟩ => ⟨e, he, (gd_is ks (g e he) k).1 q⟩⟩
theorem gd_elems (ks : KS knd mk un) {l : List (Int × Value)} (g : ∀ e ∈ l, GdE knd mk e) : ElemsOf knd l := fun e he => by
  obtain ⟨k, t, h1, h2⟩ := g e he
  exact ⟨⟨k, by rw [h1]; exact ks.is_ k t, h2⟩, by rw [h1]; exact ks.scan k t⟩
end
section
variable {P : Program} {w : World} {κ : Type} [DecidableEq κ] {knd : KeyKind P w κ} {mk : κ → Tok → Value} {un : Value → κ} {A : Around} {E : Value → Shared → Prop} {s : Shared} {a : Addr} {S : κ → Bool} {n : Nat}
theorem setX_tail {g : Bool → Sem Unit} (hg : ∀ (b : Bool) (s₁ : Shared) (Q' : Unit → Shared → Prop), Q' () s₁ → wpAny (model P w) A (g b) Q' E s₁)
    {ob : Obj} {ents : Array (Int × Value)} {ver : Nat} {tab : SetTable} (g0 : s.heap.get? a = some ob) (gx : ob.ExactSet) (gd : ob.data = .set ents ver tab)
    {es1 : Array (Int × Value)} {t2 : SetTable} {S' : κ → Bool} (g1 : ∀ e ∈ es1.toList, GdE knd mk e) (nd1 : (es1.toList.map fun e => un e.2).Nodup) (m1 : ∀ k, S' k = true ↔ k ∈ es1.toList.map fun e => un e.2)
    (hb1 : es1.size < scanBound) (hf2 : t2.fits es1.size = true) (rs : Ris t2.place.toList) (ld : w.params.followText "set-order" = true ∨ t2.led = true) {wasDummy : Bool} {R : Option Bool → Shared → Prop}
    (hR : ∀ h', Heap.SameBut a s.heap h' → SetX knd mk un h' a S' es1.size → R (some true) { s with heap := h' }) :
    wpAny (model P w) A (do
        storeSet a es1 t2
        if (!wasDummy && t2.tooFull) = true then do
            g (relayAll t2 es1 (SetTable.grown es1.size)).2.2
            storeSet a (relayAll t2 es1 (SetTable.grown es1.size)).1 (relayAll t2 es1 (SetTable.grown es1.size)).2.1
            pure (some true)
          else pure (some true)) R E s := by
  refine wpAny_bind (wpAny_storeSet_of g0 gd ?_ (fits_of_scanBound hb1))
  have o1 := store_at (es' := es1) (t' := t2) g0 gd
  have sb1 := Heap.SameBut.update s.heap a (Obj.putSet es1 t2)
  split
  · have pm := relayAll_perm t2 es1 (SetTable.grown es1.size)
    have q1 := relayAll_fits t2 es1 (SetTable.grown es1.size)
    have q2 := relayAll_ris t2 es1 (SetTable.grown es1.size)
    have q3 := relayAll_led t2 es1 (SetTable.grown es1.size)
    generalize relayAll t2 es1 (SetTable.grown es1.size) = Y at pm q1 q2 q3 ⊢
    obtain ⟨es2, t3, gave⟩ := Y
    dsimp only at pm q1 q2 q3 ⊢
    have z2 : es2.size = es1.size := by rw [← Array.length_toList, pm.length_eq, Array.length_toList]
    have b2 : es2.size < scanBound := by rw [z2]; exact hb1
    refine wpAny_bind (hg _ _ _ ?_)
    refine wpAny_bind (wpAny_storeSet_of o1 rfl ?_ (fits_of_scanBound b2))
    have o2 := store_at (es' := es2) (t' := t3) o1 rfl
    refine wpAny_pure (hR _ (sb1.trans (Heap.SameBut.update _ a _)) ?_)
    exact ⟨_, es2, _, t3, o2, gx, rfl, fun e he => g1 e (pm.mem_iff.mp he), (pm.map _).nodup_iff.mpr nd1, fun k => (m1 k).trans (pm.map _).mem_iff.symm, b2, q1, z2, q2, ld.imp id fun z => by rw [q3]; exact z⟩
  · exact wpAny_pure (hR _ sb1 ⟨_, es1, _, t2, o1, gx, rfl, g1, nd1, m1, hb1, hf2, rfl, rs, ld⟩)
theorem setX_add (ks : KS knd mk un) {k : κ} {tk : Tok} {Q : Bool → Shared → Prop} (Z : SetX knd mk un s.heap a S n) (room : n + 1 < scanBound)
    (hQ : ∀ h', Heap.SameBut a s.heap h' → SetX knd mk un h' a (fun j => S j || decide (j = k)) (if S k = true then n else n + 1) → Q (!S k) { s with heap := h' }) :
    wpAny (model P w) A (setAddHashed a (mk k tk) (knd.hash k)) Q E s := by
  obtain ⟨ob, ents, ver, tab, g0, gx, gd, gg, nd, hm, bd, ft, hn, rs, ld⟩ := Z
  have key : knd.is k (mk k tk) = true := ks.is_ k tk
  have scn : (mk k tk).scannable = true := ks.scan k tk
  have els : ElemsOf knd ents.toList := gd_elems ks gg
  unfold setAddHashed setAddHashedIn
  refine wpAny_holding (wpAny_bind (wpAny_setState_of g0 gd ft ?_))
  dsimp only
  rw [byScan_of scn bd els]
  simp only [↓reduceIte]
  unfold setAddByScan
  refine wpAny_bind ?_
  refine wpAny_bind (wpAny_rule ?_)
  refine wpAny_bind (wpAny_setScan_of key g0 gd ft els ?_)
  cases hfi : List.findIdx? (fun e => knd.is k e.2) ents.toList with
  | some j =>
    dsimp only
    obtain ⟨hj, pj, _⟩ := List.findIdx?_eq_some_iff_getElem.mp hfi
    have yes : S k = true := (hm k).2 ((gd_mem ks gg k).2 ⟨ents.toList[j], List.getElem_mem hj, pj⟩)
    refine wpAny_pure (wpAny_pure ?_)
    have q := hQ s.heap (Heap.SameBut.refl a s.heap) ⟨ob, ents, ver, tab, g0, gx, gd, gg, nd, fun i => by
      rw [Bool.or_eq_true, decide_eq_true_eq, ← hm i]
      exact ⟨fun z => z.elim id (fun e => e ▸ yes), .inl⟩, bd, ft, by rw [if_pos yes]; exact hn, rs, ld⟩
    rw [yes] at q
    exact q
  | none =>
    dsimp only
    have out : k ∉ ents.toList.map fun e => un e.2 := fun z => by
      obtain ⟨e, he, q⟩ := (gd_mem ks gg k).1 z
      have c := List.findIdx?_eq_none_iff.mp hfi e he
      rw [q] at c
      cases c
    have no : S k = false := by
      cases q : S k with
      | false => rfl
      | true => exact absurd ((hm k).1 q) out
    have gave_ : ∀ (b : Bool) {s₁ : Shared} {Q' : Unit → Shared → Prop}, Q' () s₁ → wpAny (model P w) A (match b with | true => rule "set.scan.the-table-gave-way" | false => pure ()) Q' E s₁ :=
      fun b s₁ Q' q => by cases b <;> first | exact wpAny_pure q | exact wpAny_rule q
    have p0 := layNew_perm tab ents (knd.hash k) (mk k tk)
    have p1 := layNew_fits tab ents (knd.hash k) (mk k tk)
    have p2 := layNew_ris tab ents (knd.hash k) (mk k tk) rs
    have p3 := layNew_led tab ents (knd.hash k) (mk k tk)
    generalize layNew tab ents (knd.hash k) (mk k tk) = Y at p0 p1 p2 p3 ⊢
    obtain ⟨es1, t1, wasDummy, gave⟩ := Y
    dsimp only at p0 p1 p2 p3 ⊢
    rw [Array.toList_push] at p0
    have pc : es1.toList.Perm ((knd.hash k, mk k tk) :: ents.toList) := p0.trans (List.perm_append_singleton _ _)
    have pk : (es1.toList.map fun e => un e.2).Perm (k :: ents.toList.map fun e => un e.2) := by
      have := pc.map fun e : Int × Value => un e.2
      rwa [List.map_cons, ks.back] at this
    have g1 : ∀ e ∈ es1.toList, GdE knd mk e := fun e he => by
      rcases List.mem_cons.mp (pc.mem_iff.mp he) with z | z
      · rw [z]; exact ⟨k, tk, rfl, rfl⟩
      · exact gg e z
    have nd1 := pk.nodup_iff.mpr (List.nodup_cons.mpr ⟨out, nd⟩)
    have m1 : ∀ i, (S i || decide (i = k)) = true ↔ i ∈ es1.toList.map fun e => un e.2 := fun i => by
      rw [Bool.or_eq_true, decide_eq_true_eq, hm i, pk.mem_iff, List.mem_cons]
      exact Or.comm
    have z1 : es1.size = n + 1 := by rw [← Array.length_toList, pc.length_eq, List.length_cons, Array.length_toList, hn]
    have b1 : es1.size < scanBound := by rw [z1]; exact room
    have l1 : w.params.followText "set-order" = true ∨ t1.led = true := ld.imp id fun z => by rw [p3]; exact z
    have fin : ∀ h', Heap.SameBut a s.heap h' → SetX knd mk un h' a (fun j => S j || decide (j = k)) es1.size → Q true { s with heap := h' } := fun h' sb r => by
      have q := hQ h' sb
      rw [no] at q
      rw [z1] at r
      exact q r
    refine wpAny_bind (gave_ _ ?_)
    split
    · refine wpAny_bind ?_
      rw [hashByValue_scannable 8 scn]
      refine wpAny_pure ?_
      refine setX_tail ?_ g0 gx gd g1 nd1 m1 b1 ?_ ?_ ?_ ?_
      · intro b s₁ Q' q; cases b <;> first | exact wpAny_pure q | exact wpAny_rule q
      · first | (split <;> first | exact p1 | exact SetTable.fits_plain_off p1) | exact p1
      · first | (split <;> exact p2) | exact p2
      · first | (split <;> exact l1) | exact l1
      · intro h' sb r; dsimp only; exact wpAny_pure (fin h' sb r)
    · refine wpAny_bind (wpAny_pure ?_)
      simp only [↓reduceIte]
      refine setX_tail ?_ g0 gx gd g1 nd1 m1 b1 p1 p2 l1 ?_
      · intro b s₁ Q' q; cases b <;> first | exact wpAny_pure q | exact wpAny_rule q
      · intro h' sb r; dsimp only; exact wpAny_pure (fin h' sb r)
theorem setX_new {h : Heap} (ho : h.get? a = some { cls := .type "set", dict := none, data := .set #[] 0 (.fresh 0 0 (!w.params.followText "set-order")) }) (xs : List κ) : SetX knd mk un h a (fun j => decide (j ∈ xs.take 0)) 0 :=
  ⟨_, #[], 0, _, ho, ⟨rfl, rfl, rfl⟩, rfl, (fun e he => by simp at he), (by simp), (fun k => by simp), (by decide), (by rfl), rfl, List.Pairwise.nil, by
    show _ ∨ (!w.params.followText "set-order") = true
    cases w.params.followText "set-order"
    · exact .inr rfl
    · exact .inl rfl⟩
theorem setX_loop (ks : KS knd mk un) {I : Addr} {fp wr : List Addr} {G : Array GenState → Array GenState → Prop} {n : Nat} {Pv : Nat → Value → Prop} {St : Nat → Shared → Prop} {R : Result → Shared → Prop}
    (W : WalksS P w A.in1 I fp wr G n Pv St) (D : Addr) (hDf : D ∉ fp) (xs : List κ) (hn : n = xs.length) (hb : xs.length + 1 < scanBound) (hval : ∀ i v, Pv i v → ∃ k t, xs[i]? = some k ∧ v = mk k t) :
    ∀ (m i : Nat) (s : Shared), n - i = m → i ≤ n → St i s → (∃ c, c ≤ i ∧ SetX knd mk un s.heap D (fun j => decide (j ∈ xs.take i)) c) →
      (∀ s' c, Moved (D :: wr) G s s' → c ≤ n → SetX knd mk un s'.heap D (fun j => decide (j ∈ xs)) c → R (.ok (.ret .none)) s') →
      codeAny (model P w) A (.builtin "set.update.loop" ⟨[.ref D, .ref I], []⟩) R s := by
  have hDw : D ∉ wr := fun h => hDf (W.sub _ h)
  have more : ∀ b ∈ wr, b ∈ D :: wr := fun b hb => List.mem_cons_of_mem _ hb
  intro m
  induction m with
  | zero =>
    intro i s hm hi hst ⟨c, hc, hD⟩ hR
    have ei : i = n := by omega
    subst ei
    refine codeAny_builtin F.entry_set_update_loop ?_
    rw [Around.under_plainId F.plain_set_update_loop _]
    show wpAny _ A.in1 (pyNext (.ref I) >>= _) _ _ s
    refine wpAny_bind (W.done s _ _ hst fun s' mv => ?_)
    show wpAny _ A.in1 (ret Value.none) _ _ s'
    rw [show xs.take i = xs from List.take_of_length_le (by omega)] at hD
    exact wpAny_pure (hR s' c (mv.mono more) hc (hD.at_ fun o e => mv.heap D o hDw e))
  | succ m ih =>
    intro i s hm hi hst ⟨c, hc, hD⟩ hR
    have lt : i < n := by omega
    refine codeAny_builtin F.entry_set_update_loop ?_
    rw [Around.under_plainId F.plain_set_update_loop _]
    show wpAny _ A.in1 (pyNext (.ref I) >>= _) _ _ s
    refine wpAny_bind (W.item i s _ _ lt hst fun v s' hP st' mv => ?_)
    obtain ⟨z, t, hz, rfl⟩ := hval i v hP
    have hD' : SetX knd mk un s'.heap D (fun j => decide (j ∈ xs.take i)) c := hD.at_ fun o e => mv.heap D o hDw e
    show wpAny _ A.in1 (holding [mk z t] (setAdd D (mk z t)) >>= _) _ _ s'
    refine wpAny_bind (wpAny_holding ?_)
    unfold setAdd
    refine wpAny_holding ?_
    refine wpAny_bind (knd.pyHash (k := z) (ks.is_ _ _) ?_)
    refine setX_add ks (s := { s' with toks := s'.toks + 1 }) hD' (by omega) fun h' sb hD2 => ?_
    have hD3 : SetX knd mk un h' D (fun j => decide (j ∈ xs.take (i + 1))) (if decide (z ∈ xs.take i) = true then c else c + 1) := hD2.cong fun j => by
      rw [List.take_add_one, hz]
      simp [List.mem_append]
    have c3 : (if decide (z ∈ xs.take i) = true then c else c + 1) ≤ i + 1 := by
      split <;> omega
    refine wpAny_pure ⟨plainId_quiet F.plain_set_update_loop _, ih (i + 1) _ (by omega) lt (W.frame _ s' _ _ st' (Nat.le_succ _) fun b hb o e => ?_) ⟨_, c3, hD3⟩ fun s2 c2 mv2 cc2 hD4 => ?_⟩
    · rw [sb.2 b (fun h : b = D => hDf (by rw [← h]; exact hb))]; exact e
    · refine hR s2 c2 (Moved.trans W.gtrans ((mv.mono more).then_heap (Nat.le_succ _) fun b o hb e => ?_) mv2) cc2 hD4
      rw [sb.2 b (fun h : b = D => hb (by rw [h]; exact List.mem_cons_self))]; exact e
set_option maxHeartbeats 8000000 in
theorem call_setL (ks : KS knd mk un) {l : Addr} {items : Array Value} (xs : List κ) {Q : Value → Shared → Prop} (hh : A.handled = none) (hl : s.heap.IsList l items) (hsz : items.size = xs.length) (hit : ∀ (i : Nat) (v : Value), items[i]? = some v → ∃ k t, xs[i]? = some k ∧ v = mk k t) (hb : xs.length + 1 < scanBound)
    (h : ∀ (h' : Heap) (tk c : Nat), SetX knd mk un h' s.heap.objs.size (fun j => decide (j ∈ xs)) c → c ≤ xs.length → (∀ b o, s.heap.get? b = some o → h'.get? b = some o) → Q (.ref s.heap.objs.size) { s with heap := h', toks := tk }) :
    wpAny (model P w) A (call (.type "set") [.ref l]) Q E s := by
  obtain ⟨c, tl, hmro⟩ := F.called_set.mro
  have hmade := F.called_set.made
  have hsub := F.called_set.sub
  refine wpAny_call (codeAny_of_tree ?_)
  show wpAny _ _ (callAny (.type "set") _) _ _ _
  refine wpAny_pure ⟨Code.quiet_builtin _ (by decide +kernel), codeAny_builtin F.entry_type_call ?_⟩
  rw [Around.under_plain (weight_type_call_type "set" [.ref l] []) rfl]
  have h1 := F.called_set.notType
  have h2 := F.called_set.canCreate
  have hct := F.typeCall_set_1 (.ref l)
  repeat (any_goals (first | assumption | wp_step))
  refine codeAny_mono (code_set_led1 (.ref l) (E := E) (Q₁ := fun obj s₁ => obj = .ref s.heap.objs.size ∧ s₁ = { s with heap := s.heap.push { cls := .type "set", dict := none, data := .set #[] 0 (.fresh 0 0 (!w.params.followText "set-order")) } }) ⟨rfl, rfl⟩) fun r s₁ hr => ?_
  cases r with
  | error e => exact hr
  | ok fl =>
    cases fl with
    | ret obj =>
      obtain ⟨rfl, rfl⟩ := hr
      have hS : (s.heap.push { cls := .type "set", dict := none, data := .set #[] 0 (.fresh 0 0 (!w.params.followText "set-order")) }).get? s.heap.objs.size = some { cls := .type "set", dict := none, data := .set #[] 0 (.fresh 0 0 (!w.params.followText "set-order")) } := Heap.get?_push_size _ rfl
      have hT : Shared.TypeIs { s with heap := s.heap.push { cls := .type "set", dict := none, data := .set #[] 0 (.fresh 0 0 (!w.params.followText "set-order")) } } (.ref s.heap.objs.size) "set" := ⟨_, hS, rfl⟩
      have hli := F.called_set.init.lookup
      have hbi := F.called_set.init.bind (.ref s.heap.objs.size)
      repeat (any_goals (first | assumption | wp_step))
      refine codeAny_mono (codeAny_call_builtin (R := wants (fun r s₂ => r = .none ∧ ∃ h' tk c, s₂ = { s with heap := h', toks := tk } ∧ SetX knd mk un h' s.heap.objs.size (fun j => decide (j ∈ xs)) c ∧ c ≤ xs.length ∧
          (∀ b o, s.heap.get? b = some o → h'.get? b = some o)) E) F.called_set.init.plain F.entry_set_init (check_set_init_1 hT ?_)) fun r₂ s₂ hr₂ => ?_
      · obtain ⟨ol, hol, hcl, nl, hdl⟩ := hl
        obtain ⟨ocls, odict, odata, oslots⟩ := ol
        simp only at hcl hdl
        subst hcl; subst hdl
        have hol' : (s.heap.push { cls := .type "set", dict := none, data := .set #[] 0 (.fresh 0 0 (!w.params.followText "set-order")) }).get? l = some { cls := .type "list", dict := odict, data := .seq items nl, slots := oslots } := Heap.get?_push_of_some _ hol
        have hsls := F.sub_list_set
        have hslf := F.sub_list_frozenset
        have hne : (Value.type "list" == Value.type "dict") = false := by decide
        have hl1 : (s.heap.push { cls := .type "set", dict := none, data := .set #[] 0 (.fresh 0 0 (!w.params.followText "set-order")) }).IsList l items := ⟨_, hol', rfl, nl, rfl⟩
        unfold Builtin.«set.__init__» noKeywords Builtin.Frozenset.updateFrom
        generalize hPI : pyIter = PI
        wp_walk
        subst hPI
        refine wpAny_pyIter_list hl1 ?_
        refine wpAny_bind (wpAny_runValue ?_)
        have hlS : l < s.heap.objs.size := Heap.lt_size hol
        have hh3 : A.in1.in1.in1.handled = none := by simp [hh]
        have hneI : l ≠ (s.heap.push { cls := .type "set", dict := none, data := .set #[] 0 (.fresh 0 0 (!w.params.followText "set-order")) }).objs.size := by
          rw [Heap.size_push]; exact Nat.ne_of_lt (Nat.lt_succ_of_lt hlS)
        have hSf : s.heap.objs.size ∉ [(s.heap.push { cls := .type "set", dict := none, data := .set #[] 0 (.fresh 0 0 (!w.params.followText "set-order")) }).objs.size, l] := by
          rw [Heap.size_push]; simp only [List.mem_cons, List.mem_singleton, List.not_mem_nil, or_false, not_or]
          exact ⟨Nat.ne_of_lt (Nat.lt_succ_self _), Nat.ne_of_gt hlS⟩
        refine setX_loop ks ((Walks.list hh3 _ l hneI items).toS) s.heap.objs.size
          hSf xs hsz hb hit (items.size - 0) 0 _ (by omega) (Nat.zero_le _)
          ⟨⟨_, Heap.get?_push_size _ rfl, rfl, rfl⟩, (hl1.push _)⟩ ?hS0 ?hR
        case hS0 =>
          have hget : ((s.heap.push { cls := .type "set", dict := none, data := .set #[] 0 (.fresh 0 0 (!w.params.followText "set-order")) }).push { cls := .type "list_iterator", data := .fields #[.ref l, .int 0 0] }).get? s.heap.objs.size
              = some { cls := .type "set", dict := none, data := .set #[] 0 (.fresh 0 0 (!w.params.followText "set-order")) } := Heap.get?_push_of_some _ hS
          exact ⟨0, Nat.le_refl 0, setX_new hget xs⟩
        case hR =>
          intro s' c' hm hc' hS'
          obtain ⟨h', g2, d', tk', os'⟩ := s'
          have eg : g2 = s.gens := hm.gens
          have ed : d' = s.drawn := hm.drawn
          have eo : os' = s.os := hm.os
          subst eg; subst ed; subst eo
          show wpAny _ _ _ _ _ _
          refine wpAny_pure ?_
          show wpAny _ _ (ret Value.none) _ _ _
          rw [hsz] at hc'
          refine wpAny_pure ⟨rfl, h', tk', c', rfl, hS', hc', fun b o e => ?_⟩
          have hb0 : b < s.heap.objs.size := Heap.lt_size e
          have hb1 : b ≠ s.heap.objs.size := Nat.ne_of_lt hb0
          have hb2 : b ≠ (s.heap.push { cls := .type "set", dict := none, data := .set #[] 0 (.fresh 0 0 (!w.params.followText "set-order")) }).objs.size := by
            rw [Heap.size_push]; exact Nat.ne_of_lt (Nat.lt_succ_of_lt hb0)
          exact hm.heap b o (by simp only [List.mem_cons, List.mem_singleton, List.not_mem_nil, or_false, not_or]; exact ⟨hb1, hb2⟩) (Heap.get?_push_of_some _ (Heap.get?_push_of_some _ e))
      · cases r₂ with
        | error e => exact hr₂
        | ok fl₂ =>
          cases fl₂ with
          | ret r =>
            obtain ⟨rfl, h', tk, c', rfl, hS', hc', hk'⟩ := hr₂
            repeat (any_goals (first | assumption | wp_step))
            exact h _ _ _ hS' hc' hk'
          | _ => exact hr₂.elim
    | _ => exact hr.elim
end
/-! ### over the layer -/
def SetXO {P : Program} {w : World} {κ : Type} [DecidableEq κ] (knd : KeyKind P w κ) (mk : κ → Tok → Value) (un : Value → κ) (a : Addr) (xs : List κ) : HO := .ext fun h => ∃ n, n ≤ xs.length ∧ SetX knd mk un h a (fun j => decide (j ∈ xs)) n
section
variable {X : Cx}
theorem setXO_ok {P : Program} {w : World} {H : Hp} {h : Heap} {κ : Type} [DecidableEq κ] {knd : KeyKind P w κ} {mk : κ → Tok → Value} {un : Value → κ} {a : Addr} {xs : List κ} {n : Nat} (hn : n ≤ xs.length) (Z : SetX knd mk un h a (fun j => decide (j ∈ xs)) n) :
    ObjOk P w H h a (SetXO knd mk un a xs) := by
  have ⟨ob, _, _, _, g, _⟩ := Z
  exact ⟨⟨n, hn, Z⟩, ⟨ob, g⟩, fun h1 h2 ⟨m, hm, p⟩ k => ⟨m, hm, p.at_ k⟩⟩
/-- set(xs), xs a list of ints; of texts -/
def qSetI (K : PySem.W.Frag) (P : Program) (w : World) : List V → Hp → VK → Prop := fun vs H Q => ∃ (l : Addr) (xs : List Int), vs = [.ref l] ∧ SqL K H l (xs.map V.int) ∧ xs.length < 60 ∧ ∀ a, H a = none → Q (.ref a) (upd H a (SetXO (intKind P w) Value.int unI a xs))
def qSetS (K : PySem.W.Frag) (P : Program) (w : World) : List V → Hp → VK → Prop := fun vs H Q => ∃ (l : Addr) (xs : List Str), vs = [.ref l] ∧ SqL K H l (xs.map V.str) ∧ xs.length < 60 ∧ ∀ a, H a = none → Q (.ref a) (upd H a (SetXO (PySem.strKind P w) Value.str unS a xs))
theorem cl_setI (cm : X.calm = true) : CallR X (.type "set") (qSetI X.K X.prog X.w) := by
  intro pins s σ H vs us Q I r h
  obtain ⟨l, xs, rfl, hq, hl, q⟩ := h
  obtain rfl := Vals.ref1 r
  obtain ⟨its, rv, pl, hz⟩ := I.list hq
  have hlen := rv.length
  rw [List.length_map] at hlen
  refine call_setL (ksI X.prog X.w) xs (I.ok.hd cm) pl.isList (by simp [hlen]) (fun i v hv => ?_) (Nat.lt_of_lt_of_le (show xs.length + 1 < 62 by omega) (by decide)) fun h' tk c Z hc kp => ?_
  · rw [List.getElem?_toArray] at hv
    have lt : i < xs.length := by rw [hlen]; exact (List.getElem?_eq_some_iff.mp hv).1
    obtain ⟨u, hu, ru⟩ := rv.get (show (xs.map V.int)[i]? = some (V.int xs[i]) by rw [List.getElem?_map, List.getElem?_eq_getElem lt]; rfl)
    rw [hv] at hu
    cases hu
    obtain ⟨t, rfl⟩ := ru
    exact ⟨xs[i], t, List.getElem?_eq_getElem lt, rfl⟩
  · exact ⟨.ref _, upd H _ (SetXO (intKind X.prog X.w) Value.int unI _ xs), I.laid (t' := tk) kp (Nat.le_refl _) (setXO_ok hc Z), rfl, q _ (I.hok.fresh (Nat.le_refl _))⟩
theorem cl_setS (cm : X.calm = true) : CallR X (.type "set") (qSetS X.K X.prog X.w) := by
  intro pins s σ H vs us Q I r h
  obtain ⟨l, xs, rfl, hq, hl, q⟩ := h
  obtain rfl := Vals.ref1 r
  obtain ⟨its, rv, pl, hz⟩ := I.list hq
  have hlen := rv.length
  rw [List.length_map] at hlen
  refine call_setL (ksS X.prog X.w) xs (I.ok.hd cm) pl.isList (by simp [hlen]) (fun i v hv => ?_) (Nat.lt_of_lt_of_le (show xs.length + 1 < 62 by omega) (by decide)) fun h' tk c Z hc kp => ?_
  · rw [List.getElem?_toArray] at hv
    have lt : i < xs.length := by rw [hlen]; exact (List.getElem?_eq_some_iff.mp hv).1
    obtain ⟨u, hu, ru⟩ := rv.get (show (xs.map V.str)[i]? = some (V.str xs[i]) by rw [List.getElem?_map, List.getElem?_eq_getElem lt]; rfl)
    rw [hv] at hu
    cases hu
    obtain ⟨t, rfl⟩ := ru
    exact ⟨xs[i], t, List.getElem?_eq_getElem lt, rfl⟩
  · exact ⟨.ref _, upd H _ (SetXO (PySem.strKind X.prog X.w) Value.str unS _ xs), I.laid (t' := tk) kp (Nat.le_refl _) (setXO_ok hc Z), rfl, q _ (I.hok.fresh (Nat.le_refl _))⟩
/-- sorted(s), s such a set -/
def qSrtI (P : Program) (w : World) : List V → Hp → VK → Prop := fun vs H Q => ∃ (a : Addr) (xs : List Int), vs = [.ref a] ∧ H a = some (SetXO (intKind P w) Value.int unI a xs) ∧ xs.length < 60 ∧ ∀ (ys : List Int) (p : Addr), (∀ k, k ∈ ys ↔ k ∈ xs) → ys.length ≤ xs.length → H p = none → Q (.ref p) (upd H p (.lst (ys.map V.int)))
def qSrtS (P : Program) (w : World) : List V → Hp → VK → Prop := fun vs H Q => ∃ (a : Addr) (xs : List Str), vs = [.ref a] ∧ H a = some (SetXO (PySem.strKind P w) Value.str unS a xs) ∧ xs.length < 60 ∧ ∀ (ys : List Str) (p : Addr), (∀ k, k ∈ ys ↔ k ∈ xs) → ys.length ≤ xs.length → H p = none → Q (.ref p) (upd H p (.lst (ys.map V.str)))
theorem ints_un : ∀ (l : List Value), (∀ v ∈ l, ∃ k t, v = Value.int k t) → IntsAre l (l.map unI)
  | [], _ => .nil
  | v :: l, g => by
    obtain ⟨k, t, rfl⟩ := g v List.mem_cons_self
    exact .cons k t (ints_un l fun u hu => g u (List.mem_cons_of_mem _ hu))
theorem strs_un : ∀ (l : List Value), (∀ v ∈ l, ∃ k t, v = Value.str k t) → StrsAre l (l.map unS)
  | [], _ => .nil
  | v :: l, g => by
    obtain ⟨k, t, rfl⟩ := g v List.mem_cons_self
    exact .cons k t (strs_un l fun u hu => g u (List.mem_cons_of_mem _ hu))
theorem cl_srtI (cm : X.calm = true) : CallR X (.builtin "sorted") (qSrtI X.prog X.w) := by
  intro pins s σ H vs us Q I r h
  obtain ⟨a, xs, rfl, ha, hl, q⟩ := h
  obtain rfl := Vals.ref1 r
  obtain ⟨⟨n, nl, ob, ents, ver, tab, g0, gx, gd, gg, nd, hm, bd, ft, hn, rs, ld⟩, _⟩ := (show ObjOk X.prog X.w H s.heap a (SetXO (intKind X.prog X.w) Value.int unI a xs) from I.hok a _ ha)
  refine Calls.call_function_entry kind_sorted plain_sorted entry_sorted (args_sorted1 _) ?_
  unfold Builtin.«sorted»
  refine wpAny_bind (m := checkCount "sorted" 1 1 _) (wpAny_pure ?_)
  refine wpAny_bind (collect_set (A := X.A.in1) (I.ok.hd cm) ⟨ob, g0, gx.1, gd⟩ ft bd rs ld fun s1 ws k1 hz ge oe pm => ?_)
  have wl : ws.length = n := by rw [pm.length_eq, List.length_map, Array.length_toList]; exact hn
  have hI : IntsAre ws (ws.map unI) := ints_un ws fun v hv => by
    obtain ⟨e, he, q⟩ := List.mem_map.mp (pm.mem_iff.mp hv)
    obtain ⟨k, tk, h1, _⟩ := gg e he
    exact ⟨k, tk, by rw [← q]; exact h1⟩
  have pk : (ws.map unI).Perm (ents.toList.map fun e => unI e.2) := by
    have q := pm.map unI
    rwa [List.map_map] at q
  refine wpAny_bind (wpAny_newList ?_ (by rw [wl, sizeLine_eq]; omega))
  have hoL : (s1.heap.push (seqObj "list" ws.toArray 0)).get? s1.heap.objs.size = some (seqObj "list" ws.toArray 0) := Heap.get?_push_size _ rfl
  refine wpAny_bind (wpAny_holding (wpAny_call_entry PyProof.Rows.slot_list_sort ⟨_, hoL, rfl⟩ PyProof.Rows.entry_list_sort (list_sort_tree hoL hI (by rw [wl]; omega) fun out ns' a1 a2 a3 => ⟨_, rfl, ?_⟩) (PyProof.Rows.args_list_sort _)))
  obtain ⟨c, hc⟩ := PyProof.Rows.sortedHeap_at (vs := ws) (out := out) hoL
  have pn := a2.trans pk
  have kp : ∀ b u, s.heap.get? b = some u → (sortedHeap (s1.heap.push (seqObj "list" ws.toArray 0)) s1.heap.objs.size ws out).get? b = some u := fun b u e => by
    have z := k1 b u e
    have lt := Heap.lt_size z
    rw [PyProof.Rows.sortedHeap_old (Nat.ne_of_lt lt) (by rw [size_push']; exact Nat.lt_succ_of_lt lt)]
    exact Heap.get?_push_of_some _ z
  have hlen : (ns'.map V.int).length ≤ sizeLine := by rw [List.length_map, a2.length_eq, List.length_map, wl, sizeLine_eq]; omega
  obtain ⟨hp1, gn1, dr1, tk1, os1⟩ := s1
  obtain rfl : gn1 = s.gens := ge
  obtain rfl : os1 = s.os := oe
  have J : Inv X pins σ (upd H hp1.objs.size (.lst (ns'.map V.int))) { s with heap := sortedHeap (hp1.push (seqObj "list" ws.toArray 0)) hp1.objs.size ws out, drawn := dr1, toks := tk1 } :=
    I.call (ch := []) (Un.laid kp hz (I.hok.fresh hz)) (I.hok.laid kp hz ⟨hlen, out.toList, c, vals_of_ints a1, hc⟩) I.bare (fun _ z => nomatch z)
  refine wpAny_pure ⟨_, rfl, .ref hp1.objs.size, _, J, rfl, q ns' _ (fun k => ?_) ?_ (I.hok.fresh hz)⟩
  · rw [pn.mem_iff, ← hm k, decide_eq_true_eq]
  · rw [a2.length_eq, List.length_map, wl]; exact nl
theorem cl_srtS (cm : X.calm = true) : CallR X (.builtin "sorted") (qSrtS X.prog X.w) := by
  intro pins s σ H vs us Q I r h
  obtain ⟨a, xs, rfl, ha, hl, q⟩ := h
  obtain rfl := Vals.ref1 r
  obtain ⟨⟨n, nl, ob, ents, ver, tab, g0, gx, gd, gg, nd, hm, bd, ft, hn, rs, ld⟩, _⟩ := (show ObjOk X.prog X.w H s.heap a (SetXO (PySem.strKind X.prog X.w) Value.str unS a xs) from I.hok a _ ha)
  refine Calls.call_function_entry kind_sorted plain_sorted entry_sorted (args_sorted1 _) ?_
  unfold Builtin.«sorted»
  refine wpAny_bind (m := checkCount "sorted" 1 1 _) (wpAny_pure ?_)
  refine wpAny_bind (collect_set (A := X.A.in1) (I.ok.hd cm) ⟨ob, g0, gx.1, gd⟩ ft bd rs ld fun s1 ws k1 hz ge oe pm => ?_)
  have wl : ws.length = n := by rw [pm.length_eq, List.length_map, Array.length_toList]; exact hn
  have hI : StrsAre ws (ws.map unS) := strs_un ws fun v hv => by
    obtain ⟨e, he, q⟩ := List.mem_map.mp (pm.mem_iff.mp hv)
    obtain ⟨k, tk, h1, _⟩ := gg e he
    exact ⟨k, tk, by rw [← q]; exact h1⟩
  have pk : (ws.map unS).Perm (ents.toList.map fun e => unS e.2) := by
    have q := pm.map unS
    rwa [List.map_map] at q
  refine wpAny_bind (wpAny_newList ?_ (by rw [wl, sizeLine_eq]; omega))
  have hoL : (s1.heap.push (seqObj "list" ws.toArray 0)).get? s1.heap.objs.size = some (seqObj "list" ws.toArray 0) := Heap.get?_push_size _ rfl
  refine wpAny_bind (wpAny_holding (wpAny_call_entry PyProof.Rows.slot_list_sort ⟨_, hoL, rfl⟩ PyProof.Rows.entry_list_sort
    (list_sort_treeK strKind_oneLt (s := { s1 with heap := s1.heap.push (seqObj "list" ws.toArray 0) }) hoL hI.keysOf (fun v₁ v₂ rest e => keyKind_strs (by rw [← e]; exact hI)) (by rw [wl]; omega) fun st' hp hs => ⟨_, rfl, ?_⟩) (PyProof.Rows.args_list_sort _)))
  obtain ⟨ns', a1, a2, a3⟩ := sorted_out_str hI hp hs
  obtain ⟨c, hc⟩ := PyProof.Rows.sortedHeap_at (vs := ws) (out := (arrOf st').map (·.2)) hoL
  have pn := a2.trans pk
  have kp : ∀ b u, s.heap.get? b = some u → (sortedHeap (s1.heap.push (seqObj "list" ws.toArray 0)) s1.heap.objs.size ws ((arrOf st').map (·.2))).get? b = some u := fun b u e => by
    have z := k1 b u e
    have lt := Heap.lt_size z
    rw [PyProof.Rows.sortedHeap_old (Nat.ne_of_lt lt) (by rw [size_push']; exact Nat.lt_succ_of_lt lt)]
    exact Heap.get?_push_of_some _ z
  have hlen : (ns'.map V.str).length ≤ sizeLine := by rw [List.length_map, a2.length_eq, List.length_map, wl, sizeLine_eq]; omega
  obtain ⟨hp1, gn1, dr1, tk1, os1⟩ := s1
  obtain rfl : gn1 = s.gens := ge
  obtain rfl : os1 = s.os := oe
  have J : Inv X pins σ (upd H hp1.objs.size (.lst (ns'.map V.str))) { s with heap := sortedHeap (hp1.push (seqObj "list" ws.toArray 0)) hp1.objs.size ws ((arrOf st').map (·.2)), drawn := dr1, toks := tk1 } :=
    I.call (ch := []) (Un.laid kp hz (I.hok.fresh hz)) (I.hok.laid kp hz ⟨hlen, ((arrOf st').map (·.2)).toList, c, vals_of_strs a1, hc⟩) I.bare (fun _ z => nomatch z)
  refine wpAny_pure ⟨_, rfl, .ref hp1.objs.size, _, J, rfl, q ns' _ (fun k => ?_) ?_ (I.hok.fresh hz)⟩
  · rw [pn.mem_iff, ← hm k, decide_eq_true_eq]
  · rw [a2.length_eq, List.length_map, wl]; exact nl
end
end K7

set_option Elab.async false
set_option linter.all false
set_option maxRecDepth 100000
set_option maxHeartbeats 4000000
namespace K7
open PySem PySem.Spec PyProof.Rows L2 ItX
/-! ### more readings -/
section
variable {K : PySem.W.Frag} {σ : L2.St} {H : Hp} {Q : VK} {ta tb tc td te tv : TE} {t : TA} {wi : TI} {D : Ends} {v : V} {a d p : Addr} {xs : List V} {F : Hp} {L : List Cell} {R : It → Hp → Prop} {C dx : Addr} {fs : List (Str × V)} {m f : Str} {sp : Sp} {g : TG}
theorem rd_iET (q : t σ H fun vs H1 => ∃ a xs, vs = [.ref a] ∧ SqT K H1 a xs ∧ R (IteT K a) H1) : iEnumT K t σ H R := q
theorem lp_ET {tb : TS} {nx : L2.St → Hp → Prop} {rt : VK} {a : Addr} (xs : List V) (Pv : Nat → L2.St → Hp → Prop) (h0 : Pv 0 σ H) (hl : ∀ i σ' H', i ≤ xs.length → Pv i σ' H' → SqT K H' a xs)
    (hs : ∀ i x T σ' H', xs[i]? = some x → Pv i σ' H' → H' T = none → g (.ref T) σ' (upd H' T (.tup [.int (i : Int), x])) fun σ2 H2 => tb ⟨Pv (i + 1), rt, nx, Pv (i + 1)⟩ σ2 H2) (hd : ∀ σ' H', Pv xs.length σ' H' → nx σ' H') :
    ∃ b ys, [V.ref a] = [.ref b] ∧ SqT K H b ys ∧ LpG (IteT K b) g tb nx rt σ H :=
  ⟨a, xs, rfl, hl 0 σ H (Nat.zero_le _) h0, for_it (D := ⟨nx, rt, nx, nx⟩) walk_enumT Pv h0 (fun i σ' H' hi p => hl i σ' H' hi p) (fun i x σ' H1 H' hi p y => by
    obtain ⟨T, u, v, rfl, hT, rfl, e1, e2⟩ := y
    cases e1
    exact hs i v T σ' _ e2 p hT) hd⟩
-- methods, attributes
theorem rd_meth (q : ta σ H fun x H1 => ∃ a dx fs, x = .ref a ∧ H1 a = some (.ins C dx fs) ∧ fs.lookup m = none ∧ t σ H1 fun vs H2 => sp (x :: (vs ++ [])) H2 Q E0) : tMeth C m sp [] E0 ta t σ H Q := q
theorem rd_me {B : Prop} (h : H a = some (.ins C dx fs)) (n : fs.lookup m = none) (q : B) : ∃ a' dx' fs', V.ref a = .ref a' ∧ H a' = some (.ins C dx' fs') ∧ fs'.lookup m = none ∧ B := ⟨a, dx, fs, rfl, h, n, q⟩
theorem rd_fld (q : ta σ H fun x H1 => ∃ a C dx fs v, x = .ref a ∧ H1 a = some (.ins C dx fs) ∧ Cls K C ∧ NoAttr K C f ∧ fs.lookup f = some v ∧ Q v H1) : tFld K ta f σ H Q := q
theorem rd_fl {B : V → Prop} (h : H a = some (.ins C dx fs)) (c : Cls K C) (n : NoAttr K C f) (l : fs.lookup f = some v) (q : B v) : ∃ a' C' dx' fs' v', V.ref a = .ref a' ∧ H a' = some (.ins C' dx' fs') ∧ Cls K C' ∧ NoAttr K C' f ∧ fs'.lookup f = some v' ∧ B v' := ⟨a, C, dx, fs, v, rfl, h, c, n, l, q⟩
theorem rd_sfld (q : tv σ H fun y H1 => ta σ H1 fun x H2 => ∃ a C dx fs, x = .ref a ∧ H2 a = some (.ins C dx fs) ∧ Cls K C ∧ NoAttr K C f ∧ fs.length < 1000 ∧ D.nx σ (upd H2 a (.ins C dx (putF f y fs)))) : sFld K ta tv f D σ H := q
theorem rd_sfl {B : Hp → Prop} {fs' : List (Str × V)} (h : H a = some (.ins C dx fs)) (c : Cls K C) (n : NoAttr K C f) (l : fs.length < 1000) (e : putF f v fs = fs') (q : B (upd H a (.ins C dx fs'))) : ∃ a' C' dx' fs0, V.ref a = .ref a' ∧ H a' = some (.ins C' dx' fs0) ∧ Cls K C' ∧ NoAttr K C' f ∧ fs0.length < 1000 ∧ B (upd H a' (.ins C' dx' (putF f v fs0))) :=
  ⟨a, C, dx, fs, rfl, h, c, n, l, by rw [e]; exact q⟩
theorem rd_gfld {QS : L2.St → Hp → Prop} (q : ta σ H fun x H2 => ∃ a C dx fs, x = .ref a ∧ H2 a = some (.ins C dx fs) ∧ Cls K C ∧ NoAttr K C f ∧ fs.length < 1000 ∧ QS σ (upd H2 a (.ins C dx (putF f v fs)))) : gFld K ta f v σ H QS := q
-- dicts
theorem rd_dupd (q : td σ H fun x H1 => ∃ a, x = .ref a ∧ IsD H1 a ∧ tb σ H1 fun y H2 => ∃ b kvs more, y = .ref b ∧ a ≠ b ∧ H2 a = some (.dK kvs) ∧ Rd H2 b (.dK more) ∧ kvs.length + more.length ≤ sizeLine ∧ Q .non (upd H2 a (.dK (mergeK kvs more)))) : tDUpd td tb σ H Q := q
theorem rd_lvals (q : td σ H fun x H1 => ∃ (d : Addr) (kvs : List (Key × V)), x = .ref d ∧ Rd H1 d (.dK kvs) ∧ ∀ p, H1 p = none → Q (.ref p) (upd H1 p (.lst (kvs.map (·.2))))) : tListVals td σ H Q := q
theorem rd_lv {kvs : List (Key × V)} {B : Hp → V → Prop} (h : Rd H d (.dK kvs)) (q : ∀ p, H p = none → Q (.ref p) (upd H p (.lst (kvs.map (·.2))))) : ∃ (d' : Addr) (kvs' : List (Key × V)), V.ref d = .ref d' ∧ Rd H d' (.dK kvs') ∧ ∀ p, H p = none → Q (.ref p) (upd H p (.lst (kvs'.map (·.2)))) := ⟨d, kvs, rfl, h, q⟩
theorem rd_sitems (q : td σ H fun x H1 => ∃ (d : Addr) (kvs : List (Key × V)) (is : List Int), x = .ref d ∧ Rd H1 d (.dK kvs) ∧ kvs.map (·.1) = is.map Sum.inl ∧ is.Pairwise (· < ·) ∧
  ∀ (H' : Hp) (p : Addr) (ts : List Addr), (∀ b o, H1 b = some o → H' b = some o) → H1 p = none → (∀ t ∈ ts, H1 t = none) → p ∉ ts → H' p = some (.lst (ts.map V.ref)) → Paired (fun (t : Addr) (q : Key × V) => H' t = some (.tup [kV q.1, q.2])) ts kvs → Q (.ref p) H') : tSortItems td σ H Q := q
theorem rd_revL (q : te σ H fun x H1 => ∃ a xs, x = .ref a ∧ SqL K H1 a xs ∧ ∀ p, H1 p = none → Q (.ref p) (upd H1 p (.lst xs.reverse))) : tRevL K te σ H Q := q
theorem rd_iView (q : te σ H fun x H1 => ∃ (a dx : Addr) (fs : List (Str × V)) (l : Addr) (zs : List V), x = .ref a ∧ H1 a = some (.ins C dx fs) ∧ Cls K C ∧ NoAttr K C "own_rows" ∧ fs.lookup ("own_rows" : Str) = some (.ref l) ∧ SqL K H1 l zs ∧ R (ItlF K l 0) H1) : iView K C te σ H R := q
theorem rd_iKeys (q : td σ H fun x H1 => ∃ d o, x = .ref d ∧ ((∃ kvs, H1 d = some (.frz o (.dK kvs)) ∧ R (Itk d o kvs) H1) ∨ ∃ kvs, H1 d = some (.frz o (.dT kvs)) ∧ R (Itkt d o kvs) H1)) : iKeys td σ H R := q
theorem rd_iK {B : It → Prop} {od : Obj} {kvs : List (Key × V)} (h : H d = some (.frz od (.dK kvs))) (q : B (Itk d od kvs)) : ∃ d' o, V.ref d = .ref d' ∧ ((∃ kvs, H d' = some (.frz o (.dK kvs)) ∧ B (Itk d' o kvs)) ∨ ∃ kvs, H d' = some (.frz o (.dT kvs)) ∧ B (Itkt d' o kvs)) := ⟨d, od, rfl, .inl ⟨kvs, h, q⟩⟩
theorem rd_dc {tt : TT} {tk : TE} {vs : List Nat} (q : wi σ H fun J H1 => ∀ D, H1 D = none → ∃ W : Nat → Nat → Hp → Prop, (∃ m, W 0 m (upd H1 D (.dK []))) ∧ ∀ i m H, W i m H →
  (J.stop i H ∧ Q (.ref D) H) ∨ (J.go i H ∧ ∃ Nx : Hp → Prop, (∀ H', Nx H' → ∃ m', m' < m ∧ W (i + 1) m' H') ∧ ∀ x H', J.yld i H x H' → g x (wipe σ vs) H' fun σ2 H2 => wipe σ2 vs = wipe σ vs ∧ tt σ2 H2 fun b H3 =>
    if b = true then tk σ2 H3 fun y H4 => tv σ2 H4 fun z H5 => ∃ kvs k, y = kV k ∧ H5 D = some (.dK kvs) ∧ kvs.length < sizeLine ∧ Nx (upd H5 D (.dK (putK kvs k z))) else Nx H3)) : tDc wi g tt tk tv vs σ H Q := q
end
/-- everything new at S is frozen -/
theorem Ow.more {F H H' : Hp} {L : List Cell} (O : Ow F L H) (S : List Addr) (hS : ∀ b ∈ S, H b = none) (k : ∀ b o, H b = some o → H' b = some o) : ∃ F', Same F F' ∧ (∀ b ∈ S, F' b = H' b) ∧ Ow F' L H' := by
  refine ⟨fun b => if b ∈ S then H' b else F b, fun b o e => ?_, fun b hb => if_pos hb, ⟨fun b o e => ?_, fun q hq => k _ _ (O.own q hq), fun q hq => ?_, O.nd⟩⟩
  · have hb : b ∉ S := fun z => by
      have h1 := O.le b o e
      rw [hS b z] at h1
      cases h1
    show (if b ∈ S then H' b else F b) = some o
    rw [if_neg hb]
    exact e
  · have e : (if b ∈ S then H' b else F b) = some o := e
    by_cases hb : b ∈ S
    · rw [if_pos hb] at e
      exact e
    · rw [if_neg hb] at e
      exact k b o (O.le b o e)
  · have hb : q.1 ∉ S := fun z => by
      have h1 := O.own q hq
      rw [hS _ z] at h1
      cases h1
    show (if q.1 ∈ S then H' q.1 else F q.1) = none
    rw [if_neg hb]
    exact O.off q hq
/-! ### dict comprehensions -/
section
variable {K : PySem.W.Frag} {σ : L2.St} {H1 : Hp} {g : TG} {tt : TT} {tk tv : TE} {vs : List Nat} {F : Hp} {L : List Cell} {P : Nat → Hp → List (Key × V) → Prop} {J : It} {n : Nat} {G : Hp → Prop} {Y : Nat → Hp → V → Hp → Prop} {Qd : Addr → Hp → Prop}
def DcI (F : Hp) (L : List Cell) (P : Nat → Hp → List (Key × V) → Prop) (D : Addr) (i : Nat) (H : Hp) : Prop := ∃ F' kvs, Same F F' ∧ P i F' kvs ∧ kvs.length ≤ i ∧ Ow F' ((D, .dK kvs) :: L) H
def DcK (F : Hp) (L : List Cell) (P : Nat → Hp → List (Key × V) → Prop) (D : Addr) (i : Nat) (y : V) : VK := fun z H5 => ∃ kvs k, y = kV k ∧ H5 D = some (.dK kvs) ∧ kvs.length < sizeLine ∧ DcI F L P D (i + 1) (upd H5 D (.dK (putK kvs k z)))
theorem dcP {F' : Hp} {kvs : List (Key × V)} {D : Addr} {i : Nat} {k : Key} {z : V} {H5 : Hp} (hi : i < 90000) (s : Same F F') (l : kvs.length ≤ i) (O : Ow F' ((D, .dK kvs) :: L) H5) (p : P (i + 1) F' (putK kvs k z)) : DcK F L P D i (kV k) z H5 :=
  ⟨kvs, k, rfl, O.get 0, sztl (by omega), F', putK kvs k z, s, p, by have := length_putK kvs k z; omega, O.set 0 _⟩
abbrev DcT (F : Hp) (L : List Cell) (P : Nat → Hp → List (Key × V) → Prop) (g : TG) (tt : TT) (tk tv : TE) (vs : List Nat) (σ : L2.St) (D : Addr) (i : Nat) (x : V) (H' : Hp) : Prop :=
  g x (wipe σ vs) H' fun σ2 H2 => wipe σ2 vs = wipe σ vs ∧ tt σ2 H2 fun b H3 => if b = true then tk σ2 H3 fun y H4 => tv σ2 H4 (DcK F L P D i y) else DcI F L P D (i + 1) H3
theorem dc_any (w : Walk J n G Y) (O : Ow F L H1) (P : Nat → Hp → List (Key × V) → Prop) (p0 : P 0 F []) (hG : ∀ D F' kvs H, Same F F' → Ow F' ((D, .dK kvs) :: L) H → G H)
    (hs : ∀ D i x F' kvs H H', i < n → Same F F' → P i F' kvs → kvs.length ≤ i → Ow F' ((D, .dK kvs) :: L) H → Y i H x H' → DcT F L P g tt tk tv vs σ D i x H')
    (hd : ∀ D F' kvs H, Same F F' → P n F' kvs → kvs.length ≤ n → Ow F' ((D, .dK kvs) :: L) H → Qd D H) :
    ∀ D, H1 D = none → ∃ W : Nat → Nat → Hp → Prop, (∃ m, W 0 m (upd H1 D (.dK []))) ∧ ∀ i m H, W i m H →
      (J.stop i H ∧ Qd D H) ∨ (J.go i H ∧ ∃ Nx : Hp → Prop, (∀ H', Nx H' → ∃ m', m' < m ∧ W (i + 1) m' H') ∧ ∀ x H', J.yld i H x H' → g x (wipe σ vs) H' fun σ2 H2 => wipe σ2 vs = wipe σ vs ∧ tt σ2 H2 fun b H3 =>
        if b = true then tk σ2 H3 fun y H4 => tv σ2 H4 fun z H5 => ∃ kvs k, y = kV k ∧ H5 D = some (.dK kvs) ∧ kvs.length < sizeLine ∧ Nx (upd H5 D (.dK (putK kvs k z))) else Nx H3) := by
  intro D hD
  refine ⟨fun i m H => m = n - i ∧ i ≤ n ∧ DcI F L P D i H, ⟨n, by simp, Nat.zero_le _, F, [], Same.refl _, p0, Nat.le_refl _, O.new hD⟩, ?_⟩
  rintro i m H ⟨rfl, hi, F', kvs, s, p, l, O'⟩
  have q := hG D F' kvs H s O'
  by_cases lt : i < n
  · exact .inr ⟨w.goes i H lt q, DcI F L P D (i + 1), fun H' p' => ⟨n - (i + 1), by omega, rfl, lt, p'⟩, fun x H' y => hs D i x F' kvs H H' lt s p l O' (w.yields i H x H' lt q y)⟩
  · have e : i = n := by omega
    subst e
    exact .inl ⟨w.stops H q, hd D F' kvs H s p l O'⟩
/-- over an own view's rows: the list at a from its start -/
theorem walk_listF {K : PySem.W.Frag} {a : Addr} {xs : List V} : Walk (ItlF K a 0) xs.length (fun H => SqL K H a xs) (YAt xs) where
  goes := fun i H hi h => by rw [show (ItlF K a 0).go i H = (Itl K a).go (0 + i) H from rfl, Nat.zero_add]; exact walk_list.goes i H hi h
  stops := fun H h => by rw [show (ItlF K a 0).stop xs.length H = (Itl K a).stop (0 + xs.length) H from rfl, Nat.zero_add]; exact walk_list.stops H h
  yields := fun i H x H' hi h y => by
    have y : (Itl K a).yld (0 + i) H x H' := y
    rw [Nat.zero_add] at y
    exact walk_list.yields i H x H' hi h y
end
end K7

set_option Elab.async false
set_option linter.all false
set_option maxRecDepth 100000
set_option maxHeartbeats 4000000
set_option pp.deepTerms false
set_option pp.maxSteps 600
namespace K7
open PySem PySem.Spec PyProof.Rows L2 ItX
local macro_rules | `(tactic| walk_at "hp") => `(tactic| with_unfolding_all first
  | exact Ow.get (by assumption) 0 | exact Ow.get (by assumption) 1 | exact Ow.get (by assumption) 2 | exact Ow.get (by assumption) 3
  | exact Ow.fz (by assumption) (by assumption)
  | exact Ow.get (by assumption) 4 | exact Ow.get (by assumption) 5 | exact Ow.get (by assumption) 6 | exact Ow.get (by assumption) 7 | exact Ow.get (by assumption) 8 | exact Ow.get (by assumption) 9)
local macro_rules | `(tactic| walk_at "sq") => `(tactic| with_unfolding_all first
  | exact SqL.of (by walk_at "hp") | exact SqT.of (by walk_at "hp") | assumption)
local macro_rules | `(tactic| walk_at "rd") => `(tactic| with_unfolding_all first
  | exact Rd.of (by walk_at "hp") | assumption)
local macro_rules | `(tactic| walk_at "dk") => `(tactic| assumption)
local macro_rules | `(tactic| walk_at "cl") => `(tactic| assumption)
local macro_rules | `(tactic| walk_at "na") => `(tactic| assumption)
local macro_rules | `(tactic| walk_at "ai") => `(tactic| first | with_unfolding_all rfl | exact atI_zero | assumption)
local macro_rules | `(tactic| walk_at "sd") => `(tactic| with_unfolding_all first
  | rfl | assumption | decide | omega
  | exact ⟨by omega, by omega⟩ | exact Or.inl ⟨by omega, by omega⟩ | exact Or.inr ⟨by omega, by omega⟩ | exact ⟨by decide, by decide, by omega⟩)
local macro_rules | `(tactic| walk_at "sz") => `(tactic| first
  | with_unfolding_all exact szl (Nat.le_of_ble_eq_true rfl)
  | with_unfolding_all exact sztl (Nat.le_of_ble_eq_true rfl)
  | exact szl (by simp <;> omega)
  | exact sztl (by simp <;> omega))
local macro_rules | `(tactic| walk_at "s") => `(tactic| first
  | with_reducible refine rd_I0 ?_
  | ((with_reducible apply rd_I); (focus walk_at "sd"))
  | ((with_reducible apply rd_opVC); (focus with_unfolding_all rfl))
  | ((with_reducible apply rd_opVV); (focus with_unfolding_all rfl); (focus with_unfolding_all rfl))
  | ((with_reducible apply rd_opV); (focus with_unfolding_all rfl))
  | with_reducible refine rd_opC ?_
  | with_reducible refine rd_op ?_
  | ((with_reducible apply rd_var); (focus with_unfolding_all rfl))
  | with_reducible refine rd_c ?_
  | with_reducible refine rd_sSet ?_
  | ((with_reducible apply rd_CB1V); (focus with_unfolding_all rfl)) | with_reducible refine rd_CB1 ?_ | with_reducible refine rd_CB ?_
  | ((with_reducible apply rd_consV); (focus with_unfolding_all rfl)) | with_reducible refine rd_consC ?_ | with_reducible refine rd_cons0 ?_ | with_reducible refine rd_cons ?_ | with_reducible refine rd_nil ?_
  | ((with_reducible apply rd_ixL); (focus walk_at "sq"); (focus walk_at "ai"))
  | ((with_reducible apply rd_ixT); (focus walk_at "sq"); (focus walk_at "ai"))
  | with_reducible refine rd_int ?_ | with_reducible refine rd_intB ?_ | with_reducible refine rd_abs ?_
  | ((with_reducible apply rd_len); (focus walk_at "sq")) | ((with_reducible apply rd_lenT); (focus walk_at "sq"))
  | with_reducible refine rd_ifS ?_ | with_reducible refine iteT ?_ | with_reducible refine iteF ?_
  | with_reducible refine rd_tTest ?_ | with_reducible refine rd_tB ?_ | with_reducible refine rd_ex ?_
  | with_reducible refine rd_seqD ?_ | with_reducible refine rd_sSet1 ?_ | with_reducible refine rd_ret ?_ | with_reducible refine rd_drop ?_ | with_reducible refine rd_asg ?_
  | ((with_reducible apply rd_eq); (focus with_unfolding_all rfl)) | ((with_reducible apply rd_ne); (focus with_unfolding_all rfl))
  | with_reducible refine rd_isNr ?_ | with_reducible refine rd_notNr ?_ | with_reducible refine rd_isNn ?_ | with_reducible refine rd_notNn ?_ | with_reducible refine rd_isNi ?_ | with_reducible refine rd_notNi ?_
  | with_reducible refine rd_isN ?_ | with_reducible refine rd_notN ?_
  | with_reducible refine rd_and ?_ | with_reducible refine rd_or ?_ | with_reducible refine rd_not ?_ | with_reducible refine rd_if ?_
  | with_reducible refine rd_seq ?_ | with_reducible refine rd_gName ?_ | with_reducible refine rd_next ?_ | with_reducible refine rd_retN ?_
  | with_reducible refine rd_gSub ?_ | with_reducible refine rd_gCons ?_ | with_reducible refine rd_gNil ?_ | ((with_reducible apply rd_gTup); (focus walk_at "sq"); (focus with_unfolding_all rfl))
  | ((with_reducible apply rd_setL); (focus walk_at "hp"); (focus with_unfolding_all rfl))
  | with_reducible refine rd_par ?_ | with_reducible refine rd_par3 ?_ | with_reducible refine rd_ex2 ?_ | with_reducible refine rd_ex3 ?_
  | with_reducible refine rd_dget ?_ | with_reducible refine rd_din ?_ | with_reducible refine rd_dnotin ?_
  | ((with_reducible apply rd_dgS); (focus walk_at "rd"); (focus walk_at "dk"))
  | ((with_reducible apply rd_dgI); (focus walk_at "rd"); (focus walk_at "dk"))
  | ((with_reducible apply rd_doS); (focus walk_at "rd")) | ((with_reducible apply rd_doI); (focus walk_at "rd"))
  | with_reducible refine rd_dput ?_
  | ((with_reducible apply rd_dpS); (focus walk_at "hp"); (focus walk_at "sz")) | ((with_reducible apply rd_dpI); (focus walk_at "hp"); (focus walk_at "sz"))
  | with_reducible refine rd_bm ?_
  | ((with_reducible apply rd_tyL); (focus walk_at "hp")) | ((with_reducible apply rd_append); (focus walk_at "hp"); (focus walk_at "sz"))
  | with_reducible refine rd_tup ?_ | with_reducible refine rd_lst ?_ | with_reducible refine rd_dnew ?_
  | with_reducible refine rd_for ?_ | with_reducible refine rd_iR1 ?_ | with_reducible refine rd_iR2 ?_ | with_reducible refine rd_iL ?_ | with_reducible refine rd_iT ?_
  | with_reducible refine rd_disp ?_ | with_reducible refine rd_pair ?_ | with_reducible refine rd_pair0 ?_
  | with_reducible refine rd_andV ?_ | with_reducible refine rd_orV ?_
  | ((with_reducible apply rd_tupL); (focus walk_at "sq")) | ((with_reducible apply rd_listT); (focus walk_at "sq"))
  | with_reducible refine rd_lc ?_ | ((with_reducible apply rd_wp); (focus with_unfolding_all rfl)) | with_reducible refine rd_yes ?_
  | with_reducible refine rd_sl ?_ | with_reducible refine rd_noPart ?_ | with_reducible refine rd_part ?_ | with_reducible refine rd_exI ?_
  | ((with_reducible apply rd_isd); (focus walk_at "rd")) | ((with_reducible apply rd_dg1S); (focus walk_at "rd")) | ((with_reducible apply rd_dg1I); (focus walk_at "rd"))
  | with_reducible refine rd_dget1 ?_ | with_reducible refine rd_dget2 ?_ | with_reducible refine rd_dpop2 ?_ | with_reducible refine rd_dpop1 ?_ | with_reducible refine rd_dsetd ?_
  | ((with_reducible apply rd_slL); (focus walk_at "sq"))
  | with_reducible refine rd_iE ?_ | with_reducible refine rd_iS ?_
  | ((with_reducible apply rd_dictD); (focus walk_at "rd"))
  | with_reducible refine rd_setD ?_
  | with_reducible refine rd_meth ?_ | ((with_reducible apply rd_me); (focus walk_at "hp"); (focus with_unfolding_all rfl))
  | with_reducible refine rd_fld ?_ | ((with_reducible apply rd_fl); (focus walk_at "hp"); (focus walk_at "cl"); (focus walk_at "na"); (focus with_unfolding_all rfl))
  | with_reducible refine rd_sfld ?_ | with_reducible refine rd_gfld ?_
  | ((with_reducible apply rd_sfl); (focus walk_at "hp"); (focus walk_at "cl"); (focus walk_at "na"); (focus with_unfolding_all decide); (focus with_unfolding_all rfl))
  | with_reducible refine rd_dupd ?_ | with_reducible refine rd_lvals ?_ | with_reducible refine rd_sitems ?_ | with_reducible refine rd_revL ?_ | with_reducible refine rd_iView ?_ | with_reducible refine rd_iKeys ?_ | with_reducible refine rd_dc ?_
  | with_reducible refine rd_iET ?_
  | with_reducible refine rd_call ?_)
local macro_rules | `(tactic| walk_at "r") => `(tactic| repeat (walk_at "s"))

local macro_rules | `(tactic| walk_at "lt") => `(tactic| first | with_reducible refine ifT (by decide +kernel) ?_ | with_reducible refine ifF (by decide +kernel) ?_)
local macro_rules | `(tactic| walk_at "R") => `(tactic| repeat (first | walk_at "s" | walk_at "lt"))
local macro_rules | `(tactic| walk_at "dk") => `(tactic| first
  | assumption | exact wa_heard)
/-! ### views -/
structure Rdg where
  t : Int
  u : Int
  rows : List (Int × Str × Option Int)
def RdgAt (F : Hp) (v : V) (r : Rdg) : Prop := ∃ a b refs, v = .ref a ∧ F a = some (.tup [.int r.t, .int r.u, .ref b]) ∧ F b = some (.tup refs) ∧ Rows3At F refs r.rows
theorem RdgAt.mono {F G : Hp} {v : V} {r : Rdg} (h : RdgAt F v r) (s : Same F G) : RdgAt G v r := let ⟨a, b, refs, e, h1, h2, h3⟩ := h; ⟨a, b, refs, e, s _ _ h1, s _ _ h2, h3.mono s⟩
def ViewAt (F : Hp) (v : V) (rs : List Rdg) : Prop := ∃ a vs, v = .ref a ∧ F a = some (.tup vs) ∧ Paired (RdgAt F) vs rs
theorem ViewAt.mono {F G : Hp} {v : V} {rs : List Rdg} (h : ViewAt F v rs) (s : Same F G) : ViewAt G v rs := let ⟨a, vs, e, h1, h2⟩ := h; ⟨a, vs, e, s _ _ h1, L2.Paired.mapP h2 fun _ _ z => z.mono s⟩
/-- one behind another -/
def Chn : Int → Int → List Rdg → Prop
  | _, _, [] => True
  | u, t, r :: rs => t < r.t ∧ u < r.u ∧ r.u ≤ 20 ∧ RowsOk u r.u r.rows ∧ Chn r.u r.t rs
def lastU : Int → List Rdg → Int
  | u, [] => u
  | _, r :: rs => lastU r.u rs
def lastT : Int → List Rdg → Int
  | t, [] => t
  | _, r :: rs => lastT r.t rs
theorem Chn.snoc : ∀ {rs : List Rdg} {u t : Int} {r : Rdg}, Chn u t rs → lastT t rs < r.t → lastU u rs < r.u → r.u ≤ 20 → RowsOk (lastU u rs) r.u r.rows → Chn u t (rs ++ [r])
  | [], _, _, _, _, h1, h2, h3, h4 => ⟨h1, h2, h3, h4, trivial⟩
  | x :: rs, u, t, r, ⟨a, b, c, d, e⟩, h1, h2, h3, h4 => ⟨a, b, c, d, Chn.snoc (rs := rs) e h1 h2 h3 h4⟩
theorem Chn.len : ∀ {rs : List Rdg} {u t : Int}, Chn u t rs → u ≤ 20 → (rs.length : Int) ≤ 20 - u
  | [], u, _, _, h => by show ((0 : Nat) : Int) ≤ _; omega
  | r :: rs, u, t, ⟨a, b, c, d, e⟩, h => by
    have := Chn.len (rs := rs) e c
    rw [List.length_cons]
    omega
theorem lastU_snoc : ∀ (rs : List Rdg) (u : Int) (r : Rdg), lastU u (rs ++ [r]) = r.u
  | [], _, _ => rfl
  | x :: rs, _, r => lastU_snoc rs x.u r
theorem lastT_snoc : ∀ (rs : List Rdg) (t : Int) (r : Rdg), lastT t (rs ++ [r]) = r.t
  | [], _, _ => rfl
  | x :: rs, _, r => lastT_snoc rs x.t r
/-- a seat's view: told to the row n, all reads ahead of the spot i -/
def SeatV (F : Hp) (i : Nat) (v : V) (n : Int) : Prop := ∃ rs, ViewAt F v rs ∧ Chn 0 (-1) rs ∧ lastU 0 rs = n ∧ lastT (-1) rs < (i : Int)
theorem SeatV.mono {F G : Hp} {i j : Nat} {v : V} {n : Int} (h : SeatV F i v n) (s : Same F G) (l : i ≤ j) : SeatV G j v n := by
  obtain ⟨rs, a, b, c, d⟩ := h
  exact ⟨rs, a.mono s, b, c, by omega⟩
structure ViewI (F : Hp) (c : Crs) (i : Nat) (found : List (Key × V)) (cops : List V) : Prop where
  seat : ∀ p n, valV c.seats (.inl p) = some (.int n) → ∃ v, valV found (.inl p) = some v ∧ SeatV F i v n
  cop : Paired (SeatV F i) cops c.copies
  flen : found.length ≤ i
theorem ViewI.mono {F G : Hp} {c : Crs} {i j : Nat} {found : List (Key × V)} {cops : List V} (h : ViewI F c i found cops) (s : Same F G) (l : i ≤ j) : ViewI G c j found cops :=
  ⟨fun p n e => let ⟨v, a, b⟩ := h.seat p n e; ⟨v, a, b.mono s l⟩, L2.Paired.mapP h.cop fun _ _ z => z.mono s l, Nat.le_trans h.flen l⟩
theorem ViewI.put {F : Hp} {c : Crs} {i : Nat} {found : List (Key × V)} {cops : List V} (h : ViewI F c i found cops) {p n : Int} {v : V} (hv : SeatV F (i + 1) v n) : ViewI F { c with seats := putK c.seats (.inl p) (.int n) } (i + 1) (putK found (.inl p) v) cops := by
  have h0 := h.flen
  have h := h.mono (Same.refl _) (Nat.le_succ i)
  refine ⟨fun q m e => ?_, h.cop, ?_⟩
  · have e : valV (putK c.seats (.inl p) (.int n)) (.inl q) = some (.int m) := e
    rw [valV_put] at e ⊢
    by_cases z : (Sum.inl q : Key) = .inl p
    · rw [if_pos z] at e ⊢
      cases e
      exact ⟨v, rfl, hv⟩
    · rw [if_neg z] at e ⊢
      exact h.seat q m e
  · have := length_putK found (.inl p) v
    omega
def spView : Sp := fun vs H Q _ => ∃ (F : Hp) (R : List Cell) (ta br : Addr) (tvs bvs : List V) (es : List Ev) (ps : List (Nat × Int)) (keep p n : Int), vs = [.ref ta, .int keep, .ref br, .int p] ∧ Ow F R H ∧ F ta = some (.tup tvs) ∧ TabAt F tvs es ∧ Valid c0 es ∧ es.length ≤ 20 ∧
  F br = some (.tup bvs) ∧ BrsAt F bvs ps ∧ (∀ p ∈ ps, BrOk es p) ∧ ps.length ≤ 21 ∧ valV (c0.run es).seats (.inl p) = some (.int n) ∧
  ∀ (v : V) (rs : List Rdg) (F' H' : Hp), Same F F' → ViewAt F' v rs → Chn 0 (-1) rs → Ow F' R H' → Q v H'
section
variable {P : Program} {w : World} {K : PySem.W.Frag} {mg : Str → Option Value} {base : Heap}
abbrev s_w_view : Stmt := top 32
theorem sc_w_view : FnScope ["_law_table_here", "_law_keep", "_law_broom", "_law_p", "_law_heard_here", "_law_found", "_law_copies", "_law_spot", "_law_event_so", "_law_word"] ["_law_table_here", "_law_keep", "_law_broom", "_law_p"] (defScope s_w_view) := ⟨rfl, rfl, rfl, by decide +kernel, rfl, by decide +kernel, by decide +kernel⟩
theorem bd_w_view : Bd "_law_view" "_law_view" s_w_view ["_law_table_here", "_law_keep", "_law_broom", "_law_p"] := fun _ _ _ _ _ _ us hl => match us, hl with | [_, _, _, _], _ => rfl
/-! slots: 0 _law_table_here, 1 _law_keep, 2 _law_broom, 3 _law_p, 4 _law_heard_here, 5 _law_found, 6 _law_copies, 7 _law_spot, 8 _law_event_so, 9 _law_word -/
theorem ok_w_view {f : Addr} (S : Src K "_law_view" "_law_view" s_w_view f) (T : Blt mg) (G_w_run : Def P w K mg base "_law_run" ["_law_table_here", "_law_keep", "_law_broom"] 3 spRun) : Fn P w K mg base f ["_law_table_here", "_law_keep", "_law_broom", "_law_p"] 4 spView := by
  refine fn_mk S sc_w_view bd_w_view (fun vs H Q E h => ?_) (fun cdv A outer s0 H vs Q E hr h => ?_)
  · obtain ⟨_, _, _, _, _, _, _, _, _, _, _, rfl, _⟩ := h
    rfl
  · obtain ⟨F, R, ta, bra, tvs, bvs, es, ps, keep, p, n, rfl, O, ht, tab, va, hl, hb, brs, bok, bl, hpn, k⟩ := h
    have hu := hu_of hr
    have htl := tab.length
    refine ⟨_, (pss_cons (ps_par3 (i := 4) (j := 5) (l := 6) rfl sc_w_view.nd rfl rfl rfl (by decide) (by decide) (by decide) rfl rfl rfl (pa_cons (pe_dget hu (pe_def G_w_run (hr.mono (by decide)) rfl (pa_cons (pv 0) (pa_cons (pv 1) (pa_cons (pv 2) pa_nil)))) pe_str (fun _ _ => rfl)) (pa_cons pe_dnewK (pa_cons (pe_lst pa_nil) pa_nil))) rfl)
      (pss_cons (ps_for PassesOwn.never rfl (pi_enumT rfl T.enumerate (pa_cons (pv 0) pa_nil)) (pg_tup (n := 2) rfl (pgs_cons (pg_name (i := 7) sc_w_view.nd rfl (Or.inl rfl)) (pgs_cons (pg_name (i := 8) sc_w_view.nd rfl (Or.inl rfl)) pgs_nil)))
        (pss_cons (ps_set (i := 9) sc_w_view.nd rfl (Or.inl rfl) (pe_ix ix_tup (pv 8) pe_int (fun _ _ => rfl)))
        (pss_one (ps_if (pt_cmpR op_eq (pv 9) pe_str (nomark _))
          (pss_one (ps_dput hu (pv 5) (pe_ix ix_tup (pv 8) pe_int (fun _ _ => rfl)) (pe_tup pa_nil) rfl))
          (pss_one (ps_if (pt_cmpR op_eq (pv 9) pe_str (nomark _))
            (pss_one (ps_dput hu (pv 5) (pe_ix ix_tup (pv 8) pe_int (fun _ _ => rfl)) (pe_op op_catA (pe_dget hu (pv 5) (pe_ix ix_tup (pv 8) pe_int (fun _ _ => rfl)) (fun _ _ => rfl)) (pe_tup (pa_cons (pe_tup (pa_cons (pv 7) (pa_cons (pe_ix ix_tup (pv 8) pe_int (fun _ _ => rfl)) (pa_cons (pe_callTy cl_tupL (by rfl) T.tuple (by decide +kernel) (pa_cons (pe_ix ix_list (pv 4) (pv 7) (fun _ _ => rfl)) pa_nil)) pa_nil)))) pa_nil))) rfl))
            (pss_one (ps_if (pt_cmpR op_eq (pv 9) pe_str (nomark _))
              (pss_one (ps_expr (pe_bm PySem.F.plainAttrs_list PySem.F.slot_list_append PySem.F.type_list_append mt_append (pv 6) (pa_cons (pe_dget hu (pv 5) (pe_ix ix_tup (pv 8) pe_int (fun _ _ => rfl)) (fun _ _ => rfl)) pa_nil))))
              (pss_one (ps_if (pt_cmpR op_eq (pv 9) pe_str (nomark _))
                (pss_one (ps_dput hu (pv 5) (pe_ix ix_tup (pv 8) pe_int (fun _ _ => rfl)) (pe_ix ix_list (pv 6) (pe_ix ix_tup (pv 8) pe_int (fun _ _ => rfl)) (fun _ _ => rfl)) rfl))
                pss_nil))))))))))
      (pss_one (ps_ret (pe_dget1 hu (pv 5) (pv 3) ⟨rfl, rfl, rfl, rfl⟩))))), ?_⟩
    walk_at "r"
    refine ⟨F, R, ta, bra, tvs, bvs, es, ps, keep, rfl, O, ht, tab, va, hl, hb, brs, bok, bl, fun a hvs F1 H s1 hw hh hrd O => ?_⟩
    have ht := s1 _ _ ht
    have tab := tab.mono s1
    walk_at "r"
    intro fd hp
    have O := O.new (o := .dK []) hp
    walk_at "r"
    refine ⟨by walk_at "sz", fun cd hp => ?_⟩
    have O := O.new (o := .lst []) hp
    walk_at "r"
    refine lp_ET tvs (fun i σ' H' => ∃ (F2 : Hp) (found : List (Key × V)) (cops : List V) (v7 v8 v9 : Option V), σ' = [some (.ref ta), some (.int keep), some (.ref bra), some (.int p), some (.ref a.he), some (.ref fd), some (.ref cd), v7, v8, v9] ∧ Same F1 F2 ∧ ViewI F2 (c0.run (es.take i)) i found cops ∧
        Ow F2 ((cd, .lst cops) :: (fd, .dK found) :: R) H')
      ⟨F1, [], [], none, none, none, rfl, Same.refl _, ⟨fun p n e => by simp [c0, Crs.run, valV] at e, .nil, Nat.le_refl _⟩, O⟩ (fun i σ' H' _ ⟨F2, _, _, _, _, _, _, s2, _, O⟩ => SqT.of (O.fz (s2 _ _ ht))) ?_ ?_
    · rintro i x Tp σ' H' hx ⟨F2, found, cops, v7, v8, v9, rfl, s2, I, O⟩ hT
      obtain ⟨e, he, ea, rfl, hea⟩ := tab_get tab hx
      have hea := s2 _ _ hea
      have hil : i < es.length := (List.getElem?_eq_some_iff.mp he).1
      have O := O.new (o := .tup [.int (i : Int), .ref ea]) hT
      have hh2 := s2 _ _ hh
      have ok := valid_at va he
      have hfl := I.flen
      obtain ⟨q1, q2, q3⟩ := run_len (es.take i) c0
      have q2 : (c0.run (es.take i)).copies.length ≤ 0 + (es.take i).length := q2
      have q4 : (es.take i).length ≤ es.length := by rw [List.length_take]; omega
      have hcl := I.cop.length
      have mb := manyAt_bd es i
      have q5 : (c0.run (es.take i)).many = manyAt es i := rfl
      have rn := run_next he c0
      have C0 : CrsOk (c0.run (es.take i)) := run_ok CrsOk.zero (valid_take i va)
      cases e with
      | put kk vv =>
        have hea : F2 ea = some (.tup [.str "put", .str kk, .int vv]) := hea
        walk_at "R"
        have J := I.mono (Same.refl _) (Nat.le_succ i)
        exact ⟨F2, found, cops, _, _, _, rfl, s2, by rw [rn]; exact ⟨J.seat, J.cop, J.flen⟩, O.drop⟩
      | drop kk =>
        have hea : F2 ea = some (.tup [.str "drop", .str kk]) := hea
        walk_at "R"
        have J := I.mono (Same.refl _) (Nat.le_succ i)
        exact ⟨F2, found, cops, _, _, _, rfl, s2, by rw [rn]; exact ⟨J.seat, J.cop, J.flen⟩, O.drop⟩
      | wait =>
        have hea : F2 ea = some (.tup [.str "wait"]) := hea
        walk_at "R"
        have J := I.mono (Same.refl _) (Nat.le_succ i)
        exact ⟨F2, found, cops, _, _, _, rfl, s2, by rw [rn]; exact ⟨J.seat, J.cop, J.flen⟩, O.drop⟩
      | join q =>
        have hea : F2 ea = some (.tup [.str "join", .int q]) := hea
        walk_at "R"
        refine ⟨by walk_at "sz", fun e0 hp => ?_⟩
        obtain ⟨F3, s3, h3, O⟩ := O.newF (o := .tup []) hp
        have hea := s3 _ _ hea
        walk_at "R"
        have O := O.set 2 (.dK (putK found (.inl q) (.ref e0)))
        exact ⟨F3, _, cops, _, _, _, rfl, s2.trans s3, by rw [rn]; exact (I.mono s3 (Nat.le_refl _)).put ⟨[], ⟨e0, [], rfl, h3, .nil⟩, trivial, rfl, by show (-1 : Int) < _; omega⟩, O.drop⟩
      | read q u =>
        have hea : F2 ea = some (.tup [.str "read", .int q, .int u]) := hea
        obtain ⟨hq, m, hm, m1, m2⟩ := id ok
        obtain ⟨v, hv, rs, ⟨a0, vs0, rfl, hva, hps⟩, hch, hlu, hlt⟩ := I.seat q m hm
        obtain ⟨r, hr0, m', hd, refs, out, hm', rfl, hh', h3, rok⟩ := hrd.2 i _ hil he
        obtain ⟨_, ez, z0, z1⟩ := C0.val hm
        cases ez
        have em : m' = m := by rw [hm] at hm'; cases hm'; rfl
        subst em
        have hh' := s2 _ _ hh'
        have h3 := h3.mono s2
        have ex : atI hvs (i : Int) = some (.ref hd) := atI_nat hr0
        have hrl : refs.length ≤ 21 := by
          have e1 := h3.length
          have e2 := pigeonN 21 (out.map fun r => r.1.toNat) (by
            refine List.pairwise_map.mpr (List.Pairwise.imp_of_mem (fun {x y} hx hy hxy => ?_) (List.pairwise_map.mp rok.asc))
            have b1 := rok.bd x hx
            have b2 := rok.bd y hy
            omega) (fun z hz => by
            obtain ⟨x, hx, rfl⟩ := List.mem_map.mp hz
            have b1 := rok.bd x hx
            omega)
          rw [List.length_map] at e2
          omega
        have hvl : vs0.length = rs.length := hps.length
        have hcn := hch.len (by decide)
        walk_at "R"
        intro l hp
        obtain ⟨F3, s3, g3, O⟩ := O.newF (o := .tup refs) hp
        walk_at "R"
        refine ⟨by walk_at "sz", fun b1 hp => ?_⟩
        obtain ⟨F4, s4, g4, O⟩ := O.newF (o := .tup [.int (i : Int), .int u, .ref l]) hp
        walk_at "R"
        refine ⟨by walk_at "sz", fun b2 hp => ?_⟩
        obtain ⟨F5, s5, g5, O⟩ := O.newF (o := .tup [.ref b1]) hp
        have s25 := (s3.trans s4).trans s5
        refine rd_catA O (s25 _ _ hva) g5 (by simp; omega) fun b3 F6 H s6 g6 O => ?_
        have s26 := s25.trans s6
        have hea := s26 _ _ hea
        walk_at "R"
        have O := O.set 2 (.dK (putK found (.inl q) (.ref b3)))
        have sv : SeatV F6 (i + 1) (.ref b3) u := by
          refine ⟨rs ++ [⟨i, u, out⟩], ⟨b3, _, rfl, g6, (L2.Paired.mapP hps fun _ _ z => z.mono s26).snoc ⟨b1, l, refs, rfl, s6 _ _ (s5 _ _ g4), s6 _ _ (s5 _ _ (s4 _ _ g3)), h3.mono s26⟩⟩, ?_, ?_, ?_⟩
          · exact hch.snoc hlt (by rw [hlu]; exact m1) (by show u ≤ 20; omega) (by rw [hlu]; exact rok)
          · rw [lastU_snoc]
          · rw [lastT_snoc]
            show (i : Int) < ((i + 1 : Nat) : Int)
            omega
        have J := (I.mono s26 (Nat.le_refl _)).put (p := q) sv
        exact ⟨F6, _, cops, _, _, _, rfl, s2.trans s26, by rw [rn]; exact J, O.drop⟩
      | save q =>
        have hea : F2 ea = some (.tup [.str "save", .int q]) := hea
        obtain ⟨m, hm⟩ := id ok
        obtain ⟨v, hv, sv⟩ := I.seat q m hm
        walk_at "R"
        have O := O.set 1 (.lst (cops ++ [v]))
        have J := I.mono (Same.refl _) (Nat.le_succ i)
        refine ⟨F2, found, cops ++ [v], _, _, _, rfl, s2, ?_, O.drop⟩
        rw [rn]
        refine ⟨J.seat, ?_, J.flen⟩
        show Paired (SeatV F2 (i + 1)) (cops ++ [v]) ((c0.run (es.take i)).copies ++ [seatOf _ q])
        rw [seatOf_eq hm]
        exact J.cop.snoc (sv.mono (Same.refl _) (Nat.le_succ i))
      | load q j =>
        have hea : F2 ea = some (.tup [.str "load", .int q, .int j]) := hea
        obtain ⟨hq, j0, j1⟩ := id ok
        obtain ⟨x, hx, hx2, ex⟩ := atI_ex (xs := cops) (r := j) j0 (by omega)
        obtain ⟨m, hm, sv⟩ := L2.paired_get I.cop hx2
        walk_at "R"
        have O := O.set 2 (.dK (putK found (.inl q) x))
        have e2 : (c0.run (es.take i)).step (.load q j) = { c0.run (es.take i) with seats := putK (c0.run (es.take i)).seats (.inl q) (.int m) } := by
          show ({ c0.run (es.take i) with seats := putK (c0.run (es.take i)).seats (.inl q) (.int ((c0.run (es.take i)).copies.getD j.toNat 0)) } : Crs) = _
          rw [List.getD_eq_getElem?_getD, hm]
          rfl
        exact ⟨F2, _, cops, _, _, _, rfl, s2, by rw [rn, e2]; exact I.put (sv.mono (Same.refl _) (Nat.le_succ i)), O.drop⟩
    · rintro σ' H' ⟨F2, found, cops, v7, v8, v9, rfl, s2, I, O⟩
      rw [htl, List.take_length] at I
      obtain ⟨v, hv, rs, g1, g2, g3, g4⟩ := I.seat p n hpn
      walk_at "r"
      rw [hv]
      exact k v rs F2 _ (s1.trans s2) g1 g2 O.drop.drop
end
end K7

set_option Elab.async false
set_option linter.all false
set_option maxRecDepth 100000
set_option maxHeartbeats 4000000
set_option pp.deepTerms false
set_option pp.maxSteps 600
namespace K7
open PySem PySem.Spec PyProof.Rows L2 ItX
local macro_rules | `(tactic| walk_at "hp") => `(tactic| with_unfolding_all first
  | exact Ow.get (by assumption) 0 | exact Ow.get (by assumption) 1 | exact Ow.get (by assumption) 2 | exact Ow.get (by assumption) 3
  | exact Ow.fz (by assumption) (by assumption)
  | exact Ow.get (by assumption) 4 | exact Ow.get (by assumption) 5 | exact Ow.get (by assumption) 6 | exact Ow.get (by assumption) 7 | exact Ow.get (by assumption) 8 | exact Ow.get (by assumption) 9)
local macro_rules | `(tactic| walk_at "sq") => `(tactic| with_unfolding_all first
  | exact SqL.of (by walk_at "hp") | exact SqT.of (by walk_at "hp") | assumption)
local macro_rules | `(tactic| walk_at "rd") => `(tactic| with_unfolding_all first
  | exact Rd.of (by walk_at "hp") | assumption)
local macro_rules | `(tactic| walk_at "dk") => `(tactic| assumption)
local macro_rules | `(tactic| walk_at "cl") => `(tactic| assumption)
local macro_rules | `(tactic| walk_at "na") => `(tactic| assumption)
local macro_rules | `(tactic| walk_at "ai") => `(tactic| first | with_unfolding_all rfl | exact atI_zero | assumption)
local macro_rules | `(tactic| walk_at "sd") => `(tactic| with_unfolding_all first
  | rfl | assumption | decide | omega
  | exact ⟨by omega, by omega⟩ | exact Or.inl ⟨by omega, by omega⟩ | exact Or.inr ⟨by omega, by omega⟩ | exact ⟨by decide, by decide, by omega⟩)
local macro_rules | `(tactic| walk_at "sz") => `(tactic| first
  | with_unfolding_all exact szl (Nat.le_of_ble_eq_true rfl)
  | with_unfolding_all exact sztl (Nat.le_of_ble_eq_true rfl)
  | exact szl (by simp <;> omega)
  | exact sztl (by simp <;> omega))
local macro_rules | `(tactic| walk_at "s") => `(tactic| first
  | with_reducible refine rd_I0 ?_
  | ((with_reducible apply rd_I); (focus walk_at "sd"))
  | ((with_reducible apply rd_opVC); (focus with_unfolding_all rfl))
  | ((with_reducible apply rd_opVV); (focus with_unfolding_all rfl); (focus with_unfolding_all rfl))
  | ((with_reducible apply rd_opV); (focus with_unfolding_all rfl))
  | with_reducible refine rd_opC ?_
  | with_reducible refine rd_op ?_
  | ((with_reducible apply rd_var); (focus with_unfolding_all rfl))
  | with_reducible refine rd_c ?_
  | with_reducible refine rd_sSet ?_
  | ((with_reducible apply rd_CB1V); (focus with_unfolding_all rfl)) | with_reducible refine rd_CB1 ?_ | with_reducible refine rd_CB ?_
  | ((with_reducible apply rd_consV); (focus with_unfolding_all rfl)) | with_reducible refine rd_consC ?_ | with_reducible refine rd_cons0 ?_ | with_reducible refine rd_cons ?_ | with_reducible refine rd_nil ?_
  | ((with_reducible apply rd_ixL); (focus walk_at "sq"); (focus walk_at "ai"))
  | ((with_reducible apply rd_ixT); (focus walk_at "sq"); (focus walk_at "ai"))
  | with_reducible refine rd_int ?_ | with_reducible refine rd_intB ?_ | with_reducible refine rd_abs ?_
  | ((with_reducible apply rd_len); (focus walk_at "sq")) | ((with_reducible apply rd_lenT); (focus walk_at "sq"))
  | with_reducible refine rd_ifS ?_ | with_reducible refine iteT ?_ | with_reducible refine iteF ?_
  | with_reducible refine rd_tTest ?_ | with_reducible refine rd_tB ?_ | with_reducible refine rd_ex ?_
  | with_reducible refine rd_seqD ?_ | with_reducible refine rd_sSet1 ?_ | with_reducible refine rd_ret ?_ | with_reducible refine rd_drop ?_ | with_reducible refine rd_asg ?_
  | ((with_reducible apply rd_eq); (focus with_unfolding_all rfl)) | ((with_reducible apply rd_ne); (focus with_unfolding_all rfl))
  | with_reducible refine rd_isNr ?_ | with_reducible refine rd_notNr ?_ | with_reducible refine rd_isNn ?_ | with_reducible refine rd_notNn ?_ | with_reducible refine rd_isNi ?_ | with_reducible refine rd_notNi ?_
  | with_reducible refine rd_isN ?_ | with_reducible refine rd_notN ?_
  | with_reducible refine rd_and ?_ | with_reducible refine rd_or ?_ | with_reducible refine rd_not ?_ | with_reducible refine rd_if ?_
  | with_reducible refine rd_seq ?_ | with_reducible refine rd_gName ?_ | with_reducible refine rd_next ?_ | with_reducible refine rd_retN ?_
  | with_reducible refine rd_gSub ?_ | with_reducible refine rd_gCons ?_ | with_reducible refine rd_gNil ?_ | ((with_reducible apply rd_gTup); (focus walk_at "sq"); (focus with_unfolding_all rfl))
  | ((with_reducible apply rd_setL); (focus walk_at "hp"); (focus with_unfolding_all rfl))
  | with_reducible refine rd_par ?_ | with_reducible refine rd_par3 ?_ | with_reducible refine rd_ex2 ?_ | with_reducible refine rd_ex3 ?_
  | with_reducible refine rd_dget ?_ | with_reducible refine rd_din ?_ | with_reducible refine rd_dnotin ?_
  | ((with_reducible apply rd_dgS); (focus walk_at "rd"); (focus walk_at "dk"))
  | ((with_reducible apply rd_dgI); (focus walk_at "rd"); (focus walk_at "dk"))
  | ((with_reducible apply rd_doS); (focus walk_at "rd")) | ((with_reducible apply rd_doI); (focus walk_at "rd"))
  | with_reducible refine rd_dput ?_
  | ((with_reducible apply rd_dpS); (focus walk_at "hp"); (focus walk_at "sz")) | ((with_reducible apply rd_dpI); (focus walk_at "hp"); (focus walk_at "sz"))
  | with_reducible refine rd_bm ?_
  | ((with_reducible apply rd_tyL); (focus walk_at "hp")) | ((with_reducible apply rd_append); (focus walk_at "hp"); (focus walk_at "sz"))
  | with_reducible refine rd_tup ?_ | with_reducible refine rd_lst ?_ | with_reducible refine rd_dnew ?_
  | with_reducible refine rd_for ?_ | with_reducible refine rd_iR1 ?_ | with_reducible refine rd_iR2 ?_ | with_reducible refine rd_iL ?_ | with_reducible refine rd_iT ?_
  | with_reducible refine rd_disp ?_ | with_reducible refine rd_pair ?_ | with_reducible refine rd_pair0 ?_
  | with_reducible refine rd_andV ?_ | with_reducible refine rd_orV ?_
  | ((with_reducible apply rd_tupL); (focus walk_at "sq")) | ((with_reducible apply rd_listT); (focus walk_at "sq"))
  | with_reducible refine rd_lc ?_ | ((with_reducible apply rd_wp); (focus with_unfolding_all rfl)) | with_reducible refine rd_yes ?_
  | with_reducible refine rd_sl ?_ | with_reducible refine rd_noPart ?_ | with_reducible refine rd_part ?_ | with_reducible refine rd_exI ?_
  | ((with_reducible apply rd_isd); (focus walk_at "rd")) | ((with_reducible apply rd_dg1S); (focus walk_at "rd")) | ((with_reducible apply rd_dg1I); (focus walk_at "rd"))
  | with_reducible refine rd_dget1 ?_ | with_reducible refine rd_dget2 ?_ | with_reducible refine rd_dpop2 ?_ | with_reducible refine rd_dpop1 ?_ | with_reducible refine rd_dsetd ?_
  | ((with_reducible apply rd_slL); (focus walk_at "sq"))
  | with_reducible refine rd_iE ?_ | with_reducible refine rd_iS ?_
  | ((with_reducible apply rd_dictD); (focus walk_at "rd"))
  | with_reducible refine rd_setD ?_
  | with_reducible refine rd_meth ?_ | ((with_reducible apply rd_me); (focus walk_at "hp"); (focus with_unfolding_all rfl))
  | with_reducible refine rd_fld ?_ | ((with_reducible apply rd_fl); (focus walk_at "hp"); (focus walk_at "cl"); (focus walk_at "na"); (focus with_unfolding_all rfl))
  | with_reducible refine rd_sfld ?_ | with_reducible refine rd_gfld ?_
  | ((with_reducible apply rd_sfl); (focus walk_at "hp"); (focus walk_at "cl"); (focus walk_at "na"); (focus with_unfolding_all decide); (focus with_unfolding_all rfl))
  | with_reducible refine rd_dupd ?_ | with_reducible refine rd_lvals ?_ | with_reducible refine rd_sitems ?_ | with_reducible refine rd_revL ?_ | with_reducible refine rd_iView ?_ | with_reducible refine rd_iKeys ?_ | with_reducible refine rd_dc ?_
  | with_reducible refine rd_iET ?_
  | with_reducible refine rd_call ?_)
local macro_rules | `(tactic| walk_at "r") => `(tactic| repeat (walk_at "s"))

local macro_rules | `(tactic| walk_at "lt") => `(tactic| first | with_reducible refine ifT (by decide +kernel) ?_ | with_reducible refine ifF (by decide +kernel) ?_)
local macro_rules | `(tactic| walk_at "R") => `(tactic| repeat (first | walk_at "s" | walk_at "lt"))
/-! ### who is there -/
def Ev.who : Ev → Option Int
  | .join p => some p
  | .load p _ => some p
  | _ => none
theorem seat_step {c : Crs} {e : Ev} {p : Int} (h : (valV c.seats (.inl p)).isSome = true) : (valV (c.step e).seats (.inl p)).isSome = true := by
  have put : ∀ (q : Int) (v : V), (valV (putK c.seats (.inl q) v) (.inl p)).isSome = true := fun q v => by
    rw [valV_put]
    split
    · rfl
    · exact h
  cases e <;> first | exact h | exact put _ _
theorem seat_stay : ∀ (es : List Ev) (c : Crs) (p : Int), (valV c.seats (.inl p)).isSome = true → (valV (c.run es).seats (.inl p)).isSome = true
  | [], _, _, h => h
  | e :: es, c, p, h => seat_stay es (c.step e) p (seat_step h)
theorem seat_who : ∀ (es : List Ev) (c : Crs) (p : Int), p ∈ es.filterMap Ev.who → (valV (c.run es).seats (.inl p)).isSome = true
  | [], _, _, h => (nomatch h)
  | e :: es, c, p, h => by
    have put : ∀ (v : V), (valV (putK c.seats (.inl p) v) (.inl p)).isSome = true := fun v => by
      rw [valV_put, if_pos rfl]
      rfl
    cases e with
    | join q =>
      rcases List.mem_cons.mp (show p ∈ q :: es.filterMap Ev.who from h) with rfl | h
      · exact seat_stay es _ p (put _)
      · exact seat_who es _ p h
    | load q j =>
      rcases List.mem_cons.mp (show p ∈ q :: es.filterMap Ev.who from h) with rfl | h
      · exact seat_stay es _ p (put _)
      · exact seat_who es _ p h
    | _ => exact seat_who es _ p h
theorem RowsOk.len {lo hi : Int} {rs : List (Int × Str × Option Int)} (h : RowsOk lo hi rs) (h0 : 0 ≤ lo) (h1 : hi ≤ 20) : rs.length ≤ 20 := by
  have e2 := pigeonN 20 (rs.map fun r => r.1.toNat) (by
    refine List.pairwise_map.mpr (List.Pairwise.imp_of_mem (fun {x y} hx hy hxy => ?_) (List.pairwise_map.mp h.asc))
    have b1 := h.bd x hx
    have b2 := h.bd y hy
    omega) (fun z hz => by
    obtain ⟨x, hx, rfl⟩ := List.mem_map.mp hz
    have b1 := h.bd x hx
    omega)
  rwa [List.length_map] at e2
theorem Chn.at_ : ∀ {rs : List Rdg} {u t : Int} {i : Nat} {r : Rdg}, Chn u t rs → 0 ≤ u → rs[i]? = some r → ∃ lo, 0 ≤ lo ∧ lo < r.u ∧ r.u ≤ 20 ∧ RowsOk lo r.u r.rows
  | [], _, _, _, _, _, _, h => by simp at h
  | x :: rs, u, t, 0, r, ⟨a, b, c, d, e⟩, h0, h => by
    simp at h
    subst h
    exact ⟨u, h0, b, c, d⟩
  | x :: rs, u, t, i + 1, r, ⟨a, b, c, d, e⟩, h0, h => Chn.at_ (rs := rs) (i := i) e (by omega) (by simpa using h)
theorem Chn.take_ : ∀ {rs : List Rdg} {u t : Int} (i : Nat), Chn u t rs → Chn u t (rs.take i)
  | _, _, _, 0, _ => by rw [List.take_zero]; trivial
  | [], _, _, _ + 1, h => h
  | x :: rs, u, t, i + 1, ⟨a, b, c, d, e⟩ => ⟨a, b, c, d, Chn.take_ (rs := rs) i e⟩
theorem flat_ints (ns : List Int) : (ns.map V.int).all flatV = true := by
  rw [List.all_eq_true]
  intro v hv
  obtain ⟨k, _, rfl⟩ := List.mem_map.mp hv
  rfl
def SomeR (F : Hp) (r : Addr) : Prop := ∃ v0 v1 v2 v3 v4 rs, F r = some (.tup [v0, v1, v2, v3, v4]) ∧ (v3 = .non ∨ ∃ p : Int, v3 = .int p) ∧ ViewAt F v4 rs ∧ Chn 0 (-1) rs
def spSome : Sp := fun vs H Q _ => ∃ (F : Hp) (R : List Cell) (b : Addr) (bx : Bx) (N : Int), vs = [.ref b, .int 2] ∧ Ow F ((b, bx.o) :: R) H ∧ BxOk bx N ∧ N ≤ 700000 ∧
  ∀ (r : Addr) (F' : Hp) (bx' : Bx) (H' : Hp), Same F F' → BxOk bx' (N + 400) → Ow F' ((b, bx'.o) :: R) H' → SomeR F' r → Q (.ref r) H'
def spGaps : Sp := fun vs H Q _ => ∃ (F : Hp) (R : List Cell) (v : V) (rs : List Rdg), vs = [v] ∧ Ow F R H ∧ ViewAt F v rs ∧ Chn 0 (-1) rs ∧
  ∀ (l : Addr) (js : List Int) (F' H' : Hp), Same F F' → F' l = some (.lst (js.map V.int)) → js.length ≤ 100 → Ow F' R H' → Q (.ref l) H'
def rowD (x : Int × Str × Option Int) : PyData := .tuple [.int x.1, .str x.2.1, .none]
def NoN (rs : List Rdg) : Prop := ∀ r ∈ rs, ∀ x ∈ r.rows, x.2.2 ≠ none
def spWithout : Sp := fun vs H Q _ => ∃ (F : Hp) (R : List Cell) (v : V) (rs : List Rdg), vs = [v] ∧ Ow F R H ∧ ViewAt F v rs ∧ Chn 0 (-1) rs ∧
  ∀ (v' : V) (rs' : List Rdg) (F' H' : Hp), Same F F' → ViewAt F' v' rs' → Chn 0 (-1) rs' → NoN rs' → Ow F' R H' → Q v' H'
def spGood : Sp := fun vs H Q _ => ∃ (F : Hp) (R : List Cell) (b : Addr) (bx : Bx) (N : Int), vs = [.ref b] ∧ Ow F ((b, bx.o) :: R) H ∧ BxOk bx N ∧ N ≤ 600000 ∧
  ∀ (r : Addr) (F' : Hp) (bx' : Bx) (H' : Hp), Same F F' → BxOk bx' (N + 1200) → Ow F' ((b, bx'.o) :: R) H' → SomeR F' r → Q (.ref r) H'
section
variable {P : Program} {w : World} {K : PySem.W.Frag} {mg : Str → Option Value} {base : Heap}
abbrev s_w_some : Stmt := top 33
theorem sc_w_some : FnScope ["_law_box_here", "_law_folk", "_law_table_here", "_law_crowd", "_law_p", "_law_broom", "_law_keep", "_law_event_so"] ["_law_box_here", "_law_folk"] (defScope s_w_some) := ⟨rfl, rfl, rfl, by decide +kernel, rfl, by decide +kernel, by decide +kernel⟩
theorem bd_w_some : Bd "_law_some" "_law_some" s_w_some ["_law_box_here", "_law_folk"] := fun _ _ _ _ _ _ us hl => match us, hl with | [_, _], _ => rfl
/-! slots: 0 _law_box_here, 1 _law_folk, 2 _law_table_here, 3 _law_crowd, 4 _law_p, 5 _law_broom, 6 _law_keep, 7 _law_event_so -/
theorem ok_w_some {f : Addr} (S : Src K "_law_some" "_law_some" s_w_some f) (T : Blt mg) (G_w_take : Def P w K mg base "_law_take" ["_law_box_here", "_law_span"] 1 spTake) (G_w_of : Def P w K mg base "_law_of" ["_law_box_here", "_law_some_here"] 2 spOf)
    (G_w_tale : Def P w K mg base "_law_tale" ["_law_box_here", "_law_tries", "_law_most", "_law_folk"] 5 spTale) (G_w_drawn_broom : Def P w K mg base "_law_drawn_broom" ["_law_box_here", "_law_table_here"] 2 spDrawn) (G_w_view : Def P w K mg base "_law_view" ["_law_table_here", "_law_keep", "_law_broom", "_law_p"] 4 spView) :
    Fn P w K mg base f ["_law_box_here", "_law_folk"] 6 spSome := by
  refine fn_mk S sc_w_some bd_w_some (fun vs H Q E h => ?_) (fun cdv A outer s0 H vs Q E hr h => ?_)
  · obtain ⟨_, _, _, _, _, rfl, _⟩ := h
    rfl
  · obtain ⟨F, R, b, bx, N, rfl, O, B, hN, k⟩ := h
    have hu := hu_of hr
    refine ⟨_, (pss_cons (ps_set (i := 2) sc_w_some.nd rfl (Or.inl rfl) (pe_def G_w_tale (hr.mono (by decide)) rfl (pa_cons (pv 0) (pa_cons (pe_op op_add pe_int (pe_def G_w_take (hr.mono (by decide)) rfl (pa_cons (pv 0) (pa_cons pe_int pa_nil)))) (pa_cons pe_int (pa_cons (pv 1) pa_nil))))))
      (pss_cons (ps_par (i := 5) (j := 6) rfl sc_w_some.nd rfl rfl (by decide) rfl rfl (pa_cons (pe_def G_w_drawn_broom (hr.mono (by decide)) rfl (pa_cons (pv 0) (pa_cons (pv 2) pa_nil))) (pa_cons (pe_def G_w_of (hr.mono (by decide)) rfl (pa_cons (pv 0) (pa_cons (pe_lst (pa_cons pe_int (pa_cons pe_int (pa_cons pe_int (pa_cons pe_int (pa_cons pe_int (pa_cons pe_int pa_nil))))))) pa_nil))) pa_nil)) rfl)
      (pss_cons (ps_set (i := 3) sc_w_some.nd rfl (Or.inl rfl) (pe_callB (cl_srtI rfl) (by rfl) T.sorted (by decide +kernel) (pa_cons (pe_callTy (cl_setI rfl) (by rfl) T.set (by decide +kernel) (pa_cons (pe_lc (own := [("_law_event_so", 7)]) rfl sc_w_some.nd (pi_tup (pv 2)) (blkOk_by (N := ["_law_box_here", "_law_folk", "_law_table_here", "_law_crowd", "_law_p", "_law_broom", "_law_keep", "_law_event_so"]) (sc := defScope s_w_some) (own := [("_law_event_so", 7)]) (by decide +kernel)) (fun _ _ _ _ _ => (pg_name (i := 7) sc_w_some.nd rfl (Or.inl rfl))) (fun _ _ _ _ _ => (pts_one (pt_cmpR (r := rIn K false) op_in_seq (pe_ix (r := rIxT K) ix_tup (pv 7) pe_int (fun _ _ => rfl)) (pe_tup (pa_cons pe_str (pa_cons pe_str pa_nil))) rfl))) (fun _ _ _ _ _ => (pe_ix (r := rIxT K) ix_tup (pv 7) pe_int (fun _ _ => rfl)))) pa_nil)) pa_nil)))
      (pss_cons (ps_set (i := 4) sc_w_some.nd rfl (Or.inl rfl) (pe_ifExp (pt_cmpR (op_neD hr.units) (pv 3) (pe_lst pa_nil) (nomark _)) (pe_def G_w_of (hr.mono (by decide)) rfl (pa_cons (pv 0) (pa_cons (pv 3) pa_nil))) pe_non))
      (pss_one (ps_ret (pe_tup (pa_cons (pv 2) (pa_cons (pv 5) (pa_cons (pv 6) (pa_cons (pv 4) (pa_cons (pe_ifExp (pt_cmpR op_notN1 (pv 4) pe_non (nomark _)) (pe_def G_w_view (hr.mono (by decide)) rfl (pa_cons (pv 2) (pa_cons (pv 6) (pa_cons (pv 5) (pa_cons (pv 4) pa_nil))))) (pe_tup pa_nil)) pa_nil)))))))))))), ?_⟩
    walk_at "r"
    refine ⟨F, R, b, bx, 7, N, rfl, O, B, by omega, by omega, by omega, fun r7 bx H r0 r1 B O => ?_⟩
    walk_at "r"
    refine ⟨F, R, b, bx, 8 + r7, N + 1, rfl, O, B, by omega, by omega, by omega, fun ta tvs es F1 bx H s1 B O ht tab va hl => ?_⟩
    walk_at "r"
    refine ⟨F1, R, b, ta, bx, tvs, es, N + 1 + 200, rfl, O, ht, tab, hl, B, by omega, fun bra bvs ps F2 bx H s2 B O hb brs bok bl => ?_⟩
    walk_at "r"
    refine ⟨by walk_at "sz", fun kl hp => ?_⟩
    obtain ⟨F3, s3, h3, O⟩ := O.newF (o := .lst [.int 0, .int 0, .int 1, .int 1, .int 2, .int 3]) hp
    refine ⟨F3, R, b, kl, bx, _, N + 1 + 200 + 100, rfl, O, h3, B, by omega, by simp, by simp, fun kv bx H hkv B O => ?_⟩
    obtain ⟨kp, rfl⟩ : ∃ kp : Int, kv = .int kp := by
      simp only [List.mem_cons, List.not_mem_nil, or_false] at hkv
      rcases hkv with rfl | rfl | rfl | rfl | rfl | rfl <;> exact ⟨_, rfl⟩
    have s13 := s2.trans s3
    have ht := s13 _ _ ht
    have tab := tab.mono s13
    have htl := tab.length
    walk_at "r"
    refine lc_T tvs O ht (fun i _ acc => acc = ((es.take i).filterMap Ev.who).map V.int) rfl (fun D i x F' acc H hx s p l O => ?_) (fun D F' acc H s p l O => ?_)
    · obtain ⟨e, he, ea, rfl, hea⟩ := tab_get (tab.mono s) hx
      have hi : i < es.length := (List.getElem?_eq_some_iff.mp he).1
      have hw : (es.take (i + 1)).filterMap Ev.who = (es.take i).filterMap Ev.who ++ (match e.who with | some p => [p] | none => []) := by
        rw [List.take_add_one, he, List.filterMap_append]
        cases h : e.who <;> simp [h]
      cases e with
      | join q =>
        have hea : F' ea = some (.tup [.str "join", .int q]) := hea
        walk_at "R"
        refine rd_inT (by walk_at "sz") rfl rfl O fun H O => ?_
        walk_at "R"
        refine lcP (by omega) s l O ?_
        rw [hw, p, List.map_append]
        rfl
      | load q j =>
        have hea : F' ea = some (.tup [.str "load", .int q, .int j]) := hea
        walk_at "R"
        refine rd_inT (by walk_at "sz") rfl rfl O fun H O => ?_
        walk_at "R"
        refine lcP (by omega) s l O ?_
        rw [hw, p, List.map_append]
        rfl
      | put kk v =>
        have hea : F' ea = some (.tup [.str "put", .str kk, .int v]) := hea
        walk_at "R"
        refine rd_inT (by walk_at "sz") rfl rfl O fun H O => ?_
        walk_at "R"
        exact lcN s l O (by rw [hw, p]; simp [Ev.who])
      | drop kk =>
        have hea : F' ea = some (.tup [.str "drop", .str kk]) := hea
        walk_at "R"
        refine rd_inT (by walk_at "sz") rfl rfl O fun H O => ?_
        walk_at "R"
        exact lcN s l O (by rw [hw, p]; simp [Ev.who])
      | wait =>
        have hea : F' ea = some (.tup [.str "wait"]) := hea
        walk_at "R"
        refine rd_inT (by walk_at "sz") rfl rfl O fun H O => ?_
        walk_at "R"
        exact lcN s l O (by rw [hw, p]; simp [Ev.who])
      | read q u =>
        have hea : F' ea = some (.tup [.str "read", .int q, .int u]) := hea
        walk_at "R"
        refine rd_inT (by walk_at "sz") rfl rfl O fun H O => ?_
        walk_at "R"
        exact lcN s l O (by rw [hw, p]; simp [Ev.who])
      | save q =>
        have hea : F' ea = some (.tup [.str "save", .int q]) := hea
        walk_at "R"
        refine rd_inT (by walk_at "sz") rfl rfl O fun H O => ?_
        walk_at "R"
        exact lcN s l O (by rw [hw, p]; simp [Ev.who])
    · rw [htl, List.take_length] at p
      subst p
      have O := O.weak s
      have wl : (es.filterMap Ev.who).length < 60 := Nat.lt_of_le_of_lt (List.length_filterMap_le _ _) (by omega)
      walk_at "r"
      refine ⟨D, es.filterMap Ev.who, rfl, SqL.of (O.get 0), wl, fun sa hp => ?_⟩
      have O := O.new (o := SetXO (intKind P w) Value.int unI sa (es.filterMap Ev.who)) hp
      walk_at "r"
      refine ⟨sa, es.filterMap Ev.who, rfl, O.get 0, wl, fun ys cr hmem hyl hp => ?_⟩
      obtain ⟨F4, s4, h4, O⟩ := O.newF (o := .lst (ys.map V.int)) hp
      have O := O.drop.drop
      walk_at "r"
      refine rd_neNil (ds := ys.map PyData.int) (fun H1 O1 => .lst (SqL.of (O1.fz h4)) (dp_ints _)) (ok_ints _) O fun H O => ?_
      walk_at "r"
      refine brb (fun hne => ?_) (fun _ => ?_)
      · have hy : ys.map V.int ≠ [] := by
          cases ys with
          | nil => cases hne
          | cons y ys => simp
        walk_at "r"
        refine ⟨F4, R, b, cr, bx, _, N + 1 + 200 + 100 + 1, rfl, O, h4, B, by omega, hy, by rw [List.length_map]; omega, fun pv bx H hpv B O => ?_⟩
        obtain ⟨q, hq, rfl⟩ := List.mem_map.mp hpv
        have hse := seat_who es c0 q ((hmem q).mp hq)
        obtain ⟨sv, hsv⟩ := Option.isSome_iff_exists.mp hse
        obtain ⟨n, rfl, _⟩ := (run_ok CrsOk.zero va).val hsv
        walk_at "r"
        refine ⟨F4, (b, bx.o) :: R, ta, bra, tvs, bvs, es, ps, kp, q, n, rfl, O, s4 _ _ ht, tab.mono s4, va, hl, s4 _ _ (s3 _ _ hb), (brs.mono s3).mono s4, bok, bl, hsv, fun v rs F5 H s5 hv hc O => ?_⟩
        walk_at "r"
        refine ⟨by walk_at "sz", fun r hp => ?_⟩
        obtain ⟨F6, s6, h6, O⟩ := O.newF (o := .tup [.ref ta, .ref bra, .int kp, .int q, v]) hp
        exact k r F6 bx _ ((((s1.trans s13).trans s4).trans s5).trans s6) (B.mono (by omega)) O ⟨_, _, _, _, v, rs, h6, .inr ⟨q, rfl⟩, hv.mono s6, hc⟩
      · walk_at "r"
        refine ⟨by walk_at "sz", fun e0 hp => ?_⟩
        obtain ⟨F5, s5, h5, O⟩ := O.newF (o := .tup []) hp
        walk_at "r"
        refine ⟨by walk_at "sz", fun r hp => ?_⟩
        obtain ⟨F6, s6, h6, O⟩ := O.newF (o := .tup [.ref ta, .ref bra, .int kp, .non, .ref e0]) hp
        exact k r F6 bx _ ((((s1.trans s13).trans s4).trans s5).trans s6) (B.mono (by omega)) O ⟨_, _, _, _, _, [], h6, .inl rfl, ⟨e0, [], rfl, s6 _ _ h5, .nil⟩, trivial⟩
abbrev s_w_gaps : Stmt := top 34
theorem sc_w_gaps : FnScope ["_law_seen", "_law_got", "_law_far", "_law_when", "_law_end", "_law_rows", "_law_k", "_law_row"] ["_law_seen"] (defScope s_w_gaps) := ⟨rfl, rfl, rfl, by decide +kernel, rfl, by decide +kernel, by decide +kernel⟩
theorem bd_w_gaps : Bd "_law_gaps" "_law_gaps" s_w_gaps ["_law_seen"] := fun _ _ _ _ _ _ us hl => match us, hl with | [_], _ => rfl
/-! slots: 0 _law_seen, 1 _law_got, 2 _law_far, 3 _law_when, 4 _law_end, 5 _law_rows, 6 _law_k, 7 _law_row -/
theorem ok_w_gaps {f : Addr} (S : Src K "_law_gaps" "_law_gaps" s_w_gaps f) (T : Blt mg) : Fn P w K mg base f ["_law_seen"] 1 spGaps := by
  refine fn_mk S sc_w_gaps bd_w_gaps (fun vs H Q E h => ?_) (fun cdv A outer s0 H vs Q E hr h => ?_)
  · obtain ⟨_, _, _, _, rfl, _⟩ := h
    rfl
  · obtain ⟨F, R, v, rs, rfl, O, ⟨a, vs, rfl, ha, hps⟩, hc, k⟩ := h
    have hu := hu_of hr
    have hvl := hps.length
    have hcl := hc.len (by decide)
    refine ⟨_, (pss_cons (ps_asg (pe_tup (pa_cons (pe_lst pa_nil) (pa_cons pe_int pa_nil))) (pg_tup (n := 2) rfl (pgs_cons (pg_name (i := 1) sc_w_gaps.nd rfl (Or.inr rfl)) (pgs_cons (pg_name (i := 2) sc_w_gaps.nd rfl (Or.inl rfl)) pgs_nil))))
      (pss_cons (ps_for PassesOwn.never rfl (pi_tup (pv 0)) (pg_tup (n := 3) rfl (pgs_cons (pg_name (i := 3) sc_w_gaps.nd rfl (Or.inl rfl)) (pgs_cons (pg_name (i := 4) sc_w_gaps.nd rfl (Or.inl rfl)) (pgs_cons (pg_name (i := 5) sc_w_gaps.nd rfl (Or.inl rfl)) pgs_nil))))
        (pss_one (ps_asg (pe_tup (pa_cons (pe_op op_cat (pv 1) (pe_lc (own := [("_law_row", 7)]) rfl sc_w_gaps.nd (pi_tup (pv 5)) (blkOk_by (N := ["_law_seen", "_law_got", "_law_far", "_law_when", "_law_end", "_law_rows", "_law_k", "_law_row"]) (sc := defScope s_w_gaps) (own := [("_law_row", 7)]) (by decide +kernel)) (fun _ _ _ _ _ => (pg_name (i := 7) sc_w_gaps.nd rfl (Or.inl rfl))) (fun _ _ _ _ _ => pts_nil) (fun _ _ _ _ _ => (pe_ix (r := rIxT K) ix_tup (pv 7) pe_int (fun _ _ => rfl))))) (pa_cons (pv 4) pa_nil))) (pg_tup (n := 2) rfl (pgs_cons (pg_name (i := 1) sc_w_gaps.nd rfl (Or.inr rfl)) (pgs_cons (pg_name (i := 2) sc_w_gaps.nd rfl (Or.inl rfl)) pgs_nil))))))
      (pss_one (ps_ret (pe_lc (own := [("_law_k", 6)]) rfl sc_w_gaps.nd (pi_range1 rfl T.range (pa_cons (pv 2) pa_nil)) (blkOk_by (N := ["_law_seen", "_law_got", "_law_far", "_law_when", "_law_end", "_law_rows", "_law_k", "_law_row"]) (sc := defScope s_w_gaps) (own := [("_law_k", 6)]) (by decide +kernel)) (fun _ _ _ _ _ => (pg_name (i := 6) sc_w_gaps.nd rfl (Or.inl rfl))) (fun _ _ _ _ _ => (pts_one (pt_cmpR (r := rIn K true) op_notIn_seq (pv 6) (pv 1) rfl))) (fun _ _ _ _ _ => (pv 6))))))), ?_⟩
    walk_at "r"
    refine ⟨by walk_at "sz", fun gl hp => ?_⟩
    have O := O.new (o := .lst []) hp
    walk_at "r"
    refine ⟨by walk_at "sz", fun t0 hp => ?_⟩
    obtain ⟨F0, z0, h0, O⟩ := O.newF (o := .tup [.ref gl, .int 0]) hp
    walk_at "r"
    have ha0 := z0 _ _ ha
    refine lp_T vs (fun i σ' H' => ∃ (F1 : Hp) (gl : Addr) (ns : List Int) (far : Int) (v3 v4 v5 v6 v7 : Option V), σ' = [some (.ref a), some (.ref gl), some (.int far), v3, v4, v5, v6, v7] ∧ Same F F1 ∧ ns.length ≤ 100 * i ∧ 0 ≤ far ∧ far ≤ 20 ∧ Ow F1 ((gl, .lst (ns.map V.int)) :: R) H')
      ⟨F0, gl, [], 0, _, _, _, _, _, rfl, z0, Nat.le_refl _, Int.le_refl _, by decide, O⟩ (fun i σ' H' _ ⟨_, _, _, _, _, _, _, _, _, _, s1, _, _, _, O⟩ => SqT.of (O.fz (s1 _ _ ha))) ?_ ?_
    · rintro i x σ' H' hx ⟨F1, gl, ns, far, v3, v4, v5, v6, v7, rfl, s1, hnl, f0, f1, O⟩
      obtain ⟨r, hr1, ra, rb, refs, rfl, hra, hrb, h3⟩ := L2.paired_get hps hx
      obtain ⟨lo, l0, l1, l2, rok⟩ := hc.at_ (Int.le_refl _) hr1
      have hra := s1 _ _ hra
      have hrb := s1 _ _ hrb
      have h3 := h3.mono s1
      have hrl := rok.len l0 l2
      have hr3 := h3.length
      have hi : i < rs.length := (List.getElem?_eq_some_iff.mp hr1).1
      walk_at "r"
      refine lc_T refs O hrb (fun i _ acc => acc = (r.rows.take i).map fun x => V.int x.1) rfl (fun D j x F' acc H hx s p l O => ?_) (fun D F' acc H s p l O => ?_)
      · obtain ⟨y, hy, ya, rfl, hya⟩ := L2.paired_get (h3.mono s) hx
        have hj : j < r.rows.length := (List.getElem?_eq_some_iff.mp hy).1
        walk_at "r"
        refine lcP (by omega) s l O ?_
        rw [p, List.take_add_one, hy, List.map_append]
        rfl
      · rw [hr3, List.take_length] at p
        subst p
        have O := O.weak s
        have e1 : (ns.map V.int ++ r.rows.map fun x => V.int x.1) = (ns ++ r.rows.map (·.1)).map V.int := by rw [List.map_append, List.map_map]; rfl
        refine rd_cat (O.get 1) (O.get 0) (szl (by simp; omega)) fun g2 hp => ?_
        rw [e1]
        have O := O.new (o := .lst ((ns ++ r.rows.map (·.1)).map V.int)) hp
        have O := (O.er 1).er 1
        walk_at "r"
        refine ⟨by walk_at "sz", fun t1 hp => ?_⟩
        obtain ⟨F2, s2, h2, O⟩ := O.newF (o := .tup [.ref g2, .int r.u]) hp
        walk_at "r"
        exact ⟨F2, g2, _, r.u, _, _, _, _, _, rfl, s1.trans s2, by simp; omega, by omega, l2, O⟩
    · rintro σ' H' ⟨F1, gl, ns, far, v3, v4, v5, v6, v7, rfl, s1, hnl, f0, f1, O⟩
      walk_at "r"
      refine lc_R1 f0 (by omega) O (fun i _ acc => ∃ js : List Int, acc = js.map V.int ∧ js.length ≤ i) ⟨[], rfl, Nat.le_refl _⟩ (fun D i F' acc H hi s p l O => ?_) (fun D F' acc H s p l O => ?_)
      · obtain ⟨js, rfl, hjl⟩ := p
        walk_at "r"
        refine rd_ninL (SqL.of (O.get 1)) rfl (flat_ints ns) ?_
        walk_at "r"
        refine brb (fun _ => ?_) (fun _ => ?_)
        · walk_at "r"
          exact lcP (by omega) s l O ⟨js ++ [(i : Int)], by simp, by simp; omega⟩
        · exact lcN s l O ⟨js, rfl, by omega⟩
      · obtain ⟨js, rfl, hjl⟩ := p
        have O2 := O.freeze
        exact k D js _ H ((s1.trans s).trans O.fle) upd_same (by omega) O2.drop
abbrev s_w_good : Stmt := top 35
theorem sc_w_good : FnScope ["_law_box_here", "_law_turn", "_law_table_here", "_law_broom", "_law_keep", "_law_p", "_law_seen"] ["_law_box_here"] (defScope s_w_good) := ⟨rfl, rfl, rfl, by decide +kernel, rfl, by decide +kernel, by decide +kernel⟩
theorem bd_w_good : Bd "_law_good" "_law_good" s_w_good ["_law_box_here"] := fun _ _ _ _ _ _ us hl => match us, hl with | [_], _ => rfl
/-! slots: 0 _law_box_here, 1 _law_turn, 2 _law_table_here, 3 _law_broom, 4 _law_keep, 5 _law_p, 6 _law_seen -/
theorem ok_w_good {f : Addr} (S : Src K "_law_good" "_law_good" s_w_good f) (T : Blt mg) (G_w_some : Def P w K mg base "_law_some" ["_law_box_here", "_law_folk"] 6 spSome) (G_w_gaps : Def P w K mg base "_law_gaps" ["_law_seen"] 1 spGaps) : Fn P w K mg base f ["_law_box_here"] 7 spGood := by
  refine fn_mk S sc_w_good bd_w_good (fun vs H Q E h => ?_) (fun cdv A outer s0 H vs Q E hr h => ?_)
  · obtain ⟨_, _, _, _, _, rfl, _⟩ := h
    rfl
  · obtain ⟨F, R, b, bx, N, rfl, O, B, hN, k⟩ := h
    have hu := hu_of hr
    refine ⟨_, (pss_cons (ps_for PassesOwn.never rfl (pi_range1 rfl T.range (pa_cons pe_int pa_nil)) (pg_name (i := 1) sc_w_good.nd rfl (Or.inl rfl))
        (pss_cons (ps_asg (pe_def G_w_some (hr.mono (by decide)) rfl (pa_cons (pv 0) (pa_cons pe_int pa_nil))) (pg_tup (n := 5) rfl (pgs_cons (pg_name (i := 2) sc_w_good.nd rfl (Or.inl rfl)) (pgs_cons (pg_name (i := 3) sc_w_good.nd rfl (Or.inl rfl)) (pgs_cons (pg_name (i := 4) sc_w_good.nd rfl (Or.inl rfl)) (pgs_cons (pg_name (i := 5) sc_w_good.nd rfl (Or.inl rfl)) (pgs_cons (pg_name (i := 6) sc_w_good.nd rfl (Or.inl rfl)) pgs_nil)))))))
        (pss_one (ps_if (PW.pt (pw_and (pt_cmpR op_notN1 (pv 5) pe_non (nomark _)) (pw_and1 (pt_cmpR (op_neD hr.units) (pe_def G_w_gaps (hr.mono (by decide)) rfl (pa_cons (pv 6) pa_nil)) (pe_lst pa_nil) (nomark _)))))
          (pss_one (ps_ret (pe_tup (pa_cons (pv 2) (pa_cons (pv 3) (pa_cons (pv 4) (pa_cons (pv 5) (pa_cons (pv 6) pa_nil))))))))
          pss_nil))))
      (pss_one (ps_ret (pe_tup (pa_cons (pv 2) (pa_cons (pv 3) (pa_cons (pv 4) (pa_cons (pv 5) (pa_cons (pv 6) pa_nil))))))))), ?_⟩
    walk_at "r"
    refine lp_R1 (by decide) (by decide) (fun i σ' H' => ∃ (F1 : Hp) (bx1 : Bx) (v1 w0 w1 w2 w3 w4 : Option V), σ' = [some (.ref b), v1, w0, w1, w2, w3, w4] ∧ Same F F1 ∧ BxOk bx1 (N + 400 * i) ∧ Ow F1 ((b, bx1.o) :: R) H' ∧
        (0 < i → ∃ v0 v1 v2 v3 v4 rs, w0 = some v0 ∧ w1 = some v1 ∧ w2 = some v2 ∧ w3 = some v3 ∧ w4 = some v4 ∧ (v3 = .non ∨ ∃ p : Int, v3 = .int p) ∧ ViewAt F1 v4 rs ∧ Chn 0 (-1) rs))
      ⟨F, bx, _, _, _, _, _, _, rfl, Same.refl _, B.mono (by omega), O, fun h => by omega⟩ ?_ ?_
    · rintro i σ' H' hi ⟨F1, bx1, v1, w0, w1, w2, w3, w4, rfl, s1, B, O, _⟩
      walk_at "r"
      refine ⟨F1, R, b, bx1, N + 400 * i, rfl, O, B, by omega, fun r F2 bx2 H s2 B O ⟨y0, y1, y2, y3, y4, rs, hr', hy3, hv, hc⟩ => ?_⟩
      have B : BxOk bx2 (N + 400 * ((i + 1 : Nat) : Int)) := B.mono (by omega)
      rcases hy3 with rfl | ⟨p, rfl⟩
      · walk_at "r"
        exact ⟨F2, bx2, _, _, _, _, _, _, rfl, s1.trans s2, B, O, fun _ => ⟨_, _, _, _, _, rs, rfl, rfl, rfl, rfl, rfl, .inl rfl, hv, hc⟩⟩
      · walk_at "r"
        refine ⟨F2, (b, bx2.o) :: R, y4, rs, rfl, O, hv, hc, fun l js F3 H s3 h3 hjl O => ?_⟩
        walk_at "r"
        refine rd_neNil (ds := js.map PyData.int) (fun H1 O1 => .lst (SqL.of (O1.fz h3)) (dp_ints _)) (ok_ints _) O fun H O => ?_
        walk_at "r"
        refine brb (fun _ => ?_) (fun _ => ?_)
        · walk_at "r"
          refine ⟨by walk_at "sz", fun r2 hp => ?_⟩
          obtain ⟨F4, s4, h4, O⟩ := O.newF (o := .tup [y0, y1, y2, .int p, y4]) hp
          exact k r2 F4 bx2 _ (((s1.trans s2).trans s3).trans s4) (B.mono (by omega)) O ⟨_, _, _, _, _, rs, h4, .inr ⟨p, rfl⟩, (hv.mono s3).mono s4, hc⟩
        · walk_at "r"
          exact ⟨F3, bx2, _, _, _, _, _, _, rfl, (s1.trans s2).trans s3, B, O, fun _ => ⟨_, _, _, _, _, rs, rfl, rfl, rfl, rfl, rfl, .inr ⟨p, rfl⟩, hv.mono s3, hc⟩⟩
    · rintro σ' H' ⟨F1, bx1, v1, w0, w1, w2, w3, w4, rfl, s1, B, O, hh⟩
      obtain ⟨y0, y1, y2, y3, y4, rs, rfl, rfl, rfl, rfl, rfl, hy3, hv, hc⟩ := hh (by decide)
      walk_at "r"
      refine ⟨by walk_at "sz", fun r2 hp => ?_⟩
      obtain ⟨F4, s4, h4, O⟩ := O.newF (o := .tup [y0, y1, y2, y3, y4]) hp
      exact k r2 F4 bx1 _ (s1.trans s4) (B.mono (by show N + 400 * ((3 : Nat) : Int) ≤ _; omega)) O ⟨_, _, _, _, _, rs, h4, hy3, hv.mono s4, hc⟩
abbrev s_w_without : Stmt := top 36
theorem sc_w_without : FnScope ["_law_seen", "_law_found", "_law_when", "_law_end", "_law_got", "_law_row"] ["_law_seen"] (defScope s_w_without) := ⟨rfl, rfl, rfl, by decide +kernel, rfl, by decide +kernel, by decide +kernel⟩
theorem bd_w_without : Bd "_law_without" "_law_without" s_w_without ["_law_seen"] := fun _ _ _ _ _ _ us hl => match us, hl with | [_], _ => rfl
/-! slots: 0 _law_seen, 1 _law_found, 2 _law_when, 3 _law_end, 4 _law_got, 5 _law_row -/
theorem ok_w_without {f : Addr} (S : Src K "_law_without" "_law_without" s_w_without f) (T : Blt mg) : Fn P w K mg base f ["_law_seen"] 1 spWithout := by
  refine fn_mk S sc_w_without bd_w_without (fun vs H Q E h => ?_) (fun cdv A outer s0 H vs Q E hr h => ?_)
  · obtain ⟨_, _, _, _, rfl, _⟩ := h
    rfl
  · obtain ⟨F, R, v, rs, rfl, O, ⟨a, vs, rfl, ha, hps⟩, hc, k⟩ := h
    have hu := hu_of hr
    have hvl := hps.length
    have hcl := hc.len (by decide)
    refine ⟨_, (pss_cons (ps_set (i := 1) sc_w_without.nd rfl (Or.inl rfl) (pe_lst pa_nil))
      (pss_cons (ps_for PassesOwn.never rfl (pi_tup (pv 0)) (pg_tup (n := 3) rfl (pgs_cons (pg_name (i := 2) sc_w_without.nd rfl (Or.inl rfl)) (pgs_cons (pg_name (i := 3) sc_w_without.nd rfl (Or.inl rfl)) (pgs_cons (pg_name (i := 4) sc_w_without.nd rfl (Or.inl rfl)) pgs_nil))))
        (pss_cons (ps_if (pt_cmpR (op_neD hr.units) (pe_lc (own := [("_law_row", 5)]) rfl sc_w_without.nd (pi_tup (pv 4)) (blkOk_by (N := ["_law_seen", "_law_found", "_law_when", "_law_end", "_law_got", "_law_row"]) (sc := defScope s_w_without) (own := [("_law_row", 5)]) (by decide +kernel)) (fun _ _ _ _ _ => (pg_name (i := 5) sc_w_without.nd rfl (Or.inl rfl))) (fun _ _ _ _ _ => (pts_one (pt_cmpR op_isN1 (pe_ix (r := rIxT K) ix_tup (pv 5) pe_int (fun _ _ => rfl)) pe_non (nomark _)))) (fun _ _ _ _ _ => (pv 5))) (pe_lst pa_nil) (nomark _))
          (pss_one (ps_ret (pe_callTy cl_tupL (by rfl) T.tuple (by decide +kernel) (pa_cons (pv 1) pa_nil))))
          pss_nil)
        (pss_one (ps_expr (pe_bm PySem.F.plainAttrs_list PySem.F.slot_list_append PySem.F.type_list_append mt_append (pv 1) (pa_cons (pe_tup (pa_cons (pv 2) (pa_cons (pv 3) (pa_cons (pv 4) pa_nil)))) pa_nil))))))
      (pss_one (ps_ret (pe_callTy cl_tupL (by rfl) T.tuple (by decide +kernel) (pa_cons (pv 1) pa_nil)))))), ?_⟩
    walk_at "r"
    refine ⟨by walk_at "sz", fun fl hp => ?_⟩
    have O := O.new (o := .lst []) hp
    walk_at "r"
    refine lp_T vs (fun i σ' H' => ∃ (F1 : Hp) (found : List V) (v2 v3 v4 v5 : Option V), σ' = [some (.ref a), some (.ref fl), v2, v3, v4, v5] ∧ Same F F1 ∧ Paired (RdgAt F1) found (rs.take i) ∧ NoN (rs.take i) ∧ Ow F1 ((fl, .lst found) :: R) H')
      ⟨F, [], _, _, _, _, rfl, Same.refl _, .nil, fun _ h => (nomatch h), O⟩ (fun i σ' H' _ ⟨_, _, _, _, _, _, _, s1, _, _, O⟩ => SqT.of (O.fz (s1 _ _ ha))) ?_ ?_
    · rintro i x σ' H' hx ⟨F1, found, v2, v3, v4, v5, rfl, s1, hfo, hno, O⟩
      obtain ⟨r, hr1, ra, rb, refs, rfl, hra, hrb, h3⟩ := L2.paired_get hps hx
      have hra := s1 _ _ hra
      have hrb := s1 _ _ hrb
      have h3 := h3.mono s1
      have hr3 := h3.length
      have hfl := hfo.length
      have htk : (rs.take i).length ≤ rs.length := by rw [List.length_take]; omega
      have hi : i < rs.length := (List.getElem?_eq_some_iff.mp hr1).1
      obtain ⟨lo, l0, l1, l2, rok⟩ := hc.at_ (Int.le_refl _) hr1
      have hrl := rok.len l0 l2
      walk_at "r"
      refine lc_T refs O hrb (fun i F' acc => Rows3At F' acc ((r.rows.take i).filter fun x => x.2.2.isNone)) .nil (fun D j x F' acc H hx s p l O => ?_) (fun D F' acc H s p l O => ?_)
      · obtain ⟨⟨k0, key, o⟩, hy, ya, rfl, hya⟩ := L2.paired_get (h3.mono s) hx
        have hj : j < r.rows.length := (List.getElem?_eq_some_iff.mp hy).1
        cases o with
        | none =>
          have hya : F' ya = some (.tup [.int k0, .str key, .non]) := hya
          walk_at "r"
          refine lcP (by omega) s l O ?_
          rw [List.take_add_one, hy, List.filter_append]
          exact p.snoc ⟨ya, rfl, hya⟩
        | some n =>
          have hya : F' ya = some (.tup [.int k0, .str key, .int n]) := hya
          walk_at "r"
          refine lcN s l O ?_
          rw [List.take_add_one, hy, List.filter_append]
          simpa using p
      · rw [hr3, List.take_length] at p
        have hall : ∀ x ∈ r.rows.filter (fun x => x.2.2.isNone), x.2.2 = none := fun x hx => by
          have := (List.mem_filter.mp hx).2
          simpa using this
        have hkz : ∀ x ∈ r.rows.filter (fun x => x.2.2.isNone), KeyOk x.2.1 := fun x hx => (rok.bd x (List.mem_filter.mp hx).1).2.2
        generalize hzs : r.rows.filter (fun x => x.2.2.isNone) = zs at p hall hkz
        have dpz : ∀ {H1 : Hp}, Same F' H1 → ∀ {us : List V} {zs : List (Int × Str × Option Int)}, Rows3At F' us zs → (∀ x ∈ zs, x.2.2 = none) → DpAll K H1 us (zs.map rowD) := by
          intro H1 sm us zs h
          induction h with
          | nil => exact fun _ => .nil
          | cons q t ih =>
            intro hz
            obtain ⟨qa, rfl, hqa⟩ := q
            have e0 := hz _ (List.mem_cons_self ..)
            rw [e0] at hqa
            exact .cons (.tup (SqT.of (sm _ _ hqa)) (.cons (.int _) (.cons (.str _) (.cons .non .nil)))) (ih fun x hx => hz x (List.mem_cons_of_mem _ hx))
        have O0 := O
        have O := O.freeze
        have fz := O0.fle
        refine rd_neNil (ds := zs.map rowD) (fun H1 O1 => .lst (SqL.of (O1.fz upd_same)) (dpz (fz.trans O1.le) p hall)) (fun d hd => ?_) O fun H O => ?_
        · obtain ⟨x, hx, rfl⟩ := List.mem_map.mp hd
          have e0 : PyData.strOk x.2.1 = true := by rcases hkz x hx with e | e | e <;> (rw [e]; decide +kernel)
          exact ⟨by simp [rowD, PyData.canLay0, PyData.canLayAll0, e0], by simp [rowD, PyData.depth, PyData.depthAll]⟩
        have s2 := s.trans fz
        walk_at "r"
        refine brb (fun _ => ?_) (fun hz => ?_)
        · walk_at "r"
          intro l hp
          have O := O.drop
          obtain ⟨F4, s4, h4, O⟩ := O.newF (o := .tup found) hp
          exact k _ _ F4 _ ((s1.trans s2).trans s4) ⟨l, found, rfl, h4, L2.Paired.mapP hfo fun _ _ z => (z.mono s2).mono s4⟩ (hc.take_ i) hno O
        · walk_at "r"
          refine ⟨by walk_at "sz", fun t1 hp => ?_⟩
          obtain ⟨F4, s4, h4, O⟩ := O.newF (o := .tup [.int r.t, .int r.u, .ref rb]) hp
          walk_at "r"
          have O := O.set 0 (.lst (found ++ [.ref t1]))
          have s24 := s2.trans s4
          refine ⟨F4, found ++ [V.ref t1], _, _, _, _, rfl, s1.trans s24, ?_, ?_, O⟩
          · rw [List.take_add_one, hr1]
            exact (L2.Paired.mapP hfo fun _ _ z => z.mono s24).snoc ⟨t1, rb, refs, rfl, h4, s24 _ _ hrb, h3.mono s24⟩
          · intro y hy
            rw [List.take_add_one, hr1] at hy
            rcases List.mem_append.mp hy with hy | hy
            · exact hno y hy
            · rw [List.mem_singleton.mp hy]
              intro x hx e0
              have hm : x ∈ r.rows.filter (fun x => x.2.2.isNone) := List.mem_filter.mpr ⟨hx, by rw [e0]; rfl⟩
              rw [hzs] at hm
              cases zs with
              | nil => cases hm
              | cons _ _ => cases hz
    · rintro σ' H' ⟨F1, found, v2, v3, v4, v5, rfl, s1, hfo, hno, O⟩
      walk_at "r"
      intro l hp
      have O := O.drop
      obtain ⟨F4, s4, h4, O⟩ := O.newF (o := .tup found) hp
      exact k _ _ F4 _ (s1.trans s4) ⟨l, found, rfl, h4, L2.Paired.mapP hfo fun _ _ z => z.mono s4⟩ (hc.take_ _) hno O
end
end K7

set_option Elab.async false
set_option linter.all false
set_option maxRecDepth 100000
set_option maxHeartbeats 4000000
set_option pp.deepTerms false
set_option pp.maxSteps 600
namespace K7
open PySem PySem.Spec PyProof.Rows L2 ItX
local macro_rules | `(tactic| walk_at "hp") => `(tactic| with_unfolding_all first
  | exact Ow.get (by assumption) 0 | exact Ow.get (by assumption) 1 | exact Ow.get (by assumption) 2 | exact Ow.get (by assumption) 3
  | exact Ow.fz (by assumption) (by assumption)
  | exact Ow.get (by assumption) 4 | exact Ow.get (by assumption) 5 | exact Ow.get (by assumption) 6 | exact Ow.get (by assumption) 7 | exact Ow.get (by assumption) 8 | exact Ow.get (by assumption) 9)
local macro_rules | `(tactic| walk_at "sq") => `(tactic| with_unfolding_all first
  | exact SqL.of (by walk_at "hp") | exact SqT.of (by walk_at "hp") | assumption)
local macro_rules | `(tactic| walk_at "rd") => `(tactic| with_unfolding_all first
  | exact Rd.of (by walk_at "hp") | assumption)
local macro_rules | `(tactic| walk_at "dk") => `(tactic| assumption)
local macro_rules | `(tactic| walk_at "cl") => `(tactic| assumption)
local macro_rules | `(tactic| walk_at "na") => `(tactic| assumption)
local macro_rules | `(tactic| walk_at "ai") => `(tactic| first | with_unfolding_all rfl | exact atI_zero | assumption)
local macro_rules | `(tactic| walk_at "sd") => `(tactic| with_unfolding_all first
  | rfl | assumption | decide | omega
  | exact ⟨by omega, by omega⟩ | exact Or.inl ⟨by omega, by omega⟩ | exact Or.inr ⟨by omega, by omega⟩ | exact ⟨by decide, by decide, by omega⟩)
local macro_rules | `(tactic| walk_at "sz") => `(tactic| first
  | with_unfolding_all exact szl (Nat.le_of_ble_eq_true rfl)
  | with_unfolding_all exact sztl (Nat.le_of_ble_eq_true rfl)
  | exact szl (by simp <;> omega)
  | exact sztl (by simp <;> omega))
local macro_rules | `(tactic| walk_at "s") => `(tactic| first
  | with_reducible refine rd_I0 ?_
  | ((with_reducible apply rd_I); (focus walk_at "sd"))
  | ((with_reducible apply rd_opVC); (focus with_unfolding_all rfl))
  | ((with_reducible apply rd_opVV); (focus with_unfolding_all rfl); (focus with_unfolding_all rfl))
  | ((with_reducible apply rd_opV); (focus with_unfolding_all rfl))
  | with_reducible refine rd_opC ?_
  | with_reducible refine rd_op ?_
  | ((with_reducible apply rd_var); (focus with_unfolding_all rfl))
  | with_reducible refine rd_c ?_
  | with_reducible refine rd_sSet ?_
  | ((with_reducible apply rd_CB1V); (focus with_unfolding_all rfl)) | with_reducible refine rd_CB1 ?_ | with_reducible refine rd_CB ?_
  | ((with_reducible apply rd_consV); (focus with_unfolding_all rfl)) | with_reducible refine rd_consC ?_ | with_reducible refine rd_cons0 ?_ | with_reducible refine rd_cons ?_ | with_reducible refine rd_nil ?_
  | ((with_reducible apply rd_ixL); (focus walk_at "sq"); (focus walk_at "ai"))
  | ((with_reducible apply rd_ixT); (focus walk_at "sq"); (focus walk_at "ai"))
  | with_reducible refine rd_int ?_ | with_reducible refine rd_intB ?_ | with_reducible refine rd_abs ?_
  | ((with_reducible apply rd_len); (focus walk_at "sq")) | ((with_reducible apply rd_lenT); (focus walk_at "sq"))
  | with_reducible refine rd_ifS ?_ | with_reducible refine iteT ?_ | with_reducible refine iteF ?_
  | with_reducible refine rd_tTest ?_ | with_reducible refine rd_tB ?_ | with_reducible refine rd_ex ?_
  | with_reducible refine rd_seqD ?_ | with_reducible refine rd_sSet1 ?_ | with_reducible refine rd_ret ?_ | with_reducible refine rd_drop ?_ | with_reducible refine rd_asg ?_
  | ((with_reducible apply rd_eq); (focus with_unfolding_all rfl)) | ((with_reducible apply rd_ne); (focus with_unfolding_all rfl))
  | with_reducible refine rd_isNr ?_ | with_reducible refine rd_notNr ?_ | with_reducible refine rd_isNn ?_ | with_reducible refine rd_notNn ?_ | with_reducible refine rd_isNi ?_ | with_reducible refine rd_notNi ?_
  | with_reducible refine rd_isN ?_ | with_reducible refine rd_notN ?_
  | with_reducible refine rd_and ?_ | with_reducible refine rd_or ?_ | with_reducible refine rd_not ?_ | with_reducible refine rd_if ?_
  | with_reducible refine rd_seq ?_ | with_reducible refine rd_gName ?_ | with_reducible refine rd_next ?_ | with_reducible refine rd_retN ?_
  | with_reducible refine rd_gSub ?_ | with_reducible refine rd_gCons ?_ | with_reducible refine rd_gNil ?_ | ((with_reducible apply rd_gTup); (focus walk_at "sq"); (focus with_unfolding_all rfl))
  | ((with_reducible apply rd_setL); (focus walk_at "hp"); (focus with_unfolding_all rfl))
  | with_reducible refine rd_par ?_ | with_reducible refine rd_par3 ?_ | with_reducible refine rd_ex2 ?_ | with_reducible refine rd_ex3 ?_
  | with_reducible refine rd_dget ?_ | with_reducible refine rd_din ?_ | with_reducible refine rd_dnotin ?_
  | ((with_reducible apply rd_dgS); (focus walk_at "rd"); (focus walk_at "dk"))
  | ((with_reducible apply rd_dgI); (focus walk_at "rd"); (focus walk_at "dk"))
  | ((with_reducible apply rd_doS); (focus walk_at "rd")) | ((with_reducible apply rd_doI); (focus walk_at "rd"))
  | with_reducible refine rd_dput ?_
  | ((with_reducible apply rd_dpS); (focus walk_at "hp"); (focus walk_at "sz")) | ((with_reducible apply rd_dpI); (focus walk_at "hp"); (focus walk_at "sz"))
  | with_reducible refine rd_bm ?_
  | ((with_reducible apply rd_tyL); (focus walk_at "hp")) | ((with_reducible apply rd_append); (focus walk_at "hp"); (focus walk_at "sz"))
  | with_reducible refine rd_tup ?_ | with_reducible refine rd_lst ?_ | with_reducible refine rd_dnew ?_
  | with_reducible refine rd_for ?_ | with_reducible refine rd_iR1 ?_ | with_reducible refine rd_iR2 ?_ | with_reducible refine rd_iL ?_ | with_reducible refine rd_iT ?_
  | with_reducible refine rd_disp ?_ | with_reducible refine rd_pair ?_ | with_reducible refine rd_pair0 ?_
  | with_reducible refine rd_andV ?_ | with_reducible refine rd_orV ?_
  | ((with_reducible apply rd_tupL); (focus walk_at "sq")) | ((with_reducible apply rd_listT); (focus walk_at "sq"))
  | with_reducible refine rd_lc ?_ | ((with_reducible apply rd_wp); (focus with_unfolding_all rfl)) | with_reducible refine rd_yes ?_
  | with_reducible refine rd_sl ?_ | with_reducible refine rd_noPart ?_ | with_reducible refine rd_part ?_ | with_reducible refine rd_exI ?_
  | ((with_reducible apply rd_isd); (focus walk_at "rd")) | ((with_reducible apply rd_dg1S); (focus walk_at "rd")) | ((with_reducible apply rd_dg1I); (focus walk_at "rd"))
  | with_reducible refine rd_dget1 ?_ | with_reducible refine rd_dget2 ?_ | with_reducible refine rd_dpop2 ?_ | with_reducible refine rd_dpop1 ?_ | with_reducible refine rd_dsetd ?_
  | ((with_reducible apply rd_slL); (focus walk_at "sq"))
  | with_reducible refine rd_iE ?_ | with_reducible refine rd_iS ?_
  | ((with_reducible apply rd_dictD); (focus walk_at "rd"))
  | with_reducible refine rd_setD ?_
  | with_reducible refine rd_meth ?_ | ((with_reducible apply rd_me); (focus walk_at "hp"); (focus with_unfolding_all rfl))
  | with_reducible refine rd_fld ?_ | ((with_reducible apply rd_fl); (focus walk_at "hp"); (focus walk_at "cl"); (focus walk_at "na"); (focus with_unfolding_all rfl))
  | with_reducible refine rd_sfld ?_ | with_reducible refine rd_gfld ?_
  | ((with_reducible apply rd_sfl); (focus walk_at "hp"); (focus walk_at "cl"); (focus walk_at "na"); (focus with_unfolding_all decide); (focus with_unfolding_all rfl))
  | with_reducible refine rd_dupd ?_ | with_reducible refine rd_lvals ?_ | with_reducible refine rd_sitems ?_ | with_reducible refine rd_revL ?_ | with_reducible refine rd_iView ?_ | with_reducible refine rd_iKeys ?_ | with_reducible refine rd_dc ?_
  | with_reducible refine rd_iET ?_
  | with_reducible refine rd_call ?_)
local macro_rules | `(tactic| walk_at "r") => `(tactic| repeat (walk_at "s"))

local macro_rules | `(tactic| walk_at "lt") => `(tactic| first | with_reducible refine ifT (by decide +kernel) ?_ | with_reducible refine ifF (by decide +kernel) ?_)
local macro_rules | `(tactic| walk_at "R") => `(tactic| repeat (first | walk_at "s" | walk_at "lt"))
/-! ### as_tuples -/
def At : Nat → Hp → V → PyData → Prop
  | 0, _, v, d => (∃ i, v = .int i ∧ d = .int i) ∨ (∃ z, v = .str z ∧ d = .str z) ∨ (v = .non ∧ d = .none)
  | n + 1, F, v, d => ((∃ i, v = .int i ∧ d = .int i) ∨ (∃ z, v = .str z ∧ d = .str z) ∨ (v = .non ∧ d = .none)) ∨ ∃ a vs ds, v = .ref a ∧ F a = some (.tup vs) ∧ d = .tuple ds ∧ vs.length ≤ 1000 ∧ Paired (At n F) vs ds
theorem At.mono : ∀ {n : Nat} {F G : Hp} {v : V} {d : PyData}, At n F v d → Same F G → At n G v d
  | 0, _, _, _, _, h, _ => h
  | n + 1, F, G, v, d, h, s => by
    rcases h with h | ⟨a, vs, ds, e, h1, e2, hl, h2⟩
    · exact .inl h
    · exact .inr ⟨a, vs, ds, e, s _ _ h1, e2, hl, L2.Paired.mapP h2 fun _ _ z => At.mono z s⟩
theorem At.tup {n : Nat} {F : Hp} {v : V} {ds : List PyData} (h : At (n + 1) F v (.tuple ds)) : ∃ a vs, v = .ref a ∧ F a = some (.tup vs) ∧ Paired (At n F) vs ds := by
  rcases h with (⟨_, _, e⟩ | ⟨_, _, e⟩ | ⟨_, e⟩) | ⟨a, vs, ds', e, h1, e2, hl, h2⟩
  · cases e
  · cases e
  · cases e
  · cases e2
    exact ⟨a, vs, e, h1, h2⟩
theorem At.int {n : Nat} {F : Hp} {v : V} {i : Int} (h : At n F v (.int i)) : v = .int i := by
  have key : ((∃ j, v = .int j ∧ PyData.int i = .int j) ∨ (∃ z, v = .str z ∧ PyData.int i = .str z) ∨ (v = .non ∧ PyData.int i = .none)) → v = .int i := by
    rintro (⟨j, e, e2⟩ | ⟨z, _, e2⟩ | ⟨_, e2⟩)
    · cases e2; exact e
    · cases e2
    · cases e2
  cases n with
  | zero => exact key h
  | succ n =>
    rcases h with h | ⟨a, vs, ds', e, h1, e2, hl, h2⟩
    · exact key h
    · cases e2
theorem At.str {n : Nat} {F : Hp} {v : V} {i : Str} (h : At n F v (.str i)) : v = .str i := by
  have key : ((∃ j, v = .int j ∧ PyData.str i = .int j) ∨ (∃ z, v = .str z ∧ PyData.str i = .str z) ∨ (v = .non ∧ PyData.str i = .none)) → v = .str i := by
    rintro (⟨j, _, e2⟩ | ⟨z, e, e2⟩ | ⟨_, e2⟩)
    · cases e2
    · cases e2; exact e
    · cases e2
  cases n with
  | zero => exact key h
  | succ n =>
    rcases h with h | ⟨a, vs, ds', e, h1, e2, hl, h2⟩
    · exact key h
    · cases e2
theorem At.non {n : Nat} {F : Hp} {v : V} (h : At n F v .none) : v = .non := by
  have key : ((∃ j, v = .int j ∧ PyData.none = .int j) ∨ (∃ z, v = .str z ∧ PyData.none = .str z) ∨ (v = .non ∧ PyData.none = .none)) → v = .non := by
    rintro (⟨j, _, e2⟩ | ⟨z, _, e2⟩ | ⟨e, _⟩)
    · cases e2
    · cases e2
    · exact e
  cases n with
  | zero => exact key h
  | succ n =>
    rcases h with h | ⟨a, vs, ds', e, h1, e2, hl, h2⟩
    · exact key h
    · cases e2
def oD : Option Int → PyData
  | none => .none
  | some n => .int n
def rowD3 (x : Int × Str × Option Int) : PyData := .tuple [.int x.1, .str x.2.1, oD x.2.2]
def rdgD (r : Rdg) : PyData := .tuple [.int r.t, .int r.u, .tuple (r.rows.map rowD3)]
def viewD (rs : List Rdg) : PyData := .tuple (rs.map rdgD)
theorem at_int (n : Nat) (F : Hp) (i : Int) : At n F (.int i) (.int i) := by
  cases n with
  | zero => exact .inl ⟨i, rfl, rfl⟩
  | succ n => exact .inl (.inl ⟨i, rfl, rfl⟩)
theorem at_str (n : Nat) (F : Hp) (z : Str) : At n F (.str z) (.str z) := by
  cases n with
  | zero => exact .inr (.inl ⟨z, rfl, rfl⟩)
  | succ n => exact .inl (.inr (.inl ⟨z, rfl, rfl⟩))
theorem at_o (n : Nat) (F : Hp) (o : Option Int) : At n F (oV o) (oD o) := by
  cases o with
  | some i => exact at_int n F i
  | none =>
    cases n with
    | zero => exact .inr (.inr ⟨rfl, rfl⟩)
    | succ n => exact .inl (.inr (.inr ⟨rfl, rfl⟩))
theorem paired_mapR {α β γ : Type} {F : α → β → Prop} {G : α → γ → Prop} {f : β → γ} : ∀ {xs : List α} {ys : List β}, Paired F xs ys → (∀ x y, y ∈ ys → F x y → G x (f y)) → Paired G xs (ys.map f)
  | _, _, .nil, _ => .nil
  | _, _, .cons q t, h => .cons (h _ _ (List.mem_cons_self ..) q) (paired_mapR t fun x y hy => h x y (List.mem_cons_of_mem _ hy))
theorem paired_unmap {α β γ : Type} {F : α → β → Prop} {G : α → γ → Prop} {f : β → γ} : ∀ {xs : List α} {ys : List β}, Paired G xs (ys.map f) → (∀ x y, G x (f y) → F x y) → Paired F xs ys
  | [], [], _, _ => .nil
  | [], _ :: _, h, _ => nomatch h
  | _ :: _, [], h, _ => nomatch h
  | _ :: _, _ :: _, .cons q t, h => .cons (h _ _ q) (paired_unmap t h)
theorem view_at {F : Hp} {v : V} {rs : List Rdg} (h : ViewAt F v rs) (hc : Chn 0 (-1) rs) : At 4 F v (viewD rs) := by
  obtain ⟨a, vs, rfl, ha, hp⟩ := h
  have hl := hp.length
  have hcl := hc.len (by decide)
  refine .inr ⟨a, vs, _, rfl, ha, rfl, by omega, paired_mapR hp fun x r hr hx => ?_⟩
  obtain ⟨ra, rb, refs, rfl, h1, h2, h3⟩ := hx
  obtain ⟨i, hi⟩ := List.getElem?_of_mem hr
  obtain ⟨lo, l0, l1, l2, rok⟩ := hc.at_ (Int.le_refl _) hi
  have hrl := rok.len l0 l2
  have h3l := h3.length
  refine .inr ⟨ra, _, _, rfl, h1, rfl, by show 3 ≤ 1000; decide, .cons (at_int _ _ _) (.cons (at_int _ _ _) (.cons (.inr ⟨rb, refs, _, rfl, h2, rfl, by omega, paired_mapR h3 fun x y hy hx => ?_⟩) .nil))⟩
  obtain ⟨xa, rfl, hx⟩ := hx
  exact .inr ⟨xa, _, _, rfl, hx, rfl, by show 3 ≤ 1000; decide, .cons (at_int _ _ _) (.cons (at_str _ _ _) (.cons (at_o _ _ _) .nil))⟩
theorem at_view {F : Hp} {v : V} {rs : List Rdg} (h : At 4 F v (viewD rs)) : ViewAt F v rs := by
  obtain ⟨a, vs, rfl, ha, hp⟩ := h.tup
  refine ⟨a, vs, rfl, ha, paired_unmap hp fun x r hx => ?_⟩
  obtain ⟨ra, ws, rfl, h1, h2⟩ := hx.tup
  obtain ⟨w1, q1, w2, q2, w3, q3, rfl⟩ : ∃ w1, At 2 F w1 (.int r.t) ∧ ∃ w2, At 2 F w2 (.int r.u) ∧ ∃ w3, At 2 F w3 (.tuple (r.rows.map rowD3)) ∧ ws = [w1, w2, w3] := by
    cases h2 with
    | cons q1 t1 => cases t1 with
      | cons q2 t2 => cases t2 with
        | cons q3 t3 => cases t3; exact ⟨_, q1, _, q2, _, q3, rfl⟩
  have e1 := q1.int
  have e2 := q2.int
  subst e1
  subst e2
  obtain ⟨rb, refs, rfl, h3, h4⟩ := q3.tup
  refine ⟨ra, rb, refs, rfl, h1, h3, paired_unmap h4 fun x y hx => ?_⟩
  obtain ⟨k, key, o⟩ := y
  obtain ⟨xa, us, rfl, h5, h6⟩ := hx.tup
  cases h6 with
  | cons q1 t1 => cases t1 with
    | cons q2 t2 => cases t2 with
      | cons q3 t3 =>
        cases t3
        have e1 := q1.int
        have e2 := q2.str
        subst e1
        subst e2
        cases o with
        | none =>
          have e3 := At.non q3
          subst e3
          exact ⟨xa, rfl, h5⟩
        | some n =>
          have e3 := At.int q3
          subst e3
          exact ⟨xa, rfl, h5⟩
def spAs (K : PySem.W.Frag) : Nat → Sp
  | 0 => fun _ _ _ _ => False
  | n + 1 => fun vs H Q _ => ∃ (F : Hp) (R : List Cell) (x : V) (d : PyData), vs = [x] ∧ Ow F R H ∧ At n F x d ∧ ∀ (x' : V) (F' H' : Hp), Same F F' → At n F' x' d → Ow F' R H' → Q x' H'
section
variable {P : Program} {w : World} {K : PySem.W.Frag} {mg : Str → Option Value} {base : Heap}
theorem fn_never {f : Addr} {x qual : Str} {st : Stmt} {ps : List Str} (S : Src K x qual st f) (b : Bd x qual st ps) : Fn P w K mg base f ps 0 (fun _ _ _ _ => False) := by
  obtain ⟨fd, D⟩ := S
  exact ⟨fd, D.kp, D.bindsN b, ⟨fun _ _ _ _ h => h.elim, fun _ _ _ _ _ _ _ _ _ _ _ _ _ h => h.elim⟩⟩
abbrev s_as_tuples : Stmt := top 4
theorem sc_as_tuples : FnScope ["thing", "part"] ["thing"] (defScope s_as_tuples) := ⟨rfl, rfl, rfl, by decide +kernel, rfl, by decide +kernel, by decide +kernel⟩
theorem bd_as_tuples : Bd "as_tuples" "as_tuples" s_as_tuples ["thing"] := fun _ _ _ _ _ _ us hl => match us, hl with | [_], _ => rfl
/-! slots: 0 thing, 1 part -/
theorem ok_as_step {f : Addr} {n : Nat} (S : Src K "as_tuples" "as_tuples" s_as_tuples f) (T : Blt mg) (G_as_tuples : Def P w K mg base "as_tuples" ["thing"] n (spAs K n)) : Fn P w K mg base f ["thing"] (n + 1) (spAs K (n + 1)) := by
  refine fn_mk S sc_as_tuples bd_as_tuples (fun vs H Q E h => ?_) (fun cdv A outer s0 H vs Q E hr h => ?_)
  · obtain ⟨_, _, _, _, rfl, _⟩ := h
    rfl
  · obtain ⟨F, R, x, d, rfl, O, hx, k⟩ := h
    have hu := hu_of hr
    refine ⟨_, (pss_one (ps_ret (pe_ifExp (pt_val (pe_callB call_isiT (by rfl) T.isinstance (by decide +kernel) (pa_cons (pv 0) (pa_cons (pe_tup (pa_cons (pe_bltn (v := .ty "list") (by rfl) T.list (by decide +kernel) rfl) (pa_cons (pe_bltn (v := .ty "tuple") (by rfl) T.tuple (by decide +kernel) rfl) pa_nil))) pa_nil)))) (pe_callTy cl_tupL (by rfl) T.tuple (by decide +kernel) (pa_cons (pe_lc (own := [("part", 1)]) rfl sc_as_tuples.nd (pi_tup (pv 0)) (blkOk_by (N := ["thing", "part"]) (sc := defScope s_as_tuples) (own := [("part", 1)]) (by decide +kernel)) (fun _ _ _ _ _ => (pg_name (i := 1) sc_as_tuples.nd rfl (Or.inl rfl))) (fun _ _ _ _ _ => pts_nil) (fun _ _ _ _ _ => (pe_def G_as_tuples (hr.mono (by first | decide | omega)) rfl (pa_cons (pv 1) pa_nil)))) pa_nil)) (pv 0)))), ?_⟩
    walk_at "r"
    refine ⟨by walk_at "sz", fun tp hp => ?_⟩
    have O := O.new (o := .tup [.ty "list", .ty "tuple"]) hp
    have fl : ∀ (x : V) (t : Value) (d : PyData), TyX K (upd H tp (.tup [.ty "list", .ty "tuple"])) x t → PySem.W.kitAny K t [.type "list", .type "tuple"] = some false → At n F x d → (∀ (x' : V) (F' H' : Hp), Same F F' → At n F' x' d → Ow F' R H' → Q x' H') →
        rIsiT K [x, V.ref tp] (upd H tp (.tup [.ty "list", .ty "tuple"])) (fun z H' => ∃ k, z = .bl k ∧ if k = true then tCB (qTupL K) (tCons (tLc (iTup K (tVar 0)) (gName 1) tYes (tCall (spAs K n) [] E0 (tCons (tVar 1) tNil)) [1]) tNil) (L2.start ["thing", "part"] [x]) H' Q else tVar 0 (L2.start ["thing", "part"] [x]) H' Q) := by
      intro x t d ty e hx k
      refine ⟨x, tp, _, t, _, false, rfl, O.get 0, .cons (.ty _) (.cons (.ty _) .nil), ty, e, ?_⟩
      refine ⟨false, rfl, iteF ?_⟩
      exact ⟨x, rfl, k x F _ (Same.refl _) hx O.drop⟩
    have fl3 : ((∃ i, x = .int i ∧ d = .int i) ∨ (∃ z, x = .str z ∧ d = .str z) ∨ (x = .non ∧ d = .none)) → rIsiT K [x, V.ref tp] (upd H tp (.tup [.ty "list", .ty "tuple"])) (fun z H' => ∃ k, z = .bl k ∧ if k = true then tCB (qTupL K) (tCons (tLc (iTup K (tVar 0)) (gName 1) tYes (tCall (spAs K n) [] E0 (tCons (tVar 1) tNil)) [1]) tNil) (L2.start ["thing", "part"] [x]) H' Q else tVar 0 (L2.start ["thing", "part"] [x]) H' Q) := by
      rintro (⟨i, rfl, rfl⟩ | ⟨z, rfl, rfl⟩ | ⟨rfl, rfl⟩)
      · exact fl _ _ _ (.base (.int i)) (by first | rfl | kernel_rfl) hx k
      · exact fl _ _ _ (.base (.str z)) (by first | rfl | kernel_rfl) hx k
      · exact fl _ _ _ (.base .non) (by first | rfl | kernel_rfl) hx k
    cases n with
    | zero => exact fl3 hx
    | succ n =>
      rcases hx with hx' | ⟨a, vs, ds, rfl, ha, rfl, hl, hp2⟩
      · exact fl3 hx'
      · have hvl := hp2.length
        refine ⟨_, tp, _, _, _, true, rfl, O.get 0, .cons (.ty _) (.cons (.ty _) .nil), .base (.tup (O.fz ha)), by first | rfl | kernel_rfl, ?_⟩
        have O := O.drop
        walk_at "r"
        refine lc_T vs O ha (fun i F' acc => Paired (At n F') acc (ds.take i)) .nil (fun D i x F' acc H hx s p l O => ?_) (fun D F' acc H s p l O => ?_)
        · obtain ⟨d, hd, hxd⟩ := L2.paired_get hp2 hx
          have hi : i < ds.length := (List.getElem?_eq_some_iff.mp hd).1
          walk_at "r"
          refine ⟨F', _, x, d, rfl, O, hxd.mono s, fun x' F2 H2 s2 hx' O => ?_⟩
          refine lcP (by omega) (s.trans s2) l O ?_
          rw [List.take_add_one, hd]
          exact (L2.Paired.mapP p fun _ _ z => z.mono s2).snoc hx'
        · rw [hvl, List.take_length] at p
          walk_at "r"
          intro l2 hp
          have O := O.drop
          obtain ⟨F2, s2, h2, O⟩ := O.newF (o := .tup acc) hp
          exact k _ F2 _ (s.trans s2) (.inr ⟨l2, acc, ds, rfl, h2, rfl, by rw [p.length]; omega, L2.Paired.mapP p fun _ _ z => z.mono s2⟩) O
theorem ok_as_tuples {f : Addr} (S : Src K "as_tuples" "as_tuples" s_as_tuples f) (hm : mg "as_tuples" = some (.ref f)) (T : Blt mg) : ∀ n, Def P w K mg base "as_tuples" ["thing"] n (spAs K n)
  | 0 => ⟨f, hm, fn_never S bd_as_tuples⟩
  | n + 1 => ⟨f, hm, ok_as_step S T (ok_as_tuples S hm T n)⟩
end
end K7

set_option Elab.async false
set_option linter.all false
set_option maxRecDepth 100000
set_option maxHeartbeats 4000000
namespace K7
open PySem PySem.Spec PyProof.Rows L2
/-! ### what a view tells -/
abbrev Row := Int × Str × Int
def rowsOf (rs : List Rdg) : List Row := rs.flatMap fun r => r.rows.map fun x => (x.1, x.2.1, x.2.2.getD 0)
def timesOf : Int → List Rdg → List Int
  | _, [] => []
  | u, r :: rs => List.replicate (r.u - u).toNat r.t ++ timesOf r.u rs
def manyOf (rs : List Rdg) (t : Int) : Int := t - (if (rs.headD ⟨0, 0, []⟩).t ≤ t then 1 else 0) - ((rs.filter fun r => decide (r.t < t)).length : Int)
def timeAt (rs : List Rdg) (p : Int) : Int := (timesOf 0 rs).getD p.toNat 0
def hasRow (rs : List Rdg) (p : Int) : Bool := (rowsOf rs).any fun x => decide (x.1 = p)
def gapsOf (rs : List Rdg) : List Int := ((List.range (lastU 0 rs).toNat).map fun i : Nat => (i : Int)).filter fun p => !hasRow rs p
def heldStep (h : List (Str × Int)) (x : Row) : List (Str × Int) := (h.filter fun q => decide (q.1 ≠ x.2.1)) ++ [(x.2.1, x.1)]
def heldOf (rs : List Rdg) : List (Str × Int) := (rowsOf rs).foldl heldStep []
theorem Chn.lastU_ge : ∀ {rs : List Rdg} {u t : Int}, Chn u t rs → u ≤ lastU u rs
  | [], u, _, _ => Int.le_refl _
  | r :: rs, u, t, ⟨a, b, c, d, e⟩ => by
    have := Chn.lastU_ge (rs := rs) e
    show u ≤ lastU r.u rs
    omega
theorem Chn.lastU_le : ∀ {rs : List Rdg} {u t : Int}, Chn u t rs → u ≤ 20 → lastU u rs ≤ 20
  | [], u, _, _, h => h
  | r :: rs, u, t, ⟨a, b, c, d, e⟩, h => Chn.lastU_le (rs := rs) e c
theorem times_len : ∀ {rs : List Rdg} {u t : Int}, Chn u t rs → ((timesOf u rs).length : Int) = lastU u rs - u
  | [], u, _, _ => by show ((0 : Nat) : Int) = u - u; omega
  | r :: rs, u, t, ⟨a, b, c, d, e⟩ => by
    have ih := times_len (rs := rs) e
    show ((List.replicate (r.u - u).toNat r.t ++ timesOf r.u rs).length : Int) = lastU r.u rs - u
    rw [List.length_append, List.length_replicate]
    omega
theorem times_snoc : ∀ (rs : List Rdg) (u : Int) (r : Rdg), timesOf u (rs ++ [r]) = timesOf u rs ++ List.replicate (r.u - lastU u rs).toNat r.t
  | [], u, r => by show List.replicate _ _ ++ [] = _; rw [List.append_nil]; rfl
  | x :: rs, u, r => by
    show List.replicate _ _ ++ timesOf x.u (rs ++ [r]) = (List.replicate _ _ ++ timesOf x.u rs) ++ _
    rw [times_snoc rs x.u r, List.append_assoc]
    rfl
theorem rows_snoc (rs : List Rdg) (r : Rdg) : rowsOf (rs ++ [r]) = rowsOf rs ++ r.rows.map fun x => (x.1, x.2.1, x.2.2.getD 0) := by
  unfold rowsOf
  rw [List.flatMap_append]
  simp
theorem rows_ok : ∀ {rs : List Rdg} {u t : Int}, Chn u t rs → ((rowsOf rs).map (·.1)).Pairwise (· < ·) ∧ ∀ x ∈ rowsOf rs, u ≤ x.1 ∧ x.1 < lastU u rs ∧ KeyOk x.2.1
  | [], _, _, _ => ⟨List.Pairwise.nil, fun _ h => (nomatch h)⟩
  | r :: rs, u, t, ⟨a, b, c, d, e⟩ => by
    obtain ⟨h1, h2⟩ := rows_ok (rs := rs) e
    have ge := Chn.lastU_ge e
    have e0 : rowsOf (r :: rs) = (r.rows.map fun x => (x.1, x.2.1, x.2.2.getD 0)) ++ rowsOf rs := rfl
    have e1 : (r.rows.map fun x => ((x.1, x.2.1, x.2.2.getD 0) : Row)).map (·.1) = r.rows.map (·.1) := by rw [List.map_map]; rfl
    rw [e0]
    refine ⟨?_, fun x hx => ?_⟩
    · rw [List.map_append, e1]
      refine List.pairwise_append.mpr ⟨d.asc, h1, fun p hp q hq => ?_⟩
      obtain ⟨y, hy, rfl⟩ := List.mem_map.mp hp
      obtain ⟨z, hz, rfl⟩ := List.mem_map.mp hq
      have b1 := d.bd y hy
      have b2 := h2 z hz
      omega
    · show u ≤ x.1 ∧ x.1 < lastU r.u rs ∧ KeyOk x.2.1
      rcases List.mem_append.mp hx with hx | hx
      · obtain ⟨y, hy, rfl⟩ := List.mem_map.mp hx
        have b1 := d.bd y hy
        exact ⟨b1.1, by show y.1 < _; omega, b1.2.2⟩
      · have b2 := h2 x hx
        exact ⟨by omega, b2.2.1, b2.2.2⟩
theorem asc_len {l : List Int} {lo hi : Int} (h : l.Pairwise (· < ·)) (b : ∀ x ∈ l, lo ≤ x ∧ x < hi) (h0 : 0 ≤ lo) (n : Nat) (h1 : hi ≤ n) : l.length ≤ n := by
  have := pigeonN n (l.map Int.toNat) (by
    refine List.pairwise_map.mpr (List.Pairwise.imp_of_mem (fun {x y} hx hy hxy => ?_) h)
    have b1 := b x hx
    have b2 := b y hy
    omega) fun z hz => by
    obtain ⟨x, hx, rfl⟩ := List.mem_map.mp hz
    have b1 := b x hx
    omega
  rwa [List.length_map] at this
theorem rows_len {rs : List Rdg} (h : Chn 0 (-1) rs) : (rowsOf rs).length ≤ 20 := by
  obtain ⟨h1, h2⟩ := rows_ok h
  have := asc_len h1 (lo := 0) (hi := lastU 0 rs) (fun x hx => by
    obtain ⟨y, hy, rfl⟩ := List.mem_map.mp hx
    exact ⟨(h2 y hy).1, (h2 y hy).2.1⟩) (Int.le_refl _) 20 (h.lastU_le (by decide))
  rwa [List.length_map] at this
theorem hasRow_iff {rs : List Rdg} {p : Int} : hasRow rs p = true ↔ p ∈ (rowsOf rs).map (·.1) := by
  unfold hasRow
  rw [List.any_eq_true, List.mem_map]
  exact ⟨fun ⟨x, hx, e⟩ => ⟨x, hx, of_decide_eq_true e⟩, fun ⟨x, hx, e⟩ => ⟨x, hx, decide_eq_true e⟩⟩
theorem gap_iff {rs : List Rdg} {p : Int} : p ∈ gapsOf rs ↔ 0 ≤ p ∧ p < lastU 0 rs ∧ hasRow rs p = false := by
  unfold gapsOf
  rw [List.mem_filter, List.mem_map]
  constructor
  · rintro ⟨⟨i, hi, rfl⟩, h⟩
    have := List.mem_range.mp hi
    exact ⟨by omega, by omega, by simpa using h⟩
  · rintro ⟨h0, h1, h2⟩
    exact ⟨⟨p.toNat, List.mem_range.mpr (by omega), by omega⟩, by simp [h2]⟩
/-! ### fields -/
theorem putF_hd {f : Str} {v x : V} {r : List (Str × V)} : putF f v ((f, x) :: r) = (f, v) :: r := by simp [putF]
theorem putF_tl {f g : Str} {v x : V} {r : List (Str × V)} (h : g ≠ f) : putF f v ((g, x) :: r) = (g, x) :: putF f v r := by simp [putF, h]
theorem lookup_hd {f : Str} {x : V} {r : List (Str × V)} : List.lookup f ((f, x) :: r) = some x := by simp [List.lookup]
theorem lookup_tl {f g : Str} {x : V} {r : List (Str × V)} (h : f ≠ g) : List.lookup f ((g, x) :: r) = List.lookup f r := by
  have : (f == g) = false := by simpa using h
  simp [List.lookup, this]
theorem lookup_no {f : Str} : ∀ {r : List (Str × V)}, f ∉ r.map (·.1) → List.lookup f r = none
  | [], _ => rfl
  | p :: r, h => by
    have h1 : f ≠ p.1 := fun e => h (by rw [e]; exact List.mem_cons_self ..)
    rw [show p :: r = (p.1, p.2) :: r from rfl, lookup_tl h1]
    exact lookup_no fun z => h (List.mem_cons_of_mem _ z)
def vFs (rd tm gt rw_ : Addr) : List (Str × V) := [("own_reads", .ref rd), ("own_times", .ref tm), ("own_got", .ref gt), ("own_rows", .ref rw_)]
structure VA (K : PySem.W.Frag) (C : Addr) : Prop where
  cls : Cls K C
  reads : NoAttr K C "own_reads"
  times : NoAttr K C "own_times"
  got : NoAttr K C "own_got"
  rows : NoAttr K C "own_rows"
section
variable {rd tm gt rw_ : Addr}
theorem vf_reads : (vFs rd tm gt rw_).lookup ("own_reads" : Str) = some (.ref rd) := lookup_hd
theorem vf_times : (vFs rd tm gt rw_).lookup ("own_times" : Str) = some (.ref tm) := (lookup_tl (by decide +kernel)).trans lookup_hd
theorem vf_got : (vFs rd tm gt rw_).lookup ("own_got" : Str) = some (.ref gt) := (lookup_tl (by decide +kernel)).trans ((lookup_tl (by decide +kernel)).trans lookup_hd)
theorem vf_rows : (vFs rd tm gt rw_).lookup ("own_rows" : Str) = some (.ref rw_) := (lookup_tl (by decide +kernel)).trans ((lookup_tl (by decide +kernel)).trans ((lookup_tl (by decide +kernel)).trans lookup_hd))
theorem vf_no {f : Str} (h : f ∉ (["own_reads", "own_times", "own_got", "own_rows"] : List Str)) : (vFs rd tm gt rw_).lookup f = none := lookup_no h
end
def RwAt (F : Hp) (v : V) (x : Row) : Prop := ∃ a b, v = .ref a ∧ F a = some (.tup [.int x.1, .ref b]) ∧ F b = some (.tup [.str x.2.1, .int x.2.2])
theorem RwAt.mono {F G : Hp} {v : V} {x : Row} (h : RwAt F v x) (s : Same F G) : RwAt G v x := let ⟨a, b, e, h1, h2⟩ := h; ⟨a, b, e, s _ _ h1, s _ _ h2⟩
/-- a view's object -/
def VwAt (C : Addr) (F : Hp) (v : Addr) (rs : List Rdg) : Prop := ∃ dx rd tm gt rw_ rv kvs wv, F v = some (.ins C dx (vFs rd tm gt rw_)) ∧ F rd = some (.lst rv) ∧ Paired (RdgAt F) rv rs ∧ F tm = some (.lst ((timesOf 0 rs).map V.int)) ∧ F gt = some (.dK kvs) ∧
  kvs.map (·.1) = (rowsOf rs).map (fun x => (Sum.inl x.1 : Key)) ∧ F rw_ = some (.lst wv) ∧ Paired (RwAt F) wv (rowsOf rs)
theorem VwAt.mono {C : Addr} {F G : Hp} {v : Addr} {rs : List Rdg} (h : VwAt C F v rs) (s : Same F G) : VwAt C G v rs := by
  obtain ⟨dx, rd, tm, gt, rw_, rv, kvs, wv, h1, h2, h3, h4, h5, h6, h7, h8⟩ := h
  exact ⟨dx, rd, tm, gt, rw_, rv, kvs, wv, s _ _ h1, s _ _ h2, L2.Paired.mapP h3 fun _ _ z => z.mono s, s _ _ h4, s _ _ h5, h6, s _ _ h7, L2.Paired.mapP h8 fun _ _ z => z.mono s⟩
end K7

set_option Elab.async false
set_option linter.all false
set_option maxRecDepth 100000
set_option maxHeartbeats 4000000
set_option pp.deepTerms false
set_option pp.maxSteps 600
namespace K7
open PySem PySem.Spec PyProof.Rows L2 ItX
local macro_rules | `(tactic| walk_at "hp") => `(tactic| with_unfolding_all first
  | exact Ow.get (by assumption) 0 | exact Ow.get (by assumption) 1 | exact Ow.get (by assumption) 2 | exact Ow.get (by assumption) 3
  | exact Ow.fz (by assumption) (by assumption)
  | exact Ow.get (by assumption) 4 | exact Ow.get (by assumption) 5 | exact Ow.get (by assumption) 6 | exact Ow.get (by assumption) 7 | exact Ow.get (by assumption) 8 | exact Ow.get (by assumption) 9)
local macro_rules | `(tactic| walk_at "sq") => `(tactic| with_unfolding_all first
  | exact SqL.of (by walk_at "hp") | exact SqT.of (by walk_at "hp") | assumption)
local macro_rules | `(tactic| walk_at "rd") => `(tactic| with_unfolding_all first
  | exact Rd.of (by walk_at "hp") | assumption | exact Or.inr ⟨_, by walk_at "hp"⟩)
local macro_rules | `(tactic| walk_at "dk") => `(tactic| assumption)
local macro_rules | `(tactic| walk_at "cl") => `(tactic| assumption)
local macro_rules | `(tactic| walk_at "na") => `(tactic| assumption)
local macro_rules | `(tactic| walk_at "lk") => `(tactic| assumption)
local macro_rules | `(tactic| walk_at "ln") => `(tactic| assumption)
local macro_rules | `(tactic| walk_at "ai") => `(tactic| first | with_unfolding_all rfl | exact atI_zero | assumption)
local macro_rules | `(tactic| walk_at "sd") => `(tactic| with_unfolding_all first
  | rfl | assumption | decide | omega
  | exact ⟨by omega, by omega⟩ | exact Or.inl ⟨by omega, by omega⟩ | exact Or.inr ⟨by omega, by omega⟩ | exact ⟨by decide, by decide, by omega⟩)
local macro_rules | `(tactic| walk_at "sz") => `(tactic| first
  | with_unfolding_all exact szl (Nat.le_of_ble_eq_true rfl)
  | with_unfolding_all exact sztl (Nat.le_of_ble_eq_true rfl)
  | exact szl (by simp <;> omega)
  | exact sztl (by simp <;> omega))
local macro_rules | `(tactic| walk_at "s") => `(tactic| first
  | with_reducible refine rd_I0 ?_
  | ((with_reducible apply rd_I); (focus walk_at "sd"))
  | ((with_reducible apply rd_opVC); (focus with_unfolding_all rfl))
  | ((with_reducible apply rd_opVV); (focus with_unfolding_all rfl); (focus with_unfolding_all rfl))
  | ((with_reducible apply rd_opV); (focus with_unfolding_all rfl))
  | with_reducible refine rd_opC ?_
  | with_reducible refine rd_op ?_
  | ((with_reducible apply rd_var); (focus with_unfolding_all rfl))
  | with_reducible refine rd_c ?_
  | with_reducible refine rd_sSet ?_
  | ((with_reducible apply rd_CB1V); (focus with_unfolding_all rfl)) | with_reducible refine rd_CB1 ?_ | with_reducible refine rd_CB ?_
  | ((with_reducible apply rd_consV); (focus with_unfolding_all rfl)) | with_reducible refine rd_consC ?_ | with_reducible refine rd_cons0 ?_ | with_reducible refine rd_cons ?_ | with_reducible refine rd_nil ?_
  | ((with_reducible apply rd_ixL); (focus walk_at "sq"); (focus walk_at "ai"))
  | ((with_reducible apply rd_ixT); (focus walk_at "sq"); (focus walk_at "ai"))
  | with_reducible refine rd_int ?_ | with_reducible refine rd_intB ?_ | with_reducible refine rd_abs ?_
  | ((with_reducible apply rd_len); (focus walk_at "sq")) | ((with_reducible apply rd_lenT); (focus walk_at "sq"))
  | with_reducible refine rd_ifS ?_ | with_reducible refine iteT ?_ | with_reducible refine iteF ?_
  | with_reducible refine rd_tTest ?_ | with_reducible refine rd_tB ?_ | with_reducible refine rd_ex ?_
  | with_reducible refine rd_seqD ?_ | with_reducible refine rd_sSet1 ?_ | with_reducible refine rd_ret ?_ | with_reducible refine rd_drop ?_ | with_reducible refine rd_asg ?_
  | ((with_reducible apply rd_eq); (focus with_unfolding_all rfl)) | ((with_reducible apply rd_ne); (focus with_unfolding_all rfl))
  | with_reducible refine rd_isNr ?_ | with_reducible refine rd_notNr ?_ | with_reducible refine rd_isNn ?_ | with_reducible refine rd_notNn ?_ | with_reducible refine rd_isNi ?_ | with_reducible refine rd_notNi ?_
  | with_reducible refine rd_isN ?_ | with_reducible refine rd_notN ?_
  | with_reducible refine rd_and ?_ | with_reducible refine rd_or ?_ | with_reducible refine rd_not ?_ | with_reducible refine rd_if ?_
  | with_reducible refine rd_seq ?_ | with_reducible refine rd_gName ?_ | with_reducible refine rd_next ?_ | with_reducible refine rd_retN ?_
  | with_reducible refine rd_gSub ?_ | with_reducible refine rd_gCons ?_ | with_reducible refine rd_gNil ?_ | ((with_reducible apply rd_gTup); (focus walk_at "sq"); (focus with_unfolding_all rfl))
  | ((with_reducible apply rd_setL); (focus walk_at "hp"); (focus with_unfolding_all rfl))
  | with_reducible refine rd_par ?_ | with_reducible refine rd_par3 ?_ | with_reducible refine rd_ex2 ?_ | with_reducible refine rd_ex3 ?_
  | with_reducible refine rd_dget ?_ | with_reducible refine rd_din ?_ | with_reducible refine rd_dnotin ?_
  | ((with_reducible apply rd_dgS); (focus walk_at "rd"); (focus walk_at "dk"))
  | ((with_reducible apply rd_dgI); (focus walk_at "rd"); (focus walk_at "dk"))
  | ((with_reducible apply rd_doS); (focus walk_at "rd")) | ((with_reducible apply rd_doI); (focus walk_at "rd"))
  | with_reducible refine rd_dput ?_
  | ((with_reducible apply rd_dpS); (focus walk_at "hp"); (focus walk_at "sz")) | ((with_reducible apply rd_dpI); (focus walk_at "hp"); (focus walk_at "sz"))
  | with_reducible refine rd_bm ?_
  | ((with_reducible apply rd_tyL); (focus walk_at "hp")) | ((with_reducible apply rd_append); (focus walk_at "hp"); (focus walk_at "sz"))
  | with_reducible refine rd_tup ?_ | with_reducible refine rd_lst ?_ | with_reducible refine rd_dnew ?_
  | with_reducible refine rd_for ?_ | with_reducible refine rd_iR1 ?_ | with_reducible refine rd_iR2 ?_ | with_reducible refine rd_iL ?_ | with_reducible refine rd_iT ?_
  | with_reducible refine rd_disp ?_ | with_reducible refine rd_pair ?_ | with_reducible refine rd_pair0 ?_
  | with_reducible refine rd_andV ?_ | with_reducible refine rd_orV ?_
  | ((with_reducible apply rd_tupL); (focus walk_at "sq")) | ((with_reducible apply rd_listT); (focus walk_at "sq"))
  | with_reducible refine rd_lc ?_ | ((with_reducible apply rd_wp); (focus with_unfolding_all rfl)) | with_reducible refine rd_yes ?_
  | with_reducible refine rd_sl ?_ | with_reducible refine rd_noPart ?_ | with_reducible refine rd_part ?_ | with_reducible refine rd_exI ?_
  | ((with_reducible apply rd_isd); (focus walk_at "rd")) | ((with_reducible apply rd_dg1S); (focus walk_at "rd")) | ((with_reducible apply rd_dg1I); (focus walk_at "rd"))
  | with_reducible refine rd_dget1 ?_ | with_reducible refine rd_dget2 ?_ | with_reducible refine rd_dpop2 ?_ | with_reducible refine rd_dpop1 ?_ | with_reducible refine rd_dsetd ?_
  | ((with_reducible apply rd_slL); (focus walk_at "sq"))
  | with_reducible refine rd_iE ?_ | with_reducible refine rd_iS ?_
  | ((with_reducible apply rd_dictD); (focus walk_at "rd"))
  | with_reducible refine rd_setD ?_
  | with_reducible refine rd_meth ?_ | ((with_reducible apply rd_me); (focus walk_at "hp"); (focus walk_at "ln"))
  | with_reducible refine rd_fld ?_ | ((with_reducible apply rd_fl); (focus walk_at "hp"); (focus walk_at "cl"); (focus walk_at "na"); (focus walk_at "lk"))
  | with_reducible refine rd_sfld ?_ | with_reducible refine rd_gfld ?_
  | with_reducible refine rd_dupd ?_ | with_reducible refine rd_lvals ?_ | with_reducible refine rd_sitems ?_ | with_reducible refine rd_revL ?_ | with_reducible refine rd_iView ?_ | with_reducible refine rd_iKeys ?_ | with_reducible refine rd_dc ?_
  | with_reducible refine rd_iET ?_
  | with_reducible refine rd_call ?_)
local macro_rules | `(tactic| walk_at "r") => `(tactic| repeat (walk_at "s"))

local macro_rules | `(tactic| walk_at "lt") => `(tactic| first | with_reducible refine ifT (by decide +kernel) ?_ | with_reducible refine ifF (by decide +kernel) ?_)
local macro_rules | `(tactic| walk_at "R") => `(tactic| repeat (first | walk_at "s" | walk_at "lt"))
local macro_rules | `(tactic| walk_at "cl") => `(tactic| first | assumption | exact VA.cls (by assumption))
local macro_rules | `(tactic| walk_at "na") => `(tactic| first | assumption | exact VA.reads (by assumption) | exact VA.times (by assumption) | exact VA.got (by assumption) | exact VA.rows (by assumption))
local macro_rules | `(tactic| walk_at "lk") => `(tactic| first | assumption | exact vf_reads | exact vf_times | exact vf_got | exact vf_rows)
local macro_rules | `(tactic| walk_at "ln") => `(tactic| first | assumption | exact vf_no (by decide +kernel))
/-! ### the view's methods -/
def spVLen (C : Addr) : Sp := fun vs H Q _ => ∃ (F : Hp) (R : List Cell) (v : Addr) (rs : List Rdg), vs = [.ref v] ∧ Ow F R H ∧ VwAt C F v rs ∧ Chn 0 (-1) rs ∧ Q (.int (lastU 0 rs)) H
def spVRead (C : Addr) : Sp := fun vs H Q _ => ∃ (F : Hp) (R : List Cell) (v : Addr) (rs : List Rdg) (p : Int), vs = [.ref v, .int p] ∧ Ow F R H ∧ VwAt C F v rs ∧ Chn 0 (-1) rs ∧ 0 ≤ p ∧ p < lastU 0 rs ∧ Q (.int (timeAt rs p)) H
def spVGaps (C : Addr) : Sp := fun vs H Q _ => ∃ (F : Hp) (R : List Cell) (v : Addr) (rs : List Rdg), vs = [.ref v] ∧ Ow F R H ∧ VwAt C F v rs ∧ Chn 0 (-1) rs ∧
  ∀ (l : Addr) (F' H' : Hp), Same F F' → F' l = some (.lst ((gapsOf rs).map V.int)) → Ow F' R H' → Q (.ref l) H'
def hK (h : List (Str × Int)) : List (Key × V) := h.map fun q => (.inr q.1, .int q.2)
def spVHeld (C : Addr) : Sp := fun vs H Q _ => ∃ (F : Hp) (R : List Cell) (v : Addr) (rs : List Rdg), vs = [.ref v] ∧ Ow F R H ∧ VwAt C F v rs ∧ Chn 0 (-1) rs ∧
  ∀ (l : Addr) (F' H' : Hp), Same F F' → F' l = some (.dK (hK (heldOf rs))) → Ow F' R H' → Q (.ref l) H'
def spVMany (C : Addr) : Sp := fun vs H Q _ => ∃ (F : Hp) (R : List Cell) (v : Addr) (rs : List Rdg) (t : Int), vs = [.ref v, .int t] ∧ Ow F R H ∧ VwAt C F v rs ∧ Chn 0 (-1) rs ∧ rs ≠ [] ∧
  ∀ H' : Hp, Ow F R H' → Q (.int (manyOf rs t)) H'
def spVInit (C : Addr) : Sp := fun vs H Q _ => ∃ (F : Hp) (R : List Cell) (x dx : Addr) (v : V) (rs : List Rdg), vs = [.ref x, v] ∧ Ow F ((x, .ins C dx []) :: R) H ∧ ViewAt F v rs ∧ Chn 0 (-1) rs ∧ NoN rs ∧
  ∀ (F' H' : Hp), Same F F' → VwAt C F' x rs → Ow F' R H' → Q .non H'
theorem hK_drop (h : List (Str × Int)) (k : Str) : dropK (hK h) (.inr k) = hK (h.filter fun q => decide (q.1 ≠ k)) := by
  unfold dropK hK
  rw [List.filter_map]
  congr 1
  refine List.filter_congr fun q _ => ?_
  show decide ((Sum.inr q.1 : Key) ≠ .inr k) = decide (q.1 ≠ k)
  by_cases e : q.1 = k <;> simp [e]
theorem hK_none {h : List (Str × Int)} {k : Str} (hn : valV (hK h) (.inr k) = none) : h.filter (fun q => decide (q.1 ≠ k)) = h := by
  refine List.filter_eq_self.mpr fun q hq => decide_eq_true fun e => ?_
  have : (Sum.inr k : Key) ∈ (hK h).map (·.1) := List.mem_map.mpr ⟨(.inr q.1, .int q.2), List.mem_map.mpr ⟨q, hq, rfl⟩, by rw [e]⟩
  exact absurd this (valV_not hn)
theorem hK_put {h : List (Str × Int)} {k : Str} {p : Int} (hk : ∀ q ∈ h, q.1 ≠ k) : putK (hK h) (.inr k) (.int p) = hK (h ++ [(k, p)]) := by
  have : valV (hK h) (.inr k) = none := valV_out fun hm => by
    obtain ⟨y, hy, e⟩ := List.mem_map.mp hm
    obtain ⟨q, hq, rfl⟩ := List.mem_map.mp hy
    have e : (Sum.inr q.1 : Key) = .inr k := e
    cases e
    exact hk q hq rfl
  rw [putK_new _ this]
  unfold hK
  rw [List.map_append]
  rfl
theorem held_len : ∀ (l : List Row) (h : List (Str × Int)), (l.foldl heldStep h).length ≤ h.length + l.length
  | [], h => Nat.le_refl _
  | x :: l, h => by
    have h1 := held_len l (heldStep h x)
    have h2 : (heldStep h x).length ≤ h.length + 1 := by
      unfold heldStep
      rw [List.length_append]
      have := List.length_filter_le (fun q : Str × Int => decide (q.1 ≠ x.2.1)) h
      show _ + 1 ≤ _
      omega
    rw [List.length_cons, List.foldl_cons]
    omega
section
variable {P : Program} {w : World} {K : PySem.W.Frag} {mg : Str → Option Value} {base : Heap} {C fi : Addr}
abbrev s_View_len : Stmt := inClass (top 8) 1
theorem sc_View_len : FnScope ["self"] ["self"] (defScope s_View_len) := ⟨rfl, rfl, rfl, by decide +kernel, rfl, by decide +kernel, by decide +kernel⟩
theorem bd_View_len : Bd "__len__" "View.__len__" s_View_len ["self"] := fun _ _ _ _ _ _ us hl => match us, hl with | [_], _ => rfl
/-! slots: 0 self -/
theorem ok_View_len {f : Addr} (S : Src K "__len__" "View.__len__" s_View_len f) (T : Blt mg) (va : VA K C) : Fn P w K mg base f ["self"] 1 (spVLen C) := by
  refine fn_mk S sc_View_len bd_View_len (fun vs H Q E h => ?_) (fun cdv A outer s0 H vs Q E hr h => ?_)
  · obtain ⟨_, _, _, _, rfl, _⟩ := h
    rfl
  · obtain ⟨F, R, v, rs, rfl, O, ⟨dx, rd, tm, gt, rw_, rv, kvs, wv, h1, h2, h3, h4, h5, h6, h7, h8⟩, hc, k⟩ := h
    have hu := hu_of hr
    have e := times_len hc
    refine ⟨_, (pss_one (ps_ret (pe_callB cl_len (by rfl) T.len (by decide +kernel) (pa_cons (pe_fld (pv 0) rfl) pa_nil)))), ?_⟩
    walk_at "r"
    rw [List.length_map, e, Int.sub_zero]
    exact k
abbrev s_View_iter : Stmt := inClass (top 8) 2
theorem sc_View_iter : FnScope ["self"] ["self"] (defScope s_View_iter) := ⟨rfl, rfl, rfl, by decide +kernel, rfl, by decide +kernel, by decide +kernel⟩
theorem bd_View_iter : Bd "__iter__" "View.__iter__" s_View_iter ["self"] := fun _ _ _ _ _ _ us hl => match us, hl with | [_], _ => rfl
/-! slots: 0 self -/
theorem ok_View_iter {f : Addr} (S : Src K "__iter__" "View.__iter__" s_View_iter f) (T : Blt mg) : FnN P w K mg base f ["self"] 1 (spIter K) := by
  refine fn_mkN S sc_View_iter bd_View_iter (fun n vs H Q E h => ?_) (fun cdv A outer s0 H vs Q E hr h => ?_)
  · obtain ⟨_, _, _, _, _, _, rfl, _⟩ := h
    rfl
  · obtain ⟨a, C, dx, fs, l, zs, rfl, ha, hc, hn, hlk, hl, k⟩ := h
    refine ⟨_, (pss_one (ps_ret (pe_callB call_iterN (by rfl) T.iter (by decide +kernel) (pa_cons (pe_fld (pv 0) rfl) pa_nil)))), ?_⟩
    refine ⟨_, rfl, ?_⟩
    refine ⟨a, C, dx, fs, _, rfl, ha, hc, hn, hlk, ?_⟩
    exact ⟨l, zs, rfl, hl, k⟩
abbrev s_View_read_time : Stmt := inClass (top 8) 3
theorem sc_View_read_time : FnScope ["self", "place"] ["self", "place"] (defScope s_View_read_time) := ⟨rfl, rfl, rfl, by decide +kernel, rfl, by decide +kernel, by decide +kernel⟩
theorem bd_View_read_time : Bd "read_time" "View.read_time" s_View_read_time ["self", "place"] := fun _ _ _ _ _ _ us hl => match us, hl with | [_, _], _ => rfl
/-! slots: 0 self, 1 place -/
theorem ok_View_read_time {f : Addr} (S : Src K "read_time" "View.read_time" s_View_read_time f) (T : Blt mg) (va : VA K C) : Fn P w K mg base f ["self", "place"] 1 (spVRead C) := by
  refine fn_mk S sc_View_read_time bd_View_read_time (fun vs H Q E h => ?_) (fun cdv A outer s0 H vs Q E hr h => ?_)
  · obtain ⟨_, _, _, _, _, rfl, _⟩ := h
    rfl
  · obtain ⟨F, R, v, rs, p, rfl, O, ⟨dx, rd, tm, gt, rw_, rv, kvs, wv, h1, h2, h3, h4, h5, h6, h7, h8⟩, hc, p0, p1, k⟩ := h
    have hu := hu_of hr
    have e := times_len hc
    have hl : p.toNat < (timesOf 0 rs).length := by omega
    have ex : atI ((timesOf 0 rs).map V.int) p = some (.int (timeAt rs p)) := by
      refine atI_of p0 ?_
      unfold timeAt
      rw [List.getElem?_map, List.getD_eq_getElem?_getD, List.getElem?_eq_getElem hl]
      rfl
    refine ⟨_, (pss_one (ps_ret (pe_ix ix_list (pe_fld (pv 0) rfl) (pv 1) (fun _ _ => rfl)))), ?_⟩
    walk_at "r"
    exact k
abbrev s_View_gaps : Stmt := inClass (top 8) 4
theorem sc_View_gaps : FnScope ["self", "place"] ["self"] (defScope s_View_gaps) := ⟨rfl, rfl, rfl, by decide +kernel, rfl, by decide +kernel, by decide +kernel⟩
theorem bd_View_gaps : Bd "gaps" "View.gaps" s_View_gaps ["self"] := fun _ _ _ _ _ _ us hl => match us, hl with | [_], _ => rfl
/-! slots: 0 self, 1 place -/
theorem ok_View_gaps {f : Addr} (S : Src K "gaps" "View.gaps" s_View_gaps f) (T : Blt mg) (va : VA K C) (M_len : Mtd P w K mg base C "__len__" ["self"] 1 (spVLen C)) : Fn P w K mg base f ["self"] 5 (spVGaps C) := by
  refine fn_mk S sc_View_gaps bd_View_gaps (fun vs H Q E h => ?_) (fun cdv A outer s0 H vs Q E hr h => ?_)
  · obtain ⟨_, _, _, _, rfl, _⟩ := h
    rfl
  · obtain ⟨F, R, v, rs, rfl, O, hvw, hc, k⟩ := h
    obtain ⟨dx, rd, tm, gt, rw_, rv, kvs, wv, h1, h2, h3, h4, h5, h6, h7, h8⟩ := id hvw
    have hu := hu_of hr
    have n0 := hc.lastU_ge
    have n1 := hc.lastU_le (by decide)
    refine ⟨_, (pss_one (ps_ret (pe_lc (own := [("place", 1)]) rfl sc_View_gaps.nd (pi_range1 rfl T.range (pa_cons (pe_callB (cl_lenV M_len (hr.mono (by first | decide | omega))) (by rfl) T.len (by decide +kernel) (pa_cons (pv 0) pa_nil)) pa_nil)) (blkOk_by (N := ["self", "place"]) (sc := defScope s_View_gaps) (own := [("place", 1)]) (by decide +kernel)) (fun _ _ _ _ _ => (pg_name (i := 1) sc_View_gaps.nd rfl (Or.inl rfl))) (fun _ _ _ _ _ => (pts_one (pt_cmp (pc_dnotin hu (pv 1) (pe_fldE (K := K) rfl (pv 0) rfl))))) (fun _ _ _ _ _ => (pv 1))))), ?_⟩
    walk_at "r"
    refine ⟨v, dx, _, rfl, O.fz h1, ?_⟩
    refine ⟨F, R, v, rs, rfl, O, hvw, hc, ?_⟩
    refine ⟨lastU 0 rs, rfl, n0, by omega, ?_⟩
    walk_at "r"
    refine lc_R1 n0 (by omega) O (fun i _ acc => acc = ((((List.range i).map fun i : Nat => (i : Int)).filter fun p => !hasRow rs p).map V.int)) rfl (fun D i F' acc H hi s p l O => ?_) (fun D F' acc H s p l O => ?_)
    · have h1 := s _ _ h1
      have h5 := s _ _ h5
      have hv : (valV kvs (.inl (i : Int))).isSome = hasRow rs (i : Int) := by
        rw [Bool.eq_iff_iff, hasRow_iff]
        constructor
        · intro h
          obtain ⟨z, hz⟩ := Option.isSome_iff_exists.mp h
          have hm := valV_in hz
          rw [h6] at hm
          obtain ⟨y, hy, e⟩ := List.mem_map.mp hm
          exact List.mem_map.mpr ⟨y, hy, Sum.inl.inj e⟩
        · intro h
          cases e : valV kvs (.inl (i : Int)) with
          | some _ => rfl
          | none =>
            obtain ⟨y, hy, e2⟩ := List.mem_map.mp h
            exact absurd (by rw [h6]; exact List.mem_map.mpr ⟨y, hy, by rw [e2]⟩) (valV_not e)
      walk_at "r"
      rw [hv]
      refine brb (fun hz => ?_) (fun hz => ?_)
      · walk_at "r"
        refine lcP (by omega) s l O ?_
        rw [p, List.range_succ, List.map_append, List.filter_append, List.map_append]
        simp [hz]
      · refine lcN s l O ?_
        rw [p, List.range_succ, List.map_append, List.filter_append, List.map_append]
        simp [hz]
    · have O2 := O.freeze
      exact k D _ H (s.trans O.fle) (by rw [p]; exact upd_same) O2
abbrev s_View_held : Stmt := inClass (top 8) 5
theorem sc_View_held : FnScope ["self", "found", "place", "key", "value"] ["self"] (defScope s_View_held) := ⟨rfl, rfl, rfl, by decide +kernel, rfl, by decide +kernel, by decide +kernel⟩
theorem bd_View_held : Bd "held" "View.held" s_View_held ["self"] := fun _ _ _ _ _ _ us hl => match us, hl with | [_], _ => rfl
/-! slots: 0 self, 1 found, 2 place, 3 key, 4 value -/
theorem ok_View_held {f : Addr} (S : Src K "held" "View.held" s_View_held f) (T : Blt mg) (va : VA K C) (IV : ItV K C fi) (FN_iter : FnN P w K mg base fi ["self"] 1 (spIter K)) : Fn P w K mg base f ["self"] 3 (spVHeld C) := by
  refine fn_mk S sc_View_held bd_View_held (fun vs H Q E h => ?_) (fun cdv A outer s0 H vs Q E hr h => ?_)
  · obtain ⟨_, _, _, _, rfl, _⟩ := h
    rfl
  · obtain ⟨F, R, v, rs, rfl, O, hvw, hc, k⟩ := h
    obtain ⟨dx, rd, tm, gt, rw_, rv, kvs, wv, h1, h2, h3, h4, h5, h6, h7, h8⟩ := id hvw
    have hu := hu_of hr
    have hrl := rows_len hc
    have hwl := h8.length
    refine ⟨_, (pss_cons (ps_set (i := 1) sc_View_held.nd rfl (Or.inl rfl) pe_dnewK)
      (pss_cons (ps_for PassesOwn.never rfl (pi_view IV FN_iter (hr.mono (by first | decide | omega)) (pv 0)) (pg_tup (n := 2) rfl (pgs_cons (pg_name (i := 2) sc_View_held.nd rfl (Or.inl rfl)) (pgs_cons (pg_tup (n := 2) rfl (pgs_cons (pg_name (i := 3) sc_View_held.nd rfl (Or.inl rfl)) (pgs_cons (pg_name (i := 4) sc_View_held.nd rfl (Or.inl rfl)) pgs_nil))) pgs_nil)))
        (pss_cons (ps_expr (pe_dpop2 (pv 1) (pv 3) pe_non ⟨rfl, rfl, rfl, rfl⟩))
        (pss_one (ps_if (pt_cmpR op_notN1 (pv 4) pe_non (nomark _))
          (pss_one (ps_dput hu (pv 1) (pv 3) (pv 2) rfl))
          pss_nil))))
      (pss_one (ps_ret (pv 1))))), ?_⟩
    walk_at "r"
    intro fd hp
    have O := O.new (o := .dK []) hp
    walk_at "r"
    refine ⟨v, dx, _, rw_, wv, rfl, O.fz h1, va.cls, va.rows, vf_rows, SqL.of (O.fz h7), ?_⟩
    refine for_it (D := ⟨_, _, _, _⟩) walk_listF (fun i σ' H' => ∃ (v2 v3 v4 : Option V), σ' = [some (.ref v), some (.ref fd), v2, v3, v4] ∧ Ow F ((fd, .dK (hK (((rowsOf rs).take i).foldl heldStep []))) :: R) H')
      ⟨_, _, _, rfl, O⟩ (fun i σ' H' _ ⟨_, _, _, _, O⟩ => SqL.of (O.fz h7)) ?_ ?_
    · rintro i x σ' H1 H' hi ⟨v2, v3, v4, rfl, O⟩ ⟨rfl, hx⟩
      obtain ⟨⟨place, key, val⟩, hr1, a, b, rfl, hxa, hxb⟩ := L2.paired_get h8 hx
      have e1 : ((rowsOf rs).take (i + 1)).foldl heldStep [] = heldStep (((rowsOf rs).take i).foldl heldStep []) (place, key, val) := by
        rw [List.take_add_one, hr1, List.foldl_append]
        rfl
      have hl := held_len ((rowsOf rs).take i) []
      have htk : ((rowsOf rs).take i).length ≤ 20 := by rw [List.length_take]; omega
      rw [e1]
      generalize ((rowsOf rs).take i).foldl heldStep [] = h at O hl ⊢
      have hl : h.length ≤ 0 + ((rowsOf rs).take i).length := hl
      have hfl := List.length_filter_le (fun q : Str × Int => decide (q.1 ≠ key)) h
      obtain ⟨h2, e2⟩ : ∃ h2, h2 = h.filter (fun q => decide (q.1 ≠ key)) := ⟨_, rfl⟩
      have hput : putK (hK h2) (.inr key) (.int place) = hK (heldStep h (place, key, val)) := by
        rw [hK_put (fun q hq => by rw [e2] at hq; simpa using (List.mem_filter.mp hq).2)]
        rw [e2]
        rfl
      have hl2 : (hK h2).length ≤ 50 := by
        rw [e2]
        unfold hK
        rw [List.length_map]
        omega
      walk_at "r"
      refine ⟨hK h, .inr key, O.get 0, rfl, fun z hz => ?_, fun hz => ?_⟩
      · have O := O.set 0 (.dK (dropK (hK h) (.inr key)))
        rw [hK_drop, ← e2] at O ⊢
        walk_at "r"
        have O := O.set 0 (.dK (putK (hK h2) (.inr key) (.int place)))
        rw [hput] at O ⊢
        exact ⟨_, _, _, rfl, O⟩
      · rw [← hK_none hz, ← e2] at O
        walk_at "r"
        have O := O.set 0 (.dK (putK (hK h2) (.inr key) (.int place)))
        rw [hput] at O ⊢
        exact ⟨_, _, _, rfl, O⟩
    · rintro σ' H' ⟨v2, v3, v4, rfl, O⟩
      walk_at "r"
      rw [hwl, List.take_length] at O
      have O2 := O.freeze
      exact k fd _ _ O.fle upd_same O2
abbrev s_View_many_at : Stmt := inClass (top 8) 6
theorem sc_View_many_at : FnScope ["self", "time", "first", "own", "upto", "got"] ["self", "time"] (defScope s_View_many_at) := ⟨rfl, rfl, rfl, by decide +kernel, rfl, by decide +kernel, by decide +kernel⟩
theorem bd_View_many_at : Bd "many_at" "View.many_at" s_View_many_at ["self", "time"] := fun _ _ _ _ _ _ us hl => match us, hl with | [_, _], _ => rfl
/-! slots: 0 self, 1 time, 2 first, 3 own, 4 upto, 5 got -/
theorem ok_View_many_at {f : Addr} (S : Src K "many_at" "View.many_at" s_View_many_at f) (T : Blt mg) (va : VA K C) : Fn P w K mg base f ["self", "time"] 1 (spVMany C) := by
  refine fn_mk S sc_View_many_at bd_View_many_at (fun vs H Q E h => ?_) (fun cdv A outer s0 H vs Q E hr h => ?_)
  · obtain ⟨_, _, _, _, _, rfl, _⟩ := h
    rfl
  · obtain ⟨F, R, v, rs, t, rfl, O, hvw, hc, hne, k⟩ := h
    obtain ⟨dx, rd, tm, gt, rw_, rv, kvs, wv, h1, h2, h3, h4, h5, h6, h7, h8⟩ := id hvw
    have hu := hu_of hr
    have hrl := h3.length
    have hcl := hc.len (by decide)
    obtain ⟨r0, rest, rfl⟩ : ∃ r0 rest, rs = r0 :: rest := by
      cases rs with
      | nil => exact absurd rfl hne
      | cons a b => exact ⟨a, b, rfl⟩
    obtain ⟨x0, rv', rfl, ra, rb, refs, rfl, hra, hrb, h3'⟩ : ∃ x0 rv', rv = x0 :: rv' ∧ RdgAt F x0 r0 := by
      cases h3 with
      | cons q t => exact ⟨_, _, rfl, q⟩
    refine ⟨_, (pss_cons (ps_set (i := 2) sc_View_many_at.nd rfl (Or.inl rfl) (pe_ix ix_tup (pe_ix ix_list (pe_fld (pv 0) rfl) pe_int (fun _ _ => rfl)) pe_int (fun _ _ => rfl)))
      (pss_one (ps_ret (pe_op op_sub (pe_op op_sub (pv 1) (pe_callTy cl_intB (by rfl) T.int (by decide +kernel) (pa_cons (pe_cmpR op_ge (pv 1) (pv 2) (nomark _)) pa_nil))) (pe_callB cl_len (by rfl) T.len (by decide +kernel) (pa_cons (pe_lc (own := [("own", 3), ("upto", 4), ("got", 5)]) rfl sc_View_many_at.nd (pi_list (pe_fld (pv 0) rfl)) (blkOk_by (N := ["self", "time", "first", "own", "upto", "got"]) (sc := defScope s_View_many_at) (own := [("own", 3), ("upto", 4), ("got", 5)]) (by decide +kernel)) (fun _ _ _ _ _ => (pg_tupE (K := K) (n := 3) rfl rfl (pgs_cons (pg_name (i := 3) sc_View_many_at.nd rfl (Or.inl rfl)) (pgs_cons (pg_name (i := 4) sc_View_many_at.nd rfl (Or.inl rfl)) (pgs_cons (pg_name (i := 5) sc_View_many_at.nd rfl (Or.inl rfl)) pgs_nil))))) (fun _ _ _ _ _ => (pts_one (pt_cmpR op_lt (pv 3) (pv 1) (nomark _)))) (fun _ _ _ _ _ => (pv 3))) pa_nil)))))), ?_⟩
    walk_at "r"
    refine lc_L _ O (fun i _ acc => acc.length = (((r0 :: rest).take i).filter fun r => decide (r.t < t)).length) rfl (fun D F' acc H s O => SqL.of (O.fz (s _ _ h2))) (fun D i x F' acc H hx s p l O => ?_) (fun D F' acc H s p l O => ?_) (SqL.of (O.fz h2))
    · obtain ⟨r, hr1, xa, xb, xr, rfl, hxa, _⟩ := L2.paired_get h3 hx
      have hxa := s _ _ hxa
      have hi : i < (r0 :: rest).length := (List.getElem?_eq_some_iff.mp hr1).1
      walk_at "r"
      refine br (fun hz => ?_) (fun hz => ?_)
      · walk_at "r"
        refine lcP (by omega) s l O ?_
        rw [List.take_add_one, hr1, List.filter_append, List.length_append, List.length_append, ← p]
        simp [hz]
      · refine lcN s l O ?_
        rw [List.take_add_one, hr1, List.filter_append, List.length_append, ← p]
        simp [hz]
    · rw [hrl, List.take_length] at p
      walk_at "r"
      have e : t - (if decide (r0.t ≤ t) = true then 1 else 0) - (acc.length : Int) = manyOf (r0 :: rest) t := by
        unfold manyOf
        rw [p]
        simp
      rw [e]
      exact k _ (O.drop.weak s)
end
end K7

set_option Elab.async false
set_option linter.all false
set_option maxRecDepth 100000
set_option maxHeartbeats 4000000
set_option pp.deepTerms false
set_option pp.maxSteps 600
namespace K7
open PySem PySem.Spec PyProof.Rows L2 ItX
local macro_rules | `(tactic| walk_at "hp") => `(tactic| with_unfolding_all first
  | exact Ow.get (by assumption) 0 | exact Ow.get (by assumption) 1 | exact Ow.get (by assumption) 2 | exact Ow.get (by assumption) 3
  | exact Ow.fz (by assumption) (by assumption)
  | exact Ow.get (by assumption) 4 | exact Ow.get (by assumption) 5 | exact Ow.get (by assumption) 6 | exact Ow.get (by assumption) 7 | exact Ow.get (by assumption) 8 | exact Ow.get (by assumption) 9)
local macro_rules | `(tactic| walk_at "sq") => `(tactic| with_unfolding_all first
  | exact SqL.of (by walk_at "hp") | exact SqT.of (by walk_at "hp") | assumption)
local macro_rules | `(tactic| walk_at "rd") => `(tactic| with_unfolding_all first
  | exact Rd.of (by walk_at "hp") | assumption | exact Or.inr ⟨_, by walk_at "hp"⟩)
local macro_rules | `(tactic| walk_at "dk") => `(tactic| assumption)
local macro_rules | `(tactic| walk_at "cl") => `(tactic| assumption)
local macro_rules | `(tactic| walk_at "na") => `(tactic| assumption)
local macro_rules | `(tactic| walk_at "lk") => `(tactic| assumption)
local macro_rules | `(tactic| walk_at "ln") => `(tactic| assumption)
local macro_rules | `(tactic| walk_at "ai") => `(tactic| first | with_unfolding_all rfl | exact atI_zero | assumption)
local macro_rules | `(tactic| walk_at "sd") => `(tactic| with_unfolding_all first
  | rfl | assumption | decide | omega
  | exact ⟨by omega, by omega⟩ | exact Or.inl ⟨by omega, by omega⟩ | exact Or.inr ⟨by omega, by omega⟩ | exact ⟨by decide, by decide, by omega⟩)
local macro_rules | `(tactic| walk_at "sz") => `(tactic| first
  | with_unfolding_all exact szl (Nat.le_of_ble_eq_true rfl)
  | with_unfolding_all exact sztl (Nat.le_of_ble_eq_true rfl)
  | exact szl (by simp <;> omega)
  | exact sztl (by simp <;> omega))
local macro_rules | `(tactic| walk_at "s") => `(tactic| first
  | with_reducible refine rd_I0 ?_
  | ((with_reducible apply rd_I); (focus walk_at "sd"))
  | ((with_reducible apply rd_opVC); (focus with_unfolding_all rfl))
  | ((with_reducible apply rd_opVV); (focus with_unfolding_all rfl); (focus with_unfolding_all rfl))
  | ((with_reducible apply rd_opV); (focus with_unfolding_all rfl))
  | with_reducible refine rd_opC ?_
  | with_reducible refine rd_op ?_
  | ((with_reducible apply rd_var); (focus with_unfolding_all rfl))
  | with_reducible refine rd_c ?_
  | with_reducible refine rd_sSet ?_
  | ((with_reducible apply rd_CB1V); (focus with_unfolding_all rfl)) | with_reducible refine rd_CB1 ?_ | with_reducible refine rd_CB ?_
  | ((with_reducible apply rd_consV); (focus with_unfolding_all rfl)) | with_reducible refine rd_consC ?_ | with_reducible refine rd_cons0 ?_ | with_reducible refine rd_cons ?_ | with_reducible refine rd_nil ?_
  | ((with_reducible apply rd_ixL); (focus walk_at "sq"); (focus walk_at "ai"))
  | ((with_reducible apply rd_ixT); (focus walk_at "sq"); (focus walk_at "ai"))
  | with_reducible refine rd_int ?_ | with_reducible refine rd_intB ?_ | with_reducible refine rd_abs ?_
  | ((with_reducible apply rd_len); (focus walk_at "sq")) | ((with_reducible apply rd_lenT); (focus walk_at "sq"))
  | with_reducible refine rd_ifS ?_ | with_reducible refine iteT ?_ | with_reducible refine iteF ?_
  | with_reducible refine rd_tTest ?_ | with_reducible refine rd_tB ?_ | with_reducible refine rd_ex ?_
  | with_reducible refine rd_seqD ?_ | with_reducible refine rd_sSet1 ?_ | with_reducible refine rd_ret ?_ | with_reducible refine rd_drop ?_ | with_reducible refine rd_asg ?_
  | ((with_reducible apply rd_eq); (focus with_unfolding_all rfl)) | ((with_reducible apply rd_ne); (focus with_unfolding_all rfl))
  | with_reducible refine rd_isNr ?_ | with_reducible refine rd_notNr ?_ | with_reducible refine rd_isNn ?_ | with_reducible refine rd_notNn ?_ | with_reducible refine rd_isNi ?_ | with_reducible refine rd_notNi ?_
  | with_reducible refine rd_isN ?_ | with_reducible refine rd_notN ?_
  | with_reducible refine rd_and ?_ | with_reducible refine rd_or ?_ | with_reducible refine rd_not ?_ | with_reducible refine rd_if ?_
  | with_reducible refine rd_seq ?_ | with_reducible refine rd_gName ?_ | with_reducible refine rd_next ?_ | with_reducible refine rd_retN ?_
  | with_reducible refine rd_gSub ?_ | with_reducible refine rd_gCons ?_ | with_reducible refine rd_gNil ?_ | ((with_reducible apply rd_gTup); (focus walk_at "sq"); (focus with_unfolding_all rfl))
  | ((with_reducible apply rd_setL); (focus walk_at "hp"); (focus with_unfolding_all rfl))
  | with_reducible refine rd_par ?_ | with_reducible refine rd_par3 ?_ | with_reducible refine rd_ex2 ?_ | with_reducible refine rd_ex3 ?_
  | with_reducible refine rd_dget ?_ | with_reducible refine rd_din ?_ | with_reducible refine rd_dnotin ?_
  | ((with_reducible apply rd_dgS); (focus walk_at "rd"); (focus walk_at "dk"))
  | ((with_reducible apply rd_dgI); (focus walk_at "rd"); (focus walk_at "dk"))
  | ((with_reducible apply rd_doS); (focus walk_at "rd")) | ((with_reducible apply rd_doI); (focus walk_at "rd"))
  | with_reducible refine rd_dput ?_
  | ((with_reducible apply rd_dpS); (focus walk_at "hp"); (focus walk_at "sz")) | ((with_reducible apply rd_dpI); (focus walk_at "hp"); (focus walk_at "sz"))
  | with_reducible refine rd_bm ?_
  | ((with_reducible apply rd_tyL); (focus walk_at "hp")) | ((with_reducible apply rd_append); (focus walk_at "hp"); (focus walk_at "sz"))
  | with_reducible refine rd_tup ?_ | with_reducible refine rd_lst ?_ | with_reducible refine rd_dnew ?_
  | with_reducible refine rd_for ?_ | with_reducible refine rd_iR1 ?_ | with_reducible refine rd_iR2 ?_ | with_reducible refine rd_iL ?_ | with_reducible refine rd_iT ?_
  | with_reducible refine rd_disp ?_ | with_reducible refine rd_pair ?_ | with_reducible refine rd_pair0 ?_
  | with_reducible refine rd_andV ?_ | with_reducible refine rd_orV ?_
  | ((with_reducible apply rd_tupL); (focus walk_at "sq")) | ((with_reducible apply rd_listT); (focus walk_at "sq"))
  | with_reducible refine rd_lc ?_ | ((with_reducible apply rd_wp); (focus with_unfolding_all rfl)) | with_reducible refine rd_yes ?_
  | with_reducible refine rd_sl ?_ | with_reducible refine rd_noPart ?_ | with_reducible refine rd_part ?_ | with_reducible refine rd_exI ?_
  | ((with_reducible apply rd_isd); (focus walk_at "rd")) | ((with_reducible apply rd_dg1S); (focus walk_at "rd")) | ((with_reducible apply rd_dg1I); (focus walk_at "rd"))
  | with_reducible refine rd_dget1 ?_ | with_reducible refine rd_dget2 ?_ | with_reducible refine rd_dpop2 ?_ | with_reducible refine rd_dpop1 ?_ | with_reducible refine rd_dsetd ?_
  | ((with_reducible apply rd_slL); (focus walk_at "sq"))
  | with_reducible refine rd_iE ?_ | with_reducible refine rd_iS ?_
  | ((with_reducible apply rd_dictD); (focus walk_at "rd"))
  | with_reducible refine rd_setD ?_
  | with_reducible refine rd_meth ?_ | ((with_reducible apply rd_me); (focus walk_at "hp"); (focus walk_at "ln"))
  | with_reducible refine rd_fld ?_ | ((with_reducible apply rd_fl); (focus walk_at "hp"); (focus walk_at "cl"); (focus walk_at "na"); (focus walk_at "lk"))
  | with_reducible refine rd_sfld ?_ | with_reducible refine rd_gfld ?_
  | with_reducible refine rd_dupd ?_ | with_reducible refine rd_lvals ?_ | with_reducible refine rd_sitems ?_ | with_reducible refine rd_revL ?_ | with_reducible refine rd_iView ?_ | with_reducible refine rd_iKeys ?_ | with_reducible refine rd_dc ?_
  | with_reducible refine rd_iET ?_
  | with_reducible refine rd_call ?_)
local macro_rules | `(tactic| walk_at "r") => `(tactic| repeat (walk_at "s"))

local macro_rules | `(tactic| walk_at "lt") => `(tactic| first | with_reducible refine ifT (by decide +kernel) ?_ | with_reducible refine ifF (by decide +kernel) ?_)
local macro_rules | `(tactic| walk_at "R") => `(tactic| repeat (first | walk_at "s" | walk_at "lt"))
/-! ### View.__init__ -/
def v1F (rd : Addr) : List (Str × V) := [("own_reads", .ref rd)]
def v2F (rd tm : Addr) : List (Str × V) := [("own_reads", .ref rd), ("own_times", .ref tm)]
def v3F (rd tm gt : Addr) : List (Str × V) := [("own_reads", .ref rd), ("own_times", .ref tm), ("own_got", .ref gt)]
section
variable {rd tm gt rw_ a : Addr}
theorem pf1 : putF "own_reads" (.ref rd) [] = v1F rd := rfl
theorem pf2 : putF "own_times" (.ref tm) (v1F rd) = v2F rd tm := (putF_tl (by decide +kernel)).trans rfl
theorem pf3 : putF "own_got" (.ref gt) (v2F rd tm) = v3F rd tm gt := by
  unfold v2F
  rw [putF_tl (by decide +kernel), putF_tl (by decide +kernel)]
  rfl
theorem pf4 : putF "own_times" (.ref a) (v3F rd tm gt) = v3F rd a gt := by
  unfold v3F
  rw [putF_tl (by decide +kernel), putF_hd]
theorem pf5 : putF "own_rows" (.ref rw_) (v3F rd tm gt) = vFs rd tm gt rw_ := by
  unfold v3F
  rw [putF_tl (by decide +kernel), putF_tl (by decide +kernel), putF_tl (by decide +kernel)]
  rfl
theorem v3_reads : (v3F rd tm gt).lookup ("own_reads" : Str) = some (.ref rd) := lookup_hd
theorem v3_times : (v3F rd tm gt).lookup ("own_times" : Str) = some (.ref tm) := (lookup_tl (by decide +kernel)).trans lookup_hd
theorem v3_got : (v3F rd tm gt).lookup ("own_got" : Str) = some (.ref gt) := (lookup_tl (by decide +kernel)).trans ((lookup_tl (by decide +kernel)).trans lookup_hd)
end
local macro_rules | `(tactic| walk_at "cl") => `(tactic| first | assumption | exact VA.cls (by assumption))
local macro_rules | `(tactic| walk_at "na") => `(tactic| first | assumption | exact VA.reads (by assumption) | exact VA.times (by assumption) | exact VA.got (by assumption) | exact VA.rows (by assumption))
local macro_rules | `(tactic| walk_at "lk") => `(tactic| first | assumption | exact v3_reads | exact v3_times | exact v3_got)
theorem Ow.ne {F H : Hp} {L : List Cell} {p q : Addr} {o o' : HO} (O : Ow F ((p, o) :: L) H) (h : (q, o') ∈ L) : q ≠ p := fun e => (List.nodup_cons.mp O.nd).1 (List.mem_map.mpr ⟨(q, o'), h, e⟩)
def GotAt (F : Hp) (kv : Key × V) (x : Row) : Prop := kv.1 = .inl x.1 ∧ ∃ b, kv.2 = .ref b ∧ F b = some (.tup [.str x.2.1, .int x.2.2])
theorem GotAt.mono {F G : Hp} {kvs : List (Key × V)} {xs : List Row} (h : Paired (GotAt F) kvs xs) (s : Same F G) : Paired (GotAt G) kvs xs := L2.Paired.mapP h fun _ _ ⟨e, b, e2, h⟩ => ⟨e, b, e2, s _ _ h⟩
theorem got_keys {F : Hp} : ∀ {kvs : List (Key × V)} {xs : List Row}, Paired (GotAt F) kvs xs → kvs.map (·.1) = xs.map fun x => (Sum.inl x.1 : Key)
  | _, _, .nil => rfl
  | _, _, .cons q t => by
    rw [List.map_cons, List.map_cons, got_keys t, q.1]
theorem paired_app {α β : Type} {F : α → β → Prop} : ∀ {l₁ : List α} {l₂ : List β} {m₁ : List α} {m₂ : List β}, Paired F l₁ l₂ → Paired F m₁ m₂ → Paired F (l₁ ++ m₁) (l₂ ++ m₂)
  | _, _, _, _, .nil, h => h
  | _, _, _, _, .cons q t, h => .cons q (paired_app t h)
theorem keys_nd {xs : List Row} (h : (xs.map (·.1)).Pairwise (· < ·)) : (xs.map fun x => (Sum.inl x.1 : Key)).Nodup := by
  have e : (xs.map fun x => (Sum.inl x.1 : Key)) = (xs.map (·.1)).map Sum.inl := by rw [List.map_map]; rfl
  rw [e]
  refine List.pairwise_map.mpr (List.Pairwise.imp (fun {a b} hab e => ?_) h)
  have := Sum.inl.inj e
  omega
def iRow (x : Int × Str × Option Int) : Row := (x.1, x.2.1, x.2.2.getD 0)
theorem rows_of_items {F3 G H2 : Hp} : ∀ {ts : List Addr} {kvs : List (Key × V)} {xs : List Row}, Paired (fun (t : Addr) (q : Key × V) => H2 t = some (.tup [kV q.1, q.2])) ts kvs → Paired (GotAt F3) kvs xs → (∀ t ∈ ts, ∀ o, H2 t = some o → G t = some o) → Same F3 G → Paired (RwAt G) (ts.map V.ref) xs
  | _, _, _, .nil, .nil, _, _ => .nil
  | _, _, _, .cons q t, .cons q' t', h, s => by
    obtain ⟨e1, b, e2, h2⟩ := q'
    rw [e1, e2] at q
    exact .cons ⟨_, b, rfl, h _ (List.mem_cons_self ..) _ q, s _ _ h2⟩ (rows_of_items t t' (fun z hz => h z (List.mem_cons_of_mem _ hz)) s)
section
variable {P : Program} {w : World} {K : PySem.W.Frag} {mg : Str → Option Value} {base : Heap} {C fi : Addr}
abbrev s_View_init : Stmt := inClass (top 8) 0
theorem sc_View_init : FnScope ["self", "view", "time", "upto", "got", "place", "key", "value"] ["self", "view"] (defScope s_View_init) := ⟨rfl, rfl, rfl, by decide +kernel, rfl, by decide +kernel, by decide +kernel⟩
theorem bd_View_init : Bd "__init__" "View.__init__" s_View_init ["self", "view"] := fun _ _ _ _ _ _ us hl => match us, hl with | [_, _], _ => rfl
/-! slots: 0 self, 1 view, 2 time, 3 upto, 4 got, 5 place, 6 key, 7 value -/
theorem ok_View_init {f : Addr} (S : Src K "__init__" "View.__init__" s_View_init f) (T : Blt mg) (va : VA K C) (G_as_tuples : Def P w K mg base "as_tuples" ["thing"] 5 (spAs K 5)) : Fn P w K mg base f ["self", "view"] 6 (spVInit C) := by
  refine fn_mk S sc_View_init bd_View_init (fun vs H Q E h => ?_) (fun cdv A outer s0 H vs Q E hr h => ?_)
  · obtain ⟨_, _, _, _, _, _, rfl, _⟩ := h
    rfl
  · obtain ⟨F, R, x, dx, v, rs, rfl, O, hv, hc, hno, k⟩ := h
    have hu := hu_of hr
    refine ⟨_, (pss_cons (ps_fld (pv 0) (pe_callTy cl_listT (by rfl) T.list (by decide +kernel) (pa_cons (pe_def G_as_tuples (hr.mono (by first | decide | omega)) rfl (pa_cons (pv 1) pa_nil)) pa_nil)) rfl)
      (pss_cons (ps_fld (pv 0) (pe_lst pa_nil) rfl)
      (pss_cons (ps_fld (pv 0) pe_dnewK rfl)
      (pss_cons (ps_for PassesOwn.never rfl (pi_list (pe_fld (pv 0) rfl)) (pg_tup (n := 3) rfl (pgs_cons (pg_name (i := 2) sc_View_init.nd rfl (Or.inl rfl)) (pgs_cons (pg_name (i := 3) sc_View_init.nd rfl (Or.inl rfl)) (pgs_cons (pg_name (i := 4) sc_View_init.nd rfl (Or.inl rfl)) pgs_nil))))
        (pss_cons (ps_fld (pv 0) (pe_op op_cat (pe_fld (pv 0) rfl) (pe_op op_rep (pe_lst (pa_cons (pv 2) pa_nil)) (pe_op op_sub (pv 3) (pe_callB cl_len (by rfl) T.len (by decide +kernel) (pa_cons (pe_fld (pv 0) rfl) pa_nil))))) rfl)
        (pss_one (ps_expr (pe_dupd (pe_fld (pv 0) rfl) (pe_dc (own := [("place", 5), ("key", 6), ("value", 7)]) rfl sc_View_init.nd (pi_tup (pv 4)) (blkOk_by (N := ["self", "view", "time", "upto", "got", "place", "key", "value"]) (sc := defScope s_View_init) (own := [("place", 5), ("key", 6), ("value", 7)]) (by decide +kernel)) (fun _ _ _ _ _ => (pg_tupE (K := K) (n := 3) rfl rfl (pgs_cons (pg_name (i := 5) sc_View_init.nd rfl (Or.inl rfl)) (pgs_cons (pg_name (i := 6) sc_View_init.nd rfl (Or.inl rfl)) (pgs_cons (pg_name (i := 7) sc_View_init.nd rfl (Or.inl rfl)) pgs_nil))))) (fun _ _ _ _ _ => pts_nil) (fun _ _ _ _ _ => (pv 5)) (fun _ _ _ _ _ => (pe_tup (pa_cons (pv 6) (pa_cons (pv 7) pa_nil))))) ⟨rfl, rfl, rfl, rfl⟩)))))
      (pss_one (ps_fld (pv 0) (pe_sortItems rfl (pe_fld (pv 0) rfl) (by rfl) T.sorted (by decide +kernel)) rfl)))))), ?_⟩
    walk_at "r"
    refine ⟨F, _, v, viewD rs, rfl, O, view_at hv hc, fun x' F1 H s1 hx' O => ?_⟩
    obtain ⟨a', rv, rfl, ha', hrv⟩ := at_view hx'
    have hcl := hc.len (by decide)
    have hrl := hrv.length
    walk_at "r"
    intro rd hp
    obtain ⟨F2, s2, hrd, O⟩ := O.newF (o := .lst rv) hp
    have hrv := L2.Paired.mapP hrv fun _ _ z => RdgAt.mono z s2
    have s02 := s1.trans s2
    walk_at "r"
    refine rd_sfl (O.get 0) va.cls va.reads (by decide) pf1 ?_
    have O := O.set 0 (.ins C dx (v1F rd))
    walk_at "r"
    refine ⟨by walk_at "sz", fun tm hp => ?_⟩
    have O := O.new (o := .lst []) hp
    walk_at "r"
    refine rd_sfl (O.get 1) va.cls va.times (by show 1 < 1000; decide) pf2 ?_
    have O := O.set 1 (.ins C dx (v2F rd tm))
    walk_at "r"
    intro gt hp
    have O := O.new (o := .dK []) hp
    walk_at "r"
    refine rd_sfl (O.get 2) va.cls va.got (by show 2 < 1000; decide) pf3 ?_
    have O := O.set 2 (.ins C dx (v3F rd tm gt))
    have O : Ow F2 ((x, .ins C dx (v3F rd tm gt)) :: (tm, .lst []) :: (gt, .dK []) :: R) _ := ((O.top 1).top 2)
    walk_at "r"
    refine lp_L rv (fun i σ' H' => ∃ (F3 : Hp) (tm : Addr) (kvs : List (Key × V)) (v2 v3 v4 v5 v6 v7 : Option V), σ' = [some (.ref x), some v, v2, v3, v4, v5, v6, v7] ∧ Same F2 F3 ∧ Paired (GotAt F3) kvs (rowsOf (rs.take i)) ∧
        Ow F3 ((x, .ins C dx (v3F rd tm gt)) :: (tm, .lst ((timesOf 0 (rs.take i)).map V.int)) :: (gt, .dK kvs) :: R) H')
      ⟨F2, tm, [], _, _, _, _, _, _, rfl, Same.refl _, .nil, O⟩ (fun i σ' H' _ ⟨_, _, _, _, _, _, _, _, _, _, s3, _, O⟩ => SqL.of (O.fz (s3 _ _ hrd))) ?_ ?_
    · rintro i y σ' H' hy ⟨F3, tm, kvs, v2, v3, v4, v5, v6, v7, rfl, s3, hkv, O⟩
      obtain ⟨r, hr1, ra, rb, refs, rfl, hra, hrb, h3⟩ := L2.paired_get hrv hy
      have hra := s3 _ _ hra
      have hrb := s3 _ _ hrb
      have h3 := h3.mono s3
      have h3l := h3.length
      obtain ⟨lo, l0, l1, l2, rok⟩ := hc.at_ (Int.le_refl _) hr1
      have hrwl := rok.len l0 l2
      have hct := hc.take_ i
      have hct1 := hc.take_ (i + 1)
      have etk : rs.take (i + 1) = rs.take i ++ [r] := by rw [List.take_add_one, hr1]; rfl
      have tl := times_len hct
      have n0 := hct.lastU_ge
      have n1 := hct.lastU_le (by decide)
      have rl := rows_len hct
      have hkl := hkv.length
      walk_at "r"
      refine ⟨by walk_at "sz", fun q1 hp => ?_⟩
      have O := O.new (o := .lst [.int r.t]) hp
      walk_at "r"
      rw [List.length_map]
      refine rd_rep (O.get 0) (by omega) (by omega) (szl (by simp; omega)) fun q2 hp => ?_
      have er : (List.replicate (r.u - ((timesOf 0 (rs.take i)).length : Int)).toNat [V.int r.t]).flatten = (List.replicate (r.u - lastU 0 (rs.take i)).toNat r.t).map V.int := by
        rw [tl, Int.sub_zero]
        simp
      rw [er]
      have O := O.new (o := .lst ((List.replicate (r.u - lastU 0 (rs.take i)).toNat r.t).map V.int)) hp
      refine rd_cat (O.get 3) (O.get 0) (szl (by simp; omega)) fun q3 hp => ?_
      rw [← List.map_append, ← times_snoc, ← etk]
      have O := O.new (o := .lst ((timesOf 0 (rs.take (i + 1))).map V.int)) hp
      have O := (((O.er 1).er 1).er 2)
      have O := O.top 1
      walk_at "r"
      refine rd_sfl (O.get 0) va.cls va.times (by show 3 < 1000; decide) pf4 ?_
      have O := O.set 0 (.ins C dx (v3F rd q3 gt))
      walk_at "r"
      have hnor := hno r (List.mem_of_getElem? hr1)
      have asc := (rows_ok hct1).1
      have erw : rowsOf (rs.take (i + 1)) = rowsOf (rs.take i) ++ r.rows.map iRow := by rw [etk, rows_snoc]; rfl
      rw [erw] at asc
      have nd := keys_nd asc
      rw [List.map_append] at asc
      refine ⟨rb, rfl, ⟨refs, SqT.of (O.fz hrb)⟩, dc_any walk_tup O (fun i F' kvs => Paired (GotAt F') kvs ((r.rows.take i).map iRow)) .nil (fun D F' acc H s O => SqT.of (O.fz (s _ _ hrb))) (fun D j z F' acc H H' hj s p l O ⟨e1, hz⟩ => ?_) (fun D F' acc H s p l O => ?_)⟩
      · subst e1
        obtain ⟨⟨k0, key, o⟩, hy, ya, rfl, hya⟩ := L2.paired_get (h3.mono s) hz
        have hno1 := hnor _ (List.mem_of_getElem? hy)
        cases o with
        | none => exact absurd rfl hno1
        | some n =>
          have hya : F' ya = some (.tup [.int k0, .str key, .int n]) := hya
          have hj2 : j < r.rows.length := (List.getElem?_eq_some_iff.mp hy).1
          walk_at "r"
          refine ⟨by walk_at "sz", fun b hp => ?_⟩
          obtain ⟨F4, s4, h4, O⟩ := O.newF (o := .tup [.str key, .int n]) hp
          have p4 := GotAt.mono p s4
          have enew : (r.rows.take (j + 1)).map iRow = (r.rows.take j).map iRow ++ [(k0, key, n)] := by
            rw [List.take_add_one, hy, List.map_append]
            rfl
          refine dcP (k := .inl k0) (by omega) (s.trans s4) l O ?_
          rw [putK_new _ (valV_out fun hm => ?_), enew]
          · exact p4.snoc ⟨rfl, b, rfl, h4⟩
          · rw [got_keys p4] at hm
            obtain ⟨y', hy', e⟩ := List.mem_map.mp hm
            obtain ⟨y2, hy2, rfl⟩ := List.mem_map.mp hy'
            have e : y2.1 = k0 := Sum.inl.inj e
            obtain ⟨m, hm2⟩ := List.getElem?_of_mem hy2
            rw [List.getElem?_take] at hm2
            split at hm2
            · rename_i hmj
              have a2 := List.pairwise_iff_getElem.mp (List.pairwise_map.mp rok.asc)
              obtain ⟨lm, em⟩ := List.getElem?_eq_some_iff.mp hm2
              obtain ⟨lj, ej⟩ := List.getElem?_eq_some_iff.mp hy
              have := a2 m j lm lj hmj
              rw [em, ej] at this
              have : y2.1 < k0 := this
              omega
            · cases hm2
      · rw [h3l, List.take_length] at p
        have hkv := GotAt.mono hkv s
        refine ⟨D, kvs, acc, rfl, Ow.ne O (o' := .dK kvs) (by simp), O.get 3, Rd.of (O.get 0), szl (by rw [hkl]; omega), ?_⟩
        have em : mergeK kvs acc = kvs ++ acc := merge_snoc acc kvs (by rw [List.map_append, got_keys hkv, got_keys p, ← List.map_append]; exact nd)
        rw [em]
        have O := O.set 3 (.dK (kvs ++ acc))
        exact ⟨F', q3, kvs ++ acc, _, _, _, _, _, _, rfl, s3.trans s, by rw [erw]; exact paired_app hkv p, O.drop⟩
    · rintro σ' H' ⟨F3, tm, kvs, v2, v3, v4, v5, v6, v7, rfl, s3, hkv, O⟩
      rw [hrl, List.take_length] at hkv O
      have asc := (rows_ok hc).1
      walk_at "r"
      refine ⟨gt, kvs, (rowsOf rs).map (·.1), rfl, Rd.of (O.get 2), by rw [got_keys hkv, List.map_map]; rfl, asc, fun H2 p ts kp hp hts hnot hpl hpr => ?_⟩
      obtain ⟨F4, s4, e4, O⟩ := O.more (p :: ts) (fun b hb => by
        rcases List.mem_cons.mp hb with rfl | hb
        · exact hp
        · exact hts b hb) kp
      walk_at "r"
      refine rd_sfl (O.get 0) va.cls va.rows (by show 3 < 1000; decide) pf5 ?_
      have O := O.set 0 (.ins C dx (vFs rd tm gt p))
      have f1 := O.fle
      have O1 := O.freeze
      have f2 := O1.fle
      have O2 := O1.freeze
      have f3 := O2.fle
      have O3 := O2.freeze
      have f13 := (f1.trans f2).trans f3
      have s4f := s4.trans f13
      refine k _ _ ((((s02.trans s3).trans s4).trans f13)) ⟨dx, rd, tm, gt, p, rv, kvs, ts.map V.ref, f3 _ _ (f2 _ _ upd_same), s4f _ _ (s3 _ _ hrd), L2.Paired.mapP hrv fun _ _ z => (z.mono s3).mono s4f, f3 _ _ upd_same, upd_same, got_keys hkv, f13 _ _ (by rw [e4 p (List.mem_cons_self ..)]; exact hpl), ?_⟩ O3
      exact rows_of_items hpr hkv (fun t ht o e => f13 _ _ (by rw [e4 t (List.mem_cons_of_mem _ ht)]; exact e)) s4f
end
end K7

set_option Elab.async false
set_option linter.all false
set_option maxRecDepth 100000
set_option maxHeartbeats 4000000
namespace K7
open PySem PySem.Spec PyProof.Rows L2
/-! ### the search, in plain words -/
def minI : List Int → Int
  | [] => 0
  | x :: xs => xs.foldl min x
theorem foldl_min : ∀ (xs : List Int) (x : Int), xs.foldl min x ≤ x ∧ (∀ y ∈ xs, xs.foldl min x ≤ y) ∧ (xs.foldl min x = x ∨ xs.foldl min x ∈ xs)
  | [], x => ⟨Int.le_refl _, fun _ h => (nomatch h), .inl rfl⟩
  | y :: ys, x => by
    obtain ⟨h1, h2, h3⟩ := foldl_min ys (min x y)
    rw [List.foldl_cons]
    have a : min x y ≤ x := Int.min_le_left _ _
    have b : min x y ≤ y := Int.min_le_right _ _
    refine ⟨by omega, fun z hz => ?_, ?_⟩
    · rcases List.mem_cons.mp hz with rfl | hz
      · omega
      · exact h2 z hz
    · rcases h3 with h3 | h3
      · rcases Int.le_total x y with c | c
        · left; rw [h3]; exact Int.min_eq_left c
        · right; rw [h3, Int.min_eq_right c]; exact List.mem_cons_self ..
      · right; exact List.mem_cons_of_mem _ h3
theorem minI_of {ns : List Int} {m : Int} (hm : m ∈ ns) (h : ∀ y ∈ ns, m ≤ y) : m = minI ns := by
  cases ns with
  | nil => cases hm
  | cons x xs =>
    obtain ⟨h1, h2, h3⟩ := foldl_min xs x
    have a : minI (x :: xs) ≤ m := by
      rcases List.mem_cons.mp hm with rfl | hm
      · exact h1
      · exact h2 m hm
    have b : m ≤ minI (x :: xs) := by
      rcases h3 with h3 | h3
      · show m ≤ xs.foldl min x
        rw [h3]
        exact h x (List.mem_cons_self ..)
      · exact h _ (List.mem_cons_of_mem _ h3)
    omega
abbrev KP := List (Int × Str)
def after (keys : KP) (p : Int) (k : Str) : List Int := (keys.filter fun q => decide (p < q.1) && decide (q.2 = k)).map (·.1)
def knownOf (rs : List Rdg) (ms : KP) : KP := (rowsOf rs).map (fun x => (x.1, x.2.1)) ++ ms
def nextV (known : KP) (key : Str) (p : Int) : Option Int := if after known p key = [] then none else some (minI (after known p key))
def highs0 (rs : List Rdg) (ms : KP) : List (Int × Int) := (rowsOf rs).filterMap fun x => (nextV (knownOf rs ms) x.2.1 x.1).map fun m => (timeAt rs x.1, m)
def agedOf (rs : List Rdg) (hold p : Int) : Int × Int := (timeAt rs p - hold, p + 1)
def lows0 (rs : List Rdg) (hold : Int) (ms : KP) : List (Int × Int) := ms.map fun q => agedOf rs hold q.1
def leftOf (rs : List Rdg) (ms : KP) : List Int := ((gapsOf rs).filter fun p => !(ms.any fun q => decide (q.1 = p))).reverse
def badHigh (t pt : Int) (highs : List (Int × Int)) : Bool := highs.any fun h => decide (t ≤ h.1) && decide (h.2 < pt)
def canB (rs : List Rdg) (lows highs : List (Int × Int)) : Bool := lows.all fun l => !(decide (l.1 < 0) || decide (manyOf rs l.1 < l.2)) && !badHigh l.1 l.2 highs
structure Ch where
  key : Str
  low : Int × Int
  high : Option (Int × Int)
  mark : Bool
def ownHigh (rs : List Rdg) (k : Str) (p : Int) : Option (Int × Int) := ((rowsOf rs).filter fun x => decide (x.1 < p) && decide (x.2.1 = k)).getLast?.map fun x => (timeAt rs x.1, p)
def keyCh (rs : List Rdg) (keys : KP) (p : Int) (k : Str) : Option Ch := if after keys p k = [] then none else some ⟨k, (timeAt rs p, minI (after keys p k) + 1), ownHigh rs k p, false⟩
def chList (rs : List Rdg) (hold : Int) (ks : List Str) (keys : KP) (p : Int) : List Ch :=
  ⟨"x", agedOf rs hold p, none, true⟩ :: ⟨"x", (timeAt rs p, minI (after keys p "x" ++ [lastU 0 rs]) + 1), none, false⟩ :: ks.filterMap (keyCh rs keys p)
theorem chList_mem {rs : List Rdg} {hold : Int} {ks ys : List Str} {keys : KP} {p : Int} (h : ∀ k, k ∈ ys ↔ k ∈ ks) (c : Ch) : c ∈ chList rs hold ys keys p ↔ c ∈ chList rs hold ks keys p := by
  have : c ∈ ys.filterMap (keyCh rs keys p) ↔ c ∈ ks.filterMap (keyCh rs keys p) := by
    rw [List.mem_filterMap, List.mem_filterMap]
    exact ⟨fun ⟨k, a, b⟩ => ⟨k, (h k).mp a, b⟩, fun ⟨k, a, b⟩ => ⟨k, (h k).mpr a, b⟩⟩
  unfold chList
  rw [List.mem_cons, List.mem_cons, List.mem_cons, List.mem_cons, this]
def FillP (rs : List Rdg) (hold : Int) (ks : List Str) : List Int → List (Int × Int) → List (Int × Int) → KP → Prop
  | [], lows, highs, _ => canB rs lows highs = true
  | p :: left, lows, highs, keys => canB rs lows highs = true ∧ ∃ c ∈ chList rs hold ks keys p, FillP rs hold ks left (lows ++ [c.low]) (highs ++ c.high.toList) (keys ++ [(p, c.key)])
theorem FillP.can {rs : List Rdg} {hold : Int} {ks : List Str} : ∀ {left : List Int} {lows highs : List (Int × Int)} {keys : KP}, FillP rs hold ks left lows highs keys → canB rs lows highs = true
  | [], _, _, _, h => h
  | _ :: _, _, _, _, h => h.1
def SearchP (rs : List Rdg) (hold : Int) (ms : KP) : Prop := FillP rs hold ((knownOf rs ms).map (·.2)) (leftOf rs ms) (lows0 rs hold ms) (highs0 rs ms) (knownOf rs ms)
def FitsP (rs : List Rdg) (hold : Int) (ms : KP) : Prop := rs = [] ∨ ((rs.headD ⟨0, 0, []⟩).t ≥ 1 ∧ (∀ r ∈ rs, r.u ≤ manyOf rs r.t) ∧ SearchP rs hold ms)
/-! ### a greater hold -/
theorem many_step (rs : List Rdg) (t0 : Int) (h : Chn 0 t0 rs) (t : Int) : manyOf rs t ≤ manyOf rs (t + 1) := by
  cases rs with
  | nil =>
    unfold manyOf
    show t - (if (0 : Int) ≤ t then 1 else 0) - ((0 : Nat) : Int) ≤ t + 1 - (if (0 : Int) ≤ t + 1 then 1 else 0) - ((0 : Nat) : Int)
    by_cases h1 : (0 : Int) ≤ t
    · rw [if_pos h1, if_pos (by omega)]; omega
    · rw [if_neg h1]
      by_cases h2 : (0 : Int) ≤ t + 1
      · rw [if_pos h2]; omega
      · rw [if_neg h2]; omega
  | cons r rs =>
    have key : ∀ {rs : List Rdg} {u t0 : Int}, Chn u t0 rs → ((rs.filter fun r => decide (r.t < t + 1)).length : Int) ≤ ((rs.filter fun r => decide (r.t < t)).length : Int) + (if t0 < t then 1 else 0) ∧ (t ≤ t0 → (rs.filter fun r => decide (r.t < t + 1)).length = 0) := by
      intro rs
      induction rs with
      | nil => exact fun _ => ⟨by simp; split <;> omega, fun _ => rfl⟩
      | cons x xs ih =>
        rintro u t0 ⟨a, b, c, d, e⟩
        obtain ⟨i1, i2⟩ := ih e
        by_cases h1 : x.t < t
        · rw [List.filter_cons_of_pos (by simpa using (by omega : x.t < t + 1)), List.filter_cons_of_pos (by simpa using h1)]
          rw [if_pos h1] at i1
          refine ⟨?_, fun h => by omega⟩
          rw [if_pos (by omega), List.length_cons, List.length_cons]
          omega
        · have z := i2 (by omega)
          have z' : (xs.filter fun r => decide (r.t < t)).length = 0 := by
            rw [List.length_eq_zero_iff] at z ⊢
            rw [List.filter_eq_nil_iff] at z ⊢
            intro y hy hlt
            have := z y hy
            simp at this hlt
            omega
          rw [List.filter_cons_of_neg (p := fun r : Rdg => decide (r.t < t)) (by simpa using (by omega : t ≤ x.t))]
          by_cases h2 : x.t < t + 1
          · rw [List.filter_cons_of_pos (by simpa using h2), List.length_cons, z, z']
            refine ⟨by rw [if_pos (by omega)]; omega, fun h => by omega⟩
          · rw [List.filter_cons_of_neg (by simpa using (by omega : t + 1 ≤ x.t)), z, z']
            refine ⟨by split <;> omega, fun _ => rfl⟩
    obtain ⟨a, b, c, d, e⟩ := h
    obtain ⟨i1, i2⟩ := key e
    unfold manyOf
    rw [List.headD_cons]
    by_cases h1 : r.t ≤ t
    · rw [if_pos h1, if_pos (by omega)]
      by_cases h2 : r.t < t
      · rw [List.filter_cons_of_pos (by simpa using h2), List.filter_cons_of_pos (by simpa using (by omega : r.t < t + 1)), List.length_cons, List.length_cons]
        rw [if_pos h2] at i1
        omega
      · have z := i2 (by omega)
        rw [List.filter_cons_of_pos (p := fun r : Rdg => decide (r.t < t + 1)) (by simpa using (by omega : r.t < t + 1)), List.length_cons, z]
        omega
    · have z := i2 (by omega)
      rw [List.filter_cons_of_neg (p := fun r : Rdg => decide (r.t < t + 1)) (by simpa using (by omega : t + 1 ≤ r.t)), z, if_neg h1]
      split <;> omega
theorem many_mono {rs : List Rdg} (h : Chn 0 (-1) rs) {t t' : Int} (l : t ≤ t') : manyOf rs t ≤ manyOf rs t' := by
  obtain ⟨n, rfl⟩ := Int.le.dest l
  induction n with
  | zero => simp
  | succ n ih =>
    have a := ih (by omega)
    have b := many_step rs (-1) h (t + n)
    have e : t + ((n + 1 : Nat) : Int) = t + n + 1 := by omega
    rw [e]
    omega
/-- lows' times may be greater -/
def Low (l l' : Int × Int) : Prop := l.1 ≤ l'.1 ∧ l.2 = l'.2
theorem can_mono {rs : List Rdg} (h : Chn 0 (-1) rs) {lows lows' highs : List (Int × Int)} (hl : Paired Low lows lows') (c : canB rs lows highs = true) : canB rs lows' highs = true := by
  unfold canB at c ⊢
  induction hl with
  | nil => rfl
  | cons q t ih =>
    rename_i l l' ls ls'
    rw [List.all_cons, Bool.and_eq_true] at c ⊢
    refine ⟨?_, ih c.2⟩
    have c1 := c.1
    obtain ⟨q1, q2⟩ := q
    have mm := many_mono h q1
    rw [Bool.and_eq_true] at c1 ⊢
    simp only [Bool.not_eq_true', Bool.or_eq_false_iff, decide_eq_false_iff_not] at c1 ⊢
    refine ⟨⟨by omega, by omega⟩, ?_⟩
    have c2 := c1.2
    unfold badHigh at c2 ⊢
    rw [List.any_eq_false] at c2 ⊢
    intro x hx
    have := c2 x hx
    simp only [Bool.and_eq_true, decide_eq_true_eq] at this ⊢
    omega
theorem fill_mono {rs : List Rdg} (h : Chn 0 (-1) rs) {hold : Int} {ks : List Str} : ∀ {left : List Int} {lows lows' highs : List (Int × Int)} {keys : KP}, Paired Low lows lows' → FillP rs (hold + 1) ks left lows highs keys → FillP rs hold ks left lows' highs keys
  | [], _, _, _, _, hl, f => can_mono h hl f
  | p :: left, lows, lows', highs, keys, hl, ⟨c, ch, hm, f⟩ => by
    refine ⟨can_mono h hl c, ?_⟩
    unfold chList at hm
    rcases List.mem_cons.mp hm with rfl | hm
    · refine ⟨_, List.mem_cons_self .., fill_mono h (hl.snoc (a := agedOf rs (hold + 1) p) (b := agedOf rs hold p) ⟨?_, rfl⟩) f⟩
      show timeAt rs p - (hold + 1) ≤ timeAt rs p - hold
      omega
    · exact ⟨ch, List.mem_cons_of_mem _ hm, fill_mono h (hl.snoc ⟨Int.le_refl _, rfl⟩) f⟩
theorem fits_mono {rs : List Rdg} (h : Chn 0 (-1) rs) {hold : Int} {ms : KP} (f : FitsP rs (hold + 1) ms) : FitsP rs hold ms := by
  rcases f with f | ⟨f1, f2, f3⟩
  · exact .inl f
  · refine .inr ⟨f1, f2, fill_mono h ?_ f3⟩
    unfold lows0
    have : ∀ ms : KP, Paired Low (ms.map fun q => agedOf rs (hold + 1) q.1) (ms.map fun q => agedOf rs hold q.1) := by
      intro ms
      induction ms with
      | nil => exact .nil
      | cons q t ih =>
        refine .cons ⟨?_, rfl⟩ ih
        show timeAt rs q.1 - (hold + 1) ≤ timeAt rs q.1 - hold
        omega
    exact this ms
end K7

set_option Elab.async false
set_option linter.all false
set_option maxRecDepth 100000
set_option maxHeartbeats 4000000
set_option pp.deepTerms false
set_option pp.maxSteps 600
namespace K7
open PySem PySem.Spec PyProof.Rows L2 ItX
local macro_rules | `(tactic| walk_at "hp") => `(tactic| with_unfolding_all first
  | exact Ow.get (by assumption) 0 | exact Ow.get (by assumption) 1 | exact Ow.get (by assumption) 2 | exact Ow.get (by assumption) 3
  | exact Ow.fz (by assumption) (by assumption)
  | exact Ow.get (by assumption) 4 | exact Ow.get (by assumption) 5 | exact Ow.get (by assumption) 6 | exact Ow.get (by assumption) 7 | exact Ow.get (by assumption) 8 | exact Ow.get (by assumption) 9)
local macro_rules | `(tactic| walk_at "sq") => `(tactic| with_unfolding_all first
  | exact SqL.of (by walk_at "hp") | exact SqT.of (by walk_at "hp") | assumption)
local macro_rules | `(tactic| walk_at "rd") => `(tactic| with_unfolding_all first
  | exact Rd.of (by walk_at "hp") | assumption | exact Or.inr ⟨_, by walk_at "hp"⟩)
local macro_rules | `(tactic| walk_at "dk") => `(tactic| assumption)
local macro_rules | `(tactic| walk_at "cl") => `(tactic| assumption)
local macro_rules | `(tactic| walk_at "na") => `(tactic| assumption)
local macro_rules | `(tactic| walk_at "lk") => `(tactic| assumption)
local macro_rules | `(tactic| walk_at "ln") => `(tactic| assumption)
local macro_rules | `(tactic| walk_at "ai") => `(tactic| first | with_unfolding_all rfl | exact atI_zero | assumption)
local macro_rules | `(tactic| walk_at "sd") => `(tactic| with_unfolding_all first
  | rfl | assumption | decide | omega
  | exact ⟨by omega, by omega⟩ | exact Or.inl ⟨by omega, by omega⟩ | exact Or.inr ⟨by omega, by omega⟩ | exact ⟨by decide, by decide, by omega⟩)
local macro_rules | `(tactic| walk_at "sz") => `(tactic| first
  | with_unfolding_all exact szl (Nat.le_of_ble_eq_true rfl)
  | with_unfolding_all exact sztl (Nat.le_of_ble_eq_true rfl)
  | exact szl (by simp <;> omega)
  | exact sztl (by simp <;> omega))
local macro_rules | `(tactic| walk_at "s") => `(tactic| first
  | with_reducible refine rd_I0 ?_
  | ((with_reducible apply rd_I); (focus walk_at "sd"))
  | ((with_reducible apply rd_opVC); (focus with_unfolding_all rfl))
  | ((with_reducible apply rd_opVV); (focus with_unfolding_all rfl); (focus with_unfolding_all rfl))
  | ((with_reducible apply rd_opV); (focus with_unfolding_all rfl))
  | with_reducible refine rd_opC ?_
  | with_reducible refine rd_op ?_
  | ((with_reducible apply rd_var); (focus with_unfolding_all rfl))
  | with_reducible refine rd_c ?_
  | with_reducible refine rd_sSet ?_
  | ((with_reducible apply rd_CB1V); (focus with_unfolding_all rfl)) | with_reducible refine rd_CB1 ?_ | with_reducible refine rd_CB ?_
  | ((with_reducible apply rd_consV); (focus with_unfolding_all rfl)) | with_reducible refine rd_consC ?_ | with_reducible refine rd_cons0 ?_ | with_reducible refine rd_cons ?_ | with_reducible refine rd_nil ?_
  | ((with_reducible apply rd_ixL); (focus walk_at "sq"); (focus walk_at "ai"))
  | ((with_reducible apply rd_ixT); (focus walk_at "sq"); (focus walk_at "ai"))
  | with_reducible refine rd_int ?_ | with_reducible refine rd_intB ?_ | with_reducible refine rd_abs ?_
  | ((with_reducible apply rd_len); (focus walk_at "sq")) | ((with_reducible apply rd_lenT); (focus walk_at "sq"))
  | with_reducible refine rd_ifS ?_ | with_reducible refine iteT ?_ | with_reducible refine iteF ?_
  | with_reducible refine rd_tTest ?_ | with_reducible refine rd_tB ?_ | with_reducible refine rd_ex ?_
  | with_reducible refine rd_seqD ?_ | with_reducible refine rd_sSet1 ?_ | with_reducible refine rd_ret ?_ | with_reducible refine rd_drop ?_ | with_reducible refine rd_asg ?_
  | ((with_reducible apply rd_eq); (focus with_unfolding_all rfl)) | ((with_reducible apply rd_ne); (focus with_unfolding_all rfl))
  | with_reducible refine rd_isNr ?_ | with_reducible refine rd_notNr ?_ | with_reducible refine rd_isNn ?_ | with_reducible refine rd_notNn ?_ | with_reducible refine rd_isNi ?_ | with_reducible refine rd_notNi ?_
  | with_reducible refine rd_isN ?_ | with_reducible refine rd_notN ?_
  | with_reducible refine rd_and ?_ | with_reducible refine rd_or ?_ | with_reducible refine rd_not ?_ | with_reducible refine rd_if ?_
  | with_reducible refine rd_seq ?_ | with_reducible refine rd_gName ?_ | with_reducible refine rd_next ?_ | with_reducible refine rd_retN ?_
  | with_reducible refine rd_gSub ?_ | with_reducible refine rd_gCons ?_ | with_reducible refine rd_gNil ?_ | ((with_reducible apply rd_gTup); (focus walk_at "sq"); (focus with_unfolding_all rfl))
  | ((with_reducible apply rd_setL); (focus walk_at "hp"); (focus with_unfolding_all rfl))
  | with_reducible refine rd_par ?_ | with_reducible refine rd_par3 ?_ | with_reducible refine rd_ex2 ?_ | with_reducible refine rd_ex3 ?_
  | with_reducible refine rd_dget ?_ | with_reducible refine rd_din ?_ | with_reducible refine rd_dnotin ?_
  | ((with_reducible apply rd_dgS); (focus walk_at "rd"); (focus walk_at "dk"))
  | ((with_reducible apply rd_dgI); (focus walk_at "rd"); (focus walk_at "dk"))
  | ((with_reducible apply rd_doS); (focus walk_at "rd")) | ((with_reducible apply rd_doI); (focus walk_at "rd"))
  | with_reducible refine rd_dput ?_
  | ((with_reducible apply rd_dpS); (focus walk_at "hp"); (focus walk_at "sz")) | ((with_reducible apply rd_dpI); (focus walk_at "hp"); (focus walk_at "sz"))
  | with_reducible refine rd_bm ?_
  | ((with_reducible apply rd_tyL); (focus walk_at "hp")) | ((with_reducible apply rd_append); (focus walk_at "hp"); (focus walk_at "sz"))
  | with_reducible refine rd_tup ?_ | with_reducible refine rd_lst ?_ | with_reducible refine rd_dnew ?_
  | with_reducible refine rd_for ?_ | with_reducible refine rd_iR1 ?_ | with_reducible refine rd_iR2 ?_ | with_reducible refine rd_iL ?_ | with_reducible refine rd_iT ?_
  | with_reducible refine rd_disp ?_ | with_reducible refine rd_pair ?_ | with_reducible refine rd_pair0 ?_
  | with_reducible refine rd_andV ?_ | with_reducible refine rd_orV ?_
  | ((with_reducible apply rd_tupL); (focus walk_at "sq")) | ((with_reducible apply rd_listT); (focus walk_at "sq"))
  | with_reducible refine rd_lc ?_ | ((with_reducible apply rd_wp); (focus with_unfolding_all rfl)) | with_reducible refine rd_yes ?_
  | with_reducible refine rd_sl ?_ | with_reducible refine rd_noPart ?_ | with_reducible refine rd_part ?_ | with_reducible refine rd_exI ?_
  | ((with_reducible apply rd_isd); (focus walk_at "rd")) | ((with_reducible apply rd_dg1S); (focus walk_at "rd")) | ((with_reducible apply rd_dg1I); (focus walk_at "rd"))
  | with_reducible refine rd_dget1 ?_ | with_reducible refine rd_dget2 ?_ | with_reducible refine rd_dpop2 ?_ | with_reducible refine rd_dpop1 ?_ | with_reducible refine rd_dsetd ?_
  | ((with_reducible apply rd_slL); (focus walk_at "sq"))
  | with_reducible refine rd_iE ?_ | with_reducible refine rd_iS ?_
  | ((with_reducible apply rd_dictD); (focus walk_at "rd"))
  | with_reducible refine rd_setD ?_
  | with_reducible refine rd_meth ?_ | ((with_reducible apply rd_me); (focus walk_at "hp"); (focus walk_at "ln"))
  | with_reducible refine rd_fld ?_ | ((with_reducible apply rd_fl); (focus walk_at "hp"); (focus walk_at "cl"); (focus walk_at "na"); (focus walk_at "lk"))
  | with_reducible refine rd_sfld ?_ | with_reducible refine rd_gfld ?_
  | with_reducible refine rd_dupd ?_ | with_reducible refine rd_lvals ?_ | with_reducible refine rd_sitems ?_ | with_reducible refine rd_revL ?_ | with_reducible refine rd_iView ?_ | with_reducible refine rd_iKeys ?_ | with_reducible refine rd_dc ?_
  | with_reducible refine rd_iET ?_
  | with_reducible refine rd_call ?_)
local macro_rules | `(tactic| walk_at "r") => `(tactic| repeat (walk_at "s"))

local macro_rules | `(tactic| walk_at "lt") => `(tactic| first | with_reducible refine ifT (by decide +kernel) ?_ | with_reducible refine ifF (by decide +kernel) ?_)
local macro_rules | `(tactic| walk_at "R") => `(tactic| repeat (first | walk_at "s" | walk_at "lt"))
/-! ### the search's object -/
structure FA (K : PySem.W.Frag) (C : Addr) : Prop where
  cls : Cls K C
  view : NoAttr K C "own_view"
  hold : NoAttr K C "own_hold"
  known : NoAttr K C "own_known"
  lows : NoAttr K C "own_lows"
  highs : NoAttr K C "own_highs"
  left : NoAttr K C "own_left"
  keys : NoAttr K C "own_keys"
  marks : NoAttr K C "own_marks"
structure Fa where
  v : Addr
  kn : Addr
  lo : Addr
  hi : Addr
  le : Addr
  ke : Addr
  ma : Addr
def fFs (a : Fa) (hold : Int) : List (Str × V) := [("own_view", .ref a.v), ("own_hold", .int hold), ("own_known", .ref a.kn), ("own_lows", .ref a.lo), ("own_highs", .ref a.hi), ("own_left", .ref a.le), ("own_keys", .ref a.ke), ("own_marks", .ref a.ma)]
section
variable {a : Fa} {hold : Int}
theorem ff_view : (fFs a hold).lookup ("own_view" : Str) = some (.ref a.v) := lookup_hd
theorem ff_hold : (fFs a hold).lookup ("own_hold" : Str) = some (.int hold) := (lookup_tl (by decide +kernel)).trans lookup_hd
theorem ff_known : (fFs a hold).lookup ("own_known" : Str) = some (.ref a.kn) := (lookup_tl (by decide +kernel)).trans ((lookup_tl (by decide +kernel)).trans lookup_hd)
theorem ff_lows : (fFs a hold).lookup ("own_lows" : Str) = some (.ref a.lo) := (lookup_tl (by decide +kernel)).trans ((lookup_tl (by decide +kernel)).trans ((lookup_tl (by decide +kernel)).trans lookup_hd))
theorem ff_highs : (fFs a hold).lookup ("own_highs" : Str) = some (.ref a.hi) := (lookup_tl (by decide +kernel)).trans ((lookup_tl (by decide +kernel)).trans ((lookup_tl (by decide +kernel)).trans ((lookup_tl (by decide +kernel)).trans lookup_hd)))
theorem ff_left : (fFs a hold).lookup ("own_left" : Str) = some (.ref a.le) := (lookup_tl (by decide +kernel)).trans ((lookup_tl (by decide +kernel)).trans ((lookup_tl (by decide +kernel)).trans ((lookup_tl (by decide +kernel)).trans ((lookup_tl (by decide +kernel)).trans lookup_hd))))
theorem ff_keys : (fFs a hold).lookup ("own_keys" : Str) = some (.ref a.ke) := (lookup_tl (by decide +kernel)).trans ((lookup_tl (by decide +kernel)).trans ((lookup_tl (by decide +kernel)).trans ((lookup_tl (by decide +kernel)).trans ((lookup_tl (by decide +kernel)).trans ((lookup_tl (by decide +kernel)).trans lookup_hd)))))
theorem ff_marks : (fFs a hold).lookup ("own_marks" : Str) = some (.ref a.ma) := (lookup_tl (by decide +kernel)).trans ((lookup_tl (by decide +kernel)).trans ((lookup_tl (by decide +kernel)).trans ((lookup_tl (by decide +kernel)).trans ((lookup_tl (by decide +kernel)).trans ((lookup_tl (by decide +kernel)).trans ((lookup_tl (by decide +kernel)).trans lookup_hd))))))
theorem ff_no {f : Str} (h : f ∉ (["own_view", "own_hold", "own_known", "own_lows", "own_highs", "own_left", "own_keys", "own_marks"] : List Str)) : (fFs a hold).lookup f = none := lookup_no h
end
local macro_rules | `(tactic| walk_at "cl") => `(tactic| first | assumption | exact FA.cls (by assumption) | exact VA.cls (by assumption))
local macro_rules | `(tactic| walk_at "na") => `(tactic| first | assumption | exact FA.view (by assumption) | exact FA.hold (by assumption) | exact FA.known (by assumption) | exact FA.lows (by assumption) | exact FA.highs (by assumption) | exact FA.left (by assumption) | exact FA.keys (by assumption) | exact FA.marks (by assumption) | exact VA.reads (by assumption) | exact VA.times (by assumption) | exact VA.got (by assumption) | exact VA.rows (by assumption))
local macro_rules | `(tactic| walk_at "lk") => `(tactic| first | assumption | exact ff_view | exact ff_hold | exact ff_known | exact ff_lows | exact ff_highs | exact ff_left | exact ff_keys | exact ff_marks | exact vf_reads | exact vf_times | exact vf_got | exact vf_rows)
local macro_rules | `(tactic| walk_at "ln") => `(tactic| first | assumption | exact ff_no (by decide +kernel) | exact vf_no (by decide +kernel))
def kK (l : KP) : List (Key × V) := l.map fun q => (.inl q.1, .str q.2)
def PrAt (F : Hp) (v : V) (q : Int × Int) : Prop := ∃ t, v = .ref t ∧ F t = some (.tup [.int q.1, .int q.2])
abbrev PrsAt (F : Hp) (vs : List V) (qs : List (Int × Int)) : Prop := Paired (PrAt F) vs qs
theorem PrsAt.mono {F G : Hp} {vs : List V} {qs : List (Int × Int)} (h : PrsAt F vs qs) (s : Same F G) : PrsAt G vs qs := L2.Paired.mapP h fun _ _ ⟨t, e, h⟩ => ⟨t, e, s _ _ h⟩
theorem kK_val {l : KP} (nd : (l.map (·.1)).Nodup) {i : Nat} {q : Int × Str} (h : l[i]? = some q) : valV (kK l) (.inl q.1) = some (.str q.2) := by
  refine valV_at (i := i) ?_ (by unfold kK; rw [List.getElem?_map, h]; rfl)
  have e : (kK l).map (·.1) = (l.map (·.1)).map Sum.inl := by unfold kK; rw [List.map_map, List.map_map]; rfl
  rw [e]
  exact List.pairwise_map.mpr (List.Pairwise.imp (fun {a b} hab e => hab (Sum.inl.inj e)) nd)
theorem kK_get {l : KP} {i : Nat} {k : Key} {v : V} (h : (kK l)[i]? = some (k, v)) : ∃ q, l[i]? = some q ∧ k = .inl q.1 ∧ v = .str q.2 := by
  unfold kK at h
  rw [List.getElem?_map] at h
  obtain ⟨q, hq, e⟩ := Option.map_eq_some_iff.mp h
  cases e
  exact ⟨q, hq, rfl, rfl⟩
theorem after_take {l : KP} {i : Nat} {q : Int × Str} (h : l[i]? = some q) (p : Int) (k : Str) : after (l.take (i + 1)) p k = after (l.take i) p k ++ (if p < q.1 ∧ q.2 = k then [q.1] else []) := by
  unfold after
  rw [List.take_add_one, h, List.filter_append, List.map_append]
  congr 1
  by_cases c : p < q.1 ∧ q.2 = k
  · rw [if_pos c]; simp [c.1, c.2]
  · rw [if_neg c]
    simp
    intro a
    exact fun e => c ⟨a, e⟩
theorem lc_KI {σ : L2.St} {H1 : Hp} {g : TG} {tt : TT} {te : TE} {vs : List Nat} {F : Hp} {L : List Cell} {Qd : Addr → Hp → Prop} {d : Addr} {od : Obj} {kp : KP} (O : Ow F L H1) (m : Nat) (hm : L[m]? = some (d, .frz od (.dK (kK kp)))) (P : Nat → Hp → List V → Prop) (p0 : P 0 F [])
    (hs : ∀ D (i : Nat) q F' acc H, kp[i]? = some q → Same F F' → P i F' acc → acc.length ≤ i → Ow F' ((D, .lst acc) :: L) H → LcT F L P g tt te vs σ D i (.int q.1) H)
    (hd : ∀ D F' acc H, Same F F' → P kp.length F' acc → acc.length ≤ kp.length → Ow F' ((D, .lst acc) :: L) H → Qd D H) : LcG (Itk d od (kK kp)) g tt te vs Qd σ H1 := by
  have e : (kK kp).length = kp.length := by unfold kK; rw [List.length_map]
  refine lc_K O m hm P p0 (fun D i k v F' acc H hx s p l O => ?_) (fun D F' acc H s p l O => hd D F' acc H s (by rw [← e]; exact p) (by rw [← e]; exact l) O)
  obtain ⟨q, hq, rfl, rfl⟩ := kK_get hx
  exact hs D i q F' acc H hq s p l O
def spNext (C : Addr) : Sp := fun vs H Q _ => ∃ (F : Hp) (R : List Cell) (x dx kn : Addr) (fs : List (Str × V)) (known : KP) (key : Str) (p : Int), vs = [.ref x, .str key, .int p] ∧ Ow F ((x, .ins C dx fs) :: (kn, .dK (kK known)) :: R) H ∧ fs.lookup ("own_known" : Str) = some (.ref kn) ∧
  known.length ≤ 1000 ∧ (known.map (·.1)).Nodup ∧ ∀ H' : Hp, Ow F ((x, .ins C dx fs) :: (kn, .dK (kK known)) :: R) H' → Q (oV (nextV known key p)) H'
def spAged (C CV : Addr) : Sp := fun vs H Q _ => ∃ (F : Hp) (R : List Cell) (x dx v : Addr) (fs : List (Str × V)) (rs : List Rdg) (hold p : Int), vs = [.ref x, .int p] ∧ Ow F R H ∧ H x = some (.ins C dx fs) ∧ fs.lookup ("own_view" : Str) = some (.ref v) ∧ fs.lookup ("own_hold" : Str) = some (.int hold) ∧
  VwAt CV F v rs ∧ Chn 0 (-1) rs ∧ 0 ≤ p ∧ p < lastU 0 rs ∧ ∀ (t : Addr) (F' H' : Hp), Same F F' → F' t = some (.tup [.int (agedOf rs hold p).1, .int (agedOf rs hold p).2]) → H' = upd H t (.tup [.int (agedOf rs hold p).1, .int (agedOf rs hold p).2]) → H t = none → Ow F' R H' → Q (.ref t) H'
def spCan (C CV : Addr) : Sp := fun vs H Q _ => ∃ (F : Hp) (R : List Cell) (x dx la ha : Addr) (a : Fa) (hold : Int) (rs : List Rdg) (lv hv : List V) (lows highs : List (Int × Int)), vs = [.ref x, .ref la, .ref ha] ∧ Ow F R H ∧ F x = some (.ins C dx (fFs a hold)) ∧ VwAt CV F a.v rs ∧ Chn 0 (-1) rs ∧ rs ≠ [] ∧
  F la = some (.lst lv) ∧ PrsAt F lv lows ∧ F ha = some (.lst hv) ∧ PrsAt F hv highs ∧ lows.length ≤ 1000 ∧ highs.length ≤ 1000 ∧ ∀ H' : Hp, Ow F R H' → Q (.bl (canB rs lows highs)) H'
def spShared (C : Addr) : Sp := fun vs H Q _ => ∃ (F : Hp) (R : List Cell) (x dx : Addr) (a : Fa) (hold : Int) (known : KP), vs = [.ref x] ∧ Ow F ((a.kn, .dK (kK known)) :: R) H ∧ F x = some (.ins C dx (fFs a hold)) ∧ (∀ q ∈ known, KeyOk q.2) ∧ known.length ≤ 1000 ∧
  ∀ H' : Hp, Ow F ((a.kn, .dK (kK known)) :: R) H' → Q (.str "x") H'
section
variable {P : Program} {w : World} {K : PySem.W.Frag} {mg : Str → Option Value} {base : Heap} {C CV fi : Addr}
abbrev s_Fit_next_of : Stmt := inClass (top 9) 1
theorem sc_Fit_next_of : FnScope ["self", "key", "place", "found", "other"] ["self", "key", "place"] (defScope s_Fit_next_of) := ⟨rfl, rfl, rfl, by decide +kernel, rfl, by decide +kernel, by decide +kernel⟩
theorem bd_Fit_next_of : Bd "next_of" "Fit.next_of" s_Fit_next_of ["self", "key", "place"] := fun _ _ _ _ _ _ us hl => match us, hl with | [_, _, _], _ => rfl
/-! slots: 0 self, 1 key, 2 place, 3 found, 4 other -/
theorem ok_Fit_next_of {f : Addr} (S : Src K "next_of" "Fit.next_of" s_Fit_next_of f) (T : Blt mg) (fa : FA K C) : Fn P w K mg base f ["self", "key", "place"] 1 (spNext C) := by
  refine fn_mk S sc_Fit_next_of bd_Fit_next_of (fun vs H Q E h => ?_) (fun cdv A outer s0 H vs Q E hr h => ?_)
  · obtain ⟨_, _, _, _, _, _, _, _, _, rfl, _⟩ := h
    rfl
  · obtain ⟨F, R, x, dx, kn, fs, known, key, p, rfl, O, hlk, hkl, nd, k⟩ := h
    have hu := hu_of hr
    refine ⟨_, (pss_cons (ps_lock (ps_setLc (i := 3) (own := [("other", 4)]) rfl sc_Fit_next_of.nd rfl rfl (sw_true rfl rfl rfl (by decide +kernel)) (pi_keys (pe_fld (pv 0) rfl)) (blkOk_by (N := ["self", "key", "place", "found", "other"]) (sc := defScope s_Fit_next_of) (own := [("other", 4)]) (by decide +kernel)) (fun _ _ _ _ _ => (pg_name (i := 4) sc_Fit_next_of.nd rfl (Or.inl rfl))) (fun _ _ _ _ _ => (pts_one (PW.pt (pw_and (pt_cmpR op_gt (pv 4) (pv 2) (nomark _)) (pw_and1 (pt_cmpR op_eq (pe_dget hu (pe_fldE (K := K) rfl (pv 0) rfl) (pv 4) (fun _ _ => rfl)) (pv 1) (nomark _))))))) (fun _ _ _ _ _ => (pv 4))))
      (pss_one (ps_ret (pe_ifExp (pt_cmpR op_gt (pe_callB cl_len (by rfl) T.len (by decide +kernel) (pa_cons (pv 3) pa_nil)) pe_int (nomark _)) (pe_callB (cr_min rfl) (by rfl) T.min (by decide +kernel) (pa_cons (pv 3) pa_nil)) pe_non)))), ?_⟩
    walk_at "r"
    refine ⟨kn, .dK (kK known), O.get 1, trivial, fun od => ?_⟩
    have O := O.set 1 (.frz od (.dK (kK known)))
    walk_at "r"
    refine ⟨kn, od, rfl, .inl ⟨kK known, O.get 1, ?_⟩⟩
    refine lc_KI O 1 rfl (fun i _ acc => acc = (after (known.take i) p key).map V.int) rfl (fun D i q F' acc H hq s pr l O => ?_) (fun D F' acc H s pr l O => ?_)
    · have hi : i < known.length := (List.getElem?_eq_some_iff.mp hq).1
      have hval := kK_val nd hq
      have ea := after_take hq p key
      walk_at "r"
      refine br (fun h1 => ?_) (fun h1 => ?_)
      · walk_at "r"
        refine br (fun h2 => ?_) (fun h2 => ?_)
        · have h2 : q.2 = key := by cases h2; rfl
          walk_at "r"
          refine lcP (by omega) s l O ?_
          rw [pr, ea, if_pos ⟨h1, h2⟩]
          simp
        · refine lcN s l O ?_
          rw [pr, ea, if_neg (fun c => h2 (by rw [c.2]))]
          simp
      · refine iteF (lcN s l O ?_)
        rw [pr, ea, if_neg (fun c => h1 c.1)]
        simp
    · rw [List.take_length] at pr
      subst pr
      walk_at "r"
      refine ⟨O.get 2, ?_⟩
      have O := (O.set 2 (.dK (kK known))).weak s
      walk_at "r"
      refine br (fun h1 => ?_) (fun h1 => ?_)
      · have hne : after known p key ≠ [] := fun e => by rw [e] at h1; exact absurd h1 (by decide)
        walk_at "r"
        refine ⟨D, after known p key, rfl, SqL.of (O.get 0), List.length_pos_iff.mpr hne, fun m hm hmin => ?_⟩
        have e : oV (nextV known key p) = .int m := by
          unfold nextV
          rw [if_neg hne, minI_of hm hmin]
          rfl
        rw [← e]
        exact k _ O.drop
      · have he : after known p key = [] := by
          cases e : after known p key with
          | nil => rfl
          | cons a b => rw [e] at h1; exact absurd (by simp) h1
        walk_at "r"
        have e : oV (nextV known key p) = .non := by
          unfold nextV
          rw [if_pos he]
          rfl
        rw [← e]
        exact k _ O.drop
abbrev s_Fit_aged : Stmt := inClass (top 9) 2
theorem sc_Fit_aged : FnScope ["self", "place"] ["self", "place"] (defScope s_Fit_aged) := ⟨rfl, rfl, rfl, by decide +kernel, rfl, by decide +kernel, by decide +kernel⟩
theorem bd_Fit_aged : Bd "aged" "Fit.aged" s_Fit_aged ["self", "place"] := fun _ _ _ _ _ _ us hl => match us, hl with | [_, _], _ => rfl
/-! slots: 0 self, 1 place -/
theorem ok_Fit_aged {f : Addr} (S : Src K "aged" "Fit.aged" s_Fit_aged f) (T : Blt mg) (fa : FA K C) (M_read_time : Mtd P w K mg base CV "read_time" ["self", "place"] 1 (spVRead CV)) : Fn P w K mg base f ["self", "place"] 2 (spAged C CV) := by
  refine fn_mk S sc_Fit_aged bd_Fit_aged (fun vs H Q E h => ?_) (fun cdv A outer s0 H vs Q E hr h => ?_)
  · obtain ⟨_, _, _, _, _, _, _, _, _, rfl, _⟩ := h
    rfl
  · obtain ⟨F, R, x, dx, v, fs, rs, hold, p, rfl, O, hx, hl1, hl2, hvw, hc, p0, p1, k⟩ := h
    obtain ⟨dv, rd, tm, gt, rw_, rv, kvs, wv, h1, h2, h3, h4, h5, h6, h7, h8⟩ := id hvw
    have hu := hu_of hr
    refine ⟨_, (pss_one (ps_ret (pe_tup (pa_cons (pe_op op_sub (pe_mth (pe_fld (pv 0) rfl) M_read_time (hr.mono (by first | decide | omega)) (pa_cons (pv 1) pa_nil)) (pe_fld (pv 0) rfl)) (pa_cons (pe_op op_add (pv 1) pe_int) pa_nil))))), ?_⟩
    walk_at "r"
    refine rd_fl hx fa.cls fa.view hl1 ?_
    walk_at "r"
    refine ⟨F, R, v, rs, p, rfl, O, hvw, hc, p0, p1, ?_⟩
    walk_at "r"
    refine rd_fl hx fa.cls fa.hold hl2 ?_
    walk_at "r"
    refine ⟨by walk_at "sz", fun t hp => ?_⟩
    obtain ⟨F1, s1, h1, O⟩ := O.newF (o := .tup [.int (timeAt rs p - hold), .int (p + 1)]) hp
    exact k t F1 _ s1 h1 rfl hp O
abbrev s_Fit_can_be : Stmt := inClass (top 9) 3
theorem sc_Fit_can_be : FnScope ["self", "lows", "highs", "time", "point", "end", "limit"] ["self", "lows", "highs"] (defScope s_Fit_can_be) := ⟨rfl, rfl, rfl, by decide +kernel, rfl, by decide +kernel, by decide +kernel⟩
theorem bd_Fit_can_be : Bd "can_be" "Fit.can_be" s_Fit_can_be ["self", "lows", "highs"] := fun _ _ _ _ _ _ us hl => match us, hl with | [_, _, _], _ => rfl
/-! slots: 0 self, 1 lows, 2 highs, 3 time, 4 point, 5 end, 6 limit -/
theorem ok_Fit_can_be {f : Addr} (S : Src K "can_be" "Fit.can_be" s_Fit_can_be f) (T : Blt mg) (fa : FA K C) (M_many_at : Mtd P w K mg base CV "many_at" ["self", "time"] 1 (spVMany CV)) : Fn P w K mg base f ["self", "lows", "highs"] 2 (spCan C CV) := by
  refine fn_mk S sc_Fit_can_be bd_Fit_can_be (fun vs H Q E h => ?_) (fun cdv A outer s0 H vs Q E hr h => ?_)
  · obtain ⟨_, _, _, _, _, _, _, _, _, _, _, _, _, rfl, _⟩ := h
    rfl
  · obtain ⟨F, R, x, dx, la, ha, a, hold, rs, lv, hv, lows, highs, rfl, O, hx, hvw, hc, hne, hla, hlv, hha, hhv, ll, lh, k⟩ := h
    obtain ⟨dv, rd, tm, gt, rw_, rv, kvs, wv, h1, h2, h3, h4, h5, h6, h7, h8⟩ := id hvw
    have hu := hu_of hr
    have lvl := hlv.length
    have hvl := hhv.length
    refine ⟨_, (pss_cons (ps_for PassesOwn.never rfl (pi_list (pv 1)) (pg_tup (n := 2) rfl (pgs_cons (pg_name (i := 3) sc_Fit_can_be.nd rfl (Or.inr rfl)) (pgs_cons (pg_name (i := 4) sc_Fit_can_be.nd rfl (Or.inr rfl)) pgs_nil)))
        (pss_cons (ps_if (PW.pt (pw_or (pt_cmpR op_lt (pv 3) pe_int (nomark _)) (pw_or1 (pt_cmpR op_gt (pv 4) (pe_mth (pe_fld (pv 0) rfl) M_many_at (hr.mono (by first | decide | omega)) (pa_cons (pv 3) pa_nil)) (nomark _)))))
          (pss_one (ps_ret pe_bl))
          pss_nil)
        (pss_one (ps_if (pt_val (pe_callB (cr_any rfl) (by rfl) T.any (by decide +kernel) (pa_cons (pe_lc (own := [("end", 5), ("limit", 6)]) rfl sc_Fit_can_be.nd (pi_list (pv 2)) (blkOk_by (N := ["self", "lows", "highs", "time", "point", "end", "limit"]) (sc := defScope s_Fit_can_be) (own := [("end", 5), ("limit", 6)]) (by decide +kernel)) (fun _ _ _ _ _ => (pg_tupE (K := K) (n := 2) rfl rfl (pgs_cons (pg_name (i := 5) sc_Fit_can_be.nd rfl (Or.inl rfl)) (pgs_cons (pg_name (i := 6) sc_Fit_can_be.nd rfl (Or.inl rfl)) pgs_nil)))) (fun _ _ _ _ _ => (pts_one (pt_cmpR op_ge (pv 5) (pv 3) (nomark _)))) (fun _ _ _ _ _ => (pe_cmpR op_lt (pv 6) (pv 4) (nomark _)))) pa_nil)))
          (pss_one (ps_ret pe_bl))
          pss_nil))))
      (pss_one (ps_ret pe_bl))), ?_⟩
    walk_at "r"
    have bad : ∀ (i : Nat) (q : Int × Int), lows[i]? = some q → (decide (q.1 < 0) || decide (manyOf rs q.1 < q.2)) = true ∨ badHigh q.1 q.2 highs = true → canB rs lows highs = false := by
      intro i q hq hb
      unfold canB
      rw [List.all_eq_false]
      refine ⟨q, List.mem_of_getElem? hq, ?_⟩
      rcases hb with hb | hb <;> simp [hb]
    refine lp_L lv (fun i σ' H' => ∃ (v3 v4 v5 v6 : Option V), σ' = [some (.ref x), some (.ref la), some (.ref ha), v3, v4, v5, v6] ∧ Ow F R H' ∧ canB rs (lows.take i) highs = true)
      ⟨_, _, _, _, rfl, O, rfl⟩ (fun i σ' H' _ ⟨_, _, _, _, _, O, _⟩ => SqL.of (O.fz hla)) ?_ ?_
    · rintro i y σ' H' hy ⟨v3, v4, v5, v6, rfl, O, hcan⟩
      obtain ⟨⟨t, pt⟩, hq, ya, rfl, hya⟩ := L2.paired_get hlv hy
      walk_at "r"
      refine br (fun h1 => ?_) (fun h1 => ?_)
      · walk_at "r"
        have h1 : t < 0 := h1
        rw [← bad i _ hq (.inl (by simp [h1]))]
        exact k _ O
      · walk_at "r"
        refine ⟨F, R, a.v, rs, t, rfl, O, hvw, hc, hne, fun H O => ?_⟩
        walk_at "r"
        refine br (fun h2 => ?_) (fun h2 => ?_)
        · walk_at "r"
          rw [← bad i _ hq (.inl (by simp [h2]))]
          exact k _ O
        · walk_at "r"
          refine lc_L hv O (fun j _ acc => acc = (((highs.take j).filter fun h => decide (t ≤ h.1)).map fun h => V.bl (decide (h.2 < pt)))) rfl (fun D F' acc H s O => SqL.of (O.fz (s _ _ hha))) (fun D j z F' acc H hz s p l O => ?_) (fun D F' acc H s p l O => ?_) (SqL.of (O.fz hha))
          · obtain ⟨⟨en, lm⟩, hh, za, rfl, hza⟩ := L2.paired_get hhv hz
            have hza := s _ _ hza
            have hj : j < highs.length := (List.getElem?_eq_some_iff.mp hh).1
            walk_at "r"
            refine br (fun h3 => ?_) (fun h3 => ?_)
            · walk_at "r"
              refine lcP (by omega) s l O ?_
              rw [p, List.take_add_one, hh, List.filter_append, List.map_append]
              simp [h3]
            · refine lcN s l O ?_
              rw [p, List.take_add_one, hh, List.filter_append, List.map_append]
              simp [h3]
          · rw [hvl, List.take_length] at p
            subst p
            refine ⟨D, ((highs.filter fun h => decide (t ≤ h.1)).map fun h => decide (h.2 < pt)), rfl, SqL.of (by rw [List.map_map]; exact O.get 0), ?_⟩
            have O := O.drop.weak s
            have eb : ((highs.filter fun h => decide (t ≤ h.1)).map fun h => decide (h.2 < pt)).any id = badHigh t pt highs := by
              unfold badHigh
              rw [List.any_map, List.any_filter]
              rfl
            rw [eb]
            walk_at "r"
            refine brb (fun h4 => ?_) (fun h4 => ?_)
            · walk_at "r"
              rw [← bad i _ hq (.inr h4)]
              exact k _ O
            · walk_at "r"
              refine ⟨_, _, _, _, rfl, O, ?_⟩
              unfold canB at hcan ⊢
              rw [List.take_add_one, hq, List.all_append, hcan]
              simp at h1 h2
              simp [h1, h2, h4]
    · rintro σ' H' ⟨v3, v4, v5, v6, rfl, O, hcan⟩
      rw [lvl, List.take_length] at hcan
      walk_at "r"
      rw [← hcan]
      exact k _ O
abbrev s_Fit_shared : Stmt := inClass (top 9) 4
theorem sc_Fit_shared : FnScope ["self", "letters", "letter"] ["self"] (defScope s_Fit_shared) := ⟨rfl, rfl, rfl, by decide +kernel, rfl, by decide +kernel, by decide +kernel⟩
theorem bd_Fit_shared : Bd "shared" "Fit.shared" s_Fit_shared ["self"] := fun _ _ _ _ _ _ us hl => match us, hl with | [_], _ => rfl
/-! slots: 0 self, 1 letters, 2 letter -/
theorem ok_Fit_shared {f : Addr} (S : Src K "shared" "Fit.shared" s_Fit_shared f) (T : Blt mg) (fa : FA K C) : Fn P w K mg base f ["self"] 1 (spShared C) := by
  refine fn_mk S sc_Fit_shared bd_Fit_shared (fun vs H Q E h => ?_) (fun cdv A outer s0 H vs Q E hr h => ?_)
  · obtain ⟨_, _, _, _, _, _, _, rfl, _⟩ := h
    rfl
  · obtain ⟨F, R, x, dx, a, hold, known, rfl, O, hx, hky, hkl, k⟩ := h
    have hu := hu_of hr
    refine ⟨_, (pss_cons (ps_set (i := 1) sc_Fit_shared.nd rfl (Or.inl rfl) pe_str)
      (pss_one (ps_ret (pe_ix ix_list (pe_lc (own := [("letter", 2)]) rfl sc_Fit_shared.nd (pi_str (pv 1)) (blkOk_by (N := ["self", "letters", "letter"]) (sc := defScope s_Fit_shared) (own := [("letter", 2)]) (by decide +kernel)) (fun _ _ _ _ _ => (pg_name (i := 2) sc_Fit_shared.nd rfl (Or.inl rfl))) (fun _ _ _ _ _ => (pts_one (pt_cmpR (r := rIn K true) op_notIn_seq (pv 2) (pe_listVals rfl (pe_fldE (K := K) rfl (pv 0) rfl) (by rfl) T.list (by decide +kernel)) rfl))) (fun _ _ _ _ _ => (pv 2))) pe_int (fun _ _ => rfl))))), ?_⟩
    walk_at "r"
    refine ⟨_, rfl, ?_⟩
    have ev : (kK known).map (·.2) = (known.map (·.2)).map V.str := by unfold kK; rw [List.map_map, List.map_map]; rfl
    have nox : inV (.str "x") ((known.map (·.2)).map V.str) = false := by
      unfold inV
      rw [List.any_eq_false]
      intro v hv
      obtain ⟨z, hz, rfl⟩ := List.mem_map.mp hv
      obtain ⟨q, hq, rfl⟩ := List.mem_map.mp hz
      rcases hky q hq with e | e | e <;> (rw [e]; decide +kernel)
    refine lc_S O (fun i _ acc => (i = 0 → acc = []) ∧ (0 < i → ∃ r, acc = .str "x" :: r)) ⟨fun _ => rfl, fun h => by omega⟩ (fun D i c F' acc H hx2 s p l O => ?_) (fun D F' acc H s p l O => ?_)
    · have hx := s _ _ hx
      have hi : i < 100 := by
        obtain ⟨h, _⟩ := Array.getElem?_eq_some_iff.mp hx2
        exact Nat.lt_trans h (by decide +kernel)
      walk_at "r"
      refine ⟨a.kn, kK known, rfl, Rd.of (O.get 1), fun q hp => ?_⟩
      rw [ev]
      have O := O.new (o := .lst ((known.map (·.2)).map V.str)) hp
      refine rd_ninL (SqL.of (O.get 0)) rfl (flat_strs _) ?_
      have O := O.drop
      cases i with
      | zero =>
        have hcx : (⟨#[c]⟩ : Str) = "x" := by
          have e0 : (some c : Option Nat) = ("xyzabcdefghijklmnopqrstuvw" : Str).cps[0]? := hx2.symm
          have e1 : ("xyzabcdefghijklmnopqrstuvw" : Str).cps[0]? = some 120 := by decide +kernel
          rw [e1] at e0
          cases e0
          decide +kernel
        rw [hcx, nox]
        walk_at "r"
        refine ifT rfl ?_
        walk_at "r"
        have e := p.1 rfl
        subst e
        refine lcP (by omega) s l O ?_
        exact ⟨fun h => by omega, fun _ => ⟨[], rfl⟩⟩
      | succ i =>
        obtain ⟨r, hr2⟩ := p.2 (by omega)
        walk_at "r"
        refine brb (fun _ => ?_) (fun _ => ?_)
        · walk_at "r"
          exact lcP (by omega) s l O ⟨fun h => by omega, fun _ => ⟨r ++ [_], by rw [hr2]; rfl⟩⟩
        · exact lcN s l O ⟨fun h => by omega, fun _ => ⟨r, hr2⟩⟩
    · obtain ⟨r, hr2⟩ := p.2 (by decide +kernel)
      subst hr2
      walk_at "r"
      exact k _ (O.drop.weak s)
end
end K7

set_option Elab.async false
set_option linter.all false
set_option maxRecDepth 100000
set_option maxHeartbeats 4000000
namespace K7
open PySem PySem.Spec PyProof.Rows L2
theorem rd_un {r : V → Hp → VK → Prop} {ta : TE} {σ : L2.St} {H : Hp} {Q : VK} (q : ta σ H fun x H1 => r x H1 Q) : tUn r ta σ H Q := q
theorem rd_U {f : Int → V} {n : Int} {H : Hp} {Q : VK} (q : Q (f n) H) : rU f (.int n) H Q := ⟨n, rfl, q⟩
end K7
set_option Elab.async false
set_option linter.all false
set_option maxRecDepth 100000
set_option maxHeartbeats 4000000
set_option pp.deepTerms false
set_option pp.maxSteps 600
namespace K7
open PySem PySem.Spec PyProof.Rows L2 ItX
local macro_rules | `(tactic| walk_at "hp") => `(tactic| with_unfolding_all first
  | exact Ow.get (by assumption) 0 | exact Ow.get (by assumption) 1 | exact Ow.get (by assumption) 2 | exact Ow.get (by assumption) 3
  | exact Ow.fz (by assumption) (by assumption)
  | exact Ow.get (by assumption) 4 | exact Ow.get (by assumption) 5 | exact Ow.get (by assumption) 6 | exact Ow.get (by assumption) 7 | exact Ow.get (by assumption) 8 | exact Ow.get (by assumption) 9)
local macro_rules | `(tactic| walk_at "sq") => `(tactic| with_unfolding_all first
  | exact SqL.of (by walk_at "hp") | exact SqT.of (by walk_at "hp") | assumption)
local macro_rules | `(tactic| walk_at "rd") => `(tactic| with_unfolding_all first
  | exact Rd.of (by walk_at "hp") | assumption | exact Or.inr ⟨_, by walk_at "hp"⟩)
local macro_rules | `(tactic| walk_at "dk") => `(tactic| assumption)
local macro_rules | `(tactic| walk_at "cl") => `(tactic| assumption)
local macro_rules | `(tactic| walk_at "na") => `(tactic| assumption)
local macro_rules | `(tactic| walk_at "lk") => `(tactic| assumption)
local macro_rules | `(tactic| walk_at "ln") => `(tactic| assumption)
local macro_rules | `(tactic| walk_at "ai") => `(tactic| first | with_unfolding_all rfl | exact atI_zero | assumption)
local macro_rules | `(tactic| walk_at "sd") => `(tactic| with_unfolding_all first
  | rfl | assumption | decide | omega
  | exact ⟨by omega, by omega⟩ | exact Or.inl ⟨by omega, by omega⟩ | exact Or.inr ⟨by omega, by omega⟩ | exact ⟨by decide, by decide, by omega⟩)
local macro_rules | `(tactic| walk_at "sz") => `(tactic| first
  | with_unfolding_all exact szl (Nat.le_of_ble_eq_true rfl)
  | with_unfolding_all exact sztl (Nat.le_of_ble_eq_true rfl)
  | exact szl (by simp <;> omega)
  | exact sztl (by simp <;> omega))
local macro_rules | `(tactic| walk_at "s") => `(tactic| first
  | with_reducible refine rd_I0 ?_
  | ((with_reducible apply rd_I); (focus walk_at "sd"))
  | ((with_reducible apply rd_opVC); (focus with_unfolding_all rfl))
  | ((with_reducible apply rd_opVV); (focus with_unfolding_all rfl); (focus with_unfolding_all rfl))
  | ((with_reducible apply rd_opV); (focus with_unfolding_all rfl))
  | with_reducible refine rd_opC ?_
  | with_reducible refine rd_op ?_
  | ((with_reducible apply rd_var); (focus with_unfolding_all rfl))
  | with_reducible refine rd_c ?_
  | with_reducible refine rd_sSet ?_
  | ((with_reducible apply rd_CB1V); (focus with_unfolding_all rfl)) | with_reducible refine rd_CB1 ?_ | with_reducible refine rd_CB ?_
  | ((with_reducible apply rd_consV); (focus with_unfolding_all rfl)) | with_reducible refine rd_consC ?_ | with_reducible refine rd_cons0 ?_ | with_reducible refine rd_cons ?_ | with_reducible refine rd_nil ?_
  | ((with_reducible apply rd_ixL); (focus walk_at "sq"); (focus walk_at "ai"))
  | ((with_reducible apply rd_ixT); (focus walk_at "sq"); (focus walk_at "ai"))
  | with_reducible refine rd_int ?_ | with_reducible refine rd_intB ?_ | with_reducible refine rd_abs ?_
  | ((with_reducible apply rd_len); (focus walk_at "sq")) | ((with_reducible apply rd_lenT); (focus walk_at "sq"))
  | with_reducible refine rd_ifS ?_ | with_reducible refine iteT ?_ | with_reducible refine iteF ?_
  | with_reducible refine rd_tTest ?_ | with_reducible refine rd_tB ?_ | with_reducible refine rd_ex ?_
  | with_reducible refine rd_seqD ?_ | with_reducible refine rd_sSet1 ?_ | with_reducible refine rd_ret ?_ | with_reducible refine rd_drop ?_ | with_reducible refine rd_asg ?_
  | ((with_reducible apply rd_eq); (focus with_unfolding_all rfl)) | ((with_reducible apply rd_ne); (focus with_unfolding_all rfl))
  | with_reducible refine rd_isNr ?_ | with_reducible refine rd_notNr ?_ | with_reducible refine rd_isNn ?_ | with_reducible refine rd_notNn ?_ | with_reducible refine rd_isNi ?_ | with_reducible refine rd_notNi ?_
  | with_reducible refine rd_isN ?_ | with_reducible refine rd_notN ?_
  | with_reducible refine rd_and ?_ | with_reducible refine rd_or ?_ | with_reducible refine rd_not ?_ | with_reducible refine rd_if ?_
  | with_reducible refine rd_seq ?_ | with_reducible refine rd_gName ?_ | with_reducible refine rd_next ?_ | with_reducible refine rd_retN ?_
  | with_reducible refine rd_gSub ?_ | with_reducible refine rd_gCons ?_ | with_reducible refine rd_gNil ?_ | ((with_reducible apply rd_gTup); (focus walk_at "sq"); (focus with_unfolding_all rfl))
  | ((with_reducible apply rd_setL); (focus walk_at "hp"); (focus with_unfolding_all rfl))
  | with_reducible refine rd_par ?_ | with_reducible refine rd_par3 ?_ | with_reducible refine rd_ex2 ?_ | with_reducible refine rd_ex3 ?_
  | with_reducible refine rd_dget ?_ | with_reducible refine rd_din ?_ | with_reducible refine rd_dnotin ?_
  | ((with_reducible apply rd_dgS); (focus walk_at "rd"); (focus walk_at "dk"))
  | ((with_reducible apply rd_dgI); (focus walk_at "rd"); (focus walk_at "dk"))
  | ((with_reducible apply rd_doS); (focus walk_at "rd")) | ((with_reducible apply rd_doI); (focus walk_at "rd"))
  | with_reducible refine rd_dput ?_
  | ((with_reducible apply rd_dpS); (focus walk_at "hp"); (focus walk_at "sz")) | ((with_reducible apply rd_dpI); (focus walk_at "hp"); (focus walk_at "sz"))
  | with_reducible refine rd_bm ?_
  | ((with_reducible apply rd_tyL); (focus walk_at "hp")) | ((with_reducible apply rd_append); (focus walk_at "hp"); (focus walk_at "sz"))
  | with_reducible refine rd_tup ?_ | with_reducible refine rd_lst ?_ | with_reducible refine rd_dnew ?_
  | with_reducible refine rd_for ?_ | with_reducible refine rd_iR1 ?_ | with_reducible refine rd_iR2 ?_ | with_reducible refine rd_iL ?_ | with_reducible refine rd_iT ?_
  | with_reducible refine rd_disp ?_ | with_reducible refine rd_pair ?_ | with_reducible refine rd_pair0 ?_
  | with_reducible refine rd_andV ?_ | with_reducible refine rd_orV ?_
  | ((with_reducible apply rd_tupL); (focus walk_at "sq")) | ((with_reducible apply rd_listT); (focus walk_at "sq"))
  | with_reducible refine rd_lc ?_ | ((with_reducible apply rd_wp); (focus with_unfolding_all rfl)) | with_reducible refine rd_yes ?_
  | with_reducible refine rd_sl ?_ | with_reducible refine rd_noPart ?_ | with_reducible refine rd_part ?_ | with_reducible refine rd_exI ?_
  | ((with_reducible apply rd_isd); (focus walk_at "rd")) | ((with_reducible apply rd_dg1S); (focus walk_at "rd")) | ((with_reducible apply rd_dg1I); (focus walk_at "rd"))
  | with_reducible refine rd_dget1 ?_ | with_reducible refine rd_dget2 ?_ | with_reducible refine rd_dpop2 ?_ | with_reducible refine rd_dpop1 ?_ | with_reducible refine rd_dsetd ?_
  | ((with_reducible apply rd_slL); (focus walk_at "sq"))
  | with_reducible refine rd_iE ?_ | with_reducible refine rd_iS ?_
  | ((with_reducible apply rd_dictD); (focus walk_at "rd"))
  | with_reducible refine rd_setD ?_
  | with_reducible refine rd_meth ?_ | ((with_reducible apply rd_me); (focus walk_at "hp"); (focus walk_at "ln"))
  | with_reducible refine rd_fld ?_ | ((with_reducible apply rd_fl); (focus walk_at "hp"); (focus walk_at "cl"); (focus walk_at "na"); (focus walk_at "lk"))
  | with_reducible refine rd_sfld ?_ | with_reducible refine rd_gfld ?_
  | with_reducible refine rd_dupd ?_ | with_reducible refine rd_lvals ?_ | with_reducible refine rd_sitems ?_ | with_reducible refine rd_revL ?_ | with_reducible refine rd_iView ?_ | with_reducible refine rd_iKeys ?_ | with_reducible refine rd_dc ?_
  | with_reducible refine rd_iET ?_
  | with_reducible refine rd_call ?_)
local macro_rules | `(tactic| walk_at "r") => `(tactic| repeat (walk_at "s"))

local macro_rules | `(tactic| walk_at "lt") => `(tactic| first | with_reducible refine ifT (by decide +kernel) ?_ | with_reducible refine ifF (by decide +kernel) ?_)
local macro_rules | `(tactic| walk_at "R") => `(tactic| repeat (first | walk_at "s" | walk_at "lt"))
local macro_rules | `(tactic| walk_at "cl") => `(tactic| first | assumption | exact FA.cls (by assumption) | exact VA.cls (by assumption))
local macro_rules | `(tactic| walk_at "na") => `(tactic| first | assumption | exact FA.view (by assumption) | exact FA.hold (by assumption) | exact FA.known (by assumption) | exact FA.lows (by assumption) | exact FA.highs (by assumption) | exact FA.left (by assumption) | exact FA.keys (by assumption) | exact FA.marks (by assumption) | exact VA.reads (by assumption) | exact VA.times (by assumption) | exact VA.got (by assumption) | exact VA.rows (by assumption))
local macro_rules | `(tactic| walk_at "lk") => `(tactic| first | assumption | exact ff_view | exact ff_hold | exact ff_known | exact ff_lows | exact ff_highs | exact ff_left | exact ff_keys | exact ff_marks | exact vf_reads | exact vf_times | exact vf_got | exact vf_rows)
local macro_rules | `(tactic| walk_at "ln") => `(tactic| first | assumption | exact ff_no (by decide +kernel) | exact vf_no (by decide +kernel))
def HgAt (F : Hp) (hv : V) : Option (Int × Int) → Prop
  | none => hv = .non
  | some q => PrAt F hv q
def ChAt (F : Hp) (v : V) (c : Ch) : Prop := ∃ t l hv, v = .ref t ∧ F t = some (.tup [.str c.key, .ref l, hv, .bl c.mark]) ∧ F l = some (.tup [.int c.low.1, .int c.low.2]) ∧ HgAt F hv c.high
theorem ChAt.mono {F G : Hp} {v : V} {c : Ch} (h : ChAt F v c) (s : Same F G) : ChAt G v c := by
  obtain ⟨t, l, hv, e, h1, h2, h3⟩ := h
  refine ⟨t, l, hv, e, s _ _ h1, s _ _ h2, ?_⟩
  cases hh : c.high with
  | none => rw [hh] at h3; exact h3
  | some q =>
    rw [hh] at h3
    obtain ⟨u, e2, h4⟩ := h3
    exact ⟨u, e2, s _ _ h4⟩
abbrev ChsAt (F : Hp) (vs : List V) (cs : List Ch) : Prop := Paired (ChAt F) vs cs
theorem ChsAt.mono {F G : Hp} {vs : List V} {cs : List Ch} (h : ChsAt F vs cs) (s : Same F G) : ChsAt G vs cs := L2.Paired.mapP h fun _ _ z => z.mono s
def spChoices (C CV : Addr) : Sp := fun vs H Q _ => ∃ (F : Hp) (R : List Cell) (x dx : Addr) (a : Fa) (hold : Int) (rs : List Rdg) (known keys : KP) (p : Int), vs = [.ref x, .int p] ∧ Ow F ((a.kn, .dK (kK known)) :: (a.ke, .dK (kK keys)) :: R) H ∧ F x = some (.ins C dx (fFs a hold)) ∧ VwAt CV F a.v rs ∧ Chn 0 (-1) rs ∧
  0 ≤ p ∧ p < lastU 0 rs ∧ (∀ q ∈ known, KeyOk q.2) ∧ known.length ≤ 50 ∧ keys.length ≤ 100 ∧ (keys.map (·.1)).Nodup ∧
  ∀ (l : Addr) (lv : List V) (ys : List Str) (F' H' : Hp), Same F F' → F' l = some (.lst lv) → ChsAt F' lv (chList rs hold ys keys p) → (∀ k, k ∈ ys ↔ k ∈ known.map (·.2)) → ys.length ≤ 50 → Ow F' ((a.kn, .dK (kK known)) :: (a.ke, .dK (kK keys)) :: R) H' → Q (.ref l) H'
section
variable {P : Program} {w : World} {K : PySem.W.Frag} {mg : Str → Option Value} {base : Heap} {C CV fi : Addr}
abbrev s_Fit_choices : Stmt := inClass (top 9) 5
theorem sc_Fit_choices : FnScope ["self", "place", "later", "found", "key", "time", "free", "some", "own", "high", "other", "got", "value"] ["self", "place"] (defScope s_Fit_choices) := ⟨rfl, rfl, rfl, by decide +kernel, rfl, by decide +kernel, by decide +kernel⟩
theorem bd_Fit_choices : Bd "choices" "Fit.choices" s_Fit_choices ["self", "place"] := fun _ _ _ _ _ _ us hl => match us, hl with | [_, _], _ => rfl
/-! slots: 0 self, 1 place, 2 later, 3 found, 4 key, 5 time, 6 free, 7 some, 8 own, 9 high, 10 other, 11 got, 12 value -/
theorem ok_Fit_choices {f : Addr} (S : Src K "choices" "Fit.choices" s_Fit_choices f) (T : Blt mg) (fa : FA K C) (va : VA K CV) (IV : ItV K CV fi) (FN_iter : FnN P w K mg base fi ["self"] 1 (spIter K)) (M_len : Mtd P w K mg base CV "__len__" ["self"] 1 (spVLen CV))
    (M_read_time : Mtd P w K mg base CV "read_time" ["self", "place"] 1 (spVRead CV)) (M_shared : Mtd P w K mg base C "shared" ["self"] 1 (spShared C)) (M_aged : Mtd P w K mg base C "aged" ["self", "place"] 2 (spAged C CV)) : Fn P w K mg base f ["self", "place"] 5 (spChoices C CV) := by
  refine fn_mk S sc_Fit_choices bd_Fit_choices (fun vs H Q E h => ?_) (fun cdv A outer s0 H vs Q E hr h => ?_)
  · obtain ⟨_, _, _, _, _, _, _, _, _, _, rfl, _⟩ := h
    rfl
  · obtain ⟨F, R, x, dx, a, hold, rs, known, keys, p, rfl, O, hx, hvw, hc, p0, p1, hky, hkl, hel, nd, k⟩ := h
    obtain ⟨dv, rd, tm, gt, rw_, rv, kvs, wv, h1, h2, h3, h4, h5, h6, h7, h8⟩ := id hvw
    have hu := hu_of hr
    have n0 := hc.lastU_ge
    have n1 := hc.lastU_le (by decide)
    have h8l := h8.length
    have hrl := rows_len hc
    obtain ⟨rasc, rbd⟩ := rows_ok hc
    refine ⟨_, (pss_cons (ps_asg (pe_tup (pa_cons (pe_mth (pe_fld (pv 0) rfl) M_read_time (hr.mono (by first | decide | omega)) (pa_cons (pv 1) pa_nil)) (pa_cons (pe_mth0 (pv 0) M_shared (hr.mono (by first | decide | omega))) pa_nil))) (pg_tup (n := 2) rfl (pgs_cons (pg_name (i := 5) sc_Fit_choices.nd rfl (Or.inl rfl)) (pgs_cons (pg_name (i := 6) sc_Fit_choices.nd rfl (Or.inr rfl)) pgs_nil))))
      (pss_cons (ps_lock (ps_setLc (i := 2) (own := [("other", 10)]) rfl sc_Fit_choices.nd rfl rfl (sw_true rfl rfl rfl (by decide +kernel)) (pi_keys (pe_fld (pv 0) rfl)) (blkOk_by (N := ["self", "place", "later", "found", "key", "time", "free", "some", "own", "high", "other", "got", "value"]) (sc := defScope s_Fit_choices) (own := [("other", 10)]) (by decide +kernel)) (fun _ _ _ _ _ => (pg_name (i := 10) sc_Fit_choices.nd rfl (Or.inl rfl))) (fun _ _ _ _ _ => (pts_one (PW.pt (pw_and (pt_cmpR op_gt (pv 10) (pv 1) (nomark _)) (pw_and1 (pt_cmpR op_eq (pe_dget hu (pe_fldE (K := K) rfl (pv 0) rfl) (pv 10) (fun _ _ => rfl)) (pv 6) (nomark _))))))) (fun _ _ _ _ _ => (pv 10))))
      (pss_cons (ps_set (i := 3) sc_Fit_choices.nd rfl (Or.inl rfl) (pe_lst (pa_cons (pe_tup (pa_cons (pv 6) (pa_cons (pe_mth (pv 0) M_aged (hr.mono (by first | decide | omega)) (pa_cons (pv 1) pa_nil)) (pa_cons pe_non (pa_cons pe_bl pa_nil))))) pa_nil)))
      (pss_cons (ps_expr (pe_bm PySem.F.plainAttrs_list PySem.F.slot_list_append PySem.F.type_list_append mt_append (pv 3) (pa_cons (pe_tup (pa_cons (pv 6) (pa_cons (pe_tup (pa_cons (pv 5) (pa_cons (pe_op op_add (pe_callB (cr_min rfl) (by rfl) T.min (by decide +kernel) (pa_cons (pe_op op_cat (pv 2) (pe_lst (pa_cons (pe_callB (cl_lenV M_len (hr.mono (by first | decide | omega))) (by rfl) T.len (by decide +kernel) (pa_cons (pe_fld (pv 0) rfl) pa_nil)) pa_nil))) pa_nil)) pe_int) pa_nil))) (pa_cons pe_non (pa_cons pe_bl pa_nil))))) pa_nil)))
      (pss_cons (ps_for PassesOwn.never rfl (pi_list (pe_callB (cl_srtS rfl) (by rfl) T.sorted (by decide +kernel) (pa_cons (pe_callTy (cl_setS rfl) (by rfl) T.set (by decide +kernel) (pa_cons (pe_listVals rfl (pe_fld (pv 0) rfl) (by rfl) T.list (by decide +kernel)) pa_nil)) pa_nil))) (pg_name (i := 4) sc_Fit_choices.nd rfl (Or.inr rfl))
        (pss_cons (ps_lock (ps_setLc (i := 7) (own := [("other", 10)]) rfl sc_Fit_choices.nd rfl rfl (sw_true rfl rfl rfl (by decide +kernel)) (pi_keys (pe_fld (pv 0) rfl)) (blkOk_by (N := ["self", "place", "later", "found", "key", "time", "free", "some", "own", "high", "other", "got", "value"]) (sc := defScope s_Fit_choices) (own := [("other", 10)]) (by decide +kernel)) (fun _ _ _ _ _ => (pg_name (i := 10) sc_Fit_choices.nd rfl (Or.inl rfl))) (fun _ _ _ _ _ => (pts_one (PW.pt (pw_and (pt_cmpR op_gt (pv 10) (pv 1) (nomark _)) (pw_and1 (pt_cmpR op_eq (pe_dget hu (pe_fldE (K := K) rfl (pv 0) rfl) (pv 10) (fun _ _ => rfl)) (pv 4) (nomark _))))))) (fun _ _ _ _ _ => (pv 10))))
        (pss_one (ps_if (pt_cmpR op_gt (pe_callB cl_len (by rfl) T.len (by decide +kernel) (pa_cons (pv 7) pa_nil)) pe_int (nomark _))
          (pss_cons ((ps_setLc (i := 8) (own := [("other", 10), ("got", 11), ("value", 12)]) rfl sc_Fit_choices.nd rfl rfl (sw_true rfl rfl rfl (by decide +kernel)) (pi_view IV FN_iter (hr.mono (by first | decide | omega)) (pe_fld (pv 0) rfl)) (blkOk_by (N := ["self", "place", "later", "found", "key", "time", "free", "some", "own", "high", "other", "got", "value"]) (sc := defScope s_Fit_choices) (own := [("other", 10), ("got", 11), ("value", 12)]) (by decide +kernel)) (fun _ _ _ _ _ => (pg_tupE (K := K) (n := 2) rfl rfl (pgs_cons (pg_name (i := 10) sc_Fit_choices.nd rfl (Or.inl rfl)) (pgs_cons (pg_tupE (K := K) (n := 2) rfl rfl (pgs_cons (pg_name (i := 11) sc_Fit_choices.nd rfl (Or.inl rfl)) (pgs_cons (pg_name (i := 12) sc_Fit_choices.nd rfl (Or.inl rfl)) pgs_nil))) pgs_nil)))) (fun _ _ _ _ _ => (pts_one (PW.pt (pw_and (pt_cmpR op_lt (pv 10) (pv 1) (nomark _)) (pw_and1 (pt_cmpR op_eq (pv 11) (pv 4) (nomark _))))))) (fun _ _ _ _ _ => (pv 10))))
          (pss_cons (ps_set (i := 9) sc_Fit_choices.nd rfl (Or.inl rfl) (pe_ifExp (pt_cmpR op_gt (pe_callB cl_len (by rfl) T.len (by decide +kernel) (pa_cons (pv 8) pa_nil)) pe_int (nomark _)) (pe_tup (pa_cons (pe_mth (pe_fld (pv 0) rfl) M_read_time (hr.mono (by first | decide | omega)) (pa_cons (pe_ix ix_list (pv 8) (pe_un un_neg pe_int) (fun _ _ => rfl)) pa_nil)) (pa_cons (pv 1) pa_nil))) pe_non))
          (pss_one (ps_expr (pe_bm PySem.F.plainAttrs_list PySem.F.slot_list_append PySem.F.type_list_append mt_append (pv 3) (pa_cons (pe_tup (pa_cons (pv 4) (pa_cons (pe_tup (pa_cons (pv 5) (pa_cons (pe_op op_add (pe_callB (cr_min rfl) (by rfl) T.min (by decide +kernel) (pa_cons (pv 7) pa_nil)) pe_int) pa_nil))) (pa_cons (pv 9) (pa_cons pe_bl pa_nil))))) pa_nil))))))
          pss_nil))))
      (pss_one (ps_ret (pv 3)))))))), ?_⟩
    walk_at "r"
    refine ⟨F, _, a.v, rs, p, rfl, O, hvw, hc, p0, p1, ?_⟩
    walk_at "r"
    refine ⟨F, _, x, dx, a, hold, known, rfl, O, hx, hky, by omega, fun H O => ?_⟩
    walk_at "r"
    refine ⟨by walk_at "sz", fun t0 hp => ?_⟩
    obtain ⟨F1, s1, g1, O⟩ := O.newF (o := .tup [.int (timeAt rs p), .str "x"]) hp
    have hx := s1 _ _ hx
    have hvw := hvw.mono s1
    have h1 := s1 _ _ h1
    walk_at "r"
    refine ⟨a.ke, .dK (kK keys), O.get 1, trivial, fun od => ?_⟩
    have O := O.set 1 (.frz od (.dK (kK keys)))
    walk_at "r"
    refine ⟨a.ke, od, rfl, .inl ⟨kK keys, O.get 1, ?_⟩⟩
    refine lc_KI O 1 rfl (fun i _ acc => acc = (after (keys.take i) p "x").map V.int) rfl (fun D i q F' acc H hq s pr l O => ?_) (fun D F' acc H s pr l O => ?_)
    · have hi : i < keys.length := (List.getElem?_eq_some_iff.mp hq).1
      have hval := kK_val nd hq
      have ea := after_take hq p "x"
      have hx := s _ _ hx
      walk_at "r"
      refine br (fun h1 => ?_) (fun h1 => ?_)
      · walk_at "r"
        refine br (fun h2 => ?_) (fun h2 => ?_)
        · have h2 : q.2 = "x" := V.str.inj h2
          walk_at "r"
          refine lcP (by omega) s l O ?_
          rw [pr, ea, if_pos ⟨h1, h2⟩]
          simp
        · refine lcN s l O ?_
          rw [pr, ea, if_neg (fun c => h2 (by rw [c.2]))]
          simp
      · refine iteF (lcN s l O ?_)
        rw [pr, ea, if_neg (fun c => h1 c.1)]
        simp
    · rw [List.take_length] at pr
      subst pr
      walk_at "r"
      refine ⟨O.get 2, ?_⟩
      have O := (O.set 2 (.dK (kK keys))).weak s
      walk_at "r"
      refine ⟨F1, _, x, dx, a.v, fFs a hold, rs, hold, p, rfl, O, O.fz hx, ff_view, ff_hold, hvw, hc, p0, p1, fun t1 F2 H' s2 g2 _ _ O => ?_⟩
      walk_at "r"
      refine ⟨by walk_at "sz", fun c1 hp => ?_⟩
      obtain ⟨F3, s3, g3, O⟩ := O.newF (o := .tup [.str "x", .ref t1, .non, .bl true]) hp
      walk_at "r"
      refine ⟨by walk_at "sz", fun fl hp => ?_⟩
      have O := O.new (o := .lst [.ref c1]) hp
      have s13 := s2.trans s3
      have hx := s13 _ _ hx
      have hvw := hvw.mono s13
      have h1 := s13 _ _ h1
      walk_at "r"
      refine ⟨a.v, dv, _, rfl, O.fz h1, F3, _, a.v, rs, rfl, O, hvw, hc, lastU 0 rs, rfl, n0, by omega, ?_⟩
      walk_at "r"
      refine ⟨by walk_at "sz", fun q1 hp => ?_⟩
      have O := O.new (o := .lst [.int (lastU 0 rs)]) hp
      walk_at "r"
      have al : (after keys p "x").length ≤ 100 := by
        unfold after
        rw [List.length_map]
        exact Nat.le_trans (List.length_filter_le _ _) hel
      refine rd_cat (O.get 2) (O.get 0) (szl (by simp; omega)) fun q2 hp => ?_
      have em : (after keys p "x").map V.int ++ [V.int (lastU 0 rs)] = (after keys p "x" ++ [lastU 0 rs]).map V.int := by rw [List.map_append]; rfl
      rw [em]
      have O := O.new (o := .lst ((after keys p "x" ++ [lastU 0 rs]).map V.int)) hp
      walk_at "r"
      refine ⟨q2, after keys p "x" ++ [lastU 0 rs], rfl, SqL.of (O.get 0), by simp, fun m hm hmin => ?_⟩
      have em := minI_of hm hmin
      subst em
      have O := ((O.er 0).er 0).er 1
      walk_at "r"
      refine ⟨by walk_at "sz", fun t2 hp => ?_⟩
      obtain ⟨F4, s4, g4, O⟩ := O.newF (o := .tup [.int (timeAt rs p), .int (minI (after keys p "x" ++ [lastU 0 rs]) + 1)]) hp
      walk_at "r"
      refine ⟨by walk_at "sz", fun c2 hp => ?_⟩
      obtain ⟨F5, s5, g5, O⟩ := O.newF (o := .tup [.str "x", .ref t2, .non, .bl false]) hp
      walk_at "r"
      have O := O.set 0 (.lst [.ref c1, .ref c2])
      have s35 := s4.trans s5
      have hx := s35 _ _ hx
      have hvw := hvw.mono s35
      have h1 := s35 _ _ h1
      have ch2 : ChsAt F5 [.ref c1, .ref c2] [⟨"x", agedOf rs hold p, none, true⟩, ⟨"x", (timeAt rs p, minI (after keys p "x" ++ [lastU 0 rs]) + 1), none, false⟩] :=
        .cons ⟨c1, t1, .non, rfl, s35 _ _ g3, s35 _ _ (s3 _ _ g2), rfl⟩ (.cons ⟨c2, t2, .non, rfl, g5, s5 _ _ g4, rfl⟩ .nil)
      have s05 := (s1.trans s13).trans s35
      walk_at "r"
      refine ⟨a.kn, kK known, rfl, Rd.of (O.get 1), fun q hp => ?_⟩
      have ev : (kK known).map (·.2) = (known.map (·.2)).map V.str := by unfold kK; rw [List.map_map, List.map_map]; rfl
      rw [ev]
      have O := O.new (o := .lst ((known.map (·.2)).map V.str)) hp
      have kl : (known.map (·.2)).length < 60 := by rw [List.length_map]; omega
      walk_at "r"
      refine ⟨q, known.map (·.2), rfl, SqL.of (O.get 0), kl, fun sa hp => ?_⟩
      have O := O.new (o := SetXO (PySem.strKind P w) Value.str unS sa (known.map (·.2))) hp
      walk_at "r"
      refine ⟨sa, known.map (·.2), rfl, O.get 0, kl, fun ys cr hmem hyl hp => ?_⟩
      obtain ⟨F6, s6, g6, O⟩ := O.newF (o := .lst (ys.map V.str)) hp
      have O := O.drop.drop
      have hyl2 : ys.length ≤ 50 := by rw [List.length_map] at hyl; omega
      walk_at "r"
      refine lp_L (ys.map V.str) (fun i σ' H' => ∃ (F7 : Hp) (lv : List V) (v4 v7 v8 v9 v10 v11 v12 : Option V), σ' = [some (.ref x), some (.int p), some (.ref D), some (.ref fl), v4, some (.int (timeAt rs p)), some (.str "x"), v7, v8, v9, v10, v11, v12] ∧ Same F6 F7 ∧
          ChsAt F7 lv ([⟨"x", agedOf rs hold p, none, true⟩, ⟨"x", (timeAt rs p, minI (after keys p "x" ++ [lastU 0 rs]) + 1), none, false⟩] ++ (ys.take i).filterMap (keyCh rs keys p)) ∧ lv.length ≤ i + 2 ∧ Ow F7 ((fl, .lst lv) :: (a.kn, .dK (kK known)) :: (a.ke, .dK (kK keys)) :: R) H')
        ⟨F6, _, _, _, _, _, _, _, _, rfl, Same.refl _, ch2.mono s6, Nat.le_refl _, O⟩ (fun i σ' H' _ ⟨_, _, _, _, _, _, _, _, _, _, s7, _, _, O⟩ => SqL.of (O.fz (s7 _ _ g6))) ?_ ?_
      · rintro i y σ' H' hy ⟨F7, lv, v4, v7, v8, v9, v10, v11, v12, rfl, s7, hch, hll, O⟩
        rw [List.getElem?_map] at hy
        obtain ⟨key, hkey, rfl⟩ := Option.map_eq_some_iff.mp hy
        have hi : i < ys.length := (List.getElem?_eq_some_iff.mp hkey).1
        have s67 := s6.trans s7
        have hx := s67 _ _ hx
        have hvw := hvw.mono s67
        have h1 := s67 _ _ h1
        have h7 := s67 _ _ (s05 _ _ h7)
        have h8 := L2.Paired.mapP h8 fun _ _ z => RwAt.mono z (s05.trans s67)
        have etk : (ys.take (i + 1)).filterMap (keyCh rs keys p) = (ys.take i).filterMap (keyCh rs keys p) ++ (match keyCh rs keys p key with | some c => [c] | none => []) := by
          rw [List.take_add_one, hkey, List.filterMap_append]
          cases h : keyCh rs keys p key <;> simp [h]
        walk_at "r"
        refine ⟨a.ke, .dK (kK keys), O.get 2, trivial, fun od => ?_⟩
        have O := O.set 2 (.frz od (.dK (kK keys)))
        walk_at "r"
        refine ⟨a.ke, od, rfl, .inl ⟨kK keys, O.get 2, ?_⟩⟩
        refine lc_KI O 2 rfl (fun i _ acc => acc = (after (keys.take i) p key).map V.int) rfl (fun D i q F' acc H hq s pr l O => ?_) (fun D1 F' acc H s pr l O => ?_)
        · have hi : i < keys.length := (List.getElem?_eq_some_iff.mp hq).1
          have hval := kK_val nd hq
          have ea := after_take hq p key
          have hx := s _ _ hx
          walk_at "r"
          refine br (fun h1 => ?_) (fun h1 => ?_)
          · walk_at "r"
            refine br (fun h2 => ?_) (fun h2 => ?_)
            · have h2 : q.2 = key := V.str.inj h2
              walk_at "r"
              refine lcP (by omega) s l O ?_
              rw [pr, ea, if_pos ⟨h1, h2⟩]
              simp
            · refine lcN s l O ?_
              rw [pr, ea, if_neg (fun c => h2 (by rw [c.2]))]
              simp
          · refine iteF (lcN s l O ?_)
            rw [pr, ea, if_neg (fun c => h1 c.1)]
            simp
        · rw [List.take_length] at pr
          subst pr
          walk_at "r"
          refine ⟨O.get 3, ?_⟩
          have O := (O.set 3 (.dK (kK keys))).weak s
          walk_at "r"
          have ekc : keyCh rs keys p key = if after keys p key = [] then none else some ⟨key, (timeAt rs p, minI (after keys p key) + 1), ownHigh rs key p, false⟩ := rfl
          refine br (fun hpos => ?_) (fun hz => ?_)
          · have hne : after keys p key ≠ [] := fun e => by rw [e] at hpos; exact absurd hpos (by decide)
            rw [if_neg hne] at ekc
            rw [ekc] at etk
            walk_at "r"
            refine ⟨a.v, dv, _, rw_, wv, rfl, O.fz h1, va.cls, va.rows, vf_rows, SqL.of (O.fz h7), ?_⟩
            refine lc_any walk_listF O (fun i _ acc => acc = (((rowsOf rs).take i).filter fun z => decide (z.1 < p) && decide (z.2.1 = key)).map fun z => V.int z.1) rfl (fun D F' acc H s O => SqL.of (O.fz (s _ _ h7))) (fun D2 j z F' acc H H' hj s pr l O ⟨e1, hz⟩ => ?_) (fun D2 F' acc H s pr l O => ?_)
            · subst e1
              obtain ⟨⟨pl, ky, vl⟩, hrow, za, zb, rfl, hza, hzb⟩ := L2.paired_get h8 hz
              have hza := s _ _ hza
              have hzb := s _ _ hzb
              have ef : (((rowsOf rs).take (j + 1)).filter fun z => decide (z.1 < p) && decide (z.2.1 = key)) = (((rowsOf rs).take j).filter fun z => decide (z.1 < p) && decide (z.2.1 = key)) ++ (if pl < p ∧ ky = key then [(pl, ky, vl)] else []) := by
                rw [List.take_add_one, hrow, List.filter_append]
                congr 1
                by_cases c : pl < p ∧ ky = key
                · rw [if_pos c]; simp [c.1, c.2]
                · rw [if_neg c]
                  simp
                  intro u
                  exact fun e => c ⟨u, e⟩
              walk_at "r"
              refine br (fun g1 => ?_) (fun g1 => ?_)
              · walk_at "r"
                refine br (fun g2 => ?_) (fun g2 => ?_)
                · have g2 : ky = key := V.str.inj g2
                  walk_at "r"
                  refine lcP (by omega) s l O ?_
                  rw [pr, ef, if_pos ⟨g1, g2⟩, List.map_append]
                  rfl
                · refine lcN s l O ?_
                  rw [pr, ef, if_neg (fun c => g2 (by rw [c.2])), List.append_nil]
              · refine iteF (lcN s l O ?_)
                rw [pr, ef, if_neg (fun c => g1 c.1), List.append_nil]
            · rw [h8l, List.take_length] at pr
              have O := O.weak s
              have al2 : (after keys p key).length ≤ 100 := by
                unfold after
                rw [List.length_map]
                exact Nat.le_trans (List.length_filter_le _ _) hel
              have fin : ∀ (F8 : Hp) (H : Hp) (hv : V) (y8 y9 : Option V), Same F7 F8 → HgAt F8 hv (ownHigh rs key p) → Ow F8 ((D2, .lst acc) :: (D1, .lst ((after keys p key).map V.int)) :: (fl, .lst lv) :: (a.kn, .dK (kK known)) :: (a.ke, .dK (kK keys)) :: R) H →
                  ∀ (t3 : Addr), H t3 = none → ∀ c3, upd H t3 (.tup [.int (timeAt rs p), .int (minI (after keys p key) + 1)]) c3 = none →
                  ∃ F9, Same F6 F9 ∧ ChsAt F9 (lv ++ [V.ref c3]) ([⟨"x", agedOf rs hold p, none, true⟩, ⟨"x", (timeAt rs p, minI (after keys p "x" ++ [lastU 0 rs]) + 1), none, false⟩] ++ (ys.take (i + 1)).filterMap (keyCh rs keys p)) ∧
                    Ow F9 ((D2, .lst acc) :: (D1, .lst ((after keys p key).map V.int)) :: (fl, .lst lv) :: (a.kn, .dK (kK known)) :: (a.ke, .dK (kK keys)) :: R) (upd (upd H t3 (.tup [.int (timeAt rs p), .int (minI (after keys p key) + 1)])) c3 (.tup [.str key, .ref t3, hv, .bl false])) := by
                intro F8 H hv y8 y9 s8 hg O t3 ht c3 hc3
                obtain ⟨Fa, sa1, ga, O⟩ := O.newF (o := .tup [.int (timeAt rs p), .int (minI (after keys p key) + 1)]) ht
                obtain ⟨Fb, sb1, gb, O⟩ := O.newF (o := .tup [.str key, .ref t3, hv, .bl false]) hc3
                refine ⟨Fb, (s7.trans s8).trans (sa1.trans sb1), ?_, O⟩
                rw [etk, ← List.append_assoc]
                refine (hch.mono (s8.trans (sa1.trans sb1))).snoc ⟨c3, t3, hv, rfl, gb, sb1 _ _ ga, ?_⟩
                show HgAt Fb hv (ownHigh rs key p)
                cases hh : ownHigh rs key p with
                | none => rw [hh] at hg; exact hg
                | some q =>
                  rw [hh] at hg
                  obtain ⟨u, e2, h4⟩ := hg
                  exact ⟨u, e2, sb1 _ _ (sa1 _ _ h4)⟩
              walk_at "r"
              rcases List.eq_nil_or_concat ((rowsOf rs).filter fun z => decide (z.1 < p) && decide (z.2.1 = key)) with e0 | ⟨ini, las, e0⟩
              · have eacc : acc = [] := by rw [pr, e0]; rfl
                have eown : ownHigh rs key p = none := by unfold ownHigh; rw [e0]; rfl
                have hg : HgAt F7 .non (ownHigh rs key p) := by rw [eown]; rfl
                refine ifF (by rw [eacc]; decide) ?_
                walk_at "r"
                refine ⟨D1, after keys p key, rfl, SqL.of (O.get 1), List.length_pos_iff.mpr hne, fun m hm hmin => ?_⟩
                have em := minI_of hm hmin
                subst em
                walk_at "r"
                refine ⟨by walk_at "sz", fun t3 ht3 => ?_⟩
                walk_at "r"
                refine ⟨by walk_at "sz", fun c3 hc3 => ?_⟩
                obtain ⟨F9, s9, ch9, O⟩ := fin F7 _ .non none none (Same.refl _) hg O t3 ht3 c3 hc3
                walk_at "r"
                have O := O.set 2 (.lst (lv ++ [V.ref c3]))
                exact ⟨F9, lv ++ [V.ref c3], _, _, _, _, _, _, _, rfl, s9, ch9, by simp; omega, O.drop.drop⟩
              · rw [List.concat_eq_append] at e0
                have eacc : acc = (ini.map fun z => V.int z.1) ++ [V.int las.1] := by rw [pr, e0, List.map_append]; rfl
                have eown : ownHigh rs key p = some (timeAt rs las.1, p) := by
                  unfold ownHigh
                  rw [e0]
                  simp
                have hlas : las ∈ rowsOf rs := (List.mem_filter.mp (by rw [e0]; simp : las ∈ (rowsOf rs).filter fun z => decide (z.1 < p) && decide (z.2.1 = key))).1
                obtain ⟨b1, b2, _⟩ := rbd las hlas
                have exl : atI acc (-1) = some (.int las.1) := by rw [eacc]; exact atI_last _ _
                refine ifT (by rw [eacc]; simp) ?_
                walk_at "r"
                refine rd_un ?_
                walk_at "r"
                refine rd_U ?_
                walk_at "r"
                refine ⟨F7, _, a.v, rs, las.1, rfl, O, hvw, hc, b1, b2, ?_⟩
                walk_at "r"
                refine ⟨by walk_at "sz", fun h3a hp => ?_⟩
                obtain ⟨F8, s8, g8, O⟩ := O.newF (o := .tup [.int (timeAt rs las.1), .int p]) hp
                have hg : HgAt F8 (.ref h3a) (ownHigh rs key p) := by rw [eown]; exact ⟨h3a, rfl, g8⟩
                walk_at "r"
                refine ⟨D1, after keys p key, rfl, SqL.of (O.get 1), List.length_pos_iff.mpr hne, fun m hm hmin => ?_⟩
                have em := minI_of hm hmin
                subst em
                walk_at "r"
                refine ⟨by walk_at "sz", fun t3 ht3 => ?_⟩
                walk_at "r"
                refine ⟨by walk_at "sz", fun c3 hc3 => ?_⟩
                obtain ⟨F9, s9, ch9, O⟩ := fin F8 _ (.ref h3a) none none s8 hg O t3 ht3 c3 hc3
                walk_at "r"
                have O := O.set 2 (.lst (lv ++ [V.ref c3]))
                exact ⟨F9, lv ++ [V.ref c3], _, _, _, _, _, _, _, rfl, s9, ch9, by simp; omega, O.drop.drop⟩
          · have he : after keys p key = [] := by
              cases e : after keys p key with
              | nil => rfl
              | cons u v => rw [e] at hz; exact absurd (by simp) hz
            rw [if_pos he] at ekc
            rw [ekc] at etk
            walk_at "r"
            refine ⟨F7, lv, _, _, _, _, _, _, _, rfl, s7, ?_, by omega, O.drop⟩
            rw [etk, List.append_nil]
            exact hch
      · rintro σ' H' ⟨F7, lv, v4, v7, v8, v9, v10, v11, v12, rfl, s7, hch, hll, O⟩
        rw [List.length_map, List.take_length] at hch
        walk_at "r"
        have f1 := O.fle
        have O2 := O.freeze
        exact k fl lv ys _ _ (((s05.trans s6).trans s7).trans f1) upd_same (hch.mono f1) hmem hyl2 O2
end
end K7

set_option Elab.async false
set_option linter.all false
set_option maxRecDepth 100000
set_option maxHeartbeats 4000000
set_option pp.deepTerms false
set_option pp.maxSteps 600
namespace K7
open PySem PySem.Spec PyProof.Rows L2 ItX
local macro_rules | `(tactic| walk_at "hp") => `(tactic| with_unfolding_all first
  | exact Ow.get (by assumption) 0 | exact Ow.get (by assumption) 1 | exact Ow.get (by assumption) 2 | exact Ow.get (by assumption) 3
  | exact Ow.fz (by assumption) (by assumption)
  | exact Ow.get (by assumption) 4 | exact Ow.get (by assumption) 5 | exact Ow.get (by assumption) 6 | exact Ow.get (by assumption) 7 | exact Ow.get (by assumption) 8 | exact Ow.get (by assumption) 9)
local macro_rules | `(tactic| walk_at "sq") => `(tactic| with_unfolding_all first
  | exact SqL.of (by walk_at "hp") | exact SqT.of (by walk_at "hp") | assumption)
local macro_rules | `(tactic| walk_at "rd") => `(tactic| with_unfolding_all first
  | exact Rd.of (by walk_at "hp") | assumption | exact Or.inr ⟨_, by walk_at "hp"⟩)
local macro_rules | `(tactic| walk_at "dk") => `(tactic| assumption)
local macro_rules | `(tactic| walk_at "cl") => `(tactic| assumption)
local macro_rules | `(tactic| walk_at "na") => `(tactic| assumption)
local macro_rules | `(tactic| walk_at "lk") => `(tactic| assumption)
local macro_rules | `(tactic| walk_at "ln") => `(tactic| assumption)
local macro_rules | `(tactic| walk_at "ai") => `(tactic| first | with_unfolding_all rfl | exact atI_zero | assumption)
local macro_rules | `(tactic| walk_at "sd") => `(tactic| with_unfolding_all first
  | rfl | assumption | decide | omega
  | exact ⟨by omega, by omega⟩ | exact Or.inl ⟨by omega, by omega⟩ | exact Or.inr ⟨by omega, by omega⟩ | exact ⟨by decide, by decide, by omega⟩)
local macro_rules | `(tactic| walk_at "sz") => `(tactic| first
  | with_unfolding_all exact szl (Nat.le_of_ble_eq_true rfl)
  | with_unfolding_all exact sztl (Nat.le_of_ble_eq_true rfl)
  | exact szl (by simp <;> omega)
  | exact sztl (by simp <;> omega))
local macro_rules | `(tactic| walk_at "s") => `(tactic| first
  | with_reducible refine rd_I0 ?_
  | ((with_reducible apply rd_I); (focus walk_at "sd"))
  | ((with_reducible apply rd_opVC); (focus with_unfolding_all rfl))
  | ((with_reducible apply rd_opVV); (focus with_unfolding_all rfl); (focus with_unfolding_all rfl))
  | ((with_reducible apply rd_opV); (focus with_unfolding_all rfl))
  | with_reducible refine rd_opC ?_
  | with_reducible refine rd_op ?_
  | ((with_reducible apply rd_var); (focus with_unfolding_all rfl))
  | with_reducible refine rd_c ?_
  | with_reducible refine rd_sSet ?_
  | ((with_reducible apply rd_CB1V); (focus with_unfolding_all rfl)) | with_reducible refine rd_CB1 ?_ | with_reducible refine rd_CB ?_
  | ((with_reducible apply rd_consV); (focus with_unfolding_all rfl)) | with_reducible refine rd_consC ?_ | with_reducible refine rd_cons0 ?_ | with_reducible refine rd_cons ?_ | with_reducible refine rd_nil ?_
  | ((with_reducible apply rd_ixL); (focus walk_at "sq"); (focus walk_at "ai"))
  | ((with_reducible apply rd_ixT); (focus walk_at "sq"); (focus walk_at "ai"))
  | with_reducible refine rd_int ?_ | with_reducible refine rd_intB ?_ | with_reducible refine rd_abs ?_
  | ((with_reducible apply rd_len); (focus walk_at "sq")) | ((with_reducible apply rd_lenT); (focus walk_at "sq"))
  | with_reducible refine rd_ifS ?_ | with_reducible refine iteT ?_ | with_reducible refine iteF ?_
  | with_reducible refine rd_tTest ?_ | with_reducible refine rd_tB ?_ | with_reducible refine rd_ex ?_
  | with_reducible refine rd_seqD ?_ | with_reducible refine rd_sSet1 ?_ | with_reducible refine rd_ret ?_ | with_reducible refine rd_drop ?_ | with_reducible refine rd_asg ?_
  | ((with_reducible apply rd_eq); (focus with_unfolding_all rfl)) | ((with_reducible apply rd_ne); (focus with_unfolding_all rfl))
  | with_reducible refine rd_isNr ?_ | with_reducible refine rd_notNr ?_ | with_reducible refine rd_isNn ?_ | with_reducible refine rd_notNn ?_ | with_reducible refine rd_isNi ?_ | with_reducible refine rd_notNi ?_
  | with_reducible refine rd_isN ?_ | with_reducible refine rd_notN ?_
  | with_reducible refine rd_and ?_ | with_reducible refine rd_or ?_ | with_reducible refine rd_not ?_ | with_reducible refine rd_if ?_
  | with_reducible refine rd_seq ?_ | with_reducible refine rd_gName ?_ | with_reducible refine rd_next ?_ | with_reducible refine rd_retN ?_
  | with_reducible refine rd_gSub ?_ | with_reducible refine rd_gCons ?_ | with_reducible refine rd_gNil ?_ | ((with_reducible apply rd_gTup); (focus walk_at "sq"); (focus with_unfolding_all rfl))
  | ((with_reducible apply rd_setL); (focus walk_at "hp"); (focus with_unfolding_all rfl))
  | with_reducible refine rd_par ?_ | with_reducible refine rd_par3 ?_ | with_reducible refine rd_ex2 ?_ | with_reducible refine rd_ex3 ?_
  | with_reducible refine rd_dget ?_ | with_reducible refine rd_din ?_ | with_reducible refine rd_dnotin ?_
  | ((with_reducible apply rd_dgS); (focus walk_at "rd"); (focus walk_at "dk"))
  | ((with_reducible apply rd_dgI); (focus walk_at "rd"); (focus walk_at "dk"))
  | ((with_reducible apply rd_doS); (focus walk_at "rd")) | ((with_reducible apply rd_doI); (focus walk_at "rd"))
  | with_reducible refine rd_dput ?_
  | ((with_reducible apply rd_dpS); (focus walk_at "hp"); (focus walk_at "sz")) | ((with_reducible apply rd_dpI); (focus walk_at "hp"); (focus walk_at "sz"))
  | with_reducible refine rd_bm ?_
  | ((with_reducible apply rd_tyL); (focus walk_at "hp")) | ((with_reducible apply rd_append); (focus walk_at "hp"); (focus walk_at "sz"))
  | with_reducible refine rd_tup ?_ | with_reducible refine rd_lst ?_ | with_reducible refine rd_dnew ?_
  | with_reducible refine rd_for ?_ | with_reducible refine rd_iR1 ?_ | with_reducible refine rd_iR2 ?_ | with_reducible refine rd_iL ?_ | with_reducible refine rd_iT ?_
  | with_reducible refine rd_disp ?_ | with_reducible refine rd_pair ?_ | with_reducible refine rd_pair0 ?_
  | with_reducible refine rd_andV ?_ | with_reducible refine rd_orV ?_
  | ((with_reducible apply rd_tupL); (focus walk_at "sq")) | ((with_reducible apply rd_listT); (focus walk_at "sq"))
  | with_reducible refine rd_lc ?_ | ((with_reducible apply rd_wp); (focus with_unfolding_all rfl)) | with_reducible refine rd_yes ?_
  | with_reducible refine rd_sl ?_ | with_reducible refine rd_noPart ?_ | with_reducible refine rd_part ?_ | with_reducible refine rd_exI ?_
  | ((with_reducible apply rd_isd); (focus walk_at "rd")) | ((with_reducible apply rd_dg1S); (focus walk_at "rd")) | ((with_reducible apply rd_dg1I); (focus walk_at "rd"))
  | with_reducible refine rd_dget1 ?_ | with_reducible refine rd_dget2 ?_ | with_reducible refine rd_dpop2 ?_ | with_reducible refine rd_dpop1 ?_ | with_reducible refine rd_dsetd ?_
  | ((with_reducible apply rd_slL); (focus walk_at "sq"))
  | with_reducible refine rd_iE ?_ | with_reducible refine rd_iS ?_
  | ((with_reducible apply rd_dictD); (focus walk_at "rd"))
  | with_reducible refine rd_setD ?_
  | with_reducible refine rd_meth ?_ | ((with_reducible apply rd_me); (focus walk_at "hp"); (focus walk_at "ln"))
  | with_reducible refine rd_fld ?_ | ((with_reducible apply rd_fl); (focus walk_at "hp"); (focus walk_at "cl"); (focus walk_at "na"); (focus walk_at "lk"))
  | with_reducible refine rd_sfld ?_ | with_reducible refine rd_gfld ?_
  | with_reducible refine rd_dupd ?_ | with_reducible refine rd_lvals ?_ | with_reducible refine rd_sitems ?_ | with_reducible refine rd_revL ?_ | with_reducible refine rd_iView ?_ | with_reducible refine rd_iKeys ?_ | with_reducible refine rd_dc ?_
  | with_reducible refine rd_iET ?_
  | with_reducible refine rd_call ?_)
local macro_rules | `(tactic| walk_at "r") => `(tactic| repeat (walk_at "s"))

local macro_rules | `(tactic| walk_at "lt") => `(tactic| first | with_reducible refine ifT (by decide +kernel) ?_ | with_reducible refine ifF (by decide +kernel) ?_)
local macro_rules | `(tactic| walk_at "R") => `(tactic| repeat (first | walk_at "s" | walk_at "lt"))
theorem putF_app {f : Str} {v : V} : ∀ {fs : List (Str × V)} {ks : List Str}, fs.map (·.1) = ks → f ∉ ks → putF f v fs = fs ++ [(f, v)]
  | [], _, _, _ => rfl
  | p :: r, ks, e, h => by
    subst e
    have h1 : p.1 ≠ f := fun e => h (by rw [← e]; exact List.mem_cons_self ..)
    rw [show p :: r = (p.1, p.2) :: r from rfl, putF_tl h1, putF_app (fs := r) rfl fun z => h (List.mem_cons_of_mem _ z)]
    rfl
theorem rd_sfl2 {K : PySem.W.Frag} {H : Hp} {a C dx : Addr} {fs : List (Str × V)} {f : Str} {v : V} {α : Type} {z : α} {B : Hp → α → Prop} {fs' : List (Str × V)} (h : H a = some (.ins C dx fs)) (c : Cls K C) (n : NoAttr K C f) (l : fs.length < 1000) (e : putF f v fs = fs') (q : B (upd H a (.ins C dx fs')) z) : ∃ a' C' dx' fs0, V.ref a = .ref a' ∧ H a' = some (.ins C' dx' fs0) ∧ Cls K C' ∧ NoAttr K C' f ∧ fs0.length < 1000 ∧ B (upd H a' (.ins C' dx' (putF f v fs0))) z :=
  ⟨a, C, dx, fs, rfl, h, c, n, l, by rw [e]; exact q⟩
def i1 (v : Addr) : List (Str × V) := [("own_view", .ref v)]
def i2 (v : Addr) (hold : Int) (r : List (Str × V)) : List (Str × V) := ("own_view", .ref v) :: ("own_hold", .int hold) :: r
def i3 (v : Addr) (hold : Int) (kn : Addr) (r : List (Str × V)) : List (Str × V) := i2 v hold (("own_known", .ref kn) :: r)
def i5 (v : Addr) (hold : Int) (kn lo hi : Addr) (r : List (Str × V)) : List (Str × V) := i3 v hold kn (("own_lows", .ref lo) :: ("own_highs", .ref hi) :: r)
section
variable {v kn lo hi le ke ma : Addr} {hold : Int} {r : List (Str × V)}
theorem i3_view : (i3 v hold kn r).lookup ("own_view" : Str) = some (.ref v) := lookup_hd
theorem i3_hold : (i3 v hold kn r).lookup ("own_hold" : Str) = some (.int hold) := (lookup_tl (by decide +kernel)).trans lookup_hd
theorem i3_known : (i3 v hold kn r).lookup ("own_known" : Str) = some (.ref kn) := (lookup_tl (by decide +kernel)).trans ((lookup_tl (by decide +kernel)).trans lookup_hd)
theorem i5_view : (i5 v hold kn lo hi r).lookup ("own_view" : Str) = some (.ref v) := i3_view
theorem i5_hold : (i5 v hold kn lo hi r).lookup ("own_hold" : Str) = some (.int hold) := i3_hold
theorem i5_known : (i5 v hold kn lo hi r).lookup ("own_known" : Str) = some (.ref kn) := i3_known
theorem i5_lows : (i5 v hold kn lo hi r).lookup ("own_lows" : Str) = some (.ref lo) := (lookup_tl (by decide +kernel)).trans ((lookup_tl (by decide +kernel)).trans ((lookup_tl (by decide +kernel)).trans lookup_hd))
theorem i5_highs : (i5 v hold kn lo hi r).lookup ("own_highs" : Str) = some (.ref hi) := (lookup_tl (by decide +kernel)).trans ((lookup_tl (by decide +kernel)).trans ((lookup_tl (by decide +kernel)).trans ((lookup_tl (by decide +kernel)).trans lookup_hd)))
theorem i5_no {f : Str} (h : f ∉ (["own_view", "own_hold", "own_known", "own_lows", "own_highs"] : List Str)) : (i5 v hold kn lo hi []).lookup f = none := lookup_no h
theorem pi1 : putF "own_view" (.ref v) [] = i1 v := rfl
theorem pi2 : putF "own_hold" (.int hold) (i1 v) = i2 v hold [] := putF_app (ks := ["own_view"]) rfl (by decide +kernel)
theorem pi3 : putF "own_known" (.ref kn) (i2 v hold []) = i3 v hold kn [] := putF_app (ks := ["own_view", "own_hold"]) rfl (by decide +kernel)
theorem pi4 : putF "own_lows" (.ref lo) (i3 v hold kn []) = i3 v hold kn [("own_lows", .ref lo)] := putF_app (ks := ["own_view", "own_hold", "own_known"]) rfl (by decide +kernel)
theorem pi5 : putF "own_highs" (.ref hi) (i3 v hold kn [("own_lows", .ref lo)]) = i5 v hold kn lo hi [] := putF_app (ks := ["own_view", "own_hold", "own_known", "own_lows"]) rfl (by decide +kernel)
theorem pi6 : putF "own_left" (.ref le) (i5 v hold kn lo hi []) = i5 v hold kn lo hi [("own_left", .ref le)] := putF_app (ks := ["own_view", "own_hold", "own_known", "own_lows", "own_highs"]) rfl (by decide +kernel)
theorem pi7 : putF "own_keys" (.ref ke) (i5 v hold kn lo hi [("own_left", .ref le)]) = i5 v hold kn lo hi [("own_left", .ref le), ("own_keys", .ref ke)] := putF_app (ks := ["own_view", "own_hold", "own_known", "own_lows", "own_highs", "own_left"]) rfl (by decide +kernel)
theorem pi8 : putF "own_marks" (.ref ma) (i5 v hold kn lo hi [("own_left", .ref le), ("own_keys", .ref ke)]) = fFs ⟨v, kn, lo, hi, le, ke, ma⟩ hold := putF_app (ks := ["own_view", "own_hold", "own_known", "own_lows", "own_highs", "own_left", "own_keys"]) rfl (by decide +kernel)
end
local macro_rules | `(tactic| walk_at "cl") => `(tactic| first | assumption | exact FA.cls (by assumption) | exact VA.cls (by assumption))
local macro_rules | `(tactic| walk_at "na") => `(tactic| first | assumption | exact FA.view (by assumption) | exact FA.hold (by assumption) | exact FA.known (by assumption) | exact FA.lows (by assumption) | exact FA.highs (by assumption) | exact FA.left (by assumption) | exact FA.keys (by assumption) | exact FA.marks (by assumption) | exact VA.reads (by assumption) | exact VA.times (by assumption) | exact VA.got (by assumption) | exact VA.rows (by assumption))
local macro_rules | `(tactic| walk_at "lk") => `(tactic| first | assumption | exact i3_known | exact i5_view | exact i5_hold | exact i5_known | exact i5_lows | exact i5_highs | exact vf_reads | exact vf_times | exact vf_got | exact vf_rows)
local macro_rules | `(tactic| walk_at "ln") => `(tactic| first | assumption | exact i5_no (by decide +kernel) | exact vf_no (by decide +kernel))
structure MsOk (rs : List Rdg) (ms : KP) : Prop where
  len : ms.length ≤ 1
  bd : ∀ q ∈ ms, 0 ≤ q.1 ∧ q.1 < lastU 0 rs ∧ hasRow rs q.1 = false ∧ KeyOk q.2
def rowK (rs : List Rdg) : KP := (rowsOf rs).map fun x => (x.1, x.2.1)
theorem known_nd {rs : List Rdg} {ms : KP} (hc : Chn 0 (-1) rs) (m : MsOk rs ms) : ((knownOf rs ms).map (·.1)).Nodup := by
  obtain ⟨asc, bd⟩ := rows_ok hc
  unfold knownOf
  rw [List.map_append, List.map_map]
  refine List.nodup_append.mpr ⟨List.Pairwise.imp (fun h e => by omega) asc, ?_, fun a ha b hb e => ?_⟩
  · rcases ms with _ | ⟨q, _ | ⟨q2, t⟩⟩
    · exact List.Pairwise.nil
    · exact List.nodup_cons.mpr ⟨fun h => (nomatch h), List.Pairwise.nil⟩
    · exact absurd m.len (by simp)
  · subst e
    obtain ⟨q, hq, rfl⟩ := List.mem_map.mp hb
    have h := (m.bd q hq).2.2.1
    have : hasRow rs q.1 = true := hasRow_iff.mpr ha
    rw [this] at h
    cases h
theorem known_len {rs : List Rdg} {ms : KP} (hc : Chn 0 (-1) rs) (m : MsOk rs ms) : (knownOf rs ms).length ≤ 21 := by
  unfold knownOf
  rw [List.length_append, List.length_map]
  have := rows_len hc
  have := m.len
  omega
theorem known_ok {rs : List Rdg} {ms : KP} (hc : Chn 0 (-1) rs) (m : MsOk rs ms) : ∀ q ∈ knownOf rs ms, KeyOk q.2 := by
  intro q hq
  rcases List.mem_append.mp hq with hq | hq
  · obtain ⟨x, hx, rfl⟩ := List.mem_map.mp hq
    exact ((rows_ok hc).2 x hx).2.2
  · exact (m.bd q hq).2.2.2
theorem kK_keys (l : KP) : (kK l).map (·.1) = (l.map (·.1)).map Sum.inl := by unfold kK; rw [List.map_map, List.map_map]; rfl
theorem inl_nd {l : List Int} (h : l.Nodup) : (l.map (Sum.inl : Int → Key)).Nodup := List.pairwise_map.mpr (List.Pairwise.imp (fun hab e => hab (Sum.inl.inj e)) h)
theorem kK_has {l : KP} {p : Int} : (valV (kK l) (.inl p)).isSome = l.any fun q => decide (q.1 = p) := by
  rw [Bool.eq_iff_iff, List.any_eq_true]
  constructor
  · intro h
    obtain ⟨z, hz⟩ := Option.isSome_iff_exists.mp h
    have hm := valV_in hz
    rw [kK_keys] at hm
    obtain ⟨y, hy, e⟩ := List.mem_map.mp hm
    obtain ⟨q, hq, rfl⟩ := List.mem_map.mp hy
    exact ⟨q, hq, decide_eq_true (Sum.inl.inj e)⟩
  · rintro ⟨q, hq, e⟩
    have e := of_decide_eq_true e
    cases h : valV (kK l) (.inl p) with
    | some _ => rfl
    | none => exact absurd (by rw [kK_keys]; exact List.mem_map.mpr ⟨q.1, List.mem_map.mpr ⟨q, hq, rfl⟩, by rw [e]⟩) (valV_not h)
theorem kK_merge {l m : KP} (nd : ((l ++ m).map (·.1)).Nodup) : mergeK (kK l) (kK m) = kK (l ++ m) := by
  have e : kK (l ++ m) = kK l ++ kK m := by unfold kK; rw [List.map_append]
  rw [e]
  refine merge_snoc _ _ ?_
  rw [← e, kK_keys]
  exact inl_nd nd
theorem oV_none : oV none = V.non := rfl
theorem oV_some (m : Int) : oV (some m) = V.int m := rfl
def spFInit (C CV : Addr) : Sp := fun vs H Q _ => ∃ (F : Hp) (R : List Cell) (x dx v m : Addr) (hold : Int) (rs : List Rdg) (ms : KP), vs = [.ref x, .ref v, .int hold, .ref m] ∧ Ow F ((x, .ins C dx []) :: (m, .dK (kK ms)) :: R) H ∧ VwAt CV F v rs ∧ Chn 0 (-1) rs ∧ MsOk rs ms ∧
  ∀ (a : Fa) (lv hv : List V) (F' H' : Hp), Same F F' → a.v = v → F' x = some (.ins C dx (fFs a hold)) → F' a.lo = some (.lst lv) → PrsAt F' lv (lows0 rs hold ms) → F' a.hi = some (.lst hv) → PrsAt F' hv (highs0 rs ms) → F' a.le = some (.lst ((leftOf rs ms).map V.int)) →
    Ow F' ((a.kn, .dK (kK (knownOf rs ms))) :: (a.ke, .dK (kK (knownOf rs ms))) :: (a.ma, .dK (kK ms)) :: (m, .dK (kK ms)) :: R) H' → Q .non H'
def hiOf (rs : List Rdg) (ms : KP) (x : Row) : Option (Int × Int) := (nextV (knownOf rs ms) x.2.1 x.1).map fun m => (timeAt rs x.1, m)
section
variable {P : Program} {w : World} {K : PySem.W.Frag} {mg : Str → Option Value} {base : Heap} {C CV fi : Addr}
abbrev s_Fit_init : Stmt := inClass (top 9) 0
theorem sc_Fit_init : FnScope ["self", "view", "hold", "missed", "place", "later", "key", "value"] ["self", "view", "hold", "missed"] (defScope s_Fit_init) := ⟨rfl, rfl, rfl, by decide +kernel, rfl, by decide +kernel, by decide +kernel⟩
theorem bd_Fit_init : Bd "__init__" "Fit.__init__" s_Fit_init ["self", "view", "hold", "missed"] := fun _ _ _ _ _ _ us hl => match us, hl with | [_, _, _, _], _ => rfl
/-! slots: 0 self, 1 view, 2 hold, 3 missed, 4 place, 5 later, 6 key, 7 value -/
theorem ok_Fit_init {f : Addr} (S : Src K "__init__" "Fit.__init__" s_Fit_init f) (T : Blt mg) (fa : FA K C) (va : VA K CV) (IV : ItV K CV fi) (FN_iter : FnN P w K mg base fi ["self"] 1 (spIter K))
    (M_read_time : Mtd P w K mg base CV "read_time" ["self", "place"] 1 (spVRead CV)) (M_gaps : Mtd P w K mg base CV "gaps" ["self"] 5 (spVGaps CV)) (M_next_of : Mtd P w K mg base C "next_of" ["self", "key", "place"] 1 (spNext C)) (M_aged : Mtd P w K mg base C "aged" ["self", "place"] 2 (spAged C CV)) :
    Fn P w K mg base f ["self", "view", "hold", "missed"] 6 (spFInit C CV) := by
  refine fn_mk S sc_Fit_init bd_Fit_init (fun vs H Q E h => ?_) (fun cdv A outer s0 H vs Q E hr h => ?_)
  · obtain ⟨_, _, _, _, _, _, _, _, _, rfl, _⟩ := h
    rfl
  · obtain ⟨F, R, x, dx, v, m, hold, rs, ms, rfl, O, hvw, hc, mok, k⟩ := h
    obtain ⟨dv, rd, tm, gt, rw_, rv, kvs, wv, h1, h2, h3, h4, h5, h6, h7, h8⟩ := id hvw
    have hu := hu_of hr
    have n0 := hc.lastU_ge
    have n1 := hc.lastU_le (by decide)
    have h8l := h8.length
    have hrl := rows_len hc
    have hml := mok.len
    have knd := known_nd hc mok
    have knl := known_len hc mok
    obtain ⟨rasc, rbd⟩ := rows_ok hc
    refine ⟨_, (pss_cons (ps_fld (pv 0) (pv 1) rfl)
      (pss_cons (ps_fld (pv 0) (pv 2) rfl)
      (pss_cons (ps_fld (pv 0) (pe_dc (own := [("place", 4), ("key", 6), ("value", 7)]) rfl sc_Fit_init.nd (pi_view IV FN_iter (hr.mono (by first | decide | omega)) (pv 1)) (blkOk_by (N := ["self", "view", "hold", "missed", "place", "later", "key", "value"]) (sc := defScope s_Fit_init) (own := [("place", 4), ("key", 6), ("value", 7)]) (by decide +kernel)) (fun _ _ _ _ _ => (pg_tupE (K := K) (n := 2) rfl rfl (pgs_cons (pg_name (i := 4) sc_Fit_init.nd rfl (Or.inl rfl)) (pgs_cons (pg_tupE (K := K) (n := 2) rfl rfl (pgs_cons (pg_name (i := 6) sc_Fit_init.nd rfl (Or.inl rfl)) (pgs_cons (pg_name (i := 7) sc_Fit_init.nd rfl (Or.inl rfl)) pgs_nil))) pgs_nil)))) (fun _ _ _ _ _ => pts_nil) (fun _ _ _ _ _ => (pv 4)) (fun _ _ _ _ _ => (pv 6))) rfl)
      (pss_cons (ps_expr (pe_dupd (pe_fld (pv 0) rfl) (pv 3) ⟨rfl, rfl, rfl, rfl⟩))
      (pss_cons (ps_asg (pe_tup (pa_cons (pe_lst pa_nil) (pa_cons (pe_lst pa_nil) pa_nil))) (pg_tup (n := 2) rfl (pgs_cons (pg_fld (pv 0)) (pgs_cons (pg_fld (pv 0)) pgs_nil))))
      (pss_cons (ps_for PassesOwn.never rfl (pi_view IV FN_iter (hr.mono (by first | decide | omega)) (pv 1)) (pg_tup (n := 2) rfl (pgs_cons (pg_name (i := 4) sc_Fit_init.nd rfl (Or.inl rfl)) (pgs_cons (pg_tup (n := 2) rfl (pgs_cons (pg_name (i := 6) sc_Fit_init.nd rfl (Or.inl rfl)) (pgs_cons (pg_name (i := 7) sc_Fit_init.nd rfl (Or.inl rfl)) pgs_nil))) pgs_nil)))
        (pss_cons (ps_set (i := 5) sc_Fit_init.nd rfl (Or.inl rfl) (pe_mth (pv 0) M_next_of (hr.mono (by first | decide | omega)) (pa_cons (pv 6) (pa_cons (pv 4) pa_nil))))
        (pss_cons (ps_if (pt_cmpR op_notN1 (pv 5) pe_non (nomark _))
          (pss_one (ps_expr (pe_bm PySem.F.plainAttrs_list PySem.F.slot_list_append PySem.F.type_list_append mt_append (pe_fld (pv 0) rfl) (pa_cons (pe_tup (pa_cons (pe_mth (pv 1) M_read_time (hr.mono (by first | decide | omega)) (pa_cons (pv 4) pa_nil)) (pa_cons (pv 5) pa_nil))) pa_nil))))
          pss_nil)
        (pss_one (ps_if (pt_cmpR op_isN1 (pv 7) pe_non (nomark _))
          (pss_one (ps_expr (pe_bm PySem.F.plainAttrs_list PySem.F.slot_list_append PySem.F.type_list_append mt_append (pe_fld (pv 0) rfl) (pa_cons (pe_tup (pa_cons (pe_op op_sub (pe_mth (pv 1) M_read_time (hr.mono (by first | decide | omega)) (pa_cons (pv 4) pa_nil)) (pv 2)) (pa_cons (pv 4) pa_nil))) pa_nil))))
          pss_nil)))))
      (pss_cons (ps_expr (pe_bm PySem.F.plainAttrs_list PySem.F.slot_list_extend PySem.F.type_list_extend mt_extend (pe_fld (pv 0) rfl) (pa_cons (pe_lock (pe_lc (own := [("place", 4)]) rfl sc_Fit_init.nd (pi_keys (pv 3)) (blkOk_by (N := ["self", "view", "hold", "missed", "place", "later", "key", "value"]) (sc := defScope s_Fit_init) (own := [("place", 4)]) (by decide +kernel)) (fun _ _ _ _ _ => (pg_name (i := 4) sc_Fit_init.nd rfl (Or.inl rfl))) (fun _ _ _ _ _ => pts_nil) (fun _ _ _ _ _ => (pe_mth (pv 0) M_aged (hr.mono (by first | decide | omega)) (pa_cons (pv 4) pa_nil))))) pa_nil)))
      (pss_cons (ps_fld (pv 0) (pe_revL (pe_lc (own := [("place", 4)]) rfl sc_Fit_init.nd (pi_list (pe_mth0 (pv 1) M_gaps (hr.mono (by first | decide | omega)))) (blkOk_by (N := ["self", "view", "hold", "missed", "place", "later", "key", "value"]) (sc := defScope s_Fit_init) (own := [("place", 4)]) (by decide +kernel)) (fun _ _ _ _ _ => (pg_name (i := 4) sc_Fit_init.nd rfl (Or.inl rfl))) (fun _ _ _ _ _ => (pts_one (pt_cmp (pc_dnotin hu (pv 4) (pv 3))))) (fun _ _ _ _ _ => (pv 4)))) rfl)
      (pss_cons (ps_fld (pv 0) (pe_callTy cl_dictD (by rfl) T.dict (by decide +kernel) (pa_cons (pe_fld (pv 0) rfl) pa_nil)) rfl)
      (pss_one (ps_fld (pv 0) (pe_callTy cl_dictD (by rfl) T.dict (by decide +kernel) (pa_cons (pv 3) pa_nil)) rfl))))))))))), ?_⟩
    walk_at "r"
    refine rd_sfl (O.get 0) fa.cls fa.view (by decide) pi1 ?_
    have O := O.set 0 (.ins C dx (i1 v))
    walk_at "r"
    refine rd_sfl (O.get 0) fa.cls fa.hold (by show 1 < 1000; decide) pi2 ?_
    have O := O.set 0 (.ins C dx (i2 v hold []))
    walk_at "r"
    refine ⟨v, dv, _, rw_, wv, rfl, O.fz h1, va.cls, va.rows, vf_rows, SqL.of (O.fz h7), ?_⟩
    refine dc_any walk_listF O (fun i _ kvs => kvs = kK ((rowK rs).take i)) rfl (fun D F' acc H s O => SqL.of (O.fz (s _ _ h7))) (fun D j z F' acc H H' hj s pr l O ⟨e1, hz⟩ => ?_) (fun kn F2 acc H s2 pr l O => ?_)
    · subst e1
      obtain ⟨⟨pl, ky, vl⟩, hrow, za, zb, rfl, hza, hzb⟩ := L2.paired_get h8 hz
      have hza := s _ _ hza
      have hzb := s _ _ hzb
      walk_at "r"
      refine dcP (k := .inl pl) (by omega) s l O ?_
      have hk : (rowK rs)[j]? = some (pl, ky) := by unfold rowK; rw [List.getElem?_map, hrow]; rfl
      rw [putK_new _ (valV_out fun hm => ?_), pr, List.take_add_one, hk]
      · unfold kK
        rw [List.map_append]
        rfl
      · rw [pr, kK_keys] at hm
        obtain ⟨y', hy', e⟩ := List.mem_map.mp hm
        obtain ⟨y2, hy2, rfl⟩ := List.mem_map.mp hy'
        have e : y2.1 = pl := Sum.inl.inj e
        obtain ⟨i2, hi2⟩ := List.getElem?_of_mem hy2
        rw [List.getElem?_take] at hi2
        split at hi2
        · rename_i hlt
          have em : (rowK rs).map (·.1) = (rowsOf rs).map (·.1) := by unfold rowK; rw [List.map_map]; rfl
          rw [← em] at rasc
          have a2 := List.pairwise_iff_getElem.mp (List.pairwise_map.mp rasc)
          obtain ⟨lm, em⟩ := List.getElem?_eq_some_iff.mp hi2
          obtain ⟨lj, ej⟩ := List.getElem?_eq_some_iff.mp hk
          have := a2 i2 j lm lj hlt
          rw [em, ej] at this
          have : y2.1 < pl := this
          omega
        · cases hi2
    · have rkl : (rowK rs).length = (rowsOf rs).length := by unfold rowK; rw [List.length_map]
      rw [h8l, ← rkl, List.take_length] at pr
      subst pr
      have hvw := hvw.mono s2
      have h1 := s2 _ _ h1
      have h7 := s2 _ _ h7
      have h8 := L2.Paired.mapP h8 fun _ _ z => RwAt.mono z s2
      walk_at "r"
      refine rd_sfl (O.get 1) fa.cls fa.known (by show 2 < 1000; decide) pi3 ?_
      have O := O.set 1 (.ins C dx (i3 v hold kn []))
      walk_at "r"
      refine ⟨m, _, kK ms, rfl, fun e => Ow.ne O (q := m) (o' := .dK (kK ms)) (by simp) e.symm, O.get 0, Rd.of (O.get 2), szl (by unfold kK; rw [List.length_map, List.length_map, rkl]; omega), ?_⟩
      have em : mergeK (kK (rowK rs)) (kK ms) = kK (knownOf rs ms) := kK_merge knd
      rw [em]
      have O := O.set 0 (.dK (kK (knownOf rs ms)))
      walk_at "r"
      refine ⟨by walk_at "sz", fun lo hp => ?_⟩
      have O := O.new (o := .lst []) hp
      walk_at "r"
      refine ⟨by walk_at "sz", fun hi hp => ?_⟩
      have O := O.new (o := .lst []) hp
      walk_at "r"
      refine ⟨by walk_at "sz", fun tp hp => ?_⟩
      obtain ⟨F3, s3, h3t, O⟩ := O.newF (o := .tup [.ref lo, .ref hi]) hp
      have hvw := hvw.mono s3
      have h1 := s3 _ _ h1
      have h7 := s3 _ _ h7
      have h8 := L2.Paired.mapP h8 fun _ _ z => RwAt.mono z s3
      walk_at "r"
      refine rd_sfl2 (O.get 3) fa.cls fa.lows (by show 3 < 1000; decide) pi4 ?_
      have O := O.set 3 (.ins C dx (i3 v hold kn [("own_lows", .ref lo)]))
      walk_at "r"
      refine rd_sfl2 (O.get 3) fa.cls fa.highs (by show 4 < 1000; decide) pi5 ?_
      have O := O.set 3 (.ins C dx (i5 v hold kn lo hi []))
      have O : Ow F3 ((x, .ins C dx (i5 v hold kn lo hi [])) :: (kn, .dK (kK (knownOf rs ms))) :: (hi, .lst []) :: (lo, .lst []) :: (m, .dK (kK ms)) :: R) _ := (O.top 2).top 3
      walk_at "r"
      refine ⟨v, dv, _, rw_, wv, rfl, O.fz h1, va.cls, va.rows, vf_rows, SqL.of (O.fz h7), ?_⟩
      refine for_it (D := ⟨_, _, _, _⟩) walk_listF (fun i σ' H' => ∃ (F4 : Hp) (hv : List V) (v4 v5 v6 v7 : Option V), σ' = [some (.ref x), some (.ref v), some (.int hold), some (.ref m), v4, v5, v6, v7] ∧ Same F3 F4 ∧ PrsAt F4 hv (((rowsOf rs).take i).filterMap (hiOf rs ms)) ∧ hv.length ≤ i ∧
          Ow F4 ((x, .ins C dx (i5 v hold kn lo hi [])) :: (kn, .dK (kK (knownOf rs ms))) :: (hi, .lst hv) :: (lo, .lst []) :: (m, .dK (kK ms)) :: R) H')
        ⟨F3, [], _, _, _, _, rfl, Same.refl _, .nil, Nat.le_refl _, O⟩ (fun i σ' H' _ ⟨_, _, _, _, _, _, _, s4, _, _, O⟩ => SqL.of (O.fz (s4 _ _ h7))) ?_ ?_
      · rintro i y σ' H1 H' hi' ⟨F4, hv, v4, v5, v6, v7, rfl, s4, hpr, hl, O⟩ ⟨rfl, hy⟩
        obtain ⟨⟨pl, ky, vl⟩, hrow, za, zb, rfl, hza, hzb⟩ := L2.paired_get h8 hy
        have hza := s4 _ _ hza
        have hzb := s4 _ _ hzb
        have hvw := hvw.mono s4
        have h1 := s4 _ _ h1
        obtain ⟨b1, b2, _⟩ := rbd _ (List.mem_of_getElem? hrow)
        have ef : ((rowsOf rs).take (i + 1)).filterMap (hiOf rs ms) = ((rowsOf rs).take i).filterMap (hiOf rs ms) ++ (match hiOf rs ms (pl, ky, vl) with | some q => [q] | none => []) := by
          rw [List.take_add_one, hrow, List.filterMap_append]
          cases h : hiOf rs ms (pl, ky, vl) <;> simp [h]
        walk_at "r"
        refine ⟨F4, _, x, dx, kn, _, knownOf rs ms, ky, pl, rfl, O, i5_known, by omega, knd, fun H O => ?_⟩
        cases hn : nextV (knownOf rs ms) ky pl with
        | none =>
          have eh : hiOf rs ms (pl, ky, vl) = none := by unfold hiOf; rw [hn]; rfl
          rw [eh] at ef
          rw [oV_none]
          walk_at "R"
          refine ⟨F4, hv, _, _, _, _, rfl, s4, ?_, by omega, O⟩
          rw [ef, List.append_nil]
          exact hpr
        | some nx =>
          have eh : hiOf rs ms (pl, ky, vl) = some (timeAt rs pl, nx) := by unfold hiOf; rw [hn]; rfl
          rw [eh] at ef
          rw [oV_some]
          walk_at "R"
          refine ⟨F4, _, v, rs, pl, rfl, O, hvw, hc, b1, b2, ?_⟩
          walk_at "r"
          refine ⟨by walk_at "sz", fun t hp => ?_⟩
          obtain ⟨F5, s5, g5, O⟩ := O.newF (o := .tup [.int (timeAt rs pl), .int nx]) hp
          walk_at "r"
          have O := O.set 2 (.lst (hv ++ [V.ref t]))
          walk_at "R"
          refine ⟨F5, hv ++ [V.ref t], _, _, _, _, rfl, s4.trans s5, ?_, by simp; omega, O⟩
          rw [ef]
          exact (hpr.mono s5).snoc ⟨t, rfl, g5⟩
      · rintro σ' H' ⟨F4, hv, v4, v5, v6, v7, rfl, s4, hpr, hl, O⟩
        rw [h8l, List.take_length] at hpr
        have hvw := hvw.mono s4
        have h1 := s4 _ _ h1
        walk_at "r"
        refine ⟨m, .dK (kK ms), O.get 4, trivial, fun od => ?_⟩
        have O := O.set 4 (.frz od (.dK (kK ms)))
        walk_at "r"
        refine ⟨m, od, rfl, .inl ⟨kK ms, O.get 4, ?_⟩⟩
        refine lc_KI O 4 rfl (fun i F' acc => PrsAt F' acc ((ms.take i).map fun q => agedOf rs hold q.1)) .nil (fun D i q F' acc H hq s pr l O => ?_) (fun D F5 acc H s5 pr l O => ?_)
        · have hi : i < ms.length := (List.getElem?_eq_some_iff.mp hq).1
          obtain ⟨m0, m1, _⟩ := mok.bd q (List.mem_of_getElem? hq)
          walk_at "r"
          refine ⟨F', _, x, dx, v, _, rs, hold, q.1, rfl, O, O.get 1, i5_view, i5_hold, hvw.mono s, hc, m0, m1, fun t1 F6 H' s6 g6 _ _ O => ?_⟩
          refine lcP (by omega) (s.trans s6) l O ?_
          rw [List.take_add_one, hq, List.map_append]
          exact (pr.mono s6).snoc ⟨t1, rfl, g6⟩
        · rw [List.take_length] at pr
          walk_at "r"
          refine ⟨O.get 5, ?_⟩
          have O := O.set 5 (.dK (kK ms))
          have hvw := hvw.mono s5
          have h1 := s5 _ _ h1
          have hpr := hpr.mono s5
          refine ⟨lo, D, [], acc, rfl, rfl, O.get 4, O.get 0, szl (by simp; omega), ?_⟩
          have O := (O.set 4 (.lst acc)).drop
          walk_at "r"
          refine ⟨F5, _, v, rs, rfl, O, hvw, hc, fun gl F6 H s6 hgl O => ?_⟩
          have gll : (gapsOf rs).length ≤ 20 := by
            unfold gapsOf
            refine Nat.le_trans (List.length_filter_le _ _) ?_
            rw [List.length_map, List.length_range]
            omega
          walk_at "r"
          refine lc_L ((gapsOf rs).map V.int) O (fun i _ acc => acc = (((gapsOf rs).take i).filter fun p => !(ms.any fun q => decide (q.1 = p))).map V.int) rfl (fun D F' acc H s O => SqL.of (O.fz (s _ _ hgl))) (fun D i y F' acc H hy s pr l O => ?_) (fun D F7 acc2 H s7 pr2 l O => ?_) (SqL.of (O.fz hgl))
          · rw [List.getElem?_map] at hy
            obtain ⟨g, hg, rfl⟩ := Option.map_eq_some_iff.mp hy
            have hi : i < (gapsOf rs).length := (List.getElem?_eq_some_iff.mp hg).1
            walk_at "r"
            rw [kK_has]
            have ef : ((gapsOf rs).take (i + 1)).filter (fun p => !(ms.any fun q => decide (q.1 = p))) = ((gapsOf rs).take i).filter (fun p => !(ms.any fun q => decide (q.1 = p))) ++ (if (ms.any fun q => decide (q.1 = g)) = true then [] else [g]) := by
              rw [List.take_add_one, hg, List.filter_append]
              congr 1
              by_cases c : (ms.any fun q => decide (q.1 = g)) = true
              · rw [if_pos c]; simp only [Option.toList, List.filter_cons, c]; rfl
              · rw [if_neg c]; simp only [Option.toList, List.filter_cons, Bool.not_eq_true] at c ⊢; rw [c]; rfl
            refine brb (fun hz => ?_) (fun hz => ?_)
            · walk_at "r"
              refine lcP (by omega) s l O ?_
              rw [pr, ef, if_neg (by rw [(Bool.not_eq_true' _).mp hz]; decide), List.map_append]
              rfl
            · refine lcN s l O ?_
              rw [pr, ef, if_pos (by simpa using hz), List.append_nil]
          · rw [List.length_map, List.take_length] at pr2
            walk_at "r"
            refine ⟨D, _, rfl, SqL.of (O.get 0), fun le hp => ?_⟩
            rw [pr2, ← List.map_reverse]
            obtain ⟨F8, s8, h8, O⟩ := O.newF (o := .lst ((leftOf rs ms).map V.int)) hp
            have O := O.drop
            walk_at "r"
            refine rd_sfl (O.get 0) fa.cls fa.left (by show 5 < 1000; decide) pi6 ?_
            have O := O.set 0 (.ins C dx (i5 v hold kn lo hi [("own_left", .ref le)]))
            walk_at "r"
            intro ke hp
            have O := O.new (o := .dK (kK (knownOf rs ms))) hp
            walk_at "r"
            refine rd_sfl (O.get 1) fa.cls fa.keys (by show 6 < 1000; decide) pi7 ?_
            have O := O.set 1 (.ins C dx (i5 v hold kn lo hi [("own_left", .ref le), ("own_keys", .ref ke)]))
            walk_at "r"
            intro ma hp
            have O := O.new (o := .dK (kK ms)) hp
            walk_at "r"
            refine rd_sfl (O.get 2) fa.cls fa.marks (by show 7 < 1000; decide) pi8 ?_
            have O := O.set 2 (.ins C dx (fFs ⟨v, kn, lo, hi, le, ke, ma⟩ hold))
            have O : Ow F8 ((x, .ins C dx (fFs ⟨v, kn, lo, hi, le, ke, ma⟩ hold)) :: (hi, .lst hv) :: (lo, .lst acc) :: (kn, .dK (kK (knownOf rs ms))) :: (ke, .dK (kK (knownOf rs ms))) :: (ma, .dK (kK ms)) :: (m, .dK (kK ms)) :: R) _ := ((((O.top 1).top 3).top 5).top 5).top 5
            have f1 := O.fle
            have O1 := O.freeze
            have f2 := O1.fle
            have O2 := O1.freeze
            have f3 := O2.fle
            have O3 := O2.freeze
            have f23 := f2.trans f3
            have f13 := f1.trans f23
            have s58 := (s6.trans s7).trans s8
            refine k ⟨v, kn, lo, hi, le, ke, ma⟩ acc hv _ _ ((s2.trans s3).trans ((s4.trans s5).trans (s58.trans f13))) rfl (f23 _ _ upd_same) upd_same (pr.mono (s58.trans f13)) (f3 _ _ upd_same) (hpr.mono (s58.trans f13)) (f13 _ _ h8) O3
end
end K7

set_option Elab.async false
set_option linter.all false
set_option maxRecDepth 100000
set_option maxHeartbeats 4000000
set_option pp.deepTerms false
set_option pp.maxSteps 600
namespace K7
open PySem PySem.Spec PyProof.Rows L2 ItX
local macro_rules | `(tactic| walk_at "hp") => `(tactic| with_unfolding_all first
  | exact Ow.get (by assumption) 0 | exact Ow.get (by assumption) 1 | exact Ow.get (by assumption) 2 | exact Ow.get (by assumption) 3
  | exact Ow.fz (by assumption) (by assumption)
  | exact Ow.get (by assumption) 4 | exact Ow.get (by assumption) 5 | exact Ow.get (by assumption) 6 | exact Ow.get (by assumption) 7 | exact Ow.get (by assumption) 8 | exact Ow.get (by assumption) 9)
local macro_rules | `(tactic| walk_at "sq") => `(tactic| with_unfolding_all first
  | exact SqL.of (by walk_at "hp") | exact SqT.of (by walk_at "hp") | assumption)
local macro_rules | `(tactic| walk_at "rd") => `(tactic| with_unfolding_all first
  | exact Rd.of (by walk_at "hp") | assumption | exact Or.inr ⟨_, by walk_at "hp"⟩)
local macro_rules | `(tactic| walk_at "dk") => `(tactic| assumption)
local macro_rules | `(tactic| walk_at "cl") => `(tactic| assumption)
local macro_rules | `(tactic| walk_at "na") => `(tactic| assumption)
local macro_rules | `(tactic| walk_at "lk") => `(tactic| assumption)
local macro_rules | `(tactic| walk_at "ln") => `(tactic| assumption)
local macro_rules | `(tactic| walk_at "ai") => `(tactic| first | with_unfolding_all rfl | exact atI_zero | assumption)
local macro_rules | `(tactic| walk_at "sd") => `(tactic| with_unfolding_all first
  | rfl | assumption | decide | omega
  | exact ⟨by omega, by omega⟩ | exact Or.inl ⟨by omega, by omega⟩ | exact Or.inr ⟨by omega, by omega⟩ | exact ⟨by decide, by decide, by omega⟩)
local macro_rules | `(tactic| walk_at "sz") => `(tactic| first
  | with_unfolding_all exact szl (Nat.le_of_ble_eq_true rfl)
  | with_unfolding_all exact sztl (Nat.le_of_ble_eq_true rfl)
  | exact szl (by simp <;> omega)
  | exact sztl (by simp <;> omega))
local macro_rules | `(tactic| walk_at "s") => `(tactic| first
  | with_reducible refine rd_I0 ?_
  | ((with_reducible apply rd_I); (focus walk_at "sd"))
  | ((with_reducible apply rd_opVC); (focus with_unfolding_all rfl))
  | ((with_reducible apply rd_opVV); (focus with_unfolding_all rfl); (focus with_unfolding_all rfl))
  | ((with_reducible apply rd_opV); (focus with_unfolding_all rfl))
  | with_reducible refine rd_opC ?_
  | with_reducible refine rd_op ?_
  | ((with_reducible apply rd_var); (focus with_unfolding_all rfl))
  | with_reducible refine rd_c ?_
  | with_reducible refine rd_sSet ?_
  | ((with_reducible apply rd_CB1V); (focus with_unfolding_all rfl)) | with_reducible refine rd_CB1 ?_ | with_reducible refine rd_CB ?_
  | ((with_reducible apply rd_consV); (focus with_unfolding_all rfl)) | with_reducible refine rd_consC ?_ | with_reducible refine rd_cons0 ?_ | with_reducible refine rd_cons ?_ | with_reducible refine rd_nil ?_
  | ((with_reducible apply rd_ixL); (focus walk_at "sq"); (focus walk_at "ai"))
  | ((with_reducible apply rd_ixT); (focus walk_at "sq"); (focus walk_at "ai"))
  | with_reducible refine rd_int ?_ | with_reducible refine rd_intB ?_ | with_reducible refine rd_abs ?_
  | ((with_reducible apply rd_len); (focus walk_at "sq")) | ((with_reducible apply rd_lenT); (focus walk_at "sq"))
  | with_reducible refine rd_ifS ?_ | with_reducible refine iteT ?_ | with_reducible refine iteF ?_
  | with_reducible refine rd_tTest ?_ | with_reducible refine rd_tB ?_ | with_reducible refine rd_ex ?_
  | with_reducible refine rd_seqD ?_ | with_reducible refine rd_sSet1 ?_ | with_reducible refine rd_ret ?_ | with_reducible refine rd_drop ?_ | with_reducible refine rd_asg ?_
  | ((with_reducible apply rd_eq); (focus with_unfolding_all rfl)) | ((with_reducible apply rd_ne); (focus with_unfolding_all rfl))
  | with_reducible refine rd_isNr ?_ | with_reducible refine rd_notNr ?_ | with_reducible refine rd_isNn ?_ | with_reducible refine rd_notNn ?_ | with_reducible refine rd_isNi ?_ | with_reducible refine rd_notNi ?_
  | with_reducible refine rd_isN ?_ | with_reducible refine rd_notN ?_
  | with_reducible refine rd_and ?_ | with_reducible refine rd_or ?_ | with_reducible refine rd_not ?_ | with_reducible refine rd_if ?_
  | with_reducible refine rd_seq ?_ | with_reducible refine rd_gName ?_ | with_reducible refine rd_next ?_ | with_reducible refine rd_retN ?_
  | with_reducible refine rd_gSub ?_ | with_reducible refine rd_gCons ?_ | with_reducible refine rd_gNil ?_ | ((with_reducible apply rd_gTup); (focus walk_at "sq"); (focus with_unfolding_all rfl))
  | ((with_reducible apply rd_setL); (focus walk_at "hp"); (focus with_unfolding_all rfl))
  | with_reducible refine rd_par ?_ | with_reducible refine rd_par3 ?_ | with_reducible refine rd_ex2 ?_ | with_reducible refine rd_ex3 ?_
  | with_reducible refine rd_dget ?_ | with_reducible refine rd_din ?_ | with_reducible refine rd_dnotin ?_
  | ((with_reducible apply rd_dgS); (focus walk_at "rd"); (focus walk_at "dk"))
  | ((with_reducible apply rd_dgI); (focus walk_at "rd"); (focus walk_at "dk"))
  | ((with_reducible apply rd_doS); (focus walk_at "rd")) | ((with_reducible apply rd_doI); (focus walk_at "rd"))
  | with_reducible refine rd_dput ?_
  | ((with_reducible apply rd_dpS); (focus walk_at "hp"); (focus walk_at "sz")) | ((with_reducible apply rd_dpI); (focus walk_at "hp"); (focus walk_at "sz"))
  | with_reducible refine rd_bm ?_
  | ((with_reducible apply rd_tyL); (focus walk_at "hp")) | ((with_reducible apply rd_append); (focus walk_at "hp"); (focus walk_at "sz"))
  | with_reducible refine rd_tup ?_ | with_reducible refine rd_lst ?_ | with_reducible refine rd_dnew ?_
  | with_reducible refine rd_for ?_ | with_reducible refine rd_iR1 ?_ | with_reducible refine rd_iR2 ?_ | with_reducible refine rd_iL ?_ | with_reducible refine rd_iT ?_
  | with_reducible refine rd_disp ?_ | with_reducible refine rd_pair ?_ | with_reducible refine rd_pair0 ?_
  | with_reducible refine rd_andV ?_ | with_reducible refine rd_orV ?_
  | ((with_reducible apply rd_tupL); (focus walk_at "sq")) | ((with_reducible apply rd_listT); (focus walk_at "sq"))
  | with_reducible refine rd_lc ?_ | ((with_reducible apply rd_wp); (focus with_unfolding_all rfl)) | with_reducible refine rd_yes ?_
  | with_reducible refine rd_sl ?_ | with_reducible refine rd_noPart ?_ | with_reducible refine rd_part ?_ | with_reducible refine rd_exI ?_
  | ((with_reducible apply rd_isd); (focus walk_at "rd")) | ((with_reducible apply rd_dg1S); (focus walk_at "rd")) | ((with_reducible apply rd_dg1I); (focus walk_at "rd"))
  | with_reducible refine rd_dget1 ?_ | with_reducible refine rd_dget2 ?_ | with_reducible refine rd_dpop2 ?_ | with_reducible refine rd_dpop1 ?_ | with_reducible refine rd_dsetd ?_
  | ((with_reducible apply rd_slL); (focus walk_at "sq"))
  | with_reducible refine rd_iE ?_ | with_reducible refine rd_iS ?_
  | ((with_reducible apply rd_dictD); (focus walk_at "rd"))
  | with_reducible refine rd_setD ?_
  | with_reducible refine rd_meth ?_ | ((with_reducible apply rd_me); (focus walk_at "hp"); (focus walk_at "ln"))
  | with_reducible refine rd_fld ?_ | ((with_reducible apply rd_fl); (focus walk_at "hp"); (focus walk_at "cl"); (focus walk_at "na"); (focus walk_at "lk"))
  | with_reducible refine rd_sfld ?_ | with_reducible refine rd_gfld ?_
  | with_reducible refine rd_dupd ?_ | with_reducible refine rd_lvals ?_ | with_reducible refine rd_sitems ?_ | with_reducible refine rd_revL ?_ | with_reducible refine rd_iView ?_ | with_reducible refine rd_iKeys ?_ | with_reducible refine rd_dc ?_
  | with_reducible refine rd_iET ?_
  | with_reducible refine rd_call ?_)
local macro_rules | `(tactic| walk_at "r") => `(tactic| repeat (walk_at "s"))

local macro_rules | `(tactic| walk_at "lt") => `(tactic| first | with_reducible refine ifT (by decide +kernel) ?_ | with_reducible refine ifF (by decide +kernel) ?_)
local macro_rules | `(tactic| walk_at "R") => `(tactic| repeat (first | walk_at "s" | walk_at "lt"))
local macro_rules | `(tactic| walk_at "cl") => `(tactic| first | assumption | exact FA.cls (by assumption) | exact VA.cls (by assumption))
local macro_rules | `(tactic| walk_at "na") => `(tactic| first | assumption | exact FA.view (by assumption) | exact FA.hold (by assumption) | exact FA.known (by assumption) | exact FA.lows (by assumption) | exact FA.highs (by assumption) | exact FA.left (by assumption) | exact FA.keys (by assumption) | exact FA.marks (by assumption) | exact VA.reads (by assumption) | exact VA.times (by assumption) | exact VA.got (by assumption) | exact VA.rows (by assumption))
local macro_rules | `(tactic| walk_at "lk") => `(tactic| first | assumption | exact ff_view | exact ff_hold | exact ff_known | exact ff_lows | exact ff_highs | exact ff_left | exact ff_keys | exact ff_marks | exact vf_reads | exact vf_times | exact vf_got | exact vf_rows)
local macro_rules | `(tactic| walk_at "ln") => `(tactic| first | assumption | exact ff_no (by decide +kernel) | exact vf_no (by decide +kernel))
structure FlC (C CV : Addr) (F : Hp) (x dx : Addr) (a : Fa) (hold : Int) (rs : List Rdg) (known : KP) (left : List Int) : Prop where
  hx : F x = some (.ins C dx (fFs a hold))
  hvw : VwAt CV F a.v rs
  hc : Chn 0 (-1) rs
  hne : rs ≠ []
  hle : F a.le = some (.lst (left.map V.int))
  hky : ∀ q ∈ known, KeyOk q.2
  hkl : known.length ≤ 50
theorem FlC.mono {C CV : Addr} {F G : Hp} {x dx : Addr} {a : Fa} {hold : Int} {rs : List Rdg} {known : KP} {left : List Int} (h : FlC C CV F x dx a hold rs known left) (s : Same F G) : FlC C CV G x dx a hold rs known left :=
  ⟨s _ _ h.hx, h.hvw.mono s, h.hc, h.hne, s _ _ h.hle, h.hky, h.hkl⟩
structure FlV (rs : List Rdg) (keys : KP) (mk : List (Key × V)) (d : List Int) (lows highs : List (Int × Int)) (n : Nat) : Prop where
  n : d.length ≤ n
  lo : lows.length + d.length ≤ 100
  hi : highs.length + d.length ≤ 100
  ke : keys.length + d.length ≤ 90
  ma : mk.length + d.length ≤ 100
  nd : (keys.map (·.1)).Nodup
  dn : d.Nodup
  bd : ∀ p ∈ d, 0 ≤ p ∧ p < lastU 0 rs ∧ p ∉ keys.map (·.1) ∧ (.inl p : Key) ∉ mk.map (·.1)
theorem kK_app (l m : KP) : kK (l ++ m) = kK l ++ kK m := by unfold kK; rw [List.map_append]
theorem kK_out {keys : KP} {p : Int} (h : p ∉ keys.map (·.1)) : (.inl p : Key) ∉ (kK keys).map (·.1) := by
  rw [kK_keys]
  intro hm
  obtain ⟨y, hy, e⟩ := List.mem_map.mp hm
  exact h (by rw [← Sum.inl.inj e]; exact hy)
theorem kK_put {keys : KP} {p : Int} {k : Str} (h : p ∉ keys.map (·.1)) : putK (kK keys) (.inl p) (.str k) = kK (keys ++ [(p, k)]) := by
  rw [putK_new _ (valV_out (kK_out h)), kK_app]
  rfl
theorem dropK_app {l : List (Key × V)} {k : Key} {v : V} (h : k ∉ l.map (·.1)) : dropK (l ++ [(k, v)]) k = l := by
  unfold dropK
  rw [List.filter_append]
  have e1 : l.filter (fun q => decide (q.1 ≠ k)) = l := List.filter_eq_self.mpr fun q hq => decide_eq_true fun e => h (List.mem_map.mpr ⟨q, hq, e⟩)
  rw [e1]
  simp
theorem FlV.step {rs : List Rdg} {keys : KP} {mk mk2 : List (Key × V)} {p : Int} {d : List Int} {lows highs : List (Int × Int)} {n : Nat} (h : FlV rs keys mk (p :: d) lows highs n) {z : V} (e : mk2 = mk ∨ mk2 = putK mk (.inl p) z) (k : Str) (l : Int × Int) (o : Option (Int × Int)) :
    FlV rs (keys ++ [(p, k)]) mk2 d (lows ++ [l]) (highs ++ o.toList) (n - 1) := by
  obtain ⟨h1, h2, h3, h4, h4b, h5, h6, h7⟩ := h
  rw [List.length_cons] at h1 h2 h3 h4 h4b
  obtain ⟨d1, d2⟩ := List.nodup_cons.mp h6
  obtain ⟨p0, p1, p2, p3⟩ := h7 p (List.mem_cons_self ..)
  have el : mk2.length ≤ mk.length + 1 := by
    rcases e with rfl | rfl
    · omega
    · have := length_putK mk (.inl p) z; omega
  refine ⟨by omega, by rw [List.length_append]; simp; omega, ?_, by rw [List.length_append]; simp; omega, by omega, ?_, d2, fun q hq => ?_⟩
  · rw [List.length_append]
    have : o.toList.length ≤ 1 := by cases o <;> simp
    omega
  · rw [List.map_append]
    refine List.nodup_append.mpr ⟨h5, List.nodup_cons.mpr ⟨fun h => (nomatch h), List.Pairwise.nil⟩, fun a ha b hb e3 => ?_⟩
    have : b = p := by simpa using hb
    exact p2 (this ▸ e3 ▸ ha)
  · obtain ⟨q0, q1, q2, q3⟩ := h7 q (List.mem_cons_of_mem _ hq)
    have hqp : q ≠ p := fun e => d1 (e ▸ hq)
    refine ⟨q0, q1, ?_, ?_⟩
    · rw [List.map_append]
      intro hm
      rcases List.mem_append.mp hm with hm | hm
      · exact q2 hm
      · exact hqp (by simpa using hm)
    · rcases e with rfl | rfl
      · exact q3
      · rw [putK_new _ (valV_out p3), List.map_append]
        intro hm
        rcases List.mem_append.mp hm with hm | hm
        · exact q3 hm
        · have : (Sum.inl q : Key) = .inl p := by simpa using hm
          exact hqp (Sum.inl.inj this)
def ksOf (known : KP) : List Str := known.map (·.2)
def spFill (C CV : Addr) : Nat → Sp
  | 0 => fun _ _ _ _ => False
  | n + 1 => fun vs H Q _ => ∃ (F : Hp) (R : List Cell) (x dx : Addr) (a : Fa) (hold : Int) (rs : List Rdg) (known keys : KP) (mk : List (Key × V)) (t : Int) (m : Nat) (la ha : Addr) (lv hv : List V) (lows highs : List (Int × Int)) (left : List Int),
    vs = [.ref x, .int t, .ref la, .ref ha] ∧ t = (m : Int) ∧ m ≤ left.length ∧ Ow F ((a.kn, .dK (kK known)) :: (a.ke, .dK (kK keys)) :: (a.ma, .dK mk) :: R) H ∧ FlC C CV F x dx a hold rs known left ∧ FlV rs keys mk (left.drop m) lows highs n ∧
    F la = some (.lst lv) ∧ PrsAt F lv lows ∧ F ha = some (.lst hv) ∧ PrsAt F hv highs ∧
    (FillP rs hold (ksOf known) (left.drop m) lows highs keys → ∀ (r : Addr) (F' : Hp) (k' m' : List (Key × V)) (H' : Hp), Same F F' → Ow F' ((a.kn, .dK (kK known)) :: (a.ke, .dK k') :: (a.ma, .dK m') :: R) H' → Q (.ref r) H') ∧
    (¬FillP rs hold (ksOf known) (left.drop m) lows highs keys → ∀ (F' : Hp) (H' : Hp), Same F F' → Ow F' ((a.kn, .dK (kK known)) :: (a.ke, .dK (kK keys)) :: (a.ma, .dK mk) :: R) H' → Q .non H')
section
variable {P : Program} {w : World} {K : PySem.W.Frag} {mg : Str → Option Value} {base : Heap} {C CV fi : Addr}
abbrev s_Fit_fill : Stmt := inClass (top 9) 6
theorem sc_Fit_fill : FnScope ["self", "at", "lows", "highs", "place", "key", "low", "high", "is_mark", "found"] ["self", "at", "lows", "highs"] (defScope s_Fit_fill) := ⟨rfl, rfl, rfl, by decide +kernel, rfl, by decide +kernel, by decide +kernel⟩
theorem bd_Fit_fill : Bd "fill" "Fit.fill" s_Fit_fill ["self", "at", "lows", "highs"] := fun _ _ _ _ _ _ us hl => match us, hl with | [_, _, _, _], _ => rfl
/-! slots: 0 self, 1 at, 2 lows, 3 highs, 4 place, 5 key, 6 low, 7 high, 8 is_mark, 9 found -/
theorem ok_Fit_fill_step {f : Addr} {n : Nat} (S : Src K "fill" "Fit.fill" s_Fit_fill f) (T : Blt mg) (fa : FA K C) (va : VA K CV) (M_can_be : Mtd P w K mg base C "can_be" ["self", "lows", "highs"] 2 (spCan C CV)) (M_choices : Mtd P w K mg base C "choices" ["self", "place"] 5 (spChoices C CV))
    (M_fill : Mtd P w K mg base C "fill" ["self", "at", "lows", "highs"] (5 + n) (spFill C CV n)) : Fn P w K mg base f ["self", "at", "lows", "highs"] (5 + n + 1) (spFill C CV (n + 1)) := by
  refine fn_mk S sc_Fit_fill bd_Fit_fill (fun vs H Q E h => ?_) (fun cdv A outer s0 H vs Q E hr h => ?_)
  · obtain ⟨_, _, _, _, _, _, _, _, _, _, _, _, _, _, _, _, _, _, _, rfl, _⟩ := h
    rfl
  · obtain ⟨F, R, x, dx, a, hold, rs, known, keys, mk, t, m, la, ha, lv, hv, lows, highs, left, rfl, rfl, hm, O, fc, fv, hla, hlv, hha, hhv, kT, kF⟩ := h
    obtain ⟨hx, hvw, hc, hne, hle, hky, hkl⟩ := id fc
    have hu := hu_of hr
    have lvl := hlv.length
    have hvl := hhv.length
    have b1 := fv.lo
    have b2 := fv.hi
    have b3 := fv.ke
    have b4 := fv.ma
    have bn := fv.n
    have kl : (kK keys).length = keys.length := by unfold kK; rw [List.length_map]
    refine ⟨_, (pss_cons (ps_if (pt_not (pt_val (pe_mth (pv 0) M_can_be (hr.mono (by first | decide | omega)) (pa_cons (pv 2) (pa_cons (pv 3) pa_nil)))))
        (pss_one (ps_ret pe_non))
        pss_nil)
      (pss_cons (ps_if (pt_cmpR op_eq (pv 1) (pe_callB cl_len (by rfl) T.len (by decide +kernel) (pa_cons (pe_fld (pv 0) rfl) pa_nil)) (nomark _))
        (pss_one (ps_ret (pv 3)))
        pss_nil)
      (pss_cons (ps_set (i := 4) sc_Fit_fill.nd rfl (Or.inl rfl) (pe_ix ix_list (pe_fld (pv 0) rfl) (pv 1) (fun _ _ => rfl)))
      (pss_cons (ps_for PassesOwn.never rfl (pi_list (pe_mth (pv 0) M_choices (hr.mono (by first | decide | omega)) (pa_cons (pv 4) pa_nil))) (pg_tup (n := 4) rfl (pgs_cons (pg_name (i := 5) sc_Fit_fill.nd rfl (Or.inl rfl)) (pgs_cons (pg_name (i := 6) sc_Fit_fill.nd rfl (Or.inl rfl)) (pgs_cons (pg_name (i := 7) sc_Fit_fill.nd rfl (Or.inl rfl)) (pgs_cons (pg_name (i := 8) sc_Fit_fill.nd rfl (Or.inl rfl)) pgs_nil)))))
        (pss_cons (ps_dput hu (pe_fld (pv 0) rfl) (pv 4) (pv 5) rfl)
        (pss_cons (ps_if (pt_val (pv 8))
          (pss_one (ps_dput hu (pe_fld (pv 0) rfl) (pv 4) (pv 5) rfl))
          pss_nil)
        (pss_cons (ps_set (i := 9) sc_Fit_fill.nd rfl (Or.inl rfl) (pe_mth (pv 0) M_fill (hr.mono (by first | decide | omega)) (pa_cons (pe_op op_add (pv 1) pe_int) (pa_cons (pe_op op_cat (pv 2) (pe_lst (pa_cons (pv 6) pa_nil))) (pa_cons (pe_op op_cat (pv 3) (pe_ifExp (pt_cmpR op_notN1 (pv 7) pe_non (nomark _)) (pe_lst (pa_cons (pv 7) pa_nil)) (pe_lst pa_nil))) pa_nil)))))
        (pss_cons (ps_if (pt_cmpR op_notN1 (pv 9) pe_non (nomark _))
          (pss_one (ps_ret (pv 9)))
          pss_nil)
        (pss_cons (ps_expr (pe_dpop1 (pe_fld (pv 0) rfl) (pv 4) ⟨rfl, rfl, rfl, rfl⟩))
        (pss_one (ps_expr (pe_dpop2 (pe_fld (pv 0) rfl) (pv 4) pe_non ⟨rfl, rfl, rfl, rfl⟩)))))))))
      (pss_one (ps_ret pe_non)))))), ?_⟩
    walk_at "r"
    refine ⟨F, _, x, dx, la, ha, a, hold, rs, lv, hv, lows, highs, rfl, O, hx, hvw, hc, hne, hla, hlv, hha, hhv, by omega, by omega, fun H O => ?_⟩
    walk_at "r"
    cases hcan : canB rs lows highs with
    | false =>
      walk_at "R"
      refine kF (fun hf => ?_) F _ (Same.refl _) O
      have := hf.can
      rw [hcan] at this
      cases this
    | true =>
      walk_at "R"
      rcases Nat.lt_or_ge m left.length with hlt | hge
      · have hdr : left.drop m = left[m] :: left.drop (m + 1) := List.drop_eq_getElem_cons hlt
        obtain ⟨p, hp0⟩ : ∃ p, left[m] = p := ⟨_, rfl⟩
        rw [hp0] at hdr
        have ex : atI (left.map V.int) (m : Int) = some (.int p) := by
          refine atI_nat ?_
          rw [List.getElem?_map, List.getElem?_eq_getElem hlt, hp0]
          rfl
        rw [hdr] at fv kT kF b1 b2 b3 b4 bn
        rw [List.length_cons] at b1 b2 b3 b4 bn
        obtain ⟨p0, p1, p2, p3⟩ := fv.bd p (List.mem_cons_self ..)
        refine br (fun hz => absurd (V.int.inj hz) (by rw [List.length_map]; omega)) (fun _ => ?_)
        walk_at "r"
        refine ⟨F, _, x, dx, a, hold, rs, known, keys, p, rfl, O, hx, hvw, hc, p0, p1, hky, hkl, by omega, fv.nd, fun l cv ys F1 H s1 hl hch hys hyl O => ?_⟩
        have hcl := hch.length
        walk_at "r"
        refine lp_L cv (fun i σ' H' => ∃ (F2 : Hp) (v5 v6 v7 v8 v9 : Option V), σ' = [some (.ref x), some (.int (m : Int)), some (.ref la), some (.ref ha), some (.int p), v5, v6, v7, v8, v9] ∧ Same F1 F2 ∧
            (∀ c ∈ (chList rs hold ys keys p).take i, ¬FillP rs hold (ksOf known) (left.drop (m + 1)) (lows ++ [c.low]) (highs ++ c.high.toList) (keys ++ [(p, c.key)])) ∧ Ow F2 ((a.kn, .dK (kK known)) :: (a.ke, .dK (kK keys)) :: (a.ma, .dK mk) :: R) H')
          ⟨F1, _, _, _, _, _, rfl, Same.refl _, fun _ h => (by simp at h), O⟩ (fun i σ' H' _ ⟨_, _, _, _, _, _, _, s2, _, O⟩ => SqL.of (O.fz (s2 _ _ hl))) ?_ ?_
        · rintro i y σ' H' hy ⟨F2, v5, v6, v7, v8, v9, rfl, s2, hno, O⟩
          obtain ⟨c, hci, t, l1, h1, rfl, ht, hl1, hh1⟩ := L2.paired_get hch hy
          have s12 := s1.trans s2
          have fc := fc.mono s12
          obtain ⟨hx, hvw, hc, hne, hle, hky, hkl⟩ := id fc
          have ht := s2 _ _ ht
          have hl1 := s2 _ _ hl1
          have hla := s12 _ _ hla
          have hha := s12 _ _ hha
          have hlv := hlv.mono s12
          have hhv := hhv.mono s12
          have hput := kK_put (k := c.key) p2
          have fin : ∀ (mk2 : List (Key × V)) (F5 : Hp) (H' : Hp) (q2 q4 : Addr), (mk2 = mk ∨ mk2 = putK mk (.inl p) (.str c.key)) → Same F2 F5 → F5 q2 = some (.lst (lv ++ [V.ref l1])) → (∃ h2, F5 q4 = some (.lst (hv ++ h2)) ∧ PrsAt F5 (hv ++ h2) (highs ++ c.high.toList)) →
              Ow F5 ((a.kn, .dK (kK known)) :: (a.ke, .dK (kK (keys ++ [(p, c.key)]))) :: (a.ma, .dK mk2) :: R) H' →
              ∀ Q' : VK, (∀ (r : Addr) (H' : Hp), Q (.ref r) H' → Q' (.ref r) H') → (∀ (F6 : Hp) (H' : Hp), Same F5 F6 → (¬FillP rs hold (ksOf known) (left.drop (m + 1)) (lows ++ [c.low]) (highs ++ c.high.toList) (keys ++ [(p, c.key)])) → Ow F6 ((a.kn, .dK (kK known)) :: (a.ke, .dK (kK (keys ++ [(p, c.key)]))) :: (a.ma, .dK mk2) :: R) H' → Q' .non H') →
              spFill C CV n [.ref x, .int ((m : Int) + 1), .ref q2, .ref q4] H' Q' E0 := by
            intro mk2 F5 H' q2 q4 e s5 hq2 ⟨h2, hq4, hp4⟩ O Q' k1 k2
            obtain ⟨n', rfl⟩ : ∃ n', n = n' + 1 := ⟨n - 1, by omega⟩
            have fv2 := fv.step e c.key c.low c.high
            rw [Nat.add_sub_cancel] at fv2
            refine ⟨F5, R, x, dx, a, hold, rs, known, keys ++ [(p, c.key)], mk2, _, m + 1, q2, q4, lv ++ [V.ref l1], hv ++ h2, lows ++ [c.low], highs ++ c.high.toList, left, rfl, by omega, by omega, O, fc.mono s5, fv2, hq2, (hlv.mono s5).snoc ⟨l1, rfl, s5 _ _ hl1⟩, hq4, hp4, fun hf r F6 k6 m6 H6 s6 O => k1 _ _ ?_, fun hf F6 H6 s6 O => k2 F6 H6 s6 hf O⟩
            refine kT ⟨hcan, c, (chList_mem hys c).mp (List.mem_of_getElem? hci), hf⟩ r F6 k6 m6 H6 (s12.trans (s5.trans s6)) O
          have hval : valV (kK (keys ++ [(p, c.key)])) (.inl p) = some (.str c.key) := kK_val (l := keys ++ [(p, c.key)]) (i := keys.length) (q := (p, c.key)) (fv.step (.inl rfl) (z := .non) c.key c.low c.high).nd (by simp)
          have hdrop : dropK (kK (keys ++ [(p, c.key)])) (.inl p) = kK keys := by rw [kK_app]; exact dropK_app (kK_out p2)
          have hd1 : ∀ mk2, (mk2 = mk ∨ mk2 = putK mk (.inl p) (.str c.key)) → ∀ z, valV mk2 (.inl p) = some z → dropK mk2 (.inl p) = mk := by
            rintro mk2 (rfl | rfl) z hz
            · rw [valV_out p3] at hz
              cases hz
            · rw [putK_new _ (valV_out p3)]
              exact dropK_app p3
          have hd2 : ∀ mk2, (mk2 = mk ∨ mk2 = putK mk (.inl p) (.str c.key)) → valV mk2 (.inl p) = none → mk2 = mk := by
            rintro mk2 (rfl | rfl) hz
            · rfl
            · rw [valV_put, if_pos rfl] at hz
              cases hz
          have hno2 : (¬FillP rs hold (ksOf known) (left.drop (m + 1)) (lows ++ [c.low]) (highs ++ c.high.toList) (keys ++ [(p, c.key)])) → ∀ c ∈ (chList rs hold ys keys p).take (i + 1), ¬FillP rs hold (ksOf known) (left.drop (m + 1)) (lows ++ [c.low]) (highs ++ c.high.toList) (keys ++ [(p, c.key)]) := by
            intro hf c2 hc2
            rw [List.take_add_one, hci] at hc2
            rcases List.mem_append.mp hc2 with hc2 | hc2
            · exact hno c2 hc2
            · have : c2 = c := by simpa using hc2
              rw [this]
              exact hf
          walk_at "r"
          have O := O.set 1 (.dK (putK (kK keys) (.inl p) (.str c.key)))
          rw [hput] at O ⊢
          refine brb (fun hmk => ?_) (fun hmk => ?_)
          · walk_at "r"
            have O := O.set 2 (.dK (putK mk (.inl p) (.str c.key)))
            obtain ⟨mk2, hmk2, O⟩ : ∃ mk2, (mk2 = mk ∨ mk2 = putK mk (.inl p) (.str c.key)) ∧ Ow F2 ((a.kn, .dK (kK known)) :: (a.ke, .dK (kK (keys ++ [(p, c.key)]))) :: (a.ma, .dK mk2) :: R) _ := ⟨_, .inr rfl, O⟩
            walk_at "r"
            refine ⟨by walk_at "sz", fun z1 hp => ?_⟩
            obtain ⟨F3, s3, g3, O⟩ := O.newF (o := .lst [.ref l1]) hp
            refine rd_cat (O.fz (s3 _ _ hla)) (O.fz g3) (szl (by simp; omega)) fun q2 hp => ?_
            obtain ⟨F4, s4, g4, O⟩ := O.newF (o := .lst (lv ++ [V.ref l1])) hp
            have s34 := s3.trans s4
            have hha := s34 _ _ hha
            walk_at "r"
            cases hh : c.high with
            | none =>
              rw [hh] at hh1
              have hh1 : h1 = .non := hh1
              subst hh1
              refine ifF (by simp) ?_
              walk_at "r"
              refine ⟨by walk_at "sz", fun z2 hp => ?_⟩
              obtain ⟨F5, s5, g5, O⟩ := O.newF (o := .lst []) hp
              refine rd_cat (O.fz (s5 _ _ hha)) (O.fz g5) (szl (by simp; omega)) fun q4 hp => ?_
              obtain ⟨F6, s6, g6, O⟩ := O.newF (o := .lst (hv ++ [])) hp
              have s26 := s34.trans (s5.trans s6)
              have hx := s26 _ _ hx
              walk_at "r"
              refine fin mk2 F6 _ q2 q4 hmk2 s26 (s6 _ _ (s5 _ _ g4)) ⟨[], g6, by rw [hh]; show PrsAt F6 (hv ++ []) (highs ++ []); rw [List.append_nil, List.append_nil]; exact hhv.mono s26⟩ O _ (fun r H' q => ?_) (fun F8 H' s8 hf O => ?_)
              · walk_at "R"
                exact q
              · have hx := s8 _ _ hx
                walk_at "R"
                refine ⟨_, .inl p, .str c.key, O.get 1, rfl, hval, ?_⟩
                have O := O.set 1 (.dK (dropK (kK (keys ++ [(p, c.key)])) (.inl p)))
                rw [hdrop] at O ⊢
                walk_at "r"
                refine ⟨mk2, .inl p, O.get 2, rfl, fun z hz => ?_, fun hz => ?_⟩
                · have O := O.set 2 (.dK (dropK mk2 (.inl p)))
                  rw [hd1 mk2 hmk2 z hz] at O ⊢
                  walk_at "r"
                  exact ⟨F8, _, _, _, _, _, rfl, s2.trans (s26.trans s8), hno2 hf, O⟩
                · have em := hd2 mk2 hmk2 hz
                  rw [em] at O
                  walk_at "r"
                  exact ⟨F8, _, _, _, _, _, rfl, s2.trans (s26.trans s8), hno2 hf, O⟩
            | some hq =>
              rw [hh] at hh1
              obtain ⟨u, rfl, hu2⟩ := hh1
              have hu2 := s2 _ _ hu2
              refine ifT (by simp) ?_
              walk_at "r"
              refine ⟨by walk_at "sz", fun z2 hp => ?_⟩
              obtain ⟨F5, s5, g5, O⟩ := O.newF (o := .lst [.ref u]) hp
              refine rd_cat (O.fz (s5 _ _ hha)) (O.fz g5) (szl (by simp; omega)) fun q4 hp => ?_
              obtain ⟨F6, s6, g6, O⟩ := O.newF (o := .lst (hv ++ [V.ref u])) hp
              have s26 := s34.trans (s5.trans s6)
              have hx := s26 _ _ hx
              walk_at "r"
              refine fin mk2 F6 _ q2 q4 hmk2 s26 (s6 _ _ (s5 _ _ g4)) ⟨[V.ref u], g6, by rw [hh]; exact (hhv.mono s26).snoc ⟨u, rfl, s26 _ _ hu2⟩⟩ O _ (fun r H' q => ?_) (fun F8 H' s8 hf O => ?_)
              · walk_at "R"
                exact q
              · have hx := s8 _ _ hx
                walk_at "R"
                refine ⟨_, .inl p, .str c.key, O.get 1, rfl, hval, ?_⟩
                have O := O.set 1 (.dK (dropK (kK (keys ++ [(p, c.key)])) (.inl p)))
                rw [hdrop] at O ⊢
                walk_at "r"
                refine ⟨mk2, .inl p, O.get 2, rfl, fun z hz => ?_, fun hz => ?_⟩
                · have O := O.set 2 (.dK (dropK mk2 (.inl p)))
                  rw [hd1 mk2 hmk2 z hz] at O ⊢
                  walk_at "r"
                  exact ⟨F8, _, _, _, _, _, rfl, s2.trans (s26.trans s8), hno2 hf, O⟩
                · have em := hd2 mk2 hmk2 hz
                  rw [em] at O
                  walk_at "r"
                  exact ⟨F8, _, _, _, _, _, rfl, s2.trans (s26.trans s8), hno2 hf, O⟩
          · obtain ⟨mk2, hmk2, O⟩ : ∃ mk2, (mk2 = mk ∨ mk2 = putK mk (.inl p) (.str c.key)) ∧ Ow F2 ((a.kn, .dK (kK known)) :: (a.ke, .dK (kK (keys ++ [(p, c.key)]))) :: (a.ma, .dK mk2) :: R) _ := ⟨_, .inl rfl, O⟩
            walk_at "r"
            refine ⟨by walk_at "sz", fun z1 hp => ?_⟩
            obtain ⟨F3, s3, g3, O⟩ := O.newF (o := .lst [.ref l1]) hp
            refine rd_cat (O.fz (s3 _ _ hla)) (O.fz g3) (szl (by simp; omega)) fun q2 hp => ?_
            obtain ⟨F4, s4, g4, O⟩ := O.newF (o := .lst (lv ++ [V.ref l1])) hp
            have s34 := s3.trans s4
            have hha := s34 _ _ hha
            walk_at "r"
            cases hh : c.high with
            | none =>
              rw [hh] at hh1
              have hh1 : h1 = .non := hh1
              subst hh1
              refine ifF (by simp) ?_
              walk_at "r"
              refine ⟨by walk_at "sz", fun z2 hp => ?_⟩
              obtain ⟨F5, s5, g5, O⟩ := O.newF (o := .lst []) hp
              refine rd_cat (O.fz (s5 _ _ hha)) (O.fz g5) (szl (by simp; omega)) fun q4 hp => ?_
              obtain ⟨F6, s6, g6, O⟩ := O.newF (o := .lst (hv ++ [])) hp
              have s26 := s34.trans (s5.trans s6)
              have hx := s26 _ _ hx
              walk_at "r"
              refine fin mk2 F6 _ q2 q4 hmk2 s26 (s6 _ _ (s5 _ _ g4)) ⟨[], g6, by rw [hh]; show PrsAt F6 (hv ++ []) (highs ++ []); rw [List.append_nil, List.append_nil]; exact hhv.mono s26⟩ O _ (fun r H' q => ?_) (fun F8 H' s8 hf O => ?_)
              · walk_at "R"
                exact q
              · have hx := s8 _ _ hx
                walk_at "R"
                refine ⟨_, .inl p, .str c.key, O.get 1, rfl, hval, ?_⟩
                have O := O.set 1 (.dK (dropK (kK (keys ++ [(p, c.key)])) (.inl p)))
                rw [hdrop] at O ⊢
                walk_at "r"
                refine ⟨mk2, .inl p, O.get 2, rfl, fun z hz => ?_, fun hz => ?_⟩
                · have O := O.set 2 (.dK (dropK mk2 (.inl p)))
                  rw [hd1 mk2 hmk2 z hz] at O ⊢
                  walk_at "r"
                  exact ⟨F8, _, _, _, _, _, rfl, s2.trans (s26.trans s8), hno2 hf, O⟩
                · have em := hd2 mk2 hmk2 hz
                  rw [em] at O
                  walk_at "r"
                  exact ⟨F8, _, _, _, _, _, rfl, s2.trans (s26.trans s8), hno2 hf, O⟩
            | some hq =>
              rw [hh] at hh1
              obtain ⟨u, rfl, hu2⟩ := hh1
              have hu2 := s2 _ _ hu2
              refine ifT (by simp) ?_
              walk_at "r"
              refine ⟨by walk_at "sz", fun z2 hp => ?_⟩
              obtain ⟨F5, s5, g5, O⟩ := O.newF (o := .lst [.ref u]) hp
              refine rd_cat (O.fz (s5 _ _ hha)) (O.fz g5) (szl (by simp; omega)) fun q4 hp => ?_
              obtain ⟨F6, s6, g6, O⟩ := O.newF (o := .lst (hv ++ [V.ref u])) hp
              have s26 := s34.trans (s5.trans s6)
              have hx := s26 _ _ hx
              walk_at "r"
              refine fin mk2 F6 _ q2 q4 hmk2 s26 (s6 _ _ (s5 _ _ g4)) ⟨[V.ref u], g6, by rw [hh]; exact (hhv.mono s26).snoc ⟨u, rfl, s26 _ _ hu2⟩⟩ O _ (fun r H' q => ?_) (fun F8 H' s8 hf O => ?_)
              · walk_at "R"
                exact q
              · have hx := s8 _ _ hx
                walk_at "R"
                refine ⟨_, .inl p, .str c.key, O.get 1, rfl, hval, ?_⟩
                have O := O.set 1 (.dK (dropK (kK (keys ++ [(p, c.key)])) (.inl p)))
                rw [hdrop] at O ⊢
                walk_at "r"
                refine ⟨mk2, .inl p, O.get 2, rfl, fun z hz => ?_, fun hz => ?_⟩
                · have O := O.set 2 (.dK (dropK mk2 (.inl p)))
                  rw [hd1 mk2 hmk2 z hz] at O ⊢
                  walk_at "r"
                  exact ⟨F8, _, _, _, _, _, rfl, s2.trans (s26.trans s8), hno2 hf, O⟩
                · have em := hd2 mk2 hmk2 hz
                  rw [em] at O
                  walk_at "r"
                  exact ⟨F8, _, _, _, _, _, rfl, s2.trans (s26.trans s8), hno2 hf, O⟩
        · rintro σ' H' ⟨F2, v5, v6, v7, v8, v9, rfl, s2, hno, O⟩
          rw [hcl, List.take_length] at hno
          walk_at "r"
          refine kF (fun ⟨_, c, hmem, hf⟩ => hno c ((chList_mem hys c).mpr hmem) hf) F2 _ (s1.trans s2) O
      · have hdr : left.drop m = [] := List.drop_eq_nil_of_le hge
        rw [hdr] at kT
        refine br (fun _ => ?_) (fun hz => absurd (congrArg V.int (by rw [List.length_map]; omega)) hz)
        walk_at "r"
        exact kT hcan ha F _ _ _ (Same.refl _) O
end
end K7

set_option Elab.async false
set_option linter.all false
set_option maxRecDepth 100000
set_option maxHeartbeats 4000000
namespace K7
open PySem PySem.Spec PyProof.Rows L2
/-! ### readings: a class made, sorted(d), dict(pairs), min of two -/
theorem rd_make {C : Addr} {sp : Sp} {t : TA} {σ : L2.St} {H : Hp} {Q : VK} (q : t σ H fun vs H1 => ∀ x dx, H1 x = none → H1 dx = none → dx ≠ x → sp (.ref x :: (vs ++ [])) (upd (upd H1 dx (.own x)) x (.ins C dx [])) (fun v H2 => v = .non ∧ Q (.ref x) H2) E0) : tMake C sp [] E0 t σ H Q := q
theorem Ow.made {F H : Hp} {L : List Cell} {x dx C : Addr} (O : Ow F L H) (hx : H x = none) (hd : H dx = none) (hne : dx ≠ x) : ∃ F', Same F F' ∧ Ow F' ((x, .ins C dx []) :: L) (upd (upd H dx (.own x)) x (.ins C dx [])) := by
  obtain ⟨F', s, _, O'⟩ := O.newF (o := .own x) hd
  exact ⟨F', s, O'.new (by rw [upd_ne hne.symm]; exact hx)⟩
def qSortedD : List V → Hp → VK → Prop := fun xs H Q => ∃ (a : Addr) (kvs : List (Key × V)) (ks : List Str), xs = [.ref a] ∧ Rd H a (.dK kvs) ∧ kvs.map (·.1) = ks.map Sum.inr ∧ ks.length < 64 ∧
  ∀ ys p, ys.Perm ks → sortedS ys = true → H p = none → Q (.ref p) (upd H p (.lst (ys.map V.str)))
theorem cl_sortedD {X : Cx} (hc : X.calm = true) : CallR X (.builtin "sorted") qSortedD := call_sortedD hc
def qDictP (K : PySem.W.Frag) : List V → Hp → VK → Prop := fun xs H Q => ∃ (a : Addr) (ps : List Addr) (kvs : List (Key × V)), xs = [.ref a] ∧ SqL K H a (ps.map V.ref) ∧ Paired (fun p kv => SqT K H p [kV kv.1, kv.2]) ps kvs ∧
  ∀ p, H p = none → Q (.ref p) (upd H p (.dK (mergeK [] kvs)))
theorem cl_dictP {X : Cx} (hc : X.calm = true) : CallR X (.type "dict") (qDictP X.K) := call_dictP hc
def qMin2 : List V → Hp → VK → Prop := fun xs H Q => ∃ i j, xs = [.int i, .int j] ∧ Q (.int (if j < i then j else i)) H
theorem cl_min2 {X : Cx} (hc : X.calm = true) : CallR X (.builtin "min") qMin2 := call_min2 hc
theorem rd_min2 {i j : Int} {H : Hp} {Q : VK} (q : Q (.int (if j < i then j else i)) H) : qMin2 [.int i, .int j] H Q := ⟨i, j, rfl, q⟩
/-! ### merged pairs -/
theorem merge_some : ∀ (kvs acc : List (Key × V)) {k : Key} {v : V}, valV (mergeK acc kvs) k = some v → (k, v) ∈ kvs ∨ valV acc k = some v
  | [], acc, k, v, h => .inr h
  | q :: r, acc, k, v, h => by
    have h : valV (mergeK (putK acc q.1 q.2) r) k = some v := h
    rcases merge_some r _ h with h | h
    · exact .inl (List.mem_cons_of_mem _ h)
    · rw [valV_put] at h
      by_cases e : k = q.1
      · rw [if_pos e] at h
        cases h
        subst e
        exact .inl (List.mem_cons_self ..)
      · rw [if_neg e] at h
        exact .inr h
theorem merge_has : ∀ (kvs acc : List (Key × V)) {k : Key}, (k ∈ kvs.map (·.1) ∨ (valV acc k).isSome) → (valV (mergeK acc kvs) k).isSome
  | [], acc, k, h => by
    rcases h with h | h
    · cases h
    · exact h
  | q :: r, acc, k, h => by
    show (valV (mergeK (putK acc q.1 q.2) r) k).isSome
    refine merge_has r _ ?_
    rcases h with h | h
    · rcases List.mem_cons.mp h with rfl | h
      · right
        rw [valV_put, if_pos rfl]
        rfl
      · exact .inl h
    · right
      rw [valV_put]
      by_cases e : k = q.1
      · rw [if_pos e]; rfl
      · rw [if_neg e]; exact h
/-! ### what is held -/
theorem held_ok : ∀ (l : List Row) (h : List (Str × Int)), (∀ x ∈ l, KeyOk x.2.1) → (∀ q ∈ h, KeyOk q.1) → ∀ q ∈ l.foldl heldStep h, KeyOk q.1
  | [], h, _, h2 => h2
  | x :: l, h, h1, h2 => by
    refine held_ok l (heldStep h x) (fun y hy => h1 y (List.mem_cons_of_mem _ hy)) fun q hq => ?_
    rcases List.mem_append.mp hq with hq | hq
    · exact h2 q (List.mem_filter.mp hq).1
    · have : q = (x.2.1, x.1) := by simpa using hq
      rw [this]
      exact h1 x (List.mem_cons_self ..)
theorem heldOk {rs : List Rdg} (hc : Chn 0 (-1) rs) : ∀ q ∈ heldOf rs, KeyOk q.1 := held_ok _ _ (fun x hx => ((rows_ok hc).2 x hx).2.2) fun _ h => (nomatch h)
theorem heldLen {rs : List Rdg} (hc : Chn 0 (-1) rs) : (heldOf rs).length ≤ 20 := by
  have h1 := held_len (rowsOf rs) []
  have h2 := rows_len hc
  have h1 : (heldOf rs).length ≤ 0 + (rowsOf rs).length := h1
  omega
theorem hK_keys (h : List (Str × Int)) : (hK h).map (·.1) = (h.map (·.1)).map Sum.inr := by unfold hK; rw [List.map_map, List.map_map]; rfl
theorem hK_val {h : List (Str × Int)} {k : Str} {z : V} (e : valV (hK h) (.inr k) = some z) : ∃ n : Int, z = .int n ∧ (k, n) ∈ h := by
  have h1 := merge_some (hK h) [] (k := .inr k) (v := z)
  have : ∀ (l : List (Str × Int)), valV (hK l) (.inr k) = some z → ∃ n : Int, z = .int n ∧ (k, n) ∈ l := by
    intro l e
    unfold valV at e
    obtain ⟨q, hq, rfl⟩ := Option.map_eq_some_iff.mp e
    have hm := List.mem_of_find?_eq_some hq
    have hk := List.find?_some hq
    obtain ⟨y, hy, rfl⟩ := List.mem_map.mp hm
    have hk : (Sum.inr y.1 : Key) = .inr k := by simpa using hk
    cases hk
    exact ⟨y.2, rfl, hy⟩
  exact this h e
/-- a missed place of a key -/
def MissP (rs : List Rdg) (hold : Int) (key : Str) (g : Int) : Prop := ∃ h : Int, valV (hK (heldOf rs)) (.inr key) = some (.int h) ∧ h < g ∧ g ∈ gapsOf rs ∧ FitsP rs hold [(g, key)]
theorem miss_mono {rs : List Rdg} (hc : Chn 0 (-1) rs) {hold : Int} {key : Str} {g : Int} (h : MissP rs (hold + 1) key g) : MissP rs hold key g := by
  obtain ⟨n, a, b, c, d⟩ := h
  exact ⟨n, a, b, c, fits_mono hc d⟩
theorem ms_nil (rs : List Rdg) : MsOk rs [] := ⟨by simp, fun _ h => (nomatch h)⟩
theorem ms_one {rs : List Rdg} {g : Int} {key : Str} (h : g ∈ gapsOf rs) (hk : KeyOk key) : MsOk rs [(g, key)] := by
  refine ⟨by simp, fun q hq => ?_⟩
  have : q = (g, key) := by simpa using hq
  rw [this]
  obtain ⟨a, b, c⟩ := gap_iff.mp h
  exact ⟨a, b, c, hk⟩
theorem gaps_len {rs : List Rdg} (hc : Chn 0 (-1) rs) : (gapsOf rs).length ≤ 20 := by
  have n0 := hc.lastU_ge
  have n1 := hc.lastU_le (by decide)
  unfold gapsOf
  refine Nat.le_trans (List.length_filter_le _ _) ?_
  rw [List.length_map, List.length_range]
  omega
theorem gaps_nd {rs : List Rdg} : (gapsOf rs).Nodup := by
  unfold gapsOf
  refine List.Nodup.sublist List.filter_sublist ?_
  exact List.pairwise_map.mpr (List.Pairwise.imp (fun hab e => hab (by omega)) List.nodup_range)
/-! ### the promises -/
def spFits (CV : Addr) : Sp := fun vs H Q _ => ∃ (F : Hp) (R : List Cell) (v m : Addr) (hold : Int) (rs : List Rdg) (ms : KP), vs = [.ref v, .int hold, .ref m] ∧ Ow F ((m, .dK (kK ms)) :: R) H ∧ VwAt CV F v rs ∧ Chn 0 (-1) rs ∧ MsOk rs ms ∧
  ∀ (b : Bool) (H' : Hp), (b = true ↔ FitsP rs hold ms) → Ow F ((m, .dK (kK ms)) :: R) H' → Q (.bl b) H'
def spCanBe : Sp := fun vs H Q _ => ∃ (F : Hp) (R : List Cell) (v : V) (hold : Int) (rs : List Rdg), vs = [.int hold, v] ∧ Ow F R H ∧ ViewAt F v rs ∧ Chn 0 (-1) rs ∧ NoN rs ∧
  ∀ (b : Bool) (H' : Hp), (b = true ↔ FitsP rs hold []) → Ow F R H' → Q (.bl b) H'
def spLook (CV : Addr) : Sp := fun vs H Q _ => ∃ (F : Hp) (R : List Cell) (v : V) (hold : Int) (rs : List Rdg), vs = [.int hold, v] ∧ Ow F R H ∧ ViewAt F v rs ∧ Chn 0 (-1) rs ∧ NoN rs ∧ FitsP rs hold [] ∧
  ∀ (x : Addr) (F' H' : Hp), Same F F' → VwAt CV F' x rs → Ow F' R H' → Q (.ref x) H'
def MissAt (F : Hp) (rs : List Rdg) (hold : Int) (key : Str) (v : V) : Prop := ∃ (l : Addr) (gs : List Int), v = .ref l ∧ F l = some (.lst (gs.map V.int)) ∧ gs.length ≤ 20 ∧ ∀ g, g ∈ gs ↔ MissP rs hold key g
theorem MissAt.mono {F G : Hp} {rs : List Rdg} {hold : Int} {key : Str} {v : V} (h : MissAt F rs hold key v) (s : Same F G) : MissAt G rs hold key v := let ⟨l, gs, a, b, c, d⟩ := h; ⟨l, gs, a, s _ _ b, c, d⟩
def spMissedAt (CV : Addr) : Sp := fun vs H Q _ => ∃ (F : Hp) (R : List Cell) (v : Addr) (hold : Int) (key : Str) (rs : List Rdg), vs = [.ref v, .int hold, .str key] ∧ Ow F R H ∧ VwAt CV F v rs ∧ Chn 0 (-1) rs ∧ KeyOk key ∧
  ∀ (x : V) (F' H' : Hp), Same F F' → MissAt F' rs hold key x → Ow F' R H' → Q x H'
def spMissedPlaces : Sp := fun vs H Q _ => ∃ (F : Hp) (R : List Cell) (v : V) (hold : Int) (key : Str) (rs : List Rdg), vs = [.int hold, v, .str key] ∧ Ow F R H ∧ ViewAt F v rs ∧ Chn 0 (-1) rs ∧ NoN rs ∧ FitsP rs hold [] ∧ KeyOk key ∧
  ∀ (x : V) (F' H' : Hp), Same F F' → MissAt F' rs hold key x → Ow F' R H' → Q x H'
def spDoubtful : Sp := fun vs H Q _ => ∃ (F : Hp) (R : List Cell) (v : V) (hold : Int) (rs : List Rdg), vs = [.int hold, v] ∧ Ow F R H ∧ ViewAt F v rs ∧ Chn 0 (-1) rs ∧ NoN rs ∧ FitsP rs hold [] ∧
  ∀ (l : Addr) (ys : List Str) (F' H' : Hp), Same F F' → F' l = some (.lst (ys.map V.str)) → (∀ k, k ∈ ys ↔ ∃ g, MissP rs hold k g) → (∀ k ∈ ys, KeyOk k) → ys.length ≤ 20 → Ow F' R H' → Q (.ref l) H'
end K7

set_option Elab.async false
set_option linter.all false
set_option maxRecDepth 100000
set_option maxHeartbeats 4000000
set_option pp.deepTerms false
set_option pp.maxSteps 600
namespace K7
open PySem PySem.Spec PyProof.Rows L2 ItX
local macro_rules | `(tactic| walk_at "hp") => `(tactic| with_unfolding_all first
  | exact Ow.get (by assumption) 0 | exact Ow.get (by assumption) 1 | exact Ow.get (by assumption) 2 | exact Ow.get (by assumption) 3
  | exact Ow.fz (by assumption) (by assumption)
  | exact Ow.get (by assumption) 4 | exact Ow.get (by assumption) 5 | exact Ow.get (by assumption) 6 | exact Ow.get (by assumption) 7 | exact Ow.get (by assumption) 8 | exact Ow.get (by assumption) 9)
local macro_rules | `(tactic| walk_at "sq") => `(tactic| with_unfolding_all first
  | exact SqL.of (by walk_at "hp") | exact SqT.of (by walk_at "hp") | assumption)
local macro_rules | `(tactic| walk_at "rd") => `(tactic| with_unfolding_all first
  | exact Rd.of (by walk_at "hp") | assumption | exact Or.inr ⟨_, by walk_at "hp"⟩)
local macro_rules | `(tactic| walk_at "dk") => `(tactic| assumption)
local macro_rules | `(tactic| walk_at "cl") => `(tactic| assumption)
local macro_rules | `(tactic| walk_at "na") => `(tactic| assumption)
local macro_rules | `(tactic| walk_at "lk") => `(tactic| assumption)
local macro_rules | `(tactic| walk_at "ln") => `(tactic| assumption)
local macro_rules | `(tactic| walk_at "ai") => `(tactic| first | with_unfolding_all rfl | exact atI_zero | assumption)
local macro_rules | `(tactic| walk_at "sd") => `(tactic| with_unfolding_all first
  | rfl | assumption | decide | omega
  | exact ⟨by omega, by omega⟩ | exact Or.inl ⟨by omega, by omega⟩ | exact Or.inr ⟨by omega, by omega⟩ | exact ⟨by decide, by decide, by omega⟩)
local macro_rules | `(tactic| walk_at "sz") => `(tactic| first
  | with_unfolding_all exact szl (Nat.le_of_ble_eq_true rfl)
  | with_unfolding_all exact sztl (Nat.le_of_ble_eq_true rfl)
  | exact szl (by simp <;> omega)
  | exact sztl (by simp <;> omega))
local macro_rules | `(tactic| walk_at "s") => `(tactic| first
  | with_reducible refine rd_I0 ?_
  | ((with_reducible apply rd_I); (focus walk_at "sd"))
  | ((with_reducible apply rd_opVC); (focus with_unfolding_all rfl))
  | ((with_reducible apply rd_opVV); (focus with_unfolding_all rfl); (focus with_unfolding_all rfl))
  | ((with_reducible apply rd_opV); (focus with_unfolding_all rfl))
  | with_reducible refine rd_opC ?_
  | with_reducible refine rd_op ?_
  | ((with_reducible apply rd_var); (focus with_unfolding_all rfl))
  | with_reducible refine rd_c ?_
  | with_reducible refine rd_sSet ?_
  | ((with_reducible apply rd_CB1V); (focus with_unfolding_all rfl)) | with_reducible refine rd_CB1 ?_ | with_reducible refine rd_CB ?_
  | ((with_reducible apply rd_consV); (focus with_unfolding_all rfl)) | with_reducible refine rd_consC ?_ | with_reducible refine rd_cons0 ?_ | with_reducible refine rd_cons ?_ | with_reducible refine rd_nil ?_
  | ((with_reducible apply rd_ixL); (focus walk_at "sq"); (focus walk_at "ai"))
  | ((with_reducible apply rd_ixT); (focus walk_at "sq"); (focus walk_at "ai"))
  | with_reducible refine rd_int ?_ | with_reducible refine rd_intB ?_ | with_reducible refine rd_abs ?_
  | ((with_reducible apply rd_len); (focus walk_at "sq")) | ((with_reducible apply rd_lenT); (focus walk_at "sq"))
  | with_reducible refine rd_ifS ?_ | with_reducible refine iteT ?_ | with_reducible refine iteF ?_
  | with_reducible refine rd_tTest ?_ | with_reducible refine rd_tB ?_ | with_reducible refine rd_ex ?_
  | with_reducible refine rd_seqD ?_ | with_reducible refine rd_sSet1 ?_ | with_reducible refine rd_ret ?_ | with_reducible refine rd_drop ?_ | with_reducible refine rd_asg ?_
  | ((with_reducible apply rd_eq); (focus with_unfolding_all rfl)) | ((with_reducible apply rd_ne); (focus with_unfolding_all rfl))
  | with_reducible refine rd_isNr ?_ | with_reducible refine rd_notNr ?_ | with_reducible refine rd_isNn ?_ | with_reducible refine rd_notNn ?_ | with_reducible refine rd_isNi ?_ | with_reducible refine rd_notNi ?_
  | with_reducible refine rd_isN ?_ | with_reducible refine rd_notN ?_
  | with_reducible refine rd_and ?_ | with_reducible refine rd_or ?_ | with_reducible refine rd_not ?_ | with_reducible refine rd_if ?_
  | with_reducible refine rd_seq ?_ | with_reducible refine rd_gName ?_ | with_reducible refine rd_next ?_ | with_reducible refine rd_retN ?_
  | with_reducible refine rd_gSub ?_ | with_reducible refine rd_gCons ?_ | with_reducible refine rd_gNil ?_ | ((with_reducible apply rd_gTup); (focus walk_at "sq"); (focus with_unfolding_all rfl))
  | ((with_reducible apply rd_setL); (focus walk_at "hp"); (focus with_unfolding_all rfl))
  | with_reducible refine rd_par ?_ | with_reducible refine rd_par3 ?_ | with_reducible refine rd_ex2 ?_ | with_reducible refine rd_ex3 ?_
  | with_reducible refine rd_dget ?_ | with_reducible refine rd_din ?_ | with_reducible refine rd_dnotin ?_
  | ((with_reducible apply rd_dgS); (focus walk_at "rd"); (focus walk_at "dk"))
  | ((with_reducible apply rd_dgI); (focus walk_at "rd"); (focus walk_at "dk"))
  | ((with_reducible apply rd_doS); (focus walk_at "rd")) | ((with_reducible apply rd_doI); (focus walk_at "rd"))
  | with_reducible refine rd_dput ?_
  | ((with_reducible apply rd_dpS); (focus walk_at "hp"); (focus walk_at "sz")) | ((with_reducible apply rd_dpI); (focus walk_at "hp"); (focus walk_at "sz"))
  | with_reducible refine rd_bm ?_
  | ((with_reducible apply rd_tyL); (focus walk_at "hp")) | ((with_reducible apply rd_append); (focus walk_at "hp"); (focus walk_at "sz"))
  | with_reducible refine rd_tup ?_ | with_reducible refine rd_lst ?_ | with_reducible refine rd_dnew ?_
  | with_reducible refine rd_for ?_ | with_reducible refine rd_iR1 ?_ | with_reducible refine rd_iR2 ?_ | with_reducible refine rd_iL ?_ | with_reducible refine rd_iT ?_
  | with_reducible refine rd_disp ?_ | with_reducible refine rd_pair ?_ | with_reducible refine rd_pair0 ?_
  | with_reducible refine rd_andV ?_ | with_reducible refine rd_orV ?_
  | ((with_reducible apply rd_tupL); (focus walk_at "sq")) | ((with_reducible apply rd_listT); (focus walk_at "sq"))
  | with_reducible refine rd_lc ?_ | ((with_reducible apply rd_wp); (focus with_unfolding_all rfl)) | with_reducible refine rd_yes ?_
  | with_reducible refine rd_sl ?_ | with_reducible refine rd_noPart ?_ | with_reducible refine rd_part ?_ | with_reducible refine rd_exI ?_
  | ((with_reducible apply rd_isd); (focus walk_at "rd")) | ((with_reducible apply rd_dg1S); (focus walk_at "rd")) | ((with_reducible apply rd_dg1I); (focus walk_at "rd"))
  | with_reducible refine rd_dget1 ?_ | with_reducible refine rd_dget2 ?_ | with_reducible refine rd_dpop2 ?_ | with_reducible refine rd_dpop1 ?_ | with_reducible refine rd_dsetd ?_
  | ((with_reducible apply rd_slL); (focus walk_at "sq"))
  | with_reducible refine rd_iE ?_ | with_reducible refine rd_iS ?_
  | ((with_reducible apply rd_dictD); (focus walk_at "rd"))
  | with_reducible refine rd_setD ?_
  | with_reducible refine rd_meth ?_ | ((with_reducible apply rd_me); (focus walk_at "hp"); (focus walk_at "ln"))
  | with_reducible refine rd_fld ?_ | ((with_reducible apply rd_fl); (focus walk_at "hp"); (focus walk_at "cl"); (focus walk_at "na"); (focus walk_at "lk"))
  | with_reducible refine rd_sfld ?_ | with_reducible refine rd_gfld ?_
  | with_reducible refine rd_dupd ?_ | with_reducible refine rd_lvals ?_ | with_reducible refine rd_sitems ?_ | with_reducible refine rd_revL ?_ | with_reducible refine rd_iView ?_ | with_reducible refine rd_iKeys ?_ | with_reducible refine rd_dc ?_
  | with_reducible refine rd_iET ?_
  | with_reducible refine rd_call ?_)
local macro_rules | `(tactic| walk_at "r") => `(tactic| repeat (walk_at "s"))

local macro_rules | `(tactic| walk_at "lt") => `(tactic| first | with_reducible refine ifT (by decide +kernel) ?_ | with_reducible refine ifF (by decide +kernel) ?_)
local macro_rules | `(tactic| walk_at "R") => `(tactic| repeat (first | walk_at "s" | walk_at "lt"))
local macro_rules | `(tactic| walk_at "cl") => `(tactic| first | assumption | exact FA.cls (by assumption) | exact VA.cls (by assumption))
local macro_rules | `(tactic| walk_at "na") => `(tactic| first | assumption | exact FA.view (by assumption) | exact FA.hold (by assumption) | exact FA.known (by assumption) | exact FA.lows (by assumption) | exact FA.highs (by assumption) | exact FA.left (by assumption) | exact FA.keys (by assumption) | exact FA.marks (by assumption) | exact VA.reads (by assumption) | exact VA.times (by assumption) | exact VA.got (by assumption) | exact VA.rows (by assumption))
local macro_rules | `(tactic| walk_at "lk") => `(tactic| first | assumption | exact ff_view | exact ff_hold | exact ff_known | exact ff_lows | exact ff_highs | exact ff_left | exact ff_keys | exact ff_marks | exact vf_reads | exact vf_times | exact vf_got | exact vf_rows)
local macro_rules | `(tactic| walk_at "ln") => `(tactic| first | assumption | exact ff_no (by decide +kernel) | exact vf_no (by decide +kernel))
def spBounds (C CV : Addr) : Sp := fun vs H Q _ => ∃ (F : Hp) (R : List Cell) (x dx : Addr) (a : Fa) (hold : Int) (rs : List Rdg) (known keys : KP) (mk : List (Key × V)) (lv hv : List V) (lows highs : List (Int × Int)) (left : List Int),
    vs = [.ref x] ∧ Ow F ((a.kn, .dK (kK known)) :: (a.ke, .dK (kK keys)) :: (a.ma, .dK mk) :: R) H ∧ FlC C CV F x dx a hold rs known left ∧ FlV rs keys mk left lows highs 20 ∧
    F a.lo = some (.lst lv) ∧ PrsAt F lv lows ∧ F a.hi = some (.lst hv) ∧ PrsAt F hv highs ∧
    (FillP rs hold (ksOf known) left lows highs keys → ∀ (r : Addr) (F' : Hp) (k' m' : List (Key × V)) (H' : Hp), Same F F' → Ow F' ((a.kn, .dK (kK known)) :: (a.ke, .dK k') :: (a.ma, .dK m') :: R) H' → Q (.ref r) H') ∧
    (¬FillP rs hold (ksOf known) left lows highs keys → ∀ (F' : Hp) (H' : Hp), Same F F' → Ow F' ((a.kn, .dK (kK known)) :: (a.ke, .dK (kK keys)) :: (a.ma, .dK mk) :: R) H' → Q .non H')
section
variable {P : Program} {w : World} {K : PySem.W.Frag} {mg : Str → Option Value} {base : Heap} {C CV fi : Addr}
theorem ok_Fit_fill {f : Addr} (S : Src K "fill" "Fit.fill" s_Fit_fill f) (hm : Meth K C "fill" f) (T : Blt mg) (fa : FA K C) (va : VA K CV) (M_can_be : Mtd P w K mg base C "can_be" ["self", "lows", "highs"] 2 (spCan C CV)) (M_choices : Mtd P w K mg base C "choices" ["self", "place"] 5 (spChoices C CV)) :
    ∀ n, Mtd P w K mg base C "fill" ["self", "at", "lows", "highs"] (5 + n) (spFill C CV n)
  | 0 => ⟨fa.cls, f, hm, (fn_never S bd_Fit_fill).mono (by decide)⟩
  | n + 1 => ⟨fa.cls, f, hm, ok_Fit_fill_step S T fa va M_can_be M_choices (ok_Fit_fill S hm T fa va M_can_be M_choices n)⟩
abbrev s_Fit_bounds : Stmt := inClass (top 9) 7
theorem sc_Fit_bounds : FnScope ["self"] ["self"] (defScope s_Fit_bounds) := ⟨rfl, rfl, rfl, by decide +kernel, rfl, by decide +kernel, by decide +kernel⟩
theorem bd_Fit_bounds : Bd "bounds" "Fit.bounds" s_Fit_bounds ["self"] := fun _ _ _ _ _ _ us hl => match us, hl with | [_], _ => rfl
/-! slots: 0 self -/
theorem ok_Fit_bounds {f : Addr} (S : Src K "bounds" "Fit.bounds" s_Fit_bounds f) (T : Blt mg) (fa : FA K C) (va : VA K CV) (M_fill : Mtd P w K mg base C "fill" ["self", "at", "lows", "highs"] 26 (spFill C CV 21)) : Fn P w K mg base f ["self"] 27 (spBounds C CV) := by
  refine fn_mk S sc_Fit_bounds bd_Fit_bounds (fun vs H Q E h => ?_) (fun cdv A outer s0 H vs Q E hr h => ?_)
  · obtain ⟨_, _, _, _, _, _, _, _, _, _, _, _, _, _, _, rfl, _⟩ := h
    rfl
  · obtain ⟨F, R, x, dx, a, hold, rs, known, keys, mk, lv, hv, lows, highs, left, rfl, O, fc, fv, h1, h2, h3, h4, kT, kF⟩ := h
    obtain ⟨hx, hvw, hc, hne, hle, hky, hkl⟩ := id fc
    have hu := hu_of hr
    refine ⟨_, (pss_one (ps_ret (pe_mth (pv 0) M_fill (hr.mono (by first | decide | omega)) (pa_cons pe_int (pa_cons (pe_fld (pv 0) rfl) (pa_cons (pe_fld (pv 0) rfl) pa_nil)))))), ?_⟩
    walk_at "r"
    exact ⟨F, R, x, dx, a, hold, rs, known, keys, mk, 0, 0, a.lo, a.hi, lv, hv, lows, highs, left, rfl, rfl, Nat.zero_le _, O, fc, fv, h1, h2, h3, h4, kT, kF⟩
abbrev s_fits : Stmt := top 10
theorem sc_fits : FnScope ["view", "hold", "missed", "times", "time", "upto", "got"] ["view", "hold", "missed"] (defScope s_fits) := ⟨rfl, rfl, rfl, by decide +kernel, rfl, by decide +kernel, by decide +kernel⟩
theorem bd_fits : Bd "fits" "fits" s_fits ["view", "hold", "missed"] := fun _ _ _ _ _ _ us hl => match us, hl with | [_, _, _], _ => rfl
/-! slots: 0 view, 1 hold, 2 missed, 3 times, 4 time, 5 upto, 6 got -/
theorem ok_fits {f : Addr} (S : Src K "fits" "fits" s_fits f) (T : Blt mg) (fa : FA K C) (va : VA K CV) (M_many_at : Mtd P w K mg base CV "many_at" ["self", "time"] 1 (spVMany CV)) (M_bounds : Mtd P w K mg base C "bounds" ["self"] 27 (spBounds C CV))
    (G_Fit : Mak P w K mg base "Fit" C ["self", "view", "hold", "missed"] 6 (spFInit C CV)) : Fn P w K mg base f ["view", "hold", "missed"] 28 (spFits CV) := by
  refine fn_mk S sc_fits bd_fits (fun vs H Q E h => ?_) (fun cdv A outer s0 H vs Q E hr h => ?_)
  · obtain ⟨_, _, _, _, _, _, _, rfl, _⟩ := h
    rfl
  · obtain ⟨F, R, v, m, hold, rs, ms, rfl, O, hvw, hc, mok, k⟩ := h
    obtain ⟨dv, rd, tm, gt, rw_, rv, kvs, wv, h1, h2, h3, h4, h5, h6, h7, h8⟩ := id hvw
    have hu := hu_of hr
    have hrl := h3.length
    have hcl := hc.len (by decide)
    refine ⟨_, (pss_cons ((ps_setLc (i := 3) (own := [("time", 4), ("upto", 5), ("got", 6)]) rfl sc_fits.nd rfl rfl (sw_true rfl rfl rfl (by decide +kernel)) (pi_list (pe_fld (pv 0) rfl)) (blkOk_by (N := ["view", "hold", "missed", "times", "time", "upto", "got"]) (sc := defScope s_fits) (own := [("time", 4), ("upto", 5), ("got", 6)]) (by decide +kernel)) (fun _ _ _ _ _ => (pg_tupE (K := K) (n := 3) rfl rfl (pgs_cons (pg_name (i := 4) sc_fits.nd rfl (Or.inl rfl)) (pgs_cons (pg_name (i := 5) sc_fits.nd rfl (Or.inl rfl)) (pgs_cons (pg_name (i := 6) sc_fits.nd rfl (Or.inl rfl)) pgs_nil))))) (fun _ _ _ _ _ => pts_nil) (fun _ _ _ _ _ => (pv 4))))
      (pss_cons (ps_if (pt_cmpR op_eq (pe_callB cl_len (by rfl) T.len (by decide +kernel) (pa_cons (pv 3) pa_nil)) pe_int (nomark _))
        (pss_one (ps_ret pe_bl))
        pss_nil)
      (pss_cons (ps_if (PW.pt (pw_or (pt_cmpR op_lt (pe_ix ix_list (pv 3) pe_int (fun _ _ => rfl)) pe_int (nomark _)) (pw_or1 (pt_val (pe_callB (cr_any rfl) (by rfl) T.any (by decide +kernel) (pa_cons (pe_lc (own := [("time", 4), ("upto", 5), ("got", 6)]) rfl sc_fits.nd (pi_list (pe_fld (pv 0) rfl)) (blkOk_by (N := ["view", "hold", "missed", "times", "time", "upto", "got"]) (sc := defScope s_fits) (own := [("time", 4), ("upto", 5), ("got", 6)]) (by decide +kernel)) (fun _ _ _ _ _ => (pg_tupE (K := K) (n := 3) rfl rfl (pgs_cons (pg_name (i := 4) sc_fits.nd rfl (Or.inl rfl)) (pgs_cons (pg_name (i := 5) sc_fits.nd rfl (Or.inl rfl)) (pgs_cons (pg_name (i := 6) sc_fits.nd rfl (Or.inl rfl)) pgs_nil))))) (fun _ _ _ _ _ => pts_nil) (fun _ _ _ _ _ => (pe_cmpR op_gt (pv 5) (pe_mth (pv 0) M_many_at (hr.mono (by first | decide | omega)) (pa_cons (pv 4) pa_nil)) (nomark _)))) pa_nil))))))
        (pss_one (ps_ret pe_bl))
        pss_nil)
      (pss_one (ps_ret (pe_cmpR op_notN1 (pe_mth0 (pe_mak G_Fit (hr.mono (by first | decide | omega)) rfl (pa_cons (pv 0) (pa_cons (pv 1) (pa_cons (pv 2) pa_nil)))) M_bounds (hr.mono (by first | decide | omega))) pe_non (nomark _))))))), ?_⟩
    walk_at "r"
    refine lc_L rv O (fun i _ acc => acc = ((rs.take i).map (·.t)).map V.int) rfl (fun D F' acc H s O => SqL.of (O.fz (s _ _ h2))) (fun D i x F' acc H hx s p l O => ?_) (fun D F1 acc H s1 p l O => ?_) (SqL.of (O.fz h2))
    · obtain ⟨r, hr1, xa, xb, xr, rfl, hxa, _⟩ := L2.paired_get h3 hx
      have hxa := s _ _ hxa
      have hi : i < rs.length := (List.getElem?_eq_some_iff.mp hr1).1
      walk_at "r"
      refine lcP (by omega) s l O ?_
      rw [p, List.take_add_one, hr1, List.map_append, List.map_append]
      rfl
    · rw [hrl, List.take_length] at p
      subst p
      rcases rs with _ | ⟨r0, rest⟩
      · walk_at "R"
        exact k true _ ⟨fun _ => .inl rfl, fun _ => rfl⟩ (O.drop.weak s1)
      · have hvw := hvw.mono s1
        have h1 := s1 _ _ h1
        have h2 := s1 _ _ h2
        have h3 := L2.Paired.mapP h3 fun _ _ z => RdgAt.mono z s1
        walk_at "r"
        have ez : ¬ (V.int ((((r0 :: rest).map (·.t)).map V.int).length : Int) = V.int 0) := fun e => by
          have := V.int.inj e
          simp at this
          omega
        refine br (fun e => absurd e ez) (fun _ => ?_)
        have ex : atI (((r0 :: rest).map (·.t)).map V.int) 0 = some (.int r0.t) := atI_zero
        walk_at "r"
        refine br (fun hz => ?_) (fun hz => ?_)
        · have hz : r0.t < 1 := hz
          walk_at "r"
          refine k false _ ⟨fun e => (by cases e), fun e => ?_⟩ (O.drop.weak s1)
          rcases e with e | ⟨e, _⟩
          · cases e
          · have e : r0.t ≥ 1 := e
            exact absurd hz (by omega)
        · have hz : ¬ r0.t < 1 := hz
          walk_at "r"
          refine lc_L rv O (fun i _ acc => acc = (((r0 :: rest).take i).map fun r => V.bl (decide (manyOf (r0 :: rest) r.t < r.u)))) rfl (fun D F' acc H s O => SqL.of (O.fz (s _ _ h2))) (fun D2 i x F' acc H hx s p l O => ?_) (fun D2 F2 acc H s2 p l O => ?_) (SqL.of (O.fz h2))
          · obtain ⟨r, hr1, xa, xb, xr, rfl, hxa, _⟩ := L2.paired_get h3 hx
            have hxa := s _ _ hxa
            have h1 := s _ _ h1
            have hi : i < (r0 :: rest).length := (List.getElem?_eq_some_iff.mp hr1).1
            walk_at "r"
            refine ⟨F', _, v, r0 :: rest, r.t, rfl, O, hvw.mono s, hc, by simp, fun H O => ?_⟩
            walk_at "r"
            refine lcP (by omega) s l O ?_
            rw [p, List.take_add_one, hr1, List.map_append]
            rfl
          · rw [hrl, List.take_length] at p
            subst p
            refine ⟨D2, ((r0 :: rest).map fun r => decide (manyOf (r0 :: rest) r.t < r.u)), rfl, SqL.of (by rw [List.map_map]; exact O.get 0), ?_⟩
            have O := O.drop.drop
            have s02 := s1.trans s2
            walk_at "r"
            refine brb (fun hy => ?_) (fun hy => ?_)
            · walk_at "r"
              refine k false _ ⟨fun e => (by cases e), fun e => ?_⟩ (O.weak s02)
              rcases e with e | ⟨_, e, _⟩
              · cases e
              · rw [List.any_map, List.any_eq_true] at hy
                obtain ⟨r, hr, hy⟩ := hy
                have hy : manyOf (r0 :: rest) r.t < r.u := of_decide_eq_true hy
                have := e r hr
                omega
            · have hy2 : ∀ r ∈ r0 :: rest, r.u ≤ manyOf (r0 :: rest) r.t := by
                rw [List.any_map, List.any_eq_false] at hy
                intro r hr
                have := hy r hr
                have : ¬ (manyOf (r0 :: rest) r.t < r.u) := fun e => this (decide_eq_true e)
                omega
              walk_at "r"
              refine rd_make ?_
              walk_at "r"
              intro x dx hx hd hne
              obtain ⟨F3, s3, O⟩ := O.made (C := C) hx hd hne
              have s23 := s2.trans s3
              refine ⟨F3, R, x, dx, v, m, hold, r0 :: rest, ms, rfl, O, hvw.mono s23, hc, mok, fun a lv hv F4 H s4 e1 e2 e3 e4 e5 e6 e7 O => ⟨rfl, ?_⟩⟩
              have knd := known_nd hc mok
              have knl := known_len hc mok
              have fc : FlC C CV F4 x dx a hold (r0 :: rest) (knownOf (r0 :: rest) ms) (leftOf (r0 :: rest) ms) := ⟨e2, by rw [e1]; exact hvw.mono (s23.trans s4), hc, by simp, e7, known_ok hc mok, by omega⟩
              have hll : (leftOf (r0 :: rest) ms).length ≤ 20 := by
                unfold leftOf
                rw [List.length_reverse]
                exact Nat.le_trans (List.length_filter_le _ _) (gaps_len hc)
              have hhl : (highs0 (r0 :: rest) ms).length ≤ 20 := by
                unfold highs0
                exact Nat.le_trans (List.length_filterMap_le _ _) (rows_len hc)
              have hlo : (lows0 (r0 :: rest) hold ms).length ≤ 1 := by
                unfold lows0
                rw [List.length_map]
                exact mok.len
              have hkl : (kK ms).length ≤ 1 := by unfold kK; rw [List.length_map]; exact mok.len
              have fv : FlV (r0 :: rest) (knownOf (r0 :: rest) ms) (kK ms) (leftOf (r0 :: rest) ms) (lows0 (r0 :: rest) hold ms) (highs0 (r0 :: rest) ms) 20 := by
                refine ⟨hll, by omega, by omega, by omega, by omega, knd, ?_, fun p hp => ?_⟩
                · unfold leftOf
                  exact List.pairwise_reverse.mpr (List.Pairwise.imp (fun h e => h e.symm) (List.Nodup.sublist List.filter_sublist gaps_nd))
                · unfold leftOf at hp
                  obtain ⟨hg, hn⟩ := List.mem_filter.mp (List.mem_reverse.mp hp)
                  obtain ⟨g0, g1, g2⟩ := gap_iff.mp hg
                  have hn2 : p ∉ ms.map (·.1) := fun hm => by
                    obtain ⟨q, hq, e⟩ := List.mem_map.mp hm
                    have : (ms.any fun q => decide (q.1 = p)) = true := List.any_eq_true.mpr ⟨q, hq, decide_eq_true e⟩
                    rw [this] at hn
                    cases hn
                  refine ⟨g0, g1, ?_, kK_out hn2⟩
                  unfold knownOf
                  rw [List.map_append, List.map_map]
                  intro hm
                  rcases List.mem_append.mp hm with hm | hm
                  · have := hasRow_iff.mpr hm
                    rw [this] at g2
                    cases g2
                  · exact hn2 hm
              walk_at "r"
              refine ⟨F4, _, x, dx, a, hold, r0 :: rest, knownOf (r0 :: rest) ms, knownOf (r0 :: rest) ms, kK ms, lv, hv, lows0 (r0 :: rest) hold ms, highs0 (r0 :: rest) ms, leftOf (r0 :: rest) ms, rfl, O, fc, fv, e3, e4, e5, e6, fun hf r F5 k5 m5 H s5 O => ?_, fun hf F5 H s5 O => ?_⟩
              · walk_at "r"
                exact k true _ ⟨fun _ => .inr ⟨by show r0.t ≥ 1; omega, hy2, hf⟩, fun _ => rfl⟩ (O.drop.drop.drop.weak (s02.trans (s3.trans (s4.trans s5))))
              · walk_at "r"
                refine k false _ ⟨fun e => (by cases e), fun e => ?_⟩ (O.drop.drop.drop.weak (s02.trans (s3.trans (s4.trans s5))))
                rcases e with e | ⟨_, _, e⟩
                · cases e
                · exact absurd e hf
end
end K7

set_option Elab.async false
set_option linter.all false
set_option maxRecDepth 100000
set_option maxHeartbeats 4000000
set_option pp.deepTerms false
set_option pp.maxSteps 600
namespace K7
open PySem PySem.Spec PyProof.Rows L2 ItX
local macro_rules | `(tactic| walk_at "hp") => `(tactic| with_unfolding_all first
  | exact Ow.get (by assumption) 0 | exact Ow.get (by assumption) 1 | exact Ow.get (by assumption) 2 | exact Ow.get (by assumption) 3
  | exact Ow.fz (by assumption) (by assumption)
  | exact Ow.get (by assumption) 4 | exact Ow.get (by assumption) 5 | exact Ow.get (by assumption) 6 | exact Ow.get (by assumption) 7 | exact Ow.get (by assumption) 8 | exact Ow.get (by assumption) 9)
local macro_rules | `(tactic| walk_at "sq") => `(tactic| with_unfolding_all first
  | exact SqL.of (by walk_at "hp") | exact SqT.of (by walk_at "hp") | assumption)
local macro_rules | `(tactic| walk_at "rd") => `(tactic| with_unfolding_all first
  | exact Rd.of (by walk_at "hp") | assumption | exact Or.inr ⟨_, by walk_at "hp"⟩)
local macro_rules | `(tactic| walk_at "dk") => `(tactic| assumption)
local macro_rules | `(tactic| walk_at "cl") => `(tactic| assumption)
local macro_rules | `(tactic| walk_at "na") => `(tactic| assumption)
local macro_rules | `(tactic| walk_at "lk") => `(tactic| assumption)
local macro_rules | `(tactic| walk_at "ln") => `(tactic| assumption)
local macro_rules | `(tactic| walk_at "ai") => `(tactic| first | with_unfolding_all rfl | exact atI_zero | assumption)
local macro_rules | `(tactic| walk_at "sd") => `(tactic| with_unfolding_all first
  | rfl | assumption | decide | omega
  | exact ⟨by omega, by omega⟩ | exact Or.inl ⟨by omega, by omega⟩ | exact Or.inr ⟨by omega, by omega⟩ | exact ⟨by decide, by decide, by omega⟩)
local macro_rules | `(tactic| walk_at "sz") => `(tactic| first
  | with_unfolding_all exact szl (Nat.le_of_ble_eq_true rfl)
  | with_unfolding_all exact sztl (Nat.le_of_ble_eq_true rfl)
  | exact szl (by simp <;> omega)
  | exact sztl (by simp <;> omega))
local macro_rules | `(tactic| walk_at "s") => `(tactic| first
  | with_reducible refine rd_I0 ?_
  | ((with_reducible apply rd_I); (focus walk_at "sd"))
  | ((with_reducible apply rd_opVC); (focus with_unfolding_all rfl))
  | ((with_reducible apply rd_opVV); (focus with_unfolding_all rfl); (focus with_unfolding_all rfl))
  | ((with_reducible apply rd_opV); (focus with_unfolding_all rfl))
  | with_reducible refine rd_opC ?_
  | with_reducible refine rd_op ?_
  | ((with_reducible apply rd_var); (focus with_unfolding_all rfl))
  | with_reducible refine rd_c ?_
  | with_reducible refine rd_sSet ?_
  | ((with_reducible apply rd_CB1V); (focus with_unfolding_all rfl)) | with_reducible refine rd_CB1 ?_ | with_reducible refine rd_CB ?_
  | ((with_reducible apply rd_consV); (focus with_unfolding_all rfl)) | with_reducible refine rd_consC ?_ | with_reducible refine rd_cons0 ?_ | with_reducible refine rd_cons ?_ | with_reducible refine rd_nil ?_
  | ((with_reducible apply rd_ixL); (focus walk_at "sq"); (focus walk_at "ai"))
  | ((with_reducible apply rd_ixT); (focus walk_at "sq"); (focus walk_at "ai"))
  | with_reducible refine rd_int ?_ | with_reducible refine rd_intB ?_ | with_reducible refine rd_abs ?_
  | ((with_reducible apply rd_len); (focus walk_at "sq")) | ((with_reducible apply rd_lenT); (focus walk_at "sq"))
  | with_reducible refine rd_ifS ?_ | with_reducible refine iteT ?_ | with_reducible refine iteF ?_
  | with_reducible refine rd_tTest ?_ | with_reducible refine rd_tB ?_ | with_reducible refine rd_ex ?_
  | with_reducible refine rd_seqD ?_ | with_reducible refine rd_sSet1 ?_ | with_reducible refine rd_ret ?_ | with_reducible refine rd_drop ?_ | with_reducible refine rd_asg ?_
  | ((with_reducible apply rd_eq); (focus with_unfolding_all rfl)) | ((with_reducible apply rd_ne); (focus with_unfolding_all rfl))
  | with_reducible refine rd_isNr ?_ | with_reducible refine rd_notNr ?_ | with_reducible refine rd_isNn ?_ | with_reducible refine rd_notNn ?_ | with_reducible refine rd_isNi ?_ | with_reducible refine rd_notNi ?_
  | with_reducible refine rd_isN ?_ | with_reducible refine rd_notN ?_
  | with_reducible refine rd_and ?_ | with_reducible refine rd_or ?_ | with_reducible refine rd_not ?_ | with_reducible refine rd_if ?_
  | with_reducible refine rd_seq ?_ | with_reducible refine rd_gName ?_ | with_reducible refine rd_next ?_ | with_reducible refine rd_retN ?_
  | with_reducible refine rd_gSub ?_ | with_reducible refine rd_gCons ?_ | with_reducible refine rd_gNil ?_ | ((with_reducible apply rd_gTup); (focus walk_at "sq"); (focus with_unfolding_all rfl))
  | ((with_reducible apply rd_setL); (focus walk_at "hp"); (focus with_unfolding_all rfl))
  | with_reducible refine rd_par ?_ | with_reducible refine rd_par3 ?_ | with_reducible refine rd_ex2 ?_ | with_reducible refine rd_ex3 ?_
  | with_reducible refine rd_dget ?_ | with_reducible refine rd_din ?_ | with_reducible refine rd_dnotin ?_
  | ((with_reducible apply rd_dgS); (focus walk_at "rd"); (focus walk_at "dk"))
  | ((with_reducible apply rd_dgI); (focus walk_at "rd"); (focus walk_at "dk"))
  | ((with_reducible apply rd_doS); (focus walk_at "rd")) | ((with_reducible apply rd_doI); (focus walk_at "rd"))
  | with_reducible refine rd_dput ?_
  | ((with_reducible apply rd_dpS); (focus walk_at "hp"); (focus walk_at "sz")) | ((with_reducible apply rd_dpI); (focus walk_at "hp"); (focus walk_at "sz"))
  | with_reducible refine rd_bm ?_
  | ((with_reducible apply rd_tyL); (focus walk_at "hp")) | ((with_reducible apply rd_append); (focus walk_at "hp"); (focus walk_at "sz"))
  | with_reducible refine rd_tup ?_ | with_reducible refine rd_lst ?_ | with_reducible refine rd_dnew ?_
  | with_reducible refine rd_for ?_ | with_reducible refine rd_iR1 ?_ | with_reducible refine rd_iR2 ?_ | with_reducible refine rd_iL ?_ | with_reducible refine rd_iT ?_
  | with_reducible refine rd_disp ?_ | with_reducible refine rd_pair ?_ | with_reducible refine rd_pair0 ?_
  | with_reducible refine rd_andV ?_ | with_reducible refine rd_orV ?_
  | ((with_reducible apply rd_tupL); (focus walk_at "sq")) | ((with_reducible apply rd_listT); (focus walk_at "sq"))
  | with_reducible refine rd_lc ?_ | ((with_reducible apply rd_wp); (focus with_unfolding_all rfl)) | with_reducible refine rd_yes ?_
  | with_reducible refine rd_sl ?_ | with_reducible refine rd_noPart ?_ | with_reducible refine rd_part ?_ | with_reducible refine rd_exI ?_
  | ((with_reducible apply rd_isd); (focus walk_at "rd")) | ((with_reducible apply rd_dg1S); (focus walk_at "rd")) | ((with_reducible apply rd_dg1I); (focus walk_at "rd"))
  | with_reducible refine rd_dget1 ?_ | with_reducible refine rd_dget2 ?_ | with_reducible refine rd_dpop2 ?_ | with_reducible refine rd_dpop1 ?_ | with_reducible refine rd_dsetd ?_
  | ((with_reducible apply rd_slL); (focus walk_at "sq"))
  | with_reducible refine rd_iE ?_ | with_reducible refine rd_iS ?_
  | ((with_reducible apply rd_dictD); (focus walk_at "rd"))
  | with_reducible refine rd_setD ?_
  | with_reducible refine rd_meth ?_ | ((with_reducible apply rd_me); (focus walk_at "hp"); (focus walk_at "ln"))
  | with_reducible refine rd_fld ?_ | ((with_reducible apply rd_fl); (focus walk_at "hp"); (focus walk_at "cl"); (focus walk_at "na"); (focus walk_at "lk"))
  | with_reducible refine rd_sfld ?_ | with_reducible refine rd_gfld ?_
  | with_reducible refine rd_dupd ?_ | with_reducible refine rd_lvals ?_ | with_reducible refine rd_sitems ?_ | with_reducible refine rd_revL ?_ | with_reducible refine rd_iView ?_ | with_reducible refine rd_iKeys ?_ | with_reducible refine rd_dc ?_
  | with_reducible refine rd_iET ?_
  | with_reducible refine rd_call ?_)
local macro_rules | `(tactic| walk_at "r") => `(tactic| repeat (walk_at "s"))

local macro_rules | `(tactic| walk_at "lt") => `(tactic| first | with_reducible refine ifT (by decide +kernel) ?_ | with_reducible refine ifF (by decide +kernel) ?_)
local macro_rules | `(tactic| walk_at "R") => `(tactic| repeat (first | walk_at "s" | walk_at "lt"))
local macro_rules | `(tactic| walk_at "cl") => `(tactic| first | assumption | exact VA.cls (by assumption))
local macro_rules | `(tactic| walk_at "na") => `(tactic| first | assumption | exact VA.reads (by assumption) | exact VA.times (by assumption) | exact VA.got (by assumption) | exact VA.rows (by assumption))
local macro_rules | `(tactic| walk_at "lk") => `(tactic| first | assumption | exact vf_reads | exact vf_times | exact vf_got | exact vf_rows)
local macro_rules | `(tactic| walk_at "ln") => `(tactic| first | assumption | exact vf_no (by decide +kernel))
theorem rd_dE {H : Hp} {d : Addr} {Q : Addr → Hp → Prop} : True := trivial
section
variable {P : Program} {w : World} {K : PySem.W.Frag} {mg : Str → Option Value} {base : Heap} {CV fi : Addr}
abbrev s_can_be : Stmt := top 11
theorem sc_can_be : FnScope ["hold", "view"] ["hold", "view"] (defScope s_can_be) := ⟨rfl, rfl, rfl, by decide +kernel, rfl, by decide +kernel, by decide +kernel⟩
theorem bd_can_be : Bd "can_be" "can_be" s_can_be ["hold", "view"] := fun _ _ _ _ _ _ us hl => match us, hl with | [_, _], _ => rfl
/-! slots: 0 hold, 1 view -/
theorem ok_can_be {f : Addr} (S : Src K "can_be" "can_be" s_can_be f) (T : Blt mg) (va : VA K CV) (G_View : Mak P w K mg base "View" CV ["self", "view"] 6 (spVInit CV)) (G_fits : Def P w K mg base "fits" ["view", "hold", "missed"] 28 (spFits CV)) : Fn P w K mg base f ["hold", "view"] 29 spCanBe := by
  refine fn_mk S sc_can_be bd_can_be (fun vs H Q E h => ?_) (fun cdv A outer s0 H vs Q E hr h => ?_)
  · obtain ⟨_, _, _, _, _, rfl, _⟩ := h
    rfl
  · obtain ⟨F, R, v, hold, rs, rfl, O, hv, hc, hno, k⟩ := h
    have hu := hu_of hr
    refine ⟨_, (pss_one (ps_ret (pe_def G_fits (hr.mono (by first | decide | omega)) rfl (pa_cons (pe_mak G_View (hr.mono (by first | decide | omega)) rfl (pa_cons (pv 1) pa_nil)) (pa_cons (pv 0) (pa_cons pe_dnewK pa_nil)))))), ?_⟩
    walk_at "r"
    refine rd_make ?_
    walk_at "r"
    intro x dx hx hd hne
    obtain ⟨F1, s1, O⟩ := O.made (C := CV) hx hd hne
    refine ⟨F1, R, x, dx, v, rs, rfl, O, hv.mono s1, hc, hno, fun F2 H s2 hvw O => ⟨rfl, ?_⟩⟩
    walk_at "r"
    intro m hp
    have O := O.new (o := .dK []) hp
    walk_at "r"
    refine ⟨F2, R, x, m, hold, rs, [], rfl, O, hvw, hc, ms_nil rs, fun b H hb O => ?_⟩
    exact k b H hb (O.drop.weak (s1.trans s2))
abbrev s_look_can_be : Stmt := top 12
theorem sc_look_can_be : FnScope ["hold", "view"] ["hold", "view"] (defScope s_look_can_be) := ⟨rfl, rfl, rfl, by decide +kernel, rfl, by decide +kernel, by decide +kernel⟩
theorem bd_look_can_be : Bd "look_can_be" "look_can_be" s_look_can_be ["hold", "view"] := fun _ _ _ _ _ _ us hl => match us, hl with | [_, _], _ => rfl
/-! slots: 0 hold, 1 view -/
theorem ok_look_can_be {f : Addr} (S : Src K "look_can_be" "look_can_be" s_look_can_be f) (T : Blt mg) (va : VA K CV) (G_View : Mak P w K mg base "View" CV ["self", "view"] 6 (spVInit CV)) (G_can_be : Def P w K mg base "can_be" ["hold", "view"] 29 spCanBe) : Fn P w K mg base f ["hold", "view"] 30 (spLook CV) := by
  refine fn_mk S sc_look_can_be bd_look_can_be (fun vs H Q E h => ?_) (fun cdv A outer s0 H vs Q E hr h => ?_)
  · obtain ⟨_, _, _, _, _, rfl, _⟩ := h
    rfl
  · obtain ⟨F, R, v, hold, rs, rfl, O, hv, hc, hno, hf, k⟩ := h
    have hu := hu_of hr
    refine ⟨_, (pss_cons (ps_if (pt_not (pt_val (pe_def G_can_be (hr.mono (by first | decide | omega)) rfl (pa_cons (pv 0) (pa_cons (pv 1) pa_nil)))))
        (pss_one ps_never)
        pss_nil)
      (pss_one (ps_ret (pe_mak G_View (hr.mono (by first | decide | omega)) rfl (pa_cons (pv 1) pa_nil))))), ?_⟩
    walk_at "r"
    refine ⟨F, R, v, hold, rs, rfl, O, hv, hc, hno, fun b H hb O => ?_⟩
    have hb := hb.mpr hf
    subst hb
    walk_at "R"
    refine rd_make ?_
    walk_at "r"
    intro x dx hx hd hne
    obtain ⟨F1, s1, O⟩ := O.made (C := CV) hx hd hne
    refine ⟨F1, R, x, dx, v, rs, rfl, O, hv.mono s1, hc, hno, fun F2 H s2 hvw O => ⟨rfl, ?_⟩⟩
    exact k x F2 H (s1.trans s2) hvw O
abbrev s_missed_at : Stmt := top 13
theorem sc_missed_at : FnScope ["view", "hold", "key", "held", "gap"] ["view", "hold", "key"] (defScope s_missed_at) := ⟨rfl, rfl, rfl, by decide +kernel, rfl, by decide +kernel, by decide +kernel⟩
theorem bd_missed_at : Bd "missed_at" "missed_at" s_missed_at ["view", "hold", "key"] := fun _ _ _ _ _ _ us hl => match us, hl with | [_, _, _], _ => rfl
/-! slots: 0 view, 1 hold, 2 key, 3 held, 4 gap -/
theorem ok_missed_at {f : Addr} (S : Src K "missed_at" "missed_at" s_missed_at f) (T : Blt mg) (va : VA K CV) (M_held : Mtd P w K mg base CV "held" ["self"] 3 (spVHeld CV)) (M_gaps : Mtd P w K mg base CV "gaps" ["self"] 5 (spVGaps CV))
    (G_fits : Def P w K mg base "fits" ["view", "hold", "missed"] 28 (spFits CV)) : Fn P w K mg base f ["view", "hold", "key"] 29 (spMissedAt CV) := by
  refine fn_mk S sc_missed_at bd_missed_at (fun vs H Q E h => ?_) (fun cdv A outer s0 H vs Q E hr h => ?_)
  · obtain ⟨_, _, _, _, _, _, rfl, _⟩ := h
    rfl
  · obtain ⟨F, R, v, hold, key, rs, rfl, O, hvw, hc, hky, k⟩ := h
    obtain ⟨dv, rd, tm, gt, rw_, rv, kvs, wv, h1, h2, h3, h4, h5, h6, h7, h8⟩ := id hvw
    have hu := hu_of hr
    refine ⟨_, (pss_cons (ps_set (i := 3) sc_missed_at.nd rfl (Or.inr rfl) (pe_mth0 (pv 0) M_held (hr.mono (by first | decide | omega))))
      (pss_cons (ps_if (pt_cmp (pc_dnotin hu (pv 2) (pv 3)))
        (pss_one (ps_ret (pe_lst pa_nil)))
        pss_nil)
      (pss_one (ps_ret (pe_lc (own := [("gap", 4)]) rfl sc_missed_at.nd (pi_list (pe_mth0 (pv 0) M_gaps (hr.mono (by first | decide | omega)))) (blkOk_by (N := ["view", "hold", "key", "held", "gap"]) (sc := defScope s_missed_at) (own := [("gap", 4)]) (by decide +kernel)) (fun _ _ _ _ _ => (pg_name (i := 4) sc_missed_at.nd rfl (Or.inl rfl))) (fun _ _ _ _ _ => (pts_one (PW.pt (pw_and (pt_cmpR op_gt (pv 4) (pe_dget hu (pv 3) (pv 2) (fun _ _ => rfl)) (nomark _)) (pw_and1 (pt_val (pe_def G_fits (hr.mono (by first | decide | omega)) rfl (pa_cons (pv 0) (pa_cons (pv 1) (pa_cons (pe_disp (pps_cons (pv 4) (pv 2) pps_nil) (by rfl) (by rfl) (fun z => by cases z) (by decide)) pa_nil)))))))))) (fun _ _ _ _ _ => (pv 4))))))), ?_⟩
    walk_at "r"
    refine ⟨F, R, v, rs, rfl, O, hvw, hc, fun hd F1 H s1 hhd O => ?_⟩
    have h1 := s1 _ _ h1
    have hvw := hvw.mono s1
    walk_at "r"
    cases hval : valV (hK (heldOf rs)) (.inr key) with
    | none =>
      walk_at "R"
      refine ⟨by walk_at "sz", fun l hp => ?_⟩
      obtain ⟨F2, s2, g2, O⟩ := O.newF (o := .lst []) hp
      refine k _ F2 _ (s1.trans s2) ⟨l, [], rfl, g2, by simp, fun g => ⟨fun h => (nomatch h), fun ⟨n, hn, _⟩ => ?_⟩⟩ O
      rw [hval] at hn
      cases hn
    | some z =>
      obtain ⟨n, rfl, hmem⟩ := hK_val hval
      refine ifF rfl ?_
      walk_at "r"
      refine ⟨F1, R, v, rs, rfl, O, hvw, hc, fun gl F2 H s2 hgl O => ?_⟩
      have h1 := s2 _ _ h1
      have hhd := s2 _ _ hhd
      have hvw := hvw.mono s2
      have gl0 := gaps_len hc
      walk_at "r"
      refine lc_L ((gapsOf rs).map V.int) O (fun i _ acc => ∃ gs : List Int, acc = gs.map V.int ∧ ∀ g, g ∈ gs ↔ g ∈ (gapsOf rs).take i ∧ n < g ∧ FitsP rs hold [(g, key)]) ⟨[], rfl, fun g => ⟨fun h => (nomatch h), fun ⟨h, _⟩ => (by simp at h)⟩⟩ (fun D F' acc H s O => SqL.of (O.fz (s _ _ hgl))) (fun D i y F' acc H hy s pr l O => ?_) (fun D F3 acc H s3 pr l O => ?_) (SqL.of (O.fz hgl))
      · rw [List.getElem?_map] at hy
        obtain ⟨g, hg, rfl⟩ := Option.map_eq_some_iff.mp hy
        have hi : i < (gapsOf rs).length := (List.getElem?_eq_some_iff.mp hg).1
        have hgm := List.mem_of_getElem? hg
        obtain ⟨gs, rfl, hgs⟩ := pr
        have hhd := s _ _ hhd
        have etk : (gapsOf rs).take (i + 1) = (gapsOf rs).take i ++ [g] := by rw [List.take_add_one, hg]; rfl
        have neg : ¬ (n < g ∧ FitsP rs hold [(g, key)]) → ∀ g', g' ∈ gs ↔ g' ∈ (gapsOf rs).take (i + 1) ∧ n < g' ∧ FitsP rs hold [(g', key)] := by
          intro hn g'
          rw [hgs, etk, List.mem_append]
          constructor
          · exact fun ⟨a, b⟩ => ⟨.inl a, b⟩
          · rintro ⟨a | a, b⟩
            · exact ⟨a, b⟩
            · have : g' = g := by simpa using a
              rw [this] at b
              exact absurd b hn
        walk_at "r"
        refine br (fun hz => ?_) (fun hz => ?_)
        · walk_at "r"
          intro m hp
          have O := O.new (o := .dK []) hp
          walk_at "r"
          refine ⟨O.get 0, [(.inl g, .str key)], rfl, by show 1 ≤ 15; decide, ?_⟩
          have em : mergeK [] [((.inl g : Key), V.str key)] = kK [(g, key)] := rfl
          rw [em]
          have O := O.set 0 (.dK (kK [(g, key)]))
          refine ⟨F', _, v, m, hold, rs, [(g, key)], rfl, O, hvw.mono s, hc, ms_one hgm hky, fun b H hb O => ⟨b, rfl, ?_⟩⟩
          have O := O.drop
          refine brb (fun hb2 => ?_) (fun hb2 => ?_)
          · have hf := hb.mp hb2
            walk_at "r"
            refine lcP (by omega) s l O ⟨gs ++ [g], by rw [List.map_append]; rfl, fun g' => ?_⟩
            rw [List.mem_append, hgs, etk, List.mem_append]
            constructor
            · rintro (⟨a, b⟩ | a)
              · exact ⟨.inl a, b⟩
              · have : g' = g := by simpa using a
                rw [this]
                exact ⟨.inr (by simp), hz, hf⟩
            · rintro ⟨a | a, b⟩
              · exact .inl ⟨a, b⟩
              · exact .inr a
          · refine lcN s l O ⟨gs, rfl, neg fun h => ?_⟩
            have := hb.mpr h.2
            rw [hb2] at this
            cases this
        · refine iteF (lcN s l O ⟨gs, rfl, neg fun h => hz h.1⟩)
      · rw [List.length_map, List.take_length] at pr
        obtain ⟨gs, rfl, hgs⟩ := pr
        rw [List.length_map, List.length_map] at l
        have f1 := O.fle
        have O2 := O.freeze
        refine k _ _ _ ((s1.trans s2).trans (s3.trans f1)) ⟨D, gs, rfl, upd_same, by omega, fun g => ⟨fun h => ?_, fun ⟨n', hn, a, b, c⟩ => ?_⟩⟩ O2
        · obtain ⟨a, b, c⟩ := (hgs g).mp h
          exact ⟨n, hval, b, a, c⟩
        · rw [hval] at hn
          cases hn
          exact (hgs g).mpr ⟨b, a, c⟩
abbrev s_missed_places : Stmt := top 14
theorem sc_missed_places : FnScope ["hold", "view", "key"] ["hold", "view", "key"] (defScope s_missed_places) := ⟨rfl, rfl, rfl, by decide +kernel, rfl, by decide +kernel, by decide +kernel⟩
theorem bd_missed_places : Bd "missed_places" "missed_places" s_missed_places ["hold", "view", "key"] := fun _ _ _ _ _ _ us hl => match us, hl with | [_, _, _], _ => rfl
/-! slots: 0 hold, 1 view, 2 key -/
theorem ok_missed_places {f : Addr} (S : Src K "missed_places" "missed_places" s_missed_places f) (T : Blt mg) (va : VA K CV) (G_look_can_be : Def P w K mg base "look_can_be" ["hold", "view"] 30 (spLook CV)) (G_missed_at : Def P w K mg base "missed_at" ["view", "hold", "key"] 29 (spMissedAt CV)) :
    Fn P w K mg base f ["hold", "view", "key"] 31 spMissedPlaces := by
  refine fn_mk S sc_missed_places bd_missed_places (fun vs H Q E h => ?_) (fun cdv A outer s0 H vs Q E hr h => ?_)
  · obtain ⟨_, _, _, _, _, _, rfl, _⟩ := h
    rfl
  · obtain ⟨F, R, v, hold, key, rs, rfl, O, hv, hc, hno, hf, hky, k⟩ := h
    have hu := hu_of hr
    refine ⟨_, (pss_one (ps_ret (pe_def G_missed_at (hr.mono (by first | decide | omega)) rfl (pa_cons (pe_def G_look_can_be (hr.mono (by first | decide | omega)) rfl (pa_cons (pv 0) (pa_cons (pv 1) pa_nil))) (pa_cons (pv 0) (pa_cons (pv 2) pa_nil)))))), ?_⟩
    walk_at "r"
    refine ⟨F, R, v, hold, rs, rfl, O, hv, hc, hno, hf, fun x F1 H s1 hvw O => ?_⟩
    walk_at "r"
    exact ⟨F1, R, x, hold, key, rs, rfl, O, hvw, hc, hky, fun y F2 H s2 hm O => k y F2 H (s1.trans s2) hm O⟩
abbrev s_doubtful : Stmt := top 15
theorem sc_doubtful : FnScope ["hold", "view", "own", "key"] ["hold", "view"] (defScope s_doubtful) := ⟨rfl, rfl, rfl, by decide +kernel, rfl, by decide +kernel, by decide +kernel⟩
theorem bd_doubtful : Bd "doubtful" "doubtful" s_doubtful ["hold", "view"] := fun _ _ _ _ _ _ us hl => match us, hl with | [_, _], _ => rfl
/-! slots: 0 hold, 1 view, 2 own, 3 key -/
theorem ok_doubtful {f : Addr} (S : Src K "doubtful" "doubtful" s_doubtful f) (T : Blt mg) (va : VA K CV) (M_held : Mtd P w K mg base CV "held" ["self"] 3 (spVHeld CV)) (G_look_can_be : Def P w K mg base "look_can_be" ["hold", "view"] 30 (spLook CV)) (G_missed_at : Def P w K mg base "missed_at" ["view", "hold", "key"] 29 (spMissedAt CV)) :
    Fn P w K mg base f ["hold", "view"] 31 spDoubtful := by
  refine fn_mk S sc_doubtful bd_doubtful (fun vs H Q E h => ?_) (fun cdv A outer s0 H vs Q E hr h => ?_)
  · obtain ⟨_, _, _, _, _, rfl, _⟩ := h
    rfl
  · obtain ⟨F, R, v, hold, rs, rfl, O, hv, hc, hno, hf, k⟩ := h
    have hu := hu_of hr
    refine ⟨_, (pss_cons (ps_set (i := 2) sc_doubtful.nd rfl (Or.inr rfl) (pe_def G_look_can_be (hr.mono (by first | decide | omega)) rfl (pa_cons (pv 0) (pa_cons (pv 1) pa_nil))))
      (pss_one (ps_ret (pe_lc (own := [("key", 3)]) rfl sc_doubtful.nd (pi_list (pe_callB (cl_sortedD rfl) (by rfl) T.sorted (by decide +kernel) (pa_cons (pe_mth0 (pv 2) M_held (hr.mono (by first | decide | omega))) pa_nil))) (blkOk_by (N := ["hold", "view", "own", "key"]) (sc := defScope s_doubtful) (own := [("key", 3)]) (by decide +kernel)) (fun _ _ _ _ _ => (pg_name (i := 3) sc_doubtful.nd rfl (Or.inl rfl))) (fun _ _ _ _ _ => (pts_one (pt_cmpR op_gt (pe_callB (r := qLen K) cl_len (by rfl) T.len (by decide +kernel) (pa_cons (pe_def G_missed_at (hr.mono (by first | decide | omega)) rfl (pa_cons (pv 2) (pa_cons (pv 0) (pa_cons (pv 3) pa_nil)))) pa_nil)) pe_int (nomark _)))) (fun _ _ _ _ _ => (pv 3)))))), ?_⟩
    walk_at "r"
    refine ⟨F, R, v, hold, rs, rfl, O, hv, hc, hno, hf, fun x F1 H s1 hvw O => ?_⟩
    obtain ⟨dv, rd, tm, gt, rw_, rv, kvs, wv, h1, h2, h3, h4, h5, h6, h7, h8⟩ := id hvw
    walk_at "r"
    refine ⟨F1, R, x, rs, rfl, O, hvw, hc, fun hd F2 H s2 hhd O => ?_⟩
    have hl := heldLen hc
    walk_at "r"
    refine ⟨hd, hK (heldOf rs), (heldOf rs).map (·.1), rfl, Rd.of (O.fz hhd), hK_keys _, by rw [List.length_map]; omega, fun ks p hperm _ hp => ?_⟩
    have hkl : ks.length ≤ 20 := by rw [hperm.length_eq, List.length_map]; exact hl
    obtain ⟨F3, s3, hks, O⟩ := O.newF (o := .lst (ks.map V.str)) hp
    have s13 := s2.trans s3
    walk_at "r"
    refine lc_L (ks.map V.str) O (fun i _ acc => ∃ ys : List Str, acc = ys.map V.str ∧ ∀ y, y ∈ ys ↔ y ∈ ks.take i ∧ ∃ g, MissP rs hold y g) ⟨[], rfl, fun g => ⟨fun h => (nomatch h), fun ⟨h, _⟩ => (by simp at h)⟩⟩ (fun D F' acc H s O => SqL.of (O.fz (s _ _ hks))) (fun D i y F' acc H hy s pr l O => ?_) (fun D F4 acc H s4 pr l O => ?_) (SqL.of (O.fz hks))
    · rw [List.getElem?_map] at hy
      obtain ⟨key, hkey, rfl⟩ := Option.map_eq_some_iff.mp hy
      have hi : i < ks.length := (List.getElem?_eq_some_iff.mp hkey).1
      obtain ⟨ys, rfl, hys⟩ := pr
      have etk : ks.take (i + 1) = ks.take i ++ [key] := by rw [List.take_add_one, hkey]; rfl
      have hkm : key ∈ (heldOf rs).map (·.1) := hperm.mem_iff.mp (List.mem_of_getElem? hkey)
      have hko : KeyOk key := by
        obtain ⟨q, hq, e⟩ := List.mem_map.mp hkm
        rw [← e]
        exact heldOk hc q hq
      walk_at "r"
      refine ⟨F', _, x, hold, key, rs, rfl, O, hvw.mono (s13.trans s), hc, hko, fun z F5 H s5 ⟨ml, gs, e, hml, hgl, hgs⟩ O => ?_⟩
      subst e
      walk_at "r"
      refine br (fun hz => ?_) (fun hz => ?_)
      · walk_at "r"
        refine lcP (by omega) (s.trans s5) l O ⟨ys ++ [key], by rw [List.map_append]; rfl, fun y => ?_⟩
        rw [List.mem_append, hys, etk, List.mem_append]
        have hex : ∃ g, MissP rs hold key g := by
          cases gs with
          | nil => exact absurd hz (by simp)
          | cons g t => exact ⟨g, (hgs g).mp (List.mem_cons_self ..)⟩
        constructor
        · rintro (⟨a, b⟩ | a)
          · exact ⟨.inl a, b⟩
          · have : y = key := by simpa using a
            exact ⟨.inr a, this ▸ hex⟩
        · rintro ⟨a | a, b⟩
          · exact .inl ⟨a, b⟩
          · exact .inr a
      · refine lcN (s.trans s5) l O ⟨ys, rfl, fun y => ?_⟩
        rw [hys, etk, List.mem_append]
        constructor
        · exact fun ⟨a, b⟩ => ⟨.inl a, b⟩
        · rintro ⟨a | a, b⟩
          · exact ⟨a, b⟩
          · have e : y = key := by simpa using a
            obtain ⟨g, hg⟩ := b
            rw [e] at hg
            have := (hgs g).mpr hg
            cases gs with
            | nil => cases this
            | cons g t => exact absurd (by simp) hz
    · rw [List.length_map, List.take_length] at pr
      obtain ⟨ys, rfl, hys⟩ := pr
      rw [List.length_map, List.length_map] at l
      have f1 := O.fle
      have O2 := O.freeze
      refine k D ys _ _ (s1.trans (s13.trans (s4.trans f1))) upd_same (fun y => ⟨fun h => ((hys y).mp h).2, fun h => (hys y).mpr ⟨?_, h⟩⟩) (fun y h => ?_) (by omega) O2
      · obtain ⟨g, n, hn, _⟩ := h
        obtain ⟨_, _, hm⟩ := hK_val hn
        exact hperm.mem_iff.mpr (List.mem_map.mpr ⟨_, hm, rfl⟩)
      · have hm := hperm.mem_iff.mp ((hys y).mp h).1
        obtain ⟨q, hq, e⟩ := List.mem_map.mp hm
        rw [← e]
        exact heldOk hc q hq
end
end K7

set_option Elab.async false
set_option linter.all false
set_option maxRecDepth 100000
set_option maxHeartbeats 4000000
set_option pp.deepTerms false
set_option pp.maxSteps 600
namespace K7
open PySem PySem.Spec PyProof.Rows L2 ItX
local macro_rules | `(tactic| walk_at "hp") => `(tactic| with_unfolding_all first
  | exact Ow.get (by assumption) 0 | exact Ow.get (by assumption) 1 | exact Ow.get (by assumption) 2 | exact Ow.get (by assumption) 3
  | exact Ow.fz (by assumption) (by assumption)
  | exact Ow.get (by assumption) 4 | exact Ow.get (by assumption) 5 | exact Ow.get (by assumption) 6 | exact Ow.get (by assumption) 7 | exact Ow.get (by assumption) 8 | exact Ow.get (by assumption) 9)
local macro_rules | `(tactic| walk_at "sq") => `(tactic| with_unfolding_all first
  | exact SqL.of (by walk_at "hp") | exact SqT.of (by walk_at "hp") | assumption)
local macro_rules | `(tactic| walk_at "rd") => `(tactic| with_unfolding_all first
  | exact Rd.of (by walk_at "hp") | assumption | exact Or.inr ⟨_, by walk_at "hp"⟩)
local macro_rules | `(tactic| walk_at "dk") => `(tactic| assumption)
local macro_rules | `(tactic| walk_at "cl") => `(tactic| assumption)
local macro_rules | `(tactic| walk_at "na") => `(tactic| assumption)
local macro_rules | `(tactic| walk_at "lk") => `(tactic| assumption)
local macro_rules | `(tactic| walk_at "ln") => `(tactic| assumption)
local macro_rules | `(tactic| walk_at "ai") => `(tactic| first | with_unfolding_all rfl | exact atI_zero | assumption)
local macro_rules | `(tactic| walk_at "sd") => `(tactic| with_unfolding_all first
  | rfl | assumption | decide | omega
  | exact ⟨by omega, by omega⟩ | exact Or.inl ⟨by omega, by omega⟩ | exact Or.inr ⟨by omega, by omega⟩ | exact ⟨by decide, by decide, by omega⟩)
local macro_rules | `(tactic| walk_at "sz") => `(tactic| first
  | with_unfolding_all exact szl (Nat.le_of_ble_eq_true rfl)
  | with_unfolding_all exact sztl (Nat.le_of_ble_eq_true rfl)
  | exact szl (by simp <;> omega)
  | exact sztl (by simp <;> omega))
local macro_rules | `(tactic| walk_at "s") => `(tactic| first
  | with_reducible refine rd_I0 ?_
  | ((with_reducible apply rd_I); (focus walk_at "sd"))
  | ((with_reducible apply rd_opVC); (focus with_unfolding_all rfl))
  | ((with_reducible apply rd_opVV); (focus with_unfolding_all rfl); (focus with_unfolding_all rfl))
  | ((with_reducible apply rd_opV); (focus with_unfolding_all rfl))
  | with_reducible refine rd_opC ?_
  | with_reducible refine rd_op ?_
  | ((with_reducible apply rd_var); (focus with_unfolding_all rfl))
  | with_reducible refine rd_c ?_
  | with_reducible refine rd_sSet ?_
  | ((with_reducible apply rd_CB1V); (focus with_unfolding_all rfl)) | with_reducible refine rd_CB1 ?_ | with_reducible refine rd_CB ?_
  | ((with_reducible apply rd_consV); (focus with_unfolding_all rfl)) | with_reducible refine rd_consC ?_ | with_reducible refine rd_cons0 ?_ | with_reducible refine rd_cons ?_ | with_reducible refine rd_nil ?_
  | ((with_reducible apply rd_ixL); (focus walk_at "sq"); (focus walk_at "ai"))
  | ((with_reducible apply rd_ixT); (focus walk_at "sq"); (focus walk_at "ai"))
  | with_reducible refine rd_int ?_ | with_reducible refine rd_intB ?_ | with_reducible refine rd_abs ?_
  | ((with_reducible apply rd_len); (focus walk_at "sq")) | ((with_reducible apply rd_lenT); (focus walk_at "sq"))
  | with_reducible refine rd_ifS ?_ | with_reducible refine iteT ?_ | with_reducible refine iteF ?_
  | with_reducible refine rd_tTest ?_ | with_reducible refine rd_tB ?_ | with_reducible refine rd_ex ?_
  | with_reducible refine rd_seqD ?_ | with_reducible refine rd_sSet1 ?_ | with_reducible refine rd_ret ?_ | with_reducible refine rd_drop ?_ | with_reducible refine rd_asg ?_
  | ((with_reducible apply rd_eq); (focus with_unfolding_all rfl)) | ((with_reducible apply rd_ne); (focus with_unfolding_all rfl))
  | with_reducible refine rd_isNr ?_ | with_reducible refine rd_notNr ?_ | with_reducible refine rd_isNn ?_ | with_reducible refine rd_notNn ?_ | with_reducible refine rd_isNi ?_ | with_reducible refine rd_notNi ?_
  | with_reducible refine rd_isN ?_ | with_reducible refine rd_notN ?_
  | with_reducible refine rd_and ?_ | with_reducible refine rd_or ?_ | with_reducible refine rd_not ?_ | with_reducible refine rd_if ?_
  | with_reducible refine rd_seq ?_ | with_reducible refine rd_gName ?_ | with_reducible refine rd_next ?_ | with_reducible refine rd_retN ?_
  | with_reducible refine rd_gSub ?_ | with_reducible refine rd_gCons ?_ | with_reducible refine rd_gNil ?_ | ((with_reducible apply rd_gTup); (focus walk_at "sq"); (focus with_unfolding_all rfl))
  | ((with_reducible apply rd_setL); (focus walk_at "hp"); (focus with_unfolding_all rfl))
  | with_reducible refine rd_par ?_ | with_reducible refine rd_par3 ?_ | with_reducible refine rd_ex2 ?_ | with_reducible refine rd_ex3 ?_
  | with_reducible refine rd_dget ?_ | with_reducible refine rd_din ?_ | with_reducible refine rd_dnotin ?_
  | ((with_reducible apply rd_dgS); (focus walk_at "rd"); (focus walk_at "dk"))
  | ((with_reducible apply rd_dgI); (focus walk_at "rd"); (focus walk_at "dk"))
  | ((with_reducible apply rd_doS); (focus walk_at "rd")) | ((with_reducible apply rd_doI); (focus walk_at "rd"))
  | with_reducible refine rd_dput ?_
  | ((with_reducible apply rd_dpS); (focus walk_at "hp"); (focus walk_at "sz")) | ((with_reducible apply rd_dpI); (focus walk_at "hp"); (focus walk_at "sz"))
  | with_reducible refine rd_bm ?_
  | ((with_reducible apply rd_tyL); (focus walk_at "hp")) | ((with_reducible apply rd_append); (focus walk_at "hp"); (focus walk_at "sz"))
  | with_reducible refine rd_tup ?_ | with_reducible refine rd_lst ?_ | with_reducible refine rd_dnew ?_
  | with_reducible refine rd_for ?_ | with_reducible refine rd_iR1 ?_ | with_reducible refine rd_iR2 ?_ | with_reducible refine rd_iL ?_ | with_reducible refine rd_iT ?_
  | with_reducible refine rd_disp ?_ | with_reducible refine rd_pair ?_ | with_reducible refine rd_pair0 ?_
  | with_reducible refine rd_andV ?_ | with_reducible refine rd_orV ?_
  | ((with_reducible apply rd_tupL); (focus walk_at "sq")) | ((with_reducible apply rd_listT); (focus walk_at "sq"))
  | with_reducible refine rd_lc ?_ | ((with_reducible apply rd_wp); (focus with_unfolding_all rfl)) | with_reducible refine rd_yes ?_
  | with_reducible refine rd_sl ?_ | with_reducible refine rd_noPart ?_ | with_reducible refine rd_part ?_ | with_reducible refine rd_exI ?_
  | ((with_reducible apply rd_isd); (focus walk_at "rd")) | ((with_reducible apply rd_dg1S); (focus walk_at "rd")) | ((with_reducible apply rd_dg1I); (focus walk_at "rd"))
  | with_reducible refine rd_dget1 ?_ | with_reducible refine rd_dget2 ?_ | with_reducible refine rd_dpop2 ?_ | with_reducible refine rd_dpop1 ?_ | with_reducible refine rd_dsetd ?_
  | ((with_reducible apply rd_slL); (focus walk_at "sq"))
  | with_reducible refine rd_iE ?_ | with_reducible refine rd_iS ?_
  | ((with_reducible apply rd_dictD); (focus walk_at "rd"))
  | with_reducible refine rd_setD ?_
  | with_reducible refine rd_meth ?_ | ((with_reducible apply rd_me); (focus walk_at "hp"); (focus walk_at "ln"))
  | with_reducible refine rd_fld ?_ | ((with_reducible apply rd_fl); (focus walk_at "hp"); (focus walk_at "cl"); (focus walk_at "na"); (focus walk_at "lk"))
  | with_reducible refine rd_sfld ?_ | with_reducible refine rd_gfld ?_
  | with_reducible refine rd_dupd ?_ | with_reducible refine rd_lvals ?_ | with_reducible refine rd_sitems ?_ | with_reducible refine rd_revL ?_ | with_reducible refine rd_iView ?_ | with_reducible refine rd_iKeys ?_ | with_reducible refine rd_dc ?_
  | with_reducible refine rd_iET ?_
  | with_reducible refine rd_call ?_)
local macro_rules | `(tactic| walk_at "r") => `(tactic| repeat (walk_at "s"))

local macro_rules | `(tactic| walk_at "lt") => `(tactic| first | with_reducible refine ifT (by decide +kernel) ?_ | with_reducible refine ifF (by decide +kernel) ?_)
local macro_rules | `(tactic| walk_at "R") => `(tactic| repeat (first | walk_at "s" | walk_at "lt"))
local macro_rules | `(tactic| walk_at "cl") => `(tactic| first | assumption | exact VA.cls (by assumption))
/-! ### the law's own defs -/
def PairAt (F : Hp) (rs : List Rdg) (hold : Int) (v : V) (k : Str) : Prop := ∃ t z, v = .ref t ∧ F t = some (.tup [.str k, z]) ∧ MissAt F rs hold k z
theorem PairAt.mono {F G : Hp} {rs : List Rdg} {hold : Int} {v : V} {k : Str} (h : PairAt F rs hold v k) (s : Same F G) : PairAt G rs hold v k := let ⟨t, z, a, b, c⟩ := h; ⟨t, z, a, s _ _ b, c.mono s⟩
def NowAt (F : Hp) (rs : List Rdg) (hold : Int) (v : V) : Prop := (v = .non ∧ ¬FitsP rs hold []) ∨ (FitsP rs hold [] ∧ ∃ l vs ys, v = .ref l ∧ F l = some (.lst vs) ∧ Paired (PairAt F rs hold) vs ys ∧ ∀ k, k ∈ ys ↔ ∃ g, MissP rs hold k g)
theorem NowAt.mono {F G : Hp} {rs : List Rdg} {hold : Int} {v : V} (h : NowAt F rs hold v) (s : Same F G) : NowAt G rs hold v := by
  rcases h with h | ⟨h, l, vs, ys, a, b, c, d⟩
  · exact .inl h
  · exact .inr ⟨h, l, vs, ys, a, s _ _ b, L2.Paired.mapP c fun _ _ z => z.mono s, d⟩
def BefAt (F : Hp) (rs : List Rdg) (i : Nat) (v : V) : Prop := (i = 0 ∧ v = .non) ∨ ∃ j, i = j + 1 ∧ NowAt F rs (j : Int) v
theorem BefAt.mono {F G : Hp} {rs : List Rdg} {i : Nat} {v : V} (h : BefAt F rs i v) (s : Same F G) : BefAt G rs i v := by
  rcases h with h | ⟨j, e, h⟩
  · exact .inl h
  · exact .inr ⟨j, e, h.mono s⟩
theorem BefAt.or {F : Hp} {rs : List Rdg} {i : Nat} {v : V} (h : BefAt F rs i v) : v = .non ∨ ∃ l, v = .ref l := by
  rcases h with ⟨_, h⟩ | ⟨j, e, ⟨h, _⟩ | ⟨_, l, _, _, h, _⟩⟩
  · exact .inl h
  · exact .inl h
  · exact .inr ⟨l, h⟩
theorem pairs_kvs {F : Hp} {rs : List Rdg} {hold : Int} : ∀ {vs : List V} {ys : List Str}, Paired (PairAt F rs hold) vs ys → ∃ (ps : List Addr) (kvs : List (Key × V)), vs = ps.map V.ref ∧ Paired (fun (p : Addr) (kv : Key × V) => F p = some (.tup [kV kv.1, kv.2])) ps kvs ∧ kvs.map (·.1) = ys.map Sum.inr ∧
    ∀ q ∈ kvs, ∃ k, q.1 = .inr k ∧ MissAt F rs hold k q.2
  | _, _, .nil => ⟨[], [], rfl, .nil, rfl, fun _ h => (nomatch h)⟩
  | _, _, .cons ⟨t, z, e, h, m⟩ r => by
    obtain ⟨ps, kvs, e1, e2, e3, e4⟩ := pairs_kvs r
    rename_i v k vs ys
    refine ⟨t :: ps, (.inr k, z) :: kvs, by rw [e, e1]; rfl, .cons h e2, by rw [List.map_cons, e3]; rfl, fun q hq => ?_⟩
    rcases List.mem_cons.mp hq with rfl | hq
    · exact ⟨k, rfl, m⟩
    · exact e4 q hq
theorem in_ints {ns : List Int} {g : Int} (h : g ∈ ns) : inV (.int g) (ns.map V.int) = true := by
  unfold inV
  rw [List.any_eq_true]
  exact ⟨.int g, List.mem_map.mpr ⟨g, h, rfl⟩, by show (g == g) = true; exact beq_self_eq_true g⟩
def spRight : Sp := fun vs H Q _ => ∃ (F : Hp) (R : List Cell) (b : Addr) (bx : Bx) (N : Int), vs = [.ref b] ∧ Ow F ((b, bx.o) :: R) H ∧ BxOk bx N ∧ N ≤ 500000 ∧
  ∀ (F' : Hp) (bx' : Bx) (H' : Hp), Same F F' → BxOk bx' (N + 1200) → Ow F' ((b, bx'.o) :: R) H' → Q (.bl true) H'
section
variable {P : Program} {w : World} {K : PySem.W.Frag} {mg : Str → Option Value} {base : Heap}
abbrev s_w_right : Stmt := top 37
theorem sc_w_right : FnScope ["_law_box_here", "_law_keep", "_law_table_here", "_law_broom", "_law_p", "_law_whole", "_law_seen", "_law_before", "_law_now", "_law_key_so", "_law_spots", "_law_mine", "_law_k"] ["_law_box_here"] (defScope s_w_right) := ⟨rfl, rfl, rfl, by decide +kernel, rfl, by decide +kernel, by decide +kernel⟩
theorem bd_w_right : Bd "_law_right" "_law_right" s_w_right ["_law_box_here"] := fun _ _ _ _ _ _ us hl => match us, hl with | [_], _ => rfl
/-! slots: 0 _law_box_here, 1 _law_keep, 2 _law_table_here, 3 _law_broom, 4 _law_p, 5 _law_whole, 6 _law_seen, 7 _law_before, 8 _law_now, 9 _law_key_so, 10 _law_spots, 11 _law_mine, 12 _law_k -/
theorem ok_w_right {f : Addr} (S : Src K "_law_right" "_law_right" s_w_right f) (T : Blt mg) (G_w_good : Def P w K mg base "_law_good" ["_law_box_here"] 7 spGood) (G_w_without : Def P w K mg base "_law_without" ["_law_seen"] 1 spWithout) (G_can_be : Def P w K mg base "can_be" ["hold", "view"] 29 spCanBe)
    (G_doubtful : Def P w K mg base "doubtful" ["hold", "view"] 31 spDoubtful) (G_missed_places : Def P w K mg base "missed_places" ["hold", "view", "key"] 31 spMissedPlaces) : Fn P w K mg base f ["_law_box_here"] 32 spRight := by
  refine fn_mk S sc_w_right bd_w_right (fun vs H Q E h => ?_) (fun cdv A outer s0 H vs Q E hr h => ?_)
  · obtain ⟨_, _, _, _, _, rfl, _⟩ := h
    rfl
  · obtain ⟨F, R, b, bx, N, rfl, O, B, hN, k⟩ := h
    have hu := hu_of hr
    refine ⟨_, (pss_cons (ps_asg (pe_def G_w_good (hr.mono (by first | decide | omega)) rfl (pa_cons (pv 0) pa_nil)) (pg_tup (n := 5) rfl (pgs_cons (pg_name (i := 2) sc_w_right.nd rfl (Or.inl rfl)) (pgs_cons (pg_name (i := 3) sc_w_right.nd rfl (Or.inl rfl)) (pgs_cons (pg_name (i := 1) sc_w_right.nd rfl (Or.inr rfl)) (pgs_cons (pg_name (i := 4) sc_w_right.nd rfl (Or.inl rfl)) (pgs_cons (pg_name (i := 5) sc_w_right.nd rfl (Or.inl rfl)) pgs_nil)))))))
      (pss_cons (ps_asg (pe_tup (pa_cons (pe_def G_w_without (hr.mono (by first | decide | omega)) rfl (pa_cons (pv 5) pa_nil)) (pa_cons pe_non pa_nil))) (pg_tup (n := 2) rfl (pgs_cons (pg_name (i := 6) sc_w_right.nd rfl (Or.inr rfl)) (pgs_cons (pg_name (i := 7) sc_w_right.nd rfl (Or.inl rfl)) pgs_nil))))
      (pss_cons (ps_for PassesOwn.never rfl (pi_range1 rfl T.range (pa_cons pe_int pa_nil)) (pg_name (i := 1) sc_w_right.nd rfl (Or.inr rfl))
        (pss_cons (ps_set (i := 8) sc_w_right.nd rfl (Or.inl rfl) pe_non)
        (pss_cons (ps_if (pt_val (pe_def G_can_be (hr.mono (by first | decide | omega)) rfl (pa_cons (pv 1) (pa_cons (pv 6) pa_nil))))
          (pss_one ((ps_setLc (i := 8) (own := [("_law_key_so", 9)]) rfl sc_w_right.nd rfl rfl (sw_true rfl rfl rfl (by decide +kernel)) (pi_list (pe_def G_doubtful (hr.mono (by first | decide | omega)) rfl (pa_cons (pv 1) (pa_cons (pv 6) pa_nil)))) (blkOk_by (N := ["_law_box_here", "_law_keep", "_law_table_here", "_law_broom", "_law_p", "_law_whole", "_law_seen", "_law_before", "_law_now", "_law_key_so", "_law_spots", "_law_mine", "_law_k"]) (sc := defScope s_w_right) (own := [("_law_key_so", 9)]) (by decide +kernel)) (fun _ _ _ _ _ => (pg_name (i := 9) sc_w_right.nd rfl (Or.inl rfl))) (fun _ _ _ _ _ => pts_nil) (fun _ _ _ _ _ => (pe_tup (pa_cons (pv 9) (pa_cons (pe_def G_missed_places (hr.mono (by first | decide | omega)) rfl (pa_cons (pv 1) (pa_cons (pv 6) (pa_cons (pv 9) pa_nil)))) pa_nil)))))))
          pss_nil)
        (pss_cons (ps_if (PW.pt (pw_and (pt_cmpR op_isN1 (pv 7) pe_non (nomark _)) (pw_and (pt_cmpR op_notN1 (pv 8) pe_non (nomark _)) (pw_and1 (pt_cmpR op_gt (pv 1) pe_int (nomark _))))))
          (pss_one (ps_ret pe_bl))
          pss_nil)
        (pss_cons (ps_for PassesOwn.never rfl (pi_list (pe_ifExp (pt_cmpR op_notN1 (pv 8) pe_non (nomark _)) (pv 8) (pe_lst pa_nil))) (pg_tup (n := 2) rfl (pgs_cons (pg_name (i := 9) sc_w_right.nd rfl (Or.inl rfl)) (pgs_cons (pg_name (i := 10) sc_w_right.nd rfl (Or.inl rfl)) pgs_nil)))
          (pss_cons (ps_set (i := 11) sc_w_right.nd rfl (Or.inr rfl) (pe_ifExp (pt_cmpR op_notN1 (pv 7) pe_non (nomark _)) (pe_dget2 hu (pe_callTy (cl_dictP rfl) (by rfl) T.dict (by decide +kernel) (pa_cons (pv 7) pa_nil)) (pv 9) (pe_lst pa_nil) ⟨rfl, rfl, rfl, rfl⟩) (pv 10)))
          (pss_one (ps_if (pt_cmpR (op_neD hr.units) (pe_lc (own := [("_law_k", 12)]) rfl sc_w_right.nd (pi_list (pv 10)) (blkOk_by (N := ["_law_box_here", "_law_keep", "_law_table_here", "_law_broom", "_law_p", "_law_whole", "_law_seen", "_law_before", "_law_now", "_law_key_so", "_law_spots", "_law_mine", "_law_k"]) (sc := defScope s_w_right) (own := [("_law_k", 12)]) (by decide +kernel)) (fun _ _ _ _ _ => (pg_name (i := 12) sc_w_right.nd rfl (Or.inl rfl))) (fun _ _ _ _ _ => (pts_one (pt_cmpR (r := rIn K true) op_notIn_seq (pv 12) (pv 11) rfl))) (fun _ _ _ _ _ => (pv 12))) (pe_lst pa_nil) (nomark _))
            (pss_one (ps_ret pe_bl))
            pss_nil))))
        (pss_one (ps_set (i := 7) sc_w_right.nd rfl (Or.inl rfl) (pv 8))))))))
      (pss_one (ps_ret pe_bl))))), ?_⟩
    walk_at "r"
    refine ⟨F, R, b, bx, N, rfl, O, B, by omega, fun r F1 bx1 H s1 B O ⟨v0, v1, v2, v3, v4, rs0, hr5, hy3, hv, hc⟩ => ?_⟩
    walk_at "r"
    refine ⟨F1, _, v4, rs0, rfl, O, hv, hc, fun sv rs F2 H s2 hv hc hno O => ?_⟩
    walk_at "r"
    refine ⟨by walk_at "sz", fun tp hp => ?_⟩
    obtain ⟨F3, s3, g3, O⟩ := O.newF (o := .tup [sv, .non]) hp
    have hv := hv.mono s3
    walk_at "r"
    refine lp_R1 (by decide) (by decide) (fun i σ' H' => ∃ (F4 : Hp) (w1 w8 w9 w10 w11 w12 : Option V) (bf : V), σ' = [some (.ref b), w1, some v0, some v1, some v3, some v4, some sv, some bf, w8, w9, w10, w11, w12] ∧ Same F3 F4 ∧ BefAt F4 rs i bf ∧ Ow F4 ((b, bx1.o) :: R) H')
      ⟨F3, _, _, _, _, _, _, _, rfl, Same.refl _, .inl ⟨rfl, rfl⟩, O⟩ ?_ ?_
    · rintro i σ' H' hi ⟨F4, w1, w8, w9, w10, w11, w12, bf, rfl, s4, hbf, O⟩
      have hv := hv.mono s4
      walk_at "r"
      refine ⟨F4, _, sv, (i : Int), rs, rfl, O, hv, hc, hno, fun bb H hb O => ?_⟩
      walk_at "r"
      refine brb (fun hbb => ?_) (fun hbb => ?_)
      · have hf := hb.mp hbb
        walk_at "r"
        refine ⟨F4, _, sv, (i : Int), rs, rfl, O, hv, hc, hno, hf, fun l ys F5 H s5 hl hys hyk hyl O => ?_⟩
        have hv := hv.mono s5
        walk_at "r"
        refine lc_L (ys.map V.str) O (fun m F' acc => Paired (PairAt F' rs (i : Int)) acc (ys.take m)) .nil (fun D F' acc H s O => SqL.of (O.fz (s _ _ hl))) (fun D m y F' acc H hy s pr l O => ?_) (fun D F6 acc H s6 pr l O => ?_) (SqL.of (O.fz hl))
        · rw [List.getElem?_map] at hy
          obtain ⟨key, hkey, rfl⟩ := Option.map_eq_some_iff.mp hy
          have hm : m < ys.length := (List.getElem?_eq_some_iff.mp hkey).1
          walk_at "r"
          refine ⟨F', _, sv, (i : Int), key, rs, rfl, O, hv.mono s, hc, hno, hf, hyk key (List.mem_of_getElem? hkey), fun z F7 H s7 hz O => ?_⟩
          walk_at "r"
          refine ⟨by walk_at "sz", fun t hp => ?_⟩
          obtain ⟨F8, s8, g8, O⟩ := O.newF (o := .tup [.str key, z]) hp
          refine lcP (by omega) (s.trans (s7.trans s8)) l O ?_
          rw [List.take_add_one, hkey]
          exact (L2.Paired.mapP pr fun _ _ z => z.mono (s7.trans s8)).snoc ⟨t, z, rfl, g8, hz.mono s8⟩
        · rw [List.length_map, List.take_length] at pr
          have f6 := O.fle
          have hD : upd F6 D (.lst acc) D = some (.lst acc) := upd_same
          have O := O.freeze
          obtain ⟨F7, e7⟩ : ∃ F7, F7 = upd F6 D (.lst acc) := ⟨_, rfl⟩
          rw [← e7] at f6 hD O
          have pr := L2.Paired.mapP pr fun _ _ z => PairAt.mono z f6
          have hbf := hbf.mono (s5.trans (s6.trans f6))
          have s37 := s4.trans (s5.trans (s6.trans f6))
          have now : NowAt F7 rs (i : Int) (.ref D) := .inr ⟨hf, D, acc, ys, rfl, hD, pr, hys⟩
          rcases hbf with ⟨rfl, rfl⟩ | ⟨j, rfl, ⟨_, hnf⟩ | ⟨hfj, lb, bvs, bys, rfl, hlb, hbp, hbys⟩⟩
          · walk_at "R"
            refine lp_L acc (fun m σ' H' => ∃ (F8 : Hp) (u9 u10 u11 u12 : Option V), σ' = [some (.ref b), some (.int (((0 : Nat) : Int))), some v0, some v1, some v3, some v4, some sv, some V.non, some (.ref D), u9, u10, u11, u12] ∧ Same F7 F8 ∧ Ow F8 ((b, bx1.o) :: R) H')
              ⟨F7, _, _, _, _, rfl, Same.refl _, O⟩ (fun m σ' H' _ ⟨_, _, _, _, _, _, s8, O⟩ => SqL.of (O.fz (s8 _ _ hD))) ?_ ?_
            · rintro m y σ' H' hy ⟨F8, u9, u10, u11, u12, rfl, s8, O⟩
              obtain ⟨key, hkey, t, z, rfl, ht, ml, gs, rfl, hgl, hgl2, hgs⟩ := L2.paired_get pr hy
              have ht := s8 _ _ ht
              have hgl := s8 _ _ hgl
              walk_at "R"
              have s9 : Same F8 F8 := Same.refl _
              have hsub : ∀ g ∈ gs, g ∈ gs := fun g h => h
              have hlm := hgl
              refine lc_L (gs.map V.int) O (fun _ _ acc => acc = []) rfl (fun D F' acc H s O => SqL.of (O.fz (s _ _ hgl))) (fun D m2 y F' acc H hy s pr l O => ?_) (fun D2 F10 acc H s10 pr l O => ?_) (SqL.of (O.fz hgl))
              · rw [List.getElem?_map] at hy
                obtain ⟨g, hg, rfl⟩ := Option.map_eq_some_iff.mp hy
                have hm2 : m2 < gs.length := (List.getElem?_eq_some_iff.mp hg).1
                have hgm := hsub g (List.mem_of_getElem? hg)
                walk_at "r"
                refine rd_ninL (SqL.of (O.fz (s _ _ hlm))) rfl (flat_ints _) ?_
                rw [in_ints hgm]
                refine ⟨false, rfl, ?_⟩
                exact iteF (lcN s l O pr)
              · subst pr
                walk_at "r"
                refine rd_neNil (ds := []) (fun H1 O1 => .lst (SqL.of (O1.get 0)) .nil) (fun _ h => (nomatch h)) O fun H O => ?_
                have O := O.drop
                walk_at "R"
                exact ⟨F10, _, _, _, _, rfl, s8.trans (s9.trans s10), O⟩
            · rintro σ' H' ⟨F8, u9, u10, u11, u12, rfl, s8, O⟩
              walk_at "r"
              exact ⟨F8, _, _, _, _, _, _, _, rfl, s37.trans s8, .inr ⟨_, rfl, now.mono s8⟩, O⟩
          · exfalso
            have e : ((j + 1 : Nat) : Int) = (j : Int) + 1 := by omega
            rw [e] at hf
            exact hnf (fits_mono hc hf)
          · walk_at "R"
            refine lp_L acc (fun m σ' H' => ∃ (F8 : Hp) (u9 u10 u11 u12 : Option V), σ' = [some (.ref b), some (.int ((j + 1 : Nat) : Int)), some v0, some v1, some v3, some v4, some sv, some (V.ref lb), some (.ref D), u9, u10, u11, u12] ∧ Same F7 F8 ∧ Ow F8 ((b, bx1.o) :: R) H')
              ⟨F7, _, _, _, _, rfl, Same.refl _, O⟩ (fun m σ' H' _ ⟨_, _, _, _, _, _, s8, O⟩ => SqL.of (O.fz (s8 _ _ hD))) ?_ ?_
            · rintro m y σ' H' hy ⟨F8, u9, u10, u11, u12, rfl, s8, O⟩
              obtain ⟨key, hkey, t, z, rfl, ht, ml, gs, rfl, hgl, hgl2, hgs⟩ := L2.paired_get pr hy
              have ht := s8 _ _ ht
              have hgl := s8 _ _ hgl
              have hlb := s8 _ _ hlb
              walk_at "R"
              have ej : ((j + 1 : Nat) : Int) = (j : Int) + 1 := by omega
              obtain ⟨ps, kvs, rfl, hpk, hkeys, hmiss⟩ := pairs_kvs hbp
              have hsome : (valV (mergeK [] kvs) (.inr key)).isSome := merge_has kvs [] (.inl (by
                rw [hkeys]
                refine List.mem_map.mpr ⟨key, (hbys key).mpr ?_, rfl⟩
                obtain ⟨g, hg⟩ := (hys key).mp (List.mem_of_getElem? hkey)
                rw [ej] at hg
                exact ⟨g, miss_mono hc hg⟩))
              obtain ⟨mv, hmv⟩ := Option.isSome_iff_exists.mp hsome
              rcases merge_some kvs [] hmv with hmem | h0
              case inr => cases h0
              obtain ⟨k2, ek, lm, gsm, e2, hlm, _, hgsm⟩ := hmiss _ hmem
              cases ek
              have e2 : mv = .ref lm := e2
              subst e2
              have hsub : ∀ g ∈ gs, g ∈ gsm := fun g h => by
                have hg := (hgs g).mp h
                rw [ej] at hg
                exact (hgsm g).mpr (miss_mono hc hg)
              refine ⟨lb, ps, kvs, rfl, SqL.of (O.fz hlb), L2.Paired.mapP hpk (fun _ _ z => SqT.of (O.fz (s8 _ _ z))), fun d hp => ?_⟩
              have O := O.new (o := .dK (mergeK [] kvs)) hp
              walk_at "r"
              refine ⟨by walk_at "sz", fun dl hp => ?_⟩
              obtain ⟨F9, s9, g9, O⟩ := O.newF (o := .lst []) hp
              refine rd_dg1S (Rd.of (O.get 0)) ?_
              rw [hmv]
              simp only [Option.getD_some]
              have O := O.drop
              have hlm := s9 _ _ (s8 _ _ hlm)
              have hgl := s9 _ _ hgl
              walk_at "r"
              refine lc_L (gs.map V.int) O (fun _ _ acc => acc = []) rfl (fun D F' acc H s O => SqL.of (O.fz (s _ _ hgl))) (fun D m2 y F' acc H hy s pr l O => ?_) (fun D2 F10 acc H s10 pr l O => ?_) (SqL.of (O.fz hgl))
              · rw [List.getElem?_map] at hy
                obtain ⟨g, hg, rfl⟩ := Option.map_eq_some_iff.mp hy
                have hm2 : m2 < gs.length := (List.getElem?_eq_some_iff.mp hg).1
                have hgm := hsub g (List.mem_of_getElem? hg)
                walk_at "r"
                refine rd_ninL (SqL.of (O.fz (s _ _ hlm))) rfl (flat_ints _) ?_
                rw [in_ints hgm]
                refine ⟨false, rfl, ?_⟩
                exact iteF (lcN s l O pr)
              · subst pr
                walk_at "r"
                refine rd_neNil (ds := []) (fun H1 O1 => .lst (SqL.of (O1.get 0)) .nil) (fun _ h => (nomatch h)) O fun H O => ?_
                have O := O.drop
                walk_at "R"
                exact ⟨F10, _, _, _, _, rfl, s8.trans (s9.trans s10), O⟩
            · rintro σ' H' ⟨F8, u9, u10, u11, u12, rfl, s8, O⟩
              walk_at "r"
              exact ⟨F8, _, _, _, _, _, _, _, rfl, s37.trans s8, .inr ⟨_, rfl, now.mono s8⟩, O⟩
      · have hnf : ¬FitsP rs (i : Int) [] := fun h => by
          have := hb.mpr h
          rw [hbb] at this
          cases this
        have now : NowAt F4 rs (i : Int) .non := .inl ⟨rfl, hnf⟩
        rcases hbf.or with rfl | ⟨lb, rfl⟩
        · walk_at "R"
          refine ⟨by walk_at "sz", fun q hp => ?_⟩
          obtain ⟨F5, s5, g5, O⟩ := O.newF (o := .lst []) hp
          refine lp_L [] (fun _ σ' H' => σ' = _ ∧ H' = _) ⟨rfl, rfl⟩ (fun m σ' H' _ ⟨_, e⟩ => by rw [e]; exact SqL.of (O.fz g5)) (fun m x σ' H' h _ => by simp at h) ?_
          rintro σ' H' ⟨rfl, rfl⟩
          walk_at "r"
          exact ⟨F5, _, _, _, _, _, _, _, rfl, s4.trans s5, .inr ⟨_, rfl, now.mono s5⟩, O⟩
        · walk_at "R"
          refine ⟨by walk_at "sz", fun q hp => ?_⟩
          obtain ⟨F5, s5, g5, O⟩ := O.newF (o := .lst []) hp
          refine lp_L [] (fun _ σ' H' => σ' = _ ∧ H' = _) ⟨rfl, rfl⟩ (fun m σ' H' _ ⟨_, e⟩ => by rw [e]; exact SqL.of (O.fz g5)) (fun m x σ' H' h _ => by simp at h) ?_
          rintro σ' H' ⟨rfl, rfl⟩
          walk_at "r"
          exact ⟨F5, _, _, _, _, _, _, _, rfl, s4.trans s5, .inr ⟨_, rfl, now.mono s5⟩, O⟩
    · rintro σ' H' ⟨F4, w1, w8, w9, w10, w11, w12, bf, rfl, s4, hbf, O⟩
      walk_at "r"
      exact k F4 bx1 _ (((s1.trans s2).trans s3).trans s4) B O
end
end K7

set_option Elab.async false
set_option linter.all false
set_option maxRecDepth 100000
set_option maxHeartbeats 4000000
set_option pp.deepTerms false
set_option pp.maxSteps 600
namespace K7
open PySem PySem.Spec PyProof.Rows L2 ItX
local macro_rules | `(tactic| walk_at "hp") => `(tactic| with_unfolding_all first
  | exact Ow.get (by assumption) 0 | exact Ow.get (by assumption) 1 | exact Ow.get (by assumption) 2 | exact Ow.get (by assumption) 3
  | exact Ow.fz (by assumption) (by assumption)
  | exact Ow.get (by assumption) 4 | exact Ow.get (by assumption) 5 | exact Ow.get (by assumption) 6 | exact Ow.get (by assumption) 7 | exact Ow.get (by assumption) 8 | exact Ow.get (by assumption) 9)
local macro_rules | `(tactic| walk_at "sq") => `(tactic| with_unfolding_all first
  | exact SqL.of (by walk_at "hp") | exact SqT.of (by walk_at "hp") | assumption)
local macro_rules | `(tactic| walk_at "rd") => `(tactic| with_unfolding_all first
  | exact Rd.of (by walk_at "hp") | assumption | exact Or.inr ⟨_, by walk_at "hp"⟩)
local macro_rules | `(tactic| walk_at "dk") => `(tactic| assumption)
local macro_rules | `(tactic| walk_at "cl") => `(tactic| assumption)
local macro_rules | `(tactic| walk_at "na") => `(tactic| assumption)
local macro_rules | `(tactic| walk_at "lk") => `(tactic| assumption)
local macro_rules | `(tactic| walk_at "ln") => `(tactic| assumption)
local macro_rules | `(tactic| walk_at "ai") => `(tactic| first | with_unfolding_all rfl | exact atI_zero | assumption)
local macro_rules | `(tactic| walk_at "sd") => `(tactic| with_unfolding_all first
  | rfl | assumption | decide | omega
  | exact ⟨by omega, by omega⟩ | exact Or.inl ⟨by omega, by omega⟩ | exact Or.inr ⟨by omega, by omega⟩ | exact ⟨by decide, by decide, by omega⟩)
local macro_rules | `(tactic| walk_at "sz") => `(tactic| first
  | with_unfolding_all exact szl (Nat.le_of_ble_eq_true rfl)
  | with_unfolding_all exact sztl (Nat.le_of_ble_eq_true rfl)
  | exact szl (by simp <;> omega)
  | exact sztl (by simp <;> omega))
local macro_rules | `(tactic| walk_at "s") => `(tactic| first
  | with_reducible refine rd_I0 ?_
  | ((with_reducible apply rd_I); (focus walk_at "sd"))
  | ((with_reducible apply rd_opVC); (focus with_unfolding_all rfl))
  | ((with_reducible apply rd_opVV); (focus with_unfolding_all rfl); (focus with_unfolding_all rfl))
  | ((with_reducible apply rd_opV); (focus with_unfolding_all rfl))
  | with_reducible refine rd_opC ?_
  | with_reducible refine rd_op ?_
  | ((with_reducible apply rd_var); (focus with_unfolding_all rfl))
  | with_reducible refine rd_c ?_
  | with_reducible refine rd_sSet ?_
  | ((with_reducible apply rd_CB1V); (focus with_unfolding_all rfl)) | with_reducible refine rd_CB1 ?_ | with_reducible refine rd_CB ?_
  | ((with_reducible apply rd_consV); (focus with_unfolding_all rfl)) | with_reducible refine rd_consC ?_ | with_reducible refine rd_cons0 ?_ | with_reducible refine rd_cons ?_ | with_reducible refine rd_nil ?_
  | ((with_reducible apply rd_ixL); (focus walk_at "sq"); (focus walk_at "ai"))
  | ((with_reducible apply rd_ixT); (focus walk_at "sq"); (focus walk_at "ai"))
  | with_reducible refine rd_int ?_ | with_reducible refine rd_intB ?_ | with_reducible refine rd_abs ?_
  | ((with_reducible apply rd_len); (focus walk_at "sq")) | ((with_reducible apply rd_lenT); (focus walk_at "sq"))
  | with_reducible refine rd_ifS ?_ | with_reducible refine iteT ?_ | with_reducible refine iteF ?_
  | with_reducible refine rd_tTest ?_ | with_reducible refine rd_tB ?_ | with_reducible refine rd_ex ?_
  | with_reducible refine rd_seqD ?_ | with_reducible refine rd_sSet1 ?_ | with_reducible refine rd_ret ?_ | with_reducible refine rd_drop ?_ | with_reducible refine rd_asg ?_
  | ((with_reducible apply rd_eq); (focus with_unfolding_all rfl)) | ((with_reducible apply rd_ne); (focus with_unfolding_all rfl))
  | with_reducible refine rd_isNr ?_ | with_reducible refine rd_notNr ?_ | with_reducible refine rd_isNn ?_ | with_reducible refine rd_notNn ?_ | with_reducible refine rd_isNi ?_ | with_reducible refine rd_notNi ?_
  | with_reducible refine rd_isN ?_ | with_reducible refine rd_notN ?_
  | with_reducible refine rd_and ?_ | with_reducible refine rd_or ?_ | with_reducible refine rd_not ?_ | with_reducible refine rd_if ?_
  | with_reducible refine rd_seq ?_ | with_reducible refine rd_gName ?_ | with_reducible refine rd_next ?_ | with_reducible refine rd_retN ?_
  | with_reducible refine rd_gSub ?_ | with_reducible refine rd_gCons ?_ | with_reducible refine rd_gNil ?_ | ((with_reducible apply rd_gTup); (focus walk_at "sq"); (focus with_unfolding_all rfl))
  | ((with_reducible apply rd_setL); (focus walk_at "hp"); (focus with_unfolding_all rfl))
  | with_reducible refine rd_par ?_ | with_reducible refine rd_par3 ?_ | with_reducible refine rd_ex2 ?_ | with_reducible refine rd_ex3 ?_
  | with_reducible refine rd_dget ?_ | with_reducible refine rd_din ?_ | with_reducible refine rd_dnotin ?_
  | ((with_reducible apply rd_dgS); (focus walk_at "rd"); (focus walk_at "dk"))
  | ((with_reducible apply rd_dgI); (focus walk_at "rd"); (focus walk_at "dk"))
  | ((with_reducible apply rd_doS); (focus walk_at "rd")) | ((with_reducible apply rd_doI); (focus walk_at "rd"))
  | with_reducible refine rd_dput ?_
  | ((with_reducible apply rd_dpS); (focus walk_at "hp"); (focus walk_at "sz")) | ((with_reducible apply rd_dpI); (focus walk_at "hp"); (focus walk_at "sz"))
  | with_reducible refine rd_bm ?_
  | ((with_reducible apply rd_tyL); (focus walk_at "hp")) | ((with_reducible apply rd_append); (focus walk_at "hp"); (focus walk_at "sz"))
  | with_reducible refine rd_tup ?_ | with_reducible refine rd_lst ?_ | with_reducible refine rd_dnew ?_
  | with_reducible refine rd_for ?_ | with_reducible refine rd_iR1 ?_ | with_reducible refine rd_iR2 ?_ | with_reducible refine rd_iL ?_ | with_reducible refine rd_iT ?_
  | with_reducible refine rd_disp ?_ | with_reducible refine rd_pair ?_ | with_reducible refine rd_pair0 ?_
  | with_reducible refine rd_andV ?_ | with_reducible refine rd_orV ?_
  | ((with_reducible apply rd_tupL); (focus walk_at "sq")) | ((with_reducible apply rd_listT); (focus walk_at "sq"))
  | with_reducible refine rd_lc ?_ | ((with_reducible apply rd_wp); (focus with_unfolding_all rfl)) | with_reducible refine rd_yes ?_
  | with_reducible refine rd_sl ?_ | with_reducible refine rd_noPart ?_ | with_reducible refine rd_part ?_ | with_reducible refine rd_exI ?_
  | ((with_reducible apply rd_isd); (focus walk_at "rd")) | ((with_reducible apply rd_dg1S); (focus walk_at "rd")) | ((with_reducible apply rd_dg1I); (focus walk_at "rd"))
  | with_reducible refine rd_dget1 ?_ | with_reducible refine rd_dget2 ?_ | with_reducible refine rd_dpop2 ?_ | with_reducible refine rd_dpop1 ?_ | with_reducible refine rd_dsetd ?_
  | ((with_reducible apply rd_slL); (focus walk_at "sq"))
  | with_reducible refine rd_iE ?_ | with_reducible refine rd_iS ?_
  | ((with_reducible apply rd_dictD); (focus walk_at "rd"))
  | with_reducible refine rd_setD ?_
  | with_reducible refine rd_meth ?_ | ((with_reducible apply rd_me); (focus walk_at "hp"); (focus walk_at "ln"))
  | with_reducible refine rd_fld ?_ | ((with_reducible apply rd_fl); (focus walk_at "hp"); (focus walk_at "cl"); (focus walk_at "na"); (focus walk_at "lk"))
  | with_reducible refine rd_sfld ?_ | with_reducible refine rd_gfld ?_
  | with_reducible refine rd_dupd ?_ | with_reducible refine rd_lvals ?_ | with_reducible refine rd_sitems ?_ | with_reducible refine rd_revL ?_ | with_reducible refine rd_iView ?_ | with_reducible refine rd_iKeys ?_ | with_reducible refine rd_dc ?_
  | with_reducible refine rd_iET ?_
  | with_reducible refine rd_call ?_)
local macro_rules | `(tactic| walk_at "r") => `(tactic| repeat (walk_at "s"))

local macro_rules | `(tactic| walk_at "lt") => `(tactic| first | with_reducible refine ifT (by decide +kernel) ?_ | with_reducible refine ifF (by decide +kernel) ?_)
local macro_rules | `(tactic| walk_at "R") => `(tactic| repeat (first | walk_at "s" | walk_at "lt"))
def spLaw (K : PySem.W.Frag) : Sp := fun vs H Q _ => ∃ (a : Addr) (ns : List Int), vs = [.ref a] ∧ SqL K H a (ns.map V.int) ∧ ∀ H' : Hp, Q (.bl true) H'
theorem ow_all (H : Hp) : Ow H [] H := ⟨Same.refl _, fun _ h => (nomatch h), fun _ h => (nomatch h), List.nodup_nil⟩
section
variable {P : Program} {w : World} {K : PySem.W.Frag} {mg : Str → Option Value} {base : Heap}
theorem fn_mkF {x qual : Str} {st : Stmt} {f : Addr} {fd : FuncData} {N ps : List Str} {k : Nat} {sp : Sp} (F : FunD K x qual (defArgs st) (defBody st) (defScope st) [] [] f fd) (sc : FnScope N ps (defScope st)) (len : ∀ vs H Q E, sp vs H Q E → vs.length = ps.length)
    (hbody : ∀ (cdv : Value) (A : Around) (outer : List Env) (s : Shared) (H : Hp) (vs : List V) (Q : VK) (E : XK), Room k (A.deeper (envOfC qual (defScope st) s.heap.objs.size f cdv)) → sp vs H Q E →
      ∃ t, PSs (cx P w K mg base N qual st f cdv A outer s H E) (defBody st) t ∧ t { nx := fun _ H' => Q .non H', rt := Q } (start N vs) H) : FnOk P w K mg base CX0 (k + 1) f fd ps sp := by
  refine F.ok sc len fun cdv A outer s H vs Q E hr h => ?_
  obtain ⟨t, h1, h2⟩ := hbody cdv A outer s H vs Q E hr h
  exact ⟨t, h1.nox, h2⟩
abbrev s_law : Stmt := top 38
theorem sc_law : FnScope ["_law_script", "_law_k", "_law_box_here", "_law_lap"] ["_law_script"] (defScope s_law) := ⟨rfl, rfl, rfl, by decide +kernel, rfl, by decide +kernel, by decide +kernel⟩
theorem bd_law : Bd "law" "law" s_law ["_law_script"] := fun _ _ _ _ _ _ us hl => match us, hl with | [_], _ => rfl
/-! slots: 0 _law_script, 1 _law_k, 2 _law_box_here, 3 _law_lap -/
theorem ok_law {f : Addr} {fd : FuncData} (S : FunD K "law" "law" (defArgs s_law) (defBody s_law) (defScope s_law) [] [] f fd) (T : Blt mg) (G_w_box : Def P w K mg base "_law_box" ["_law_script", "_law_k"] 1 (spBox K)) (G_w_right : Def P w K mg base "_law_right" ["_law_box_here"] 32 spRight) : FnOk P w K mg base CX0 33 f fd ["_law_script"] (spLaw K) := by
  refine fn_mkF S sc_law (fun vs H Q E h => ?_) (fun cdv A outer s0 H vs Q E hr h => ?_)
  · obtain ⟨_, _, rfl, _⟩ := h
    rfl
  · obtain ⟨a, ns, rfl, hS, k⟩ := h
    have hu := hu_of hr
    have O := ow_all H
    refine ⟨_, (pss_cons (ps_for PassesOwn.never rfl (pi_range1 rfl T.range (pa_cons (pe_op op_add pe_int (pe_callB (cl_min2 rfl) (by rfl) T.min (by decide +kernel) (pa_cons pe_int (pa_cons (pe_callB cl_len (by rfl) T.len (by decide +kernel) (pa_cons (pv 0) pa_nil)) pa_nil)))) pa_nil)) (pg_name (i := 1) sc_law.nd rfl (Or.inl rfl))
        (pss_cons (ps_set (i := 2) sc_law.nd rfl (Or.inr rfl) (pe_def G_w_box (hr.mono (by first | decide | omega)) rfl (pa_cons (pv 0) (pa_cons (pv 1) pa_nil))))
        (pss_one (ps_if (pt_not (pt_val (pe_callB (cr_all rfl) (by rfl) T.all (by decide +kernel) (pa_cons (pe_lc (own := [("_law_lap", 3)]) rfl sc_law.nd (pi_range1 rfl T.range (pa_cons pe_int pa_nil)) (blkOk_by (N := ["_law_script", "_law_k", "_law_box_here", "_law_lap"]) (sc := defScope s_law) (own := [("_law_lap", 3)]) (by decide +kernel)) (fun _ _ _ _ _ => (pg_name (i := 3) sc_law.nd rfl (Or.inl rfl))) (fun _ _ _ _ _ => pts_nil) (fun _ _ _ _ _ => (pe_def G_w_right (hr.mono (by first | decide | omega)) rfl (pa_cons (pv 2) pa_nil)))) pa_nil))))
          (pss_one (ps_ret pe_bl))
          pss_nil))))
      (pss_one (ps_ret pe_bl))), ?_⟩
    walk_at "r"
    refine rd_min2 ?_
    walk_at "r"
    have n0 : (0 : Int) ≤ 1 + (if ((ns.map V.int).length : Int) < 1 then ((ns.map V.int).length : Int) else 1) := by split <;> omega
    have n1 : 1 + (if ((ns.map V.int).length : Int) < 1 then ((ns.map V.int).length : Int) else 1) ≤ 2 := by split <;> omega
    refine lp_R1 n0 (by omega) (fun i σ' H' => ∃ (F1 : Hp) (w1 w2 w3 : Option V), σ' = [some (.ref a), w1, w2, w3] ∧ Same H F1 ∧ Ow F1 [] H') ⟨H, _, _, _, rfl, Same.refl _, O⟩ ?_ ?_
    · rintro i σ' H' hi ⟨F1, w1, w2, w3, rfl, s1, O⟩
      have hS1 := s1.seq hS
      walk_at "r"
      refine ⟨F1, [], a, ns, (i : Int), rfl, O, hS1, by omega, by omega, fun p bx H B O => ?_⟩
      walk_at "r"
      refine ⟨3, rfl, by decide, by decide, fun D hD => ?_⟩
      refine lc_it walk_range (fun i H => ∃ (F2 : Hp) (bx2 : Bx), Same F1 F2 ∧ BxOk bx2 (1200 * (i : Int)) ∧ Ow F2 [(D, .lst (List.replicate i (V.bl true))), (p, bx2.o)] H) ⟨F1, bx, Same.refl _, B.mono (by decide), O.new hD⟩ (fun _ _ _ _ => trivial) (fun j y H1 H2 hj ⟨F2, bx2, s2, B, O⟩ hy => ?_) (fun H1 ⟨F2, bx2, s2, B, O⟩ => ?_)
      · obtain ⟨rfl, rfl⟩ := hy
        have hj : j < 3 := hj
        walk_at "r"
        have O := O.top 1
        refine ⟨F2, _, p, bx2, 1200 * (j : Int), rfl, O, B, by omega, fun F3 bx3 H3 s3 B O => ?_⟩
        have O := O.top 1
        refine ⟨_, O.get 0, sztl (by simp; omega), F3, bx3, s2.trans s3, ?_, ?_⟩
        · have e : 1200 * (((j + 1 : Nat)) : Int) = 1200 * (j : Int) + 1200 := by omega
          rw [e]
          exact B
        · rw [List.replicate_succ']
          exact O.set 0 _
      · refine ⟨D, List.replicate 3 true, rfl, SqL.of (O.get 0), ?_⟩
        have O := O.drop.drop
        walk_at "R"
        exact ⟨F2, _, _, _, rfl, s1.trans s2, O⟩
    · rintro σ' H' ⟨F1, w1, w2, w3, rfl, s1, O⟩
      walk_at "r"
      exact k _
end
end K7

set_option Elab.async false
set_option linter.all false
set_option maxRecDepth 100000
set_option maxHeartbeats 0
namespace K7
open PySem PySem.Spec PyProof.Rows L2 K7Hd
theorem facts {P : Program} {w : World} {K : PySem.W.Frag} {h : Heap} {mg : Str → Option Value} {f : Addr} (X : K.In h) (G : h.Ns mainGlobals mg) (hfa : mg ("law" : Str) = some (.ref f)) (c : He.SaysD fa fn K) :
    ∃ fd : FuncData, (∀ (s : Shared) (v : Value), BindsTo s fd ⟨[v], []⟩ [("_law_script", v)]) ∧ ∀ base : Heap, K.In base → base.Ns mainGlobals mg → FnOk P w K mg base CX0 33 f fd ["_law_script"] (spLaw K) := by
  obtain ⟨fd_as_tuples, S_as_tuples⟩ := c.def_ 0 (d := d_as_tuples) rfl
  obtain ⟨fd_View_init, S_View_init⟩ := c.def_ 1 (d := d_View_init) rfl
  obtain ⟨fd_View_len, S_View_len⟩ := c.def_ 2 (d := d_View_len) rfl
  obtain ⟨fd_View_iter, S_View_iter⟩ := c.def_ 3 (d := d_View_iter) rfl
  obtain ⟨fd_View_read_time, S_View_read_time⟩ := c.def_ 4 (d := d_View_read_time) rfl
  obtain ⟨fd_View_gaps, S_View_gaps⟩ := c.def_ 5 (d := d_View_gaps) rfl
  obtain ⟨fd_View_held, S_View_held⟩ := c.def_ 6 (d := d_View_held) rfl
  obtain ⟨fd_View_many_at, S_View_many_at⟩ := c.def_ 7 (d := d_View_many_at) rfl
  obtain ⟨fd_Fit_init, S_Fit_init⟩ := c.def_ 8 (d := d_Fit_init) rfl
  obtain ⟨fd_Fit_next_of, S_Fit_next_of⟩ := c.def_ 9 (d := d_Fit_next_of) rfl
  obtain ⟨fd_Fit_aged, S_Fit_aged⟩ := c.def_ 10 (d := d_Fit_aged) rfl
  obtain ⟨fd_Fit_can_be, S_Fit_can_be⟩ := c.def_ 11 (d := d_Fit_can_be) rfl
  obtain ⟨fd_Fit_shared, S_Fit_shared⟩ := c.def_ 12 (d := d_Fit_shared) rfl
  obtain ⟨fd_Fit_choices, S_Fit_choices⟩ := c.def_ 13 (d := d_Fit_choices) rfl
  obtain ⟨fd_Fit_fill, S_Fit_fill⟩ := c.def_ 14 (d := d_Fit_fill) rfl
  obtain ⟨fd_Fit_bounds, S_Fit_bounds⟩ := c.def_ 15 (d := d_Fit_bounds) rfl
  obtain ⟨fd_fits, S_fits⟩ := c.def_ 16 (d := d_fits) rfl
  obtain ⟨fd_can_be, S_can_be⟩ := c.def_ 17 (d := d_can_be) rfl
  obtain ⟨fd_look_can_be, S_look_can_be⟩ := c.def_ 18 (d := d_look_can_be) rfl
  obtain ⟨fd_missed_at, S_missed_at⟩ := c.def_ 19 (d := d_missed_at) rfl
  obtain ⟨fd_missed_places, S_missed_places⟩ := c.def_ 20 (d := d_missed_places) rfl
  obtain ⟨fd_doubtful, S_doubtful⟩ := c.def_ 21 (d := d_doubtful) rfl
  obtain ⟨fd_w_box, S_w_box⟩ := c.def_ 22 (d := d_w_box) rfl
  obtain ⟨fd_w_take, S_w_take⟩ := c.def_ 23 (d := d_w_take) rfl
  obtain ⟨fd_w_of, S_w_of⟩ := c.def_ 24 (d := d_w_of) rfl
  obtain ⟨fd_w_bare, S_w_bare⟩ := c.def_ 25 (d := d_w_bare) rfl
  obtain ⟨fd_w_leave, S_w_leave⟩ := c.def_ 26 (d := d_w_leave) rfl
  obtain ⟨fd_w_swept, S_w_swept⟩ := c.def_ 27 (d := d_w_swept) rfl
  obtain ⟨fd_w_heard, S_w_heard⟩ := c.def_ 28 (d := d_w_heard) rfl
  obtain ⟨fd_w_did, S_w_did⟩ := c.def_ 29 (d := d_w_did) rfl
  obtain ⟨fd_w_run, S_w_run⟩ := c.def_ 30 (d := d_w_run) rfl
  obtain ⟨fd_w_event, S_w_event⟩ := c.def_ 31 (d := d_w_event) rfl
  obtain ⟨fd_w_moved, S_w_moved⟩ := c.def_ 32 (d := d_w_moved) rfl
  obtain ⟨fd_w_table, S_w_table⟩ := c.def_ 33 (d := d_w_table) rfl
  obtain ⟨fd_w_many, S_w_many⟩ := c.def_ 34 (d := d_w_many) rfl
  obtain ⟨fd_w_tale, S_w_tale⟩ := c.def_ 35 (d := d_w_tale) rfl
  obtain ⟨fd_w_drawn_broom, S_w_drawn_broom⟩ := c.def_ 36 (d := d_w_drawn_broom) rfl
  obtain ⟨fd_w_view, S_w_view⟩ := c.def_ 37 (d := d_w_view) rfl
  obtain ⟨fd_w_some, S_w_some⟩ := c.def_ 38 (d := d_w_some) rfl
  obtain ⟨fd_w_gaps, S_w_gaps⟩ := c.def_ 39 (d := d_w_gaps) rfl
  obtain ⟨fd_w_good, S_w_good⟩ := c.def_ 40 (d := d_w_good) rfl
  obtain ⟨fd_w_without, S_w_without⟩ := c.def_ 41 (d := d_w_without) rfl
  obtain ⟨fd_w_right, S_w_right⟩ := c.def_ 42 (d := d_w_right) rfl
  obtain ⟨fd_law, S_law⟩ := c.def_ 43 (d := d_law) rfl
  have gm_as_tuples := He.glo_ok X G (c.fact 0 (f := .glo "as_tuples") rfl)
  have gm_View := He.glo_ok X G (c.fact 1 (f := .glo "View") rfl)
  have gm_Fit := He.glo_ok X G (c.fact 2 (f := .glo "Fit") rfl)
  have gm_fits := He.glo_ok X G (c.fact 3 (f := .glo "fits") rfl)
  have gm_can_be := He.glo_ok X G (c.fact 4 (f := .glo "can_be") rfl)
  have gm_look_can_be := He.glo_ok X G (c.fact 5 (f := .glo "look_can_be") rfl)
  have gm_missed_at := He.glo_ok X G (c.fact 6 (f := .glo "missed_at") rfl)
  have gm_missed_places := He.glo_ok X G (c.fact 7 (f := .glo "missed_places") rfl)
  have gm_doubtful := He.glo_ok X G (c.fact 8 (f := .glo "doubtful") rfl)
  have gm_w_box := He.glo_ok X G (c.fact 9 (f := .glo "_law_box") rfl)
  have gm_w_take := He.glo_ok X G (c.fact 10 (f := .glo "_law_take") rfl)
  have gm_w_of := He.glo_ok X G (c.fact 11 (f := .glo "_law_of") rfl)
  have gm_w_bare := He.glo_ok X G (c.fact 12 (f := .glo "_law_bare") rfl)
  have gm_w_leave := He.glo_ok X G (c.fact 13 (f := .glo "_law_leave") rfl)
  have gm_w_swept := He.glo_ok X G (c.fact 14 (f := .glo "_law_swept") rfl)
  have gm_w_heard := He.glo_ok X G (c.fact 15 (f := .glo "_law_heard") rfl)
  have gm_w_did := He.glo_ok X G (c.fact 16 (f := .glo "_law_did") rfl)
  have gm_w_run := He.glo_ok X G (c.fact 17 (f := .glo "_law_run") rfl)
  have gm_w_event := He.glo_ok X G (c.fact 18 (f := .glo "_law_event") rfl)
  have gm_w_moved := He.glo_ok X G (c.fact 19 (f := .glo "_law_moved") rfl)
  have gm_w_table := He.glo_ok X G (c.fact 20 (f := .glo "_law_table") rfl)
  have gm_w_many := He.glo_ok X G (c.fact 21 (f := .glo "_law_many") rfl)
  have gm_w_tale := He.glo_ok X G (c.fact 22 (f := .glo "_law_tale") rfl)
  have gm_w_drawn_broom := He.glo_ok X G (c.fact 23 (f := .glo "_law_drawn_broom") rfl)
  have gm_w_view := He.glo_ok X G (c.fact 24 (f := .glo "_law_view") rfl)
  have gm_w_some := He.glo_ok X G (c.fact 25 (f := .glo "_law_some") rfl)
  have gm_w_gaps := He.glo_ok X G (c.fact 26 (f := .glo "_law_gaps") rfl)
  have gm_w_good := He.glo_ok X G (c.fact 27 (f := .glo "_law_good") rfl)
  have gm_w_without := He.glo_ok X G (c.fact 28 (f := .glo "_law_without") rfl)
  have gm_w_right := He.glo_ok X G (c.fact 29 (f := .glo "_law_right") rfl)
  have gm_law := He.glo_ok X G (c.fact 30 (f := .glo "law") rfl)
  have T : Blt mg := ⟨He.free_ok X G (c.fact 31 (f := .free "len") rfl), He.free_ok X G (c.fact 32 (f := .free "int") rfl), He.free_ok X G (c.fact 33 (f := .free "abs") rfl), He.free_ok X G (c.fact 34 (f := .free "range") rfl), He.free_ok X G (c.fact 35 (f := .free "enumerate") rfl), He.free_ok X G (c.fact 36 (f := .free "min") rfl), He.free_ok X G (c.fact 37 (f := .free "tuple") rfl), He.free_ok X G (c.fact 38 (f := .free "list") rfl), He.free_ok X G (c.fact 39 (f := .free "dict") rfl), He.free_ok X G (c.fact 40 (f := .free "sorted") rfl), He.free_ok X G (c.fact 41 (f := .free "set") rfl), He.free_ok X G (c.fact 42 (f := .free "isinstance") rfl), He.free_ok X G (c.fact 43 (f := .free "iter") rfl), He.free_ok X G (c.fact 44 (f := .free "any") rfl), He.free_ok X G (c.fact 45 (f := .free "all") rfl)⟩
  have me_len := He.meth_ok (c.fact 51 (f := .meth "View" "__len__") rfl)
  have me_iter := He.meth_ok (c.fact 52 (f := .meth "View" "__iter__") rfl)
  have me_read_time := He.meth_ok (c.fact 53 (f := .meth "View" "read_time") rfl)
  have me_gaps := He.meth_ok (c.fact 54 (f := .meth "View" "gaps") rfl)
  have me_held := He.meth_ok (c.fact 55 (f := .meth "View" "held") rfl)
  have me_many_at := He.meth_ok (c.fact 56 (f := .meth "View" "many_at") rfl)
  have mk_View := He.mkr_ok (c.fact 57 (f := .mkr "View") rfl)
  have me_next_of := He.meth_ok (c.fact 67 (f := .meth "Fit" "next_of") rfl)
  have me_aged := He.meth_ok (c.fact 68 (f := .meth "Fit" "aged") rfl)
  have me_can_be := He.meth_ok (c.fact 69 (f := .meth "Fit" "can_be") rfl)
  have me_shared := He.meth_ok (c.fact 70 (f := .meth "Fit" "shared") rfl)
  have me_choices := He.meth_ok (c.fact 71 (f := .meth "Fit" "choices") rfl)
  have me_fill := He.meth_ok (c.fact 72 (f := .meth "Fit" "fill") rfl)
  have me_bounds := He.meth_ok (c.fact 73 (f := .meth "Fit" "bounds") rfl)
  have mk_Fit := He.mkr_ok (c.fact 74 (f := .mkr "Fit") rfl)
  have va : VA K (He.ga K "View") := ⟨He.cls_ok (c.fact 46 (f := .cls "View") rfl), He.noat_ok (c.fact 47 (f := .noat "View" "own_reads") rfl), He.noat_ok (c.fact 48 (f := .noat "View" "own_times") rfl), He.noat_ok (c.fact 49 (f := .noat "View" "own_got") rfl), He.noat_ok (c.fact 50 (f := .noat "View" "own_rows") rfl)⟩
  have fa : FA K (He.ga K "Fit") := ⟨He.cls_ok (c.fact 58 (f := .cls "Fit") rfl), He.noat_ok (c.fact 59 (f := .noat "Fit" "own_view") rfl), He.noat_ok (c.fact 60 (f := .noat "Fit" "own_hold") rfl), He.noat_ok (c.fact 61 (f := .noat "Fit" "own_known") rfl), He.noat_ok (c.fact 62 (f := .noat "Fit" "own_lows") rfl), He.noat_ok (c.fact 63 (f := .noat "Fit" "own_highs") rfl), He.noat_ok (c.fact 64 (f := .noat "Fit" "own_left") rfl), He.noat_ok (c.fact 65 (f := .noat "Fit" "own_keys") rfl), He.noat_ok (c.fact 66 (f := .noat "Fit" "own_marks") rfl)⟩
  have IV : ItV K (He.ga K "View") (He.ma K (He.ga K "View") "__iter__") := ⟨me_iter.at_, me_iter.fn⟩
  have e := hfa.symm.trans gm_law
  cases e
  have b := FunD.bindsA (ps := ["_law_script"]) S_law fun _ _ _ _ _ _ us hl => match us, hl with | [_], _ => rfl
  refine ⟨fd_law, fun s v => b s [v] rfl, fun base _ _ => ?_⟩
  have G_w_take : Def P w K mg base "_law_take" _ _ _ := ⟨_, gm_w_take, ok_w_take ⟨_, S_w_take⟩ T ⟩
  have G_w_of : Def P w K mg base "_law_of" _ _ _ := ⟨_, gm_w_of, ok_w_of ⟨_, S_w_of⟩ T G_w_take⟩
  have G_w_box : Def P w K mg base "_law_box" _ _ _ := ⟨_, gm_w_box, ok_w_box ⟨_, S_w_box⟩ T ⟩
  have G_w_moved : Def P w K mg base "_law_moved" _ _ _ := ⟨_, gm_w_moved, ok_w_moved ⟨_, S_w_moved⟩ T ⟩
  have G_w_event : Def P w K mg base "_law_event" _ _ _ := ⟨_, gm_w_event, ok_w_event ⟨_, S_w_event⟩ T G_w_take G_w_of⟩
  have G_w_table : Def P w K mg base "_law_table" _ _ _ := ⟨_, gm_w_table, ok_w_table ⟨_, S_w_table⟩ T G_w_event G_w_moved⟩
  have G_w_many : Def P w K mg base "_law_many" _ _ _ := ⟨_, gm_w_many, ok_w_many ⟨_, S_w_many⟩ T ⟩
  have G_w_tale : Def P w K mg base "_law_tale" _ _ _ := ⟨_, gm_w_tale, ok_w_tale ⟨_, S_w_tale⟩ T G_w_table⟩
  have G_w_drawn_broom : Def P w K mg base "_law_drawn_broom" _ _ _ := ⟨_, gm_w_drawn_broom, ok_w_drawn_broom ⟨_, S_w_drawn_broom⟩ T G_w_many G_w_take⟩
  have G_w_bare : Def P w K mg base "_law_bare" _ _ _ := ⟨_, gm_w_bare, ok_w_bare ⟨_, S_w_bare⟩ T ⟩
  have G_w_leave : Def P w K mg base "_law_leave" _ _ _ := ⟨_, gm_w_leave, ok_w_leave ⟨_, S_w_leave⟩ T ⟩
  have G_w_swept : Def P w K mg base "_law_swept" _ _ _ := ⟨_, gm_w_swept, ok_w_swept ⟨_, S_w_swept⟩ T G_w_leave⟩
  have G_w_heard : Def P w K mg base "_law_heard" _ _ _ := ⟨_, gm_w_heard, ok_w_heard ⟨_, S_w_heard⟩ T ⟩
  have G_w_did : Def P w K mg base "_law_did" _ _ _ := ⟨_, gm_w_did, ok_w_did ⟨_, S_w_did⟩ T G_w_heard⟩
  have G_w_run : Def P w K mg base "_law_run" _ _ _ := ⟨_, gm_w_run, ok_w_run ⟨_, S_w_run⟩ T G_w_bare G_w_leave G_w_swept G_w_did⟩
  have G_w_view : Def P w K mg base "_law_view" _ _ _ := ⟨_, gm_w_view, ok_w_view ⟨_, S_w_view⟩ T G_w_run⟩
  have G_w_some : Def P w K mg base "_law_some" _ _ _ := ⟨_, gm_w_some, ok_w_some ⟨_, S_w_some⟩ T G_w_take G_w_of G_w_tale G_w_drawn_broom G_w_view⟩
  have G_w_gaps : Def P w K mg base "_law_gaps" _ _ _ := ⟨_, gm_w_gaps, ok_w_gaps ⟨_, S_w_gaps⟩ T ⟩
  have G_w_good : Def P w K mg base "_law_good" _ _ _ := ⟨_, gm_w_good, ok_w_good ⟨_, S_w_good⟩ T G_w_some G_w_gaps⟩
  have G_w_without : Def P w K mg base "_law_without" _ _ _ := ⟨_, gm_w_without, ok_w_without ⟨_, S_w_without⟩ T ⟩
  have G_as_tuples : Def P w K mg base "as_tuples" ["thing"] 5 (spAs K 5) := ok_as_tuples ⟨_, S_as_tuples⟩ gm_as_tuples T 5
  have FN_iter : FnN P w K mg base (He.ma K (He.ga K "View") "__iter__") _ _ _ := ok_View_iter ⟨_, S_View_iter⟩ T
  have M_len : Mtd P w K mg base (He.ga K "View") "__len__" _ _ _ := ⟨va.cls, _, me_len, ok_View_len ⟨_, S_View_len⟩ T va⟩
  have M_read_time : Mtd P w K mg base (He.ga K "View") "read_time" _ _ _ := ⟨va.cls, _, me_read_time, ok_View_read_time ⟨_, S_View_read_time⟩ T va⟩
  have M_gaps : Mtd P w K mg base (He.ga K "View") "gaps" _ _ _ := ⟨va.cls, _, me_gaps, ok_View_gaps ⟨_, S_View_gaps⟩ T va M_len⟩
  have M_held : Mtd P w K mg base (He.ga K "View") "held" _ _ _ := ⟨va.cls, _, me_held, ok_View_held ⟨_, S_View_held⟩ T va IV FN_iter⟩
  have M_many_at : Mtd P w K mg base (He.ga K "View") "many_at" _ _ _ := ⟨va.cls, _, me_many_at, ok_View_many_at ⟨_, S_View_many_at⟩ T va⟩
  have G_View : Mak P w K mg base "View" (He.ga K "View") _ _ _ := ⟨gm_View, _, mk_View, ok_View_init ⟨_, S_View_init⟩ T va G_as_tuples⟩
  have M_next_of : Mtd P w K mg base (He.ga K "Fit") "next_of" _ _ _ := ⟨fa.cls, _, me_next_of, ok_Fit_next_of ⟨_, S_Fit_next_of⟩ T fa⟩
  have M_aged : Mtd P w K mg base (He.ga K "Fit") "aged" _ _ _ := ⟨fa.cls, _, me_aged, ok_Fit_aged ⟨_, S_Fit_aged⟩ T fa M_read_time⟩
  have M_can_be : Mtd P w K mg base (He.ga K "Fit") "can_be" _ _ _ := ⟨fa.cls, _, me_can_be, ok_Fit_can_be ⟨_, S_Fit_can_be⟩ T fa M_many_at⟩
  have M_shared : Mtd P w K mg base (He.ga K "Fit") "shared" _ _ _ := ⟨fa.cls, _, me_shared, ok_Fit_shared ⟨_, S_Fit_shared⟩ T fa⟩
  have M_choices : Mtd P w K mg base (He.ga K "Fit") "choices" _ _ _ := ⟨fa.cls, _, me_choices, ok_Fit_choices ⟨_, S_Fit_choices⟩ T fa va IV FN_iter M_len M_read_time M_shared M_aged⟩
  have G_Fit : Mak P w K mg base "Fit" (He.ga K "Fit") _ _ _ := ⟨gm_Fit, _, mk_Fit, ok_Fit_init ⟨_, S_Fit_init⟩ T fa va IV FN_iter M_read_time M_gaps M_next_of M_aged⟩
  have M_fill : Mtd P w K mg base (He.ga K "Fit") "fill" ["self", "at", "lows", "highs"] 26 (spFill (He.ga K "Fit") (He.ga K "View") 21) := ok_Fit_fill ⟨_, S_Fit_fill⟩ me_fill T fa va M_can_be M_choices 21
  have M_bounds : Mtd P w K mg base (He.ga K "Fit") "bounds" _ _ _ := ⟨fa.cls, _, me_bounds, ok_Fit_bounds ⟨_, S_Fit_bounds⟩ T fa va M_fill⟩
  have G_fits : Def P w K mg base "fits" _ _ _ := ⟨_, gm_fits, ok_fits ⟨_, S_fits⟩ T fa va M_many_at M_bounds G_Fit⟩
  have G_can_be : Def P w K mg base "can_be" _ _ _ := ⟨_, gm_can_be, ok_can_be ⟨_, S_can_be⟩ T va G_View G_fits⟩
  have G_look_can_be : Def P w K mg base "look_can_be" _ _ _ := ⟨_, gm_look_can_be, ok_look_can_be ⟨_, S_look_can_be⟩ T va G_View G_can_be⟩
  have G_missed_at : Def P w K mg base "missed_at" _ _ _ := ⟨_, gm_missed_at, ok_missed_at ⟨_, S_missed_at⟩ T va M_held M_gaps G_fits⟩
  have G_missed_places : Def P w K mg base "missed_places" _ _ _ := ⟨_, gm_missed_places, ok_missed_places ⟨_, S_missed_places⟩ T va G_look_can_be G_missed_at⟩
  have G_doubtful : Def P w K mg base "doubtful" _ _ _ := ⟨_, gm_doubtful, ok_doubtful ⟨_, S_doubtful⟩ T va M_held G_look_can_be G_missed_at⟩
  have G_w_right : Def P w K mg base "_law_right" _ _ _ := ⟨_, gm_w_right, ok_w_right ⟨_, S_w_right⟩ T G_w_good G_w_without G_can_be G_doubtful G_missed_places⟩
  exact ok_law S_law T G_w_box G_w_right
end K7
open PySem PySem.W PySem.Calls PyProof.Rows
theorem PySem.Challenge.cw_missedmarks_k77_whole_a_greater_hold_holds : PySem.Challenge.rw_missedmarks_k77_whole_a_greater_hold.Holds := by
  w_on; o_law
  refine HandSHeadRun.head_any (r := OpenLaw.row PySem.Challenge.rw_missedmarks_k77_whole_a_greater_hold) (q := view (OpenLaw.row PySem.Challenge.rw_missedmarks_k77_whole_a_greater_hold).prog [38]) (H := K7Hd.hk) (ob := K7Hd.ob) (M := 30000) (loose := K7Hd.names) (d := HandSHeadRun.topDef (OpenLaw.row PySem.Challenge.rw_missedmarks_k77_whole_a_greater_hold).prog 38) (kwd := []) K7Hd.ob_eq
    (by kernel_rfl) (fun s => by kernel_rfl) K7Hd.run (by kernel_rfl) (by kernel_rfl) (by kernel_rfl) (by rfl) (by first | assumption | decide +kernel) (by decide +kernel) ⟨rfl, rfl, rfl, rfl, rfl, by decide +kernel⟩ ?hw ?hc
  case hw => w_witness2
  case hc =>
    refine L2.walk_ofE (l := PySem.Challenge.rw_missedmarks_k77_whole_a_greater_hold) (n := 63) (k := 33) (x := "_law_script") (CX := L2.CX0) rfl (by decide) (by kernel_rfl) ⟨rfl, by decide, by decide⟩ ?F (fun _ _ _ _ z => z)
    intro w mg fa h Y G hmg0
    obtain ⟨K, KX, c⟩ := Y
    have hmg : mg ("law" : PySem.Str) = some (.ref fa) := by
      have e : (HandSHeadRun.topDef (OpenLaw.row PySem.Challenge.rw_missedmarks_k77_whole_a_greater_hold).prog 38).name = ("law" : PySem.Str) := by kernel_rfl
      rw [← e]
      exact hmg0
    obtain ⟨fd, hb, hF⟩ := K7.facts (P := (PySem.Challenge.rw_missedmarks_k77_whole_a_greater_hold).prog) (w := w) KX G hmg c
    exact ⟨K, fd, K7.spLaw K, KX, hb, fun H a ns hl _ hS => ⟨a, ns, rfl, hS, fun _ => rfl⟩, hF⟩

